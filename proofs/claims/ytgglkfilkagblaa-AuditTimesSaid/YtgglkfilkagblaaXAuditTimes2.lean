/- Part 3 of 13 of what the row of AuditTimes stands on: contracts over the given program's functions, the plain law, the row; no condition beyond those that each theorem states. -/
import Derived.Test.YtgglkfilkagblaaXAuditTimes1
import Derived.Test.YtgglkfilkagblaaProg
import Derived.Shelf.Abstract
import Derived.Laws.EntriesVeiled
import Derived.WalkSpells
import Derived.Test.YtgglkfilkagblaaRows
import Derived.Deep.Slices
import Derived.ChangeArms
import Derived.DataReads
import Derived.ProofKit
import Derived.OpenShut
import Derived.ChangeOld
import Derived.SizedLaws
section
namespace Go.Proofs.Ytgglkfilkagblaa
open Go.RowKit Go.Proofs.YtgglkfilkagblaaW.PrintWords Go.Proofs.YtgglkfilkagblaaW.PrintLast Go.Proofs.YtgglkfilkagblaaW.PrintMore
def Up_ (w W : World) : Prop:=Below w.heap.size w W
instance (priority:=low) up0_ (w : World) : Nonempty (Up_ w w):=⟨Below.refl _ _⟩
instance upA_ (w W : World) (o : Obj) [h : Nonempty (Up_ w W)] : Nonempty (Up_ w (W.alloc o)):=h.elim fun h => ⟨a_g h o⟩
instance upN_ (w W : World) (n : Nat) [h : Nonempty (Up_ w W)] : Nonempty (Up_ w (W.drewN n)):=h.elim fun h => ⟨a_e h n⟩
instance upD_ (w W : World) [h : Nonempty (Up_ w W)] : Nonempty (Up_ w W.drew):=h.elim fun h => ⟨e_N h⟩
theorem bup_ {w W : World} {g : Nat} {o : Obj} (h : w.heap[g]? = some o) [u : Nonempty (Up_ w W)] : W.heap[g]? = some o:=u.elim fun b => a_i h b
theorem rup_ {α : Type} {d : Kd α} {e : Nat} {w W : World} {base : Nat} {ok : Nat → Prop} {v : Value} {xs : List α} (h : d.R e w base ok v xs) [u : Nonempty (Up_ w W)] : d.R e W base ok v xs:=u.elim fun b => Kd.b_U h b
theorem lup_ {w0 w W : World} (h : Below w0.heap.size w0 w) [u : Nonempty (Up_ w W)] : Below w0.heap.size w0 W:=u.elim fun b => a_o h b
abbrev T_ : Bool:=true
abbrev F_ : Bool:=false
theorem sa_ {α : Type} (l : List α) (i : Nat) (a : α) : l.toArray.setIfInBounds i a = (l.set i a).toArray:=List.setIfInBounds_toArray l i a
theorem sb_ {α : Type} (x : α) (l : List α) (a : α) : (x :: l).set 0 a = a :: l:=rfl
theorem sc_ {α : Type} (x : α) (l : List α) (i : Nat) (a : α) : (x :: l).set (i + 1) a = x :: l.set i a:=rfl
abbrev Z0_ : Array Bool:=#[F_,F_,F_,F_,F_,F_,F_,F_,F_,F_,F_,F_,F_,F_,F_,F_,F_,F_,F_,F_,F_,F_,F_,F_,F_,F_,F_,F_,F_,F_,F_,F_,F_,F_,F_,F_,F_,F_]
abbrev Z1_ : Array Bool:=#[F_,F_,F_,F_,F_,F_,F_,F_,F_,F_,F_,F_,F_,F_,F_,F_,F_,F_,F_,F_,F_,F_,F_,F_,F_,F_,F_,F_,F_,F_,F_,F_,F_,F_,F_,F_,F_]
abbrev Z2_ : Array Bool:=#[F_,F_,F_,F_,F_,F_,F_,F_,F_,F_,F_,F_,F_,F_,F_,F_,F_,F_,F_,F_,F_,F_,F_,F_,F_,F_]
abbrev Z3_ : Array Bool:=#[F_,F_,F_,F_,F_,F_,F_,F_,F_,F_,F_,F_,F_,F_,F_,F_,F_,F_,F_]
abbrev Z4_ : Array Bool:=#[T_,F_,F_,F_,F_,F_,F_,F_,F_,F_,F_,F_,F_,F_,F_,F_,F_,F_,F_,F_,F_,F_,F_,F_,F_,F_,F_,F_,F_,F_,F_,F_,F_,F_,F_,F_,F_,F_]
abbrev Z5_ : Array Bool:=#[T_,F_,F_,F_,F_,F_,F_,F_,F_,F_,F_,F_,F_,F_,F_,F_,F_,F_,F_,F_,F_,F_,F_,F_,F_,F_,F_,F_,F_,F_,F_,F_,F_,F_,F_,F_,F_]
abbrev Z6_ : Array Bool:=#[T_,F_,F_,F_,F_,F_,F_,F_,F_,F_,F_,F_,F_,F_,F_,F_,F_,F_,F_,F_,F_,F_,F_,F_,F_,F_]
abbrev Z7_ : Array Bool:=#[T_,F_,F_,F_,F_,F_,F_,F_,F_,F_,F_,F_,F_,F_,F_,F_,F_,F_,F_]
abbrev Z8_ : Array Bool:=#[T_,F_,T_,F_,F_,F_,F_,F_,F_,F_,F_,F_,F_,F_,F_,F_,F_,F_,F_,F_,F_,F_,F_,F_,F_,F_,F_,F_,F_,F_,F_,F_,F_,F_,F_,F_,F_,F_]
abbrev Z9_ : Array Bool:=#[T_,T_,F_,F_,F_,F_,F_,F_,F_,F_,F_,F_,F_,F_,F_,F_,F_,F_,F_,F_,F_,F_,F_,F_,F_,F_,F_,F_,F_,F_,F_,F_,F_,F_,F_,F_,F_]
abbrev Z10_ : Array Bool:=#[T_,T_,F_,F_,F_,F_,F_,F_,F_,F_,F_,F_,F_,F_,F_,F_,F_,F_,F_,F_,F_,F_,F_,F_,F_,F_]
abbrev Z11_ : Array Bool:=#[T_,T_,F_,F_,F_,F_,F_,F_,F_,F_,F_,F_,F_,F_,F_,F_,F_,F_,F_]
abbrev Z12_ : Array Bool:=#[T_,T_,T_,F_,F_,F_,F_,F_,F_,F_,F_,F_,F_,F_,F_,F_,F_,F_,F_,F_,F_,F_,F_,F_,F_,F_,F_,F_,F_,F_,F_,F_,F_,F_,F_,F_,F_,F_]
abbrev Z13_ : Array Bool:=#[T_,T_,T_,F_,F_,F_,F_,F_,F_,F_,F_,F_,F_,F_,F_,F_,F_,F_,F_,F_,F_,F_,F_,F_,F_,F_,F_,F_,F_,F_,F_,F_,F_,F_,F_,F_,F_]
abbrev Z14_ : Array Bool:=#[T_,T_,T_,F_,F_,F_,F_,F_,F_,F_,F_,F_,F_,F_,F_,F_,F_,F_,F_,F_,F_,F_,F_,F_,F_,F_]
abbrev Z15_ : Array Bool:=#[T_,T_,T_,F_,F_,F_,F_,F_,F_,F_,F_,F_,F_,F_,F_,F_,F_,F_,F_]
abbrev Z16_ : Array Bool:=#[T_,T_,T_,T_,F_,F_,F_,F_,F_,F_,F_,F_,F_,F_,F_,F_,F_,F_,F_,F_,F_,F_,F_,F_,F_,F_,F_,F_,F_,F_,F_,F_,F_,F_,F_,F_,F_,F_]
abbrev Z17_ : Array Bool:=#[T_,T_,T_,T_,F_,F_,F_,F_,F_,F_,F_,F_,F_,F_,F_,F_,F_,F_,F_,F_,F_,F_,F_,F_,F_,F_,F_,F_,F_,F_,F_,F_,F_,F_,F_,F_,F_]
abbrev Z18_ : Array Bool:=#[T_,T_,T_,T_,F_,F_,F_,F_,F_,F_,F_,F_,F_,F_,F_,F_,F_,F_,F_,F_,F_,F_,F_,F_,F_,F_]
abbrev Z19_ : Array Bool:=#[T_,T_,T_,T_,F_,F_,F_,F_,F_,F_,F_,F_,F_,F_,F_,F_,F_,F_,F_]
abbrev Z20_ : Array Bool:=#[T_,T_,T_,T_,T_,F_,F_,F_,F_,F_,F_,F_,F_,F_,F_,F_,F_,F_,F_,F_,F_,F_,F_,F_,F_,F_,F_,F_,F_,F_,F_,F_,F_,F_,F_,F_,F_,F_]
abbrev Z21_ : Array Bool:=#[T_,T_,T_,T_,T_,F_,F_,F_,F_,F_,F_,F_,F_,F_,F_,F_,F_,F_,F_,F_,F_,F_,F_,F_,F_,F_,F_,F_,F_,F_,F_,F_,F_,F_,F_,F_,F_]
abbrev Z22_ : Array Bool:=#[T_,T_,T_,T_,T_,F_,F_,F_,F_,F_,F_,F_,F_,F_,F_,F_,F_,F_,F_,F_,F_,F_,F_,F_,F_,F_]
abbrev Z23_ : Array Bool:=#[T_,T_,T_,T_,T_,F_,F_,F_,F_,F_,F_,F_,F_,F_,F_,F_,F_,F_,F_]
abbrev Z24_ : Array Bool:=#[T_,T_,T_,T_,T_,F_,T_,F_,F_,F_,F_,F_,F_,F_,F_,F_,F_,F_,F_,F_,F_,F_,F_,F_,F_,F_]
abbrev Z25_ : Array Bool:=#[T_,T_,T_,T_,T_,T_,F_,F_,F_,F_,F_,F_,F_,F_,F_,F_,F_,F_,F_,F_,F_,F_,F_,F_,F_,F_,F_,F_,F_,F_,F_,F_,F_,F_,F_,F_,F_,F_]
abbrev Z26_ : Array Bool:=#[T_,T_,T_,T_,T_,T_,F_,F_,F_,F_,F_,F_,F_,F_,F_,F_,F_,F_,F_,F_,F_,F_,F_,F_,F_,F_,F_,F_,F_,F_,F_,F_,F_,F_,F_,F_,F_]
abbrev Z27_ : Array Bool:=#[T_,T_,T_,T_,T_,T_,F_,F_,F_,F_,F_,F_,F_,F_,F_,F_,F_,F_,F_]
abbrev Z28_ : Array Bool:=#[T_,T_,T_,T_,T_,T_,T_,F_,F_,F_,F_,F_,F_,F_,F_,F_,F_,F_,F_,F_,F_,F_,F_,F_,F_,F_,F_,F_,F_,F_,F_,F_,F_,F_,F_,F_,F_,F_]
abbrev Z29_ : Array Bool:=#[T_,T_,T_,T_,T_,T_,T_,F_,F_,F_,F_,F_,F_,F_,F_,F_,F_,F_,F_,F_,F_,F_,F_,F_,F_,F_,F_,F_,F_,F_,F_,F_,F_,F_,F_,F_,F_]
abbrev Z30_ : Array Bool:=#[T_,T_,T_,T_,T_,T_,T_,F_,F_,F_,F_,F_,F_,F_,F_,F_,F_,F_,F_,F_,F_,F_,F_,F_,F_,F_]
abbrev Z31_ : Array Bool:=#[T_,T_,T_,T_,T_,T_,T_,F_,F_,F_,F_,F_,F_,F_,F_,F_,F_,F_,F_]
abbrev Z32_ : Array Bool:=#[T_,T_,T_,T_,T_,T_,T_,T_,F_,F_,F_,F_,F_,F_,F_,F_,F_,F_,F_,F_,F_,F_,F_,F_,F_,F_,F_,F_,F_,F_,F_,F_,F_,F_,F_,F_,F_,F_]
abbrev Z33_ : Array Bool:=#[T_,T_,T_,T_,T_,T_,T_,T_,F_,F_,F_,F_,F_,F_,F_,F_,F_,F_,F_,F_,F_,F_,F_,F_,F_,F_,F_,F_,F_,F_,F_,F_,F_,F_,F_,F_,F_]
abbrev Z34_ : Array Bool:=#[T_,T_,T_,T_,T_,T_,T_,T_,F_,F_,F_,F_,F_,F_,F_,F_,F_,F_,F_,F_,F_,F_,F_,F_,F_,F_]
abbrev Z35_ : Array Bool:=#[T_,T_,T_,T_,T_,T_,T_,T_,F_,F_,F_,F_,F_,F_,F_,F_,F_,F_,F_]
abbrev Z36_ : Array Bool:=#[T_,T_,T_,T_,T_,T_,T_,T_,F_,T_,F_,F_,F_,F_,F_,F_,F_,F_,F_,F_,F_,F_,F_,F_,F_,F_,F_,F_,F_,F_,F_,F_,F_,F_,F_,F_,F_]
abbrev Z37_ : Array Bool:=#[T_,T_,T_,T_,T_,T_,T_,T_,F_,T_,T_,F_,F_,F_,F_,F_,F_,F_,F_,F_,F_,F_,F_,F_,F_,F_,F_,F_,F_,F_,F_,F_,F_,F_,F_,F_,F_]
abbrev Z38_ : Array Bool:=#[T_,T_,T_,T_,T_,T_,T_,T_,F_,T_,T_,F_,F_,F_,T_,F_,F_,F_,F_,F_,F_,F_,F_,F_,F_,F_,F_,F_,F_,F_,F_,F_,F_,F_,F_,F_,F_]
abbrev Z39_ : Array Bool:=#[T_,T_,T_,T_,T_,T_,T_,T_,T_,F_,F_,F_,F_,F_,F_,F_,F_,F_,F_,F_,F_,F_,F_,F_,F_,F_,F_,F_,F_,F_,F_,F_,F_,F_,F_,F_,F_,F_]
abbrev Z40_ : Array Bool:=#[T_,T_,T_,T_,T_,T_,T_,T_,T_,F_,F_,F_,F_,F_,F_,F_,F_,F_,F_,F_,F_,F_,F_,F_,F_,F_,F_,F_,F_,F_,F_,F_,F_,F_,F_,F_,F_]
abbrev Z41_ : Array Bool:=#[T_,T_,T_,T_,T_,T_,T_,T_,T_,F_,F_,F_,F_,F_,F_,F_,F_,F_,F_,F_,F_,F_,F_,F_,F_,F_]
abbrev Z42_ : Array Bool:=#[T_,T_,T_,T_,T_,T_,T_,T_,T_,F_,F_,F_,F_,F_,F_,F_,F_,F_,F_]
abbrev Z43_ : Array Bool:=#[T_,T_,T_,T_,T_,T_,T_,T_,T_,F_,T_,F_,F_,F_,F_,F_,F_,F_,F_,F_,F_,F_,F_,F_,F_,F_,F_,F_,F_,F_,F_,F_,F_,F_,F_,F_,F_,F_]
abbrev Z44_ : Array Bool:=#[T_,T_,T_,T_,T_,T_,T_,T_,T_,F_,T_,F_,F_,F_,T_,F_,F_,F_,F_,F_,F_,F_,F_,F_,F_,F_,F_,F_,F_,F_,F_,F_,F_,F_,F_,F_,F_,F_]
abbrev Z45_ : Array Bool:=#[T_,T_,T_,T_,T_,T_,T_,T_,T_,T_,F_,F_,F_,F_,F_,F_,F_,F_,F_,F_,F_,F_,F_,F_,F_,F_,F_,F_,F_,F_,F_,F_,F_,F_,F_,F_,F_]
abbrev Z46_ : Array Bool:=#[T_,T_,T_,T_,T_,T_,T_,T_,T_,T_,F_,F_,F_,F_,F_,F_,F_,F_,F_,F_,F_,F_,F_,F_,F_,F_]
abbrev Z47_ : Array Bool:=#[T_,T_,T_,T_,T_,T_,T_,T_,T_,T_,F_,F_,F_,F_,F_,F_,F_,F_,F_]
abbrev Z48_ : Array Bool:=#[T_,T_,T_,T_,T_,T_,T_,T_,T_,T_,T_,F_,F_,F_,F_,F_,F_,F_,F_,F_,F_,F_,F_,F_,F_,F_,F_,F_,F_,F_,F_,F_,F_,F_,F_,F_,F_]
abbrev Z49_ : Array Bool:=#[T_,T_,T_,T_,T_,T_,T_,T_,T_,T_,T_,F_,F_,F_,F_,F_,F_,F_,F_,F_,F_,F_,F_,F_,F_,F_]
abbrev Z50_ : Array Bool:=#[T_,T_,T_,T_,T_,T_,T_,T_,T_,T_,T_,F_,F_,F_,F_,F_,F_,F_,F_]
abbrev Z51_ : Array Bool:=#[T_,T_,T_,T_,T_,T_,T_,T_,T_,T_,T_,F_,F_,F_,T_,F_,F_,F_,F_,F_,F_,F_,F_,F_,F_,F_,F_,F_,F_,F_,F_,F_,F_,F_,F_,F_,F_,F_]
abbrev Z52_ : Array Bool:=#[T_,T_,T_,T_,T_,T_,T_,T_,T_,T_,T_,F_,F_,F_,T_,F_,F_,F_,F_,F_,F_,F_,F_,F_,F_,F_,F_,F_,F_,F_,F_,F_,F_,F_,F_,F_,F_]
abbrev Z53_ : Array Bool:=#[T_,T_,T_,T_,T_,T_,T_,T_,T_,T_,T_,T_,F_,F_,F_,F_,F_,F_,F_,F_,F_,F_,F_,F_,F_,F_,F_,F_,F_,F_,F_,F_,F_,F_,F_,F_,F_]
abbrev Z54_ : Array Bool:=#[T_,T_,T_,T_,T_,T_,T_,T_,T_,T_,T_,T_,F_,F_,F_,F_,F_,F_,F_,F_,F_,F_,F_,F_,F_,F_]
abbrev Z55_ : Array Bool:=#[T_,T_,T_,T_,T_,T_,T_,T_,T_,T_,T_,T_,F_,F_,F_,F_,F_,F_,F_]
abbrev Z56_ : Array Bool:=#[T_,T_,T_,T_,T_,T_,T_,T_,T_,T_,T_,T_,F_,F_,T_,F_,F_,F_,F_,F_,F_,F_,F_,F_,F_,F_,F_,F_,F_,F_,F_,F_,F_,F_,F_,F_,F_,F_]
abbrev Z57_ : Array Bool:=#[T_,T_,T_,T_,T_,T_,T_,T_,T_,T_,T_,T_,F_,F_,T_,F_,F_,F_,F_,F_,F_,F_,F_,F_,F_,F_,F_,F_,F_,F_,F_,F_,F_,F_,F_,F_,F_]
abbrev Z58_ : Array Bool:=#[T_,T_,T_,T_,T_,T_,T_,T_,T_,T_,T_,T_,T_,F_,F_,F_,F_,F_,F_,F_,F_,F_,F_,F_,F_,F_,F_,F_,F_,F_,F_,F_,F_,F_,F_,F_,F_]
abbrev Z59_ : Array Bool:=#[T_,T_,T_,T_,T_,T_,T_,T_,T_,T_,T_,T_,T_,F_,F_,F_,F_,F_,F_,F_,F_,F_,F_,F_,F_,F_]
abbrev Z60_ : Array Bool:=#[T_,T_,T_,T_,T_,T_,T_,T_,T_,T_,T_,T_,T_,F_,F_,F_,F_,F_,F_]
abbrev Z61_ : Array Bool:=#[T_,T_,T_,T_,T_,T_,T_,T_,T_,T_,T_,T_,T_,F_,T_,F_,F_,F_,F_,F_,F_,F_,F_,F_,F_,F_,F_,F_,F_,F_,F_,F_,F_,F_,F_,F_,F_,F_]
abbrev Z62_ : Array Bool:=#[T_,T_,T_,T_,T_,T_,T_,T_,T_,T_,T_,T_,T_,F_,T_,F_,F_,F_,F_,F_,F_,F_,F_,F_,F_,F_,F_,F_,F_,F_,F_,F_,F_,F_,F_,F_,F_]
abbrev Z63_ : Array Bool:=#[T_,T_,T_,T_,T_,T_,T_,T_,T_,T_,T_,T_,T_,T_,F_,F_,F_,F_,F_,F_,F_,F_,F_,F_,F_,F_,F_,F_,F_,F_,F_,F_,F_,F_,F_,F_,F_]
abbrev Z64_ : Array Bool:=#[T_,T_,T_,T_,T_,T_,T_,T_,T_,T_,T_,T_,T_,T_,F_,F_,F_,F_,F_,F_,F_,F_,F_,F_,F_,F_]
abbrev Z65_ : Array Bool:=#[T_,T_,T_,T_,T_,T_,T_,T_,T_,T_,T_,T_,T_,T_,F_,F_,F_,F_,F_]
abbrev Z66_ : Array Bool:=#[T_,T_,T_,T_,T_,T_,T_,T_,T_,T_,T_,T_,T_,T_,T_,F_,F_,F_,F_,F_,F_,F_,F_,F_,F_,F_,F_,F_,F_,F_,F_,F_,F_,F_,F_,F_,F_,F_]
abbrev Z67_ : Array Bool:=#[T_,T_,T_,T_,T_,T_,T_,T_,T_,T_,T_,T_,T_,T_,T_,F_,F_,F_,F_,F_,F_,F_,F_,F_,F_,F_,F_,F_,F_,F_,F_,F_,F_,F_,F_,F_,F_]
abbrev Z68_ : Array Bool:=#[T_,T_,T_,T_,T_,T_,T_,T_,T_,T_,T_,T_,T_,T_,T_,F_,F_,F_,F_,F_,F_,F_,F_,F_,F_,F_]
abbrev Z69_ : Array Bool:=#[T_,T_,T_,T_,T_,T_,T_,T_,T_,T_,T_,T_,T_,T_,T_,F_,F_,F_,F_]
abbrev Z70_ : Array Bool:=#[T_,T_,T_,T_,T_,T_,T_,T_,T_,T_,T_,T_,T_,T_,T_,F_,T_,F_,F_,F_,F_,F_,F_,F_,F_,F_]
abbrev Z71_ : Array Bool:=#[T_,T_,T_,T_,T_,T_,T_,T_,T_,T_,T_,T_,T_,T_,T_,F_,T_,T_,F_,F_,F_,F_,F_,F_,F_,F_]
abbrev Z72_ : Array Bool:=#[T_,T_,T_,T_,T_,T_,T_,T_,T_,T_,T_,T_,T_,T_,T_,F_,T_,T_,F_,F_,F_,T_,F_,F_,F_,F_]
abbrev Z73_ : Array Bool:=#[T_,T_,T_,T_,T_,T_,T_,T_,T_,T_,T_,T_,T_,T_,T_,T_,F_,F_,F_,F_,F_,F_,F_,F_,F_,F_,F_,F_,F_,F_,F_,F_,F_,F_,F_,F_,F_,F_]
abbrev Z74_ : Array Bool:=#[T_,T_,T_,T_,T_,T_,T_,T_,T_,T_,T_,T_,T_,T_,T_,T_,F_,F_,F_,F_,F_,F_,F_,F_,F_,F_,F_,F_,F_,F_,F_,F_,F_,F_,F_,F_,F_]
abbrev Z75_ : Array Bool:=#[T_,T_,T_,T_,T_,T_,T_,T_,T_,T_,T_,T_,T_,T_,T_,T_,F_,F_,F_,F_,F_,F_,F_,F_,F_,F_]
abbrev Z76_ : Array Bool:=#[T_,T_,T_,T_,T_,T_,T_,T_,T_,T_,T_,T_,T_,T_,T_,T_,F_,F_,F_]
abbrev Z77_ : Array Bool:=#[T_,T_,T_,T_,T_,T_,T_,T_,T_,T_,T_,T_,T_,T_,T_,T_,T_,F_,F_,F_,F_,F_,F_,F_,F_,F_,F_,F_,F_,F_,F_,F_,F_,F_,F_,F_,F_,F_]
abbrev Z78_ : Array Bool:=#[T_,T_,T_,T_,T_,T_,T_,T_,T_,T_,T_,T_,T_,T_,T_,T_,T_,F_,F_,F_,F_,F_,F_,F_,F_,F_,F_,F_,F_,F_,F_,F_,F_,F_,F_,F_,F_]
abbrev Z79_ : Array Bool:=#[T_,T_,T_,T_,T_,T_,T_,T_,T_,T_,T_,T_,T_,T_,T_,T_,T_,F_,F_,F_,F_,F_,F_,F_,F_,F_]
abbrev Z80_ : Array Bool:=#[T_,T_,T_,T_,T_,T_,T_,T_,T_,T_,T_,T_,T_,T_,T_,T_,T_,F_,F_]
abbrev Z81_ : Array Bool:=#[T_,T_,T_,T_,T_,T_,T_,T_,T_,T_,T_,T_,T_,T_,T_,T_,T_,T_,F_,F_,F_,F_,F_,F_,F_,F_,F_,F_,F_,F_,F_,F_,F_,F_,F_,F_,F_,F_]
abbrev Z82_ : Array Bool:=#[T_,T_,T_,T_,T_,T_,T_,T_,T_,T_,T_,T_,T_,T_,T_,T_,T_,T_,F_,F_,F_,F_,F_,F_,F_,F_,F_,F_,F_,F_,F_,F_,F_,F_,F_,F_,F_]
abbrev Z83_ : Array Bool:=#[T_,T_,T_,T_,T_,T_,T_,T_,T_,T_,T_,T_,T_,T_,T_,T_,T_,T_,F_,F_,F_,F_,F_,F_,F_,F_]
abbrev Z84_ : Array Bool:=#[T_,T_,T_,T_,T_,T_,T_,T_,T_,T_,T_,T_,T_,T_,T_,T_,T_,T_,F_,F_,F_,T_,F_,F_,F_,F_]
abbrev Z85_ : Array Bool:=#[T_,T_,T_,T_,T_,T_,T_,T_,T_,T_,T_,T_,T_,T_,T_,T_,T_,T_,F_]
abbrev Z86_ : Array Bool:=#[T_,T_,T_,T_,T_,T_,T_,T_,T_,T_,T_,T_,T_,T_,T_,T_,T_,T_,T_,F_,F_,F_,F_,F_,F_,F_,F_,F_,F_,F_,F_,F_,F_,F_,F_,F_,F_,F_]
abbrev Z87_ : Array Bool:=#[T_,T_,T_,T_,T_,T_,T_,T_,T_,T_,T_,T_,T_,T_,T_,T_,T_,T_,T_,F_,F_,F_,F_,F_,F_,F_,F_,F_,F_,F_,F_,F_,F_,F_,F_,F_,F_]
abbrev Z88_ : Array Bool:=#[T_,T_,T_,T_,T_,T_,T_,T_,T_,T_,T_,T_,T_,T_,T_,T_,T_,T_,T_,F_,F_,F_,F_,F_,F_,F_]
abbrev Z89_ : Array Bool:=#[T_,T_,T_,T_,T_,T_,T_,T_,T_,T_,T_,T_,T_,T_,T_,T_,T_,T_,T_,F_,F_,T_,F_,F_,F_,F_]
abbrev Z90_ : Array Bool:=#[T_,T_,T_,T_,T_,T_,T_,T_,T_,T_,T_,T_,T_,T_,T_,T_,T_,T_,T_,T_,F_,F_,F_,F_,F_,F_,F_,F_,F_,F_,F_,F_,F_,F_,F_,F_,F_,F_]
abbrev Z91_ : Array Bool:=#[T_,T_,T_,T_,T_,T_,T_,T_,T_,T_,T_,T_,T_,T_,T_,T_,T_,T_,T_,T_,F_,F_,F_,F_,F_,F_,F_,F_,F_,F_,F_,F_,F_,F_,F_,F_,F_]
abbrev Z92_ : Array Bool:=#[T_,T_,T_,T_,T_,T_,T_,T_,T_,T_,T_,T_,T_,T_,T_,T_,T_,T_,T_,T_,F_,F_,F_,F_,F_,F_]
abbrev Z93_ : Array Bool:=#[T_,T_,T_,T_,T_,T_,T_,T_,T_,T_,T_,T_,T_,T_,T_,T_,T_,T_,T_,T_,F_,T_,F_,F_,F_,F_]
abbrev Z94_ : Array Bool:=#[T_,T_,T_,T_,T_,T_,T_,T_,T_,T_,T_,T_,T_,T_,T_,T_,T_,T_,T_,T_,T_,F_,F_,F_,F_,F_,F_,F_,F_,F_,F_,F_,F_,F_,F_,F_,F_,F_]
abbrev Z95_ : Array Bool:=#[T_,T_,T_,T_,T_,T_,T_,T_,T_,T_,T_,T_,T_,T_,T_,T_,T_,T_,T_,T_,T_,F_,F_,F_,F_,F_,F_,F_,F_,F_,F_,F_,F_,F_,F_,F_,F_]
abbrev Z96_ : Array Bool:=#[T_,T_,T_,T_,T_,T_,T_,T_,T_,T_,T_,T_,T_,T_,T_,T_,T_,T_,T_,T_,T_,F_,F_,F_,F_,F_]
abbrev Z97_ : Array Bool:=#[T_,T_,T_,T_,T_,T_,T_,T_,T_,T_,T_,T_,T_,T_,T_,T_,T_,T_,T_,T_,T_,F_,F_,F_,T_,F_,F_,F_,F_,F_,F_,F_,F_,F_,F_,F_,F_]
abbrev Z98_ : Array Bool:=#[T_,T_,T_,T_,T_,T_,T_,T_,T_,T_,T_,T_,T_,T_,T_,T_,T_,T_,T_,T_,T_,T_,F_,F_,F_,F_,F_,F_,F_,F_,F_,F_,F_,F_,F_,F_,F_,F_]
abbrev Z99_ : Array Bool:=#[T_,T_,T_,T_,T_,T_,T_,T_,T_,T_,T_,T_,T_,T_,T_,T_,T_,T_,T_,T_,T_,T_,F_,F_,F_,F_,F_,F_,F_,F_,F_,F_,F_,F_,F_,F_,F_]
abbrev o_t : Array Bool:=#[T_,T_,T_,T_,T_,T_,T_,T_,T_,T_,T_,T_,T_,T_,T_,T_,T_,T_,T_,T_,T_,T_,F_,F_,F_,F_]
abbrev n_C : Array Bool:=#[T_,T_,T_,T_,T_,T_,T_,T_,T_,T_,T_,T_,T_,T_,T_,T_,T_,T_,T_,T_,T_,T_,F_,F_,T_,F_,F_,F_,F_,F_,F_,F_,F_,F_,F_,F_,F_]
abbrev o_u : Array Bool:=#[T_,T_,T_,T_,T_,T_,T_,T_,T_,T_,T_,T_,T_,T_,T_,T_,T_,T_,T_,T_,T_,T_,T_,F_,F_,F_,F_,F_,F_,F_,F_,F_,F_,F_,F_,F_,F_,F_]
abbrev u_G : Array Bool:=#[T_,T_,T_,T_,T_,T_,T_,T_,T_,T_,T_,T_,T_,T_,T_,T_,T_,T_,T_,T_,T_,T_,T_,F_,F_,F_,F_,F_,F_,F_,F_,F_,F_,F_,F_,F_,F_]
abbrev o_w : Array Bool:=#[T_,T_,T_,T_,T_,T_,T_,T_,T_,T_,T_,T_,T_,T_,T_,T_,T_,T_,T_,T_,T_,T_,T_,F_,F_,F_]
abbrev v_g : Array Bool:=#[T_,T_,T_,T_,T_,T_,T_,T_,T_,T_,T_,T_,T_,T_,T_,T_,T_,T_,T_,T_,T_,T_,T_,F_,T_,F_,F_,F_,F_,F_,F_,F_,F_,F_,F_,F_,F_,F_]
abbrev n_L : Array Bool:=#[T_,T_,T_,T_,T_,T_,T_,T_,T_,T_,T_,T_,T_,T_,T_,T_,T_,T_,T_,T_,T_,T_,T_,F_,T_,F_,F_,F_,F_,F_,F_,F_,F_,F_,F_,F_,F_]
abbrev v_k : Array Bool:=#[T_,T_,T_,T_,T_,T_,T_,T_,T_,T_,T_,T_,T_,T_,T_,T_,T_,T_,T_,T_,T_,T_,T_,F_,T_,T_,F_,F_,F_,F_,F_,F_,F_,F_,F_,F_,F_,F_]
abbrev n_J : Array Bool:=#[T_,T_,T_,T_,T_,T_,T_,T_,T_,T_,T_,T_,T_,T_,T_,T_,T_,T_,T_,T_,T_,T_,T_,F_,T_,T_,F_,F_,F_,F_,F_,F_,F_,F_,F_,F_,F_]
abbrev v_d : Array Bool:=#[T_,T_,T_,T_,T_,T_,T_,T_,T_,T_,T_,T_,T_,T_,T_,T_,T_,T_,T_,T_,T_,T_,T_,F_,T_,T_,F_,F_,F_,T_,F_,F_,F_,F_,F_,F_,F_,F_]
abbrev u_1 : Array Bool:=#[T_,T_,T_,T_,T_,T_,T_,T_,T_,T_,T_,T_,T_,T_,T_,T_,T_,T_,T_,T_,T_,T_,T_,F_,T_,T_,F_,F_,F_,T_,F_,T_,F_,F_,F_,F_,F_,F_]
abbrev s_j : Array Bool:=#[T_,T_,T_,T_,T_,T_,T_,T_,T_,T_,T_,T_,T_,T_,T_,T_,T_,T_,T_,T_,T_,T_,T_,T_,F_,F_,F_,F_,F_,F_,F_,F_,F_,F_,F_,F_,F_,F_]
abbrev u_9 : Array Bool:=#[T_,T_,T_,T_,T_,T_,T_,T_,T_,T_,T_,T_,T_,T_,T_,T_,T_,T_,T_,T_,T_,T_,T_,T_,F_,F_,F_,F_,F_,F_,F_,F_,F_,F_,F_,F_,F_]
abbrev n_1 : Array Bool:=#[T_,T_,T_,T_,T_,T_,T_,T_,T_,T_,T_,T_,T_,T_,T_,T_,T_,T_,T_,T_,T_,T_,T_,T_,F_,F_]
abbrev s_e : Array Bool:=#[T_,T_,T_,T_,T_,T_,T_,T_,T_,T_,T_,T_,T_,T_,T_,T_,T_,T_,T_,T_,T_,T_,T_,T_,T_,F_,F_,F_,F_,F_,F_,F_,F_,F_,F_,F_,F_,F_]
abbrev u_V : Array Bool:=#[T_,T_,T_,T_,T_,T_,T_,T_,T_,T_,T_,T_,T_,T_,T_,T_,T_,T_,T_,T_,T_,T_,T_,T_,T_,F_,F_,F_,F_,F_,F_,F_,F_,F_,F_,F_,F_]
abbrev n_Y : Array Bool:=#[T_,T_,T_,T_,T_,T_,T_,T_,T_,T_,T_,T_,T_,T_,T_,T_,T_,T_,T_,T_,T_,T_,T_,T_,T_,F_]
abbrev r_S : Array Bool:=#[T_,T_,T_,T_,T_,T_,T_,T_,T_,T_,T_,T_,T_,T_,T_,T_,T_,T_,T_,T_,T_,T_,T_,T_,T_,T_,F_,F_,F_,F_,F_,F_,F_,F_,F_,F_,F_,F_]
abbrev k_C : Array Bool:=#[T_,T_,T_,T_,T_,T_,T_,T_,T_,T_,T_,T_,T_,T_,T_,T_,T_,T_,T_,T_,T_,T_,T_,T_,T_,T_,F_,F_,F_,F_,F_,F_,F_,F_,F_,F_,F_]
abbrev u_L : Array Bool:=#[T_,T_,T_,T_,T_,T_,T_,T_,T_,T_,T_,T_,T_,T_,T_,T_,T_,T_,T_,T_,T_,T_,T_,T_,T_,T_,F_,F_,F_,T_,F_,T_,F_,F_,F_,F_,F_,F_]
abbrev s_i : Array Bool:=#[T_,T_,T_,T_,T_,T_,T_,T_,T_,T_,T_,T_,T_,T_,T_,T_,T_,T_,T_,T_,T_,T_,T_,T_,T_,T_,T_,F_,F_,F_,F_,F_,F_,F_,F_,F_,F_,F_]
abbrev k_B : Array Bool:=#[T_,T_,T_,T_,T_,T_,T_,T_,T_,T_,T_,T_,T_,T_,T_,T_,T_,T_,T_,T_,T_,T_,T_,T_,T_,T_,T_,F_,F_,F_,F_,F_,F_,F_,F_,F_,F_]
abbrev v_c : Array Bool:=#[T_,T_,T_,T_,T_,T_,T_,T_,T_,T_,T_,T_,T_,T_,T_,T_,T_,T_,T_,T_,T_,T_,T_,T_,T_,T_,T_,F_,F_,T_,F_,T_,F_,F_,F_,F_,F_,F_]
abbrev r_9 : Array Bool:=#[T_,T_,T_,T_,T_,T_,T_,T_,T_,T_,T_,T_,T_,T_,T_,T_,T_,T_,T_,T_,T_,T_,T_,T_,T_,T_,T_,T_,F_,F_,F_,F_,F_,F_,F_,F_,F_,F_]
abbrev k_I : Array Bool:=#[T_,T_,T_,T_,T_,T_,T_,T_,T_,T_,T_,T_,T_,T_,T_,T_,T_,T_,T_,T_,T_,T_,T_,T_,T_,T_,T_,T_,F_,F_,F_,F_,F_,F_,F_,F_,F_]
abbrev u_O : Array Bool:=#[T_,T_,T_,T_,T_,T_,T_,T_,T_,T_,T_,T_,T_,T_,T_,T_,T_,T_,T_,T_,T_,T_,T_,T_,T_,T_,T_,T_,F_,T_,F_,T_,F_,F_,F_,F_,F_,F_]
abbrev r_P : Array Bool:=#[T_,T_,T_,T_,T_,T_,T_,T_,T_,T_,T_,T_,T_,T_,T_,T_,T_,T_,T_,T_,T_,T_,T_,T_,T_,T_,T_,T_,T_,F_,F_,F_,F_,F_,F_,F_,F_,F_]
abbrev k_u : Array Bool:=#[T_,T_,T_,T_,T_,T_,T_,T_,T_,T_,T_,T_,T_,T_,T_,T_,T_,T_,T_,T_,T_,T_,T_,T_,T_,T_,T_,T_,T_,F_,F_,F_,F_,F_,F_,F_,F_]
abbrev r_2 : Array Bool:=#[T_,T_,T_,T_,T_,T_,T_,T_,T_,T_,T_,T_,T_,T_,T_,T_,T_,T_,T_,T_,T_,T_,T_,T_,T_,T_,T_,T_,T_,T_,F_,F_,F_,F_,F_,F_,F_,F_]
abbrev k_L : Array Bool:=#[T_,T_,T_,T_,T_,T_,T_,T_,T_,T_,T_,T_,T_,T_,T_,T_,T_,T_,T_,T_,T_,T_,T_,T_,T_,T_,T_,T_,T_,T_,F_,F_,F_,F_,F_,F_,F_]
abbrev v_a : Array Bool:=#[T_,T_,T_,T_,T_,T_,T_,T_,T_,T_,T_,T_,T_,T_,T_,T_,T_,T_,T_,T_,T_,T_,T_,T_,T_,T_,T_,T_,T_,T_,F_,T_,F_,F_,F_,F_,F_,F_]
abbrev r_e : Array Bool:=#[T_,T_,T_,T_,T_,T_,T_,T_,T_,T_,T_,T_,T_,T_,T_,T_,T_,T_,T_,T_,T_,T_,T_,T_,T_,T_,T_,T_,T_,T_,F_,T_,F_,F_,F_,F_,F_]
abbrev q_P : Array Bool:=#[T_,T_,T_,T_,T_,T_,T_,T_,T_,T_,T_,T_,T_,T_,T_,T_,T_,T_,T_,T_,T_,T_,T_,T_,T_,T_,T_,T_,T_,T_,F_,T_,F_,T_,F_,F_,F_]
abbrev r_Y : Array Bool:=#[T_,T_,T_,T_,T_,T_,T_,T_,T_,T_,T_,T_,T_,T_,T_,T_,T_,T_,T_,T_,T_,T_,T_,T_,T_,T_,T_,T_,T_,T_,T_,F_,F_,F_,F_,F_,F_,F_]
abbrev q_3 : Array Bool:=#[T_,T_,T_,T_,T_,T_,T_,T_,T_,T_,T_,T_,T_,T_,T_,T_,T_,T_,T_,T_,T_,T_,T_,T_,T_,T_,T_,T_,T_,T_,T_,F_,F_,F_,F_,F_,F_]
abbrev n_9 : Array Bool:=#[T_,T_,T_,T_,T_,T_,T_,T_,T_,T_,T_,T_,T_,T_,T_,T_,T_,T_,T_,T_,T_,T_,T_,T_,T_,T_,T_,T_,T_,T_,T_,T_,F_,F_,F_,F_,F_,F_]
abbrev q_7 : Array Bool:=#[T_,T_,T_,T_,T_,T_,T_,T_,T_,T_,T_,T_,T_,T_,T_,T_,T_,T_,T_,T_,T_,T_,T_,T_,T_,T_,T_,T_,T_,T_,T_,T_,F_,F_,F_,F_,F_]
abbrev q_J : Array Bool:=#[T_,T_,T_,T_,T_,T_,T_,T_,T_,T_,T_,T_,T_,T_,T_,T_,T_,T_,T_,T_,T_,T_,T_,T_,T_,T_,T_,T_,T_,T_,T_,T_,F_,T_,F_,F_,F_]
abbrev q_I : Array Bool:=#[T_,T_,T_,T_,T_,T_,T_,T_,T_,T_,T_,T_,T_,T_,T_,T_,T_,T_,T_,T_,T_,T_,T_,T_,T_,T_,T_,T_,T_,T_,T_,T_,F_,T_,T_,F_,F_]
abbrev o_j : Array Bool:=#[T_,T_,T_,T_,T_,T_,T_,T_,T_,T_,T_,T_,T_,T_,T_,T_,T_,T_,T_,T_,T_,T_,T_,T_,T_,T_,T_,T_,T_,T_,T_,T_,T_,F_,F_,F_,F_,F_]
abbrev q_R : Array Bool:=#[T_,T_,T_,T_,T_,T_,T_,T_,T_,T_,T_,T_,T_,T_,T_,T_,T_,T_,T_,T_,T_,T_,T_,T_,T_,T_,T_,T_,T_,T_,T_,T_,T_,F_,F_,F_,F_]
abbrev n_X : Array Bool:=#[T_,T_,T_,T_,T_,T_,T_,T_,T_,T_,T_,T_,T_,T_,T_,T_,T_,T_,T_,T_,T_,T_,T_,T_,T_,T_,T_,T_,T_,T_,T_,T_,T_,T_,F_,F_,F_,F_]
abbrev r_b : Array Bool:=#[T_,T_,T_,T_,T_,T_,T_,T_,T_,T_,T_,T_,T_,T_,T_,T_,T_,T_,T_,T_,T_,T_,T_,T_,T_,T_,T_,T_,T_,T_,T_,T_,T_,T_,F_,F_,F_]
abbrev o_i : Array Bool:=#[T_,T_,T_,T_,T_,T_,T_,T_,T_,T_,T_,T_,T_,T_,T_,T_,T_,T_,T_,T_,T_,T_,T_,T_,T_,T_,T_,T_,T_,T_,T_,T_,T_,T_,T_,F_,F_,F_]
abbrev k_m : Array Bool:=#[T_,T_,T_,T_,T_,T_,T_,T_,T_,T_,T_,T_,T_,T_,T_,T_,T_,T_,T_,T_,T_,T_,T_,T_,T_,T_,T_,T_,T_,T_,T_,T_,T_,T_,T_,F_,F_]
abbrev n_6 : Array Bool:=#[T_,T_,T_,T_,T_,T_,T_,T_,T_,T_,T_,T_,T_,T_,T_,T_,T_,T_,T_,T_,T_,T_,T_,T_,T_,T_,T_,T_,T_,T_,T_,T_,T_,T_,T_,T_,F_,F_]
abbrev k_K : Array Bool:=#[T_,T_,T_,T_,T_,T_,T_,T_,T_,T_,T_,T_,T_,T_,T_,T_,T_,T_,T_,T_,T_,T_,T_,T_,T_,T_,T_,T_,T_,T_,T_,T_,T_,T_,T_,T_,F_]
abbrev n_7 : Array Bool:=#[T_,T_,T_,T_,T_,T_,T_,T_,T_,T_,T_,T_,T_,T_,T_,T_,T_,T_,T_,T_,T_,T_,T_,T_,T_,T_,T_,T_,T_,T_,T_,T_,T_,T_,T_,T_,T_,F_]
abbrev o_c : Array Bool:=#[T_,T_,T_,T_,T_,T_,T_,T_,T_,T_,T_,T_,T_,T_,T_,T_,T_,T_,T_,T_,T_,T_,T_,T_,T_,T_,T_,T_,T_,T_,T_,T_,T_,T_,T_,T_,T_,T_]
abbrev k_y : Array Bool:=#[T_,T_,T_,T_,T_,T_,T_,T_,T_,T_,T_,T_,T_,T_,T_,T_,T_,T_,T_,T_,T_,T_,T_,T_,T_,T_,T_,T_,T_,T_,T_,T_,T_,T_,T_,T_,T_]
abbrev o_n : Array Bool:=#[T_,T_,T_,T_,T_,T_,T_,T_,T_,T_,T_,T_,T_,T_,T_,T_,T_,T_,T_,T_,T_,T_,T_,T_,T_,T_]
abbrev s_n : Array Bool:=#[T_,T_,T_,T_,T_,T_,T_,T_,T_,T_,T_,T_,T_,T_,T_,T_,T_,T_,T_]
end Go.Proofs.Ytgglkfilkagblaa
end
section
namespace Go.Proofs.Ytgglkfilkagblaa.Q
open Go.RowKit Go.Proofs.YtgglkfilkagblaaW.PrintWords Go.Proofs.YtgglkfilkagblaaW.PrintLast Go.Proofs.YtgglkfilkagblaaW.PrintMore
set_option linter.unusedVariables false
set_option linter.unusedSimpArgs false
def errW : Option Int → Value
 | none => .nilIface
 | some c => .iface 0 (.int .i64 c)
theorem a_w : errW none = .nilIface:=rfl
theorem a_x (c : Int) : errW (some c) = .iface 0 (.int .i64 c):=rfl
theorem k_p : (Try.prog.info? 27).map (fun i => (i.zero,i.size,i.bytes)) = some (some (.agg #[(.int .i64 0),(.slice none 0 0)]),2,32):=by kernel_rfl
theorem n_P : (Try.prog.info? 46).map (fun i => (i.zero,i.size,i.bytes)) = some (some (.agg #[(.int .i64 0),(.int .i64 0)]),2,16):=by kernel_rfl
structure S65 where
 f0 : Int
 f1 : Int
 f2 : Int
 f3 : Int
 f4 : Int
 f5 : Bool
 f6 : Bool
 f7 : Int
 f8 : Int
 f9 : Int
 f10 : Int
def z65 : S65:=⟨(0 : Int),(0 : Int),(0 : Int),(0 : Int),(0 : Int),false,false,(0 : Int),(0 : Int),(0 : Int),(0 : Int)⟩
def k65 : Kd S65:=Kd.iso (Kd.pair (Kd.int .i64) (Kd.pair (Kd.int .i64) (Kd.pair (Kd.int .i64) (Kd.pair (Kd.int .i64) (Kd.pair (Kd.int .i64) (Kd.pair Kd.bool (Kd.pair Kd.bool (Kd.pair (Kd.int .u32) (Kd.pair (Kd.int .i64) (Kd.pair (Kd.int .i64) (Kd.int .i64))))))))))) (fun x : S65 => (x.f0,x.f1,x.f2,x.f3,x.f4,x.f5,x.f6,x.f7,x.f8,x.f9,x.f10))
theorem q_X {w : World} {x : S65} {cs : List Value} (h : k65.K w x cs) : cs = [.int .i64 x.f0,.int .i64 x.f1,.int .i64 x.f2,.int .i64 x.f3,.int .i64 x.f4,.bool x.f5,.bool x.f6,.int .u32 x.f7,.int .i64 x.f8,.int .i64 x.f9,.int .i64 x.f10]:=by
 obtain ⟨_,_,rfl,rfl,⟨_,_,rfl,rfl,⟨_,_,rfl,rfl,⟨_,_,rfl,rfl,⟨_,_,rfl,rfl,⟨_,_,rfl,rfl,⟨_,_,rfl,rfl,⟨_,_,rfl,rfl,⟨_,_,rfl,rfl,⟨_,_,rfl,rfl,rfl⟩⟩⟩⟩⟩⟩⟩⟩⟩⟩:=h
 exact rfl
theorem o_m (w : World) (base : Nat) (ok : Nat → Prop) (x : S65)  : k65.M w base ok x [.int .i64 x.f0,.int .i64 x.f1,.int .i64 x.f2,.int .i64 x.f3,.int .i64 x.f4,.bool x.f5,.bool x.f6,.int .u32 x.f7,.int .i64 x.f8,.int .i64 x.f9,.int .i64 x.f10]:=⟨[.int .i64 x.f0],[.int .i64 x.f1,.int .i64 x.f2,.int .i64 x.f3,.int .i64 x.f4,.bool x.f5,.bool x.f6,.int .u32 x.f7,.int .i64 x.f8,.int .i64 x.f9,.int .i64 x.f10],rfl,rfl,⟨[.int .i64 x.f1],[.int .i64 x.f2,.int .i64 x.f3,.int .i64 x.f4,.bool x.f5,.bool x.f6,.int .u32 x.f7,.int .i64 x.f8,.int .i64 x.f9,.int .i64 x.f10],rfl,rfl,⟨[.int .i64 x.f2],[.int .i64 x.f3,.int .i64 x.f4,.bool x.f5,.bool x.f6,.int .u32 x.f7,.int .i64 x.f8,.int .i64 x.f9,.int .i64 x.f10],rfl,rfl,⟨[.int .i64 x.f3],[.int .i64 x.f4,.bool x.f5,.bool x.f6,.int .u32 x.f7,.int .i64 x.f8,.int .i64 x.f9,.int .i64 x.f10],rfl,rfl,⟨[.int .i64 x.f4],[.bool x.f5,.bool x.f6,.int .u32 x.f7,.int .i64 x.f8,.int .i64 x.f9,.int .i64 x.f10],rfl,rfl,⟨[.bool x.f5],[.bool x.f6,.int .u32 x.f7,.int .i64 x.f8,.int .i64 x.f9,.int .i64 x.f10],rfl,rfl,⟨[.bool x.f6],[.int .u32 x.f7,.int .i64 x.f8,.int .i64 x.f9,.int .i64 x.f10],rfl,rfl,⟨[.int .u32 x.f7],[.int .i64 x.f8,.int .i64 x.f9,.int .i64 x.f10],rfl,rfl,⟨[.int .i64 x.f8],[.int .i64 x.f9,.int .i64 x.f10],rfl,rfl,⟨[.int .i64 x.f9],[.int .i64 x.f10],rfl,rfl,rfl⟩⟩⟩⟩⟩⟩⟩⟩⟩⟩
def a_c (xs : List S65) (i : Int) : S65:=xs.getD i.toNat z65
theorem d_g {w : World} {A : Option Addr} {n : Nat} {xs : List S65} (h : Kd.C k65 w A n xs) (i : Int) (h0 : 0 ≤ i) (h1 : i < n) : ∃ ad , A = some ad ∧ w.cell? (ad.add (i.toNat * 11)) = some (.int .i64 (a_c xs i).f0) ∧ w.cell? ⟨(ad.add (i.toNat * 11)).block,(ad.add (i.toNat * 11)).off + 1,none⟩ = some (.int .i64 (a_c xs i).f1) ∧ w.cell? ⟨(ad.add (i.toNat * 11)).block,(ad.add (i.toNat * 11)).off + 2,none⟩ = some (.int .i64 (a_c xs i).f2) ∧ w.cell? ⟨(ad.add (i.toNat * 11)).block,(ad.add (i.toNat * 11)).off + 3,none⟩ = some (.int .i64 (a_c xs i).f3) ∧ w.cell? ⟨(ad.add (i.toNat * 11)).block,(ad.add (i.toNat * 11)).off + 4,none⟩ = some (.int .i64 (a_c xs i).f4) ∧ w.cell? ⟨(ad.add (i.toNat * 11)).block,(ad.add (i.toNat * 11)).off + 5,none⟩ = some (.bool (a_c xs i).f5) ∧ w.cell? ⟨(ad.add (i.toNat * 11)).block,(ad.add (i.toNat * 11)).off + 6,none⟩ = some (.bool (a_c xs i).f6) ∧ w.cell? ⟨(ad.add (i.toNat * 11)).block,(ad.add (i.toNat * 11)).off + 7,none⟩ = some (.int .u32 (a_c xs i).f7) ∧ w.cell? ⟨(ad.add (i.toNat * 11)).block,(ad.add (i.toNat * 11)).off + 8,none⟩ = some (.int .i64 (a_c xs i).f8) ∧ w.cell? ⟨(ad.add (i.toNat * 11)).block,(ad.add (i.toNat * 11)).off + 9,none⟩ = some (.int .i64 (a_c xs i).f9) ∧ w.cell? ⟨(ad.add (i.toNat * 11)).block,(ad.add (i.toNat * 11)).off + 10,none⟩ = some (.int .i64 (a_c xs i).f10):=by
 obtain ⟨ad,c,e,_,hK,hc0⟩:=Kd.n_I h z65 i h0 h1
 have hc : ∀ j u,c[j]? = some u → w.cell? (ad.add (i.toNat * 11 + j)) = some u:=hc0
 obtain rfl:=q_X hK
 exact ⟨ad,e,hc 0 _ rfl,by rw [← d_a _ _ 1 (by omega)];exact hc 1 _ rfl,by rw [← d_a _ _ 2 (by omega)];exact hc 2 _ rfl,by rw [← d_a _ _ 3 (by omega)];exact hc 3 _ rfl,by rw [← d_a _ _ 4 (by omega)];exact hc 4 _ rfl,by rw [← d_a _ _ 5 (by omega)];exact hc 5 _ rfl,by rw [← d_a _ _ 6 (by omega)];exact hc 6 _ rfl,by rw [← d_a _ _ 7 (by omega)];exact hc 7 _ rfl,by rw [← d_a _ _ 8 (by omega)];exact hc 8 _ rfl,by rw [← d_a _ _ 9 (by omega)];exact hc 9 _ rfl,by rw [← d_a _ _ 10 (by omega)];exact hc 10 _ rfl⟩
structure S27 where
 f0 : Int
 f1 : (List S65)
def z27 : S27:=⟨(0 : Int),([] : List S65)⟩
def k27 : Kd S27:=Kd.iso (Kd.pair (Kd.int .i64) (Kd.slice 65 k65)) (fun x : S27 => (x.f0,x.f1))
theorem j_t {w : World} {x : S27} {cs : List Value} (h : k27.K w x cs) : ∃ A1 c1,cs = [.int .i64 x.f0,.slice A1 x.f1.length c1] ∧ x.f1.length ≤ c1 ∧ k65.C w A1 x.f1.length x.f1:=by
 obtain ⟨_,_,rfl,rfl,⟨A1,c1,rfl,l1,g1⟩⟩:=h
 exact ⟨A1,c1,rfl,l1,g1⟩
theorem u_I (w : World) (x : S27) {A1 : Option Addr} {c1 : Nat} (l1 : x.f1.length ≤ c1) (g1 : k65.C w A1 x.f1.length x.f1) : k27.K w x [.int .i64 x.f0,.slice A1 x.f1.length c1]:=⟨[.int .i64 x.f0],[.slice A1 x.f1.length c1],rfl,rfl,⟨A1,c1,rfl,l1,g1⟩⟩
theorem o_g {W : World} {ok : Nat → Prop} {x : S27} {cs : List Value} (h : Kd.FK k27 W ok x cs) : ∃ A1 c1,cs = [.int .i64 x.f0,.slice A1 x.f1.length c1] ∧ x.f1.length ≤ c1 ∧ Kd.F k65 W ok A1 x.f1.length x.f1:=by
 obtain ⟨A1,c1,rfl,l1,_⟩:=j_t (Kd.h_f h)
 exact ⟨A1,c1,rfl,l1,(fun W' hW => by obtain ⟨A1_,c1_,he,l1_,g1_⟩:=j_t (h W' hW);injection (Option.some.inj (show some (Value.slice A1 x.f1.length c1) = some (Value.slice A1_ x.f1.length c1_) from congrArg (fun l => l[1]?) he)) with ha_ _ _;rw [ha_];exact g1_)⟩
theorem n_0 (W : World) (ok : Nat → Prop) (x : S27) {A1 : Option Addr} {c1 : Nat} (l1 : x.f1.length ≤ c1) (g1 : Kd.F k65 W ok A1 x.f1.length x.f1) : Kd.FK k27 W ok x [.int .i64 x.f0,.slice A1 x.f1.length c1]:=fun W2 hW => u_I W2 x l1 (g1 W2 hW)
def a_p (xs : List S27) (i : Int) : S27:=xs.getD i.toNat z27
theorem c_y {w : World} {A : Option Addr} {n : Nat} {xs : List S27} (h : Kd.C k27 w A n xs) (i : Int) (h0 : 0 ≤ i) (h1 : i < n) : ∃ ad A1 c1,A = some ad ∧ w.cell? (ad.add (i.toNat * 2)) = some (.int .i64 (a_p xs i).f0) ∧ w.cell? ⟨(ad.add (i.toNat * 2)).block,(ad.add (i.toNat * 2)).off + 1,none⟩ = some (.slice A1 (a_p xs i).f1.length c1) ∧ (a_p xs i).f1.length ≤ c1 ∧ k65.C w A1 (a_p xs i).f1.length (a_p xs i).f1:=by
 obtain ⟨ad,c,e,_,hK,hc0⟩:=Kd.n_I h z27 i h0 h1
 have hc : ∀ j u,c[j]? = some u → w.cell? (ad.add (i.toNat * 2 + j)) = some u:=hc0
 obtain ⟨A1,c1,rfl,l1,g1⟩:=j_t hK
 exact ⟨ad,A1,c1,e,hc 0 _ rfl,by rw [← d_a _ _ 1 (by omega)];exact hc 1 _ rfl,l1,g1⟩
structure S46 where
 f0 : Int
 f1 : Int
def z46 : S46:=⟨(0 : Int),(0 : Int)⟩
def k46 : Kd S46:=Kd.iso (Kd.pair (Kd.int .i64) (Kd.int .i64)) (fun x : S46 => (x.f0,x.f1))
theorem q_L {w : World} {x : S46} {cs : List Value} (h : k46.K w x cs) : cs = [.int .i64 x.f0,.int .i64 x.f1]:=by
 obtain ⟨_,_,rfl,rfl,rfl⟩:=h
 exact rfl
theorem k_A {w : World} {base : Nat} {ok : Nat → Prop} {x : S46} {cs : List Value} (h : k46.M w base ok x cs) : cs = [.int .i64 x.f0,.int .i64 x.f1]:=by
 obtain ⟨_,_,rfl,rfl,rfl⟩:=h
 exact rfl
theorem j_o (w : World) (base : Nat) (ok : Nat → Prop) (x : S46)  : k46.M w base ok x [.int .i64 x.f0,.int .i64 x.f1]:=⟨[.int .i64 x.f0],[.int .i64 x.f1],rfl,rfl,rfl⟩
def b_N (xs : List S46) (i : Int) : S46:=xs.getD i.toNat z46
theorem h_B {w : World} {A : Option Addr} {n : Nat} {xs : List S46} (h : Kd.C k46 w A n xs) (i : Int) (h0 : 0 ≤ i) (h1 : i < n) : ∃ ad , A = some ad ∧ w.cell? (ad.add (i.toNat * 2)) = some (.int .i64 (b_N xs i).f0) ∧ w.cell? ⟨(ad.add (i.toNat * 2)).block,(ad.add (i.toNat * 2)).off + 1,none⟩ = some (.int .i64 (b_N xs i).f1):=by
 obtain ⟨ad,c,e,_,hK,hc0⟩:=Kd.n_I h z46 i h0 h1
 have hc : ∀ j u,c[j]? = some u → w.cell? (ad.add (i.toNat * 2 + j)) = some u:=hc0
 obtain rfl:=q_L hK
 exact ⟨ad,e,hc 0 _ rfl,by rw [← d_a _ _ 1 (by omega)];exact hc 1 _ rfl⟩
def idxOf {α : Type} (p : α → Bool) (xs : List α) : Int:=match xs.findIdx? p with|some i => i|none => -1
theorem idxOf_hit {α : Type} {p : α → Bool} {xs : List α} {k : Nat} (hk : k < xs.length) (h : p xs[k] = true) (hb : ∀ j (hj : j < k),p (xs[j]'(by omega)) = false) : idxOf p xs = k:=by
 unfold idxOf
 have : xs.findIdx? p = some k:=by
  rw [List.findIdx?_eq_some_iff_getElem]
  exact ⟨hk,h,fun j hj => by simp [hb j hj]⟩
 rw [this]
theorem idxOf_miss {α : Type} {p : α → Bool} {xs : List α} (hb : ∀ j (hj : j < xs.length),p xs[j] = false) : idxOf p xs = -1:=by
 unfold idxOf
 have : xs.findIdx? p = none:=by
  rw [List.findIdx?_eq_none_iff]
  intro x hx
  obtain ⟨j,hj,rfl⟩:=List.getElem_of_mem hx
  exact hb j hj
 rw [this]
end Go.Proofs.Ytgglkfilkagblaa.Q
end
section
namespace Go.Proofs.Ytgglkfilkagblaa.Q
open Go.RowKit Go.Proofs.YtgglkfilkagblaaW.PrintWords Go.Proofs.YtgglkfilkagblaaW.PrintLast Go.Proofs.YtgglkfilkagblaaW.PrintMore
open Go.ChangeShapes Go.WideShapes Go.ChangeAt
set_option linter.unusedVariables false
set_option linter.unusedSimpArgs false
structure d_2 (P : Program) (t : TypeId) {α : Type} (d : Kd α) (wf : α → Prop) : Prop where
 cells : P.cellsOf t = d.sz
 open_ : ∀ {H : Type} {enc : TypeId × Value → H} {w : World} {base : Nat} {spare : Nat → Bool} {held : Bool} {fuel : Nat} {cs : List Value} {x : DataW H × List MemPlace},
  DataW.trod enc P w base spare held fuel t cs = some x → ∃ v,d.K w v cs ∧ wf v
theorem d_2.int {P : Program} {t : TypeId} {k : IntKind} (ht : P.underlying t = some (.int k)) (hc : P.cellsOf t = 1) : d_2 P t (Kd.int k) (fun n => (Lit.int k n).wf = true) :=
 ⟨hc,fun {H enc w base spare held fuel cs x} h => by
  cases fuel with
  | zero => simp [DataW.trod] at h
  | succ n =>
   unfold DataW.trod at h
   rw [ht] at h
   split at h <;> simp_all
   exact ⟨_,rfl,h.1.2⟩⟩
theorem d_2.bool {P : Program} {t : TypeId} (ht : P.underlying t = some .bool) (hc : P.cellsOf t = 1) : d_2 P t Kd.bool (fun _ => True) :=
 ⟨hc,fun {H enc w base spare held fuel cs x} h => by
  cases fuel with
  | zero => simp [DataW.trod] at h
  | succ n =>
   unfold DataW.trod at h
   rw [ht] at h
   split at h
   all_goals first|exact ⟨_,rfl,trivial⟩|simp_all⟩
theorem n_y {α : Type} [Inhabited α] (m : Nat) (p : Nat → α → Prop) (h : ∀ i,i < m → ∃ v,p i v) : ∃ f : Nat → α, ∀ i,i < m → p i (f i):=by
 classical
 exact ⟨fun i => if hi : ∃ v,p i v then hi.choose else default,fun i hi => by
  have hx:=h i hi
  simp only [hx,dif_pos]
  exact hx.choose_spec⟩
theorem d_2.slice {P : Program} {t e : TypeId} {α : Type} {d : Kd α} {wf : α → Prop} [Inhabited α] (ht : P.underlying t = some (.slice e)) (hc : P.cellsOf t = 1) (he : d_2 P e d wf) :
 d_2 P t (Kd.slice e d) (fun l => l.length ≤ maxLen ∧ ∀ x ∈ l,wf x) :=
 ⟨hc,fun {H enc w base spare held fuel cs x} h => by
  rcases Go.Deep.open_slice ht h with ⟨rfl,_⟩ | ⟨a,len,cap,m,n,D,Pl,rfl,hb,hl,hm,hmm,_,hx⟩
  ·exact ⟨[],⟨none,0,rfl,Nat.le_refl _,⟨rfl,by simp,fun h => absurd h (Nat.lt_irrefl 0)⟩⟩,by simp,by simp⟩
  ·have hlm : len ≤ m:=by rw [hmm];split <;> omega
   obtain ⟨f,hf⟩:=n_y (α:=α) m (fun i v => ∃ cs',w.cells? base (a.add (i * P.cellsOf e)) (P.cellsOf e) = some cs' ∧ d.K w v cs' ∧ wf v) (fun i hi => by
    obtain ⟨cs',h1,h2⟩:=hx i hi
    obtain ⟨v,h3,h4⟩:=he.open_ h2
    exact ⟨v,cs',h1,h3,h4⟩)
   have hml : maxLen = 9223372036854775807:=rfl
   refine ⟨(List.range len).map f,⟨some a,cap,by simp,by simpa using hl,⟨by simp,by simp;omega,fun _ => ⟨a,rfl,fun j p hj => ?_⟩⟩⟩,by simp;omega,fun v hv => ?_⟩
   ·rw [List.getElem?_map] at hj
    obtain ⟨i,hi,rfl⟩:=Option.map_eq_some_iff.1 hj
    have hij : j < len:=by
     rcases Nat.lt_or_ge j len with h|h
     ·exact h
     ·rw [List.getElem?_eq_none (by simpa using h)] at hi;cases hi
    rw [List.getElem?_range hij] at hi
    injection hi with hi
    subst hi
    obtain ⟨cs',h1,h2,h3⟩:=hf j (by omega)
    obtain ⟨_,h4,h5⟩:=World.cells?_some h1
    rw [he.cells] at h4 h5 h1
    refine ⟨cs',h4,h2,fun i u hu => ?_⟩
    have hil : i < d.sz:=by
     rw [← h4]
     exact (List.getElem?_eq_some_iff.1 hu).1
    rw [show j * d.sz + i = j * d.sz + i from rfl, ← add_add,h5 i hil]
    exact hu
   ·obtain ⟨j,hj,rfl⟩:=List.mem_map.1 hv
    obtain ⟨_,_,_,h3⟩:=hf j (by have:=List.mem_range.1 hj;omega)
    exact h3⟩
theorem b_Z {P : Program} {H : Type} {enc : TypeId × Value → H} {w : World} {base : Nat} {spare : Nat → Bool} {held : Bool} {fuel : Nat} {t : TypeId} {cs : List Value} {x : DataW H × List MemPlace} {fs : Array Field}
 (ht : P.underlying t = some (.struct fs)) (h : DataW.trod enc P w base spare held fuel t cs = some x) (i : Nat) {f : Field} (hf : fs[i]? = some f) {α : Type} {d : Kd α} {wf : α → Prop} (ho : d_2 P f.type d wf) :
 ∃ v,d.K w v ((cs.drop f.offset).take d.sz) ∧ wf v:=by
 obtain ⟨xs,n,_,_,_,hl,hx⟩:=DataW.trod_struct ht h
 have h1:=hx i f hf
 have hi : i < xs.length:=by rw [hl];exact (Array.getElem?_eq_some_iff.1 hf).1
 rw [List.getElem?_eq_getElem hi,ho.cells] at h1
 exact ho.open_ h1
theorem f_m {P : Program} {H : Type} {enc : TypeId × Value → H} {w : World} {base : Nat} {spare : Nat → Bool} {held : Bool} {fuel : Nat} {t : TypeId} {cs : List Value} {x : DataW H × List MemPlace} {fs : Array Field}
 (ht : P.underlying t = some (.struct fs)) (h : DataW.trod enc P w base spare held fuel t cs = some x) : cs.length = P.cellsOf t:=by
 obtain ⟨xs,n,_,_,hl,_⟩:=DataW.trod_struct ht h
 exact hl
theorem h_C {P : Program} {H : Type} {enc : TypeId × Value → H} {w : World} {base : Nat} {spare : Nat → Bool} {held : Bool} {fuel : Nat} {t : TypeId} {cs : List Value} {x : DataW H × List MemPlace} {n : Nat} {e : TypeId}
 (ht : P.underlying t = some (.array n e)) (h : DataW.trod enc P w base spare held fuel t cs = some x) (i : Nat) (hi : i < n) {α : Type} {d : Kd α} {wf : α → Prop} (ho : d_2 P e d wf) :
 ∃ v,d.K w v ((cs.drop (i * d.sz)).take d.sz) ∧ wf v:=by
 obtain ⟨xs,m,_,_,_,hl,hx⟩:=DataW.trod_array ht h
 have h1:=hx i hi
 have hi' : i < xs.length:=by omega
 rw [List.getElem?_eq_getElem hi',ho.cells] at h1
 exact ho.open_ h1
theorem k_Y {P : Program} {H : Type} {enc : TypeId × Value → H} {w : World} {base : Nat} {spare : Nat → Bool} {held : Bool} {fuel : Nat} {t : TypeId} {cs : List Value} {x : DataW H × List MemPlace} {n : Nat} {e : TypeId}
 (ht : P.underlying t = some (.array n e)) (h : DataW.trod enc P w base spare held fuel t cs = some x) : cs.length = P.cellsOf t:=by
 obtain ⟨xs,m,_,_,hl,_⟩:=DataW.trod_array ht h
 exact hl
theorem k_D {P : Program} {w : World} {r : Reach} {base : Nat} {t : TypeId} {v : Value} {n : Nat} {e : TypeId} (ht : P.underlying t = some (.array n e)) (h : Value.okWide P w r base t v) : ∃ cs,v = .agg cs ∧ cs.size = P.cellsOf t:=by
 simp only [Value.okWide,ht] at h
 obtain ⟨cs,h1,h2,_⟩:=h
 exact ⟨cs,h1,h2⟩
theorem b_k {α : Type} {cs : List α} {n : Nat} (h : cs.length = n + 1) : ∃ a l,cs = a :: l ∧ l.length = n:=by
 cases cs with
 | nil => simp at h
 | cons a l => exact ⟨a,l,rfl,by simpa using h⟩
theorem toList_eq {α : Type} {cs : Array α} {l : List α} (h : cs.toList = l) : cs = l.toArray:=by rw [← h]
theorem own : ownKnob Try.prog.godebug = none:=by kernel_rfl
theorem laidOut : laidOutB Try.prog = true:=by kernel_rfl
instance : Inhabited S65:=⟨z65⟩
def wf65 (x : S65) : Prop:=(fun n => (Lit.int .i64 n).wf = true) x.f0 ∧ (fun n => (Lit.int .i64 n).wf = true) x.f1 ∧ (fun n => (Lit.int .i64 n).wf = true) x.f2 ∧ (fun n => (Lit.int .i64 n).wf = true) x.f3 ∧ (fun n => (Lit.int .i64 n).wf = true) x.f4 ∧ (fun _ => True) x.f5 ∧ (fun _ => True) x.f6 ∧ (fun n => (Lit.int .u32 n).wf = true) x.f7 ∧ (fun n => (Lit.int .i64 n).wf = true) x.f8 ∧ (fun n => (Lit.int .i64 n).wf = true) x.f9 ∧ (fun n => (Lit.int .i64 n).wf = true) x.f10
theorem op65 : d_2 Try.prog 65 k65 wf65 :=
 ⟨by kernel_rfl,fun {H enc w base spare held fuel cs x} h => by
  have hl : cs.length = 11:=(f_m Try.underlying65 h).trans (by kernel_rfl)
  obtain ⟨v0,h0,w0⟩:=b_Z Try.underlying65 h 0 rfl (d_2.int Try.underlying3 (by kernel_rfl))
  obtain ⟨v1,h1,w1⟩:=b_Z Try.underlying65 h 1 rfl (d_2.int Try.underlying3 (by kernel_rfl))
  obtain ⟨v2,h2,w2⟩:=b_Z Try.underlying65 h 2 rfl (d_2.int Try.underlying3 (by kernel_rfl))
  obtain ⟨v3,h3,w3⟩:=b_Z Try.underlying65 h 3 rfl (d_2.int Try.underlying3 (by kernel_rfl))
  obtain ⟨v4,h4,w4⟩:=b_Z Try.underlying65 h 4 rfl (d_2.int Try.underlying3 (by kernel_rfl))
  obtain ⟨v5,h5,w5⟩:=b_Z Try.underlying65 h 5 rfl (d_2.bool Try.underlying4 (by kernel_rfl))
  obtain ⟨v6,h6,w6⟩:=b_Z Try.underlying65 h 6 rfl (d_2.bool Try.underlying4 (by kernel_rfl))
  obtain ⟨v7,h7,w7⟩:=b_Z Try.underlying65 h 7 rfl (d_2.int Try.underlying63 (by kernel_rfl))
  obtain ⟨v8,h8,w8⟩:=b_Z Try.underlying65 h 8 rfl (d_2.int Try.underlying3 (by kernel_rfl))
  obtain ⟨v9,h9,w9⟩:=b_Z Try.underlying65 h 9 rfl (d_2.int Try.underlying3 (by kernel_rfl))
  obtain ⟨v10,h10,w10⟩:=b_Z Try.underlying65 h 10 rfl (d_2.int Try.underlying3 (by kernel_rfl))
  obtain ⟨c0,l0,rfl,hm0⟩:=b_k hl
  obtain ⟨c1,l1,rfl,hm1⟩:=b_k hm0
  obtain ⟨c2,l2,rfl,hm2⟩:=b_k hm1
  obtain ⟨c3,l3,rfl,hm3⟩:=b_k hm2
  obtain ⟨c4,l4,rfl,hm4⟩:=b_k hm3
  obtain ⟨c5,l5,rfl,hm5⟩:=b_k hm4
  obtain ⟨c6,l6,rfl,hm6⟩:=b_k hm5
  obtain ⟨c7,l7,rfl,hm7⟩:=b_k hm6
  obtain ⟨c8,l8,rfl,hm8⟩:=b_k hm7
  obtain ⟨c9,l9,rfl,hm9⟩:=b_k hm8
  obtain ⟨c10,l10,rfl,hm10⟩:=b_k hm9
  obtain rfl:=List.eq_nil_of_length_eq_zero hm10
  exact ⟨⟨v0,v1,v2,v3,v4,v5,v6,v7,v8,v9,v10⟩,⟨[c0],[c1,c2,c3,c4,c5,c6,c7,c8,c9,c10],rfl,h0,⟨[c1],[c2,c3,c4,c5,c6,c7,c8,c9,c10],rfl,h1,⟨[c2],[c3,c4,c5,c6,c7,c8,c9,c10],rfl,h2,⟨[c3],[c4,c5,c6,c7,c8,c9,c10],rfl,h3,⟨[c4],[c5,c6,c7,c8,c9,c10],rfl,h4,⟨[c5],[c6,c7,c8,c9,c10],rfl,h5,⟨[c6],[c7,c8,c9,c10],rfl,h6,⟨[c7],[c8,c9,c10],rfl,h7,⟨[c8],[c9,c10],rfl,h8,⟨[c9],[c10],rfl,h9,h10⟩⟩⟩⟩⟩⟩⟩⟩⟩⟩,⟨w0,w1,w2,w3,w4,w5,w6,w7,w8,w9,w10⟩⟩⟩
instance : Inhabited S27:=⟨z27⟩
def wf27 (x : S27) : Prop:=(fun n => (Lit.int .i64 n).wf = true) x.f0 ∧ (fun l => l.length ≤ maxLen ∧ ∀ x ∈ l,wf65 x) x.f1
theorem op27 : d_2 Try.prog 27 k27 wf27 :=
 ⟨by kernel_rfl,fun {H enc w base spare held fuel cs x} h => by
  have hl : cs.length = 2:=(f_m Try.underlying27 h).trans (by kernel_rfl)
  obtain ⟨v0,h0,w0⟩:=b_Z Try.underlying27 h 0 rfl (d_2.int Try.underlying2 (by kernel_rfl))
  obtain ⟨v1,h1,w1⟩:=b_Z Try.underlying27 h 1 rfl (d_2.slice Try.underlying25 (by kernel_rfl) op65)
  obtain ⟨c0,l0,rfl,hm0⟩:=b_k hl
  obtain ⟨c1,l1,rfl,hm1⟩:=b_k hm0
  obtain rfl:=List.eq_nil_of_length_eq_zero hm1
  exact ⟨⟨v0,v1⟩,⟨[c0],[c1],rfl,h0,h1⟩,⟨w0,w1⟩⟩⟩
structure S24 where
 f0 : (List S27)
 f1 : Int
def z24 : S24:=⟨([] : List S27),(0 : Int)⟩
def k24 : Kd S24:=Kd.iso (Kd.pair (Kd.slice 27 k27) (Kd.int .i64)) (fun x : S24 => (x.f0,x.f1))
theorem q_S {w : World} {x : S24} {cs : List Value} (h : k24.K w x cs) : ∃ A0 c0,cs = [.slice A0 x.f0.length c0,.int .i64 x.f1] ∧ x.f0.length ≤ c0 ∧ k27.C w A0 x.f0.length x.f0:=by
 obtain ⟨_,_,rfl,⟨A0,c0,rfl,l0,g0⟩,rfl⟩:=h
 exact ⟨A0,c0,rfl,l0,g0⟩
instance : Inhabited S24:=⟨z24⟩
def wf24 (x : S24) : Prop:=(fun l => l.length ≤ maxLen ∧ ∀ x ∈ l,wf27 x) x.f0 ∧ (fun n => (Lit.int .i64 n).wf = true) x.f1
theorem op24 : d_2 Try.prog 24 k24 wf24 :=
 ⟨by kernel_rfl,fun {H enc w base spare held fuel cs x} h => by
  have hl : cs.length = 2:=(f_m Try.underlying24 h).trans (by kernel_rfl)
  obtain ⟨v0,h0,w0⟩:=b_Z Try.underlying24 h 0 rfl (d_2.slice Try.underlying22 (by kernel_rfl) op27)
  obtain ⟨v1,h1,w1⟩:=b_Z Try.underlying24 h 1 rfl (d_2.int Try.underlying2 (by kernel_rfl))
  obtain ⟨c0,l0,rfl,hm0⟩:=b_k hl
  obtain ⟨c1,l1,rfl,hm1⟩:=b_k hm0
  obtain rfl:=List.eq_nil_of_length_eq_zero hm1
  exact ⟨⟨v0,v1⟩,⟨[c0],[c1],rfl,h0,h1⟩,⟨w0,w1⟩⟩⟩
structure S38 where
 f0 : Int
 f1 : Int
def z38 : S38:=⟨(0 : Int),(0 : Int)⟩
def k38 : Kd S38:=Kd.iso (Kd.pair (Kd.int .i64) (Kd.int .i64)) (fun x : S38 => (x.f0,x.f1))
theorem q_H {w : World} {x : S38} {cs : List Value} (h : k38.K w x cs) : cs = [.int .i64 x.f0,.int .i64 x.f1]:=by
 obtain ⟨_,_,rfl,rfl,rfl⟩:=h
 exact rfl
instance : Inhabited S38:=⟨z38⟩
def wf38 (x : S38) : Prop:=(fun n => (Lit.int .i64 n).wf = true) x.f0 ∧ (fun n => (Lit.int .i64 n).wf = true) x.f1
theorem op38 : d_2 Try.prog 38 k38 wf38 :=
 ⟨by kernel_rfl,fun {H enc w base spare held fuel cs x} h => by
  have hl : cs.length = 2:=(k_Y Try.underlying38 h).trans (by kernel_rfl)
  obtain ⟨v0,h0,w0⟩:=h_C Try.underlying38 h 0 (by decide) (d_2.int Try.underlying2 (by kernel_rfl))
  obtain ⟨v1,h1,w1⟩:=h_C Try.underlying38 h 1 (by decide) (d_2.int Try.underlying2 (by kernel_rfl))
  obtain ⟨c0,l0,rfl,hm0⟩:=b_k hl
  obtain ⟨c1,l1,rfl,hm1⟩:=b_k hm0
  obtain rfl:=List.eq_nil_of_length_eq_zero hm1
  exact ⟨⟨v0,v1⟩,⟨[c0],[c1],rfl,h0,h1⟩,⟨w0,w1⟩⟩⟩
end Go.Proofs.Ytgglkfilkagblaa.Q
end
section
namespace Go.Proofs.Ytgglkfilkagblaa.Q
open Go.RowKit Go.Proofs.YtgglkfilkagblaaW.PrintWords Go.Proofs.YtgglkfilkagblaaW.PrintLast Go.Proofs.YtgglkfilkagblaaW.PrintMore
set_option linter.unusedVariables false
set_option linter.unusedSimpArgs false
theorem u_Q (d : Nat) (w : World) (x0 y0 : Int) (x1 y1 : Int) :
 (Op.equalIn (d + 2) 46 (.agg #[.int .i64 x0,.int .i64 x1]) (.agg #[.int .i64 y0,.int .i64 y1])).run Try.prog w = .ok (x0 == y0 && (x1 == y1)) w:=by
 refine u_S Try.underlying46 (by kernel_rfl) ?_
 refine r_c (by rfl) (by go_simp;rfl) (by go_simp;rfl) (by go_simp) ?_
 exact q_K (by rfl) (by go_simp;rfl) (by go_simp;rfl) (by go_simp)
end Go.Proofs.Ytgglkfilkagblaa.Q
end
section
namespace Go.Proofs.Ytgglkfilkagblaa.Q
open Go.RowKit Go.Proofs.YtgglkfilkagblaaW.PrintWords Go.Proofs.YtgglkfilkagblaaW.PrintLast Go.Proofs.YtgglkfilkagblaaW.PrintMore
set_option linter.unusedVariables false
set_option linter.unusedSimpArgs false
def b_p.f (a0 : Int) : Option (Bool):=some (decide (a0 < 256))
set_option maxHeartbeats 8000000 in
set_option maxRecDepth 100000 in
theorem b_p.calls (a0 : Int) (r : Bool) (w : World) (h : b_p.f a0 = some r) :
 Calls Try.prog 82 #[.int .u32 a0] w fun e w' => e = .returned (.bool r) ∧ c_F w w':=by
 have H : (some (decide (a0 < 256))) = some r:=h
 clear h
 obtain rfl:=Option.some.inj H
 go_enter Try.func82,Try.ntmps82
 go_wp2
 go_ret
 exact ⟨by first|rfl|(simp;done)|(simp [*];done),by repeat (first|exact c_F.refl _|apply c_F.step)⟩
end Go.Proofs.Ytgglkfilkagblaa.Q
end
section
namespace Go.Proofs.Ytgglkfilkagblaa.Q
open Go.RowKit Go.Proofs.YtgglkfilkagblaaW.PrintWords Go.Proofs.YtgglkfilkagblaaW.PrintLast Go.Proofs.YtgglkfilkagblaaW.PrintMore
set_option linter.unusedVariables false
set_option linter.unusedSimpArgs false
def b_D.f (a0_0 : Int) (a0_1 : Int) (a0_2 : Int) (a0_3 : Int) (a0_4 : Int) (a0_5 : Bool) (a0_6 : Bool) (a0_7 : Int) (a0_8 : Int) (a0_9 : Int) (a0_10 : Int) : Option (Bool):=if a0_0 < 1 then (some false) else (if a0_0 > 16 then (some false) else (if a0_1 < 1 then (some false) else (if a0_1 > 8 then (some false) else (if a0_2 < 0 then (some false) else (if a0_2 > 8 then (some false) else (if a0_3 < 0 then (some false) else (if a0_3 > 3 then (some false) else (if a0_4 < (-1) then (some false) else (if a0_4 > 7 then (some false) else ((b_p.f a0_7).bind fun t211 => (if t211 = true then (if a0_8 ≥ 1 then (if a0_8 ≤ 65535 then (if a0_9 ≥ 1 then (if a0_9 ≤ 8 then (if a0_10 ≥ 0 then (some (decide (a0_10 ≤ 800))) else (some false)) else (some false)) else (some false)) else (some false)) else (some false)) else (some false))))))))))))
set_option maxHeartbeats 8000000 in
set_option maxRecDepth 100000 in
theorem b_D.calls (a0_0 : Int) (a0_1 : Int) (a0_2 : Int) (a0_3 : Int) (a0_4 : Int) (a0_5 : Bool) (a0_6 : Bool) (a0_7 : Int) (a0_8 : Int) (a0_9 : Int) (a0_10 : Int) (r : Bool) (w : World) (h : b_D.f a0_0 a0_1 a0_2 a0_3 a0_4 a0_5 a0_6 a0_7 a0_8 a0_9 a0_10 = some r) :
 Calls Try.prog 54 #[.agg #[.int .i64 a0_0,.int .i64 a0_1,.int .i64 a0_2,.int .i64 a0_3,.int .i64 a0_4,.bool a0_5,.bool a0_6,.int .u32 a0_7,.int .i64 a0_8,.int .i64 a0_9,.int .i64 a0_10]] w fun e w' => e = .returned (.bool r) ∧ Below w.heap.size w w':=by
 have hu65:=Try.underlying65
 have HB:=a_d.mk (Below.refl w.heap.size w)
 have H : (if a0_0 < 1 then (some false) else (if a0_0 > 16 then (some false) else (if a0_1 < 1 then (some false) else (if a0_1 > 8 then (some false) else (if a0_2 < 0 then (some false) else (if a0_2 > 8 then (some false) else (if a0_3 < 0 then (some false) else (if a0_3 > 3 then (some false) else (if a0_4 < (-1) then (some false) else (if a0_4 > 7 then (some false) else ((b_p.f a0_7).bind fun t211 => (if t211 = true then (if a0_8 ≥ 1 then (if a0_8 ≤ 65535 then (if a0_9 ≥ 1 then (if a0_9 ≤ 8 then (if a0_10 ≥ 0 then (some (decide (a0_10 ≤ 800))) else (some false)) else (some false)) else (some false)) else (some false)) else (some false)) else (some false))))))))))))) = some r:=h
 clear h
 by_cases c2 : a0_0 < 1
 ·rw [if_pos c2] at H
  have c2b0 : decide (a0_0 < 1) = true:=decide_eq_true c2
  clear c2
  obtain rfl:=Option.some.inj H
  go_enter Try.func54,Try.ntmps54
  go_wp2_with (first|((with_reducible refine a_J (N:=1) rfl ?_);refine a_C ?hg (N:=1) ?hd (cs:=#[.int .i64 a0_0,.int .i64 a0_1,.int .i64 a0_2,.int .i64 a0_3,.int .i64 a0_4,.bool a0_5,.bool a0_6,.int .u32 a0_7,.int .i64 a0_8,.int .i64 a0_9,.int .i64 a0_10]) (t:=65) ?hr ?_;(case hd => rfl);(case hg => rfl);(case hr => first|(go_simp;done)|(go_simp;rfl));intro a_T hg w3 hbox hb;have a_D:=a_d.mk (hbox);have f_1:=a_d.mk ((by rw [hg];exact (a_n (lup_ HB.out)) : w.heap.size ≤ a_T));have d_P:=a_d.mk ((by rw [hg];exact (a_n (lup_ HB.out)) : w.heap.size ≤ a_T));replace HB:=a_d.mk (a_o (lup_ HB.out) hb);clear hb hbox hg;have r_E : w3.cell? ⟨a_T,0,none⟩ = some (.int .i64 a0_0):=(a_a a_D.out 0).trans rfl;have r_F : w3.cell? ⟨a_T,1,none⟩ = some (.int .i64 a0_1):=(a_a a_D.out 1).trans rfl;have G_j : w3.cell? ⟨a_T,2,none⟩ = some (.int .i64 a0_2):=(a_a a_D.out 2).trans rfl;have G_k : w3.cell? ⟨a_T,3,none⟩ = some (.int .i64 a0_3):=(a_a a_D.out 3).trans rfl;have G_l : w3.cell? ⟨a_T,4,none⟩ = some (.int .i64 a0_4):=(a_a a_D.out 4).trans rfl;have G_m : w3.cell? ⟨a_T,5,none⟩ = some (.bool a0_5):=(a_a a_D.out 5).trans rfl;have G_n : w3.cell? ⟨a_T,6,none⟩ = some (.bool a0_6):=(a_a a_D.out 6).trans rfl;have G_o : w3.cell? ⟨a_T,7,none⟩ = some (.int .u32 a0_7):=(a_a a_D.out 7).trans rfl;have G_p : w3.cell? ⟨a_T,8,none⟩ = some (.int .i64 a0_8):=(a_a a_D.out 8).trans rfl;have G_q : w3.cell? ⟨a_T,9,none⟩ = some (.int .i64 a0_9):=(a_a a_D.out 9).trans rfl;have x_i : w3.cell? ⟨a_T,10,none⟩ = some (.int .i64 a0_10):=(a_a a_D.out 10).trans rfl;have r_G:=a_b a_D.out 0;have r_H:=a_b a_D.out 1;have G_r:=a_b a_D.out 2;have G_s:=a_b a_D.out 3;have G_t:=a_b a_D.out 4;have G_u:=a_b a_D.out 5;have G_v:=a_b a_D.out 6;have G_w:=a_b a_D.out 7;have G_x:=a_b a_D.out 8;have G_y:=a_b a_D.out 9;have x_j:=a_b a_D.out 10))
  go_ret
  exact ⟨by first|rfl|(simp [a_w,a_x] <;> rfl)|(simp [*, a_w,a_x] <;> rfl),by repeat (first|(with_reducible first|exact HB.out|apply a_g|apply a_e|apply a_h|refine a_f ?_ d_P.out)|exact HB.out)⟩
 rw [if_neg c2] at H
 have c2b0 : decide (a0_0 < 1) = false:=decide_eq_false c2
 clear c2
 by_cases c5 : a0_0 > 16
 ·rw [if_pos c5] at H
  have c5b0 : decide (16 < a0_0) = true:=decide_eq_true c5
  clear c5
  obtain rfl:=Option.some.inj H
  go_enter Try.func54,Try.ntmps54
  go_wp2_with (first|((with_reducible refine a_J (N:=1) rfl ?_);refine a_C ?hg (N:=1) ?hd (cs:=#[.int .i64 a0_0,.int .i64 a0_1,.int .i64 a0_2,.int .i64 a0_3,.int .i64 a0_4,.bool a0_5,.bool a0_6,.int .u32 a0_7,.int .i64 a0_8,.int .i64 a0_9,.int .i64 a0_10]) (t:=65) ?hr ?_;(case hd => rfl);(case hg => rfl);(case hr => first|(go_simp;done)|(go_simp;rfl));intro a_T hg w6 hbox hb;have a_D:=a_d.mk (hbox);have f_1:=a_d.mk ((by rw [hg];exact (a_n (lup_ HB.out)) : w.heap.size ≤ a_T));have d_P:=a_d.mk ((by rw [hg];exact (a_n (lup_ HB.out)) : w.heap.size ≤ a_T));replace HB:=a_d.mk (a_o (lup_ HB.out) hb);clear hb hbox hg;have f_p : w6.cell? ⟨a_T,0,none⟩ = some (.int .i64 a0_0):=(a_a a_D.out 0).trans rfl;have f_q : w6.cell? ⟨a_T,1,none⟩ = some (.int .i64 a0_1):=(a_a a_D.out 1).trans rfl;have G_z : w6.cell? ⟨a_T,2,none⟩ = some (.int .i64 a0_2):=(a_a a_D.out 2).trans rfl;have G_A : w6.cell? ⟨a_T,3,none⟩ = some (.int .i64 a0_3):=(a_a a_D.out 3).trans rfl;have G_B : w6.cell? ⟨a_T,4,none⟩ = some (.int .i64 a0_4):=(a_a a_D.out 4).trans rfl;have G_C : w6.cell? ⟨a_T,5,none⟩ = some (.bool a0_5):=(a_a a_D.out 5).trans rfl;have G_D : w6.cell? ⟨a_T,6,none⟩ = some (.bool a0_6):=(a_a a_D.out 6).trans rfl;have G_E : w6.cell? ⟨a_T,7,none⟩ = some (.int .u32 a0_7):=(a_a a_D.out 7).trans rfl;have G_F : w6.cell? ⟨a_T,8,none⟩ = some (.int .i64 a0_8):=(a_a a_D.out 8).trans rfl;have G_G : w6.cell? ⟨a_T,9,none⟩ = some (.int .i64 a0_9):=(a_a a_D.out 9).trans rfl;have x_k : w6.cell? ⟨a_T,10,none⟩ = some (.int .i64 a0_10):=(a_a a_D.out 10).trans rfl;have f_r:=a_b a_D.out 0;have f_s:=a_b a_D.out 1;have G_H:=a_b a_D.out 2;have G_I:=a_b a_D.out 3;have G_J:=a_b a_D.out 4;have G_K:=a_b a_D.out 5;have G_L:=a_b a_D.out 6;have G_M:=a_b a_D.out 7;have G_N:=a_b a_D.out 8;have G_O:=a_b a_D.out 9;have x_l:=a_b a_D.out 10))
  go_ret
  exact ⟨by first|rfl|(simp [a_w,a_x] <;> rfl)|(simp [*, a_w,a_x] <;> rfl),by repeat (first|(with_reducible first|exact HB.out|apply a_g|apply a_e|apply a_h|refine a_f ?_ d_P.out)|exact HB.out)⟩
 rw [if_neg c5] at H
 have c5b0 : decide (16 < a0_0) = false:=decide_eq_false c5
 clear c5
 by_cases c8 : a0_1 < 1
 ·rw [if_pos c8] at H
  have c8b0 : decide (a0_1 < 1) = true:=decide_eq_true c8
  clear c8
  obtain rfl:=Option.some.inj H
  go_enter Try.func54,Try.ntmps54
  go_wp2_with (first|((with_reducible refine a_J (N:=1) rfl ?_);refine a_C ?hg (N:=1) ?hd (cs:=#[.int .i64 a0_0,.int .i64 a0_1,.int .i64 a0_2,.int .i64 a0_3,.int .i64 a0_4,.bool a0_5,.bool a0_6,.int .u32 a0_7,.int .i64 a0_8,.int .i64 a0_9,.int .i64 a0_10]) (t:=65) ?hr ?_;(case hd => rfl);(case hg => rfl);(case hr => first|(go_simp;done)|(go_simp;rfl));intro a_T hg w9 hbox hb;have a_D:=a_d.mk (hbox);have f_1:=a_d.mk ((by rw [hg];exact (a_n (lup_ HB.out)) : w.heap.size ≤ a_T));have d_P:=a_d.mk ((by rw [hg];exact (a_n (lup_ HB.out)) : w.heap.size ≤ a_T));replace HB:=a_d.mk (a_o (lup_ HB.out) hb);clear hb hbox hg;have f_t : w9.cell? ⟨a_T,0,none⟩ = some (.int .i64 a0_0):=(a_a a_D.out 0).trans rfl;have f_u : w9.cell? ⟨a_T,1,none⟩ = some (.int .i64 a0_1):=(a_a a_D.out 1).trans rfl;have o_A : w9.cell? ⟨a_T,2,none⟩ = some (.int .i64 a0_2):=(a_a a_D.out 2).trans rfl;have o_B : w9.cell? ⟨a_T,3,none⟩ = some (.int .i64 a0_3):=(a_a a_D.out 3).trans rfl;have o_C : w9.cell? ⟨a_T,4,none⟩ = some (.int .i64 a0_4):=(a_a a_D.out 4).trans rfl;have o_D : w9.cell? ⟨a_T,5,none⟩ = some (.bool a0_5):=(a_a a_D.out 5).trans rfl;have o_E : w9.cell? ⟨a_T,6,none⟩ = some (.bool a0_6):=(a_a a_D.out 6).trans rfl;have o_F : w9.cell? ⟨a_T,7,none⟩ = some (.int .u32 a0_7):=(a_a a_D.out 7).trans rfl;have o_G : w9.cell? ⟨a_T,8,none⟩ = some (.int .i64 a0_8):=(a_a a_D.out 8).trans rfl;have o_H : w9.cell? ⟨a_T,9,none⟩ = some (.int .i64 a0_9):=(a_a a_D.out 9).trans rfl;have m_I : w9.cell? ⟨a_T,10,none⟩ = some (.int .i64 a0_10):=(a_a a_D.out 10).trans rfl;have f_v:=a_b a_D.out 0;have f_w:=a_b a_D.out 1;have o_I:=a_b a_D.out 2;have o_J:=a_b a_D.out 3;have o_K:=a_b a_D.out 4;have o_L:=a_b a_D.out 5;have o_M:=a_b a_D.out 6;have o_N:=a_b a_D.out 7;have o_O:=a_b a_D.out 8;have o_P:=a_b a_D.out 9;have m_J:=a_b a_D.out 10))
  go_ret
  exact ⟨by first|rfl|(simp [a_w,a_x] <;> rfl)|(simp [*, a_w,a_x] <;> rfl),by repeat (first|(with_reducible first|exact HB.out|apply a_g|apply a_e|apply a_h|refine a_f ?_ d_P.out)|exact HB.out)⟩
 rw [if_neg c8] at H
 have c8b0 : decide (a0_1 < 1) = false:=decide_eq_false c8
 clear c8
 by_cases c11 : a0_1 > 8
 ·rw [if_pos c11] at H
  have c11b0 : decide (8 < a0_1) = true:=decide_eq_true c11
  clear c11
  obtain rfl:=Option.some.inj H
  go_enter Try.func54,Try.ntmps54
  go_wp2_with (first|((with_reducible refine a_J (N:=1) rfl ?_);refine a_C ?hg (N:=1) ?hd (cs:=#[.int .i64 a0_0,.int .i64 a0_1,.int .i64 a0_2,.int .i64 a0_3,.int .i64 a0_4,.bool a0_5,.bool a0_6,.int .u32 a0_7,.int .i64 a0_8,.int .i64 a0_9,.int .i64 a0_10]) (t:=65) ?hr ?_;(case hd => rfl);(case hg => rfl);(case hr => first|(go_simp;done)|(go_simp;rfl));intro a_T hg w12 hbox hb;have a_D:=a_d.mk (hbox);have f_1:=a_d.mk ((by rw [hg];exact (a_n (lup_ HB.out)) : w.heap.size ≤ a_T));have d_P:=a_d.mk ((by rw [hg];exact (a_n (lup_ HB.out)) : w.heap.size ≤ a_T));replace HB:=a_d.mk (a_o (lup_ HB.out) hb);clear hb hbox hg;have g_W : w12.cell? ⟨a_T,0,none⟩ = some (.int .i64 a0_0):=(a_a a_D.out 0).trans rfl;have g_X : w12.cell? ⟨a_T,1,none⟩ = some (.int .i64 a0_1):=(a_a a_D.out 1).trans rfl;have k_8 : w12.cell? ⟨a_T,2,none⟩ = some (.int .i64 a0_2):=(a_a a_D.out 2).trans rfl;have k_9 : w12.cell? ⟨a_T,3,none⟩ = some (.int .i64 a0_3):=(a_a a_D.out 3).trans rfl;have l_a : w12.cell? ⟨a_T,4,none⟩ = some (.int .i64 a0_4):=(a_a a_D.out 4).trans rfl;have l_b : w12.cell? ⟨a_T,5,none⟩ = some (.bool a0_5):=(a_a a_D.out 5).trans rfl;have l_d : w12.cell? ⟨a_T,6,none⟩ = some (.bool a0_6):=(a_a a_D.out 6).trans rfl;have l_e : w12.cell? ⟨a_T,7,none⟩ = some (.int .u32 a0_7):=(a_a a_D.out 7).trans rfl;have l_f : w12.cell? ⟨a_T,8,none⟩ = some (.int .i64 a0_8):=(a_a a_D.out 8).trans rfl;have l_g : w12.cell? ⟨a_T,9,none⟩ = some (.int .i64 a0_9):=(a_a a_D.out 9).trans rfl;have j_C : w12.cell? ⟨a_T,10,none⟩ = some (.int .i64 a0_10):=(a_a a_D.out 10).trans rfl;have g_Y:=a_b a_D.out 0;have g_Z:=a_b a_D.out 1;have l_h:=a_b a_D.out 2;have l_i:=a_b a_D.out 3;have l_j:=a_b a_D.out 4;have l_k:=a_b a_D.out 5;have l_l:=a_b a_D.out 6;have l_m:=a_b a_D.out 7;have l_n:=a_b a_D.out 8;have l_o:=a_b a_D.out 9;have j_D:=a_b a_D.out 10))
  go_ret
  exact ⟨by first|rfl|(simp [a_w,a_x] <;> rfl)|(simp [*, a_w,a_x] <;> rfl),by repeat (first|(with_reducible first|exact HB.out|apply a_g|apply a_e|apply a_h|refine a_f ?_ d_P.out)|exact HB.out)⟩
 rw [if_neg c11] at H
 have c11b0 : decide (8 < a0_1) = false:=decide_eq_false c11
 clear c11
 by_cases c14 : a0_2 < 0
 ·rw [if_pos c14] at H
  have c14b0 : decide (a0_2 < 0) = true:=decide_eq_true c14
  clear c14
  obtain rfl:=Option.some.inj H
  go_enter Try.func54,Try.ntmps54
  go_wp2_with (first|((with_reducible refine a_J (N:=1) rfl ?_);refine a_C ?hg (N:=1) ?hd (cs:=#[.int .i64 a0_0,.int .i64 a0_1,.int .i64 a0_2,.int .i64 a0_3,.int .i64 a0_4,.bool a0_5,.bool a0_6,.int .u32 a0_7,.int .i64 a0_8,.int .i64 a0_9,.int .i64 a0_10]) (t:=65) ?hr ?_;(case hd => rfl);(case hg => rfl);(case hr => first|(go_simp;done)|(go_simp;rfl));intro a_T hg w15 hbox hb;have a_D:=a_d.mk (hbox);have f_1:=a_d.mk ((by rw [hg];exact (a_n (lup_ HB.out)) : w.heap.size ≤ a_T));have d_P:=a_d.mk ((by rw [hg];exact (a_n (lup_ HB.out)) : w.heap.size ≤ a_T));replace HB:=a_d.mk (a_o (lup_ HB.out) hb);clear hb hbox hg;have j_E : w15.cell? ⟨a_T,0,none⟩ = some (.int .i64 a0_0):=(a_a a_D.out 0).trans rfl;have j_F : w15.cell? ⟨a_T,1,none⟩ = some (.int .i64 a0_1):=(a_a a_D.out 1).trans rfl;have s_p : w15.cell? ⟨a_T,2,none⟩ = some (.int .i64 a0_2):=(a_a a_D.out 2).trans rfl;have s_q : w15.cell? ⟨a_T,3,none⟩ = some (.int .i64 a0_3):=(a_a a_D.out 3).trans rfl;have s_r : w15.cell? ⟨a_T,4,none⟩ = some (.int .i64 a0_4):=(a_a a_D.out 4).trans rfl;have s_s : w15.cell? ⟨a_T,5,none⟩ = some (.bool a0_5):=(a_a a_D.out 5).trans rfl;have s_t : w15.cell? ⟨a_T,6,none⟩ = some (.bool a0_6):=(a_a a_D.out 6).trans rfl;have s_u : w15.cell? ⟨a_T,7,none⟩ = some (.int .u32 a0_7):=(a_a a_D.out 7).trans rfl;have s_v : w15.cell? ⟨a_T,8,none⟩ = some (.int .i64 a0_8):=(a_a a_D.out 8).trans rfl;have s_w : w15.cell? ⟨a_T,9,none⟩ = some (.int .i64 a0_9):=(a_a a_D.out 9).trans rfl;have r_f : w15.cell? ⟨a_T,10,none⟩ = some (.int .i64 a0_10):=(a_a a_D.out 10).trans rfl;have j_G:=a_b a_D.out 0;have j_H:=a_b a_D.out 1;have s_x:=a_b a_D.out 2;have s_y:=a_b a_D.out 3;have s_z:=a_b a_D.out 4;have s_A:=a_b a_D.out 5;have s_B:=a_b a_D.out 6;have s_C:=a_b a_D.out 7;have s_D:=a_b a_D.out 8;have s_E:=a_b a_D.out 9;have r_g:=a_b a_D.out 10))
  go_ret
  exact ⟨by first|rfl|(simp [a_w,a_x] <;> rfl)|(simp [*, a_w,a_x] <;> rfl),by repeat (first|(with_reducible first|exact HB.out|apply a_g|apply a_e|apply a_h|refine a_f ?_ d_P.out)|exact HB.out)⟩
 rw [if_neg c14] at H
 have c14b0 : decide (a0_2 < 0) = false:=decide_eq_false c14
 clear c14
 by_cases c17 : a0_2 > 8
 ·rw [if_pos c17] at H
  have c17b0 : decide (8 < a0_2) = true:=decide_eq_true c17
  clear c17
  obtain rfl:=Option.some.inj H
  go_enter Try.func54,Try.ntmps54
  go_wp2_with (first|((with_reducible refine a_J (N:=1) rfl ?_);refine a_C ?hg (N:=1) ?hd (cs:=#[.int .i64 a0_0,.int .i64 a0_1,.int .i64 a0_2,.int .i64 a0_3,.int .i64 a0_4,.bool a0_5,.bool a0_6,.int .u32 a0_7,.int .i64 a0_8,.int .i64 a0_9,.int .i64 a0_10]) (t:=65) ?hr ?_;(case hd => rfl);(case hg => rfl);(case hr => first|(go_simp;done)|(go_simp;rfl));intro a_T hg w18 hbox hb;have a_D:=a_d.mk (hbox);have f_1:=a_d.mk ((by rw [hg];exact (a_n (lup_ HB.out)) : w.heap.size ≤ a_T));have d_P:=a_d.mk ((by rw [hg];exact (a_n (lup_ HB.out)) : w.heap.size ≤ a_T));replace HB:=a_d.mk (a_o (lup_ HB.out) hb);clear hb hbox hg;have j_I : w18.cell? ⟨a_T,0,none⟩ = some (.int .i64 a0_0):=(a_a a_D.out 0).trans rfl;have j_J : w18.cell? ⟨a_T,1,none⟩ = some (.int .i64 a0_1):=(a_a a_D.out 1).trans rfl;have x_m : w18.cell? ⟨a_T,2,none⟩ = some (.int .i64 a0_2):=(a_a a_D.out 2).trans rfl;have x_n : w18.cell? ⟨a_T,3,none⟩ = some (.int .i64 a0_3):=(a_a a_D.out 3).trans rfl;have x_o : w18.cell? ⟨a_T,4,none⟩ = some (.int .i64 a0_4):=(a_a a_D.out 4).trans rfl;have x_p : w18.cell? ⟨a_T,5,none⟩ = some (.bool a0_5):=(a_a a_D.out 5).trans rfl;have x_q : w18.cell? ⟨a_T,6,none⟩ = some (.bool a0_6):=(a_a a_D.out 6).trans rfl;have x_r : w18.cell? ⟨a_T,7,none⟩ = some (.int .u32 a0_7):=(a_a a_D.out 7).trans rfl;have x_s : w18.cell? ⟨a_T,8,none⟩ = some (.int .i64 a0_8):=(a_a a_D.out 8).trans rfl;have x_t : w18.cell? ⟨a_T,9,none⟩ = some (.int .i64 a0_9):=(a_a a_D.out 9).trans rfl;have w_e : w18.cell? ⟨a_T,10,none⟩ = some (.int .i64 a0_10):=(a_a a_D.out 10).trans rfl;have j_K:=a_b a_D.out 0;have j_L:=a_b a_D.out 1;have x_u:=a_b a_D.out 2;have x_v:=a_b a_D.out 3;have x_w:=a_b a_D.out 4;have x_x:=a_b a_D.out 5;have x_y:=a_b a_D.out 6;have x_z:=a_b a_D.out 7;have x_A:=a_b a_D.out 8;have x_B:=a_b a_D.out 9;have w_f:=a_b a_D.out 10))
  go_ret
  exact ⟨by first|rfl|(simp [a_w,a_x] <;> rfl)|(simp [*, a_w,a_x] <;> rfl),by repeat (first|(with_reducible first|exact HB.out|apply a_g|apply a_e|apply a_h|refine a_f ?_ d_P.out)|exact HB.out)⟩
 rw [if_neg c17] at H
 have c17b0 : decide (8 < a0_2) = false:=decide_eq_false c17
 clear c17
 by_cases c20 : a0_3 < 0
 ·rw [if_pos c20] at H
  have c20b0 : decide (a0_3 < 0) = true:=decide_eq_true c20
  clear c20
  obtain rfl:=Option.some.inj H
  go_enter Try.func54,Try.ntmps54
  go_wp2_with (first|((with_reducible refine a_J (N:=1) rfl ?_);refine a_C ?hg (N:=1) ?hd (cs:=#[.int .i64 a0_0,.int .i64 a0_1,.int .i64 a0_2,.int .i64 a0_3,.int .i64 a0_4,.bool a0_5,.bool a0_6,.int .u32 a0_7,.int .i64 a0_8,.int .i64 a0_9,.int .i64 a0_10]) (t:=65) ?hr ?_;(case hd => rfl);(case hg => rfl);(case hr => first|(go_simp;done)|(go_simp;rfl));intro a_T hg w21 hbox hb;have a_D:=a_d.mk (hbox);have f_1:=a_d.mk ((by rw [hg];exact (a_n (lup_ HB.out)) : w.heap.size ≤ a_T));have d_P:=a_d.mk ((by rw [hg];exact (a_n (lup_ HB.out)) : w.heap.size ≤ a_T));replace HB:=a_d.mk (a_o (lup_ HB.out) hb);clear hb hbox hg;have x_C : w21.cell? ⟨a_T,0,none⟩ = some (.int .i64 a0_0):=(a_a a_D.out 0).trans rfl;have x_D : w21.cell? ⟨a_T,1,none⟩ = some (.int .i64 a0_1):=(a_a a_D.out 1).trans rfl;have x_E : w21.cell? ⟨a_T,2,none⟩ = some (.int .i64 a0_2):=(a_a a_D.out 2).trans rfl;have x_F : w21.cell? ⟨a_T,3,none⟩ = some (.int .i64 a0_3):=(a_a a_D.out 3).trans rfl;have x_G : w21.cell? ⟨a_T,4,none⟩ = some (.int .i64 a0_4):=(a_a a_D.out 4).trans rfl;have x_H : w21.cell? ⟨a_T,5,none⟩ = some (.bool a0_5):=(a_a a_D.out 5).trans rfl;have x_I : w21.cell? ⟨a_T,6,none⟩ = some (.bool a0_6):=(a_a a_D.out 6).trans rfl;have x_J : w21.cell? ⟨a_T,7,none⟩ = some (.int .u32 a0_7):=(a_a a_D.out 7).trans rfl;have x_K : w21.cell? ⟨a_T,8,none⟩ = some (.int .i64 a0_8):=(a_a a_D.out 8).trans rfl;have x_L : w21.cell? ⟨a_T,9,none⟩ = some (.int .i64 a0_9):=(a_a a_D.out 9).trans rfl;have w_g : w21.cell? ⟨a_T,10,none⟩ = some (.int .i64 a0_10):=(a_a a_D.out 10).trans rfl;have x_M:=a_b a_D.out 0;have x_N:=a_b a_D.out 1;have x_O:=a_b a_D.out 2;have x_P:=a_b a_D.out 3;have x_Q:=a_b a_D.out 4;have x_R:=a_b a_D.out 5;have x_S:=a_b a_D.out 6;have x_T:=a_b a_D.out 7;have x_U:=a_b a_D.out 8;have x_V:=a_b a_D.out 9;have w_h:=a_b a_D.out 10))
  go_ret
  exact ⟨by first|rfl|(simp [a_w,a_x] <;> rfl)|(simp [*, a_w,a_x] <;> rfl),by repeat (first|(with_reducible first|exact HB.out|apply a_g|apply a_e|apply a_h|refine a_f ?_ d_P.out)|exact HB.out)⟩
 rw [if_neg c20] at H
 have c20b0 : decide (a0_3 < 0) = false:=decide_eq_false c20
 clear c20
 by_cases c23 : a0_3 > 3
 ·rw [if_pos c23] at H
  have c23b0 : decide (3 < a0_3) = true:=decide_eq_true c23
  clear c23
  obtain rfl:=Option.some.inj H
  go_enter Try.func54,Try.ntmps54
  go_wp2_with (first|((with_reducible refine a_J (N:=1) rfl ?_);refine a_C ?hg (N:=1) ?hd (cs:=#[.int .i64 a0_0,.int .i64 a0_1,.int .i64 a0_2,.int .i64 a0_3,.int .i64 a0_4,.bool a0_5,.bool a0_6,.int .u32 a0_7,.int .i64 a0_8,.int .i64 a0_9,.int .i64 a0_10]) (t:=65) ?hr ?_;(case hd => rfl);(case hg => rfl);(case hr => first|(go_simp;done)|(go_simp;rfl));intro a_T hg w24 hbox hb;have a_D:=a_d.mk (hbox);have f_1:=a_d.mk ((by rw [hg];exact (a_n (lup_ HB.out)) : w.heap.size ≤ a_T));have d_P:=a_d.mk ((by rw [hg];exact (a_n (lup_ HB.out)) : w.heap.size ≤ a_T));replace HB:=a_d.mk (a_o (lup_ HB.out) hb);clear hb hbox hg;have o_Q : w24.cell? ⟨a_T,0,none⟩ = some (.int .i64 a0_0):=(a_a a_D.out 0).trans rfl;have o_R : w24.cell? ⟨a_T,1,none⟩ = some (.int .i64 a0_1):=(a_a a_D.out 1).trans rfl;have o_S : w24.cell? ⟨a_T,2,none⟩ = some (.int .i64 a0_2):=(a_a a_D.out 2).trans rfl;have o_T : w24.cell? ⟨a_T,3,none⟩ = some (.int .i64 a0_3):=(a_a a_D.out 3).trans rfl;have o_U : w24.cell? ⟨a_T,4,none⟩ = some (.int .i64 a0_4):=(a_a a_D.out 4).trans rfl;have o_V : w24.cell? ⟨a_T,5,none⟩ = some (.bool a0_5):=(a_a a_D.out 5).trans rfl;have o_W : w24.cell? ⟨a_T,6,none⟩ = some (.bool a0_6):=(a_a a_D.out 6).trans rfl;have o_X : w24.cell? ⟨a_T,7,none⟩ = some (.int .u32 a0_7):=(a_a a_D.out 7).trans rfl;have o_Y : w24.cell? ⟨a_T,8,none⟩ = some (.int .i64 a0_8):=(a_a a_D.out 8).trans rfl;have o_Z : w24.cell? ⟨a_T,9,none⟩ = some (.int .i64 a0_9):=(a_a a_D.out 9).trans rfl;have m_K : w24.cell? ⟨a_T,10,none⟩ = some (.int .i64 a0_10):=(a_a a_D.out 10).trans rfl;have o_0:=a_b a_D.out 0;have o_1:=a_b a_D.out 1;have o_2:=a_b a_D.out 2;have o_3:=a_b a_D.out 3;have o_4:=a_b a_D.out 4;have o_5:=a_b a_D.out 5;have o_6:=a_b a_D.out 6;have o_7:=a_b a_D.out 7;have o_8:=a_b a_D.out 8;have o_9:=a_b a_D.out 9;have m_L:=a_b a_D.out 10))
  go_ret
  exact ⟨by first|rfl|(simp [a_w,a_x] <;> rfl)|(simp [*, a_w,a_x] <;> rfl),by repeat (first|(with_reducible first|exact HB.out|apply a_g|apply a_e|apply a_h|refine a_f ?_ d_P.out)|exact HB.out)⟩
 rw [if_neg c23] at H
 have c23b0 : decide (3 < a0_3) = false:=decide_eq_false c23
 clear c23
 by_cases c26 : a0_4 < (-1)
 ·rw [if_pos c26] at H
  have c26b0 : decide (a0_4 < (-1)) = true:=decide_eq_true c26
  clear c26
  obtain rfl:=Option.some.inj H
  go_enter Try.func54,Try.ntmps54
  go_wp2_with (first|((with_reducible refine a_J (N:=1) rfl ?_);refine a_C ?hg (N:=1) ?hd (cs:=#[.int .i64 a0_0,.int .i64 a0_1,.int .i64 a0_2,.int .i64 a0_3,.int .i64 a0_4,.bool a0_5,.bool a0_6,.int .u32 a0_7,.int .i64 a0_8,.int .i64 a0_9,.int .i64 a0_10]) (t:=65) ?hr ?_;(case hd => rfl);(case hg => rfl);(case hr => first|(go_simp;done)|(go_simp;rfl));intro a_T hg w27 hbox hb;have a_D:=a_d.mk (hbox);have f_1:=a_d.mk ((by rw [hg];exact (a_n (lup_ HB.out)) : w.heap.size ≤ a_T));have d_P:=a_d.mk ((by rw [hg];exact (a_n (lup_ HB.out)) : w.heap.size ≤ a_T));replace HB:=a_d.mk (a_o (lup_ HB.out) hb);clear hb hbox hg;have h_M : w27.cell? ⟨a_T,0,none⟩ = some (.int .i64 a0_0):=(a_a a_D.out 0).trans rfl;have h_N : w27.cell? ⟨a_T,1,none⟩ = some (.int .i64 a0_1):=(a_a a_D.out 1).trans rfl;have p_a : w27.cell? ⟨a_T,2,none⟩ = some (.int .i64 a0_2):=(a_a a_D.out 2).trans rfl;have p_b : w27.cell? ⟨a_T,3,none⟩ = some (.int .i64 a0_3):=(a_a a_D.out 3).trans rfl;have p_c : w27.cell? ⟨a_T,4,none⟩ = some (.int .i64 a0_4):=(a_a a_D.out 4).trans rfl;have p_d : w27.cell? ⟨a_T,5,none⟩ = some (.bool a0_5):=(a_a a_D.out 5).trans rfl;have p_e : w27.cell? ⟨a_T,6,none⟩ = some (.bool a0_6):=(a_a a_D.out 6).trans rfl;have p_f : w27.cell? ⟨a_T,7,none⟩ = some (.int .u32 a0_7):=(a_a a_D.out 7).trans rfl;have p_g : w27.cell? ⟨a_T,8,none⟩ = some (.int .i64 a0_8):=(a_a a_D.out 8).trans rfl;have p_h : w27.cell? ⟨a_T,9,none⟩ = some (.int .i64 a0_9):=(a_a a_D.out 9).trans rfl;have m_M : w27.cell? ⟨a_T,10,none⟩ = some (.int .i64 a0_10):=(a_a a_D.out 10).trans rfl;have h_O:=a_b a_D.out 0;have h_P:=a_b a_D.out 1;have p_i:=a_b a_D.out 2;have p_j:=a_b a_D.out 3;have p_k:=a_b a_D.out 4;have p_l:=a_b a_D.out 5;have p_m:=a_b a_D.out 6;have p_n:=a_b a_D.out 7;have p_o:=a_b a_D.out 8;have p_p:=a_b a_D.out 9;have m_N:=a_b a_D.out 10))
  go_ret
  exact ⟨by first|rfl|(simp [a_w,a_x] <;> rfl)|(simp [*, a_w,a_x] <;> rfl),by repeat (first|(with_reducible first|exact HB.out|apply a_g|apply a_e|apply a_h|refine a_f ?_ d_P.out)|exact HB.out)⟩
 rw [if_neg c26] at H
 have c26b0 : decide (a0_4 < (-1)) = false:=decide_eq_false c26
 clear c26
 by_cases c29 : a0_4 > 7
 ·rw [if_pos c29] at H
  have c29b0 : decide (7 < a0_4) = true:=decide_eq_true c29
  clear c29
  obtain rfl:=Option.some.inj H
  go_enter Try.func54,Try.ntmps54
  go_wp2_with (first|((with_reducible refine a_J (N:=1) rfl ?_);refine a_C ?hg (N:=1) ?hd (cs:=#[.int .i64 a0_0,.int .i64 a0_1,.int .i64 a0_2,.int .i64 a0_3,.int .i64 a0_4,.bool a0_5,.bool a0_6,.int .u32 a0_7,.int .i64 a0_8,.int .i64 a0_9,.int .i64 a0_10]) (t:=65) ?hr ?_;(case hd => rfl);(case hg => rfl);(case hr => first|(go_simp;done)|(go_simp;rfl));intro a_T hg w30 hbox hb;have a_D:=a_d.mk (hbox);have f_1:=a_d.mk ((by rw [hg];exact (a_n (lup_ HB.out)) : w.heap.size ≤ a_T));have d_P:=a_d.mk ((by rw [hg];exact (a_n (lup_ HB.out)) : w.heap.size ≤ a_T));replace HB:=a_d.mk (a_o (lup_ HB.out) hb);clear hb hbox hg;have f_x : w30.cell? ⟨a_T,0,none⟩ = some (.int .i64 a0_0):=(a_a a_D.out 0).trans rfl;have f_y : w30.cell? ⟨a_T,1,none⟩ = some (.int .i64 a0_1):=(a_a a_D.out 1).trans rfl;have x_W : w30.cell? ⟨a_T,2,none⟩ = some (.int .i64 a0_2):=(a_a a_D.out 2).trans rfl;have x_X : w30.cell? ⟨a_T,3,none⟩ = some (.int .i64 a0_3):=(a_a a_D.out 3).trans rfl;have x_Y : w30.cell? ⟨a_T,4,none⟩ = some (.int .i64 a0_4):=(a_a a_D.out 4).trans rfl;have x_Z : w30.cell? ⟨a_T,5,none⟩ = some (.bool a0_5):=(a_a a_D.out 5).trans rfl;have x_0 : w30.cell? ⟨a_T,6,none⟩ = some (.bool a0_6):=(a_a a_D.out 6).trans rfl;have x_1 : w30.cell? ⟨a_T,7,none⟩ = some (.int .u32 a0_7):=(a_a a_D.out 7).trans rfl;have x_2 : w30.cell? ⟨a_T,8,none⟩ = some (.int .i64 a0_8):=(a_a a_D.out 8).trans rfl;have x_3 : w30.cell? ⟨a_T,9,none⟩ = some (.int .i64 a0_9):=(a_a a_D.out 9).trans rfl;have w_i : w30.cell? ⟨a_T,10,none⟩ = some (.int .i64 a0_10):=(a_a a_D.out 10).trans rfl;have f_z:=a_b a_D.out 0;have f_A:=a_b a_D.out 1;have x_4:=a_b a_D.out 2;have x_5:=a_b a_D.out 3;have x_6:=a_b a_D.out 4;have x_7:=a_b a_D.out 5;have x_8:=a_b a_D.out 6;have x_9:=a_b a_D.out 7;have y_a:=a_b a_D.out 8;have y_b:=a_b a_D.out 9;have w_j:=a_b a_D.out 10))
  go_ret
  exact ⟨by first|rfl|(simp [a_w,a_x] <;> rfl)|(simp [*, a_w,a_x] <;> rfl),by repeat (first|(with_reducible first|exact HB.out|apply a_g|apply a_e|apply a_h|refine a_f ?_ d_P.out)|exact HB.out)⟩
 rw [if_neg c29] at H
 have c29b0 : decide (7 < a0_4) = false:=decide_eq_false c29
 clear c29
 replace H:=Option.bind_eq_some_iff.mp H
 obtain ⟨t211,A320,H⟩:=H
 replace H : (if t211 = true then (if a0_8 ≥ 1 then (if a0_8 ≤ 65535 then (if a0_9 ≥ 1 then (if a0_9 ≤ 8 then (if a0_10 ≥ 0 then (some (decide (a0_10 ≤ 800))) else (some false)) else (some false)) else (some false)) else (some false)) else (some false)) else (some false)) = some r:=H
 have A32:=a_d.mk A320
 clear A320
 by_cases c33 : t211 = true
 rotate_left
 ·replace c33:=Bool.eq_false_iff.mpr c33
  subst c33
  have H1 : (some false) = some r:=by rw [if_neg (show ¬ (false = true) by decide)] at H;exact H
  clear H
  have H:=H1
  clear H1
  obtain rfl:=Option.some.inj H
  go_enter Try.func54,Try.ntmps54
  go_wp2_with (first|((with_reducible refine a_J (N:=1) rfl ?_);refine a_C ?hg (N:=1) ?hd (cs:=#[.int .i64 a0_0,.int .i64 a0_1,.int .i64 a0_2,.int .i64 a0_3,.int .i64 a0_4,.bool a0_5,.bool a0_6,.int .u32 a0_7,.int .i64 a0_8,.int .i64 a0_9,.int .i64 a0_10]) (t:=65) ?hr ?_;(case hd => rfl);(case hg => rfl);(case hr => first|(go_simp;done)|(go_simp;rfl));intro a_T hg w51 hbox hb;have a_D:=a_d.mk (hbox);have f_1:=a_d.mk ((by rw [hg];exact (a_n (lup_ HB.out)) : w.heap.size ≤ a_T));have d_P:=a_d.mk ((by rw [hg];exact (a_n (lup_ HB.out)) : w.heap.size ≤ a_T));replace HB:=a_d.mk (a_o (lup_ HB.out) hb);clear hb hbox hg;have p_q : w51.cell? ⟨a_T,0,none⟩ = some (.int .i64 a0_0):=(a_a a_D.out 0).trans rfl;have p_r : w51.cell? ⟨a_T,1,none⟩ = some (.int .i64 a0_1):=(a_a a_D.out 1).trans rfl;have y_c : w51.cell? ⟨a_T,2,none⟩ = some (.int .i64 a0_2):=(a_a a_D.out 2).trans rfl;have y_d : w51.cell? ⟨a_T,3,none⟩ = some (.int .i64 a0_3):=(a_a a_D.out 3).trans rfl;have y_e : w51.cell? ⟨a_T,4,none⟩ = some (.int .i64 a0_4):=(a_a a_D.out 4).trans rfl;have y_f : w51.cell? ⟨a_T,5,none⟩ = some (.bool a0_5):=(a_a a_D.out 5).trans rfl;have y_g : w51.cell? ⟨a_T,6,none⟩ = some (.bool a0_6):=(a_a a_D.out 6).trans rfl;have y_h : w51.cell? ⟨a_T,7,none⟩ = some (.int .u32 a0_7):=(a_a a_D.out 7).trans rfl;have y_i : w51.cell? ⟨a_T,8,none⟩ = some (.int .i64 a0_8):=(a_a a_D.out 8).trans rfl;have y_j : w51.cell? ⟨a_T,9,none⟩ = some (.int .i64 a0_9):=(a_a a_D.out 9).trans rfl;have w_k : w51.cell? ⟨a_T,10,none⟩ = some (.int .i64 a0_10):=(a_a a_D.out 10).trans rfl;have p_s:=a_b a_D.out 0;have p_t:=a_b a_D.out 1;have y_k:=a_b a_D.out 2;have y_l:=a_b a_D.out 3;have y_m:=a_b a_D.out 4;have y_n:=a_b a_D.out 5;have y_o:=a_b a_D.out 6;have y_p:=a_b a_D.out 7;have y_q:=a_b a_D.out 8;have y_r:=a_b a_D.out 9;have w_l:=a_b a_D.out 10)|((with_reducible refine b_a (f:=82) rfl ?_);refine c_v (some 53) rfl rfl Try.func82 (by kernel_rfl) rfl #[.int .u32 a0_7] rfl (by (try simp only [List.map_toArray,List.map_cons,List.map_nil]);first|done|rfl|(simp only [List.length_drop,List.length_take];rfl)) ?_;(with_reducible refine (b_p.calls a0_7 false _ A32.out).mono ?_);rintro e w' ⟨rfl,⟨nd,rfl⟩⟩;refine ⟨_,rfl,?_⟩))
  go_ret
  exact ⟨by first|rfl|(simp [a_w,a_x] <;> rfl)|(simp [*, a_w,a_x] <;> rfl),by repeat (first|(with_reducible first|exact HB.out|apply a_g|apply a_e|apply a_h|refine a_f ?_ d_P.out)|exact HB.out)⟩
 subst c33
 have H1 : (if a0_8 ≥ 1 then (if a0_8 ≤ 65535 then (if a0_9 ≥ 1 then (if a0_9 ≤ 8 then (if a0_10 ≥ 0 then (some (decide (a0_10 ≤ 800))) else (some false)) else (some false)) else (some false)) else (some false)) else (some false)) = some r:=by rw [if_pos rfl] at H;exact H
 clear H
 have H:=H1
 clear H1
 by_cases c34 : a0_8 ≥ 1
 rotate_left
 ·rw [if_neg c34] at H
  have c34b0 : decide (1 ≤ a0_8) = false:=decide_eq_false c34
  clear c34
  obtain rfl:=Option.some.inj H
  go_enter Try.func54,Try.ntmps54
  go_wp2_with (first|((with_reducible refine a_J (N:=1) rfl ?_);refine a_C ?hg (N:=1) ?hd (cs:=#[.int .i64 a0_0,.int .i64 a0_1,.int .i64 a0_2,.int .i64 a0_3,.int .i64 a0_4,.bool a0_5,.bool a0_6,.int .u32 a0_7,.int .i64 a0_8,.int .i64 a0_9,.int .i64 a0_10]) (t:=65) ?hr ?_;(case hd => rfl);(case hg => rfl);(case hr => first|(go_simp;done)|(go_simp;rfl));intro a_T hg w49 hbox hb;have a_D:=a_d.mk (hbox);have f_1:=a_d.mk ((by rw [hg];exact (a_n (lup_ HB.out)) : w.heap.size ≤ a_T));have d_P:=a_d.mk ((by rw [hg];exact (a_n (lup_ HB.out)) : w.heap.size ≤ a_T));replace HB:=a_d.mk (a_o (lup_ HB.out) hb);clear hb hbox hg;have p_u : w49.cell? ⟨a_T,0,none⟩ = some (.int .i64 a0_0):=(a_a a_D.out 0).trans rfl;have p_v : w49.cell? ⟨a_T,1,none⟩ = some (.int .i64 a0_1):=(a_a a_D.out 1).trans rfl;have s_F : w49.cell? ⟨a_T,2,none⟩ = some (.int .i64 a0_2):=(a_a a_D.out 2).trans rfl;have s_G : w49.cell? ⟨a_T,3,none⟩ = some (.int .i64 a0_3):=(a_a a_D.out 3).trans rfl;have s_H : w49.cell? ⟨a_T,4,none⟩ = some (.int .i64 a0_4):=(a_a a_D.out 4).trans rfl;have s_I : w49.cell? ⟨a_T,5,none⟩ = some (.bool a0_5):=(a_a a_D.out 5).trans rfl;have s_J : w49.cell? ⟨a_T,6,none⟩ = some (.bool a0_6):=(a_a a_D.out 6).trans rfl;have s_K : w49.cell? ⟨a_T,7,none⟩ = some (.int .u32 a0_7):=(a_a a_D.out 7).trans rfl;have s_L : w49.cell? ⟨a_T,8,none⟩ = some (.int .i64 a0_8):=(a_a a_D.out 8).trans rfl;have s_M : w49.cell? ⟨a_T,9,none⟩ = some (.int .i64 a0_9):=(a_a a_D.out 9).trans rfl;have r_h : w49.cell? ⟨a_T,10,none⟩ = some (.int .i64 a0_10):=(a_a a_D.out 10).trans rfl;have p_w:=a_b a_D.out 0;have p_x:=a_b a_D.out 1;have s_N:=a_b a_D.out 2;have s_O:=a_b a_D.out 3;have s_P:=a_b a_D.out 4;have s_Q:=a_b a_D.out 5;have s_R:=a_b a_D.out 6;have s_S:=a_b a_D.out 7;have s_T:=a_b a_D.out 8;have s_U:=a_b a_D.out 9;have r_i:=a_b a_D.out 10)|((with_reducible refine b_a (f:=82) rfl ?_);refine c_v (some 53) rfl rfl Try.func82 (by kernel_rfl) rfl #[.int .u32 a0_7] rfl (by (try simp only [List.map_toArray,List.map_cons,List.map_nil]);first|done|rfl|(simp only [List.length_drop,List.length_take];rfl)) ?_;(with_reducible refine (b_p.calls a0_7 true _ A32.out).mono ?_);rintro e w' ⟨rfl,⟨nd,rfl⟩⟩;refine ⟨_,rfl,?_⟩))
  go_ret
  exact ⟨by first|rfl|(simp [a_w,a_x] <;> rfl)|(simp [*, a_w,a_x] <;> rfl),by repeat (first|(with_reducible first|exact HB.out|apply a_g|apply a_e|apply a_h|refine a_f ?_ d_P.out)|exact HB.out)⟩
 rw [if_pos c34] at H
 have c34b0 : decide (1 ≤ a0_8) = true:=decide_eq_true c34
 clear c34
 by_cases c35 : a0_8 ≤ 65535
 rotate_left
 ·rw [if_neg c35] at H
  have c35b0 : decide (a0_8 ≤ 65535) = false:=decide_eq_false c35
  clear c35
  obtain rfl:=Option.some.inj H
  go_enter Try.func54,Try.ntmps54
  go_wp2_with (first|((with_reducible refine a_J (N:=1) rfl ?_);refine a_C ?hg (N:=1) ?hd (cs:=#[.int .i64 a0_0,.int .i64 a0_1,.int .i64 a0_2,.int .i64 a0_3,.int .i64 a0_4,.bool a0_5,.bool a0_6,.int .u32 a0_7,.int .i64 a0_8,.int .i64 a0_9,.int .i64 a0_10]) (t:=65) ?hr ?_;(case hd => rfl);(case hg => rfl);(case hr => first|(go_simp;done)|(go_simp;rfl));intro a_T hg w47 hbox hb;have a_D:=a_d.mk (hbox);have f_1:=a_d.mk ((by rw [hg];exact (a_n (lup_ HB.out)) : w.heap.size ≤ a_T));have d_P:=a_d.mk ((by rw [hg];exact (a_n (lup_ HB.out)) : w.heap.size ≤ a_T));replace HB:=a_d.mk (a_o (lup_ HB.out) hb);clear hb hbox hg;have s_V : w47.cell? ⟨a_T,0,none⟩ = some (.int .i64 a0_0):=(a_a a_D.out 0).trans rfl;have s_W : w47.cell? ⟨a_T,1,none⟩ = some (.int .i64 a0_1):=(a_a a_D.out 1).trans rfl;have y_s : w47.cell? ⟨a_T,2,none⟩ = some (.int .i64 a0_2):=(a_a a_D.out 2).trans rfl;have y_t : w47.cell? ⟨a_T,3,none⟩ = some (.int .i64 a0_3):=(a_a a_D.out 3).trans rfl;have y_u : w47.cell? ⟨a_T,4,none⟩ = some (.int .i64 a0_4):=(a_a a_D.out 4).trans rfl;have y_v : w47.cell? ⟨a_T,5,none⟩ = some (.bool a0_5):=(a_a a_D.out 5).trans rfl;have y_w : w47.cell? ⟨a_T,6,none⟩ = some (.bool a0_6):=(a_a a_D.out 6).trans rfl;have y_x : w47.cell? ⟨a_T,7,none⟩ = some (.int .u32 a0_7):=(a_a a_D.out 7).trans rfl;have y_y : w47.cell? ⟨a_T,8,none⟩ = some (.int .i64 a0_8):=(a_a a_D.out 8).trans rfl;have y_z : w47.cell? ⟨a_T,9,none⟩ = some (.int .i64 a0_9):=(a_a a_D.out 9).trans rfl;have w_m : w47.cell? ⟨a_T,10,none⟩ = some (.int .i64 a0_10):=(a_a a_D.out 10).trans rfl;have s_X:=a_b a_D.out 0;have s_Y:=a_b a_D.out 1;have y_A:=a_b a_D.out 2;have y_B:=a_b a_D.out 3;have y_C:=a_b a_D.out 4;have y_D:=a_b a_D.out 5;have y_E:=a_b a_D.out 6;have y_F:=a_b a_D.out 7;have y_G:=a_b a_D.out 8;have y_H:=a_b a_D.out 9;have w_n:=a_b a_D.out 10)|((with_reducible refine b_a (f:=82) rfl ?_);refine c_v (some 53) rfl rfl Try.func82 (by kernel_rfl) rfl #[.int .u32 a0_7] rfl (by (try simp only [List.map_toArray,List.map_cons,List.map_nil]);first|done|rfl|(simp only [List.length_drop,List.length_take];rfl)) ?_;(with_reducible refine (b_p.calls a0_7 true _ A32.out).mono ?_);rintro e w' ⟨rfl,⟨nd,rfl⟩⟩;refine ⟨_,rfl,?_⟩))
  go_ret
  exact ⟨by first|rfl|(simp [a_w,a_x] <;> rfl)|(simp [*, a_w,a_x] <;> rfl),by repeat (first|(with_reducible first|exact HB.out|apply a_g|apply a_e|apply a_h|refine a_f ?_ d_P.out)|exact HB.out)⟩
 rw [if_pos c35] at H
 have c35b0 : decide (a0_8 ≤ 65535) = true:=decide_eq_true c35
 clear c35
 by_cases c36 : a0_9 ≥ 1
 rotate_left
 ·rw [if_neg c36] at H
  have c36b0 : decide (1 ≤ a0_9) = false:=decide_eq_false c36
  clear c36
  obtain rfl:=Option.some.inj H
  go_enter Try.func54,Try.ntmps54
  go_wp2_with (first|((with_reducible refine a_J (N:=1) rfl ?_);refine a_C ?hg (N:=1) ?hd (cs:=#[.int .i64 a0_0,.int .i64 a0_1,.int .i64 a0_2,.int .i64 a0_3,.int .i64 a0_4,.bool a0_5,.bool a0_6,.int .u32 a0_7,.int .i64 a0_8,.int .i64 a0_9,.int .i64 a0_10]) (t:=65) ?hr ?_;(case hd => rfl);(case hg => rfl);(case hr => first|(go_simp;done)|(go_simp;rfl));intro a_T hg w45 hbox hb;have a_D:=a_d.mk (hbox);have f_1:=a_d.mk ((by rw [hg];exact (a_n (lup_ HB.out)) : w.heap.size ≤ a_T));have d_P:=a_d.mk ((by rw [hg];exact (a_n (lup_ HB.out)) : w.heap.size ≤ a_T));replace HB:=a_d.mk (a_o (lup_ HB.out) hb);clear hb hbox hg;have y_I : w45.cell? ⟨a_T,0,none⟩ = some (.int .i64 a0_0):=(a_a a_D.out 0).trans rfl;have y_J : w45.cell? ⟨a_T,1,none⟩ = some (.int .i64 a0_1):=(a_a a_D.out 1).trans rfl;have y_K : w45.cell? ⟨a_T,2,none⟩ = some (.int .i64 a0_2):=(a_a a_D.out 2).trans rfl;have y_L : w45.cell? ⟨a_T,3,none⟩ = some (.int .i64 a0_3):=(a_a a_D.out 3).trans rfl;have y_M : w45.cell? ⟨a_T,4,none⟩ = some (.int .i64 a0_4):=(a_a a_D.out 4).trans rfl;have y_N : w45.cell? ⟨a_T,5,none⟩ = some (.bool a0_5):=(a_a a_D.out 5).trans rfl;have y_O : w45.cell? ⟨a_T,6,none⟩ = some (.bool a0_6):=(a_a a_D.out 6).trans rfl;have y_P : w45.cell? ⟨a_T,7,none⟩ = some (.int .u32 a0_7):=(a_a a_D.out 7).trans rfl;have y_Q : w45.cell? ⟨a_T,8,none⟩ = some (.int .i64 a0_8):=(a_a a_D.out 8).trans rfl;have y_R : w45.cell? ⟨a_T,9,none⟩ = some (.int .i64 a0_9):=(a_a a_D.out 9).trans rfl;have w_o : w45.cell? ⟨a_T,10,none⟩ = some (.int .i64 a0_10):=(a_a a_D.out 10).trans rfl;have y_S:=a_b a_D.out 0;have y_T:=a_b a_D.out 1;have y_U:=a_b a_D.out 2;have y_V:=a_b a_D.out 3;have y_W:=a_b a_D.out 4;have y_X:=a_b a_D.out 5;have y_Y:=a_b a_D.out 6;have y_Z:=a_b a_D.out 7;have y_0:=a_b a_D.out 8;have y_1:=a_b a_D.out 9;have w_p:=a_b a_D.out 10)|((with_reducible refine b_a (f:=82) rfl ?_);refine c_v (some 53) rfl rfl Try.func82 (by kernel_rfl) rfl #[.int .u32 a0_7] rfl (by (try simp only [List.map_toArray,List.map_cons,List.map_nil]);first|done|rfl|(simp only [List.length_drop,List.length_take];rfl)) ?_;(with_reducible refine (b_p.calls a0_7 true _ A32.out).mono ?_);rintro e w' ⟨rfl,⟨nd,rfl⟩⟩;refine ⟨_,rfl,?_⟩))
  go_ret
  exact ⟨by first|rfl|(simp [a_w,a_x] <;> rfl)|(simp [*, a_w,a_x] <;> rfl),by repeat (first|(with_reducible first|exact HB.out|apply a_g|apply a_e|apply a_h|refine a_f ?_ d_P.out)|exact HB.out)⟩
 rw [if_pos c36] at H
 have c36b0 : decide (1 ≤ a0_9) = true:=decide_eq_true c36
 clear c36
 by_cases c37 : a0_9 ≤ 8
 rotate_left
 ·rw [if_neg c37] at H
  have c37b0 : decide (a0_9 ≤ 8) = false:=decide_eq_false c37
  clear c37
  obtain rfl:=Option.some.inj H
  go_enter Try.func54,Try.ntmps54
  go_wp2_with (first|((with_reducible refine a_J (N:=1) rfl ?_);refine a_C ?hg (N:=1) ?hd (cs:=#[.int .i64 a0_0,.int .i64 a0_1,.int .i64 a0_2,.int .i64 a0_3,.int .i64 a0_4,.bool a0_5,.bool a0_6,.int .u32 a0_7,.int .i64 a0_8,.int .i64 a0_9,.int .i64 a0_10]) (t:=65) ?hr ?_;(case hd => rfl);(case hg => rfl);(case hr => first|(go_simp;done)|(go_simp;rfl));intro a_T hg w43 hbox hb;have a_D:=a_d.mk (hbox);have f_1:=a_d.mk ((by rw [hg];exact (a_n (lup_ HB.out)) : w.heap.size ≤ a_T));have d_P:=a_d.mk ((by rw [hg];exact (a_n (lup_ HB.out)) : w.heap.size ≤ a_T));replace HB:=a_d.mk (a_o (lup_ HB.out) hb);clear hb hbox hg;have y_2 : w43.cell? ⟨a_T,0,none⟩ = some (.int .i64 a0_0):=(a_a a_D.out 0).trans rfl;have y_3 : w43.cell? ⟨a_T,1,none⟩ = some (.int .i64 a0_1):=(a_a a_D.out 1).trans rfl;have y_4 : w43.cell? ⟨a_T,2,none⟩ = some (.int .i64 a0_2):=(a_a a_D.out 2).trans rfl;have y_5 : w43.cell? ⟨a_T,3,none⟩ = some (.int .i64 a0_3):=(a_a a_D.out 3).trans rfl;have y_6 : w43.cell? ⟨a_T,4,none⟩ = some (.int .i64 a0_4):=(a_a a_D.out 4).trans rfl;have y_7 : w43.cell? ⟨a_T,5,none⟩ = some (.bool a0_5):=(a_a a_D.out 5).trans rfl;have y_8 : w43.cell? ⟨a_T,6,none⟩ = some (.bool a0_6):=(a_a a_D.out 6).trans rfl;have y_9 : w43.cell? ⟨a_T,7,none⟩ = some (.int .u32 a0_7):=(a_a a_D.out 7).trans rfl;have z_a : w43.cell? ⟨a_T,8,none⟩ = some (.int .i64 a0_8):=(a_a a_D.out 8).trans rfl;have z_b : w43.cell? ⟨a_T,9,none⟩ = some (.int .i64 a0_9):=(a_a a_D.out 9).trans rfl;have w_q : w43.cell? ⟨a_T,10,none⟩ = some (.int .i64 a0_10):=(a_a a_D.out 10).trans rfl;have z_c:=a_b a_D.out 0;have z_d:=a_b a_D.out 1;have z_e:=a_b a_D.out 2;have z_f:=a_b a_D.out 3;have z_g:=a_b a_D.out 4;have z_h:=a_b a_D.out 5;have z_i:=a_b a_D.out 6;have z_j:=a_b a_D.out 7;have z_k:=a_b a_D.out 8;have z_l:=a_b a_D.out 9;have w_r:=a_b a_D.out 10)|((with_reducible refine b_a (f:=82) rfl ?_);refine c_v (some 53) rfl rfl Try.func82 (by kernel_rfl) rfl #[.int .u32 a0_7] rfl (by (try simp only [List.map_toArray,List.map_cons,List.map_nil]);first|done|rfl|(simp only [List.length_drop,List.length_take];rfl)) ?_;(with_reducible refine (b_p.calls a0_7 true _ A32.out).mono ?_);rintro e w' ⟨rfl,⟨nd,rfl⟩⟩;refine ⟨_,rfl,?_⟩))
  go_ret
  exact ⟨by first|rfl|(simp [a_w,a_x] <;> rfl)|(simp [*, a_w,a_x] <;> rfl),by repeat (first|(with_reducible first|exact HB.out|apply a_g|apply a_e|apply a_h|refine a_f ?_ d_P.out)|exact HB.out)⟩
 rw [if_pos c37] at H
 have c37b0 : decide (a0_9 ≤ 8) = true:=decide_eq_true c37
 clear c37
 by_cases c38 : a0_10 ≥ 0
 ·rw [if_pos c38] at H
  have c38b0 : decide (0 ≤ a0_10) = true:=decide_eq_true c38
  clear c38
  obtain rfl:=Option.some.inj H
  go_enter Try.func54,Try.ntmps54
  go_wp2_with (first|((with_reducible refine a_J (N:=1) rfl ?_);refine a_C ?hg (N:=1) ?hd (cs:=#[.int .i64 a0_0,.int .i64 a0_1,.int .i64 a0_2,.int .i64 a0_3,.int .i64 a0_4,.bool a0_5,.bool a0_6,.int .u32 a0_7,.int .i64 a0_8,.int .i64 a0_9,.int .i64 a0_10]) (t:=65) ?hr ?_;(case hd => rfl);(case hg => rfl);(case hr => first|(go_simp;done)|(go_simp;rfl));intro a_T hg w39 hbox hb;have a_D:=a_d.mk (hbox);have f_1:=a_d.mk ((by rw [hg];exact (a_n (lup_ HB.out)) : w.heap.size ≤ a_T));have d_P:=a_d.mk ((by rw [hg];exact (a_n (lup_ HB.out)) : w.heap.size ≤ a_T));replace HB:=a_d.mk (a_o (lup_ HB.out) hb);clear hb hbox hg;have z_m : w39.cell? ⟨a_T,0,none⟩ = some (.int .i64 a0_0):=(a_a a_D.out 0).trans rfl;have z_n : w39.cell? ⟨a_T,1,none⟩ = some (.int .i64 a0_1):=(a_a a_D.out 1).trans rfl;have z_o : w39.cell? ⟨a_T,2,none⟩ = some (.int .i64 a0_2):=(a_a a_D.out 2).trans rfl;have z_p : w39.cell? ⟨a_T,3,none⟩ = some (.int .i64 a0_3):=(a_a a_D.out 3).trans rfl;have z_q : w39.cell? ⟨a_T,4,none⟩ = some (.int .i64 a0_4):=(a_a a_D.out 4).trans rfl;have z_r : w39.cell? ⟨a_T,5,none⟩ = some (.bool a0_5):=(a_a a_D.out 5).trans rfl;have z_s : w39.cell? ⟨a_T,6,none⟩ = some (.bool a0_6):=(a_a a_D.out 6).trans rfl;have z_t : w39.cell? ⟨a_T,7,none⟩ = some (.int .u32 a0_7):=(a_a a_D.out 7).trans rfl;have z_u : w39.cell? ⟨a_T,8,none⟩ = some (.int .i64 a0_8):=(a_a a_D.out 8).trans rfl;have z_v : w39.cell? ⟨a_T,9,none⟩ = some (.int .i64 a0_9):=(a_a a_D.out 9).trans rfl;have w_s : w39.cell? ⟨a_T,10,none⟩ = some (.int .i64 a0_10):=(a_a a_D.out 10).trans rfl;have z_w:=a_b a_D.out 0;have z_x:=a_b a_D.out 1;have z_y:=a_b a_D.out 2;have z_z:=a_b a_D.out 3;have z_A:=a_b a_D.out 4;have z_B:=a_b a_D.out 5;have z_C:=a_b a_D.out 6;have z_D:=a_b a_D.out 7;have z_E:=a_b a_D.out 8;have z_F:=a_b a_D.out 9;have w_t:=a_b a_D.out 10)|((with_reducible refine b_a (f:=82) rfl ?_);refine c_v (some 53) rfl rfl Try.func82 (by kernel_rfl) rfl #[.int .u32 a0_7] rfl (by (try simp only [List.map_toArray,List.map_cons,List.map_nil]);first|done|rfl|(simp only [List.length_drop,List.length_take];rfl)) ?_;(with_reducible refine (b_p.calls a0_7 true _ A32.out).mono ?_);rintro e w' ⟨rfl,⟨nd,rfl⟩⟩;refine ⟨_,rfl,?_⟩))
  go_ret
  exact ⟨by first|rfl|(simp [a_w,a_x] <;> rfl)|(simp [*, a_w,a_x] <;> rfl),by repeat (first|(with_reducible first|exact HB.out|apply a_g|apply a_e|apply a_h|refine a_f ?_ d_P.out)|exact HB.out)⟩
 rw [if_neg c38] at H
 have c38b0 : decide (0 ≤ a0_10) = false:=decide_eq_false c38
 clear c38
 obtain rfl:=Option.some.inj H
 go_enter Try.func54,Try.ntmps54
 go_wp2_with (first|((with_reducible refine a_J (N:=1) rfl ?_);refine a_C ?hg (N:=1) ?hd (cs:=#[.int .i64 a0_0,.int .i64 a0_1,.int .i64 a0_2,.int .i64 a0_3,.int .i64 a0_4,.bool a0_5,.bool a0_6,.int .u32 a0_7,.int .i64 a0_8,.int .i64 a0_9,.int .i64 a0_10]) (t:=65) ?hr ?_;(case hd => rfl);(case hg => rfl);(case hr => first|(go_simp;done)|(go_simp;rfl));intro a_T hg w41 hbox hb;have a_D:=a_d.mk (hbox);have f_1:=a_d.mk ((by rw [hg];exact (a_n (lup_ HB.out)) : w.heap.size ≤ a_T));have d_P:=a_d.mk ((by rw [hg];exact (a_n (lup_ HB.out)) : w.heap.size ≤ a_T));replace HB:=a_d.mk (a_o (lup_ HB.out) hb);clear hb hbox hg;have p_y : w41.cell? ⟨a_T,0,none⟩ = some (.int .i64 a0_0):=(a_a a_D.out 0).trans rfl;have p_z : w41.cell? ⟨a_T,1,none⟩ = some (.int .i64 a0_1):=(a_a a_D.out 1).trans rfl;have s_Z : w41.cell? ⟨a_T,2,none⟩ = some (.int .i64 a0_2):=(a_a a_D.out 2).trans rfl;have s_0 : w41.cell? ⟨a_T,3,none⟩ = some (.int .i64 a0_3):=(a_a a_D.out 3).trans rfl;have s_1 : w41.cell? ⟨a_T,4,none⟩ = some (.int .i64 a0_4):=(a_a a_D.out 4).trans rfl;have s_2 : w41.cell? ⟨a_T,5,none⟩ = some (.bool a0_5):=(a_a a_D.out 5).trans rfl;have s_3 : w41.cell? ⟨a_T,6,none⟩ = some (.bool a0_6):=(a_a a_D.out 6).trans rfl;have s_4 : w41.cell? ⟨a_T,7,none⟩ = some (.int .u32 a0_7):=(a_a a_D.out 7).trans rfl;have s_5 : w41.cell? ⟨a_T,8,none⟩ = some (.int .i64 a0_8):=(a_a a_D.out 8).trans rfl;have s_6 : w41.cell? ⟨a_T,9,none⟩ = some (.int .i64 a0_9):=(a_a a_D.out 9).trans rfl;have r_j : w41.cell? ⟨a_T,10,none⟩ = some (.int .i64 a0_10):=(a_a a_D.out 10).trans rfl;have p_A:=a_b a_D.out 0;have p_B:=a_b a_D.out 1;have s_7:=a_b a_D.out 2;have s_8:=a_b a_D.out 3;have s_9:=a_b a_D.out 4;have t_a:=a_b a_D.out 5;have t_b:=a_b a_D.out 6;have t_c:=a_b a_D.out 7;have t_d:=a_b a_D.out 8;have t_e:=a_b a_D.out 9;have r_k:=a_b a_D.out 10)|((with_reducible refine b_a (f:=82) rfl ?_);refine c_v (some 53) rfl rfl Try.func82 (by kernel_rfl) rfl #[.int .u32 a0_7] rfl (by (try simp only [List.map_toArray,List.map_cons,List.map_nil]);first|done|rfl|(simp only [List.length_drop,List.length_take];rfl)) ?_;(with_reducible refine (b_p.calls a0_7 true _ A32.out).mono ?_);rintro e w' ⟨rfl,⟨nd,rfl⟩⟩;refine ⟨_,rfl,?_⟩))
 go_ret
 exact ⟨by first|rfl|(simp [a_w,a_x] <;> rfl)|(simp [*, a_w,a_x] <;> rfl),by repeat (first|(with_reducible first|exact HB.out|apply a_g|apply a_e|apply a_h|refine a_f ?_ d_P.out)|exact HB.out)⟩
end Go.Proofs.Ytgglkfilkagblaa.Q
end
