/- Part 3 of 14 of what the row of AuditAdds stands on: contracts over the given program's functions, the plain law, the row; no condition beyond those that each theorem states. -/
import Derived.Test.YtgglkfilkagblaaXAuditAdds1
import Derived.Test.YtgglkfilkagblaaProg
import Derived.Shelf.Abstract
import Derived.Laws.EntriesVeiled
import Derived.WalkSpells
import Derived.Test.YtgglkfilkagblaaRows
import Derived.Deep.Slices
import Derived.ChangeArms
import Derived.DataReads
import Derived.ProofKit
import Derived.OpenShut
import Derived.ChangeOld
import Derived.SizedLaws
section
namespace Go.Proofs.Ytgglkfilkagblaa
open Go.RowKit Go.Proofs.YtgglkfilkagblaaW.PrintWords Go.Proofs.YtgglkfilkagblaaW.PrintLast Go.Proofs.YtgglkfilkagblaaW.PrintMore
def Up_ (w W : World) : Prop:=Below w.heap.size w W
instance (priority:=low) up0_ (w : World) : Nonempty (Up_ w w):=⟨Below.refl _ _⟩
instance upA_ (w W : World) (o : Obj) [h : Nonempty (Up_ w W)] : Nonempty (Up_ w (W.alloc o)):=h.elim fun h => ⟨a_g h o⟩
instance upN_ (w W : World) (n : Nat) [h : Nonempty (Up_ w W)] : Nonempty (Up_ w (W.drewN n)):=h.elim fun h => ⟨a_f h n⟩
instance upD_ (w W : World) [h : Nonempty (Up_ w W)] : Nonempty (Up_ w W.drew):=h.elim fun h => ⟨f_y h⟩
theorem bup_ {w W : World} {g : Nat} {o : Obj} (h : w.heap[g]? = some o) [u : Nonempty (Up_ w W)] : W.heap[g]? = some o:=u.elim fun b => a_l h b
theorem rup_ {α : Type} {d : Kd α} {e : Nat} {w W : World} {base : Nat} {ok : Nat → Prop} {v : Value} {xs : List α} (h : d.R e w base ok v xs) [u : Nonempty (Up_ w W)] : d.R e W base ok v xs:=u.elim fun b => Kd.f_d h b
theorem lup_ {w0 w W : World} (h : Below w0.heap.size w0 w) [u : Nonempty (Up_ w W)] : Below w0.heap.size w0 W:=u.elim fun b => a_t h b
abbrev T_ : Bool:=true
abbrev F_ : Bool:=false
theorem sa_ {α : Type} (l : List α) (i : Nat) (a : α) : l.toArray.setIfInBounds i a = (l.set i a).toArray:=List.setIfInBounds_toArray l i a
theorem sb_ {α : Type} (x : α) (l : List α) (a : α) : (x :: l).set 0 a = a :: l:=rfl
theorem sc_ {α : Type} (x : α) (l : List α) (i : Nat) (a : α) : (x :: l).set (i + 1) a = x :: l.set i a:=rfl
abbrev Z0_ : Array Bool:=#[F_,F_,F_,F_,F_,F_,F_,F_,F_,F_,F_,F_,F_,F_,F_,F_,F_,F_,F_,F_,F_,F_,F_,F_,F_,F_,F_,F_,F_,F_,F_,F_,F_,F_,F_,F_,F_,F_]
abbrev Z1_ : Array Bool:=#[F_,F_,F_,F_,F_,F_,F_,F_,F_,F_,F_,F_,F_,F_,F_,F_,F_,F_,F_,F_,F_,F_,F_,F_,F_,F_,F_,F_,F_,F_,F_,F_,F_,F_,F_,F_,F_]
abbrev Z2_ : Array Bool:=#[F_,F_,F_,F_,F_,F_,F_,F_,F_,F_,F_,F_,F_,F_,F_,F_,F_,F_,F_,F_,F_,F_,F_,F_,F_,F_]
abbrev Z3_ : Array Bool:=#[F_,F_,F_,F_,F_,F_,F_,F_,F_,F_,F_,F_,F_,F_,F_,F_,F_,F_,F_]
abbrev Z4_ : Array Bool:=#[F_,F_,F_,F_,F_,F_,F_,F_,F_,F_,F_,F_,F_]
abbrev Z5_ : Array Bool:=#[F_,F_,F_,F_,F_,F_,F_,F_,F_]
abbrev Z6_ : Array Bool:=#[T_,F_,F_,F_,F_,F_,F_,F_,F_,F_,F_,F_,F_,F_,F_,F_,F_,F_,F_,F_,F_,F_,F_,F_,F_,F_,F_,F_,F_,F_,F_,F_,F_,F_,F_,F_,F_,F_]
abbrev Z7_ : Array Bool:=#[T_,F_,F_,F_,F_,F_,F_,F_,F_,F_,F_,F_,F_,F_,F_,F_,F_,F_,F_,F_,F_,F_,F_,F_,F_,F_,F_,F_,F_,F_,F_,F_,F_,F_,F_,F_,F_]
abbrev Z8_ : Array Bool:=#[T_,F_,F_,F_,F_,F_,F_,F_,F_,F_,F_,F_,F_,F_,F_,F_,F_,F_,F_,F_,F_,F_,F_,F_,F_,F_]
abbrev Z9_ : Array Bool:=#[T_,F_,F_,F_,F_,F_,F_,F_,F_,F_,F_,F_,F_,F_,F_,F_,F_,F_,F_]
abbrev Z10_ : Array Bool:=#[T_,F_,F_,F_,F_,F_,F_,F_,F_,F_,F_,F_,F_]
abbrev Z11_ : Array Bool:=#[T_,F_,F_,F_,F_,F_,F_,F_,F_]
abbrev Z12_ : Array Bool:=#[T_,F_,F_,F_,T_,F_,F_,F_,F_]
abbrev Z13_ : Array Bool:=#[T_,F_,T_,F_,F_,F_,F_,F_,F_,F_,F_,F_,F_,F_,F_,F_,F_,F_,F_,F_,F_,F_,F_,F_,F_,F_,F_,F_,F_,F_,F_,F_,F_,F_,F_,F_,F_,F_]
abbrev Z14_ : Array Bool:=#[T_,T_,F_,F_,F_,F_,F_,F_,F_,F_,F_,F_,F_,F_,F_,F_,F_,F_,F_,F_,F_,F_,F_,F_,F_,F_,F_,F_,F_,F_,F_,F_,F_,F_,F_,F_,F_]
abbrev Z15_ : Array Bool:=#[T_,T_,F_,F_,F_,F_,F_,F_,F_,F_,F_,F_,F_,F_,F_,F_,F_,F_,F_,F_,F_,F_,F_,F_,F_,F_]
abbrev Z16_ : Array Bool:=#[T_,T_,F_,F_,F_,F_,F_,F_,F_,F_,F_,F_,F_,F_,F_,F_,F_,F_,F_]
abbrev Z17_ : Array Bool:=#[T_,T_,F_,F_,T_,F_,F_,F_,F_]
abbrev Z18_ : Array Bool:=#[T_,T_,F_,F_,T_,T_,F_,F_,F_]
abbrev Z19_ : Array Bool:=#[T_,T_,T_,F_,F_,F_,F_,F_,F_,F_,F_,F_,F_,F_,F_,F_,F_,F_,F_,F_,F_,F_,F_,F_,F_,F_,F_,F_,F_,F_,F_,F_,F_,F_,F_,F_,F_,F_]
abbrev Z20_ : Array Bool:=#[T_,T_,T_,F_,F_,F_,F_,F_,F_,F_,F_,F_,F_,F_,F_,F_,F_,F_,F_,F_,F_,F_,F_,F_,F_,F_,F_,F_,F_,F_,F_,F_,F_,F_,F_,F_,F_]
abbrev Z21_ : Array Bool:=#[T_,T_,T_,F_,F_,F_,F_,F_,F_,F_,F_,F_,F_,F_,F_,F_,F_,F_,F_,F_,F_,F_,F_,F_,F_,F_]
abbrev Z22_ : Array Bool:=#[T_,T_,T_,F_,F_,F_,F_,F_,F_,F_,F_,F_,F_,F_,F_,F_,F_,F_,F_]
abbrev Z23_ : Array Bool:=#[T_,T_,T_,F_,T_,T_,F_,F_,F_]
abbrev Z24_ : Array Bool:=#[T_,T_,T_,T_,F_,F_,F_,F_,F_,F_,F_,F_,F_,F_,F_,F_,F_,F_,F_,F_,F_,F_,F_,F_,F_,F_,F_,F_,F_,F_,F_,F_,F_,F_,F_,F_,F_,F_]
abbrev Z25_ : Array Bool:=#[T_,T_,T_,T_,F_,F_,F_,F_,F_,F_,F_,F_,F_,F_,F_,F_,F_,F_,F_,F_,F_,F_,F_,F_,F_,F_,F_,F_,F_,F_,F_,F_,F_,F_,F_,F_,F_]
abbrev Z26_ : Array Bool:=#[T_,T_,T_,T_,F_,F_,F_,F_,F_,F_,F_,F_,F_,F_,F_,F_,F_,F_,F_,F_,F_,F_,F_,F_,F_,F_]
abbrev Z27_ : Array Bool:=#[T_,T_,T_,T_,F_,F_,F_,F_,F_,F_,F_,F_,F_,F_,F_,F_,F_,F_,F_]
abbrev Z28_ : Array Bool:=#[T_,T_,T_,T_,T_,F_,F_,F_,F_,F_,F_,F_,F_,F_,F_,F_,F_,F_,F_,F_,F_,F_,F_,F_,F_,F_,F_,F_,F_,F_,F_,F_,F_,F_,F_,F_,F_,F_]
abbrev Z29_ : Array Bool:=#[T_,T_,T_,T_,T_,F_,F_,F_,F_,F_,F_,F_,F_,F_,F_,F_,F_,F_,F_,F_,F_,F_,F_,F_,F_,F_,F_,F_,F_,F_,F_,F_,F_,F_,F_,F_,F_]
abbrev Z30_ : Array Bool:=#[T_,T_,T_,T_,T_,F_,F_,F_,F_,F_,F_,F_,F_,F_,F_,F_,F_,F_,F_,F_,F_,F_,F_,F_,F_,F_]
abbrev Z31_ : Array Bool:=#[T_,T_,T_,T_,T_,F_,F_,F_,F_,F_,F_,F_,F_,F_,F_,F_,F_,F_,F_]
abbrev Z32_ : Array Bool:=#[T_,T_,T_,T_,T_,F_,T_,F_,F_,F_,F_,F_,F_,F_,F_,F_,F_,F_,F_,F_,F_,F_,F_,F_,F_,F_]
abbrev Z33_ : Array Bool:=#[T_,T_,T_,T_,T_,T_,F_,F_,F_,F_,F_,F_,F_,F_,F_,F_,F_,F_,F_,F_,F_,F_,F_,F_,F_,F_,F_,F_,F_,F_,F_,F_,F_,F_,F_,F_,F_,F_]
abbrev Z34_ : Array Bool:=#[T_,T_,T_,T_,T_,T_,F_,F_,F_,F_,F_,F_,F_,F_,F_,F_,F_,F_,F_,F_,F_,F_,F_,F_,F_,F_,F_,F_,F_,F_,F_,F_,F_,F_,F_,F_,F_]
abbrev Z35_ : Array Bool:=#[T_,T_,T_,T_,T_,T_,F_,F_,F_,F_,F_,F_,F_,F_,F_,F_,F_,F_,F_]
abbrev Z36_ : Array Bool:=#[T_,T_,T_,T_,T_,T_,F_,F_,F_]
abbrev Z37_ : Array Bool:=#[T_,T_,T_,T_,T_,T_,T_,F_,F_,F_,F_,F_,F_,F_,F_,F_,F_,F_,F_,F_,F_,F_,F_,F_,F_,F_,F_,F_,F_,F_,F_,F_,F_,F_,F_,F_,F_,F_]
abbrev Z38_ : Array Bool:=#[T_,T_,T_,T_,T_,T_,T_,F_,F_,F_,F_,F_,F_,F_,F_,F_,F_,F_,F_,F_,F_,F_,F_,F_,F_,F_,F_,F_,F_,F_,F_,F_,F_,F_,F_,F_,F_]
abbrev Z39_ : Array Bool:=#[T_,T_,T_,T_,T_,T_,T_,F_,F_,F_,F_,F_,F_,F_,F_,F_,F_,F_,F_,F_,F_,F_,F_,F_,F_,F_]
abbrev Z40_ : Array Bool:=#[T_,T_,T_,T_,T_,T_,T_,F_,F_,F_,F_,F_,F_,F_,F_,F_,F_,F_,F_]
abbrev Z41_ : Array Bool:=#[T_,T_,T_,T_,T_,T_,T_,F_,F_,F_,F_,F_,F_]
abbrev Z42_ : Array Bool:=#[T_,T_,T_,T_,T_,T_,T_,F_,F_]
abbrev Z43_ : Array Bool:=#[T_,T_,T_,T_,T_,T_,T_,T_,F_,F_,F_,F_,F_,F_,F_,F_,F_,F_,F_,F_,F_,F_,F_,F_,F_,F_,F_,F_,F_,F_,F_,F_,F_,F_,F_,F_,F_,F_]
abbrev Z44_ : Array Bool:=#[T_,T_,T_,T_,T_,T_,T_,T_,F_,F_,F_,F_,F_,F_,F_,F_,F_,F_,F_,F_,F_,F_,F_,F_,F_,F_,F_,F_,F_,F_,F_,F_,F_,F_,F_,F_,F_]
abbrev Z45_ : Array Bool:=#[T_,T_,T_,T_,T_,T_,T_,T_,F_,F_,F_,F_,F_,F_,F_,F_,F_,F_,F_,F_,F_,F_,F_,F_,F_,F_]
abbrev Z46_ : Array Bool:=#[T_,T_,T_,T_,T_,T_,T_,T_,F_,F_,F_,F_,F_,F_,F_,F_,F_,F_,F_]
abbrev Z47_ : Array Bool:=#[T_,T_,T_,T_,T_,T_,T_,T_,F_,F_,F_,F_,F_]
abbrev Z48_ : Array Bool:=#[T_,T_,T_,T_,T_,T_,T_,T_,F_,T_,F_,F_,F_,F_,F_,F_,F_,F_,F_,F_,F_,F_,F_,F_,F_,F_,F_,F_,F_,F_,F_,F_,F_,F_,F_,F_,F_]
abbrev Z49_ : Array Bool:=#[T_,T_,T_,T_,T_,T_,T_,T_,F_,T_,T_,F_,F_,F_,F_,F_,F_,F_,F_,F_,F_,F_,F_,F_,F_,F_,F_,F_,F_,F_,F_,F_,F_,F_,F_,F_,F_]
abbrev Z50_ : Array Bool:=#[T_,T_,T_,T_,T_,T_,T_,T_,F_,T_,T_,F_,F_,F_,T_,F_,F_,F_,F_,F_,F_,F_,F_,F_,F_,F_,F_,F_,F_,F_,F_,F_,F_,F_,F_,F_,F_]
abbrev Z51_ : Array Bool:=#[T_,T_,T_,T_,T_,T_,T_,T_,F_]
abbrev Z52_ : Array Bool:=#[T_,T_,T_,T_,T_,T_,T_,T_,T_,F_,F_,F_,F_,F_,F_,F_,F_,F_,F_,F_,F_,F_,F_,F_,F_,F_,F_,F_,F_,F_,F_,F_,F_,F_,F_,F_,F_,F_]
abbrev Z53_ : Array Bool:=#[T_,T_,T_,T_,T_,T_,T_,T_,T_,F_,F_,F_,F_,F_,F_,F_,F_,F_,F_,F_,F_,F_,F_,F_,F_,F_,F_,F_,F_,F_,F_,F_,F_,F_,F_,F_,F_]
abbrev Z54_ : Array Bool:=#[T_,T_,T_,T_,T_,T_,T_,T_,T_,F_,F_,F_,F_,F_,F_,F_,F_,F_,F_,F_,F_,F_,F_,F_,F_,F_]
abbrev Z55_ : Array Bool:=#[T_,T_,T_,T_,T_,T_,T_,T_,T_,F_,F_,F_,F_,F_,F_,F_,F_,F_,F_]
abbrev Z56_ : Array Bool:=#[T_,T_,T_,T_,T_,T_,T_,T_,T_,F_,T_,F_,F_,F_,F_,F_,F_,F_,F_,F_,F_,F_,F_,F_,F_,F_,F_,F_,F_,F_,F_,F_,F_,F_,F_,F_,F_,F_]
abbrev Z57_ : Array Bool:=#[T_,T_,T_,T_,T_,T_,T_,T_,T_,F_,T_,F_,F_,F_,T_,F_,F_,F_,F_,F_,F_,F_,F_,F_,F_,F_,F_,F_,F_,F_,F_,F_,F_,F_,F_,F_,F_,F_]
abbrev Z58_ : Array Bool:=#[T_,T_,T_,T_,T_,T_,T_,T_,T_,T_,F_,F_,F_,F_,F_,F_,F_,F_,F_,F_,F_,F_,F_,F_,F_,F_,F_,F_,F_,F_,F_,F_,F_,F_,F_,F_,F_]
abbrev Z59_ : Array Bool:=#[T_,T_,T_,T_,T_,T_,T_,T_,T_,T_,F_,F_,F_,F_,F_,F_,F_,F_,F_,F_,F_,F_,F_,F_,F_,F_]
abbrev Z60_ : Array Bool:=#[T_,T_,T_,T_,T_,T_,T_,T_,T_,T_,F_,F_,F_,F_,F_,F_,F_,F_,F_]
abbrev Z61_ : Array Bool:=#[T_,T_,T_,T_,T_,T_,T_,T_,T_,T_,F_,F_,F_]
abbrev Z62_ : Array Bool:=#[T_,T_,T_,T_,T_,T_,T_,T_,T_,T_,T_,F_,F_,F_,F_,F_,F_,F_,F_,F_,F_,F_,F_,F_,F_,F_,F_,F_,F_,F_,F_,F_,F_,F_,F_,F_,F_]
abbrev Z63_ : Array Bool:=#[T_,T_,T_,T_,T_,T_,T_,T_,T_,T_,T_,F_,F_,F_,F_,F_,F_,F_,F_,F_,F_,F_,F_,F_,F_,F_]
abbrev Z64_ : Array Bool:=#[T_,T_,T_,T_,T_,T_,T_,T_,T_,T_,T_,F_,F_,F_,F_,F_,F_,F_,F_]
abbrev Z65_ : Array Bool:=#[T_,T_,T_,T_,T_,T_,T_,T_,T_,T_,T_,F_,F_,F_,T_,F_,F_,F_,F_,F_,F_,F_,F_,F_,F_,F_,F_,F_,F_,F_,F_,F_,F_,F_,F_,F_,F_,F_]
abbrev Z66_ : Array Bool:=#[T_,T_,T_,T_,T_,T_,T_,T_,T_,T_,T_,F_,F_,F_,T_,F_,F_,F_,F_,F_,F_,F_,F_,F_,F_,F_,F_,F_,F_,F_,F_,F_,F_,F_,F_,F_,F_]
abbrev Z67_ : Array Bool:=#[T_,T_,T_,T_,T_,T_,T_,T_,T_,T_,T_,F_,F_]
abbrev Z68_ : Array Bool:=#[T_,T_,T_,T_,T_,T_,T_,T_,T_,T_,T_,T_,F_,F_,F_,F_,F_,F_,F_,F_,F_,F_,F_,F_,F_,F_,F_,F_,F_,F_,F_,F_,F_,F_,F_,F_,F_]
abbrev Z69_ : Array Bool:=#[T_,T_,T_,T_,T_,T_,T_,T_,T_,T_,T_,T_,F_,F_,F_,F_,F_,F_,F_,F_,F_,F_,F_,F_,F_,F_]
abbrev Z70_ : Array Bool:=#[T_,T_,T_,T_,T_,T_,T_,T_,T_,T_,T_,T_,F_,F_,F_,F_,F_,F_,F_]
abbrev Z71_ : Array Bool:=#[T_,T_,T_,T_,T_,T_,T_,T_,T_,T_,T_,T_,F_,F_,T_,F_,F_,F_,F_,F_,F_,F_,F_,F_,F_,F_,F_,F_,F_,F_,F_,F_,F_,F_,F_,F_,F_,F_]
abbrev Z72_ : Array Bool:=#[T_,T_,T_,T_,T_,T_,T_,T_,T_,T_,T_,T_,F_,F_,T_,F_,F_,F_,F_,F_,F_,F_,F_,F_,F_,F_,F_,F_,F_,F_,F_,F_,F_,F_,F_,F_,F_]
abbrev Z73_ : Array Bool:=#[T_,T_,T_,T_,T_,T_,T_,T_,T_,T_,T_,T_,F_]
abbrev Z74_ : Array Bool:=#[T_,T_,T_,T_,T_,T_,T_,T_,T_,T_,T_,T_,T_,F_,F_,F_,F_,F_,F_,F_,F_,F_,F_,F_,F_,F_,F_,F_,F_,F_,F_,F_,F_,F_,F_,F_,F_]
abbrev Z75_ : Array Bool:=#[T_,T_,T_,T_,T_,T_,T_,T_,T_,T_,T_,T_,T_,F_,F_,F_,F_,F_,F_,F_,F_,F_,F_,F_,F_,F_]
abbrev Z76_ : Array Bool:=#[T_,T_,T_,T_,T_,T_,T_,T_,T_,T_,T_,T_,T_,F_,F_,F_,F_,F_,F_]
abbrev Z77_ : Array Bool:=#[T_,T_,T_,T_,T_,T_,T_,T_,T_,T_,T_,T_,T_,F_,T_,F_,F_,F_,F_,F_,F_,F_,F_,F_,F_,F_,F_,F_,F_,F_,F_,F_,F_,F_,F_,F_,F_,F_]
abbrev Z78_ : Array Bool:=#[T_,T_,T_,T_,T_,T_,T_,T_,T_,T_,T_,T_,T_,F_,T_,F_,F_,F_,F_,F_,F_,F_,F_,F_,F_,F_,F_,F_,F_,F_,F_,F_,F_,F_,F_,F_,F_]
abbrev Z79_ : Array Bool:=#[T_,T_,T_,T_,T_,T_,T_,T_,T_,T_,T_,T_,T_,T_,F_,F_,F_,F_,F_,F_,F_,F_,F_,F_,F_,F_,F_,F_,F_,F_,F_,F_,F_,F_,F_,F_,F_]
abbrev Z80_ : Array Bool:=#[T_,T_,T_,T_,T_,T_,T_,T_,T_,T_,T_,T_,T_,T_,F_,F_,F_,F_,F_,F_,F_,F_,F_,F_,F_,F_]
abbrev Z81_ : Array Bool:=#[T_,T_,T_,T_,T_,T_,T_,T_,T_,T_,T_,T_,T_,T_,F_,F_,F_,F_,F_]
abbrev Z82_ : Array Bool:=#[T_,T_,T_,T_,T_,T_,T_,T_,T_,T_,T_,T_,T_,T_,T_,F_,F_,F_,F_,F_,F_,F_,F_,F_,F_,F_,F_,F_,F_,F_,F_,F_,F_,F_,F_,F_,F_,F_]
abbrev Z83_ : Array Bool:=#[T_,T_,T_,T_,T_,T_,T_,T_,T_,T_,T_,T_,T_,T_,T_,F_,F_,F_,F_,F_,F_,F_,F_,F_,F_,F_,F_,F_,F_,F_,F_,F_,F_,F_,F_,F_,F_]
abbrev Z84_ : Array Bool:=#[T_,T_,T_,T_,T_,T_,T_,T_,T_,T_,T_,T_,T_,T_,T_,F_,F_,F_,F_,F_,F_,F_,F_,F_,F_,F_]
abbrev Z85_ : Array Bool:=#[T_,T_,T_,T_,T_,T_,T_,T_,T_,T_,T_,T_,T_,T_,T_,F_,F_,F_,F_]
abbrev Z86_ : Array Bool:=#[T_,T_,T_,T_,T_,T_,T_,T_,T_,T_,T_,T_,T_,T_,T_,F_,T_,F_,F_,F_,F_,F_,F_,F_,F_,F_]
abbrev Z87_ : Array Bool:=#[T_,T_,T_,T_,T_,T_,T_,T_,T_,T_,T_,T_,T_,T_,T_,F_,T_,T_,F_,F_,F_,F_,F_,F_,F_,F_]
abbrev Z88_ : Array Bool:=#[T_,T_,T_,T_,T_,T_,T_,T_,T_,T_,T_,T_,T_,T_,T_,F_,T_,T_,F_,F_,F_,T_,F_,F_,F_,F_]
abbrev Z89_ : Array Bool:=#[T_,T_,T_,T_,T_,T_,T_,T_,T_,T_,T_,T_,T_,T_,T_,T_,F_,F_,F_,F_,F_,F_,F_,F_,F_,F_,F_,F_,F_,F_,F_,F_,F_,F_,F_,F_,F_,F_]
abbrev Z90_ : Array Bool:=#[T_,T_,T_,T_,T_,T_,T_,T_,T_,T_,T_,T_,T_,T_,T_,T_,F_,F_,F_,F_,F_,F_,F_,F_,F_,F_,F_,F_,F_,F_,F_,F_,F_,F_,F_,F_,F_]
abbrev Z91_ : Array Bool:=#[T_,T_,T_,T_,T_,T_,T_,T_,T_,T_,T_,T_,T_,T_,T_,T_,F_,F_,F_,F_,F_,F_,F_,F_,F_,F_]
abbrev Z92_ : Array Bool:=#[T_,T_,T_,T_,T_,T_,T_,T_,T_,T_,T_,T_,T_,T_,T_,T_,F_,F_,F_]
abbrev Z93_ : Array Bool:=#[T_,T_,T_,T_,T_,T_,T_,T_,T_,T_,T_,T_,T_,T_,T_,T_,T_,F_,F_,F_,F_,F_,F_,F_,F_,F_,F_,F_,F_,F_,F_,F_,F_,F_,F_,F_,F_,F_]
abbrev Z94_ : Array Bool:=#[T_,T_,T_,T_,T_,T_,T_,T_,T_,T_,T_,T_,T_,T_,T_,T_,T_,F_,F_,F_,F_,F_,F_,F_,F_,F_,F_,F_,F_,F_,F_,F_,F_,F_,F_,F_,F_]
abbrev Z95_ : Array Bool:=#[T_,T_,T_,T_,T_,T_,T_,T_,T_,T_,T_,T_,T_,T_,T_,T_,T_,F_,F_,F_,F_,F_,F_,F_,F_,F_]
abbrev Z96_ : Array Bool:=#[T_,T_,T_,T_,T_,T_,T_,T_,T_,T_,T_,T_,T_,T_,T_,T_,T_,F_,F_]
abbrev Z97_ : Array Bool:=#[T_,T_,T_,T_,T_,T_,T_,T_,T_,T_,T_,T_,T_,T_,T_,T_,T_,T_,F_,F_,F_,F_,F_,F_,F_,F_,F_,F_,F_,F_,F_,F_,F_,F_,F_,F_,F_,F_]
abbrev Z98_ : Array Bool:=#[T_,T_,T_,T_,T_,T_,T_,T_,T_,T_,T_,T_,T_,T_,T_,T_,T_,T_,F_,F_,F_,F_,F_,F_,F_,F_,F_,F_,F_,F_,F_,F_,F_,F_,F_,F_,F_]
abbrev Z99_ : Array Bool:=#[T_,T_,T_,T_,T_,T_,T_,T_,T_,T_,T_,T_,T_,T_,T_,T_,T_,T_,F_,F_,F_,F_,F_,F_,F_,F_]
abbrev v_u : Array Bool:=#[T_,T_,T_,T_,T_,T_,T_,T_,T_,T_,T_,T_,T_,T_,T_,T_,T_,T_,F_,F_,F_,T_,F_,F_,F_,F_]
abbrev s_m : Array Bool:=#[T_,T_,T_,T_,T_,T_,T_,T_,T_,T_,T_,T_,T_,T_,T_,T_,T_,T_,F_]
abbrev o_Y : Array Bool:=#[T_,T_,T_,T_,T_,T_,T_,T_,T_,T_,T_,T_,T_,T_,T_,T_,T_,T_,T_,F_,F_,F_,F_,F_,F_,F_,F_,F_,F_,F_,F_,F_,F_,F_,F_,F_,F_,F_]
abbrev l_z : Array Bool:=#[T_,T_,T_,T_,T_,T_,T_,T_,T_,T_,T_,T_,T_,T_,T_,T_,T_,T_,T_,F_,F_,F_,F_,F_,F_,F_,F_,F_,F_,F_,F_,F_,F_,F_,F_,F_,F_]
abbrev s_s : Array Bool:=#[T_,T_,T_,T_,T_,T_,T_,T_,T_,T_,T_,T_,T_,T_,T_,T_,T_,T_,T_,F_,F_,F_,F_,F_,F_,F_]
abbrev v_I : Array Bool:=#[T_,T_,T_,T_,T_,T_,T_,T_,T_,T_,T_,T_,T_,T_,T_,T_,T_,T_,T_,F_,F_,T_,F_,F_,F_,F_]
abbrev o_u : Array Bool:=#[T_,T_,T_,T_,T_,T_,T_,T_,T_,T_,T_,T_,T_,T_,T_,T_,T_,T_,T_,T_,F_,F_,F_,F_,F_,F_,F_,F_,F_,F_,F_,F_,F_,F_,F_,F_,F_,F_]
abbrev l_w : Array Bool:=#[T_,T_,T_,T_,T_,T_,T_,T_,T_,T_,T_,T_,T_,T_,T_,T_,T_,T_,T_,T_,F_,F_,F_,F_,F_,F_,F_,F_,F_,F_,F_,F_,F_,F_,F_,F_,F_]
abbrev r_3 : Array Bool:=#[T_,T_,T_,T_,T_,T_,T_,T_,T_,T_,T_,T_,T_,T_,T_,T_,T_,T_,T_,T_,F_,F_,F_,F_,F_,F_]
abbrev v_X : Array Bool:=#[T_,T_,T_,T_,T_,T_,T_,T_,T_,T_,T_,T_,T_,T_,T_,T_,T_,T_,T_,T_,F_,T_,F_,F_,F_,F_]
abbrev o_w : Array Bool:=#[T_,T_,T_,T_,T_,T_,T_,T_,T_,T_,T_,T_,T_,T_,T_,T_,T_,T_,T_,T_,T_,F_,F_,F_,F_,F_,F_,F_,F_,F_,F_,F_,F_,F_,F_,F_,F_,F_]
abbrev l_E : Array Bool:=#[T_,T_,T_,T_,T_,T_,T_,T_,T_,T_,T_,T_,T_,T_,T_,T_,T_,T_,T_,T_,T_,F_,F_,F_,F_,F_,F_,F_,F_,F_,F_,F_,F_,F_,F_,F_,F_]
abbrev r_9 : Array Bool:=#[T_,T_,T_,T_,T_,T_,T_,T_,T_,T_,T_,T_,T_,T_,T_,T_,T_,T_,T_,T_,T_,F_,F_,F_,F_,F_]
abbrev o_b : Array Bool:=#[T_,T_,T_,T_,T_,T_,T_,T_,T_,T_,T_,T_,T_,T_,T_,T_,T_,T_,T_,T_,T_,F_,F_,F_,T_,F_,F_,F_,F_,F_,F_,F_,F_,F_,F_,F_,F_]
abbrev o_F : Array Bool:=#[T_,T_,T_,T_,T_,T_,T_,T_,T_,T_,T_,T_,T_,T_,T_,T_,T_,T_,T_,T_,T_,T_,F_,F_,F_,F_,F_,F_,F_,F_,F_,F_,F_,F_,F_,F_,F_,F_]
abbrev v_D : Array Bool:=#[T_,T_,T_,T_,T_,T_,T_,T_,T_,T_,T_,T_,T_,T_,T_,T_,T_,T_,T_,T_,T_,T_,F_,F_,F_,F_,F_,F_,F_,F_,F_,F_,F_,F_,F_,F_,F_]
abbrev o_W : Array Bool:=#[T_,T_,T_,T_,T_,T_,T_,T_,T_,T_,T_,T_,T_,T_,T_,T_,T_,T_,T_,T_,T_,T_,F_,F_,F_,F_]
abbrev n_6 : Array Bool:=#[T_,T_,T_,T_,T_,T_,T_,T_,T_,T_,T_,T_,T_,T_,T_,T_,T_,T_,T_,T_,T_,T_,F_,F_,T_,F_,F_,F_,F_,F_,F_,F_,F_,F_,F_,F_,F_]
abbrev o_m : Array Bool:=#[T_,T_,T_,T_,T_,T_,T_,T_,T_,T_,T_,T_,T_,T_,T_,T_,T_,T_,T_,T_,T_,T_,T_,F_,F_,F_,F_,F_,F_,F_,F_,F_,F_,F_,F_,F_,F_,F_]
abbrev v_w : Array Bool:=#[T_,T_,T_,T_,T_,T_,T_,T_,T_,T_,T_,T_,T_,T_,T_,T_,T_,T_,T_,T_,T_,T_,T_,F_,F_,F_,F_,F_,F_,F_,F_,F_,F_,F_,F_,F_,F_]
abbrev o_7 : Array Bool:=#[T_,T_,T_,T_,T_,T_,T_,T_,T_,T_,T_,T_,T_,T_,T_,T_,T_,T_,T_,T_,T_,T_,T_,F_,F_,F_]
abbrev v_Z : Array Bool:=#[T_,T_,T_,T_,T_,T_,T_,T_,T_,T_,T_,T_,T_,T_,T_,T_,T_,T_,T_,T_,T_,T_,T_,F_,T_,F_,F_,F_,F_,F_,F_,F_,F_,F_,F_,F_,F_,F_]
abbrev n_4 : Array Bool:=#[T_,T_,T_,T_,T_,T_,T_,T_,T_,T_,T_,T_,T_,T_,T_,T_,T_,T_,T_,T_,T_,T_,T_,F_,T_,F_,F_,F_,F_,F_,F_,F_,F_,F_,F_,F_,F_]
abbrev v_O : Array Bool:=#[T_,T_,T_,T_,T_,T_,T_,T_,T_,T_,T_,T_,T_,T_,T_,T_,T_,T_,T_,T_,T_,T_,T_,F_,T_,T_,F_,F_,F_,F_,F_,F_,F_,F_,F_,F_,F_,F_]
abbrev n_Y : Array Bool:=#[T_,T_,T_,T_,T_,T_,T_,T_,T_,T_,T_,T_,T_,T_,T_,T_,T_,T_,T_,T_,T_,T_,T_,F_,T_,T_,F_,F_,F_,F_,F_,F_,F_,F_,F_,F_,F_]
abbrev v_Y : Array Bool:=#[T_,T_,T_,T_,T_,T_,T_,T_,T_,T_,T_,T_,T_,T_,T_,T_,T_,T_,T_,T_,T_,T_,T_,F_,T_,T_,F_,F_,F_,T_,F_,F_,F_,F_,F_,F_,F_,F_]
abbrev v_C : Array Bool:=#[T_,T_,T_,T_,T_,T_,T_,T_,T_,T_,T_,T_,T_,T_,T_,T_,T_,T_,T_,T_,T_,T_,T_,F_,T_,T_,F_,F_,F_,T_,F_,T_,F_,F_,F_,F_,F_,F_]
abbrev s_l : Array Bool:=#[T_,T_,T_,T_,T_,T_,T_,T_,T_,T_,T_,T_,T_,T_,T_,T_,T_,T_,T_,T_,T_,T_,T_,T_,F_,F_,F_,F_,F_,F_,F_,F_,F_,F_,F_,F_,F_,F_]
abbrev w_c : Array Bool:=#[T_,T_,T_,T_,T_,T_,T_,T_,T_,T_,T_,T_,T_,T_,T_,T_,T_,T_,T_,T_,T_,T_,T_,T_,F_,F_,F_,F_,F_,F_,F_,F_,F_,F_,F_,F_,F_]
abbrev o_U : Array Bool:=#[T_,T_,T_,T_,T_,T_,T_,T_,T_,T_,T_,T_,T_,T_,T_,T_,T_,T_,T_,T_,T_,T_,T_,T_,F_,F_]
abbrev s_a : Array Bool:=#[T_,T_,T_,T_,T_,T_,T_,T_,T_,T_,T_,T_,T_,T_,T_,T_,T_,T_,T_,T_,T_,T_,T_,T_,T_,F_,F_,F_,F_,F_,F_,F_,F_,F_,F_,F_,F_,F_]
abbrev v_U : Array Bool:=#[T_,T_,T_,T_,T_,T_,T_,T_,T_,T_,T_,T_,T_,T_,T_,T_,T_,T_,T_,T_,T_,T_,T_,T_,T_,F_,F_,F_,F_,F_,F_,F_,F_,F_,F_,F_,F_]
abbrev o_h : Array Bool:=#[T_,T_,T_,T_,T_,T_,T_,T_,T_,T_,T_,T_,T_,T_,T_,T_,T_,T_,T_,T_,T_,T_,T_,T_,T_,F_]
abbrev s_t : Array Bool:=#[T_,T_,T_,T_,T_,T_,T_,T_,T_,T_,T_,T_,T_,T_,T_,T_,T_,T_,T_,T_,T_,T_,T_,T_,T_,T_,F_,F_,F_,F_,F_,F_,F_,F_,F_,F_,F_,F_]
abbrev l_I : Array Bool:=#[T_,T_,T_,T_,T_,T_,T_,T_,T_,T_,T_,T_,T_,T_,T_,T_,T_,T_,T_,T_,T_,T_,T_,T_,T_,T_,F_,F_,F_,F_,F_,F_,F_,F_,F_,F_,F_]
abbrev v_5 : Array Bool:=#[T_,T_,T_,T_,T_,T_,T_,T_,T_,T_,T_,T_,T_,T_,T_,T_,T_,T_,T_,T_,T_,T_,T_,T_,T_,T_,F_,F_,F_,T_,F_,T_,F_,F_,F_,F_,F_,F_]
abbrev s_n : Array Bool:=#[T_,T_,T_,T_,T_,T_,T_,T_,T_,T_,T_,T_,T_,T_,T_,T_,T_,T_,T_,T_,T_,T_,T_,T_,T_,T_,T_,F_,F_,F_,F_,F_,F_,F_,F_,F_,F_,F_]
abbrev l_p : Array Bool:=#[T_,T_,T_,T_,T_,T_,T_,T_,T_,T_,T_,T_,T_,T_,T_,T_,T_,T_,T_,T_,T_,T_,T_,T_,T_,T_,T_,F_,F_,F_,F_,F_,F_,F_,F_,F_,F_]
abbrev v_K : Array Bool:=#[T_,T_,T_,T_,T_,T_,T_,T_,T_,T_,T_,T_,T_,T_,T_,T_,T_,T_,T_,T_,T_,T_,T_,T_,T_,T_,T_,F_,F_,T_,F_,T_,F_,F_,F_,F_,F_,F_]
abbrev s_v : Array Bool:=#[T_,T_,T_,T_,T_,T_,T_,T_,T_,T_,T_,T_,T_,T_,T_,T_,T_,T_,T_,T_,T_,T_,T_,T_,T_,T_,T_,T_,F_,F_,F_,F_,F_,F_,F_,F_,F_,F_]
abbrev l_H : Array Bool:=#[T_,T_,T_,T_,T_,T_,T_,T_,T_,T_,T_,T_,T_,T_,T_,T_,T_,T_,T_,T_,T_,T_,T_,T_,T_,T_,T_,T_,F_,F_,F_,F_,F_,F_,F_,F_,F_]
abbrev v_9 : Array Bool:=#[T_,T_,T_,T_,T_,T_,T_,T_,T_,T_,T_,T_,T_,T_,T_,T_,T_,T_,T_,T_,T_,T_,T_,T_,T_,T_,T_,T_,F_,T_,F_,T_,F_,F_,F_,F_,F_,F_]
abbrev s_o : Array Bool:=#[T_,T_,T_,T_,T_,T_,T_,T_,T_,T_,T_,T_,T_,T_,T_,T_,T_,T_,T_,T_,T_,T_,T_,T_,T_,T_,T_,T_,T_,F_,F_,F_,F_,F_,F_,F_,F_,F_]
abbrev l_F : Array Bool:=#[T_,T_,T_,T_,T_,T_,T_,T_,T_,T_,T_,T_,T_,T_,T_,T_,T_,T_,T_,T_,T_,T_,T_,T_,T_,T_,T_,T_,T_,F_,F_,F_,F_,F_,F_,F_,F_]
abbrev s_x : Array Bool:=#[T_,T_,T_,T_,T_,T_,T_,T_,T_,T_,T_,T_,T_,T_,T_,T_,T_,T_,T_,T_,T_,T_,T_,T_,T_,T_,T_,T_,T_,T_,F_,F_,F_,F_,F_,F_,F_,F_]
abbrev l_o : Array Bool:=#[T_,T_,T_,T_,T_,T_,T_,T_,T_,T_,T_,T_,T_,T_,T_,T_,T_,T_,T_,T_,T_,T_,T_,T_,T_,T_,T_,T_,T_,T_,F_,F_,F_,F_,F_,F_,F_]
abbrev v_S : Array Bool:=#[T_,T_,T_,T_,T_,T_,T_,T_,T_,T_,T_,T_,T_,T_,T_,T_,T_,T_,T_,T_,T_,T_,T_,T_,T_,T_,T_,T_,T_,T_,F_,T_,F_,F_,F_,F_,F_,F_]
abbrev q_4 : Array Bool:=#[T_,T_,T_,T_,T_,T_,T_,T_,T_,T_,T_,T_,T_,T_,T_,T_,T_,T_,T_,T_,T_,T_,T_,T_,T_,T_,T_,T_,T_,T_,F_,T_,F_,F_,F_,F_,F_]
abbrev q_O : Array Bool:=#[T_,T_,T_,T_,T_,T_,T_,T_,T_,T_,T_,T_,T_,T_,T_,T_,T_,T_,T_,T_,T_,T_,T_,T_,T_,T_,T_,T_,T_,T_,F_,T_,F_,T_,F_,F_,F_]
abbrev s_h : Array Bool:=#[T_,T_,T_,T_,T_,T_,T_,T_,T_,T_,T_,T_,T_,T_,T_,T_,T_,T_,T_,T_,T_,T_,T_,T_,T_,T_,T_,T_,T_,T_,T_,F_,F_,F_,F_,F_,F_,F_]
abbrev q_L : Array Bool:=#[T_,T_,T_,T_,T_,T_,T_,T_,T_,T_,T_,T_,T_,T_,T_,T_,T_,T_,T_,T_,T_,T_,T_,T_,T_,T_,T_,T_,T_,T_,T_,F_,F_,F_,F_,F_,F_]
abbrev o_Q : Array Bool:=#[T_,T_,T_,T_,T_,T_,T_,T_,T_,T_,T_,T_,T_,T_,T_,T_,T_,T_,T_,T_,T_,T_,T_,T_,T_,T_,T_,T_,T_,T_,T_,T_,F_,F_,F_,F_,F_,F_]
abbrev q_Z : Array Bool:=#[T_,T_,T_,T_,T_,T_,T_,T_,T_,T_,T_,T_,T_,T_,T_,T_,T_,T_,T_,T_,T_,T_,T_,T_,T_,T_,T_,T_,T_,T_,T_,T_,F_,F_,F_,F_,F_]
abbrev r_h : Array Bool:=#[T_,T_,T_,T_,T_,T_,T_,T_,T_,T_,T_,T_,T_,T_,T_,T_,T_,T_,T_,T_,T_,T_,T_,T_,T_,T_,T_,T_,T_,T_,T_,T_,F_,T_,F_,F_,F_]
abbrev r_e : Array Bool:=#[T_,T_,T_,T_,T_,T_,T_,T_,T_,T_,T_,T_,T_,T_,T_,T_,T_,T_,T_,T_,T_,T_,T_,T_,T_,T_,T_,T_,T_,T_,T_,T_,F_,T_,T_,F_,F_]
abbrev o_0 : Array Bool:=#[T_,T_,T_,T_,T_,T_,T_,T_,T_,T_,T_,T_,T_,T_,T_,T_,T_,T_,T_,T_,T_,T_,T_,T_,T_,T_,T_,T_,T_,T_,T_,T_,T_,F_,F_,F_,F_,F_]
abbrev q_9 : Array Bool:=#[T_,T_,T_,T_,T_,T_,T_,T_,T_,T_,T_,T_,T_,T_,T_,T_,T_,T_,T_,T_,T_,T_,T_,T_,T_,T_,T_,T_,T_,T_,T_,T_,T_,F_,F_,F_,F_]
abbrev o_S : Array Bool:=#[T_,T_,T_,T_,T_,T_,T_,T_,T_,T_,T_,T_,T_,T_,T_,T_,T_,T_,T_,T_,T_,T_,T_,T_,T_,T_,T_,T_,T_,T_,T_,T_,T_,T_,F_,F_,F_,F_]
abbrev r_g : Array Bool:=#[T_,T_,T_,T_,T_,T_,T_,T_,T_,T_,T_,T_,T_,T_,T_,T_,T_,T_,T_,T_,T_,T_,T_,T_,T_,T_,T_,T_,T_,T_,T_,T_,T_,T_,F_,F_,F_]
abbrev p_a : Array Bool:=#[T_,T_,T_,T_,T_,T_,T_,T_,T_,T_,T_,T_,T_,T_,T_,T_,T_,T_,T_,T_,T_,T_,T_,T_,T_,T_,T_,T_,T_,T_,T_,T_,T_,T_,T_,F_,F_,F_]
abbrev l_q : Array Bool:=#[T_,T_,T_,T_,T_,T_,T_,T_,T_,T_,T_,T_,T_,T_,T_,T_,T_,T_,T_,T_,T_,T_,T_,T_,T_,T_,T_,T_,T_,T_,T_,T_,T_,T_,T_,F_,F_]
abbrev o_3 : Array Bool:=#[T_,T_,T_,T_,T_,T_,T_,T_,T_,T_,T_,T_,T_,T_,T_,T_,T_,T_,T_,T_,T_,T_,T_,T_,T_,T_,T_,T_,T_,T_,T_,T_,T_,T_,T_,T_,F_,F_]
abbrev l_t : Array Bool:=#[T_,T_,T_,T_,T_,T_,T_,T_,T_,T_,T_,T_,T_,T_,T_,T_,T_,T_,T_,T_,T_,T_,T_,T_,T_,T_,T_,T_,T_,T_,T_,T_,T_,T_,T_,T_,F_]
abbrev o_D : Array Bool:=#[T_,T_,T_,T_,T_,T_,T_,T_,T_,T_,T_,T_,T_,T_,T_,T_,T_,T_,T_,T_,T_,T_,T_,T_,T_,T_,T_,T_,T_,T_,T_,T_,T_,T_,T_,T_,T_,F_]
abbrev o_l : Array Bool:=#[T_,T_,T_,T_,T_,T_,T_,T_,T_,T_,T_,T_,T_,T_,T_,T_,T_,T_,T_,T_,T_,T_,T_,T_,T_,T_,T_,T_,T_,T_,T_,T_,T_,T_,T_,T_,T_,T_]
abbrev l_B : Array Bool:=#[T_,T_,T_,T_,T_,T_,T_,T_,T_,T_,T_,T_,T_,T_,T_,T_,T_,T_,T_,T_,T_,T_,T_,T_,T_,T_,T_,T_,T_,T_,T_,T_,T_,T_,T_,T_,T_]
abbrev o_X : Array Bool:=#[T_,T_,T_,T_,T_,T_,T_,T_,T_,T_,T_,T_,T_,T_,T_,T_,T_,T_,T_,T_,T_,T_,T_,T_,T_,T_]
abbrev r_2 : Array Bool:=#[T_,T_,T_,T_,T_,T_,T_,T_,T_,T_,T_,T_,T_,T_,T_,T_,T_,T_,T_]
abbrev s_b : Array Bool:=#[T_,T_,T_,T_,T_,T_,T_,T_,T_,T_,T_,T_,T_]
abbrev o_y : Array Bool:=#[T_,T_,T_,T_,T_,T_,T_,T_,T_]
end Go.Proofs.Ytgglkfilkagblaa
end
section
namespace Go.Proofs.Ytgglkfilkagblaa.Q
open Go.RowKit Go.Proofs.YtgglkfilkagblaaW.PrintWords Go.Proofs.YtgglkfilkagblaaW.PrintLast Go.Proofs.YtgglkfilkagblaaW.PrintMore
set_option linter.unusedVariables false
set_option linter.unusedSimpArgs false
def errW : Option Int → Value
 | none => .nilIface
 | some c => .iface 0 (.int .i64 c)
theorem a_w : errW none = .nilIface:=rfl
theorem a_x (c : Int) : errW (some c) = .iface 0 (.int .i64 c):=rfl
theorem i_E : (Try.prog.info? 27).map (fun i => (i.zero,i.size,i.bytes)) = some (some (.agg #[(.int .i64 0),(.slice none 0 0)]),2,32):=by kernel_rfl
theorem v_4 : (Try.prog.info? 46).map (fun i => (i.zero,i.size,i.bytes)) = some (some (.agg #[(.int .i64 0),(.int .i64 0)]),2,16):=by kernel_rfl
theorem v_R : (Try.prog.info? 65).map (fun i => (i.zero,i.size,i.bytes)) = some (some (.agg #[(.int .i64 0),(.int .i64 0),(.int .i64 0),(.int .i64 0),(.int .i64 0),(.bool false),(.bool false),(.int .u32 0),(.int .i64 0),(.int .i64 0),(.int .i64 0)]),11,72):=by kernel_rfl
structure S65 where
 f0 : Int
 f1 : Int
 f2 : Int
 f3 : Int
 f4 : Int
 f5 : Bool
 f6 : Bool
 f7 : Int
 f8 : Int
 f9 : Int
 f10 : Int
def z65 : S65:=⟨(0 : Int),(0 : Int),(0 : Int),(0 : Int),(0 : Int),false,false,(0 : Int),(0 : Int),(0 : Int),(0 : Int)⟩
def k65 : Kd S65:=Kd.iso (Kd.pair (Kd.int .i64) (Kd.pair (Kd.int .i64) (Kd.pair (Kd.int .i64) (Kd.pair (Kd.int .i64) (Kd.pair (Kd.int .i64) (Kd.pair Kd.bool (Kd.pair Kd.bool (Kd.pair (Kd.int .u32) (Kd.pair (Kd.int .i64) (Kd.pair (Kd.int .i64) (Kd.int .i64))))))))))) (fun x : S65 => (x.f0,x.f1,x.f2,x.f3,x.f4,x.f5,x.f6,x.f7,x.f8,x.f9,x.f10))
theorem k_D : Kd.Heap k65:=Kd.n_F _ (Kd.e_s (Kd.f_k .i64) (Kd.e_s (Kd.f_k .i64) (Kd.e_s (Kd.f_k .i64) (Kd.e_s (Kd.f_k .i64) (Kd.e_s (Kd.f_k .i64) (Kd.e_s Kd.l_K (Kd.e_s Kd.l_K (Kd.e_s (Kd.f_k .u32) (Kd.e_s (Kd.f_k .i64) (Kd.e_s (Kd.f_k .i64) (Kd.f_k .i64)))))))))))
theorem q_N {w : World} {x : S65} {cs : List Value} (h : k65.K w x cs) : cs = [.int .i64 x.f0,.int .i64 x.f1,.int .i64 x.f2,.int .i64 x.f3,.int .i64 x.f4,.bool x.f5,.bool x.f6,.int .u32 x.f7,.int .i64 x.f8,.int .i64 x.f9,.int .i64 x.f10]:=by
 obtain ⟨_,_,rfl,rfl,⟨_,_,rfl,rfl,⟨_,_,rfl,rfl,⟨_,_,rfl,rfl,⟨_,_,rfl,rfl,⟨_,_,rfl,rfl,⟨_,_,rfl,rfl,⟨_,_,rfl,rfl,⟨_,_,rfl,rfl,⟨_,_,rfl,rfl,rfl⟩⟩⟩⟩⟩⟩⟩⟩⟩⟩:=h
 exact rfl
theorem o_p (w : World) (base : Nat) (ok : Nat → Prop) (x : S65)  : k65.M w base ok x [.int .i64 x.f0,.int .i64 x.f1,.int .i64 x.f2,.int .i64 x.f3,.int .i64 x.f4,.bool x.f5,.bool x.f6,.int .u32 x.f7,.int .i64 x.f8,.int .i64 x.f9,.int .i64 x.f10]:=⟨[.int .i64 x.f0],[.int .i64 x.f1,.int .i64 x.f2,.int .i64 x.f3,.int .i64 x.f4,.bool x.f5,.bool x.f6,.int .u32 x.f7,.int .i64 x.f8,.int .i64 x.f9,.int .i64 x.f10],rfl,rfl,⟨[.int .i64 x.f1],[.int .i64 x.f2,.int .i64 x.f3,.int .i64 x.f4,.bool x.f5,.bool x.f6,.int .u32 x.f7,.int .i64 x.f8,.int .i64 x.f9,.int .i64 x.f10],rfl,rfl,⟨[.int .i64 x.f2],[.int .i64 x.f3,.int .i64 x.f4,.bool x.f5,.bool x.f6,.int .u32 x.f7,.int .i64 x.f8,.int .i64 x.f9,.int .i64 x.f10],rfl,rfl,⟨[.int .i64 x.f3],[.int .i64 x.f4,.bool x.f5,.bool x.f6,.int .u32 x.f7,.int .i64 x.f8,.int .i64 x.f9,.int .i64 x.f10],rfl,rfl,⟨[.int .i64 x.f4],[.bool x.f5,.bool x.f6,.int .u32 x.f7,.int .i64 x.f8,.int .i64 x.f9,.int .i64 x.f10],rfl,rfl,⟨[.bool x.f5],[.bool x.f6,.int .u32 x.f7,.int .i64 x.f8,.int .i64 x.f9,.int .i64 x.f10],rfl,rfl,⟨[.bool x.f6],[.int .u32 x.f7,.int .i64 x.f8,.int .i64 x.f9,.int .i64 x.f10],rfl,rfl,⟨[.int .u32 x.f7],[.int .i64 x.f8,.int .i64 x.f9,.int .i64 x.f10],rfl,rfl,⟨[.int .i64 x.f8],[.int .i64 x.f9,.int .i64 x.f10],rfl,rfl,⟨[.int .i64 x.f9],[.int .i64 x.f10],rfl,rfl,rfl⟩⟩⟩⟩⟩⟩⟩⟩⟩⟩
def a_c (xs : List S65) (i : Int) : S65:=xs.getD i.toNat z65
theorem e_h {w : World} {A : Option Addr} {n : Nat} {xs : List S65} (h : Kd.C k65 w A n xs) (i : Int) (h0 : 0 ≤ i) (h1 : i < n) : ∃ ad , A = some ad ∧ w.cell? (ad.add (i.toNat * 11)) = some (.int .i64 (a_c xs i).f0) ∧ w.cell? ⟨(ad.add (i.toNat * 11)).block,(ad.add (i.toNat * 11)).off + 1,none⟩ = some (.int .i64 (a_c xs i).f1) ∧ w.cell? ⟨(ad.add (i.toNat * 11)).block,(ad.add (i.toNat * 11)).off + 2,none⟩ = some (.int .i64 (a_c xs i).f2) ∧ w.cell? ⟨(ad.add (i.toNat * 11)).block,(ad.add (i.toNat * 11)).off + 3,none⟩ = some (.int .i64 (a_c xs i).f3) ∧ w.cell? ⟨(ad.add (i.toNat * 11)).block,(ad.add (i.toNat * 11)).off + 4,none⟩ = some (.int .i64 (a_c xs i).f4) ∧ w.cell? ⟨(ad.add (i.toNat * 11)).block,(ad.add (i.toNat * 11)).off + 5,none⟩ = some (.bool (a_c xs i).f5) ∧ w.cell? ⟨(ad.add (i.toNat * 11)).block,(ad.add (i.toNat * 11)).off + 6,none⟩ = some (.bool (a_c xs i).f6) ∧ w.cell? ⟨(ad.add (i.toNat * 11)).block,(ad.add (i.toNat * 11)).off + 7,none⟩ = some (.int .u32 (a_c xs i).f7) ∧ w.cell? ⟨(ad.add (i.toNat * 11)).block,(ad.add (i.toNat * 11)).off + 8,none⟩ = some (.int .i64 (a_c xs i).f8) ∧ w.cell? ⟨(ad.add (i.toNat * 11)).block,(ad.add (i.toNat * 11)).off + 9,none⟩ = some (.int .i64 (a_c xs i).f9) ∧ w.cell? ⟨(ad.add (i.toNat * 11)).block,(ad.add (i.toNat * 11)).off + 10,none⟩ = some (.int .i64 (a_c xs i).f10):=by
 obtain ⟨ad,c,e,_,hK,hc0⟩:=Kd.n_1 h z65 i h0 h1
 have hc : ∀ j u,c[j]? = some u → w.cell? (ad.add (i.toNat * 11 + j)) = some u:=hc0
 obtain rfl:=q_N hK
 exact ⟨ad,e,hc 0 _ rfl,by rw [← c_8 _ _ 1 (by omega)];exact hc 1 _ rfl,by rw [← c_8 _ _ 2 (by omega)];exact hc 2 _ rfl,by rw [← c_8 _ _ 3 (by omega)];exact hc 3 _ rfl,by rw [← c_8 _ _ 4 (by omega)];exact hc 4 _ rfl,by rw [← c_8 _ _ 5 (by omega)];exact hc 5 _ rfl,by rw [← c_8 _ _ 6 (by omega)];exact hc 6 _ rfl,by rw [← c_8 _ _ 7 (by omega)];exact hc 7 _ rfl,by rw [← c_8 _ _ 8 (by omega)];exact hc 8 _ rfl,by rw [← c_8 _ _ 9 (by omega)];exact hc 9 _ rfl,by rw [← c_8 _ _ 10 (by omega)];exact hc 10 _ rfl⟩
structure S27 where
 f0 : Int
 f1 : (List S65)
def z27 : S27:=⟨(0 : Int),([] : List S65)⟩
def k27 : Kd S27:=Kd.iso (Kd.pair (Kd.int .i64) (Kd.slice 65 k65)) (fun x : S27 => (x.f0,x.f1))
theorem q_Q : Kd.Heap k27:=Kd.n_F _ (Kd.e_s (Kd.f_k .i64) (Kd.n_7 65 k_D))
theorem i_N {w : World} {x : S27} {cs : List Value} (h : k27.K w x cs) : ∃ A1 c1,cs = [.int .i64 x.f0,.slice A1 x.f1.length c1] ∧ x.f1.length ≤ c1 ∧ k65.C w A1 x.f1.length x.f1:=by
 obtain ⟨_,_,rfl,rfl,⟨A1,c1,rfl,l1,g1⟩⟩:=h
 exact ⟨A1,c1,rfl,l1,g1⟩
theorem v_p (w : World) (x : S27) {A1 : Option Addr} {c1 : Nat} (l1 : x.f1.length ≤ c1) (g1 : k65.C w A1 x.f1.length x.f1) : k27.K w x [.int .i64 x.f0,.slice A1 x.f1.length c1]:=⟨[.int .i64 x.f0],[.slice A1 x.f1.length c1],rfl,rfl,⟨A1,c1,rfl,l1,g1⟩⟩
theorem r_W (w : World) (base : Nat) (ok : Nat → Prop) (x : S27) {v1 : Value} (g1 : k65.R 65 w base ok v1 x.f1) : k27.M w base ok x [.int .i64 x.f0,v1]:=⟨[.int .i64 x.f0],[v1],rfl,rfl,⟨v1,rfl,g1⟩⟩
theorem h_N {W : World} {ok : Nat → Prop} {x : S27} {cs : List Value} (h : Kd.FK k27 W ok x cs) : ∃ A1 c1,cs = [.int .i64 x.f0,.slice A1 x.f1.length c1] ∧ x.f1.length ≤ c1 ∧ Kd.F k65 W ok A1 x.f1.length x.f1:=by
 obtain ⟨A1,c1,rfl,l1,_⟩:=i_N (Kd.i_D h)
 exact ⟨A1,c1,rfl,l1,(fun W' hW => by obtain ⟨A1_,c1_,he,l1_,g1_⟩:=i_N (h W' hW);injection (Option.some.inj (show some (Value.slice A1 x.f1.length c1) = some (Value.slice A1_ x.f1.length c1_) from congrArg (fun l => l[1]?) he)) with ha_ _ _;rw [ha_];exact g1_)⟩
theorem k_C (W : World) (ok : Nat → Prop) (x : S27) {A1 : Option Addr} {c1 : Nat} (l1 : x.f1.length ≤ c1) (g1 : Kd.F k65 W ok A1 x.f1.length x.f1) : Kd.FK k27 W ok x [.int .i64 x.f0,.slice A1 x.f1.length c1]:=fun W2 hW => v_p W2 x l1 (g1 W2 hW)
def a_o (xs : List S27) (i : Int) : S27:=xs.getD i.toNat z27
theorem c_t {w : World} {A : Option Addr} {n : Nat} {xs : List S27} (h : Kd.C k27 w A n xs) (i : Int) (h0 : 0 ≤ i) (h1 : i < n) : ∃ ad A1 c1,A = some ad ∧ w.cell? (ad.add (i.toNat * 2)) = some (.int .i64 (a_o xs i).f0) ∧ w.cell? ⟨(ad.add (i.toNat * 2)).block,(ad.add (i.toNat * 2)).off + 1,none⟩ = some (.slice A1 (a_o xs i).f1.length c1) ∧ (a_o xs i).f1.length ≤ c1 ∧ k65.C w A1 (a_o xs i).f1.length (a_o xs i).f1:=by
 obtain ⟨ad,c,e,_,hK,hc0⟩:=Kd.n_1 h z27 i h0 h1
 have hc : ∀ j u,c[j]? = some u → w.cell? (ad.add (i.toNat * 2 + j)) = some u:=hc0
 obtain ⟨A1,c1,rfl,l1,g1⟩:=i_N hK
 exact ⟨ad,A1,c1,e,hc 0 _ rfl,by rw [← c_8 _ _ 1 (by omega)];exact hc 1 _ rfl,l1,g1⟩
structure S46 where
 f0 : Int
 f1 : Int
def z46 : S46:=⟨(0 : Int),(0 : Int)⟩
def k46 : Kd S46:=Kd.iso (Kd.pair (Kd.int .i64) (Kd.int .i64)) (fun x : S46 => (x.f0,x.f1))
theorem q_Y {w : World} {x : S46} {cs : List Value} (h : k46.K w x cs) : cs = [.int .i64 x.f0,.int .i64 x.f1]:=by
 obtain ⟨_,_,rfl,rfl,rfl⟩:=h
 exact rfl
theorem r_7 (w : World) (base : Nat) (ok : Nat → Prop) (x : S46)  : k46.M w base ok x [.int .i64 x.f0,.int .i64 x.f1]:=⟨[.int .i64 x.f0],[.int .i64 x.f1],rfl,rfl,rfl⟩
def e_n (xs : List S46) (i : Int) : S46:=xs.getD i.toNat z46
theorem v_W {w : World} {A : Option Addr} {n : Nat} {xs : List S46} (h : Kd.C k46 w A n xs) (i : Int) (h0 : 0 ≤ i) (h1 : i < n) : ∃ ad , A = some ad ∧ w.cell? (ad.add (i.toNat * 2)) = some (.int .i64 (e_n xs i).f0) ∧ w.cell? ⟨(ad.add (i.toNat * 2)).block,(ad.add (i.toNat * 2)).off + 1,none⟩ = some (.int .i64 (e_n xs i).f1):=by
 obtain ⟨ad,c,e,_,hK,hc0⟩:=Kd.n_1 h z46 i h0 h1
 have hc : ∀ j u,c[j]? = some u → w.cell? (ad.add (i.toNat * 2 + j)) = some u:=hc0
 obtain rfl:=q_Y hK
 exact ⟨ad,e,hc 0 _ rfl,by rw [← c_8 _ _ 1 (by omega)];exact hc 1 _ rfl⟩
def idxOf {α : Type} (p : α → Bool) (xs : List α) : Int:=match xs.findIdx? p with|some i => i|none => -1
theorem idxOf_hit {α : Type} {p : α → Bool} {xs : List α} {k : Nat} (hk : k < xs.length) (h : p xs[k] = true) (hb : ∀ j (hj : j < k),p (xs[j]'(by omega)) = false) : idxOf p xs = k:=by
 unfold idxOf
 have : xs.findIdx? p = some k:=by
  rw [List.findIdx?_eq_some_iff_getElem]
  exact ⟨hk,h,fun j hj => by simp [hb j hj]⟩
 rw [this]
theorem idxOf_miss {α : Type} {p : α → Bool} {xs : List α} (hb : ∀ j (hj : j < xs.length),p xs[j] = false) : idxOf p xs = -1:=by
 unfold idxOf
 have : xs.findIdx? p = none:=by
  rw [List.findIdx?_eq_none_iff]
  intro x hx
  obtain ⟨j,hj,rfl⟩:=List.getElem_of_mem hx
  exact hb j hj
 rw [this]
end Go.Proofs.Ytgglkfilkagblaa.Q
end
section
namespace Go.Proofs.Ytgglkfilkagblaa.Q
open Go.RowKit Go.Proofs.YtgglkfilkagblaaW.PrintWords Go.Proofs.YtgglkfilkagblaaW.PrintLast Go.Proofs.YtgglkfilkagblaaW.PrintMore
open Go.ChangeShapes Go.WideShapes Go.ChangeAt
set_option linter.unusedVariables false
set_option linter.unusedSimpArgs false
structure f_l (P : Program) (t : TypeId) {α : Type} (d : Kd α) (wf : α → Prop) : Prop where
 cells : P.cellsOf t = d.sz
 open_ : ∀ {H : Type} {enc : TypeId × Value → H} {w : World} {base : Nat} {spare : Nat → Bool} {held : Bool} {fuel : Nat} {cs : List Value} {x : DataW H × List MemPlace},
  DataW.trod enc P w base spare held fuel t cs = some x → ∃ v,d.K w v cs ∧ wf v
theorem f_l.int {P : Program} {t : TypeId} {k : IntKind} (ht : P.underlying t = some (.int k)) (hc : P.cellsOf t = 1) : f_l P t (Kd.int k) (fun n => (Lit.int k n).wf = true) :=
 ⟨hc,fun {H enc w base spare held fuel cs x} h => by
  cases fuel with
  | zero => simp [DataW.trod] at h
  | succ n =>
   unfold DataW.trod at h
   rw [ht] at h
   split at h <;> simp_all
   exact ⟨_,rfl,h.1.2⟩⟩
theorem f_l.bool {P : Program} {t : TypeId} (ht : P.underlying t = some .bool) (hc : P.cellsOf t = 1) : f_l P t Kd.bool (fun _ => True) :=
 ⟨hc,fun {H enc w base spare held fuel cs x} h => by
  cases fuel with
  | zero => simp [DataW.trod] at h
  | succ n =>
   unfold DataW.trod at h
   rw [ht] at h
   split at h
   all_goals first|exact ⟨_,rfl,trivial⟩|simp_all⟩
theorem n_2 {α : Type} [Inhabited α] (m : Nat) (p : Nat → α → Prop) (h : ∀ i,i < m → ∃ v,p i v) : ∃ f : Nat → α, ∀ i,i < m → p i (f i):=by
 classical
 exact ⟨fun i => if hi : ∃ v,p i v then hi.choose else default,fun i hi => by
  have hx:=h i hi
  simp only [hx,dif_pos]
  exact hx.choose_spec⟩
theorem f_l.slice {P : Program} {t e : TypeId} {α : Type} {d : Kd α} {wf : α → Prop} [Inhabited α] (ht : P.underlying t = some (.slice e)) (hc : P.cellsOf t = 1) (he : f_l P e d wf) :
 f_l P t (Kd.slice e d) (fun l => l.length ≤ maxLen ∧ ∀ x ∈ l,wf x) :=
 ⟨hc,fun {H enc w base spare held fuel cs x} h => by
  rcases Go.Deep.open_slice ht h with ⟨rfl,_⟩ | ⟨a,len,cap,m,n,D,Pl,rfl,hb,hl,hm,hmm,_,hx⟩
  ·exact ⟨[],⟨none,0,rfl,Nat.le_refl _,⟨rfl,by simp,fun h => absurd h (Nat.lt_irrefl 0)⟩⟩,by simp,by simp⟩
  ·have hlm : len ≤ m:=by rw [hmm];split <;> omega
   obtain ⟨f,hf⟩:=n_2 (α:=α) m (fun i v => ∃ cs',w.cells? base (a.add (i * P.cellsOf e)) (P.cellsOf e) = some cs' ∧ d.K w v cs' ∧ wf v) (fun i hi => by
    obtain ⟨cs',h1,h2⟩:=hx i hi
    obtain ⟨v,h3,h4⟩:=he.open_ h2
    exact ⟨v,cs',h1,h3,h4⟩)
   have hml : maxLen = 9223372036854775807:=rfl
   refine ⟨(List.range len).map f,⟨some a,cap,by simp,by simpa using hl,⟨by simp,by simp;omega,fun _ => ⟨a,rfl,fun j p hj => ?_⟩⟩⟩,by simp;omega,fun v hv => ?_⟩
   ·rw [List.getElem?_map] at hj
    obtain ⟨i,hi,rfl⟩:=Option.map_eq_some_iff.1 hj
    have hij : j < len:=by
     rcases Nat.lt_or_ge j len with h|h
     ·exact h
     ·rw [List.getElem?_eq_none (by simpa using h)] at hi;cases hi
    rw [List.getElem?_range hij] at hi
    injection hi with hi
    subst hi
    obtain ⟨cs',h1,h2,h3⟩:=hf j (by omega)
    obtain ⟨_,h4,h5⟩:=World.cells?_some h1
    rw [he.cells] at h4 h5 h1
    refine ⟨cs',h4,h2,fun i u hu => ?_⟩
    have hil : i < d.sz:=by
     rw [← h4]
     exact (List.getElem?_eq_some_iff.1 hu).1
    rw [show j * d.sz + i = j * d.sz + i from rfl, ← add_add,h5 i hil]
    exact hu
   ·obtain ⟨j,hj,rfl⟩:=List.mem_map.1 hv
    obtain ⟨_,_,_,h3⟩:=hf j (by have:=List.mem_range.1 hj;omega)
    exact h3⟩
theorem c_b {P : Program} {H : Type} {enc : TypeId × Value → H} {w : World} {base : Nat} {spare : Nat → Bool} {held : Bool} {fuel : Nat} {t : TypeId} {cs : List Value} {x : DataW H × List MemPlace} {fs : Array Field}
 (ht : P.underlying t = some (.struct fs)) (h : DataW.trod enc P w base spare held fuel t cs = some x) (i : Nat) {f : Field} (hf : fs[i]? = some f) {α : Type} {d : Kd α} {wf : α → Prop} (ho : f_l P f.type d wf) :
 ∃ v,d.K w v ((cs.drop f.offset).take d.sz) ∧ wf v:=by
 obtain ⟨xs,n,_,_,_,hl,hx⟩:=DataW.trod_struct ht h
 have h1:=hx i f hf
 have hi : i < xs.length:=by rw [hl];exact (Array.getElem?_eq_some_iff.1 hf).1
 rw [List.getElem?_eq_getElem hi,ho.cells] at h1
 exact ho.open_ h1
theorem g_F {P : Program} {H : Type} {enc : TypeId × Value → H} {w : World} {base : Nat} {spare : Nat → Bool} {held : Bool} {fuel : Nat} {t : TypeId} {cs : List Value} {x : DataW H × List MemPlace} {fs : Array Field}
 (ht : P.underlying t = some (.struct fs)) (h : DataW.trod enc P w base spare held fuel t cs = some x) : cs.length = P.cellsOf t:=by
 obtain ⟨xs,n,_,_,hl,_⟩:=DataW.trod_struct ht h
 exact hl
theorem b_y {α : Type} {cs : List α} {n : Nat} (h : cs.length = n + 1) : ∃ a l,cs = a :: l ∧ l.length = n:=by
 cases cs with
 | nil => simp at h
 | cons a l => exact ⟨a,l,rfl,by simpa using h⟩
theorem toList_eq {α : Type} {cs : Array α} {l : List α} (h : cs.toList = l) : cs = l.toArray:=by rw [← h]
theorem own : ownKnob Try.prog.godebug = none:=by kernel_rfl
theorem laidOut : laidOutB Try.prog = true:=by kernel_rfl
instance : Inhabited S65:=⟨z65⟩
def wf65 (x : S65) : Prop:=(fun n => (Lit.int .i64 n).wf = true) x.f0 ∧ (fun n => (Lit.int .i64 n).wf = true) x.f1 ∧ (fun n => (Lit.int .i64 n).wf = true) x.f2 ∧ (fun n => (Lit.int .i64 n).wf = true) x.f3 ∧ (fun n => (Lit.int .i64 n).wf = true) x.f4 ∧ (fun _ => True) x.f5 ∧ (fun _ => True) x.f6 ∧ (fun n => (Lit.int .u32 n).wf = true) x.f7 ∧ (fun n => (Lit.int .i64 n).wf = true) x.f8 ∧ (fun n => (Lit.int .i64 n).wf = true) x.f9 ∧ (fun n => (Lit.int .i64 n).wf = true) x.f10
theorem op65 : f_l Try.prog 65 k65 wf65 :=
 ⟨by kernel_rfl,fun {H enc w base spare held fuel cs x} h => by
  have hl : cs.length = 11:=(g_F Try.underlying65 h).trans (by kernel_rfl)
  obtain ⟨v0,h0,w0⟩:=c_b Try.underlying65 h 0 rfl (f_l.int Try.underlying3 (by kernel_rfl))
  obtain ⟨v1,h1,w1⟩:=c_b Try.underlying65 h 1 rfl (f_l.int Try.underlying3 (by kernel_rfl))
  obtain ⟨v2,h2,w2⟩:=c_b Try.underlying65 h 2 rfl (f_l.int Try.underlying3 (by kernel_rfl))
  obtain ⟨v3,h3,w3⟩:=c_b Try.underlying65 h 3 rfl (f_l.int Try.underlying3 (by kernel_rfl))
  obtain ⟨v4,h4,w4⟩:=c_b Try.underlying65 h 4 rfl (f_l.int Try.underlying3 (by kernel_rfl))
  obtain ⟨v5,h5,w5⟩:=c_b Try.underlying65 h 5 rfl (f_l.bool Try.underlying4 (by kernel_rfl))
  obtain ⟨v6,h6,w6⟩:=c_b Try.underlying65 h 6 rfl (f_l.bool Try.underlying4 (by kernel_rfl))
  obtain ⟨v7,h7,w7⟩:=c_b Try.underlying65 h 7 rfl (f_l.int Try.underlying63 (by kernel_rfl))
  obtain ⟨v8,h8,w8⟩:=c_b Try.underlying65 h 8 rfl (f_l.int Try.underlying3 (by kernel_rfl))
  obtain ⟨v9,h9,w9⟩:=c_b Try.underlying65 h 9 rfl (f_l.int Try.underlying3 (by kernel_rfl))
  obtain ⟨v10,h10,w10⟩:=c_b Try.underlying65 h 10 rfl (f_l.int Try.underlying3 (by kernel_rfl))
  obtain ⟨c0,l0,rfl,hm0⟩:=b_y hl
  obtain ⟨c1,l1,rfl,hm1⟩:=b_y hm0
  obtain ⟨c2,l2,rfl,hm2⟩:=b_y hm1
  obtain ⟨c3,l3,rfl,hm3⟩:=b_y hm2
  obtain ⟨c4,l4,rfl,hm4⟩:=b_y hm3
  obtain ⟨c5,l5,rfl,hm5⟩:=b_y hm4
  obtain ⟨c6,l6,rfl,hm6⟩:=b_y hm5
  obtain ⟨c7,l7,rfl,hm7⟩:=b_y hm6
  obtain ⟨c8,l8,rfl,hm8⟩:=b_y hm7
  obtain ⟨c9,l9,rfl,hm9⟩:=b_y hm8
  obtain ⟨c10,l10,rfl,hm10⟩:=b_y hm9
  obtain rfl:=List.eq_nil_of_length_eq_zero hm10
  exact ⟨⟨v0,v1,v2,v3,v4,v5,v6,v7,v8,v9,v10⟩,⟨[c0],[c1,c2,c3,c4,c5,c6,c7,c8,c9,c10],rfl,h0,⟨[c1],[c2,c3,c4,c5,c6,c7,c8,c9,c10],rfl,h1,⟨[c2],[c3,c4,c5,c6,c7,c8,c9,c10],rfl,h2,⟨[c3],[c4,c5,c6,c7,c8,c9,c10],rfl,h3,⟨[c4],[c5,c6,c7,c8,c9,c10],rfl,h4,⟨[c5],[c6,c7,c8,c9,c10],rfl,h5,⟨[c6],[c7,c8,c9,c10],rfl,h6,⟨[c7],[c8,c9,c10],rfl,h7,⟨[c8],[c9,c10],rfl,h8,⟨[c9],[c10],rfl,h9,h10⟩⟩⟩⟩⟩⟩⟩⟩⟩⟩,⟨w0,w1,w2,w3,w4,w5,w6,w7,w8,w9,w10⟩⟩⟩
instance : Inhabited S27:=⟨z27⟩
def wf27 (x : S27) : Prop:=(fun n => (Lit.int .i64 n).wf = true) x.f0 ∧ (fun l => l.length ≤ maxLen ∧ ∀ x ∈ l,wf65 x) x.f1
theorem op27 : f_l Try.prog 27 k27 wf27 :=
 ⟨by kernel_rfl,fun {H enc w base spare held fuel cs x} h => by
  have hl : cs.length = 2:=(g_F Try.underlying27 h).trans (by kernel_rfl)
  obtain ⟨v0,h0,w0⟩:=c_b Try.underlying27 h 0 rfl (f_l.int Try.underlying2 (by kernel_rfl))
  obtain ⟨v1,h1,w1⟩:=c_b Try.underlying27 h 1 rfl (f_l.slice Try.underlying25 (by kernel_rfl) op65)
  obtain ⟨c0,l0,rfl,hm0⟩:=b_y hl
  obtain ⟨c1,l1,rfl,hm1⟩:=b_y hm0
  obtain rfl:=List.eq_nil_of_length_eq_zero hm1
  exact ⟨⟨v0,v1⟩,⟨[c0],[c1],rfl,h0,h1⟩,⟨w0,w1⟩⟩⟩
structure S24 where
 f0 : (List S27)
 f1 : Int
def z24 : S24:=⟨([] : List S27),(0 : Int)⟩
def k24 : Kd S24:=Kd.iso (Kd.pair (Kd.slice 27 k27) (Kd.int .i64)) (fun x : S24 => (x.f0,x.f1))
theorem r_i {w : World} {x : S24} {cs : List Value} (h : k24.K w x cs) : ∃ A0 c0,cs = [.slice A0 x.f0.length c0,.int .i64 x.f1] ∧ x.f0.length ≤ c0 ∧ k27.C w A0 x.f0.length x.f0:=by
 obtain ⟨_,_,rfl,⟨A0,c0,rfl,l0,g0⟩,rfl⟩:=h
 exact ⟨A0,c0,rfl,l0,g0⟩
instance : Inhabited S24:=⟨z24⟩
def wf24 (x : S24) : Prop:=(fun l => l.length ≤ maxLen ∧ ∀ x ∈ l,wf27 x) x.f0 ∧ (fun n => (Lit.int .i64 n).wf = true) x.f1
theorem op24 : f_l Try.prog 24 k24 wf24 :=
 ⟨by kernel_rfl,fun {H enc w base spare held fuel cs x} h => by
  have hl : cs.length = 2:=(g_F Try.underlying24 h).trans (by kernel_rfl)
  obtain ⟨v0,h0,w0⟩:=c_b Try.underlying24 h 0 rfl (f_l.slice Try.underlying22 (by kernel_rfl) op27)
  obtain ⟨v1,h1,w1⟩:=c_b Try.underlying24 h 1 rfl (f_l.int Try.underlying2 (by kernel_rfl))
  obtain ⟨c0,l0,rfl,hm0⟩:=b_y hl
  obtain ⟨c1,l1,rfl,hm1⟩:=b_y hm0
  obtain rfl:=List.eq_nil_of_length_eq_zero hm1
  exact ⟨⟨v0,v1⟩,⟨[c0],[c1],rfl,h0,h1⟩,⟨w0,w1⟩⟩⟩
structure S38 where
 f0 : Int
 f1 : Int
def z38 : S38:=⟨(0 : Int),(0 : Int)⟩
instance : Inhabited S38:=⟨z38⟩
end Go.Proofs.Ytgglkfilkagblaa.Q
end
section
namespace Go.Proofs.Ytgglkfilkagblaa.Q
open Go.RowKit Go.Proofs.YtgglkfilkagblaaW.PrintWords Go.Proofs.YtgglkfilkagblaaW.PrintLast Go.Proofs.YtgglkfilkagblaaW.PrintMore
set_option linter.unusedVariables false
set_option linter.unusedSimpArgs false
theorem i_K {α : Type} (p : α → Bool) (xs : List α) (k : Nat) (h : k < xs.length) : (xs.take (k + 1)).countP p = (xs.take k).countP p + (if p xs[k] then 1 else 0):=by
 rw [List.take_succ_eq_append_getElem h,List.countP_append,List.countP_singleton]
set_option maxHeartbeats 2000000 in
theorem i_T.any (g : Nat) (lb : Array Value) (eg : ∀ args w,(callFunc g args).run Try.prog w = .ok (.enter g args) w) (p : S65 → Bool) (A : Option Addr) (c : Nat) (xs : List S65) (w : World)
 (hr : Kd.C k65 w A xs.length xs) (hlen : xs.length ≤ 1099511627776)
 (hp : ∀ W,Below w.heap.size w W → ∀ x ∈ xs,Calls Try.prog g (#[.agg #[.int .i64 x.f0,.int .i64 x.f1,.int .i64 x.f2,.int .i64 x.f3,.int .i64 x.f4,.bool x.f5,.bool x.f6,.int .u32 x.f7,.int .i64 x.f8,.int .i64 x.f9,.int .i64 x.f10]] ++ lb) W fun e W' => e = .returned (.bool (p x)) ∧ Below W.heap.size W W') :
 Calls Try.prog 38 #[.slice A xs.length c,.func (.func g) #[] lb] w fun e w' => e = .returned (.int .i64 ((xs.countP p : Nat) : Int)) ∧ Below w.heap.size w w':=by
 have HP:=a_e.mk hp
 have HR:=a_e.mk hr
 clear hp hr
 go_enter Try.func38,Try.ntmps38
 go_wp2
 go_loopg [5,10] xs.length (fun gg s5 s10 wr => ∃ kk cc : Nat,s5 = .int .i64 cc ∧ s10 = .int .i64 kk ∧ cc ≤ kk ∧ kk ≤ xs.length ∧ xs.length - kk ≤ gg ∧ a_e (cc = (xs.take kk).countP p) ∧ a_e (Below w.heap.size w wr))
 case atStart => exact ⟨0,0,rfl,rfl,Nat.le_refl _,Nat.zero_le _,by omega,⟨by simp⟩,⟨Below.refl _ _⟩⟩
 case round =>
  obtain ⟨kk,cc,rfl,rfl,hck,hkk,hg,HCC,HB⟩:=hrel
  by_cases hlt : kk < xs.length
  rotate_left
  ·have hltz : ¬ (kk : Int) < (xs.length : Int):=by omega
   have : kk = xs.length:=by omega
   subst this
   go_wp2
   go_ret
   refine ⟨?_,HB.out⟩
   rw [HCC.out,List.take_length];rfl
  have hltz : (kk : Int) < (xs.length : Int):=by omega
  obtain ⟨ad,rfl,e0,e1,e2,e3,e4,e5,e6,e7,e8,e9,e10⟩:=e_h (Kd.b_f HR.out HB.out) (kk : Int) (by omega) (by omega)
  have hx:=List.getElem_mem hlt
  have hrd : a_c xs (kk : Int) = xs[kk]:=by unfold a_c;simp [hlt]
  rw [hrd] at e0 e1 e2 e3 e4 e5 e6 e7 e8 e9 e10
  simp only [Int.toNat_natCast] at e0 e1 e2 e3 e4 e5 e6 e7 e8 e9 e10
  have hsucc:=a_e.mk (i_K p xs kk hlt)
  have HP2:=a_e.mk (fun W hW => HP.out W hW _ hx)
  generalize hy : xs[kk] = y at e0 e1 e2 e3 e4 e5 e6 e7 e8 e9 e10 HP2 hsucc hx
  clear hy hx hrd
  cases hq : p y with
  | true =>
   rw [hq] at HP2 hsucc
   go_wp2_with (first
    | ((with_reducible refine a_U (N:=7) rfl ?_);refine a_H ?hg (N:=7) ?hd (cs:=#[.int .i64 0,.int .i64 0,.int .i64 0,.int .i64 0,.int .i64 0,.bool false,.bool false,.int .u32 0,.int .i64 0,.int .i64 0,.int .i64 0]) (t:=65) ?hr ?_;(case hd => rfl);(case hg => rfl);(case hr => first|(go_simp;done)|(go_simp;rfl));intro gb hgb wb hbox hb;have m0_:=a_e.mk (a_t HB.out hb);have m2_:=a_e.mk ((by rw [hgb];exact HB.out.size : w.heap.size ≤ gb));have BK:=a_e.mk hbox;clear HB hb hbox hgb;have HB:=m0_;have GE:=m2_;clear m0_ m2_;have hz0 : wb.cell? ⟨gb,0,none⟩ = some (.int .i64 0):=(a_a BK.out 0).trans rfl;have hf0:=a_b BK.out 0;have hz1 : wb.cell? ⟨gb,1,none⟩ = some (.int .i64 0):=(a_a BK.out 1).trans rfl;have hf1:=a_b BK.out 1;have hz2 : wb.cell? ⟨gb,2,none⟩ = some (.int .i64 0):=(a_a BK.out 2).trans rfl;have hf2:=a_b BK.out 2;have hz3 : wb.cell? ⟨gb,3,none⟩ = some (.int .i64 0):=(a_a BK.out 3).trans rfl;have hf3:=a_b BK.out 3;have hz4 : wb.cell? ⟨gb,4,none⟩ = some (.int .i64 0):=(a_a BK.out 4).trans rfl;have hf4:=a_b BK.out 4;have hz5 : wb.cell? ⟨gb,5,none⟩ = some (.bool false):=(a_a BK.out 5).trans rfl;have hf5:=a_b BK.out 5;have hz6 : wb.cell? ⟨gb,6,none⟩ = some (.bool false):=(a_a BK.out 6).trans rfl;have hf6:=a_b BK.out 6;have hz7 : wb.cell? ⟨gb,7,none⟩ = some (.int .u32 0):=(a_a BK.out 7).trans rfl;have hf7:=a_b BK.out 7;have hz8 : wb.cell? ⟨gb,8,none⟩ = some (.int .i64 0):=(a_a BK.out 8).trans rfl;have hf8:=a_b BK.out 8;have hz9 : wb.cell? ⟨gb,9,none⟩ = some (.int .i64 0):=(a_a BK.out 9).trans rfl;have hf9:=a_b BK.out 9;have hz10 : wb.cell? ⟨gb,10,none⟩ = some (.int .i64 0):=(a_a BK.out 10).trans rfl;have hf10:=a_b BK.out 10)
    | (go_at_fn g;refine (HP2.out _ ?hW).mono ?_;(case hW => exact (by repeat (with_reducible first|exact HB.out|refine a_d ?_ GE.out)));rintro e w' ⟨rfl,hb'⟩;have m0_:=a_e.mk (Below.trans (by repeat (with_reducible first|exact HB.out|refine a_d ?_ GE.out)) (hb'.mono (a_p (by repeat (with_reducible first|exact HB.out|refine a_d ?_ GE.out)))));clear hz0 hf0 hz1 hf1 hz2 hf2 hz3 hf3 hz4 hf4 hz5 hf5 hz6 hf6 hz7 hf7 hz8 hf8 hz9 hf9 hz10 hf10 hb' HB;have HB:=m0_;clear m0_))
   go_roundg (xs.length - (kk + 1))
   case measure => omega
   case rel => exact ⟨kk + 1,cc + 1,by go_num,by go_num,by omega,by omega,by omega,⟨by rw [hsucc.out, ← HCC.out];rfl⟩,⟨HB.out⟩⟩
  | false =>
   rw [hq] at HP2 hsucc
   go_wp2_with (first
    | ((with_reducible refine a_U (N:=7) rfl ?_);refine a_H ?hg (N:=7) ?hd (cs:=#[.int .i64 0,.int .i64 0,.int .i64 0,.int .i64 0,.int .i64 0,.bool false,.bool false,.int .u32 0,.int .i64 0,.int .i64 0,.int .i64 0]) (t:=65) ?hr ?_;(case hd => rfl);(case hg => rfl);(case hr => first|(go_simp;done)|(go_simp;rfl));intro gb hgb wb hbox hb;have m0_:=a_e.mk (a_t HB.out hb);have m2_:=a_e.mk ((by rw [hgb];exact HB.out.size : w.heap.size ≤ gb));have BK:=a_e.mk hbox;clear HB hb hbox hgb;have HB:=m0_;have GE:=m2_;clear m0_ m2_;have hz0 : wb.cell? ⟨gb,0,none⟩ = some (.int .i64 0):=(a_a BK.out 0).trans rfl;have hf0:=a_b BK.out 0;have hz1 : wb.cell? ⟨gb,1,none⟩ = some (.int .i64 0):=(a_a BK.out 1).trans rfl;have hf1:=a_b BK.out 1;have hz2 : wb.cell? ⟨gb,2,none⟩ = some (.int .i64 0):=(a_a BK.out 2).trans rfl;have hf2:=a_b BK.out 2;have hz3 : wb.cell? ⟨gb,3,none⟩ = some (.int .i64 0):=(a_a BK.out 3).trans rfl;have hf3:=a_b BK.out 3;have hz4 : wb.cell? ⟨gb,4,none⟩ = some (.int .i64 0):=(a_a BK.out 4).trans rfl;have hf4:=a_b BK.out 4;have hz5 : wb.cell? ⟨gb,5,none⟩ = some (.bool false):=(a_a BK.out 5).trans rfl;have hf5:=a_b BK.out 5;have hz6 : wb.cell? ⟨gb,6,none⟩ = some (.bool false):=(a_a BK.out 6).trans rfl;have hf6:=a_b BK.out 6;have hz7 : wb.cell? ⟨gb,7,none⟩ = some (.int .u32 0):=(a_a BK.out 7).trans rfl;have hf7:=a_b BK.out 7;have hz8 : wb.cell? ⟨gb,8,none⟩ = some (.int .i64 0):=(a_a BK.out 8).trans rfl;have hf8:=a_b BK.out 8;have hz9 : wb.cell? ⟨gb,9,none⟩ = some (.int .i64 0):=(a_a BK.out 9).trans rfl;have hf9:=a_b BK.out 9;have hz10 : wb.cell? ⟨gb,10,none⟩ = some (.int .i64 0):=(a_a BK.out 10).trans rfl;have hf10:=a_b BK.out 10)
    | (go_at_fn g;refine (HP2.out _ ?hW).mono ?_;(case hW => exact (by repeat (with_reducible first|exact HB.out|refine a_d ?_ GE.out)));rintro e w' ⟨rfl,hb'⟩;have m0_:=a_e.mk (Below.trans (by repeat (with_reducible first|exact HB.out|refine a_d ?_ GE.out)) (hb'.mono (a_p (by repeat (with_reducible first|exact HB.out|refine a_d ?_ GE.out)))));clear hz0 hf0 hz1 hf1 hz2 hf2 hz3 hf3 hz4 hf4 hz5 hf5 hz6 hf6 hz7 hf7 hz8 hf8 hz9 hf9 hz10 hf10 hb' HB;have HB:=m0_;clear m0_))
   go_roundg (xs.length - (kk + 1))
   case measure => omega
   case rel => exact ⟨kk + 1,cc,by go_num,by go_num,by omega,by omega,by omega,⟨by rw [hsucc.out, ← HCC.out];rfl⟩,⟨HB.out⟩⟩
set_option maxHeartbeats 2000000 in
theorem k_s.calls (g : Nat) (x : S65) (a0 : Int) (a1 : Int) (a2 : Int) (a3 : Int) (a4 : Int) (a5 : Bool) (a6 : Bool) (a7 : Int) (a8 : Int) (a9 : Int) (a10 : Int) (w : World) (hb : w.heap[g]? = some (.cells #[.int .i64 a0,.int .i64 a1,.int .i64 a2,.int .i64 a3,.int .i64 a4,.bool a5,.bool a6,.int .u32 a7,.int .i64 a8,.int .i64 a9,.int .i64 a10] 65 (0,0))) :
 Calls Try.prog 51 (#[.agg #[.int .i64 x.f0,.int .i64 x.f1,.int .i64 x.f2,.int .i64 x.f3,.int .i64 x.f4,.bool x.f5,.bool x.f6,.int .u32 x.f7,.int .i64 x.f8,.int .i64 x.f9,.int .i64 x.f10]] ++ #[.pointer (some ⟨g,0,none⟩)]) w fun e w' => e = .returned (.bool (x.f1 == a1)) ∧ Below w.heap.size w w':=by
 have hc:=(a_a hb 1).trans rfl
 have hf:=a_b hb 1
 have hlt:=a_N hb
 clear hb
 go_enter Try.func51,Try.ntmps51
 go_wp2
 go_ret
 exact ⟨rfl,(Below.refl _ _).alloc (Nat.le_refl _) _⟩
def b_k.f (l0 : List S65) (a0 : Int) (a1 : Int) (a2 : Int) (a3 : Int) (a4 : Int) (a5 : Bool) (a6 : Bool) (a7 : Int) (a8 : Int) (a9 : Int) (a10 : Int) : Option Int:=if l0.length ≤ 1099511627776 then some ((l0.countP (fun s => s.f1 == a1) : Nat) : Int) else none
theorem b_k.calls (A0 : Option Addr) (c0 : Nat) (l0 : List S65) (g : Nat) (a0 : Int) (a1 : Int) (a2 : Int) (a3 : Int) (a4 : Int) (a5 : Bool) (a6 : Bool) (a7 : Int) (a8 : Int) (a9 : Int) (a10 : Int) (r : Int) (w : World) (hr0 : Kd.C k65 w A0 l0.length l0) (hc0 : l0.length ≤ c0) (hb : w.heap[g]? = some (.cells #[.int .i64 a0,.int .i64 a1,.int .i64 a2,.int .i64 a3,.int .i64 a4,.bool a5,.bool a6,.int .u32 a7,.int .i64 a8,.int .i64 a9,.int .i64 a10] 65 (0,0))) (h : b_k.f l0 a0 a1 a2 a3 a4 a5 a6 a7 a8 a9 a10 = some r) :
 Calls Try.prog 38 #[.slice A0 l0.length c0,.func (.func 51) #[] #[.pointer (some ⟨g,0,none⟩)]] w fun e w' => e = .returned (.int .i64 r) ∧ Below w.heap.size w w':=by
 unfold b_k.f at h
 split at h
 case isFalse => cases h
 case isTrue hl =>
 obtain rfl:=Option.some.inj h
 exact i_T.any 51 _ (i_P Try.func51 (by kernel_rfl) rfl) _ A0 c0 l0 w hr0 hl (fun W hW x _ => k_s.calls g x a0 a1 a2 a3 a4 a5 a6 a7 a8 a9 a10 W ((hW.block _ (a_N hb)).trans hb))
def e_A (x : S65) (a1 b8 b9 b10 : Int) : Bool:=x.f1 == a1 && x.f8 == b8 && x.f9 == b9 && x.f10 == b10
set_option maxHeartbeats 2000000 in
theorem l_Z.calls (gs g g2 : Nat) (x : S65) (a0 : Int) (a1 : Int) (a2 : Int) (a3 : Int) (a4 : Int) (a5 : Bool) (a6 : Bool) (a7 : Int) (a8 : Int) (a9 : Int) (a10 : Int) (b0 : Int) (b1 : Int) (b2 : Int) (b3 : Int) (b4 : Int) (b5 : Bool) (b6 : Bool) (b7 : Int) (b8 : Int) (b9 : Int) (b10 : Int) (w : World) (hs : w.heap[gs]? = some (.cells #[.func (.func 51) #[] #[.pointer (some ⟨g,0,none⟩)]] 68 (0,0))) (hb : w.heap[g]? = some (.cells #[.int .i64 a0,.int .i64 a1,.int .i64 a2,.int .i64 a3,.int .i64 a4,.bool a5,.bool a6,.int .u32 a7,.int .i64 a8,.int .i64 a9,.int .i64 a10] 65 (0,0))) (hb2 : w.heap[g2]? = some (.cells #[.int .i64 b0,.int .i64 b1,.int .i64 b2,.int .i64 b3,.int .i64 b4,.bool b5,.bool b6,.int .u32 b7,.int .i64 b8,.int .i64 b9,.int .i64 b10] 65 (0,0))) :
 Calls Try.prog 52 (#[.agg #[.int .i64 x.f0,.int .i64 x.f1,.int .i64 x.f2,.int .i64 x.f3,.int .i64 x.f4,.bool x.f5,.bool x.f6,.int .u32 x.f7,.int .i64 x.f8,.int .i64 x.f9,.int .i64 x.f10]] ++ #[.pointer (some ⟨gs,0,none⟩),.pointer (some ⟨g2,0,none⟩)]) w fun e w' => e = .returned (.bool (e_A x a1 b8 b9 b10)) ∧ Below w.heap.size w w':=by
 have HS:=a_e.mk hs
 have HG:=a_e.mk hb
 have H2:=a_e.mk hb2
 have HB:=a_e.mk (Below.refl w.heap.size w)
 clear hs hb hb2
 have key : ∀ b1 b2 b3 b4 : Bool,(x.f1 == a1) = b1 → (x.f8 == b8) = b2 → (x.f9 == b9) = b3 → (x.f10 == b10) = b4 → Calls Try.prog 52 (#[.agg #[.int .i64 x.f0,.int .i64 x.f1,.int .i64 x.f2,.int .i64 x.f3,.int .i64 x.f4,.bool x.f5,.bool x.f6,.int .u32 x.f7,.int .i64 x.f8,.int .i64 x.f9,.int .i64 x.f10]] ++ #[.pointer (some ⟨gs,0,none⟩),.pointer (some ⟨g2,0,none⟩)]) w fun e w' => e = .returned (.bool (b1 && b2 && b3 && b4)) ∧ Below w.heap.size w w':=by
  intro b1 b2 b3 b4 h1 h2 h3 h4
  have H1:=a_e.mk h1
  clear h1
  cases b1 <;> cases b2 <;> cases b3 <;> cases b4
  all_goals
   go_enter Try.func52,Try.ntmps52
   go_wp2_with (first
    | ((with_reducible refine a_U (N:=3) rfl ?_);refine a_H ?hg (N:=3) ?hd (cs:=#[.int .i64 x.f0,.int .i64 x.f1,.int .i64 x.f2,.int .i64 x.f3,.int .i64 x.f4,.bool x.f5,.bool x.f6,.int .u32 x.f7,.int .i64 x.f8,.int .i64 x.f9,.int .i64 x.f10]) (t:=65) ?hr ?_;(case hd => rfl);(case hg => rfl);(case hr => first|(go_simp;done)|(go_simp;rfl));intro gb hgb wb hbox hb;have m0_:=a_e.mk (a_t HB.out hb);have m1_:=a_e.mk (a_l HS.out hb);have m2_:=a_e.mk (a_l HG.out hb);have m3_:=a_e.mk (a_l H2.out hb);have BK:=a_e.mk hbox;clear HB HS HG H2 hb hbox hgb;have HB:=m0_;have HS:=m1_;have HG:=m2_;have H2:=m3_;clear m0_ m1_ m2_ m3_;have hz0 : wb.cell? ⟨gs,0,none⟩ = some (.func (.func 51) #[] #[.pointer (some ⟨g,0,none⟩)]):=(a_a HS.out 0).trans rfl;have hx0 : wb.cell? ⟨gb,0,none⟩ = some (.int .i64 x.f0):=(a_a BK.out 0).trans rfl;have hx1 : wb.cell? ⟨gb,1,none⟩ = some (.int .i64 x.f1):=(a_a BK.out 1).trans rfl;have hx2 : wb.cell? ⟨gb,2,none⟩ = some (.int .i64 x.f2):=(a_a BK.out 2).trans rfl;have hx3 : wb.cell? ⟨gb,3,none⟩ = some (.int .i64 x.f3):=(a_a BK.out 3).trans rfl;have hx4 : wb.cell? ⟨gb,4,none⟩ = some (.int .i64 x.f4):=(a_a BK.out 4).trans rfl;have hx5 : wb.cell? ⟨gb,5,none⟩ = some (.bool x.f5):=(a_a BK.out 5).trans rfl;have hx6 : wb.cell? ⟨gb,6,none⟩ = some (.bool x.f6):=(a_a BK.out 6).trans rfl;have hx7 : wb.cell? ⟨gb,7,none⟩ = some (.int .u32 x.f7):=(a_a BK.out 7).trans rfl;have hx8 : wb.cell? ⟨gb,8,none⟩ = some (.int .i64 x.f8):=(a_a BK.out 8).trans rfl;have hx9 : wb.cell? ⟨gb,9,none⟩ = some (.int .i64 x.f9):=(a_a BK.out 9).trans rfl;have hx10 : wb.cell? ⟨gb,10,none⟩ = some (.int .i64 x.f10):=(a_a BK.out 10).trans rfl)
    | (go_at_call 51;refine (k_s.calls g x a0 a1 a2 a3 a4 a5 a6 a7 a8 a9 a10 _ HG.out).mono ?_;rintro e w' ⟨rfl,hb⟩;rw [H1.out];clear hz0 hx0 hx1 hx2 hx3 hx4 hx5 hx6 hx7 hx8 hx9 hx10;have m0_:=a_e.mk (a_t HB.out hb);have m3_:=a_e.mk (a_l H2.out hb);have m4_:=a_e.mk (a_l BK.out hb);clear HB HS HG H2 BK hb;have HB:=m0_;have H2:=m3_;have BK:=m4_;clear m0_ m3_ m4_;have hx8 : World.cell? _ ⟨gb,8,none⟩ = some (.int .i64 x.f8):=(a_a BK.out 8).trans rfl;have hx9 : World.cell? _ ⟨gb,9,none⟩ = some (.int .i64 x.f9):=(a_a BK.out 9).trans rfl;have hx10 : World.cell? _ ⟨gb,10,none⟩ = some (.int .i64 x.f10):=(a_a BK.out 10).trans rfl;have hy8 : World.cell? _ ⟨g2,8,none⟩ = some (.int .i64 b8):=(a_a H2.out 8).trans rfl;have hy9 : World.cell? _ ⟨g2,9,none⟩ = some (.int .i64 b9):=(a_a H2.out 9).trans rfl;have hy10 : World.cell? _ ⟨g2,10,none⟩ = some (.int .i64 b10):=(a_a H2.out 10).trans rfl))
   go_ret
   exact ⟨by first|rfl|simp [h2,h3,h4]|simp [*],HB.out⟩
 have:=key _ _ _ _ rfl rfl rfl rfl
 exact this
def b_h.f (l0 : List S65) (a0 : Int) (a1 : Int) (a2 : Int) (a3 : Int) (a4 : Int) (a5 : Bool) (a6 : Bool) (a7 : Int) (a8 : Int) (a9 : Int) (a10 : Int) (b0 : Int) (b1 : Int) (b2 : Int) (b3 : Int) (b4 : Int) (b5 : Bool) (b6 : Bool) (b7 : Int) (b8 : Int) (b9 : Int) (b10 : Int) : Option Int:=if l0.length ≤ 1099511627776 then some ((l0.countP (fun s => e_A s a1 b8 b9 b10) : Nat) : Int) else none
theorem b_h.calls (A0 : Option Addr) (c0 : Nat) (l0 : List S65) (gs g g2 : Nat) (a0 : Int) (a1 : Int) (a2 : Int) (a3 : Int) (a4 : Int) (a5 : Bool) (a6 : Bool) (a7 : Int) (a8 : Int) (a9 : Int) (a10 : Int) (b0 : Int) (b1 : Int) (b2 : Int) (b3 : Int) (b4 : Int) (b5 : Bool) (b6 : Bool) (b7 : Int) (b8 : Int) (b9 : Int) (b10 : Int) (r : Int) (w : World) (hr0 : Kd.C k65 w A0 l0.length l0) (hc0 : l0.length ≤ c0) (hs : w.heap[gs]? = some (.cells #[.func (.func 51) #[] #[.pointer (some ⟨g,0,none⟩)]] 68 (0,0))) (hb : w.heap[g]? = some (.cells #[.int .i64 a0,.int .i64 a1,.int .i64 a2,.int .i64 a3,.int .i64 a4,.bool a5,.bool a6,.int .u32 a7,.int .i64 a8,.int .i64 a9,.int .i64 a10] 65 (0,0))) (hb2 : w.heap[g2]? = some (.cells #[.int .i64 b0,.int .i64 b1,.int .i64 b2,.int .i64 b3,.int .i64 b4,.bool b5,.bool b6,.int .u32 b7,.int .i64 b8,.int .i64 b9,.int .i64 b10] 65 (0,0))) (h : b_h.f l0 a0 a1 a2 a3 a4 a5 a6 a7 a8 a9 a10 b0 b1 b2 b3 b4 b5 b6 b7 b8 b9 b10 = some r) :
 Calls Try.prog 38 #[.slice A0 l0.length c0,.func (.func 52) #[] #[.pointer (some ⟨gs,0,none⟩),.pointer (some ⟨g2,0,none⟩)]] w fun e w' => e = .returned (.int .i64 r) ∧ Below w.heap.size w w':=by
 unfold b_h.f at h
 split at h
 case isFalse => cases h
 case isTrue hl =>
 obtain rfl:=Option.some.inj h
 exact i_T.any 52 _ (i_P Try.func52 (by kernel_rfl) rfl) _ A0 c0 l0 w hr0 hl (fun W hW x _ => l_Z.calls gs g g2 x a0 a1 a2 a3 a4 a5 a6 a7 a8 a9 a10 b0 b1 b2 b3 b4 b5 b6 b7 b8 b9 b10 W ((hW.block _ (a_N hs)).trans hs) ((hW.block _ (a_N hb)).trans hb) ((hW.block _ (a_N hb2)).trans hb2))
end Go.Proofs.Ytgglkfilkagblaa.Q
end
section
namespace Go.Proofs.Ytgglkfilkagblaa.Q
open Go.RowKit Go.Proofs.YtgglkfilkagblaaW.PrintWords Go.Proofs.YtgglkfilkagblaaW.PrintLast Go.Proofs.YtgglkfilkagblaaW.PrintMore
set_option linter.unusedVariables false
set_option linter.unusedSimpArgs false
def a_I.f (a0 : Int) (a1 : Int) (a2 : Int) : Option (Bool):=if a0 ≥ a1 then (some (decide (a0 ≤ a2))) else (some false)
set_option maxHeartbeats 8000000 in
set_option maxRecDepth 100000 in
theorem a_I.calls (a0 : Int) (a1 : Int) (a2 : Int) (r : Bool) (w : World) (h : a_I.f a0 a1 a2 = some r) :
 Calls Try.prog 80 #[.int .i64 a0,.int .i64 a1,.int .i64 a2] w fun e w' => e = .returned (.bool r) ∧ c_g w w':=by
 have H : (if a0 ≥ a1 then (some (decide (a0 ≤ a2))) else (some false)) = some r:=h
 clear h
 by_cases c4 : a0 ≥ a1
 ·rw [if_pos c4] at H
  have c4b0 : decide (a1 ≤ a0) = true:=decide_eq_true c4
  clear c4
  obtain rfl:=Option.some.inj H
  go_enter Try.func80,Try.ntmps80
  go_wp2
  go_ret
  exact ⟨by first|rfl|(simp;done)|(simp [*];done),by repeat (first|exact c_g.refl _|apply c_g.step)⟩
 rw [if_neg c4] at H
 have c4b0 : decide (a1 ≤ a0) = false:=decide_eq_false c4
 clear c4
 obtain rfl:=Option.some.inj H
 go_enter Try.func80,Try.ntmps80
 go_wp2
 go_ret
 exact ⟨by first|rfl|(simp;done)|(simp [*];done),by repeat (first|exact c_g.refl _|apply c_g.step)⟩
end Go.Proofs.Ytgglkfilkagblaa.Q
end
section
namespace Go.Proofs.Ytgglkfilkagblaa.Q
open Go.RowKit Go.Proofs.YtgglkfilkagblaaW.PrintWords Go.Proofs.YtgglkfilkagblaaW.PrintLast Go.Proofs.YtgglkfilkagblaaW.PrintMore
set_option linter.unusedVariables false
set_option linter.unusedSimpArgs false
def c_O.f (a0 : Int) : Option (Int):=if (Go.bits .andNot .u32 a0 255) = 0 then (some 0) else (some 140)
set_option maxHeartbeats 8000000 in
set_option maxRecDepth 100000 in
theorem c_O.calls (a0 : Int) (r : Int) (w : World) (h : c_O.f a0 = some r) :
 Calls Try.prog 81 #[.int .u32 a0] w fun e w' => e = .returned (.int .i64 r) ∧ c_g w w':=by
 have H : (if (Go.bits .andNot .u32 a0 255) = 0 then (some 0) else (some 140)) = some r:=h
 clear h
 by_cases c2 : (Go.bits .andNot .u32 a0 255) = 0
 ·rw [if_pos c2] at H
  have c2b0 : ((Go.bits .andNot .u32 a0 255) == 0) = true:=beq_iff_eq.mpr c2
  have c2b1 : ((Go.bits .andNot .u32 a0 255) != 0) = false:=bne_eq_false_iff_eq.mpr c2
  clear c2
  obtain rfl:=Option.some.inj H
  go_enter Try.func81,Try.ntmps81
  go_wp2
  go_ret
  exact ⟨by first|rfl|(simp;done)|(simp [*];done),by repeat (first|exact c_g.refl _|apply c_g.step)⟩
 rw [if_neg c2] at H
 have c2b0 : ((Go.bits .andNot .u32 a0 255) == 0) = false:=beq_eq_false_iff_ne.mpr c2
 have c2b1 : ((Go.bits .andNot .u32 a0 255) != 0) = true:=bne_iff_ne.mpr c2
 obtain rfl:=Option.some.inj H
 go_enter Try.func81,Try.ntmps81
 go_wp2
 go_ret
 exact ⟨by first|rfl|(simp;done)|(simp [*];done),by repeat (first|exact c_g.refl _|apply c_g.step)⟩
end Go.Proofs.Ytgglkfilkagblaa.Q
end
section
namespace Go.Proofs.Ytgglkfilkagblaa.Q
open Go.RowKit Go.Proofs.YtgglkfilkagblaaW.PrintWords Go.Proofs.YtgglkfilkagblaaW.PrintLast Go.Proofs.YtgglkfilkagblaaW.PrintMore
set_option linter.unusedVariables false
set_option linter.unusedSimpArgs false
def a_1.j0 : Nat → Bool → Int → Int → Int → Int → Int → Bool → Bool → Int → Int → Int → Int → Option (Bool)
 | 0,_,_,_,_,_,_,_,_,_,_,_,_ => none
 | k + 1,x3,x102000,x102001,x102002,x102003,x102004,x102005,x102006,x102007,x102008,x102009,x102010 => if x3 = true then ((a_I.f x102004 (-1) 7).bind fun t106 => (if t106 = true then ((c_O.f x102007).bind fun t107 => (if t107 = 0 then ((a_I.f x102008 1 65535).bind fun t108 => (if t108 = true then ((a_I.f x102009 1 8).bind fun t109 => (if t109 = true then ((a_I.f x102010 0 800).bind fun t110 => (some t110)) else (some false))) else (some false))) else (some false))) else (some false))) else (some false)
def a_1.f (k : Nat) (a0_0 : Int) (a0_1 : Int) (a0_2 : Int) (a0_3 : Int) (a0_4 : Int) (a0_5 : Bool) (a0_6 : Bool) (a0_7 : Int) (a0_8 : Int) (a0_9 : Int) (a0_10 : Int) : Option (Bool):=(a_I.f a0_0 1 16).bind fun t102 => (if t102 = true then ((a_I.f a0_1 1 8).bind fun t103 => (if t103 = true then ((a_I.f a0_2 0 8).bind fun t104 => (if t104 = true then ((a_I.f a0_3 0 3).bind fun t105 => (a_1.j0 k t105 a0_0 a0_1 a0_2 a0_3 a0_4 a0_5 a0_6 a0_7 a0_8 a0_9 a0_10)) else (a_1.j0 k false a0_0 a0_1 a0_2 a0_3 a0_4 a0_5 a0_6 a0_7 a0_8 a0_9 a0_10))) else (a_1.j0 k false a0_0 a0_1 a0_2 a0_3 a0_4 a0_5 a0_6 a0_7 a0_8 a0_9 a0_10))) else (a_1.j0 k false a0_0 a0_1 a0_2 a0_3 a0_4 a0_5 a0_6 a0_7 a0_8 a0_9 a0_10))
theorem a_1.c_N : ∀ k,(∀ y0 y1 y2 y3 y4 y5 y6 y7 y8 y9 y10 y11,LeO (a_1.j0 k y0 y1 y2 y3 y4 y5 y6 y7 y8 y9 y10 y11) (a_1.j0 (k + 1) y0 y1 y2 y3 y4 y5 y6 y7 y8 y9 y10 y11))
 | 0 => fun _ _ _ _ _ _ _ _ _ _ _ _ r h => by simp [a_1.j0] at h
 | k + 1 => by
  have ih0:=a_1.c_N k
  ·intro y0 y1 y2 y3 y4 y5 y6 y7 y8 y9 y10 y11
   unfold a_1.j0
   repeat' first
   | (with_reducible exact ih0 _ _ _ _ _ _ _ _ _ _ _ _)
   | (with_reducible exact LeO.refl _)
   | (with_reducible exact LeO.none _)
   | (with_reducible refine LeO.ite ?_ ?_)
   | (with_reducible refine LeO.bind ?_ (fun _ => ?_))
   | exact ih0 _ _ _ _ _ _ _ _ _ _ _ _
   | exact LeO.none _
   | refine LeO.ite ?_ ?_
   | refine LeO.bind ?_ (fun _ => ?_)
theorem a_1.mono : ∀ a0 a1 a2 a3 a4 a5 a6 a7 a8 a9 a10 k,LeO (a_1.f k a0 a1 a2 a3 a4 a5 a6 a7 a8 a9 a10) (a_1.f (k + 1) a0 a1 a2 a3 a4 a5 a6 a7 a8 a9 a10):=by
 intro a0 a1 a2 a3 a4 a5 a6 a7 a8 a9 a10 k
 have ih0:=a_1.c_N k
 unfold a_1.f
 repeat' first
  | (with_reducible exact ih0 _ _ _ _ _ _ _ _ _ _ _ _)
  | (with_reducible exact LeO.refl _)
  | (with_reducible exact LeO.none _)
  | (with_reducible refine LeO.ite ?_ ?_)
  | (with_reducible refine LeO.bind ?_ (fun _ => ?_))
  | exact ih0 _ _ _ _ _ _ _ _ _ _ _ _
  | exact LeO.none _
  | refine LeO.ite ?_ ?_
  | refine LeO.bind ?_ (fun _ => ?_)
set_option maxHeartbeats 8000000 in
set_option maxRecDepth 100000 in
theorem a_1.calls (k : Nat) (a0_0 : Int) (a0_1 : Int) (a0_2 : Int) (a0_3 : Int) (a0_4 : Int) (a0_5 : Bool) (a0_6 : Bool) (a0_7 : Int) (a0_8 : Int) (a0_9 : Int) (a0_10 : Int) (r : Bool) (w : World) (h : a_1.f k a0_0 a0_1 a0_2 a0_3 a0_4 a0_5 a0_6 a0_7 a0_8 a0_9 a0_10 = some r) :
 Calls Try.prog 53 #[.agg #[.int .i64 a0_0,.int .i64 a0_1,.int .i64 a0_2,.int .i64 a0_3,.int .i64 a0_4,.bool a0_5,.bool a0_6,.int .u32 a0_7,.int .i64 a0_8,.int .i64 a0_9,.int .i64 a0_10]] w fun e w' => e = .returned (.bool r) ∧ Below w.heap.size w w':=by
 have hu65:=Try.underlying65
 have HB:=a_e.mk (Below.refl w.heap.size w)
 have H : ((a_I.f a0_0 1 16).bind fun t102 => (if t102 = true then ((a_I.f a0_1 1 8).bind fun t103 => (if t103 = true then ((a_I.f a0_2 0 8).bind fun t104 => (if t104 = true then ((a_I.f a0_3 0 3).bind fun t105 => (a_1.j0 k t105 a0_0 a0_1 a0_2 a0_3 a0_4 a0_5 a0_6 a0_7 a0_8 a0_9 a0_10)) else (a_1.j0 k false a0_0 a0_1 a0_2 a0_3 a0_4 a0_5 a0_6 a0_7 a0_8 a0_9 a0_10))) else (a_1.j0 k false a0_0 a0_1 a0_2 a0_3 a0_4 a0_5 a0_6 a0_7 a0_8 a0_9 a0_10))) else (a_1.j0 k false a0_0 a0_1 a0_2 a0_3 a0_4 a0_5 a0_6 a0_7 a0_8 a0_9 a0_10))) = some r:=h
 clear h
 have HC2:=a_e.mk H
 clear H
 go_enter Try.func53,Try.ntmps53
 go_upto_region 1 with (first|((with_reducible refine a_U (N:=1) rfl ?_);refine a_H ?hg (N:=1) ?hd (cs:=#[.int .i64 a0_0,.int .i64 a0_1,.int .i64 a0_2,.int .i64 a0_3,.int .i64 a0_4,.bool a0_5,.bool a0_6,.int .u32 a0_7,.int .i64 a0_8,.int .i64 a0_9,.int .i64 a0_10]) (t:=65) ?hr ?_;(case hd => rfl);(case hg => rfl);(case hr => first|(go_simp;done)|(go_simp;rfl));intro b_z hg w3 hbox hb;have a_5:=a_e.mk (hbox);have O_f:=a_e.mk ((by rw [hg];exact (a_p (lup_ HB.out)) : w.heap.size ≤ b_z));have k_o:=a_e.mk ((by rw [hg];exact (a_p (lup_ HB.out)) : w.heap.size ≤ b_z));replace HB:=a_e.mk (a_t (lup_ HB.out) hb);clear hb hbox hg))
 (try simp only [Act.put,sa_,sb_,sc_])
 go_cut [3] (fun v3 wc => ∃ (kq : Nat) (x3_1 : Bool),v3 = .bool x3_1 ∧ a_e (a_1.j0 kq x3_1 a0_0 a0_1 a0_2 a0_3 a0_4 a0_5 a0_6 a0_7 a0_8 a0_9 a0_10 = some r) ∧ a_e (kq ≤ k) ∧ a_e (wc.heap[b_z]? = some (.cells #[.int .i64 a0_0,.int .i64 a0_1,.int .i64 a0_2,.int .i64 a0_3,.int .i64 a0_4,.bool a0_5,.bool a0_6,.int .u32 a0_7,.int .i64 a0_8,.int .i64 a0_9,.int .i64 a0_10] 65 (0,0))) ∧ a_e (Below w.heap.size w wc))
 case first =>
  have H:=HC2.out
  clear HC2
  replace H:=Option.bind_eq_some_iff.mp H
  obtain ⟨t102,A40,H⟩:=H
  replace H : (if t102 = true then ((a_I.f a0_1 1 8).bind fun t103 => (if t103 = true then ((a_I.f a0_2 0 8).bind fun t104 => (if t104 = true then ((a_I.f a0_3 0 3).bind fun t105 => (a_1.j0 k t105 a0_0 a0_1 a0_2 a0_3 a0_4 a0_5 a0_6 a0_7 a0_8 a0_9 a0_10)) else (a_1.j0 k false a0_0 a0_1 a0_2 a0_3 a0_4 a0_5 a0_6 a0_7 a0_8 a0_9 a0_10))) else (a_1.j0 k false a0_0 a0_1 a0_2 a0_3 a0_4 a0_5 a0_6 a0_7 a0_8 a0_9 a0_10))) else (a_1.j0 k false a0_0 a0_1 a0_2 a0_3 a0_4 a0_5 a0_6 a0_7 a0_8 a0_9 a0_10)) = some r:=H
  have A4:=a_e.mk A40
  clear A40
  by_cases c5 : t102 = true
  rotate_left
  ·replace c5:=Bool.eq_false_iff.mpr c5
   subst c5
   have H1 : (a_1.j0 k false a0_0 a0_1 a0_2 a0_3 a0_4 a0_5 a0_6 a0_7 a0_8 a0_9 a0_10) = some r:=by rw [if_neg (show ¬ (false = true) by decide)] at H;exact H
   clear H
   have H:=H1
   clear H1
   have H':=a_e.mk H
   clear H
   have i_5 : w3.cell? ⟨b_z,0,none⟩ = some (.int .i64 a0_0):=(a_a a_5.out 0).trans rfl
   have i_6 : w3.cell? ⟨b_z,1,none⟩ = some (.int .i64 a0_1):=(a_a a_5.out 1).trans rfl
   have i_7 : w3.cell? ⟨b_z,2,none⟩ = some (.int .i64 a0_2):=(a_a a_5.out 2).trans rfl
   have i_8 : w3.cell? ⟨b_z,3,none⟩ = some (.int .i64 a0_3):=(a_a a_5.out 3).trans rfl
   have i_9 : w3.cell? ⟨b_z,4,none⟩ = some (.int .i64 a0_4):=(a_a a_5.out 4).trans rfl
   have j_a : w3.cell? ⟨b_z,5,none⟩ = some (.bool a0_5):=(a_a a_5.out 5).trans rfl
   have j_b : w3.cell? ⟨b_z,6,none⟩ = some (.bool a0_6):=(a_a a_5.out 6).trans rfl
   have j_c : w3.cell? ⟨b_z,7,none⟩ = some (.int .u32 a0_7):=(a_a a_5.out 7).trans rfl
   have j_d : w3.cell? ⟨b_z,8,none⟩ = some (.int .i64 a0_8):=(a_a a_5.out 8).trans rfl
   have j_e : w3.cell? ⟨b_z,9,none⟩ = some (.int .i64 a0_9):=(a_a a_5.out 9).trans rfl
   have h_P : w3.cell? ⟨b_z,10,none⟩ = some (.int .i64 a0_10):=(a_a a_5.out 10).trans rfl
   have j_f:=a_b a_5.out 0
   have j_g:=a_b a_5.out 1
   have j_h:=a_b a_5.out 2
   have j_i:=a_b a_5.out 3
   have j_j:=a_b a_5.out 4
   have j_k:=a_b a_5.out 5
   have j_l:=a_b a_5.out 6
   have j_m:=a_b a_5.out 7
   have j_n:=a_b a_5.out 8
   have j_o:=a_b a_5.out 9
   have h_Q:=a_b a_5.out 10
   go_wp2_with (first|((with_reducible refine a_P (f:=80) rfl ?_);refine b_v (some 6) rfl rfl Try.func80 (by kernel_rfl) rfl #[.int .i64 a0_0,.int .i64 1,.int .i64 16] rfl (by (try simp only [List.map_toArray,List.map_cons,List.map_nil]);first|done|rfl|(simp only [List.length_drop,List.length_take];rfl)) ?_;(with_reducible refine (a_I.calls a0_0 1 16 false _ A4.out).mono ?_);rintro e w' ⟨rfl,⟨nd,rfl⟩⟩;refine ⟨_,rfl,?_⟩))
   go_meet
   case rel => exact ⟨_,(false),(by first|rfl|(simp;done)|(simp [*];done)),H',⟨by first|omega|exact Nat.le_refl _⟩,⟨by (with_reducible repeat (first|refine a_j ?_ _|refine a_k ?_|refine a_i ?_ _));exact a_5.out⟩,⟨by repeat (first|(with_reducible first|exact HB.out|apply a_g|apply a_f|apply a_h|refine a_d ?_ k_o.out)|exact HB.out)⟩⟩
  subst c5
  have H1 : ((a_I.f a0_1 1 8).bind fun t103 => (if t103 = true then ((a_I.f a0_2 0 8).bind fun t104 => (if t104 = true then ((a_I.f a0_3 0 3).bind fun t105 => (a_1.j0 k t105 a0_0 a0_1 a0_2 a0_3 a0_4 a0_5 a0_6 a0_7 a0_8 a0_9 a0_10)) else (a_1.j0 k false a0_0 a0_1 a0_2 a0_3 a0_4 a0_5 a0_6 a0_7 a0_8 a0_9 a0_10))) else (a_1.j0 k false a0_0 a0_1 a0_2 a0_3 a0_4 a0_5 a0_6 a0_7 a0_8 a0_9 a0_10))) = some r:=by rw [if_pos rfl] at H;exact H
  clear H
  have H:=H1
  clear H1
  replace H:=Option.bind_eq_some_iff.mp H
  obtain ⟨t103,A60,H⟩:=H
  replace H : (if t103 = true then ((a_I.f a0_2 0 8).bind fun t104 => (if t104 = true then ((a_I.f a0_3 0 3).bind fun t105 => (a_1.j0 k t105 a0_0 a0_1 a0_2 a0_3 a0_4 a0_5 a0_6 a0_7 a0_8 a0_9 a0_10)) else (a_1.j0 k false a0_0 a0_1 a0_2 a0_3 a0_4 a0_5 a0_6 a0_7 a0_8 a0_9 a0_10))) else (a_1.j0 k false a0_0 a0_1 a0_2 a0_3 a0_4 a0_5 a0_6 a0_7 a0_8 a0_9 a0_10)) = some r:=H
  have A6:=a_e.mk A60
  clear A60
  by_cases c7 : t103 = true
  rotate_left
  ·replace c7:=Bool.eq_false_iff.mpr c7
   subst c7
   have H1 : (a_1.j0 k false a0_0 a0_1 a0_2 a0_3 a0_4 a0_5 a0_6 a0_7 a0_8 a0_9 a0_10) = some r:=by rw [if_neg (show ¬ (false = true) by decide)] at H;exact H
   clear H
   have H:=H1
   clear H1
   have H':=a_e.mk H
   clear H
   have g_d : w3.cell? ⟨b_z,0,none⟩ = some (.int .i64 a0_0):=(a_a a_5.out 0).trans rfl
   have g_e : w3.cell? ⟨b_z,1,none⟩ = some (.int .i64 a0_1):=(a_a a_5.out 1).trans rfl
   have l_3 : w3.cell? ⟨b_z,2,none⟩ = some (.int .i64 a0_2):=(a_a a_5.out 2).trans rfl
   have l_4 : w3.cell? ⟨b_z,3,none⟩ = some (.int .i64 a0_3):=(a_a a_5.out 3).trans rfl
   have l_5 : w3.cell? ⟨b_z,4,none⟩ = some (.int .i64 a0_4):=(a_a a_5.out 4).trans rfl
   have l_6 : w3.cell? ⟨b_z,5,none⟩ = some (.bool a0_5):=(a_a a_5.out 5).trans rfl
   have l_7 : w3.cell? ⟨b_z,6,none⟩ = some (.bool a0_6):=(a_a a_5.out 6).trans rfl
   have l_8 : w3.cell? ⟨b_z,7,none⟩ = some (.int .u32 a0_7):=(a_a a_5.out 7).trans rfl
   have l_9 : w3.cell? ⟨b_z,8,none⟩ = some (.int .i64 a0_8):=(a_a a_5.out 8).trans rfl
   have m_a : w3.cell? ⟨b_z,9,none⟩ = some (.int .i64 a0_9):=(a_a a_5.out 9).trans rfl
   have k_N : w3.cell? ⟨b_z,10,none⟩ = some (.int .i64 a0_10):=(a_a a_5.out 10).trans rfl
   have g_f:=a_b a_5.out 0
   have g_g:=a_b a_5.out 1
   have m_b:=a_b a_5.out 2
   have m_c:=a_b a_5.out 3
   have m_d:=a_b a_5.out 4
   have m_e:=a_b a_5.out 5
   have m_f:=a_b a_5.out 6
   have m_g:=a_b a_5.out 7
   have m_h:=a_b a_5.out 8
   have m_i:=a_b a_5.out 9
   have k_O:=a_b a_5.out 10
   go_wp2_with (first|((with_reducible refine a_P (f:=80) rfl ?_);refine b_v (some 6) rfl rfl Try.func80 (by kernel_rfl) rfl #[.int .i64 a0_0,.int .i64 1,.int .i64 16] rfl (by (try simp only [List.map_toArray,List.map_cons,List.map_nil]);first|done|rfl|(simp only [List.length_drop,List.length_take];rfl)) ?_;(with_reducible refine (a_I.calls a0_0 1 16 true _ A4.out).mono ?_);rintro e w' ⟨rfl,⟨nd,rfl⟩⟩;refine ⟨_,rfl,?_⟩)|(go_at_call 80;(with_reducible refine (a_I.calls a0_1 1 8 false _ A6.out).mono ?_);rintro e w' ⟨rfl,⟨nd,rfl⟩⟩))
   go_meet
   case rel => exact ⟨_,(false),(by first|rfl|(simp;done)|(simp [*];done)),H',⟨by first|omega|exact Nat.le_refl _⟩,⟨by (with_reducible repeat (first|refine a_j ?_ _|refine a_k ?_|refine a_i ?_ _));exact a_5.out⟩,⟨by repeat (first|(with_reducible first|exact HB.out|apply a_g|apply a_f|apply a_h|refine a_d ?_ k_o.out)|exact HB.out)⟩⟩
  subst c7
  have H1 : ((a_I.f a0_2 0 8).bind fun t104 => (if t104 = true then ((a_I.f a0_3 0 3).bind fun t105 => (a_1.j0 k t105 a0_0 a0_1 a0_2 a0_3 a0_4 a0_5 a0_6 a0_7 a0_8 a0_9 a0_10)) else (a_1.j0 k false a0_0 a0_1 a0_2 a0_3 a0_4 a0_5 a0_6 a0_7 a0_8 a0_9 a0_10))) = some r:=by rw [if_pos rfl] at H;exact H
  clear H
  have H:=H1
  clear H1
  replace H:=Option.bind_eq_some_iff.mp H
  obtain ⟨t104,A80,H⟩:=H
  replace H : (if t104 = true then ((a_I.f a0_3 0 3).bind fun t105 => (a_1.j0 k t105 a0_0 a0_1 a0_2 a0_3 a0_4 a0_5 a0_6 a0_7 a0_8 a0_9 a0_10)) else (a_1.j0 k false a0_0 a0_1 a0_2 a0_3 a0_4 a0_5 a0_6 a0_7 a0_8 a0_9 a0_10)) = some r:=H
  have A8:=a_e.mk A80
  clear A80
  by_cases c9 : t104 = true
  rotate_left
  ·replace c9:=Bool.eq_false_iff.mpr c9
   subst c9
   have H1 : (a_1.j0 k false a0_0 a0_1 a0_2 a0_3 a0_4 a0_5 a0_6 a0_7 a0_8 a0_9 a0_10) = some r:=by rw [if_neg (show ¬ (false = true) by decide)] at H;exact H
   clear H
   have H:=H1
   clear H1
   have H':=a_e.mk H
   clear H
   have i_k : w3.cell? ⟨b_z,0,none⟩ = some (.int .i64 a0_0):=(a_a a_5.out 0).trans rfl
   have i_l : w3.cell? ⟨b_z,1,none⟩ = some (.int .i64 a0_1):=(a_a a_5.out 1).trans rfl
   have p_b : w3.cell? ⟨b_z,2,none⟩ = some (.int .i64 a0_2):=(a_a a_5.out 2).trans rfl
   have p_c : w3.cell? ⟨b_z,3,none⟩ = some (.int .i64 a0_3):=(a_a a_5.out 3).trans rfl
   have p_d : w3.cell? ⟨b_z,4,none⟩ = some (.int .i64 a0_4):=(a_a a_5.out 4).trans rfl
   have p_e : w3.cell? ⟨b_z,5,none⟩ = some (.bool a0_5):=(a_a a_5.out 5).trans rfl
   have p_f : w3.cell? ⟨b_z,6,none⟩ = some (.bool a0_6):=(a_a a_5.out 6).trans rfl
   have p_g : w3.cell? ⟨b_z,7,none⟩ = some (.int .u32 a0_7):=(a_a a_5.out 7).trans rfl
   have p_h : w3.cell? ⟨b_z,8,none⟩ = some (.int .i64 a0_8):=(a_a a_5.out 8).trans rfl
   have p_i : w3.cell? ⟨b_z,9,none⟩ = some (.int .i64 a0_9):=(a_a a_5.out 9).trans rfl
   have n_L : w3.cell? ⟨b_z,10,none⟩ = some (.int .i64 a0_10):=(a_a a_5.out 10).trans rfl
   have i_m:=a_b a_5.out 0
   have i_n:=a_b a_5.out 1
   have p_j:=a_b a_5.out 2
   have p_k:=a_b a_5.out 3
   have p_l:=a_b a_5.out 4
   have p_m:=a_b a_5.out 5
   have p_n:=a_b a_5.out 6
   have p_o:=a_b a_5.out 7
   have p_p:=a_b a_5.out 8
   have p_q:=a_b a_5.out 9
   have n_M:=a_b a_5.out 10
   go_wp2_with (first|((with_reducible refine a_P (f:=80) rfl ?_);refine b_v (some 6) rfl rfl Try.func80 (by kernel_rfl) rfl #[.int .i64 a0_0,.int .i64 1,.int .i64 16] rfl (by (try simp only [List.map_toArray,List.map_cons,List.map_nil]);first|done|rfl|(simp only [List.length_drop,List.length_take];rfl)) ?_;(with_reducible refine (a_I.calls a0_0 1 16 true _ A4.out).mono ?_);rintro e w' ⟨rfl,⟨nd,rfl⟩⟩;refine ⟨_,rfl,?_⟩)|(go_at_call 80;(with_reducible refine (a_I.calls a0_1 1 8 true _ A6.out).mono ?_);rintro e w' ⟨rfl,⟨nd,rfl⟩⟩)|(go_at_call 80;(with_reducible refine (a_I.calls a0_2 0 8 false _ A8.out).mono ?_);rintro e w' ⟨rfl,⟨nd,rfl⟩⟩))
   go_meet
   case rel => exact ⟨_,(false),(by first|rfl|(simp;done)|(simp [*];done)),H',⟨by first|omega|exact Nat.le_refl _⟩,⟨by (with_reducible repeat (first|refine a_j ?_ _|refine a_k ?_|refine a_i ?_ _));exact a_5.out⟩,⟨by repeat (first|(with_reducible first|exact HB.out|apply a_g|apply a_f|apply a_h|refine a_d ?_ k_o.out)|exact HB.out)⟩⟩
  subst c9
  have H1 : ((a_I.f a0_3 0 3).bind fun t105 => (a_1.j0 k t105 a0_0 a0_1 a0_2 a0_3 a0_4 a0_5 a0_6 a0_7 a0_8 a0_9 a0_10)) = some r:=by rw [if_pos rfl] at H;exact H
  clear H
  have H:=H1
  clear H1
  replace H:=Option.bind_eq_some_iff.mp H
  obtain ⟨t105,A100,H⟩:=H
  replace H : (a_1.j0 k t105 a0_0 a0_1 a0_2 a0_3 a0_4 a0_5 a0_6 a0_7 a0_8 a0_9 a0_10) = some r:=H
  have A10:=a_e.mk A100
  clear A100
  have H':=a_e.mk H
  clear H
  have g_h : w3.cell? ⟨b_z,0,none⟩ = some (.int .i64 a0_0):=(a_a a_5.out 0).trans rfl
  have g_i : w3.cell? ⟨b_z,1,none⟩ = some (.int .i64 a0_1):=(a_a a_5.out 1).trans rfl
  have s_C : w3.cell? ⟨b_z,2,none⟩ = some (.int .i64 a0_2):=(a_a a_5.out 2).trans rfl
  have s_D : w3.cell? ⟨b_z,3,none⟩ = some (.int .i64 a0_3):=(a_a a_5.out 3).trans rfl
  have s_E : w3.cell? ⟨b_z,4,none⟩ = some (.int .i64 a0_4):=(a_a a_5.out 4).trans rfl
  have s_F : w3.cell? ⟨b_z,5,none⟩ = some (.bool a0_5):=(a_a a_5.out 5).trans rfl
  have s_G : w3.cell? ⟨b_z,6,none⟩ = some (.bool a0_6):=(a_a a_5.out 6).trans rfl
  have s_H : w3.cell? ⟨b_z,7,none⟩ = some (.int .u32 a0_7):=(a_a a_5.out 7).trans rfl
  have s_I : w3.cell? ⟨b_z,8,none⟩ = some (.int .i64 a0_8):=(a_a a_5.out 8).trans rfl
  have s_J : w3.cell? ⟨b_z,9,none⟩ = some (.int .i64 a0_9):=(a_a a_5.out 9).trans rfl
  have r_j : w3.cell? ⟨b_z,10,none⟩ = some (.int .i64 a0_10):=(a_a a_5.out 10).trans rfl
  have g_j:=a_b a_5.out 0
  have f_D:=a_b a_5.out 1
  have s_K:=a_b a_5.out 2
  have s_L:=a_b a_5.out 3
  have s_M:=a_b a_5.out 4
  have s_N:=a_b a_5.out 5
  have s_O:=a_b a_5.out 6
  have s_P:=a_b a_5.out 7
  have s_Q:=a_b a_5.out 8
  have s_R:=a_b a_5.out 9
  have r_k:=a_b a_5.out 10
  go_wp2_with (first|((with_reducible refine a_P (f:=80) rfl ?_);refine b_v (some 6) rfl rfl Try.func80 (by kernel_rfl) rfl #[.int .i64 a0_0,.int .i64 1,.int .i64 16] rfl (by (try simp only [List.map_toArray,List.map_cons,List.map_nil]);first|done|rfl|(simp only [List.length_drop,List.length_take];rfl)) ?_;(with_reducible refine (a_I.calls a0_0 1 16 true _ A4.out).mono ?_);rintro e w' ⟨rfl,⟨nd,rfl⟩⟩;refine ⟨_,rfl,?_⟩)|(go_at_call 80;(with_reducible refine (a_I.calls a0_1 1 8 true _ A6.out).mono ?_);rintro e w' ⟨rfl,⟨nd,rfl⟩⟩)|(go_at_call 80;(with_reducible refine (a_I.calls a0_2 0 8 true _ A8.out).mono ?_);rintro e w' ⟨rfl,⟨nd,rfl⟩⟩)|(go_at_call 80;(with_reducible refine (a_I.calls a0_3 0 3 t105 _ A10.out).mono ?_);rintro e w' ⟨rfl,⟨nd,rfl⟩⟩))
  go_meet
  case rel => exact ⟨_,(t105),(by first|rfl|(simp;done)|(simp [*];done)),H',⟨by first|omega|exact Nat.le_refl _⟩,⟨by (with_reducible repeat (first|refine a_j ?_ _|refine a_k ?_|refine a_i ?_ _));exact a_5.out⟩,⟨by repeat (first|(with_reducible first|exact HB.out|apply a_g|apply a_f|apply a_h|refine a_d ?_ k_o.out)|exact HB.out)⟩⟩
 case rest =>
  clear HC2
  try clear p2
  try clear c5
  try clear c7
  try clear c8
  try clear c9
  try clear g_h
  try clear g_i
  try clear r_j
  try clear s_C
  try clear s_D
  try clear s_E
  try clear s_F
  try clear s_G
  try clear s_H
  try clear s_I
  try clear s_J
  try clear i_k
  try clear i_l
  try clear n_L
  try clear p_b
  try clear p_c
  try clear p_d
  try clear p_e
  try clear p_f
  try clear p_g
  try clear p_h
  try clear p_i
  try clear g_d
  try clear g_e
  try clear k_N
  try clear l_3
  try clear l_4
  try clear l_5
  try clear l_6
  try clear l_7
  try clear l_8
  try clear l_9
  try clear m_a
  try clear i_5
  try clear i_6
  try clear h_P
  try clear i_7
  try clear i_8
  try clear i_9
  try clear j_a
  try clear j_b
  try clear j_c
  try clear j_d
  try clear j_e
  try clear g_j
  try clear f_D
  try clear r_k
  try clear s_K
  try clear s_L
  try clear s_M
  try clear s_N
  try clear s_O
  try clear s_P
  try clear s_Q
  try clear s_R
  try clear i_m
  try clear i_n
  try clear n_M
  try clear p_j
  try clear p_k
  try clear p_l
  try clear p_m
  try clear p_n
  try clear p_o
  try clear p_p
  try clear p_q
  try clear g_f
  try clear g_g
  try clear k_O
  try clear m_b
  try clear m_c
  try clear m_d
  try clear m_e
  try clear m_f
  try clear m_g
  try clear m_h
  try clear m_i
  try clear j_f
  try clear j_g
  try clear h_Q
  try clear j_h
  try clear j_i
  try clear j_j
  try clear j_k
  try clear j_l
  try clear j_m
  try clear j_n
  try clear j_o
  obtain ⟨kq,x3_1,rfl,HA,HJ1,a_5,HB⟩:=hcut
  cases kq with
  | zero => exact absurd HA.out (by simp [a_1.j0])
  | succ kj1 =>
   have H:=HA.out
   clear HA
   simp only [a_1.j0] at H
   by_cases c15 : x3_1 = true
   rotate_left
   ·replace c15:=Bool.eq_false_iff.mpr c15
    subst c15
    have H1 : (some false) = some r:=by rw [if_neg (show ¬ (false = true) by decide)] at H;exact H
    clear H
    have H:=H1
    clear H1
    obtain rfl:=Option.some.inj H
    go_wp2
    go_ret
    exact ⟨by first|rfl|(simp [a_w,a_x] <;> rfl)|(simp [*, a_w,a_x] <;> rfl),by repeat (first|(with_reducible first|exact HB.out|apply a_g|apply a_f|apply a_h|refine a_d ?_ k_o.out)|exact HB.out)⟩
   subst c15
   have H1 : ((a_I.f a0_4 (-1) 7).bind fun t106 => (if t106 = true then ((c_O.f a0_7).bind fun t107 => (if t107 = 0 then ((a_I.f a0_8 1 65535).bind fun t108 => (if t108 = true then ((a_I.f a0_9 1 8).bind fun t109 => (if t109 = true then ((a_I.f a0_10 0 800).bind fun t110 => (some t110)) else (some false))) else (some false))) else (some false))) else (some false))) = some r:=by rw [if_pos rfl] at H;exact H
   clear H
   have H:=H1
   clear H1
   replace H:=Option.bind_eq_some_iff.mp H
   obtain ⟨t106,A160,H⟩:=H
   replace H : (if t106 = true then ((c_O.f a0_7).bind fun t107 => (if t107 = 0 then ((a_I.f a0_8 1 65535).bind fun t108 => (if t108 = true then ((a_I.f a0_9 1 8).bind fun t109 => (if t109 = true then ((a_I.f a0_10 0 800).bind fun t110 => (some t110)) else (some false))) else (some false))) else (some false))) else (some false)) = some r:=H
   have A16:=a_e.mk A160
   clear A160
   by_cases c17 : t106 = true
   rotate_left
   ·replace c17:=Bool.eq_false_iff.mpr c17
    subst c17
    have H1 : (some false) = some r:=by rw [if_neg (show ¬ (false = true) by decide)] at H;exact H
    clear H
    have H:=H1
    clear H1
    obtain rfl:=Option.some.inj H
    have m_j : wc.cell? ⟨b_z,0,none⟩ = some (.int .i64 a0_0):=(a_a a_5.out 0).trans rfl
    have m_k : wc.cell? ⟨b_z,1,none⟩ = some (.int .i64 a0_1):=(a_a a_5.out 1).trans rfl
    have A_h : wc.cell? ⟨b_z,2,none⟩ = some (.int .i64 a0_2):=(a_a a_5.out 2).trans rfl
    have A_i : wc.cell? ⟨b_z,3,none⟩ = some (.int .i64 a0_3):=(a_a a_5.out 3).trans rfl
    have A_j : wc.cell? ⟨b_z,4,none⟩ = some (.int .i64 a0_4):=(a_a a_5.out 4).trans rfl
    have A_k : wc.cell? ⟨b_z,5,none⟩ = some (.bool a0_5):=(a_a a_5.out 5).trans rfl
    have A_l : wc.cell? ⟨b_z,6,none⟩ = some (.bool a0_6):=(a_a a_5.out 6).trans rfl
    have A_m : wc.cell? ⟨b_z,7,none⟩ = some (.int .u32 a0_7):=(a_a a_5.out 7).trans rfl
    have A_n : wc.cell? ⟨b_z,8,none⟩ = some (.int .i64 a0_8):=(a_a a_5.out 8).trans rfl
    have A_o : wc.cell? ⟨b_z,9,none⟩ = some (.int .i64 a0_9):=(a_a a_5.out 9).trans rfl
    have w_O : wc.cell? ⟨b_z,10,none⟩ = some (.int .i64 a0_10):=(a_a a_5.out 10).trans rfl
    have m_l:=a_b a_5.out 0
    have m_m:=a_b a_5.out 1
    have A_p:=a_b a_5.out 2
    have A_q:=a_b a_5.out 3
    have A_r:=a_b a_5.out 4
    have A_s:=a_b a_5.out 5
    have A_t:=a_b a_5.out 6
    have A_u:=a_b a_5.out 7
    have A_v:=a_b a_5.out 8
    have A_w:=a_b a_5.out 9
    have w_P:=a_b a_5.out 10
    go_wp2_with (first|(go_at_call 80;(with_reducible refine (a_I.calls a0_4 (-1) 7 false _ A16.out).mono ?_);rintro e w' ⟨rfl,⟨nd,rfl⟩⟩))
    go_ret
    exact ⟨by first|rfl|(simp [a_w,a_x] <;> rfl)|(simp [*, a_w,a_x] <;> rfl),by repeat (first|(with_reducible first|exact HB.out|apply a_g|apply a_f|apply a_h|refine a_d ?_ k_o.out)|exact HB.out)⟩
   subst c17
   have H1 : ((c_O.f a0_7).bind fun t107 => (if t107 = 0 then ((a_I.f a0_8 1 65535).bind fun t108 => (if t108 = true then ((a_I.f a0_9 1 8).bind fun t109 => (if t109 = true then ((a_I.f a0_10 0 800).bind fun t110 => (some t110)) else (some false))) else (some false))) else (some false))) = some r:=by rw [if_pos rfl] at H;exact H
   clear H
   have H:=H1
   clear H1
   replace H:=Option.bind_eq_some_iff.mp H
   obtain ⟨t107,A180,H⟩:=H
   replace H : (if t107 = 0 then ((a_I.f a0_8 1 65535).bind fun t108 => (if t108 = true then ((a_I.f a0_9 1 8).bind fun t109 => (if t109 = true then ((a_I.f a0_10 0 800).bind fun t110 => (some t110)) else (some false))) else (some false))) else (some false)) = some r:=H
   have A18:=a_e.mk A180
   clear A180
   by_cases c19 : t107 = 0
   rotate_left
   ·rw [if_neg c19] at H
    have c19b0 : (t107 == 0) = false:=beq_eq_false_iff_ne.mpr c19
    have c19b1 : (t107 != 0) = true:=bne_iff_ne.mpr c19
    obtain rfl:=Option.some.inj H
    have i_o : wc.cell? ⟨b_z,0,none⟩ = some (.int .i64 a0_0):=(a_a a_5.out 0).trans rfl
    have i_p : wc.cell? ⟨b_z,1,none⟩ = some (.int .i64 a0_1):=(a_a a_5.out 1).trans rfl
    have p_r : wc.cell? ⟨b_z,2,none⟩ = some (.int .i64 a0_2):=(a_a a_5.out 2).trans rfl
    have p_s : wc.cell? ⟨b_z,3,none⟩ = some (.int .i64 a0_3):=(a_a a_5.out 3).trans rfl
    have p_t : wc.cell? ⟨b_z,4,none⟩ = some (.int .i64 a0_4):=(a_a a_5.out 4).trans rfl
    have p_u : wc.cell? ⟨b_z,5,none⟩ = some (.bool a0_5):=(a_a a_5.out 5).trans rfl
    have p_v : wc.cell? ⟨b_z,6,none⟩ = some (.bool a0_6):=(a_a a_5.out 6).trans rfl
    have p_w : wc.cell? ⟨b_z,7,none⟩ = some (.int .u32 a0_7):=(a_a a_5.out 7).trans rfl
    have p_x : wc.cell? ⟨b_z,8,none⟩ = some (.int .i64 a0_8):=(a_a a_5.out 8).trans rfl
    have p_y : wc.cell? ⟨b_z,9,none⟩ = some (.int .i64 a0_9):=(a_a a_5.out 9).trans rfl
    have n_N : wc.cell? ⟨b_z,10,none⟩ = some (.int .i64 a0_10):=(a_a a_5.out 10).trans rfl
    have i_q:=a_b a_5.out 0
    have i_r:=a_b a_5.out 1
    have p_z:=a_b a_5.out 2
    have p_A:=a_b a_5.out 3
    have p_B:=a_b a_5.out 4
    have p_C:=a_b a_5.out 5
    have p_D:=a_b a_5.out 6
    have p_E:=a_b a_5.out 7
    have p_F:=a_b a_5.out 8
    have p_G:=a_b a_5.out 9
    have n_O:=a_b a_5.out 10
    go_wp2_with (first|(go_at_call 80;(with_reducible refine (a_I.calls a0_4 (-1) 7 true _ A16.out).mono ?_);rintro e w' ⟨rfl,⟨nd,rfl⟩⟩)|(go_at_call 81;(with_reducible refine (c_O.calls a0_7 t107 _ A18.out).mono ?_);rintro e w' ⟨rfl,⟨nd,rfl⟩⟩))
    go_ret
    exact ⟨by first|rfl|(simp [a_w,a_x] <;> rfl)|(simp [*, a_w,a_x] <;> rfl),by repeat (first|(with_reducible first|exact HB.out|apply a_g|apply a_f|apply a_h|refine a_d ?_ k_o.out)|exact HB.out)⟩
   rw [if_pos c19] at H
   have c19b0 : (t107 == 0) = true:=beq_iff_eq.mpr c19
   have c19b1 : (t107 != 0) = false:=bne_eq_false_iff_eq.mpr c19
   clear c19
   replace H:=Option.bind_eq_some_iff.mp H
   obtain ⟨t108,A200,H⟩:=H
   replace H : (if t108 = true then ((a_I.f a0_9 1 8).bind fun t109 => (if t109 = true then ((a_I.f a0_10 0 800).bind fun t110 => (some t110)) else (some false))) else (some false)) = some r:=H
   have A20:=a_e.mk A200
   clear A200
   by_cases c21 : t108 = true
   rotate_left
   ·replace c21:=Bool.eq_false_iff.mpr c21
    subst c21
    have H1 : (some false) = some r:=by rw [if_neg (show ¬ (false = true) by decide)] at H;exact H
    clear H
    have H:=H1
    clear H1
    obtain rfl:=Option.some.inj H
    have p_H : wc.cell? ⟨b_z,0,none⟩ = some (.int .i64 a0_0):=(a_a a_5.out 0).trans rfl
    have p_I : wc.cell? ⟨b_z,1,none⟩ = some (.int .i64 a0_1):=(a_a a_5.out 1).trans rfl
    have A_x : wc.cell? ⟨b_z,2,none⟩ = some (.int .i64 a0_2):=(a_a a_5.out 2).trans rfl
    have A_y : wc.cell? ⟨b_z,3,none⟩ = some (.int .i64 a0_3):=(a_a a_5.out 3).trans rfl
    have A_z : wc.cell? ⟨b_z,4,none⟩ = some (.int .i64 a0_4):=(a_a a_5.out 4).trans rfl
    have A_A : wc.cell? ⟨b_z,5,none⟩ = some (.bool a0_5):=(a_a a_5.out 5).trans rfl
    have A_B : wc.cell? ⟨b_z,6,none⟩ = some (.bool a0_6):=(a_a a_5.out 6).trans rfl
    have A_C : wc.cell? ⟨b_z,7,none⟩ = some (.int .u32 a0_7):=(a_a a_5.out 7).trans rfl
    have A_D : wc.cell? ⟨b_z,8,none⟩ = some (.int .i64 a0_8):=(a_a a_5.out 8).trans rfl
    have A_E : wc.cell? ⟨b_z,9,none⟩ = some (.int .i64 a0_9):=(a_a a_5.out 9).trans rfl
    have w_Q : wc.cell? ⟨b_z,10,none⟩ = some (.int .i64 a0_10):=(a_a a_5.out 10).trans rfl
    have p_J:=a_b a_5.out 0
    have p_K:=a_b a_5.out 1
    have A_F:=a_b a_5.out 2
    have A_G:=a_b a_5.out 3
    have A_H:=a_b a_5.out 4
    have A_I:=a_b a_5.out 5
    have A_J:=a_b a_5.out 6
    have A_K:=a_b a_5.out 7
    have A_L:=a_b a_5.out 8
    have A_M:=a_b a_5.out 9
    have w_R:=a_b a_5.out 10
    go_wp2_with (first|(go_at_call 80;(with_reducible refine (a_I.calls a0_4 (-1) 7 true _ A16.out).mono ?_);rintro e w' ⟨rfl,⟨nd,rfl⟩⟩)|(go_at_call 81;(with_reducible refine (c_O.calls a0_7 t107 _ A18.out).mono ?_);rintro e w' ⟨rfl,⟨nd,rfl⟩⟩)|(go_at_call 80;(with_reducible refine (a_I.calls a0_8 1 65535 false _ A20.out).mono ?_);rintro e w' ⟨rfl,⟨nd,rfl⟩⟩))
    go_ret
    exact ⟨by first|rfl|(simp [a_w,a_x] <;> rfl)|(simp [*, a_w,a_x] <;> rfl),by repeat (first|(with_reducible first|exact HB.out|apply a_g|apply a_f|apply a_h|refine a_d ?_ k_o.out)|exact HB.out)⟩
   subst c21
   have H1 : ((a_I.f a0_9 1 8).bind fun t109 => (if t109 = true then ((a_I.f a0_10 0 800).bind fun t110 => (some t110)) else (some false))) = some r:=by rw [if_pos rfl] at H;exact H
   clear H
   have H:=H1
   clear H1
   replace H:=Option.bind_eq_some_iff.mp H
   obtain ⟨t109,A220,H⟩:=H
   replace H : (if t109 = true then ((a_I.f a0_10 0 800).bind fun t110 => (some t110)) else (some false)) = some r:=H
   have A22:=a_e.mk A220
   clear A220
   by_cases c23 : t109 = true
   rotate_left
   ·replace c23:=Bool.eq_false_iff.mpr c23
    subst c23
    have H1 : (some false) = some r:=by rw [if_neg (show ¬ (false = true) by decide)] at H;exact H
    clear H
    have H:=H1
    clear H1
    obtain rfl:=Option.some.inj H
    have j_p : wc.cell? ⟨b_z,0,none⟩ = some (.int .i64 a0_0):=(a_a a_5.out 0).trans rfl
    have j_q : wc.cell? ⟨b_z,1,none⟩ = some (.int .i64 a0_1):=(a_a a_5.out 1).trans rfl
    have A_N : wc.cell? ⟨b_z,2,none⟩ = some (.int .i64 a0_2):=(a_a a_5.out 2).trans rfl
    have A_O : wc.cell? ⟨b_z,3,none⟩ = some (.int .i64 a0_3):=(a_a a_5.out 3).trans rfl
    have A_P : wc.cell? ⟨b_z,4,none⟩ = some (.int .i64 a0_4):=(a_a a_5.out 4).trans rfl
    have A_Q : wc.cell? ⟨b_z,5,none⟩ = some (.bool a0_5):=(a_a a_5.out 5).trans rfl
    have A_R : wc.cell? ⟨b_z,6,none⟩ = some (.bool a0_6):=(a_a a_5.out 6).trans rfl
    have A_S : wc.cell? ⟨b_z,7,none⟩ = some (.int .u32 a0_7):=(a_a a_5.out 7).trans rfl
    have A_T : wc.cell? ⟨b_z,8,none⟩ = some (.int .i64 a0_8):=(a_a a_5.out 8).trans rfl
    have A_U : wc.cell? ⟨b_z,9,none⟩ = some (.int .i64 a0_9):=(a_a a_5.out 9).trans rfl
    have w_S : wc.cell? ⟨b_z,10,none⟩ = some (.int .i64 a0_10):=(a_a a_5.out 10).trans rfl
    have j_r:=a_b a_5.out 0
    have j_s:=a_b a_5.out 1
    have A_V:=a_b a_5.out 2
    have A_W:=a_b a_5.out 3
    have A_X:=a_b a_5.out 4
    have A_Y:=a_b a_5.out 5
    have A_Z:=a_b a_5.out 6
    have A_0:=a_b a_5.out 7
    have A_1:=a_b a_5.out 8
    have A_2:=a_b a_5.out 9
    have w_T:=a_b a_5.out 10
    go_wp2_with (first|(go_at_call 80;(with_reducible refine (a_I.calls a0_4 (-1) 7 true _ A16.out).mono ?_);rintro e w' ⟨rfl,⟨nd,rfl⟩⟩)|(go_at_call 81;(with_reducible refine (c_O.calls a0_7 t107 _ A18.out).mono ?_);rintro e w' ⟨rfl,⟨nd,rfl⟩⟩)|(go_at_call 80;(with_reducible refine (a_I.calls a0_8 1 65535 true _ A20.out).mono ?_);rintro e w' ⟨rfl,⟨nd,rfl⟩⟩)|(go_at_call 80;(with_reducible refine (a_I.calls a0_9 1 8 false _ A22.out).mono ?_);rintro e w' ⟨rfl,⟨nd,rfl⟩⟩))
    go_ret
    exact ⟨by first|rfl|(simp [a_w,a_x] <;> rfl)|(simp [*, a_w,a_x] <;> rfl),by repeat (first|(with_reducible first|exact HB.out|apply a_g|apply a_f|apply a_h|refine a_d ?_ k_o.out)|exact HB.out)⟩
   subst c23
   have H1 : ((a_I.f a0_10 0 800).bind fun t110 => (some t110)) = some r:=by rw [if_pos rfl] at H;exact H
   clear H
   have H:=H1
   clear H1
   replace H:=Option.bind_eq_some_iff.mp H
   obtain ⟨t110,A240,H⟩:=H
   replace H : (some t110) = some r:=H
   have A24:=a_e.mk A240
   clear A240
   obtain rfl:=Option.some.inj H
   have m_n : wc.cell? ⟨b_z,0,none⟩ = some (.int .i64 a0_0):=(a_a a_5.out 0).trans rfl
   have m_o : wc.cell? ⟨b_z,1,none⟩ = some (.int .i64 a0_1):=(a_a a_5.out 1).trans rfl
   have p_L : wc.cell? ⟨b_z,2,none⟩ = some (.int .i64 a0_2):=(a_a a_5.out 2).trans rfl
   have p_M : wc.cell? ⟨b_z,3,none⟩ = some (.int .i64 a0_3):=(a_a a_5.out 3).trans rfl
   have p_N : wc.cell? ⟨b_z,4,none⟩ = some (.int .i64 a0_4):=(a_a a_5.out 4).trans rfl
   have p_O : wc.cell? ⟨b_z,5,none⟩ = some (.bool a0_5):=(a_a a_5.out 5).trans rfl
   have p_P : wc.cell? ⟨b_z,6,none⟩ = some (.bool a0_6):=(a_a a_5.out 6).trans rfl
   have p_Q : wc.cell? ⟨b_z,7,none⟩ = some (.int .u32 a0_7):=(a_a a_5.out 7).trans rfl
   have p_R : wc.cell? ⟨b_z,8,none⟩ = some (.int .i64 a0_8):=(a_a a_5.out 8).trans rfl
   have p_S : wc.cell? ⟨b_z,9,none⟩ = some (.int .i64 a0_9):=(a_a a_5.out 9).trans rfl
   have n_P : wc.cell? ⟨b_z,10,none⟩ = some (.int .i64 a0_10):=(a_a a_5.out 10).trans rfl
   have m_p:=a_b a_5.out 0
   have m_q:=a_b a_5.out 1
   have p_T:=a_b a_5.out 2
   have p_U:=a_b a_5.out 3
   have p_V:=a_b a_5.out 4
   have p_W:=a_b a_5.out 5
   have p_X:=a_b a_5.out 6
   have p_Y:=a_b a_5.out 7
   have p_Z:=a_b a_5.out 8
   have p_0:=a_b a_5.out 9
   have n_Q:=a_b a_5.out 10
   go_wp2_with (first|(go_at_call 80;(with_reducible refine (a_I.calls a0_4 (-1) 7 true _ A16.out).mono ?_);rintro e w' ⟨rfl,⟨nd,rfl⟩⟩)|(go_at_call 81;(with_reducible refine (c_O.calls a0_7 t107 _ A18.out).mono ?_);rintro e w' ⟨rfl,⟨nd,rfl⟩⟩)|(go_at_call 80;(with_reducible refine (a_I.calls a0_8 1 65535 true _ A20.out).mono ?_);rintro e w' ⟨rfl,⟨nd,rfl⟩⟩)|(go_at_call 80;(with_reducible refine (a_I.calls a0_9 1 8 true _ A22.out).mono ?_);rintro e w' ⟨rfl,⟨nd,rfl⟩⟩)|(go_at_call 80;(with_reducible refine (a_I.calls a0_10 0 800 t110 _ A24.out).mono ?_);rintro e w' ⟨rfl,⟨nd,rfl⟩⟩))
   go_ret
   exact ⟨by first|rfl|(simp [a_w,a_x] <;> rfl)|(simp [*, a_w,a_x] <;> rfl),by repeat (first|(with_reducible first|exact HB.out|apply a_g|apply a_f|apply a_h|refine a_d ?_ k_o.out)|exact HB.out)⟩
end Go.Proofs.Ytgglkfilkagblaa.Q
end
