/- Part 2 of 11 of what the row of AuditOne stands on: contracts over the given program's functions, the plain law, the row; no condition beyond those that each theorem states. -/
import Derived.Test.YtgglkfilkagblaaDoorXAuditOne0
section
namespace Go.Proofs.YtgglkfilkagblaaDoorW.PrintMore
open Go.RowKit Go.Proofs.YtgglkfilkagblaaDoorW.PrintWords
namespace Kd
open Go.Proofs.YtgglkfilkagblaaDoorW.PrintWords.Kd
end Kd
namespace Kd
open Go.Proofs.YtgglkfilkagblaaDoorW.PrintWords.Kd
section
variable {α : Type} {d : Kd α} {e base g N : Nat} {ok : Nat → Prop} {W w1 : World} {u v : Value} {xs : List α}
end
end Kd
end Go.Proofs.YtgglkfilkagblaaDoorW.PrintMore
namespace Go.Proofs.YtgglkfilkagblaaDoorW.PrintWords
open Go.RowKit
section
variable {P : Program} {ops : Array Oper} {rest : List Oper} {o : Oper} {a : Act} {Q : Exit → Act → World → Prop} {W : World}
theorem a_M {f : FuncId} {as : Array Operand} {ts : Array TypeId} (_ho : o.op = .call { callee:=.value (.func f),args:=as,argTypes:=ts }) (h : wpList P ops Q (o :: rest) a W) : wpList P ops Q (o :: rest) a W:=h
theorem f_Y {b : Builtin} {xs : Array Operand} {ts : Array TypeId} (_ho : o.op = .call { callee:=.builtin b,args:=xs,argTypes:=ts }) (h : wpList P ops Q (o :: rest) a W) : wpList P ops Q (o :: rest) a W:=h
end
def mx (a b : Int) : Int:=if a < b then b else a
def mn (a b : Int) : Int:=if b < a then b else a
def shl (k : IntKind) (x y : Int) : Int:=k.wrap (x * 2 ^ min y.toNat k.bits)
theorem e_U {k : IntKind} {x y j : Int} (h : shl k x y = j) (hy : y ≤ k.bits) : k.wrap (x * 2 ^ y.toNat) = j:=by rw [← h];unfold shl;rw [Nat.min_eq_left (by omega)]
namespace Kd
section
variable {α : Type} {d : Kd α} {e base : Nat} {ok : Nat → Prop} {W w1 : World} {v : Value} {xs : List α}
end
section
variable {α : Type} {d : Kd α} {e base g n cap : Nat} {ok oki okp : Nat → Prop} {W : World} {xs : List α} {i : Int} {c : List Value}
end
section
variable {α : Type} {d : Kd α} {e base b b' g N : Nat} {ok ok1 : Nat → Prop} {W W2 w1 : World} {u v : Value} {xs ys : List α} {S : Nat → Prop}
end
end Kd
end Go.Proofs.YtgglkfilkagblaaDoorW.PrintWords
namespace Go.Proofs.YtgglkfilkagblaaDoorW.PrintWords
open Go.RowKit
namespace Kd
def V {α : Type} (d : Kd α) (_e : Nat) (W : World) (_base : Nat) (ok : Nat → Prop) (v : Value) (xs : List α) : Prop := ∃ A c,v = .slice A xs.length c ∧ xs.length ≤ c ∧ F d W ok A xs.length xs
section
variable {α β : Type} {d : Kd α} {e base base' n m c g N' lo hi : Nat} {ok ok' S : Nat → Prop} {w W w1 : World} {A : Option Addr} {ad : Addr} {u v v1 : Value} {xs : List α}
theorem g_3 (h : V d e W base ok v xs) (hF : ∀ A,F d W ok A xs.length xs → F d w1 ok' A xs.length xs) : V d e w1 base' ok' v xs:=by
 obtain ⟨A,c,hv,hl,hf⟩:=h
 exact ⟨A,c,hv,hl,hF A hf⟩
theorem V_mk (hl : xs.length ≤ c) (hf : F d W ok A xs.length xs) : V d e W base ok (.slice A xs.length c) xs:=⟨A,c,rfl,hl,hf⟩
theorem n_C (h : V d e W base ok v xs) : ∃ A c,v = .slice A xs.length c:=by
 obtain ⟨A,c,hv,_⟩:=h
 exact ⟨A,c,hv⟩
theorem V_at (h : V d e W base ok (.slice A n c) xs) : n = xs.length ∧ n ≤ c ∧ F d W ok A xs.length xs:=by
 obtain ⟨A',c',hv,hl,hf⟩:=h
 injection hv with ha hn hc
 subst ha;subst hc
 exact ⟨hn,by rw [hn];exact hl,hf⟩
theorem b_w (h : V d e W base ok (.slice A n c) xs) : n = xs.length ∧ n ≤ c ∧ d.C W A xs.length xs:=⟨(V_at h).1,(V_at h).2.1,n_k (V_at h).2.2⟩
theorem V_F (h : V d e W base ok (.slice A n c) xs) : F d W ok A n xs:=by
 obtain ⟨hn,_,hf⟩:=V_at h
 rw [hn]
 exact hf
theorem g_F (d : Kd α) (e : Nat) (W : World) (base : Nat) (ok : Nat → Prop) : V d e W base ok (.slice none 0 0) []:=⟨none,0,rfl,Nat.le_refl _,s_A d W ok⟩
theorem R_V (h : d.R e W base ok v xs) : V d e W base' ok v xs:=by
 obtain ⟨A,c,rfl⟩:=d_U h
 exact ⟨A,c,rfl,(b_o h).2.1,R_F h⟩
theorem N_V (h : N d e W base ok v xs) : V d e W base' ok v xs:=by
 obtain ⟨A,c,rfl⟩:=g_i h
 exact ⟨A,c,rfl,(e_W h).2.1,N_F h⟩
theorem c_X (h : V d e W base ok v xs) (hok : ∀ k,ok k → ok' k) : V d e W base ok' v xs:=g_3 h (fun _ hf => j_C hf hok)
theorem n_B (h : V d e W base ok v xs) (_ : base' ≤ base) : V d e W base' ok v xs:=h
theorem a_4 (h : V d e W base ok v xs) (hb : Below W.heap.size W w1) : V d e w1 base ok v xs:=g_3 h (fun _ hf => g_X hf hb)
theorem a_T (h : V d e W base ok v xs) (o : Obj) : V d e (W.alloc o) base ok v xs:=g_3 h (fun _ hf => n_i hf o)
theorem a_1 (h : V d e W base ok v xs) : V d e W.drew base ok v xs:=g_3 h (fun _ hf => q_5 hf)
theorem a_U (h : V d e W base ok v xs) (m : Nat) : V d e (W.drewN m) base ok v xs:=g_3 h (fun _ hf => n_j hf m)
theorem i_a (h : V d e W base ok v xs) {p : Addr} (hok : ∀ k,ok k → k ≠ p.block) (u : Value) : V d e (W.setCell p u) base ok v xs:=g_3 h (fun _ hf => s_y hf hok u)
theorem n_A (h : V d e W base (fun k => ok k ∧ some k ≠ u.ownBlock) v xs) (hg : W.grownBy w1 u.ownBlock) (hat : v1.ownBlock = u.ownBlock ∨ ∃ b,v1.ownBlock = some b ∧ W.heap.size ≤ b) : V d e w1 base (fun k => ok k ∧ some k ≠ v1.ownBlock) v xs:=g_3 h (fun _ hf => n_h hf hg hat)
theorem f_t (h : V d e W base (fun k => ok k ∧ some k ≠ v.ownBlock) u xs) (hg : W.grownBy w1 v.ownBlock) (hat : v1.ownBlock = v.ownBlock ∨ ∃ b,v1.ownBlock = some b ∧ W.heap.size ≤ b) : V d e w1 base (fun k => ok k ∧ some k ≠ v1.ownBlock) u xs:=n_A h hg hat
theorem f_u (h : V d e W base ok v xs) (hbase : ∀ k,u.ownBlock = some k → W.heap.size ≤ k) (hb : Below W.heap.size W w1) : V d e w1 base (fun k => ok k ∧ some k ≠ u.ownBlock) v xs:=g_3 h (fun _ hf => l_8 hf hbase hb)
theorem b_r (h : V d e W base ok v xs) (a : Nat) (ha : W.heap.size ≤ a) : V d e W base (fun k => ok k ∧ k ≠ a) v xs:=g_3 h (fun _ hf => l_9 hf a ha)
end
end Kd
end Go.Proofs.YtgglkfilkagblaaDoorW.PrintWords
end
