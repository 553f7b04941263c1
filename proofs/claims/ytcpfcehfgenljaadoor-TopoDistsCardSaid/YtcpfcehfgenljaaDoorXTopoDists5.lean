/- Part 6 of 6 of what the row of TopoDists stands on: contracts over the given program's functions, the plain law, the row; no condition beyond those that each theorem states. -/
import Derived.Test.YtcpfcehfgenljaaDoorXTopoDists4
import Derived.Test.YtcpfcehfgenljaaDoorTie
import Derived.Test.YtcpfcehfgenljaaDoorCards
import Derived.SevenTiedAt
import Derived.LaidMore
import Derived.Lib.LaidTab
section
namespace Go.Proofs.YtcpfcehfgenljaaDoor.Pure
open Go.RowKit Go.Proofs.YtcpfcehfgenljaaDoor.Q Go.Proofs.YtcpfcehfgenljaaDoorW.PrintWords Go.Proofs.YtcpfcehfgenljaaDoorW.PrintLast Go.Proofs.YtcpfcehfgenljaaDoorW.PrintMore
set_option linter.unusedVariables false
set_option linter.unusedSimpArgs false
theorem d_v (n : Nat) (h : n < 9223372036854775807) : wrap64 ((n : Int) + 1) = ((n + 1 : Nat) : Int):=by unfold wrap64;omega
theorem k_z (n : Int) (h0 : -9223372036854775808 ≤ n) (h1 : n ≤ 9223372036854775807) : wrap64 n = n:=by unfold wrap64;omega
theorem rdm {l pre suf : List S56} {x : S56} (h : l = pre ++ x :: suf) : a_x l (pre.length : Int) = x:=by subst h;simp [a_x]
theorem j_N {α : Type} {l pre suf : List α} {x : α} (h : l = pre ++ x :: suf) : pre.length < l.length:=by subst h;simp
theorem g_G {α : Type} {l pre suf : List α} {x : α} (h : l = pre ++ x :: suf) : l = (pre ++ [x]) ++ suf:=by simp [h]
theorem i_b {α : Type} {pre : List α} {x : α} (h : pre.length < 1000000000) : wrap64 ((pre.length : Int) + 1) = ((pre ++ [x]).length : Int):=by rw [d_v pre.length (by omega)];simp
theorem i_X {α : Type} {l pre : List α} (h : l = pre ++ []) : pre.length = l.length:=by subst h;simp
theorem i_O : Ev (fun k => a_G.f k) true:=Ev.of a_G.mono (k:=100) (by kernel_rfl)
theorem j_S (l : List S56) : a_H.f l = some (l.take 9):=by
 have h : mn (l.length : Int) 9 = ((min l.length 9 : Nat) : Int):=by unfold mn;split <;> omega
 unfold a_H.f
 rw [h,if_pos (by omega),if_pos (by omega),Int.toNat_natCast]
 unfold b_v.f
 have e : l.take (min l.length 9) = l.take 9:=by rw [List.take_eq_take_iff];omega
 have hl : (l.take 9).length ≤ 9:=by rw [List.length_take];omega
 rw [e]
 simp only [Option.bind_some,List.nil_append,List.length_nil]
 rw [if_pos (by omega)]
 rfl
def eqv (x y : S56) : Bool:=x.f0 == y.f0 && (x.f1 == y.f1)
theorem j_j {x y : S56} : eqv x y = true ↔ x = y:=by
 unfold eqv
 simp only [Bool.and_eq_true,beq_iff_eq]
 constructor
 ·rintro ⟨h0,h1⟩;cases x;cases y;simp_all
 rintro rfl;exact ⟨rfl,rfl⟩
def eqL : List S56 → List S56 → Bool
 | [],[] => true
 | x :: a,y :: b => eqv x y && eqL a b
 | _,_ => false
theorem f_P : ∀ {a b : List S56}, eqL a b = true ↔ a = b
 | [],[] => by simp [eqL]
 | x :: a,y :: b => by rw [eqL,Bool.and_eq_true,j_j,f_P,List.cons_eq_cons]
 | [],y :: b => by simp [eqL]
 | x :: a,[] => by simp [eqL]
theorem i_A (a : List S56) : eqL a a = true:=f_P.2 rfl
theorem j_i : ∀ {a b : List S56}, a.length ≠ b.length → eqL a b = false:=fun {a b} h => by
 cases e : eqL a b
 ·rfl
 ·exact absurd (congrArg List.length (f_P.1 e)) h
theorem i_f (A B : List S56) (hA : A.length ≤ 100000) : ∀ (a b p q : List S56),A = p ++ a → B = q ++ b → p.length = q.length → a.length = b.length → Ev (fun k => a_w.l0 k (A.length : Int) (p.length : Int) A B) (eqL a b)
 | [],[],p,q,h1,h2,h3,h4 => by
  have:=i_X h1
  refine Ev.step (f:=fun _ => some true) (fun k => ?_) (Ev.now _)
  rw [a_w.l0,if_neg (by omega)]
 | x :: a,y :: b,p,q,h1,h2,h3,h4 => by
  have i1:=j_N h1
  have i2:=j_N h2
  have ih:=i_f A B hA a b (p ++ [x]) (q ++ [y]) (g_G h1) (g_G h2) (by simp [h3]) (by simpa using h4)
  have r2 : a_x B (p.length : Int) = y:=by rw [h3];exact rdm h2
  refine Ev.step (f:=fun k => if eqv x y = true then a_w.l0 k (A.length : Int) ((p ++ [x]).length : Int) A B else some false) (fun k => ?_) ?_
  ·rw [a_w.l0,if_pos (by omega),if_pos (by omega),if_pos (by omega),if_pos (by omega),rdm h1,r2,i_b (x:=x) (by omega)]
   unfold eqv
   cases (x.f0 == y.f0) <;> cases (x.f1 == y.f1) <;> rfl
  ·rw [eqL]
   cases eqv x y
   ·exact Ev.now _
   ·simpa using ih
 | [],y :: b,p,q,h1,h2,h3,h4 => by simp at h4
 | x :: a,[],p,q,h1,h2,h3,h4 => by simp at h4
theorem j_P (A B : List S56) (hA : A.length ≤ 100000) : Ev (fun k => a_w.f k A B) (eqL A B):=by
 unfold a_w.f
 by_cases h : A.length = B.length
 ·simp only [if_pos (show (A.length : Int) = (B.length : Int) by omega)]
  exact i_f A B hA A B [] [] rfl rfl rfl h
 simp only [if_neg (show ¬ (A.length : Int) = (B.length : Int) by omega),j_i h]
 exact Ev.now _
theorem h_Z (l : List S56) : okT l = (decide (1 ≤ l.length) && decide (l.length ≤ 8) && !l.any e_s):=rfl
theorem g_T (l : List S56) (hl : l.length ≤ 100000) : ∀ (suf pre : List S56),l = pre ++ suf → Ev (fun k => a_s.l0 k l (l.length : Int) (pre.length : Int) l) (!suf.any e_s && (decide (1 ≤ l.length) && decide (l.length ≤ 8)))
 | [],pre,h => by
  have:=i_X h
  refine Ev.step (f:=fun _ => some (decide (1 ≤ l.length) && decide (l.length ≤ 8))) (fun k => ?_) (by simpa using Ev.now _)
  rw [a_s.l0,if_neg (by omega)]
  by_cases h1 : 1 ≤ l.length
  ·rw [if_pos (by omega),decide_eq_true h1,Bool.true_and];congr 1;rw [decide_eq_decide];omega
  ·rw [if_neg (by omega),decide_eq_false h1,Bool.false_and]
 | x :: suf,pre,h => by
  have hlt:=j_N h
  have ih:=g_T l hl suf (pre ++ [x]) (g_G h)
  refine Ev.step (f:=fun k => if e_s x = true then some false else a_s.l0 k l (l.length : Int) ((pre ++ [x]).length : Int) l) (fun k => ?_) ?_
  ·rw [a_s.l0,if_pos (by omega),if_pos (by omega),if_pos (by omega),rdm h,i_b (x:=x) (by omega)]
   unfold e_s
   by_cases c0 : x.f0 < 0
   ·rw [if_pos c0,decide_eq_true c0];rfl
   by_cases c1 : x.f0 ≥ 4
   ·rw [if_neg c0,if_pos c1,decide_eq_true c1,Bool.or_true];rfl
   by_cases c2 : x.f1 < 0
   ·rw [if_neg c0,if_neg c1,if_pos c2,decide_eq_true c2,Bool.or_true];rfl
   rw [if_neg c0,if_neg c1,if_neg c2,decide_eq_false c0,decide_eq_false c1,decide_eq_false c2]
   by_cases c3 : x.f1 ≥ 8
   ·rw [if_pos c3,decide_eq_true c3];rfl
   ·rw [if_neg c3,decide_eq_false c3];rfl
  ·rw [List.any_cons]
   cases e_s x
   ·simpa using ih
   ·exact Ev.now _
theorem i_M (l : List S56) (hl : l.length ≤ 100000) : Ev (fun k => a_s.f k l) (okT l):=by
 unfold a_s.f
 have:=g_T l hl l [] rfl
 rw [h_Z,Bool.and_comm]
 exact this
theorem g_F {l : List S56} (h : okT l = true) : 1 ≤ l.length ∧ l.length ≤ 8:=by
 rw [h_Z] at h
 simp only [Bool.and_eq_true,decide_eq_true_eq] at h
 exact h.1
theorem j_Y (l : List S56) (a b : Int) : Ev (fun k => b_c.f k l a b) (if okT l = true then (if 0 ≤ a ∧ a < (l.length : Int) then (if 0 ≤ b ∧ b < (l.length : Int) then (dN l a b,0) else (0,2)) else (0,2)) else (0,160)):=by
 unfold b_c.f
 simp only [d_f,Option.bind_some,i_o]
 cases h : okT l
 ·exact Ev.now _
 simp only [if_true]
 by_cases ha : 0 ≤ a ∧ a < (l.length : Int)
 rotate_left
 ·simp only [decide_eq_false ha,if_neg ha]
  exact Ev.now _
 by_cases hb : 0 ≤ b ∧ b < (l.length : Int)
 ·simp only [decide_eq_true ha,decide_eq_true hb,if_pos ha,if_pos hb,if_true]
  exact Ev.bind (Ev.of (a_R.mono _ _ _) (h_z l a b ha.1 ha.2 hb.1 hb.2)) (Ev.now _)
 simp only [decide_eq_true ha,decide_eq_false hb,if_pos ha,if_neg hb,if_true]
 exact Ev.now _
end Go.Proofs.YtcpfcehfgenljaaDoor.Pure
end
section
namespace Go.Proofs.YtcpfcehfgenljaaDoor.Pure
open Go.RowKit Go.Proofs.YtcpfcehfgenljaaDoor.Q Go.Proofs.YtcpfcehfgenljaaDoorW.PrintWords Go.Proofs.YtcpfcehfgenljaaDoorW.PrintLast Go.Proofs.YtcpfcehfgenljaaDoorW.PrintMore
set_option linter.unusedVariables false
set_option linter.unusedSimpArgs false
theorem j_R (p : S56 → Bool) (l : List S56) (i : Nat) : (setN p l).testBit i = (okT l && (decide (i < l.length) && p (a_x l (i : Int)))):=by
 unfold setN
 cases h : okT l
 ·simp
 simp only [if_true,Bool.true_and]
 unfold maskN
 rw [g_N,Nat.zero_testBit,Bool.false_or,Bool.eq_iff_iff,decide_eq_true_eq]
 unfold d_t
 rw [List.mem_filter,List.mem_range,Bool.and_eq_true,decide_eq_true_eq]
end Go.Proofs.YtcpfcehfgenljaaDoor.Pure
end
section
namespace Go.Proofs.YtcpfcehfgenljaaDoor.Pure
open Go.RowKit Go.Proofs.YtcpfcehfgenljaaDoor.Q Go.Proofs.YtcpfcehfgenljaaDoorW.PrintWords Go.Proofs.YtcpfcehfgenljaaDoorW.PrintLast Go.Proofs.YtcpfcehfgenljaaDoorW.PrintMore
set_option linter.unusedVariables false
set_option linter.unusedSimpArgs false
theorem e_N (A B : List Int) (x : Int) : rd (A ++ x :: B) (A.length : Int) = x:=by simp [rd]
theorem i_m (A B : List Int) (y x : Int) : e_D (A ++ y :: x :: B) A.length = A ++ x :: y :: B:=by
 have h1:=e_N A (x :: B) y
 have h2 : rd (A ++ y :: x :: B) ((A.length + 1 : Nat) : Int) = x:=by
  have:=e_N (A ++ [y]) B x
  simpa using this
 unfold e_D
 rw [h1,h2]
 simp
theorem i_D (key : Int → Int) (A B : List Int) (x : Int) (h : ∀ y ∈ A,key y ≤ key x) : d_X (fun a b => key a - key b) A.length (A ++ x :: B) = A ++ x :: B:=by
 rcases List.eq_nil_or_concat A with rfl | ⟨A',y,rfl⟩
 ·rfl
 have hy:=h y (by simp)
 have e : (A' ++ [y]).length = A'.length + 1:=by simp
 have r1 : rd ((A' ++ [y]) ++ x :: B) ((A'.length + 1 : Nat) : Int) = x:=by
  have:=e_N (A' ++ [y]) B x
  rwa [e] at this
 have r2 : rd ((A' ++ [y]) ++ x :: B) (A'.length : Int) = y:=by
  have:=e_N A' (x :: B) y
  simpa using this
 rw [List.concat_eq_append,e,d_X,r1,r2,if_neg (by omega)]
theorem d_J (key : Int → Int) (x : Int) : ∀ (n : Nat) (A H B : List Int),H.length = n → (∀ y ∈ A,key y ≤ key x) → (∀ y ∈ H,key x < key y) → d_X (fun a b => key a - key b) (A ++ H).length ((A ++ H) ++ x :: B) = A ++ x :: (H ++ B)
 | 0,A,H,B,hn,hA,hH => by
  obtain rfl:=List.length_eq_zero_iff.1 hn
  simpa using i_D key A B x hA
 | n + 1,A,H,B,hn,hA,hH => by
  rcases List.eq_nil_or_concat H with rfl | ⟨H',y,rfl⟩
  ·simp at hn
  ·rw [List.concat_eq_append] at *
   have hy:=hH y (by simp)
   have e : (A ++ (H' ++ [y])).length = (A ++ H').length + 1:=by simp;omega
   have el : (A ++ (H' ++ [y])) ++ x :: B = (A ++ H') ++ y :: x :: B:=by simp
   have r1 : rd ((A ++ H') ++ y :: x :: B) (((A ++ H').length + 1 : Nat) : Int) = x:=by
    have:=e_N ((A ++ H') ++ [y]) B x
    rw [List.length_append,List.length_singleton] at this
    simpa using this
   have r2 : rd ((A ++ H') ++ y :: x :: B) ((A ++ H').length : Int) = y:=e_N (A ++ H') (x :: B) y
   have ih:=d_J key x n A H' (y :: B) (by simp at hn;omega) hA (fun z hz => hH z (by simp [hz]))
   rw [e,el,d_X,r1,r2,if_pos (by omega),i_m,ih]
   simp
def c_Y (key : Int → Int) (p : List Int) : List Int:=p.filter (fun x => key x == 0) ++ (p.filter (fun x => key x == 1) ++ (p.filter (fun x => key x == 2) ++ p.filter (fun x => key x == 3)))
theorem d_R (key : Int → Int) (hk : ∀ x,0 ≤ key x ∧ key x ≤ 3) : ∀ p : List Int,(c_Y key p).length = p.length
 | [] => rfl
 | x :: p => by
  have ih:=d_R key hk p
  unfold c_Y at *
  have:=hk x
  have hx : key x = 0 ∨ key x = 1 ∨ key x = 2 ∨ key x = 3:=by omega
  simp only [List.length_append] at ih ⊢
  rcases hx with h|h|h|h <;> simp [List.filter_cons,h] <;> omega
theorem e_3 {key : Int → Int} {p : List Int} {d y : Int} (h : y ∈ p.filter (fun x => key x == d)) : key y = d:=by simpa using (List.mem_filter.1 h).2
theorem g_2 (key : Int → Int) (hk : ∀ x,0 ≤ key x ∧ key x ≤ 3) (p rest : List Int) (x : Int) : d_X (fun a b => key a - key b) p.length (c_Y key p ++ x :: rest) = c_Y key (p ++ [x]) ++ rest:=by
 have hl:=d_R key hk p
 have:=hk x
 have hx : key x = 0 ∨ key x = 1 ∨ key x = 2 ∨ key x = 3:=by omega
 rw [← hl]
 unfold c_Y
 simp only [List.filter_append]
 generalize h0 : p.filter (fun x => key x == 0) = p0
 generalize h1 : p.filter (fun x => key x == 1) = p1
 generalize h2 : p.filter (fun x => key x == 2) = p2
 generalize h3 : p.filter (fun x => key x == 3) = p3
 have k0 : ∀ y ∈ p0,key y = 0:=fun y hy => by rw [← h0] at hy;exact e_3 hy
 have k1 : ∀ y ∈ p1,key y = 1:=fun y hy => by rw [← h1] at hy;exact e_3 hy
 have k2 : ∀ y ∈ p2,key y = 2:=fun y hy => by rw [← h2] at hy;exact e_3 hy
 have k3 : ∀ y ∈ p3,key y = 3:=fun y hy => by rw [← h3] at hy;exact e_3 hy
 rcases hx with h|h|h|h
 ·rw [d_J key x _ p0 (p1 ++ (p2 ++ p3)) rest rfl (fun y hy => by rw [k0 y hy];omega) (fun y hy => by
   simp only [List.mem_append] at hy
   rcases hy with hy|hy|hy
   ·rw [k1 y hy];omega
   ·rw [k2 y hy];omega
   rw [k3 y hy];omega)]
  simp [List.filter_cons,h]
 ·have:=d_J key x _ (p0 ++ p1) (p2 ++ p3) rest rfl (fun y hy => by
   simp only [List.mem_append] at hy
   rcases hy with hy|hy
   ·rw [k0 y hy];omega
   ·rw [k1 y hy];omega) (fun y hy => by
   simp only [List.mem_append] at hy
   rcases hy with hy|hy
   ·rw [k2 y hy];omega
   rw [k3 y hy];omega)
  rw [show p0 ++ (p1 ++ (p2 ++ p3)) = (p0 ++ p1) ++ (p2 ++ p3) by simp,this]
  simp [List.filter_cons,h]
 ·have:=d_J key x _ (p0 ++ (p1 ++ p2)) p3 rest rfl (fun y hy => by
   simp only [List.mem_append] at hy
   rcases hy with hy|hy|hy
   ·rw [k0 y hy];omega
   ·rw [k1 y hy];omega
   rw [k2 y hy];omega) (fun y hy => by rw [k3 y hy];omega)
  rw [show p0 ++ (p1 ++ (p2 ++ p3)) = (p0 ++ (p1 ++ p2)) ++ p3 by simp,this]
  simp [List.filter_cons,h]
 have:=d_J key x _ (p0 ++ (p1 ++ (p2 ++ p3))) [] rest rfl (fun y hy => by
  simp only [List.mem_append] at hy
  rcases hy with hy|hy|hy|hy
  ·rw [k0 y hy];omega
  ·rw [k1 y hy];omega
  ·rw [k2 y hy];omega
  rw [k3 y hy];omega) (fun y hy => by cases hy)
 rw [List.append_nil] at this
 rw [this]
 simp [List.filter_cons,h]
theorem e_I (key : Int → Int) (hk : ∀ x,0 ≤ key x ∧ key x ≤ 3) : ∀ (rest p : List Int),c_0 (fun a b => key a - key b) rest.length p.length (c_Y key p ++ rest) = c_Y key (p ++ rest)
 | [],p => by simp [c_0]
 | x :: rest,p => by
  have ih:=e_I key hk rest (p ++ [x])
  rw [List.length_append,List.length_singleton] at ih
  rw [List.length_cons,c_0,g_2 key hk,ih]
  simp
theorem f_M (key : Int → Int) (hk : ∀ x,0 ≤ key x ∧ key x ≤ 3) (L : List Int) : c_0 (fun a b => key a - key b) (L.length - 1) 1 L = c_Y key L:=by
 cases L with
 | nil => rfl
 | cons x L =>
  have:=e_I key hk L [x]
  have hb : c_Y key [x] = [x]:=by
   have:=hk x
   have hx : key x = 0 ∨ key x = 1 ∨ key x = 2 ∨ key x = 3:=by omega
   unfold c_Y
   rcases hx with h|h|h|h <;> simp [List.filter_cons,h]
  rw [hb] at this
  simpa using this
theorem i_e : ∀ n : Fin 9,(List.range 8).filter (fun i => decide (i < n.val)) = List.range n.val:=by decide
def base (l : List S56) (m : Nat) : List Int:=((List.range l.length).filter fun i => m.testBit i).map fun i : Nat => (i : Int)
theorem h_a {l : List S56} (h : okT l = true) (m : Nat) : e_o l m = base l m:=by
 have hl:=g_F h
 unfold e_o base d_w
 congr 1
 rw [← i_e ⟨l.length,by omega⟩,List.filter_filter]
 apply List.filter_congr
 intro i hi
 have hi8 : i < 8:=by simpa using hi
 have h255 : (255 : Nat).testBit i = true:=by
  have : i = 0 ∨ i = 1 ∨ i = 2 ∨ i = 3 ∨ i = 4 ∨ i = 5 ∨ i = 6 ∨ i = 7:=by omega
  rcases this with rfl|rfl|rfl|rfl|rfl|rfl|rfl|rfl <;> decide
 rw [Nat.testBit_and,Nat.testBit_and,h255,j_R,h]
 simp
theorem f_A {l : List S56} (h : okT l = true) (cpu : Int) (m : Nat) : i_I l cpu m = c_Y (dN l cpu) (base l m):=by
 unfold i_I
 rw [h_a h,f_M (dN l cpu) (fun x => e_b l cpu x)]
theorem k_u (m n : Nat) (hm : m < 256) (hn : n < 8) : b_A.f (m : Int) (n : Int) = some (m.testBit n):=by
 have h1 : ∀ (a : Fin 256) (b : Fin 8),(Int.tmod (shr .u32 (a.val : Int) (b.val : Int)) 2 == 1) = a.val.testBit b.val:=by decide +kernel
 unfold b_A.f b_K.f
 rw [if_pos (by omega),Option.bind_some,decide_eq_true (by omega),if_pos rfl,if_pos (by omega),h1 ⟨m,hm⟩ ⟨n,hn⟩]
theorem i_d (l : List S56) (a b : Int) (h0 : 0 ≤ a) (h1 : a < l.length) (h2 : 0 ≤ b) (h3 : b < l.length) : a_S.f l a b = some (dN l a b):=by
 unfold a_S.f dN
 by_cases e : a = b
 ·rw [if_pos e,if_pos e]
 rw [if_neg e,if_neg e,if_pos h0,if_pos h1,if_pos h2,if_pos h3]
 split
 ·rfl
 split <;> rfl
def selD (l : List S56) (cpu : Int) (m : Nat) (d : Int) (i : Nat) : List Int:=(((List.range i).filter fun j => m.testBit j).map fun j : Nat => (j : Int)).filter fun x => dN l cpu x == d
theorem i_g (l : List S56) (cpu : Int) (m : Nat) (d : Int) (i : Nat) : selD l cpu m d (i + 1) = selD l cpu m d i ++ (if m.testBit i = true ∧ dN l cpu (i : Int) = d then [(i : Int)] else []):=by
 unfold selD
 rw [List.range_succ,List.filter_append,List.map_append,List.filter_append]
 congr 1
 cases h : m.testBit i
 ·simp [List.filter_cons,h]
 by_cases e : dN l cpu (i : Int) = d
 ·simp [List.filter_cons,h,e]
 simp [List.filter_cons,h,e]
theorem g_V (l : List S56) (cpu : Int) (m : Nat) (d : Int) (i : Nat) : (selD l cpu m d i).length ≤ i:=by
 unfold selD
 refine Nat.le_trans (List.length_filter_le _ _) ?_
 rw [List.length_map]
 exact Nat.le_trans (List.length_filter_le _ _) (by simp)
theorem g_U {l : List S56} (h : okT l = true) (cpu : Int) (hc : 0 ≤ cpu ∧ cpu < l.length) (m : Nat) (hm : m < 256) (d : Int) (out : List Int) (ho : out.length ≤ 1000) (r : List Int)
 (hR : Ev (fun k => a_m.l0 k cpu (m : Int) (out ++ selD l cpu m d l.length) (wrap64 (d + 1)) l) r) :
 ∀ n i : Nat,i + n = l.length → Ev (fun k => a_m.l1 k cpu (m : Int) (out ++ selD l cpu m d i) d (l.length : Int) (i : Int) l) r
 | 0,i,hi => by
  obtain rfl : i = l.length:=by omega
  refine Ev.step (fun k => ?_) hR
  rw [a_m.l1,if_neg (by omega)]
 | n + 1,i,hi => by
  have hl:=g_F h
  have ih:=g_U h cpu hc m hm d out ho r hR n (i + 1) (by omega)
  have hsl:=g_V l cpu m d i
  rw [i_g] at ih
  refine Ev.step (fun k => ?_) ih
  rw [a_m.l1,if_pos (by omega),k_u m i hm (by omega),Option.bind_some,i_d l cpu (i : Int) hc.1 hc.2 (by omega) (by omega),Option.bind_some,d_v i (by omega)]
  cases hb : m.testBit i
  ·simp
  ·by_cases e : dN l cpu (i : Int) = d
   ·simp only [if_true,e,and_self,if_pos (show (out ++ selD l cpu m d i).length < 17592186044416 by rw [List.length_append];omega),List.append_assoc]
   ·simp [e]
theorem j_O {l : List S56} (h : okT l = true) (cpu : Int) (hc : 0 ≤ cpu ∧ cpu < l.length) (m : Nat) (hm : m < 256) : Ev (fun k => a_m.f k l cpu (m : Int)) (c_Y (dN l cpu) (base l m)):=by
 have hl:=g_F h
 have len : ∀ d,(selD l cpu m d l.length).length ≤ 8:=fun d => Nat.le_trans (g_V l cpu m d l.length) hl.2
 have e0 : ∀ d,selD l cpu m d 0 = []:=fun d => rfl
 have eb : c_Y (dN l cpu) (base l m) = (((([] : List Int) ++ selD l cpu m 0 l.length) ++ selD l cpu m 1 l.length) ++ selD l cpu m 2 l.length) ++ selD l cpu m 3 l.length:=by
  unfold c_Y base selD;simp
 have step : ∀ (d : Int) (out : List Int) (r : List Int),out.length ≤ 1000 → 0 ≤ d → d ≤ 3 → Ev (fun k => a_m.l0 k cpu (m : Int) (out ++ selD l cpu m d l.length) (d + 1) l) r → Ev (fun k => a_m.l0 k cpu (m : Int) out d l) r:=fun d out r ho hd0 hd hR => by
  have:=g_U h cpu hc m hm d out ho r (by rw [k_z (d + 1) (by omega) (by omega)];exact hR) l.length 0 (by omega)
  rw [e0,List.append_nil] at this
  refine Ev.step (fun k => ?_) this
  rw [a_m.l0,if_pos hd]
  rfl
 unfold a_m.f
 have l0:=len 0;have l1:=len 1;have l2:=len 2;have l3:=len 3
 rw [eb]
 refine step 0 _ _ (by simp) (by omega) (by omega) (step 1 _ _ (by simp;omega) (by omega) (by omega) (step 2 _ _ (by simp;omega) (by omega) (by omega) (step 3 _ _ (by simp;omega) (by omega) (by omega) ?_)))
 refine Ev.step (f:=fun _ => some _) (fun k => ?_) (Ev.now _)
 rw [a_m.l0,if_neg (by omega)]
end Go.Proofs.YtcpfcehfgenljaaDoor.Pure
end
section
namespace Go.Proofs.YtcpfcehfgenljaaDoor.Pure
open Go.RowKit Go.Proofs.YtcpfcehfgenljaaDoor.Q Go.Proofs.YtcpfcehfgenljaaDoorW.PrintWords Go.Proofs.YtcpfcehfgenljaaDoorW.PrintLast Go.Proofs.YtcpfcehfgenljaaDoorW.PrintMore
set_option linter.unusedVariables false
set_option linter.unusedSimpArgs false
theorem wraps_u32 (n : Int) (h₀ : 0 ≤ n) (h₁ : n < 2 ^ 32) : IntKind.u32.wrap n = n:=by rw [IntKind.wrap_u32];omega
theorem k_q {a : Int} (h0 : 0 ≤ a) (h1 : a < 4294967296) : decide (Go.bits .andNot .u32 a 255 = 0) = decide (a < 256):=by
 obtain ⟨n,rfl⟩:=Int.eq_ofNat_of_zero_le h0
 have hn : n < 2 ^ 32:=by omega
 have e : Go.bits .andNot .u32 (n : Int) 255 = (((BitVec.ofNat 32 n &&& ~~~BitVec.ofNat 32 255).toNat : Nat) : Int):=by
  have h : Go.bits .andNot .u32 (n : Int) 255 = IntKind.u32.wrap (((BitVec.ofNat 32 n &&& ~~~BitVec.ofNat 32 255).toNat : Nat) : Int):=by
   simp only [Go.bits,BitVec.ofInt_natCast]
   rfl
  rw [h]
  exact wraps_u32 _ (Int.natCast_nonneg _) (by have:=BitVec.isLt (BitVec.ofNat 32 n &&& ~~~BitVec.ofNat 32 255);exact_mod_cast this)
 have tb : ∀ i,(BitVec.ofNat 32 n &&& ~~~BitVec.ofNat 32 255).toNat.testBit i = (n.testBit i && !(255 : Nat).testBit i):=fun i => by
  rw [BitVec.testBit_toNat,BitVec.getLsbD_and,BitVec.getLsbD_not,BitVec.getLsbD_ofNat,BitVec.getLsbD_ofNat]
  by_cases h : i < 32
  ·simp [h]
  have : n.testBit i = false:=Nat.testBit_lt_two_pow (Nat.lt_of_lt_of_le hn (Nat.pow_le_pow_right (by decide) (by omega)))
  simp [h,this]
 rw [e]
 by_cases c : n < 256
 rotate_left
 ·have hz : ¬ (BitVec.ofNat 32 n &&& ~~~BitVec.ofNat 32 255).toNat = 0:=fun h0 => c (by
   have : n < 2 ^ 8:=Nat.lt_pow_two_of_testBit n fun i hi => by
    have t:=tb i
    rw [h0,Nat.zero_testBit] at t
    have : (255 : Nat).testBit i = false:=Nat.testBit_lt_two_pow (Nat.lt_of_lt_of_le (by decide : 255 < 2 ^ 8) (Nat.pow_le_pow_right (by decide) hi))
    rw [this] at t
    simpa using t.symm
   simpa using this)
  rw [decide_eq_false (by omega),decide_eq_false (by omega)]
 have hz : (BitVec.ofNat 32 n &&& ~~~BitVec.ofNat 32 255).toNat = 0:=by
  apply Nat.eq_of_testBit_eq
  intro i
  rw [tb,Nat.zero_testBit]
  by_cases h : i < 8
  ·have : (255 : Nat).testBit i = true:=by
    have : i = 0 ∨ i = 1 ∨ i = 2 ∨ i = 3 ∨ i = 4 ∨ i = 5 ∨ i = 6 ∨ i = 7:=by omega
    rcases this with rfl|rfl|rfl|rfl|rfl|rfl|rfl|rfl <;> decide
   rw [this];simp
  have : n.testBit i = false:=Nat.testBit_lt_two_pow (Nat.lt_of_lt_of_le c (Nat.pow_le_pow_right (n:=2) (i:=8) (by decide) (by omega)))
  rw [this];rfl
 rw [hz,decide_eq_true (show ((0 : Nat) : Int) = 0 from rfl),decide_eq_true (by omega)]
theorem e_R (A : List Int) (hA : A.length ≤ 1000) : Ev (fun k => a_j.f k A A) true:=by
 have key : ∀ d i,i + d = A.length → Ev (fun k => a_j.l0 k A A (A.length : Int) (i : Int)) true:=by
  intro d
  induction d with
  | zero =>
   intro i h
   refine Ev.step (f:=fun _ => some true) (fun k => ?_) (Ev.now _)
   rw [a_j.l0,if_neg (by omega)]
  | succ d ih =>
   intro i h
   refine Ev.step (f:=fun k => a_j.l0 k A A (A.length : Int) ((i + 1 : Nat) : Int)) (fun k => ?_) (ih (i + 1) (by omega))
   rw [a_j.l0,if_pos (by omega),if_pos (by omega),if_pos (by omega),if_pos (by omega),if_pos rfl,d_v i (by omega)]
 unfold a_j.f
 simp only [if_true]
 simpa using key A.length 0 (by omega)
theorem j_X (l : List S56) (a : Int) : a_C.f l a = some (decide (0 ≤ a ∧ a < (l.length : Int))):=by
 unfold a_C.f
 by_cases h : a ≥ 0
 ·rw [if_pos h];congr 1;rw [decide_eq_decide];omega
 rw [if_neg h,decide_eq_false (by omega)]
theorem j_5 (l : List S56) (hl : l.length ≤ 1000000) (a : Int) (s : Nat) (hs : (s : Int) < 4294967296) : b_e.f l a (s : Int) = some (if okT l = true then (if 0 ≤ a ∧ a < (l.length : Int) then (if s < 256 then (c_Y (dN l a) (base l s),0) else ([],140)) else ([],2)) else ([],160)):=by
 unfold b_e.f
 rw [if_pos ⟨hl,by omega,hs⟩]
 congr 1
 cases h : okT l
 ·rfl
 simp only [if_true]
 have hm:=k_q (a:=(s : Int)) (by omega) hs
 by_cases c : s < 256
 ·have h0 : Go.bits .andNot .u32 (s : Int) 255 = 0:=by
   rw [decide_eq_true (show (s : Int) < 256 by omega)] at hm
   exact of_decide_eq_true hm
  rw [if_pos h0,if_pos c,Int.toNat_natCast,f_A h]
 have h0 : ¬ Go.bits .andNot .u32 (s : Int) 255 = 0:=by
  rw [decide_eq_false (show ¬ (s : Int) < 256 by omega)] at hm
  exact of_decide_eq_false hm
 rw [if_neg h0,if_neg c]
theorem i_x (l : List S56) (m : Nat) : (base l m).length ≤ l.length:=by
 unfold base
 rw [List.length_map]
 exact Nat.le_trans (List.length_filter_le _ _) (by simp)
theorem g_M (t : List S56) (ht : t.length ≤ 9) (A : List Int) (hA : ∀ x ∈ A,0 ≤ x ∧ x < 4294967296) (P : List S39) (x31 : Int) (i : Nat) (hi : i < 100) (a b : Int)
 (hR : Ev (fun k => a_f.l0 k A (okT t) P x31 ((i + 1 : Nat) : Int) t t) true) :
 ∀ n j : Nat,j + n = 6 → Ev (fun k => a_f.l1 k A (okT t) P x31 (i : Int) A (A.length : Int) (j : Int) t t a b) true
 | n,j,h => by
  by_cases hlt : j < A.length
  ·cases n with
   | zero =>
    refine Ev.step (fun k => ?_) hR
    rw [a_f.l1,if_pos (by omega),if_pos (by omega),if_pos (by omega),if_pos (by omega),d_v i (by omega)]
   | succ n =>
    have ih:=g_M t ht A hA P x31 i hi a b hR n (j + 1) (by omega)
    have hrd : rd A (j : Int) = A[j]:=by unfold rd;simp [hlt]
    have hs:=hA _ (List.getElem_mem hlt)
    obtain ⟨s,hs'⟩ : ∃ s : Nat,A[j] = (s : Int):=⟨A[j].toNat,by omega⟩
    rw [hs'] at hrd hs
    refine Ev.step (fun k => by rw [a_f.l1,if_pos (by omega),if_pos (by omega),if_pos (by omega),if_neg (by omega),hrd,d_v j (by omega),j_5 t (by omega) a s hs.2,Option.bind_some]) ?_
    have nil:=e_R [] (by simp)
    cases hok : okT t
    ·rw [hok] at ih
     simp only [Bool.false_eq_true,if_false,if_true]
     refine Ev.bind nil ?_
     simp only [if_true]
     exact ih
    ·rw [hok] at ih
     simp only [if_true,j_X,Option.bind_some]
     by_cases hc : 0 ≤ a ∧ a < (t.length : Int)
     ·simp only [decide_eq_true hc,if_pos hc,if_true]
      unfold a_1.f
      simp only [Option.bind_some]
      by_cases h8 : s < 256
      ·simp only [if_pos h8,decide_eq_true (show (s : Int) < 256 by omega),if_true]
       refine Ev.bind (j_O hok a hc s h8) ?_
       have hbl:=d_R (dN t a) (fun x => e_b t a x) (base t s)
       have hb2:=i_x t s
       refine Ev.bind (e_R _ (by omega)) ?_
       simp only [if_true]
       exact ih
      ·simp only [if_neg h8,decide_eq_false (show ¬ (s : Int) < 256 by omega),Bool.false_eq_true,if_false,if_true]
       refine Ev.bind nil ?_
       simp only [if_true]
       exact ih
     ·simp only [decide_eq_false hc,if_neg hc,Bool.false_eq_true,if_false,if_true]
      refine Ev.bind nil ?_
      simp only [if_true]
      exact ih
  ·refine Ev.step (fun k => ?_) hR
   rw [a_f.l1,if_neg (by omega),d_v i (by omega)]
theorem g_L (t : List S56) (ht : t.length ≤ 9) (A : List Int) (hA : ∀ x ∈ A,0 ≤ x ∧ x < 4294967296) (P : List S39) :
 ∀ n i : Nat,i + n = 12 → Ev (fun k => a_f.l0 k A (okT t) P (P.length : Int) (i : Int) t t) true
 | n,i,h => by
  have same : Ev (fun k => (a_w.f k t t).bind fun t264 => (some t264)) true:=by
   have:=j_P t t (by omega)
   rw [i_A] at this
   exact Ev.bind this (Ev.now _)
  by_cases hlt : i < P.length
  ·cases n with
   | zero =>
    refine Ev.step (fun k => ?_) same
    rw [a_f.l0,if_pos (by omega),if_pos (by omega),if_pos (by omega),if_pos (by omega)]
   | succ n =>
    have ih:=g_L t ht A hA P n (i + 1) (by omega)
    refine Ev.step (fun k => by rw [a_f.l0,if_pos (by omega),if_pos (by omega),if_pos (by omega),if_neg (by omega)]) ?_
    generalize (a_p P (i : Int)).f0 = a
    generalize (a_p P (i : Int)).f1 = b
    have hj : ∀ d e : Int,Ev (fun k => a_f.j1 k A (okT t) d e e d P (P.length : Int) (i : Int) t t a b) true:=fun d e => by
     refine Ev.step (fun k => by rw [a_f.j1,if_pos rfl,bne_self_eq_false]) ?_
     refine Ev.step (fun k => ?_) (g_M t ht A hA P (P.length : Int) i (by omega) a b ih 6 0 rfl)
     rw [a_f.j2,if_neg (by decide)]
     rfl
    refine Ev.bind (j_Y t a b) ?_
    cases hok : okT t
    ·rw [hok] at hj
     simp only [Bool.false_eq_true,if_false]
     exact hj 0 160
    ·rw [hok] at hj
     simp only [if_true,j_X,Option.bind_some]
     by_cases ha : 0 ≤ a ∧ a < (t.length : Int)
     ·by_cases hb : 0 ≤ b ∧ b < (t.length : Int)
      ·simp only [decide_eq_true ha,decide_eq_true hb,if_pos ha,if_pos hb,if_true,i_d t a b ha.1 ha.2 hb.1 hb.2,Option.bind_some]
       exact hj _ 0
      ·simp only [decide_eq_true ha,decide_eq_false hb,if_pos ha,if_neg hb,if_true,Bool.false_eq_true,if_false]
       exact hj 0 2
     ·simp only [decide_eq_false ha,if_neg ha,Bool.false_eq_true,if_false]
      exact hj 0 2
  ·refine Ev.step (fun k => ?_) same
   rw [a_f.l0,if_neg (by omega)]
theorem f_p (l : List S56) (P : List S39) (A : List Int) (h1 : wf24 ⟨l⟩) (h2 : P.length ≤ maxLen ∧ ∀ x ∈ P,wf39 x) (h3 : A.length ≤ maxLen ∧ ∀ x ∈ A,(Lit.int .u32 x).wf = true) : ∃ k,a_f.f k l P A = some true:=by
 have hA : ∀ x ∈ A,0 ≤ x ∧ x < 4294967296:=fun x hx => by
  have:=bounds_u32 (h3.2 x hx)
  exact ⟨this.1,by omega⟩
 refine Ev.rounds (g:=fun k => a_f.f k l P A) (Ev.bind i_O ?_)
 simp only [if_true,j_S,Option.bind_some]
 generalize ht : l.take 9 = t
 have hl9 : t.length ≤ 9:=by subst ht;rw [List.length_take];omega
 refine Ev.bind (i_M t (by omega)) ?_
 exact g_L t hl9 A hA P 12 0 rfl
end Go.Proofs.YtcpfcehfgenljaaDoor.Pure
end
section
namespace Go.Proofs.YtcpfcehfgenljaaDoor.topoDists
open Go.ChangeShapes Go.WideShapes Go.ChangeAt Go.RowKit Go.Proofs.YtcpfcehfgenljaaDoor.Q
open Go.Proofs.YtcpfcehfgenljaaDoorW.PrintWords Go.Proofs.YtcpfcehfgenljaaDoorW.PrintLast Go.Proofs.YtcpfcehfgenljaaDoorW.PrintMore
set_option linter.unusedVariables false
set_option linter.unusedSimpArgs false
theorem k_v {W : World} (h : laidMetH Tryd.prog Rows.topoDistsRow.laid W) : b_W W:=by
 rw [MakeChecks.laidMetH_plain _ _ _ (by kernel_rfl)] at h
 have h' : laidMet Tryd.prog [("math/bits.deBruijn32tab", Lib.tabData .u8 (Lib.deBruijn32tab.map fun n : Nat => (n : Int)))] W := h
 have ht:=Lib.tabIs_of_head (g:=0) (by kernel_rfl) (by kernel_rfl) Tryd.underlying97 Tryd.underlying5 (by kernel_rfl) (by kernel_rfl) h'
 intro j hj
 have hc:=ht.cell (g:=0) (by kernel_rfl) j (by simpa using hj)
 rw [hc]
 simp only [List.getD_eq_getElem?_getD,List.getElem?_map]
 rw [List.getElem?_eq_getElem hj]
 rfl
theorem i_y (os : Os) (args : Array Value) : laidMetH Tryd.prog Rows.topoDistsRow.laid ((World.doorLaid Tryd.prog 14 os).forCall (fun _ _ => 0) ⟨#[],args,[]⟩).memory :=
 laidMetH_of_parts3 (fuel:=8) (laidMet_of_run' 8 (by kernel_rfl) (by kernel_rfl)) (by kernel_rfl) (by kernel_rfl)
set_option maxRecDepth 100000 in
theorem lifted (os : Os) (started : os.Started) (H : Type) (enc : TypeId × Value → H) :
 ReturnsInHanded {} Tryd.checked os 4 .any (fun w args => (Rows.topoDistsSpec.pre enc Tryd.prog Tryd.f4 [] false w args ∧ laidMetH Tryd.prog Rows.topoDistsRow.laid w) ∧ sizedMet enc Tryd.prog Tryd.f4 (OpenSpec.ofChange Rows.topoDistsSpec) false w args) (Rows.topoDistsSpec.post enc Tryd.prog Tryd.f4 false true false false):=by
 refine returnsInHanded_of_change_and (C:=Tryd.checked) (X:=fun w _ => laidMetH Tryd.prog Rows.topoDistsRow.laid w) (fun _ _ _ hh h => h.of_heap hh) own started (by kernel_rfl) Tryd.func4
  (ChangeSpec.witness_shaped (enc:=enc) (C:=Tryd.checked) (os:=os) (X:=fun w _ => laidMetH Tryd.prog Rows.topoDistsRow.laid w) false (World.doorLaid Tryd.prog 14 os) #[.agg #[.slice none 0 0],.slice none 0 0,.slice none 0 0] 8 rfl (World.shaped_of_RefB (by kernel_rfl) (by kernel_rfl)) (by kernel_rfl) (by kernel_rfl) (by kernel_rfl) (i_y os _)) ?_
 intro W base args ds gs before hval0 hW hcnd hsz0 hL _
 have hT:=k_v hL
 have hval : ∀ (j : Nat) t v,Tryd.f4.params[j]? = some t → args[j]? = some v → Value.okWide Tryd.prog W .any base t v:=hval0
 have hW':=hW
 obtain ⟨p,q,hA0,hV,rfl,hfz,hnd⟩:=hW
 have hA : DataW.TrodAll enc Tryd.prog W 0 (fun _ => true) true Tryd.f4.params.toList args.toList ds p:=hA0
 rw [Tryd.params4] at hA hval
 obtain ⟨v0,vs0,d0,ds0,p0,q0,hargs,rfl,rfl,h0,r0⟩:=trodAll_cons hA
 obtain ⟨v1,vs1,d1,ds1,p1,q1,rfl,rfl,rfl,h1,r1⟩:=trodAll_cons r0
 obtain ⟨v2,vs2,d2,ds2,p2,q2,rfl,rfl,rfl,h2,r2⟩:=trodAll_cons r1
 obtain ⟨rfl,rfl,rfl⟩:=trodAll_nil r2
 obtain rfl : args = #[v0,v1,v2]:=by cases args;simp_all
 obtain ⟨rfl,rfl⟩:=trodVars_none hV
 have k0:=h0
 have lt0 : ∀ x ∈ p0,x.block < W.heap.size:=by obtain ⟨m,hm⟩:=k0;exact DataW.trod_lt m _ _ _ hm
 obtain ⟨cs0,rfl,hz0⟩:=okWide_struct Tryd.underlying24 (hval 0 24 v0 rfl rfl)
 obtain ⟨fuel0,hf0⟩:=h0
 obtain ⟨x0,hK0,wf0_⟩:=op24.open_ hf0
 obtain ⟨A0_0,c0_0,he0,hc0_0,hr0_0⟩:=i_E hK0
 have hq0:=toList_eq he0
 simp only [Value.cells] at hq0
 subst hq0
 have k1:=h1
 have lt1 : ∀ x ∈ p1,x.block < W.heap.size:=by obtain ⟨m,hm⟩:=k1;exact DataW.trod_lt m _ _ _ hm
 obtain ⟨a1,len1,cap1,rfl⟩:=okWide_slice Tryd.underlying36 (hval 1 36 v1 rfl rfl)
 obtain ⟨fuel1,hf1⟩:=h1
 obtain ⟨l1,⟨A1,c1,he1,hc1,hr1⟩,wf1_⟩:=(c_7.slice Tryd.underlying36 (by kernel_rfl) op39).open_ hf1
 simp [Value.cells] at he1
 obtain ⟨rfl,rfl,rfl⟩:=he1
 have k2:=h2
 have lt2 : ∀ x ∈ p2,x.block < W.heap.size:=by obtain ⟨m,hm⟩:=k2;exact DataW.trod_lt m _ _ _ hm
 obtain ⟨a2,len2,cap2,rfl⟩:=okWide_slice Tryd.underlying37 (hval 2 37 v2 rfl rfl)
 obtain ⟨fuel2,hf2⟩:=h2
 obtain ⟨l2,⟨A2,c2,he2,hc2,hr2⟩,wf2_⟩:=(c_7.slice Tryd.underlying37 (by kernel_rfl) (c_7.int Tryd.underlying45 (by kernel_rfl))).open_ hf2
 simp [Value.cells] at he2
 obtain ⟨rfl,rfl,rfl⟩:=he2
 obtain ⟨K,hK⟩:=Pure.f_p x0.f0 l1 l2 wf0_ wf1_ wf2_
 refine (a_f.calls _ _ _ _ _ _ _ _ _ _ _ _ hr0_0 hc0_0 hr1 hc1 hr2 hc2 hT hK).mono fun e W' ⟨he,bel⟩ => ?_
 subst he
 exact ⟨_,rfl,_,_,_,[],_,[],hW',trodAll_mk1 (shut_bool Tryd.underlying4 _),(trodAll_cons_mk (Below.trod laidOut (by kernel_rfl) (of_decide_eq_true (by kernel_rfl)) k0 bel lt0) (trodAll_cons_mk (Below.trod laidOut (by kernel_rfl) (of_decide_eq_true (by kernel_rfl)) k1 bel lt1) (trodAll_cons_mk (Below.trod laidOut (by kernel_rfl) (of_decide_eq_true (by kernel_rfl)) k2 bel lt2) trodAll_mk0))),rfl,bel.frame _,fun h => by cases h⟩
theorem over : Rows.topoDistsRow.holds Tryd.pinned (OpenSpec.ofChange Rows.topoDistsSpec) :=
 OpenClaim.holds_of_wide 4 Tryd.f4 rfl rfl rfl rfl rfl rfl rfl ⟨rfl,rfl,rfl,rfl,rfl⟩ rfl rfl rfl rfl rfl (by kernel_rfl) Tryd.func4 (by kernel_rfl)
  (of_decide_eq_true (by kernel_rfl)) (by unfold Func.isWrapper;first|(rw [if_pos (by decide +kernel)];kernel_rfl)|(rw [if_neg (by decide +kernel)];exact ⟨rfl,rfl⟩))
  (fun os started H enc _ => lifted os started H enc)
theorem n_d : Rows.TopoDistsCardSaid :=
 Claim7.holds_tied_plain_at .later [] [.data] true (true, "6dbd2b49adb5acd0b183bc1951f3d41c819263b5044b5d85a2e1d0af7c9bdaaa") false
  over (fun _ h => by cases h) (by kernel_rfl) (fun _ h => by cases h) topoDists_row_tie rfl ⟨rfl,rfl⟩ (by kernel_rfl) rfl
  (fun f fn hf hfn => by
   obtain rfl : f = 4 := Option.some.inj ((show Tryd.prog.funcNamed "mainsheet/mainsheetlaw06.TopoDists" = some 4 by kernel_rfl).symm.trans hf) |>.symm
   obtain rfl : fn = Tryd.f4:=(Option.some.inj (Tryd.func4.symm.trans hfn)).symm
   exact ⟨by kernel_rfl,fun j t ht => by
    rw [Tryd.params4] at ht
    rcases j with _|_|_|j
    ·obtain rfl : 24 = t:=by simpa using ht
     exact (show Tryd.prog.wantsStandIn 24 = false by kernel_rfl)
    ·obtain rfl : 36 = t:=by simpa using ht
     exact (show Tryd.prog.wantsStandIn 36 = false by kernel_rfl)
    ·obtain rfl : 37 = t:=by simpa using ht
     exact (show Tryd.prog.wantsStandIn 37 = false by kernel_rfl)
    ·simp at ht⟩)
  (by kernel_rfl)
theorem proved : Rows.TopoDistsCardSaid:=n_d
#print axioms proved
end Go.Proofs.YtcpfcehfgenljaaDoor.topoDists
namespace Go.Proofs.YtcpfcehfgenljaaDoor
theorem topoDists_holds : Rows.TopoDistsCardSaid:=topoDists.proved
end Go.Proofs.YtcpfcehfgenljaaDoor
end
