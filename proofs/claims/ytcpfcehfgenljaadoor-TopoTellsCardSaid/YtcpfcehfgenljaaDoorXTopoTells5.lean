/- Part 6 of 6 of what the row of TopoTells stands on: contracts over the given program's functions, the plain law, the row; no condition beyond those that each theorem states. -/
import Derived.Test.YtcpfcehfgenljaaDoorXTopoTells4
import Derived.Test.YtcpfcehfgenljaaDoorTie
import Derived.Test.YtcpfcehfgenljaaDoorCards
import Derived.SevenTiedAt
import Derived.LaidMore
import Derived.Lib.LaidTab
section
namespace Go.Proofs.YtcpfcehfgenljaaDoor.Pure
open Go.RowKit Go.Proofs.YtcpfcehfgenljaaDoor.Q Go.Proofs.YtcpfcehfgenljaaDoorW.PrintWords Go.Proofs.YtcpfcehfgenljaaDoorW.PrintLast Go.Proofs.YtcpfcehfgenljaaDoorW.PrintMore
set_option linter.unusedVariables false
set_option linter.unusedSimpArgs false
theorem c_0 (n : Nat) (h : n < 9223372036854775807) : wrap64 ((n : Int) + 1) = ((n + 1 : Nat) : Int):=by unfold wrap64;omega
theorem rdm {l pre suf : List S56} {x : S56} (h : l = pre ++ x :: suf) : a_n l (pre.length : Int) = x:=by subst h;simp [a_n]
theorem h_E {α : Type} {l pre suf : List α} {x : α} (h : l = pre ++ x :: suf) : pre.length < l.length:=by subst h;simp
theorem e_i {α : Type} {l pre suf : List α} {x : α} (h : l = pre ++ x :: suf) : l = (pre ++ [x]) ++ suf:=by simp [h]
theorem f_0 {α : Type} {pre : List α} {x : α} (h : pre.length < 1000000000) : wrap64 ((pre.length : Int) + 1) = ((pre ++ [x]).length : Int):=by rw [c_0 pre.length (by omega)];simp
theorem h_D {α : Type} {l pre : List α} (h : l = pre ++ []) : pre.length = l.length:=by subst h;simp
theorem i_p : Ev (fun k => a_y.f k) true:=Ev.of a_y.mono (k:=100) (by kernel_rfl)
theorem h_I (l : List S56) : a_u.f l = some (l.take 9):=by
 have h : mn (l.length : Int) 9 = ((min l.length 9 : Nat) : Int):=by unfold mn;split <;> omega
 unfold a_u.f
 rw [h,if_pos (by omega),if_pos (by omega),Int.toNat_natCast]
 unfold b_o.f
 have e : l.take (min l.length 9) = l.take 9:=by rw [List.take_eq_take_iff];omega
 have hl : (l.take 9).length ≤ 9:=by rw [List.length_take];omega
 rw [e]
 simp only [Option.bind_some,List.nil_append,List.length_nil]
 rw [if_pos (by omega)]
 rfl
def eqv (x y : S56) : Bool:=x.f0 == y.f0 && (x.f1 == y.f1)
theorem i_O {x y : S56} : eqv x y = true ↔ x = y:=by
 unfold eqv
 simp only [Bool.and_eq_true,beq_iff_eq]
 constructor
 ·rintro ⟨h0,h1⟩;cases x;cases y;simp_all
 rintro rfl;exact ⟨rfl,rfl⟩
def eqL : List S56 → List S56 → Bool
 | [],[] => true
 | x :: a,y :: b => eqv x y && eqL a b
 | _,_ => false
theorem f_E : ∀ {a b : List S56}, eqL a b = true ↔ a = b
 | [],[] => by simp [eqL]
 | x :: a,y :: b => by rw [eqL,Bool.and_eq_true,i_O,f_E,List.cons_eq_cons]
 | [],y :: b => by simp [eqL]
 | x :: a,[] => by simp [eqL]
theorem f_8 (a : List S56) : eqL a a = true:=f_E.2 rfl
theorem g_6 : ∀ {a b : List S56}, a.length ≠ b.length → eqL a b = false:=fun {a b} h => by
 cases e : eqL a b
 ·rfl
 ·exact absurd (congrArg List.length (f_E.1 e)) h
theorem h_G (A B : List S56) (hA : A.length ≤ 100000) : ∀ (a b p q : List S56),A = p ++ a → B = q ++ b → p.length = q.length → a.length = b.length → Ev (fun k => a_o.l0 k (A.length : Int) (p.length : Int) A B) (eqL a b)
 | [],[],p,q,h1,h2,h3,h4 => by
  have:=h_D h1
  refine Ev.step (f:=fun _ => some true) (fun k => ?_) (Ev.now _)
  rw [a_o.l0,if_neg (by omega)]
 | x :: a,y :: b,p,q,h1,h2,h3,h4 => by
  have i1:=h_E h1
  have i2:=h_E h2
  have ih:=h_G A B hA a b (p ++ [x]) (q ++ [y]) (e_i h1) (e_i h2) (by simp [h3]) (by simpa using h4)
  have r2 : a_n B (p.length : Int) = y:=by rw [h3];exact rdm h2
  refine Ev.step (f:=fun k => if eqv x y = true then a_o.l0 k (A.length : Int) ((p ++ [x]).length : Int) A B else some false) (fun k => ?_) ?_
  ·rw [a_o.l0,if_pos (by omega),if_pos (by omega),if_pos (by omega),if_pos (by omega),rdm h1,r2,f_0 (x:=x) (by omega)]
   unfold eqv
   cases (x.f0 == y.f0) <;> cases (x.f1 == y.f1) <;> rfl
  ·rw [eqL]
   cases eqv x y
   ·exact Ev.now _
   ·simpa using ih
 | [],y :: b,p,q,h1,h2,h3,h4 => by simp at h4
 | x :: a,[],p,q,h1,h2,h3,h4 => by simp at h4
theorem h_F (A B : List S56) (hA : A.length ≤ 100000) : Ev (fun k => a_o.f k A B) (eqL A B):=by
 unfold a_o.f
 by_cases h : A.length = B.length
 ·simp only [if_pos (show (A.length : Int) = (B.length : Int) by omega)]
  exact h_G A B hA A B [] [] rfl rfl rfl h
 simp only [if_neg (show ¬ (A.length : Int) = (B.length : Int) by omega),g_6 h]
 exact Ev.now _
theorem h_H (A B : List S56) (hA : A.length ≤ 100000) : ∀ (a b p q : List S56),A = p ++ a → B = q ++ b → p.length = q.length → a.length = b.length → Ev (fun k => a_W.l0 k A B (A.length : Int) (p.length : Int)) (eqL a b)
 | [],[],p,q,h1,h2,h3,h4 => by
  have:=h_D h1
  refine Ev.step (f:=fun _ => some true) (fun k => ?_) (Ev.now _)
  rw [a_W.l0,if_neg (by omega)]
 | x :: a,y :: b,p,q,h1,h2,h3,h4 => by
  have i1:=h_E h1
  have i2:=h_E h2
  have ih:=h_H A B hA a b (p ++ [x]) (q ++ [y]) (e_i h1) (e_i h2) (by simp [h3]) (by simpa using h4)
  have r2 : a_n B (p.length : Int) = y:=by rw [h3];exact rdm h2
  refine Ev.step (f:=fun k => if eqv x y = true then a_W.l0 k A B (A.length : Int) ((p ++ [x]).length : Int) else some false) (fun k => ?_) ?_
  ·rw [a_W.l0,if_pos (by omega),if_pos (by omega),if_pos (by omega),if_pos (by omega),rdm h1,r2,f_0 (x:=x) (by omega)]
   unfold eqv
   cases (x.f0 == y.f0) <;> cases (x.f1 == y.f1) <;> rfl
  ·rw [eqL]
   cases eqv x y
   ·exact Ev.now _
   ·simpa using ih
 | [],y :: b,p,q,h1,h2,h3,h4 => by simp at h4
 | x :: a,[],p,q,h1,h2,h3,h4 => by simp at h4
theorem f_4 (A B : List S56) (hA : A.length ≤ 100000) : Ev (fun k => a_H.f k A B) (eqL A B):=by
 unfold a_H.f
 refine Ev.bind ?_ (Ev.now _)
 unfold a_W.f
 by_cases h : A.length = B.length
 ·simp only [if_pos (show (A.length : Int) = (B.length : Int) by omega)]
  exact h_H A B hA A B [] [] rfl rfl rfl h
 simp only [if_neg (show ¬ (A.length : Int) = (B.length : Int) by omega),g_6 h]
 exact Ev.now _
theorem h_z (l : List S56) : okT l = (decide (1 ≤ l.length) && decide (l.length ≤ 8) && !l.any e_m):=rfl
theorem g_d (l : List S56) (hl : l.length ≤ 100000) : ∀ (suf pre : List S56),l = pre ++ suf → Ev (fun k => a_q.l0 k l (l.length : Int) (pre.length : Int) l) (!suf.any e_m && (decide (1 ≤ l.length) && decide (l.length ≤ 8)))
 | [],pre,h => by
  have:=h_D h
  refine Ev.step (f:=fun _ => some (decide (1 ≤ l.length) && decide (l.length ≤ 8))) (fun k => ?_) (by simpa using Ev.now _)
  rw [a_q.l0,if_neg (by omega)]
  by_cases h1 : 1 ≤ l.length
  ·rw [if_pos (by omega),decide_eq_true h1,Bool.true_and];congr 1;rw [decide_eq_decide];omega
  ·rw [if_neg (by omega),decide_eq_false h1,Bool.false_and]
 | x :: suf,pre,h => by
  have hlt:=h_E h
  have ih:=g_d l hl suf (pre ++ [x]) (e_i h)
  refine Ev.step (f:=fun k => if e_m x = true then some false else a_q.l0 k l (l.length : Int) ((pre ++ [x]).length : Int) l) (fun k => ?_) ?_
  ·rw [a_q.l0,if_pos (by omega),if_pos (by omega),if_pos (by omega),rdm h,f_0 (x:=x) (by omega)]
   unfold e_m
   by_cases c0 : x.f0 < 0
   ·rw [if_pos c0,decide_eq_true c0];rfl
   by_cases c1 : x.f0 ≥ 4
   ·rw [if_neg c0,if_pos c1,decide_eq_true c1,Bool.or_true];rfl
   by_cases c2 : x.f1 < 0
   ·rw [if_neg c0,if_neg c1,if_pos c2,decide_eq_true c2,Bool.or_true];rfl
   rw [if_neg c0,if_neg c1,if_neg c2,decide_eq_false c0,decide_eq_false c1,decide_eq_false c2]
   by_cases c3 : x.f1 ≥ 8
   ·rw [if_pos c3,decide_eq_true c3];rfl
   ·rw [if_neg c3,decide_eq_false c3];rfl
  ·rw [List.any_cons]
   cases e_m x
   ·simpa using ih
   ·exact Ev.now _
theorem i_n (l : List S56) (hl : l.length ≤ 100000) : Ev (fun k => a_q.f k l) (okT l):=by
 unfold a_q.f
 have:=g_d l hl l [] rfl
 rw [h_z,Bool.and_comm]
 exact this
theorem h_A {l : List S56} (h : okT l = true) : 1 ≤ l.length ∧ l.length ≤ 8:=by
 rw [h_z] at h
 simp only [Bool.and_eq_true,decide_eq_true_eq] at h
 exact h.1
end Go.Proofs.YtcpfcehfgenljaaDoor.Pure
end
section
namespace Go.Proofs.YtcpfcehfgenljaaDoor.Pure
open Go.RowKit Go.Proofs.YtcpfcehfgenljaaDoor.Q Go.Proofs.YtcpfcehfgenljaaDoorW.PrintWords Go.Proofs.YtcpfcehfgenljaaDoorW.PrintLast Go.Proofs.YtcpfcehfgenljaaDoorW.PrintMore
set_option linter.unusedVariables false
set_option linter.unusedSimpArgs false
theorem f_3 (p : S56 → Bool) (l : List S56) (i : Nat) : (setN p l).testBit i = (okT l && (decide (i < l.length) && p (a_n l (i : Int)))):=by
 unfold setN
 cases h : okT l
 ·simp
 simp only [if_true,Bool.true_and]
 unfold maskN
 rw [f_9,Nat.zero_testBit,Bool.false_or,Bool.eq_iff_iff,decide_eq_true_eq]
 unfold d_a
 rw [List.mem_filter,List.mem_range,Bool.and_eq_true,decide_eq_true_eq]
theorem g_0 {a b : Nat} (h : ∀ i,a.testBit i = b.testBit i) : a = b:=Nat.eq_of_testBit_eq h
theorem k_j (l : List S56) (hl : l.length ≤ 1000000) : c_A.f l = some ((setN (fun _ => true) l : Nat) : Int):=by
 unfold c_A.f b_0.f
 rw [if_pos hl];rfl
theorem h_X (l : List S56) (hl : l.length ≤ 1000000) (a : Int) : b_u.f l a = some ((setN (fun s => s.f0 == a) l : Nat) : Int):=by
 unfold b_u.f b_M.f
 rw [if_pos hl];rfl
def sibP (l : List S56) (a : Int) : S56 → Bool:=fun s => s.f0 == (a_n l a).f0 && (s.f1 == (a_n l a).f1)
def sibN (l : List S56) (a : Int) : Nat:=if 0 ≤ a ∧ a < (l.length : Int) then setN (sibP l a) l else 0
theorem g_q (l : List S56) (hl : l.length ≤ 1000000) (a : Int) : b_R.f l a = some ((sibN l a : Nat) : Int):=by
 unfold b_R.f sibN
 rw [h_N,Option.bind_some]
 by_cases h : 0 ≤ a ∧ a < (l.length : Int)
 ·rw [decide_eq_true h,if_pos rfl,if_pos h.1,if_pos h.2,if_pos h]
  unfold b_S.f
  rw [if_pos hl];rfl
 rw [decide_eq_false h,if_neg (by decide),if_neg h];rfl
end Go.Proofs.YtcpfcehfgenljaaDoor.Pure
end
section
namespace Go.Proofs.YtcpfcehfgenljaaDoor.Pure
open Go.RowKit Go.Proofs.YtcpfcehfgenljaaDoor.Q Go.Proofs.YtcpfcehfgenljaaDoorW.PrintWords Go.Proofs.YtcpfcehfgenljaaDoorW.PrintLast Go.Proofs.YtcpfcehfgenljaaDoorW.PrintMore
set_option linter.unusedVariables false
set_option linter.unusedSimpArgs false
def accN (q : Nat → Bool) : Nat → Nat
 | 0 => 0
 | i + 1 => if q i = true then accN q i ||| 2 ^ i else accN q i
theorem d_4 (q : Nat → Bool) (i : Nat) : accN q (i + 1) = if q i = true then accN q i ||| 2 ^ i else accN q i:=rfl
theorem e_S (q : Nat → Bool) : ∀ i,i ≤ 8 → accN q i < 256
 | 0,_ => by unfold accN;omega
 | i + 1,h => by
  have:=e_S q i (by omega)
  unfold accN
  split
  ·exact f_r this (by omega)
  ·exact this
theorem d_F (q : Nat → Bool) (j : Nat) : ∀ i,(accN q i).testBit j = (decide (j < i) && q j)
 | 0 => by simp [accN]
 | i + 1 => by
  unfold accN
  by_cases e : j = i
  ·subst e
   cases h : q j
   ·rw [if_neg (by decide),d_F q j j,h];simp
   ·rw [if_pos rfl,Nat.testBit_or,Nat.testBit_two_pow,d_F q j j];simp
  ·have e1 : decide (j < i + 1) = decide (j < i):=by rw [decide_eq_decide];omega
   split
   ·rw [Nat.testBit_or,Nat.testBit_two_pow,d_F q j i,decide_eq_false (show ¬ i = j by omega),Bool.or_false,e1]
   ·rw [d_F q j i,e1]
theorem h_B {m i : Nat} (hm : m < 256) (hi : i < 8) : Go.bits .or .u32 (m : Int) (shl .u32 1 (i : Int)) = ((m ||| 2 ^ i : Nat) : Int):=by
 have h1 : ∀ (a : Fin 256) (b : Fin 8),Go.bits .or .u32 (a.val : Int) (shl .u32 1 (b.val : Int)) = ((a.val ||| 2 ^ b.val : Nat) : Int):=by decide +kernel
 exact h1 ⟨m,hm⟩ ⟨i,hi⟩
theorem g_e {l : List S56} (h : okT l = true) (p : S56 → Bool) : setN p l = accN (fun i => p (a_n l (i : Int))) l.length:=by
 apply g_0
 intro j
 rw [f_3,d_F,h,Bool.true_and]
theorem k_l (l : List S56) (a : Int) : a_T.f l a = some (decide (0 ≤ a ∧ a < (l.length : Int))):=by
 unfold a_T.f
 by_cases h : a ≥ 0
 ·rw [if_pos h];congr 1;rw [decide_eq_decide];omega
 rw [if_neg h,decide_eq_false (by omega)]
def mayN (l : List S56) (q : Nat → Bool) (i : Nat) : Nat:=if okT l = true then accN q i else 0
def h_K (l : List S56) (n : Int) (i : Nat) : Bool:=(a_n l (i : Int)).f0 == n
def sibQ (l : List S56) (n : Int) (i : Nat) : Bool:=decide (0 ≤ n ∧ n < (l.length : Int)) && ((a_n l (i : Int)).f0 == (a_n l n).f0 && ((a_n l (i : Int)).f1 == (a_n l n).f1))
theorem g_r (l : List S56) (n : Int) : setN (fun s => s.f0 == n) l = mayN l (h_K l n) l.length:=by
 unfold mayN
 cases h : okT l
 ·unfold setN;rw [h];rfl
 rw [g_e h];rfl
theorem j_p (l : List S56) (n : Int) : sibN l n = mayN l (sibQ l n) l.length:=by
 unfold mayN
 apply g_0
 intro j
 unfold sibN
 cases h : okT l
 ·by_cases hn : 0 ≤ n ∧ n < (l.length : Int)
  ·rw [if_pos hn,f_3,h];simp
  rw [if_neg hn];simp
 rw [if_pos rfl,d_F]
 by_cases hn : 0 ≤ n ∧ n < (l.length : Int)
 ·rw [if_pos hn,f_3,h]
  unfold sibQ sibP
  rw [decide_eq_true hn,Bool.true_and,Bool.true_and]
 rw [if_neg hn]
 unfold sibQ
 rw [decide_eq_false hn]
 simp
theorem g_j (L X : List S24) (C D : List Int) (l : List S56) (hl : l.length ≤ 9) (n : Int) (x22 x23 x85 x86 : Int)
 (hR : Ev (fun k => a_a.l2 k L C (okT l) X x22 x23 D x85 (wrap64 (x86 + 1)) l) true) :
 ∀ m i : Nat,i + m = l.length → Ev (fun k => a_a.l3 k L C (okT l) n ((mayN l (h_K l n) i : Nat) : Int) ((mayN l (sibQ l n) i : Nat) : Int) X x22 x23 D x85 x86 l (l.length : Int) (i : Int) l) true
 | 0,i,h => by
  refine Ev.step (f:=fun k => a_a.l2 k L C (okT l) X x22 x23 D x85 (wrap64 (x86 + 1)) l) (fun k => ?_) hR
  obtain rfl : i = l.length:=by omega
  rw [a_a.l3,if_neg (by omega),h_X l (by omega),Option.bind_some,g_r,if_pos rfl,g_q l (by omega),Option.bind_some,j_p,if_pos rfl]
 | m + 1,i,h => by
  have ih:=g_j L X C D l hl n x22 x23 x85 x86 hR m (i + 1) (by omega)
  cases hok : okT l with
  | false =>
   have e0 : ∀ q j,mayN l q j = 0:=fun q j => by unfold mayN;rw [hok];rfl
   rw [hok,e0,e0] at ih
   rw [e0,e0]
   refine Ev.step (fun k => by rw [a_a.l3,if_pos (by omega),if_pos (by omega),if_pos (by omega),if_neg (by decide)]) ?_
   refine Ev.step (fun k => by rw [a_a.j5,if_neg (by decide),if_neg (by decide),c_0 i (by omega)]) ih
  | true =>
   have h8:=(h_A hok).2
   have e1 : ∀ q j,mayN l q j = accN q j:=fun q j => by unfold mayN;rw [hok];rfl
   rw [hok,e1,e1] at ih
   rw [e1,e1]
   have b1:=e_S (h_K l n) i (by omega)
   have b2:=e_S (sibQ l n) i (by omega)
   have o1:=h_B (i:=i) b1 (by omega)
   have o2:=h_B (i:=i) b2 (by omega)
   refine Ev.step (fun k => by rw [a_a.l3,if_pos (by omega),if_pos (by omega),if_pos (by omega),if_pos rfl]) ?_
   refine Ev.step (fun k => ?_) ih
   rw [a_a.j5,k_l,o1,o2,c_0 i (by omega),d_4,d_4]
   generalize accN (h_K l n) i = A
   generalize accN (sibQ l n) i = B
   simp only [Option.bind_some,if_pos (show (0 : Int) ≤ (i : Int) by omega),if_true]
   unfold h_K sibQ
   by_cases hn : 0 ≤ n ∧ n < (l.length : Int)
   ·simp only [decide_eq_true hn,if_true,if_pos hn.1,if_pos hn.2,Bool.true_and]
    cases ((a_n l (i : Int)).f0 == n) <;> cases ((a_n l (i : Int)).f0 == (a_n l n).f0 && ((a_n l (i : Int)).f1 == (a_n l n).f1)) <;> rfl
   ·simp only [decide_eq_false hn,Bool.false_and,Bool.false_eq_true,if_false]
    cases ((a_n l (i : Int)).f0 == n) <;> rfl
theorem g_i (L X : List S24) (C : List Int) (l : List S56) (hl : l.length ≤ 9) (x22 x23 : Int) (hR : Ev (fun k => a_a.l0 k L C X x22 (wrap64 (x23 + 1))) true) :
 ∀ m i : Nat,i + m = 10 → Ev (fun k => a_a.l2 k L C (okT l) X x22 x23 C (C.length : Int) (i : Int) l) true
 | m,i,h => by
  by_cases hlt : i < C.length
  ·cases m with
   | zero =>
    refine Ev.step (fun k => ?_) hR
    rw [a_a.l2,if_pos (by omega),if_pos (by omega),if_pos (by omega),if_pos (by omega)]
   | succ m =>
    have ih:=g_i L X C l hl x22 x23 hR m (i + 1) (by omega)
    have h3:=g_j L X C C l hl (rd C (i : Int)) x22 x23 (C.length : Int) (i : Int) (by rw [c_0 i (by omega)];exact ih) l.length 0 (by omega)
    have e0 : ∀ q,mayN l q 0 = 0:=fun q => by unfold mayN;split <;> rfl
    rw [e0,e0] at h3
    refine Ev.step (fun k => ?_) h3
    rw [a_a.l2,if_pos (by omega),if_pos (by omega),if_pos (by omega),if_neg (by omega)]
    rfl
  ·refine Ev.step (fun k => ?_) hR
   rw [a_a.l2,if_neg (by omega)]
theorem g_h (L X : List S24) (C : List Int) (l : List S56) (hl : l.length ≤ 9) (x22 x23 : Int) (hR : Ev (fun k => a_a.l0 k L C X x22 (wrap64 (x23 + 1))) true) :
 ∀ m i : Nat,i + m = l.length → Ev (fun k => a_a.l1 k L C (okT l) ((mayN l (fun _ => true) i : Nat) : Int) X x22 x23 (l.length : Int) (i : Int) l) true
 | 0,i,h => by
  have h2:=g_i L X C l hl x22 x23 hR 10 0 rfl
  obtain rfl : i = l.length:=by omega
  have e : setN (fun _ => true) l = mayN l (fun _ => true) l.length:=by
   unfold mayN
   cases hok : okT l
   ·unfold setN;rw [hok];rfl
   ·rw [g_e hok];rfl
  refine Ev.step (fun k => ?_) h2
  rw [a_a.l1,if_neg (by omega),k_j l (by omega),Option.bind_some,e,if_pos rfl]
  rfl
 | m + 1,i,h => by
  have ih:=g_h L X C l hl x22 x23 hR m (i + 1) (by omega)
  cases hok : okT l with
  | false =>
   have e0 : ∀ q j,mayN l q j = 0:=fun q j => by unfold mayN;rw [hok];rfl
   rw [hok,e0] at ih
   rw [e0]
   refine Ev.step (fun k => by rw [a_a.l1,if_pos (by omega),if_neg (by decide),c_0 i (by omega)]) ih
  | true =>
   have h8:=(h_A hok).2
   have e1 : ∀ q j,mayN l q j = accN q j:=fun q j => by unfold mayN;rw [hok];rfl
   rw [hok,e1] at ih
   rw [e1]
   refine Ev.step (fun k => ?_) ih
   rw [a_a.l1,if_pos (by omega),if_pos rfl,if_pos (by omega),h_B (e_S _ i (by omega)) (by omega),c_0 i (by omega),d_4,if_pos rfl]
theorem g_g (L : List S24) (C : List Int) : ∀ m i : Nat,i + m = 8 → Ev (fun k => a_a.l0 k L C L (L.length : Int) (i : Int)) true
 | m,i,h => by
  by_cases hlt : i < L.length
  ·cases m with
   | zero =>
    refine Ev.step (f:=fun _ => some true) (fun k => ?_) (Ev.now _)
    rw [a_a.l0,if_pos (by omega),if_pos (by omega),if_pos (by omega),if_pos (by omega)]
   | succ m =>
    have ih:=g_g L C m (i + 1) (by omega)
    generalize ht : (a_E L (i : Int)).f0.take 9 = t
    have hl9 : t.length ≤ 9:=by subst ht;rw [List.length_take];omega
    have h1:=g_h L L C t hl9 (L.length : Int) (i : Int) (by rw [c_0 i (by omega)];exact ih) t.length 0 (by omega)
    have e0 : mayN t (fun _ => true) 0 = 0:=by unfold mayN;split <;> rfl
    rw [e0] at h1
    have hj : Ev (fun k => a_a.j1 k L C (okT t) L (L.length : Int) (i : Int) (!true) t) true:=by
     refine Ev.step (fun k => ?_) h1
     rw [a_a.j1]
     rfl
    generalize hu : (a_E L 0).f0.take 9 = u
    refine Ev.step (fun k => by rw [a_a.l0,if_pos (by omega),if_pos (by omega),if_pos (by omega),if_neg (by omega),h_I,ht,Option.bind_some,if_pos (by omega),h_I,hu,Option.bind_some]) ?_
    refine Ev.bind (i_n t (by omega)) ?_
    simp only [c_Z,Option.bind_some]
    cases hok : okT t
    ·rw [hok] at hj
     simp only [Bool.false_eq_true,if_false,show ((160 : Int) == 0) = false by decide,show (false != false) = false by decide,if_true]
     refine Ev.bind (f_4 t u (by omega)) (Ev.bind (h_F t u (by omega)) ?_)
     simp only [show (eqL t u != eqL t u) = false by simp,Bool.false_eq_true,if_false]
     refine Ev.bind (f_4 t t (by omega)) ?_
     rw [f_8]
     exact hj
    ·rw [hok] at hj
     simp only [if_true,show ((0 : Int) == 0) = true by decide,show (true != true) = false by decide,Bool.false_eq_true,if_false]
     refine Ev.bind (f_4 t u (by omega)) (Ev.bind (h_F t u (by omega)) ?_)
     simp only [show (eqL t u != eqL t u) = false by simp,Bool.false_eq_true,if_false]
     refine Ev.bind (f_4 t t (by omega)) ?_
     rw [f_8]
     exact hj
  ·refine Ev.step (f:=fun _ => some true) (fun k => ?_) (Ev.now _)
   rw [a_a.l0,if_neg (by omega)]
theorem f_e (L : List S24) (C : List Int) (h1 : L.length ≤ maxLen ∧ ∀ x ∈ L,wf24 x) (h2 : C.length ≤ maxLen ∧ ∀ x ∈ C,(Lit.int .i64 x).wf = true) : ∃ k,a_a.f k L C = some true:=by
 refine Ev.rounds (g:=fun k => a_a.f k L C) (Ev.bind i_p ?_)
 simp only [if_true]
 exact g_g L C 8 0 rfl
end Go.Proofs.YtcpfcehfgenljaaDoor.Pure
end
section
namespace Go.Proofs.YtcpfcehfgenljaaDoor.topoTells
open Go.ChangeShapes Go.WideShapes Go.ChangeAt Go.RowKit Go.Proofs.YtcpfcehfgenljaaDoor.Q
open Go.Proofs.YtcpfcehfgenljaaDoorW.PrintWords Go.Proofs.YtcpfcehfgenljaaDoorW.PrintLast Go.Proofs.YtcpfcehfgenljaaDoorW.PrintMore
set_option linter.unusedVariables false
set_option linter.unusedSimpArgs false
theorem j_2 {W : World} (h : laidMetH Tryd.prog Rows.topoTellsRow.laid W) : c_g W:=by
 rw [MakeChecks.laidMetH_plain _ _ _ (by kernel_rfl)] at h
 have h' : laidMet Tryd.prog [("math/bits.deBruijn32tab", Lib.tabData .u8 (Lib.deBruijn32tab.map fun n : Nat => (n : Int)))] W := h
 have ht:=Lib.tabIs_of_head (g:=0) (by kernel_rfl) (by kernel_rfl) Tryd.underlying97 Tryd.underlying5 (by kernel_rfl) (by kernel_rfl) h'
 intro j hj
 have hc:=ht.cell (g:=0) (by kernel_rfl) j (by simpa using hj)
 rw [hc]
 simp only [List.getD_eq_getElem?_getD,List.getElem?_map]
 rw [List.getElem?_eq_getElem hj]
 rfl
theorem h_Y (os : Os) (args : Array Value) : laidMetH Tryd.prog Rows.topoTellsRow.laid ((World.doorLaid Tryd.prog 14 os).forCall (fun _ _ => 0) ⟨#[],args,[]⟩).memory :=
 laidMetH_of_parts3 (fuel:=8) (laidMet_of_run' 8 (by kernel_rfl) (by kernel_rfl)) (by kernel_rfl) (by kernel_rfl)
set_option maxRecDepth 100000 in
theorem lifted (os : Os) (started : os.Started) (H : Type) (enc : TypeId × Value → H) :
 ReturnsInHanded {} Tryd.checked os 8 .any (fun w args => (Rows.topoTellsSpec.pre enc Tryd.prog Tryd.f8 [] false w args ∧ laidMetH Tryd.prog Rows.topoTellsRow.laid w) ∧ sizedMet enc Tryd.prog Tryd.f8 (OpenSpec.ofChange Rows.topoTellsSpec) false w args) (Rows.topoTellsSpec.post enc Tryd.prog Tryd.f8 false true false false):=by
 refine returnsInHanded_of_change_and (C:=Tryd.checked) (X:=fun w _ => laidMetH Tryd.prog Rows.topoTellsRow.laid w) (fun _ _ _ hh h => h.of_heap hh) own started (by kernel_rfl) Tryd.func8
  (ChangeSpec.witness_shaped (enc:=enc) (C:=Tryd.checked) (os:=os) (X:=fun w _ => laidMetH Tryd.prog Rows.topoTellsRow.laid w) false (World.doorLaid Tryd.prog 14 os) #[.slice none 0 0,.slice none 0 0] 8 rfl (World.shaped_of_RefB (by kernel_rfl) (by kernel_rfl)) (by kernel_rfl) (by kernel_rfl) (by kernel_rfl) (h_Y os _)) ?_
 intro W base args ds gs before hval0 hW hcnd hsz0 hL _
 have hT:=j_2 hL
 have hval : ∀ (j : Nat) t v,Tryd.f8.params[j]? = some t → args[j]? = some v → Value.okWide Tryd.prog W .any base t v:=hval0
 have hW':=hW
 obtain ⟨p,q,hA0,hV,rfl,hfz,hnd⟩:=hW
 have hA : DataW.TrodAll enc Tryd.prog W 0 (fun _ => true) true Tryd.f8.params.toList args.toList ds p:=hA0
 rw [Tryd.params8] at hA hval
 obtain ⟨v0,vs0,d0,ds0,p0,q0,hargs,rfl,rfl,h0,r0⟩:=trodAll_cons hA
 obtain ⟨v1,vs1,d1,ds1,p1,q1,rfl,rfl,rfl,h1,r1⟩:=trodAll_cons r0
 obtain ⟨rfl,rfl,rfl⟩:=trodAll_nil r1
 obtain rfl : args = #[v0,v1]:=by cases args;simp_all
 obtain ⟨rfl,rfl⟩:=trodVars_none hV
 have k0:=h0
 have lt0 : ∀ x ∈ p0,x.block < W.heap.size:=by obtain ⟨m,hm⟩:=k0;exact DataW.trod_lt m _ _ _ hm
 obtain ⟨a0,len0,cap0,rfl⟩:=okWide_slice Tryd.underlying70 (hval 0 70 v0 rfl rfl)
 obtain ⟨fuel0,hf0⟩:=h0
 obtain ⟨l0,⟨A0,c0,he0,hc0,hr0⟩,wf0_⟩:=(d_e.slice Tryd.underlying70 (by kernel_rfl) op24).open_ hf0
 simp [Value.cells] at he0
 obtain ⟨rfl,rfl,rfl⟩:=he0
 have k1:=h1
 have lt1 : ∀ x ∈ p1,x.block < W.heap.size:=by obtain ⟨m,hm⟩:=k1;exact DataW.trod_lt m _ _ _ hm
 obtain ⟨a1,len1,cap1,rfl⟩:=okWide_slice Tryd.underlying46 (hval 1 46 v1 rfl rfl)
 obtain ⟨fuel1,hf1⟩:=h1
 obtain ⟨l1,⟨A1,c1,he1,hc1,hr1⟩,wf1_⟩:=(d_e.slice Tryd.underlying46 (by kernel_rfl) (d_e.int Tryd.underlying3 (by kernel_rfl))).open_ hf1
 simp [Value.cells] at he1
 obtain ⟨rfl,rfl,rfl⟩:=he1
 obtain ⟨K,hK⟩:=Pure.f_e l0 l1 wf0_ wf1_
 refine (a_a.calls _ _ _ _ _ _ _ _ _ hr0 hc0 hr1 hc1 hT hK).mono fun e W' ⟨he,bel⟩ => ?_
 subst he
 exact ⟨_,rfl,_,_,_,[],_,[],hW',trodAll_mk1 (shut_bool Tryd.underlying4 _),(trodAll_cons_mk (Below.trod laidOut (by kernel_rfl) (of_decide_eq_true (by kernel_rfl)) k0 bel lt0) (trodAll_cons_mk (Below.trod laidOut (by kernel_rfl) (of_decide_eq_true (by kernel_rfl)) k1 bel lt1) trodAll_mk0)),rfl,bel.frame _,fun h => by cases h⟩
theorem over : Rows.topoTellsRow.holds Tryd.pinned (OpenSpec.ofChange Rows.topoTellsSpec) :=
 OpenClaim.holds_of_wide 8 Tryd.f8 rfl rfl rfl rfl rfl rfl rfl ⟨rfl,rfl,rfl,rfl,rfl⟩ rfl rfl rfl rfl rfl (by kernel_rfl) Tryd.func8 (by kernel_rfl)
  (of_decide_eq_true (by kernel_rfl)) (by unfold Func.isWrapper;first|(rw [if_pos (by decide +kernel)];kernel_rfl)|(rw [if_neg (by decide +kernel)];exact ⟨rfl,rfl⟩))
  (fun os started H enc _ => lifted os started H enc)
theorem k_y : Rows.TopoTellsCardSaid :=
 Claim7.holds_tied_plain_at .later [] [.data] true (true, "6dbd2b49adb5acd0b183bc1951f3d41c819263b5044b5d85a2e1d0af7c9bdaaa") false
  over (fun _ h => by cases h) (by kernel_rfl) (fun _ h => by cases h) topoTells_row_tie rfl ⟨rfl,rfl⟩ (by kernel_rfl) rfl
  (fun f fn hf hfn => by
   obtain rfl : f = 8 := Option.some.inj ((show Tryd.prog.funcNamed "mainsheet/mainsheetlaw06.TopoTells" = some 8 by kernel_rfl).symm.trans hf) |>.symm
   obtain rfl : fn = Tryd.f8:=(Option.some.inj (Tryd.func8.symm.trans hfn)).symm
   exact ⟨by kernel_rfl,fun j t ht => by
    rw [Tryd.params8] at ht
    rcases j with _|_|j
    ·obtain rfl : 70 = t:=by simpa using ht
     exact (show Tryd.prog.wantsStandIn 70 = false by kernel_rfl)
    ·obtain rfl : 46 = t:=by simpa using ht
     exact (show Tryd.prog.wantsStandIn 46 = false by kernel_rfl)
    ·simp at ht⟩)
  (by kernel_rfl)
theorem proved : Rows.TopoTellsCardSaid:=k_y
#print axioms proved
end Go.Proofs.YtcpfcehfgenljaaDoor.topoTells
namespace Go.Proofs.YtcpfcehfgenljaaDoor
theorem topoTells_holds : Rows.TopoTellsCardSaid:=topoTells.proved
end Go.Proofs.YtcpfcehfgenljaaDoor
end
