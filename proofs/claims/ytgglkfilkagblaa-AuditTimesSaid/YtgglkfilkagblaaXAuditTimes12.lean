/- Part 13 of 13 of what the row of AuditTimes stands on: contracts over the given program's functions, the plain law, the row; no condition beyond those that each theorem states. -/
import Derived.Test.YtgglkfilkagblaaXAuditTimes11
section
namespace Go.Proofs.Ytgglkfilkagblaa.Pure
open Go.RowKit Go.Proofs.Ytgglkfilkagblaa.Q Go.Proofs.YtgglkfilkagblaaW.PrintWords Go.Proofs.YtgglkfilkagblaaW.PrintLast Go.Proofs.YtgglkfilkagblaaW.PrintMore
set_option linter.unusedVariables false
set_option linter.unusedSimpArgs false
theorem d_V (n : Nat) (h : n < 9223372036854775807) : wrap64 ((n : Int) + 1) = ((n + 1 : Nat) : Int):=by unfold wrap64;omega
theorem g_K (n : Nat) (h : n < 9223372036854775807) : wrap64 (((n + 1 : Nat) : Int) - 1) = (n : Int):=by unfold wrap64;omega
theorem j_j (n : Int) (h0 : -9223372036854775808 ≤ n) (h1 : n ≤ 9223372036854775807) : wrap64 n = n:=by unfold wrap64;omega
def win (a l h : Int) : Bool:=decide (l ≤ a) && decide (a ≤ h)
theorem u_Y (a l h : Int) : a_K.f a l h = some (win a l h):=by
 unfold a_K.f win
 by_cases c : a ≥ l
 ·rw [if_pos c,decide_eq_true (show l ≤ a from c)];rfl
 rw [if_neg c,decide_eq_false (show ¬ l ≤ a from c)];rfl
def mayB (a : Int) : Bool:=decide (Go.bits .andNot .u32 a 255 = 0)
theorem w_7 (a : Int) : c_o.f a = some (if mayB a = true then 0 else 140):=by
 unfold c_o.f mayB
 by_cases c : Go.bits .andNot .u32 a 255 = 0
 ·rw [if_pos c];simp [c]
 rw [if_neg c];simp [c]
def k_n (x : S65) : Bool:=win x.f0 1 16 && win x.f1 1 8 && win x.f2 0 8 && win x.f3 0 3 && win x.f4 (-1) 7 && mayB x.f7 && win x.f8 1 65535 && win x.f9 1 8 && win x.f10 0 800
theorem u_X (x : S65) : Ev (fun k => a_X.f k x.f0 x.f1 x.f2 x.f3 x.f4 x.f5 x.f6 x.f7 x.f8 x.f9 x.f10) (k_n x):=by
 have key : ∀ b : Bool,Ev (fun k => a_X.j0 k b x.f0 x.f1 x.f2 x.f3 x.f4 x.f5 x.f6 x.f7 x.f8 x.f9 x.f10) (b && win x.f4 (-1) 7 && mayB x.f7 && win x.f8 1 65535 && win x.f9 1 8 && win x.f10 0 800):=fun b => by
  refine Ev.step (f:=fun _ => some (b && win x.f4 (-1) 7 && mayB x.f7 && win x.f8 1 65535 && win x.f9 1 8 && win x.f10 0 800)) (fun k => ?_) (Ev.now _)
  rw [a_X.j0]
  simp only [u_Y,w_7,Option.bind_some]
  cases b <;> cases win x.f4 (-1) 7 <;> cases mayB x.f7 <;> cases win x.f8 1 65535 <;> cases win x.f9 1 8 <;> simp
 unfold a_X.f
 simp only [u_Y,Option.bind_some]
 unfold k_n
 cases h0 : win x.f0 1 16 <;> cases h1 : win x.f1 1 8 <;> cases h2 : win x.f2 0 8 <;> cases h3 : win x.f3 0 3 <;> simp only [if_true,if_false,Bool.false_eq_true] <;> first|exact key true|exact key false
def rOK (l : List S65) (i : Nat) : Bool:=k_n (a_c l (i : Int)) && (i == 0 || decide ((a_c l ((i - 1 : Nat) : Int)).f0 < (a_c l (i : Int)).f0)) && decide (((l.countP (fun s => s.f1 == (a_c l (i : Int)).f1) : Nat) : Int) = (a_c l (i : Int)).f9) && decide (((l.countP (fun s => d_N s (a_c l (i : Int)).f1 (a_c l (i : Int)).f8 (a_c l (i : Int)).f9 (a_c l (i : Int)).f10) : Nat) : Int) = (a_c l (i : Int)).f9)
def h_n (l : List S65) : Nat → Nat → Bool
 | 0,_ => true
 | n + 1,i => rOK l i && h_n l n (i + 1)
def tmB (a : Int) : Bool:=decide (0 ≤ a) && decide (a ≤ 1125899906842624)
theorem r_a (l : List S65) (hl : l.length ≤ 1000000) (a : Int) : ∀ n i,i + n = l.length → Ev (fun k => a_H.l0 k l (l.length : Int) (i : Int) a l) (h_n l n i && tmB a):=by
 intro n
 induction n with
 | zero =>
  intro i hi
  refine Ev.step (f:=fun _ => some (h_n l 0 i && tmB a)) (fun k => ?_) (Ev.now _)
  rw [a_H.l0,if_neg (by omega)]
  unfold h_n tmB
  by_cases c : a ≥ 0
  ·rw [if_pos c,decide_eq_true (show 0 ≤ a from c)];rfl
  rw [if_neg c,decide_eq_false (show ¬ 0 ≤ a from c)];rfl
 | succ n ih =>
  intro i hi
  have nxt:=ih (i + 1) (by omega)
  have h1 : ((i : Nat) : Int) < (l.length : Int):=by omega
  have h0 : (0 : Int) ≤ ((i : Nat) : Int):=by omega
  have hw:=d_V i (by omega)
  have cs : ∀ (x : S65),b_i.f l x.f0 x.f1 x.f2 x.f3 x.f4 x.f5 x.f6 x.f7 x.f8 x.f9 x.f10 = some ((l.countP (fun s => s.f1 == x.f1) : Nat) : Int):=fun x => by unfold b_i.f;rw [if_pos (by omega)]
  have ca : ∀ (x : S65),b_g.f l x.f0 x.f1 x.f2 x.f3 x.f4 x.f5 x.f6 x.f7 x.f8 x.f9 x.f10 x.f0 x.f1 x.f2 x.f3 x.f4 x.f5 x.f6 x.f7 x.f8 x.f9 x.f10 = some ((l.countP (fun s => d_N s x.f1 x.f8 x.f9 x.f10) : Nat) : Int):=fun x => by unfold b_g.f;rw [if_pos (by omega)]
  refine Ev.step (fun k => by rw [a_H.l0,if_pos h1,if_pos h0,if_pos h1]) ?_
  refine Ev.bind (u_X _) ?_
  simp only [cs,ca,Option.bind_some,hw]
  unfold h_n rOK
  cases hs : k_n (a_c l (i : Int))
  ·exact Ev.now _
  simp only [if_true,Bool.true_and]
  have tail : Ev (fun k => if ((l.countP (fun s => s.f1 == (a_c l (i : Int)).f1) : Nat) : Int) = (a_c l (i : Int)).f9 then (if ((l.countP (fun s => d_N s (a_c l (i : Int)).f1 (a_c l (i : Int)).f8 (a_c l (i : Int)).f9 (a_c l (i : Int)).f10) : Nat) : Int) = (a_c l (i : Int)).f9 then a_H.l0 k l (l.length : Int) ((i + 1 : Nat) : Int) a l else some false) else some false)
   (decide (((l.countP (fun s => s.f1 == (a_c l (i : Int)).f1) : Nat) : Int) = (a_c l (i : Int)).f9) && decide (((l.countP (fun s => d_N s (a_c l (i : Int)).f1 (a_c l (i : Int)).f8 (a_c l (i : Int)).f9 (a_c l (i : Int)).f10) : Nat) : Int) = (a_c l (i : Int)).f9) && (h_n l n (i + 1) && tmB a)):=by
   by_cases c1 : ((l.countP (fun s => s.f1 == (a_c l (i : Int)).f1) : Nat) : Int) = (a_c l (i : Int)).f9
   ·simp only [if_pos c1,decide_eq_true c1,Bool.true_and]
    by_cases c2 : ((l.countP (fun s => d_N s (a_c l (i : Int)).f1 (a_c l (i : Int)).f8 (a_c l (i : Int)).f9 (a_c l (i : Int)).f10) : Nat) : Int) = (a_c l (i : Int)).f9
    ·simp only [if_pos c2,decide_eq_true c2,Bool.true_and];exact nxt
    ·simp only [if_neg c2,decide_eq_false c2,Bool.false_and];exact Ev.now _
   ·simp only [if_neg c1,decide_eq_false c1,Bool.false_and];exact Ev.now _
  cases i with
  | zero =>
   simp only [show ¬ ((0 : Nat) : Int) > 0 by omega,if_false,BEq.rfl,Bool.true_or,Bool.true_and,Bool.and_assoc] at tail ⊢
   exact tail
  | succ j =>
   have hp:=g_K j (by omega)
   simp only [show ((j + 1 : Nat) : Int) > 0 by omega,if_true,hp,show (0 : Int) ≤ (j : Int) by omega,show (j : Int) < (l.length : Int) by omega,show (j + 1 == 0) = false from rfl,Bool.false_or,Nat.add_sub_cancel]
   by_cases c : (a_c l (j : Int)).f0 < (a_c l ((j + 1 : Nat) : Int)).f0
   ·have c' : ¬ (a_c l (j : Int)).f0 ≥ (a_c l ((j + 1 : Nat) : Int)).f0:=by omega
    simp only [if_neg c',decide_eq_true c,Bool.true_and,Bool.and_assoc] at tail ⊢
    exact tail
   have c' : (a_c l (j : Int)).f0 ≥ (a_c l ((j + 1 : Nat) : Int)).f0:=by omega
   simp only [if_pos c',decide_eq_false c,Bool.false_and]
   exact Ev.now _
def h_d (a : Int) (l : List S65) : Bool:=h_n l l.length 0 && tmB a
theorem r_7 (a : Int) (l : List S65) (hl : l.length ≤ 1000000) : Ev (fun k => a_H.f k a l) (h_d a l):=r_a l hl a l.length 0 (by omega)
def mOK (L : List S27) (en : Int) (i : Nat) : Bool:=h_d (a_p L (i : Int)).f0 (a_p L (i : Int)).f1 && decide ((a_p L (i : Int)).f0 ≤ en) && (i == 0 || decide ((a_p L ((i - 1 : Nat) : Int)).f0 < (a_p L (i : Int)).f0))
def h_A (L : List S27) (en : Int) : Nat → Nat → Bool
 | 0,_ => true
 | n + 1,i => mOK L en i && h_A L en n (i + 1)
def f_0 (L : List S27) (en : Int) : Bool:=decide (L.length ≤ 2000) && tmB en && h_A L en L.length 0
def Small (L : List S27) : Prop:=L.length ≤ 1000000 ∧ ∀ i,(a_p L i).f1.length ≤ 1000000
theorem q_1 (L : List S27) (hL : Small L) (en : Int) : ∀ n i,i + n = L.length → Ev (fun k => a_E.l0 k L (L.length : Int) (i : Int) L en) (if h_A L en n i = true then 0 else 390):=by
 intro n
 induction n with
 | zero =>
  intro i hi
  refine Ev.step (f:=fun _ => some (if h_A L en 0 i = true then 0 else 390)) (fun k => ?_) (Ev.now _)
  rw [a_E.l0,if_neg (by omega)]
  rfl
 | succ n ih =>
  intro i hi
  have hL1:=hL.1
  have nxt:=ih (i + 1) (by omega)
  have h1 : ((i : Nat) : Int) < (L.length : Int):=by omega
  have h0 : (0 : Int) ≤ ((i : Nat) : Int):=by omega
  have hw:=d_V i (by omega)
  refine Ev.step (fun k => by rw [a_E.l0,if_pos h1,if_pos h0,if_pos h1]) ?_
  refine Ev.bind (r_7 _ _ (hL.2 _)) ?_
  simp only [hw]
  unfold h_A mOK
  cases hs : h_d (a_p L (i : Int)).f0 (a_p L (i : Int)).f1
  ·exact Ev.now _
  simp only [if_true,Bool.true_and]
  by_cases ce : (a_p L (i : Int)).f0 ≤ en
  rotate_left
  ·have ce' : (a_p L (i : Int)).f0 > en:=by omega
   simp only [if_pos ce',decide_eq_false ce,Bool.false_and]
   exact Ev.now _
  have ce' : ¬ (a_p L (i : Int)).f0 > en:=by omega
  simp only [if_neg ce',decide_eq_true ce,Bool.true_and]
  cases i with
  | zero =>
   simp only [show ¬ ((0 : Nat) : Int) > 0 by omega,if_false,BEq.rfl,Bool.true_or,Bool.true_and]
   exact nxt
  | succ j =>
   have hp:=g_K j (by omega)
   simp only [show ((j + 1 : Nat) : Int) > 0 by omega,if_true,hp,show (0 : Int) ≤ (j : Int) by omega,show (j : Int) < (L.length : Int) by omega,show (j + 1 == 0) = false from rfl,Bool.false_or,Nat.add_sub_cancel]
   by_cases c : (a_p L (j : Int)).f0 < (a_p L ((j + 1 : Nat) : Int)).f0
   ·have c' : ¬ (a_p L (j : Int)).f0 ≥ (a_p L ((j + 1 : Nat) : Int)).f0:=by omega
    simp only [if_neg c',decide_eq_true c,Bool.true_and]
    exact nxt
   have c' : (a_p L (j : Int)).f0 ≥ (a_p L ((j + 1 : Nat) : Int)).f0:=by omega
   simp only [if_pos c',decide_eq_false c,Bool.false_and]
   exact Ev.now _
theorem h_z (L : List S27) (hL : Small L) (en : Int) : Ev (fun k => a_E.f k L en) (if f_0 L en = true then 0 else 390):=by
 have key : ∀ b : Bool,Ev (fun k => a_E.j0 k b L en) (if (!b && h_A L en L.length 0) = true then 0 else 390):=fun b => by
  cases b
  ·refine Ev.step (fun k => by rw [a_E.j0,if_neg (by decide)]) ?_
   simpa using q_1 L hL en L.length 0 (by omega)
  exact Ev.step (f:=fun _ => some 390) (fun k => by rw [a_E.j0,if_pos rfl]) (Ev.now _)
 unfold a_E.f f_0 tmB
 by_cases c1 : (L.length : Int) > 2000
 ·have c1' : ¬ L.length ≤ 2000:=by omega
  simp only [if_pos c1,decide_eq_false c1',Bool.false_and];exact key true
 have c1' : L.length ≤ 2000:=by omega
 simp only [if_neg c1,decide_eq_true c1',Bool.true_and]
 by_cases c2 : en < 0
 ·have c2' : ¬ 0 ≤ en:=by omega
  simp only [if_pos c2,decide_eq_false c2',Bool.false_and];exact key true
 have c2' : 0 ≤ en:=by omega
 simp only [if_neg c2,decide_eq_true c2',Bool.true_and]
 by_cases c3 : en ≤ 1125899906842624
 ·have c3' : ¬ en > 1125899906842624:=by omega
  simp only [decide_eq_false c3',decide_eq_true c3,Bool.true_and];exact key false
 have c3' : en > 1125899906842624:=by omega
 simp only [decide_eq_true c3',decide_eq_false c3,Bool.false_and];exact key true
theorem m_w {L : List S27} {en : Int} : ∀ n i,h_A L en n i = true → ∀ j,i ≤ j → j < i + n → mOK L en j = true:=by
 intro n
 induction n with
 | zero => intro i _ j h1 h2;omega
 | succ n ih =>
  intro i h j h1 h2
  unfold h_A at h
  rw [Bool.and_eq_true] at h
  rcases Nat.lt_or_ge i j with h3|h3
  ·exact ih (i + 1) h.2 j h3 (by omega)
  obtain rfl : i = j:=by omega
  exact h.1
def n_M (L : List S27) : Nat → Nat → Bool
 | 0,_ => false
 | n + 1,i => decide (30 < (a_p L (i : Int)).f1.length) || n_M L n (i + 1)
def k_1 (L : List S27) : Bool:=decide (120 < L.length) || n_M L L.length 0
theorem s_g (L : List S27) (hL : L.length ≤ 120) : ∀ n i,i + n = L.length → Ev (fun k => a_B.l0 k L (L.length : Int) (i : Int)) (n_M L n i):=by
 intro n
 induction n with
 | zero =>
  intro i hi
  exact Ev.step (f:=fun _ => some false) (fun k => by rw [a_B.l0,if_neg (by omega)]) (Ev.now _)
 | succ n ih =>
  intro i hi
  have nxt:=ih (i + 1) (by omega)
  have h1 : ((i : Nat) : Int) < (L.length : Int):=by omega
  have h0 : (0 : Int) ≤ ((i : Nat) : Int):=by omega
  have hw:=d_V i (by omega)
  refine Ev.step (fun k => by rw [a_B.l0,if_pos h1,if_pos h0,if_pos h1,hw]) ?_
  unfold n_M
  by_cases c : 30 < (a_p L (i : Int)).f1.length
  ·have c' : ((a_p L (i : Int)).f1.length : Int) > 30:=by omega
   simp only [if_pos c',decide_eq_true c,Bool.true_or];exact Ev.now _
  have c' : ¬ ((a_p L (i : Int)).f1.length : Int) > 30:=by omega
  simp only [if_neg c',decide_eq_false c,Bool.false_or];exact nxt
theorem u_3 (L : List S27) (en : Int) : Ev (fun k => a_B.f k L en) (k_1 L):=by
 unfold a_B.f k_1
 by_cases c : 120 < L.length
 ·have c' : (L.length : Int) > 120:=by omega
  simp only [if_pos c',decide_eq_true c,Bool.true_or];exact Ev.now _
 have c' : ¬ (L.length : Int) > 120:=by omega
 simp only [if_neg c',decide_eq_false c,Bool.false_or];exact s_g L (by omega) L.length 0 (by omega)
theorem q_0 {L : List S27} : ∀ n i,n_M L n i = false → ∀ j : Nat,i ≤ j → j < i + n → (a_p L (j : Int)).f1.length ≤ 30:=by
 intro n
 induction n with
 | zero => intro i _ j h1 h2;omega
 | succ n ih =>
  intro i h j h1 h2
  unfold n_M at h
  rw [Bool.or_eq_false_iff] at h
  rcases Nat.lt_or_ge i j with h3|h3
  ·exact ih (i + 1) h.2 j h3 (by omega)
  obtain rfl : i = j:=by omega
  have:=of_decide_eq_false h.1
  omega
theorem j_q {L : List S27} (h : k_1 L = false) : L.length ≤ 120 ∧ ∀ i : Int,(a_p L i).f1.length ≤ 30:=by
 unfold k_1 at h
 rw [Bool.or_eq_false_iff] at h
 refine ⟨by have:=of_decide_eq_false h.1;omega,fun i => ?_⟩
 have e : a_p L i = a_p L ((i.toNat : Nat) : Int):=by unfold a_p;rw [Int.toNat_natCast]
 rw [e]
 by_cases hi : i.toNat < L.length
 ·exact q_0 _ _ h.2 _ (by omega) (by omega)
 unfold a_p
 simp only [Int.toNat_natCast]
 rw [List.getD_eq_getElem?_getD,List.getElem?_eq_none (by omega)]
 simp [z27]
theorem q_N {L : List S27} (h : k_1 L = false) : Small L:=⟨by have:=(j_q h).1;omega,fun i => by have:=(j_q h).2 i;omega⟩
end Go.Proofs.Ytgglkfilkagblaa.Pure
end
section
namespace Go.Proofs.Ytgglkfilkagblaa.Pure
open Go.RowKit Go.Proofs.Ytgglkfilkagblaa.Q Go.Proofs.YtgglkfilkagblaaW.PrintWords Go.Proofs.YtgglkfilkagblaaW.PrintLast Go.Proofs.YtgglkfilkagblaaW.PrintMore
set_option linter.unusedVariables false
set_option linter.unusedSimpArgs false
def at_ (L : List S27) (j : Nat) : Int:=(a_p L (j : Int)).f0
structure e_r (L : List S27) (en : Int) : Prop where
 n : L.length ≤ 120
 each : ∀ i : Int,(a_p L i).f1.length ≤ 30
 en0 : 0 ≤ en
 en1 : en ≤ 1125899906842624
 lo : ∀ j,j < L.length → 0 ≤ at_ L j
 hi : ∀ j,j < L.length → at_ L j ≤ en
 up : ∀ j,j + 1 < L.length → at_ L j < at_ L (j + 1)
theorem q_5 {L : List S27} {en : Int} (h : k_1 L = false) (hg : f_0 L en = true) : e_r L en:=by
 obtain ⟨h1,h2⟩:=j_q h
 unfold f_0 tmB at hg
 simp only [Bool.and_eq_true,decide_eq_true_eq] at hg
 obtain ⟨⟨h3,h4,h5⟩,h6⟩:=hg
 have k : ∀ j,j < L.length → mOK L en j = true:=fun j hj => m_w _ _ h6 j (Nat.zero_le _) (by omega)
 refine ⟨h1,h2,h4,h5,fun j hj => ?_,fun j hj => ?_,fun j hj => ?_⟩
 ·have:=k j hj
  unfold mOK h_d tmB at this
  simp only [Bool.and_eq_true,decide_eq_true_eq] at this
  exact this.1.1.2.1
 ·have:=k j hj
  unfold mOK at this
  simp only [Bool.and_eq_true,decide_eq_true_eq] at this
  exact this.1.2
 have:=k (j + 1) hj
 unfold mOK at this
 simp only [Bool.and_eq_true,decide_eq_true_eq,Nat.add_sub_cancel,show (j + 1 == 0) = false from rfl,Bool.false_or] at this
 exact this.2
variable {L : List S27} {en : Int}
theorem e_r.lt (h : e_r L en) : ∀ d i,i + d + 1 < L.length → at_ L i < at_ L (i + d + 1):=by
 intro d
 induction d with
 | zero => intro i hi;exact h.up i hi
 | succ d ih =>
  intro i hi
  have h1:=ih i (by omega)
  have h2:=h.up (i + d + 1) (by omega)
  have : i + (d + 1) + 1 = i + d + 1 + 1:=by omega
  rw [this];omega
theorem e_r.mono (h : e_r L en) {i j : Nat} (hij : i < j) (hj : j < L.length) : at_ L i < at_ L j:=by
 have:=h.lt (j - i - 1) i (by omega)
 rwa [show i + (j - i - 1) + 1 = j by omega] at this
def to_ (L : List S27) (en : Int) (j : Nat) : Int:=c_p L en j
theorem k_5 {j : Nat} (hj : j + 1 < L.length) : to_ L en j = at_ L (j + 1):=by unfold to_ c_p at_;rw [if_pos hj]
theorem n_3 {j : Nat} (hj : ¬ j + 1 < L.length) : to_ L en j = en:=by unfold to_ c_p;rw [if_neg hj]
theorem e_r.le (h : e_r L en) {j : Nat} (hj : j < L.length) : at_ L j ≤ to_ L en j:=by
 by_cases c : j + 1 < L.length
 ·rw [k_5 c];exact Int.le_of_lt (h.up j c)
 rw [n_3 c];exact h.hi j hj
theorem e_r.before (h : e_r L en) {i j : Nat} (hij : i < j) (hj : j < L.length) : to_ L en i ≤ at_ L j:=by
 rw [k_5 (by omega)]
 rcases Nat.lt_or_ge (i + 1) j with c|c
 ·exact Int.le_of_lt (h.mono c hj)
 rw [show i + 1 = j by omega];exact Int.le_refl _
theorem e_r.s_l (h : e_r L en) {j : Nat} (hj : j < L.length) : to_ L en j ≤ en:=by
 by_cases c : j + 1 < L.length
 ·rw [k_5 c];exact h.hi _ c
 rw [n_3 c];exact Int.le_refl _
def onB (L : List S27) (v : Int) (j : Nat) : Bool:=(a_0 (a_p L (j : Int)).f1 v).2 && decide (-1 < (a_0 (a_p L (j : Int)).f1 v).1.f4)
def seg (L : List S27) (en v a b : Int) (j : Nat) : Int:=if onB L v j = true then mx (mn (to_ L en j) b - mx (at_ L j) a) 0 else 0
def ran (L : List S27) (en v a b : Int) : Nat → Int
 | 0 => 0
 | n + 1 => ran L en v a b n + seg L en v a b n
theorem o_o (h : e_r L en) (v a b : Int) {j : Nat} (hj : j < L.length) (ha : 0 ≤ a) (hb : b ≤ 1125899906842624) : 0 ≤ seg L en v a b j ∧ seg L en v a b j ≤ 1125899906842624:=by
 have h1:=h.lo j hj
 have h2:=h.s_l hj
 have h3:=h.en1
 unfold seg
 split
 ·unfold mx mn;split <;> split <;> split <;> omega
 omega
theorem r_B (h : e_r L en) (v a b : Int) (ha : 0 ≤ a) (hb : b ≤ 1125899906842624) : ∀ n,n ≤ L.length → 0 ≤ ran L en v a b n ∧ ran L en v a b n ≤ (n : Int) * 1125899906842624:=by
 intro n
 induction n with
 | zero => intro _;simp [ran]
 | succ n ih =>
  intro hn
  have h1:=ih (by omega)
  have h2:=o_o h v a b (j:=n) (by omega) ha hb
  unfold ran
  push_cast
  omega
theorem r_R (h : e_r L en) (v a b : Int) (ha : 0 ≤ a) (hb : b ≤ 1125899906842624) (hab : a ≤ b) {n : Nat} (hn : n < L.length) : ranB L en v a b (ran L en v a b n) n = ran L en v a b (n + 1):=by
 have h1:=r_B h v a b ha hb n (by omega)
 have h2:=o_o h v a b hn ha hb
 have h3:=h.lo n hn
 have h4:=h.s_l hn
 have h5:=h.en1
 have h6:=h.le hn
 have h7:=h.hi n hn
 have hL:=h.n
 show _ = ran L en v a b n + seg L en v a b n
 unfold ranB seg onB at *
 by_cases c : (a_0 (a_p L (n : Int)).f1 v).2 = true ∧ -1 < (a_0 (a_p L (n : Int)).f1 v).1.f4
 ·rw [if_pos c]
  have c' : ((a_0 (a_p L (n : Int)).f1 v).2 && decide (-1 < (a_0 (a_p L (n : Int)).f1 v).1.f4)) = true:=by rw [c.1,decide_eq_true c.2];rfl
  rw [if_pos c'] at h2 ⊢
  show wrap64 (_ + mx (wrap64 (mn (to_ L en n) b - mx (at_ L n) a)) 0) = _
  rw [j_j (mn (to_ L en n) b - mx (at_ L n) a) (by unfold mx mn;split <;> split <;> omega) (by unfold mx mn;split <;> split <;> omega)]
  exact j_j _ (by omega) (by omega)
 rw [if_neg c]
 have c' : ¬ ((a_0 (a_p L (n : Int)).f1 v).2 && decide (-1 < (a_0 (a_p L (n : Int)).f1 v).1.f4)) = true:=fun h => by
  rw [Bool.and_eq_true,decide_eq_true_eq] at h
  exact c h
 rw [if_neg c',Int.add_zero]
theorem q_V (h : e_r L en) (v a b : Int) (ha : 0 ≤ a) (hb : b ≤ 1125899906842624) (hab : a ≤ b) : ∀ n,n ≤ L.length → (List.range n).foldl (ranB L en v a b) 0 = ran L en v a b n:=by
 intro n
 induction n with
 | zero => intro _;rfl
 | succ n ih =>
  intro hn
  rw [List.range_succ,List.foldl_append,ih (by omega)]
  exact r_R h v a b ha hb hab (by omega)
theorem r_z {x : S27} (hx : x ∈ L) : ∃ i : Int,a_p L i = x:=by
 obtain ⟨i,hi,e⟩:=List.mem_iff_getElem.1 hx
 refine ⟨(i : Int),?_⟩
 unfold a_p
 rw [Int.toNat_natCast,List.getD_eq_getElem?_getD,List.getElem?_eq_getElem hi,Option.getD_some,e]
theorem e_r.small (h : e_r L en) : Small L:=⟨by have:=h.n;omega,fun i => by have:=h.each i;omega⟩
theorem x_h (h : e_r L en) (hg : f_0 L en = true) (v a b : Int) (ha : 0 ≤ a) (hb : b ≤ 1125899906842624) (hab : a ≤ b) : Ev (fun k => a_4.f k L en v a b) (ran L en v a b L.length,0):=by
 unfold a_4.f
 refine Ev.bind (h_z L h.small en) ?_
 simp only [hg,if_true]
 rw [if_neg (by omega),if_neg (by omega),if_neg (by omega),if_pos ⟨by have:=h.n;omega,fun m hm => by obtain ⟨i,rfl⟩:=r_z hm;have:=h.each i;omega⟩,q_V h v a b ha hb hab _ (Nat.le_refl _)]
 exact Ev.now _
end Go.Proofs.Ytgglkfilkagblaa.Pure
end
section
namespace Go.Proofs.Ytgglkfilkagblaa.Pure
open Go.RowKit Go.Proofs.Ytgglkfilkagblaa.Q Go.Proofs.YtgglkfilkagblaaW.PrintWords Go.Proofs.YtgglkfilkagblaaW.PrintLast Go.Proofs.YtgglkfilkagblaaW.PrintMore
set_option linter.unusedVariables false
set_option linter.unusedSimpArgs false
variable {L : List S27} {en : Int}
def gs (acc : List S46) (t : Nat) : S46:=acc.getD t z46
def wtB (L : List S27) (en v : Int) (j : Nat) : Prop:=(a_0 (a_p L (j : Int)).f1 v).2 = true ∧ g_D (a_0 (a_p L (j : Int)).f1 v).1 = true ∧ (a_p L (j : Int)).f0 ≠ c_p L en j
def stays (L : List S27) (en v : Int) (n : Nat) : List S46:=(List.range n).foldl (d_S L en v) []
theorem k_w (v : Int) (n : Nat) : (stays L en v n).length ≤ n:=by
 have:=k_s L en v (List.range n) []
 simpa [stays] using this
theorem s_k (h : e_r L en) (hg : f_0 L en = true) (v : Int) : Ev (fun k => a_Z.f k L en v) (stays L en v L.length,0):=by
 unfold a_Z.f
 refine Ev.bind (h_z L h.small en) ?_
 simp only [hg,if_true]
 rw [if_pos ⟨by have:=h.n;omega,fun m hm => by obtain ⟨i,rfl⟩:=r_z hm;have:=h.each i;omega⟩]
 exact Ev.now _
end Go.Proofs.Ytgglkfilkagblaa.Pure
end
section
namespace Go.Proofs.Ytgglkfilkagblaa.Pure
open Go.RowKit Go.Proofs.Ytgglkfilkagblaa.Q Go.Proofs.YtgglkfilkagblaaW.PrintWords Go.Proofs.YtgglkfilkagblaaW.PrintLast Go.Proofs.YtgglkfilkagblaaW.PrintMore
set_option linter.unusedVariables false
set_option linter.unusedSimpArgs false
theorem wraps_u32 (n : Int) (h₀ : 0 ≤ n) (h₁ : n < 2 ^ 32) : IntKind.u32.wrap n = n:=by rw [IntKind.wrap_u32];omega
theorem v_h {a : Int} (h0 : 0 ≤ a) (h1 : a < 4294967296) : mayB a = decide (a < 256):=by
 obtain ⟨n,rfl⟩:=Int.eq_ofNat_of_zero_le h0
 have hn : n < 2 ^ 32:=by omega
 unfold mayB
 have e : Go.bits .andNot .u32 (n : Int) 255 = (((BitVec.ofNat 32 n &&& ~~~BitVec.ofNat 32 255).toNat : Nat) : Int):=by
  have h : Go.bits .andNot .u32 (n : Int) 255 = IntKind.u32.wrap (((BitVec.ofNat 32 n &&& ~~~BitVec.ofNat 32 255).toNat : Nat) : Int):=by
   simp only [Go.bits,BitVec.ofInt_natCast]
   rfl
  rw [h]
  exact wraps_u32 _ (Int.natCast_nonneg _) (by have:=BitVec.isLt (BitVec.ofNat 32 n &&& ~~~BitVec.ofNat 32 255);exact_mod_cast this)
 have tb : ∀ i,(BitVec.ofNat 32 n &&& ~~~BitVec.ofNat 32 255).toNat.testBit i = (n.testBit i && !(255 : Nat).testBit i):=fun i => by
  rw [BitVec.testBit_toNat,BitVec.getLsbD_and,BitVec.getLsbD_not,BitVec.getLsbD_ofNat,BitVec.getLsbD_ofNat]
  by_cases h : i < 32
  ·simp [h]
  have : n.testBit i = false:=Nat.testBit_lt_two_pow (Nat.lt_of_lt_of_le hn (Nat.pow_le_pow_right (by decide) (by omega)))
  simp [h,this]
 rw [e]
 by_cases c : n < 256
 rotate_left
 ·have hz : ¬ (BitVec.ofNat 32 n &&& ~~~BitVec.ofNat 32 255).toNat = 0:=fun h0 => c (by
   have : n < 2 ^ 8:=Nat.lt_pow_two_of_testBit n fun i hi => by
    have t:=tb i
    rw [h0,Nat.zero_testBit] at t
    have : (255 : Nat).testBit i = false:=Nat.testBit_lt_two_pow (Nat.lt_of_lt_of_le (by decide : 255 < 2 ^ 8) (Nat.pow_le_pow_right (by decide) hi))
    rw [this] at t
    simpa using t.symm
   simpa using this)
  rw [decide_eq_false (by omega),decide_eq_false (by omega)]
 have hz : (BitVec.ofNat 32 n &&& ~~~BitVec.ofNat 32 255).toNat = 0:=by
  apply Nat.eq_of_testBit_eq
  intro i
  rw [tb,Nat.zero_testBit]
  by_cases h : i < 8
  ·have : (255 : Nat).testBit i = true:=by
    have : i = 0 ∨ i = 1 ∨ i = 2 ∨ i = 3 ∨ i = 4 ∨ i = 5 ∨ i = 6 ∨ i = 7:=by omega
    rcases this with rfl|rfl|rfl|rfl|rfl|rfl|rfl|rfl <;> decide
   rw [this];simp
  have : n.testBit i = false:=Nat.testBit_lt_two_pow (Nat.lt_of_lt_of_le c (Nat.pow_le_pow_right (n:=2) (i:=8) (by decide) (by omega)))
  rw [this];rfl
 rw [hz,decide_eq_true (show ((0 : Nat) : Int) = 0 from rfl),decide_eq_true (by omega)]
theorem win1 {α : Type} (a l h : Int) (X Y : α) : (if a < l then Y else if a > h then Y else X) = if win a l h = true then X else Y:=by
 unfold win
 by_cases c1 : a < l
 ·rw [if_pos c1,decide_eq_false (by omega)];rfl
 rw [if_neg c1,decide_eq_true (by omega)]
 by_cases c2 : a > h
 ·rw [if_pos c2,decide_eq_false (by omega)];rfl
 rw [if_neg c2,decide_eq_true (by omega)];rfl
theorem win2 {α : Type} (a l h : Int) (X Y : α) : (if a ≥ l then if a ≤ h then X else Y else Y) = if win a l h = true then X else Y:=by
 unfold win
 by_cases c1 : a ≥ l
 rotate_left
 ·rw [if_neg c1,decide_eq_false (by omega)];rfl
 rw [if_pos c1,decide_eq_true (by omega)]
 by_cases c2 : a ≤ h
 ·rw [if_pos c2,decide_eq_true c2];rfl
 rw [if_neg c2,decide_eq_false c2];rfl
theorem win3 (a l h : Int) : (if a ≥ l then some (decide (a ≤ h)) else some false) = some (win a l h):=by
 unfold win
 by_cases c1 : a ≥ l
 ·rw [if_pos c1,decide_eq_true (show l ≤ a from c1)];rfl
 rw [if_neg c1,decide_eq_false (show ¬ l ≤ a from c1)];rfl
def May (x : S65) : Prop:=0 ≤ x.f7 ∧ x.f7 < 4294967296
theorem s_a (x : S65) (hx : May x) : b_D.f x.f0 x.f1 x.f2 x.f3 x.f4 x.f5 x.f6 x.f7 x.f8 x.f9 x.f10 = some (k_n x):=by
 unfold b_D.f b_p.f k_n
 rw [v_h hx.1 hx.2]
 simp only [win1,win2,win3,Option.bind_some]
 cases win x.f0 1 16 <;> cases win x.f1 1 8 <;> cases win x.f2 0 8 <;> cases win x.f3 0 3 <;> cases win x.f4 (-1) 7 <;> cases decide (x.f7 < 256) <;> cases win x.f8 1 65535 <;> cases win x.f9 1 8 <;> simp
def f_5 (x s : S65) : Bool:=s.f1 == x.f1
theorem n_H {x s : S65} (h : d_N s x.f1 x.f8 x.f9 x.f10 = true) : f_5 x s = true:=by
 unfold d_N at h
 unfold f_5
 simp only [Bool.and_eq_true] at h
 exact h.1.1.1
theorem o_s {p q : S65 → Bool} (hpq : ∀ s,p s = true → q s = true) (l : List S65) : l.countP p ≤ l.countP q ∧ (l.countP p = l.countP q ↔ l.all (fun s => !q s || p s) = true):=by
 induction l with
 | nil => simp
 | cons s l ih =>
  obtain ⟨h1,h2⟩:=ih
  rw [List.countP_cons,List.countP_cons,List.all_cons]
  cases hp : p s <;> cases hq : q s
  ·simp;exact ⟨h1,h2.trans (by simp)⟩
  ·simp;omega
  ·rw [hpq s hp] at hq;cases hq
  simp;exact ⟨h1,h2.trans (by simp)⟩
def inB (x : S65) (r : List S65) (n : Nat) : Bool:=r.all (fun s => !f_5 x s || d_N s x.f1 x.f8 x.f9 x.f10) && decide (((n + r.countP (f_5 x) : Nat) : Int) = x.f9)
theorem r_V (l : List S65) (x : S65) : inB x l 0 = (decide (((l.countP (fun s => s.f1 == x.f1) : Nat) : Int) = x.f9) && decide (((l.countP (fun s => d_N s x.f1 x.f8 x.f9 x.f10) : Nat) : Int) = x.f9)):=by
 obtain ⟨h1,h2⟩:=o_s (p:=fun s => d_N s x.f1 x.f8 x.f9 x.f10) (q:=f_5 x) (fun s h => n_H h) l
 unfold inB
 show _ = (decide (((l.countP (f_5 x) : Nat) : Int) = x.f9) && _)
 rw [Nat.zero_add]
 by_cases c : ((l.countP (f_5 x) : Nat) : Int) = x.f9
 rotate_left
 ·rw [decide_eq_false c,Bool.and_false,Bool.false_and]
 rw [decide_eq_true c,Bool.and_true,Bool.true_and]
 cases ha : l.all (fun s => !f_5 x s || d_N s x.f1 x.f8 x.f9 x.f10)
 ·have : ¬ l.countP (fun s => d_N s x.f1 x.f8 x.f9 x.f10) = l.countP (f_5 x):=fun e => by rw [h2.1 e] at ha;cases ha
  rw [decide_eq_false (by omega)]
 have:=h2.2 ha
 rw [decide_eq_true (by omega)]
theorem rd65 (l : List S65) (j : Nat) (hj : j < l.length) : a_c l (j : Int) = l[j]:=by
 unfold a_c;rw [Int.toNat_natCast,List.getD_eq_getElem?_getD,List.getElem?_eq_getElem hj];rfl
theorem n_F (l : List S65) (hl : l.length ≤ 1000000) (a : Int) (x : S65) (i : Nat) (hi : i < l.length) (R : Bool) (hn : Ev (fun k => a_k.l0 k ((i + 1 : Nat) : Int) a l) R) :
 ∀ d j n,j + d = l.length → n ≤ j → Ev (fun k => a_k.l1 k (i : Int) (n : Int) (j : Int) a l x.f0 x.f1 x.f2 x.f3 x.f4 x.f5 x.f6 x.f7 x.f8 x.f9 x.f10) (inB x (l.drop j) n && R):=by
 intro d
 induction d with
 | zero =>
  intro j n hj hnj
  have hd : l.drop j = []:=List.drop_eq_nil_of_le (by omega)
  rw [hd]
  refine Ev.step (fun k => by rw [a_k.l1,if_neg (by omega),d_V i (by omega)]) ?_
  show Ev _ (decide ((n : Int) = x.f9) && R)
  by_cases c : (n : Int) = x.f9
  ·simp only [if_pos c,decide_eq_true c,Bool.true_and];exact hn
  simp only [if_neg c,decide_eq_false c,Bool.false_and];exact Ev.now _
 | succ d ih =>
  intro j n hj hnj
  have h1 : (j : Int) < (l.length : Int):=by omega
  have h0 : (0 : Int) ≤ (j : Int):=by omega
  have hd : l.drop j = l[j] :: l.drop (j + 1):=List.drop_eq_getElem_cons (by omega)
  rw [hd]
  refine Ev.step (fun k => by rw [a_k.l1,if_pos h1,if_pos h0,d_V j (by omega),d_V n (by omega),rd65 l j (by omega)]) ?_
  have i0:=ih (j + 1) n (by omega) (by omega)
  have i1:=ih (j + 1) (n + 1) (by omega) (by omega)
  unfold inB at i0 i1 ⊢
  rw [List.all_cons,List.countP_cons]
  by_cases c : l[j].f1 = x.f1
  rotate_left
  ·have cs : f_5 x l[j] = false:=by unfold f_5;simp [c]
   simp only [if_neg c,cs,Bool.not_false,Bool.true_or,Bool.true_and,Bool.false_eq_true,if_false,Nat.add_zero]
   exact i0
  have cs : f_5 x l[j] = true:=by unfold f_5;rw [c];exact BEq.rfl
  have e : n + ((l.drop (j + 1)).countP (f_5 x) + 1) = n + 1 + (l.drop (j + 1)).countP (f_5 x):=by omega
  simp only [if_pos c,cs,Bool.not_true,Bool.false_or,if_true,e]
  by_cases c8 : l[j].f8 = x.f8
  rotate_left
  ·have ca : d_N l[j] x.f1 x.f8 x.f9 x.f10 = false:=by unfold d_N;simp [c8]
   simp only [if_neg c8,ca,Bool.false_and];exact Ev.now _
  by_cases c9 : l[j].f9 = x.f9
  rotate_left
  ·have ca : d_N l[j] x.f1 x.f8 x.f9 x.f10 = false:=by unfold d_N;simp [c9]
   simp only [if_pos c8,if_neg c9,ca,Bool.false_and];exact Ev.now _
  by_cases c10 : l[j].f10 = x.f10
  ·have ca : d_N l[j] x.f1 x.f8 x.f9 x.f10 = true:=by unfold d_N;rw [c,c8,c9,c10];simp
   simp only [if_pos c8,if_pos c9,if_pos c10,ca,Bool.true_and];exact i1
  have ca : d_N l[j] x.f1 x.f8 x.f9 x.f10 = false:=by unfold d_N;simp [c10]
  simp only [if_pos c8,if_pos c9,if_neg c10,ca,Bool.false_and];exact Ev.now _
theorem n_K (l : List S65) (hl : l.length ≤ 1000000) (hm : ∀ i : Int,May (a_c l i)) (a : Int) : ∀ d i,i + d = l.length → Ev (fun k => a_k.l0 k (i : Int) a l) (h_n l d i):=by
 intro d
 induction d with
 | zero =>
  intro i hi
  exact Ev.step (f:=fun _ => some true) (fun k => by rw [a_k.l0,if_neg (by omega)]) (Ev.now _)
 | succ d ih =>
  intro i hi
  have nxt:=ih (i + 1) (by omega)
  have h1 : (i : Int) < (l.length : Int):=by omega
  have h0 : (0 : Int) ≤ (i : Int):=by omega
  have inn:=n_F l hl a (a_c l (i : Int)) i (by omega) _ nxt l.length 0 0 (by omega) (Nat.le_refl _)
  rw [List.drop_zero,r_V] at inn
  have jt : Ev (fun k => a_k.j2 k (i : Int) true a l (a_c l (i : Int)).f0 (a_c l (i : Int)).f1 (a_c l (i : Int)).f2 (a_c l (i : Int)).f3 (a_c l (i : Int)).f4 (a_c l (i : Int)).f5 (a_c l (i : Int)).f6 (a_c l (i : Int)).f7 (a_c l (i : Int)).f8 (a_c l (i : Int)).f9 (a_c l (i : Int)).f10) false :=
   Ev.step (f:=fun _ => some false) (fun k => by rw [a_k.j2,if_pos rfl]) (Ev.now _)
  have jf:=Ev.step (g:=fun k => a_k.j2 k (i : Int) false a l (a_c l (i : Int)).f0 (a_c l (i : Int)).f1 (a_c l (i : Int)).f2 (a_c l (i : Int)).f3 (a_c l (i : Int)).f4 (a_c l (i : Int)).f5 (a_c l (i : Int)).f6 (a_c l (i : Int)).f7 (a_c l (i : Int)).f8 (a_c l (i : Int)).f9 (a_c l (i : Int)).f10) (fun k => by rw [a_k.j2,if_neg (by decide)];rfl) inn
  refine Ev.step (fun k => by rw [a_k.l0,if_pos h1,if_pos h0]) ?_
  simp only [s_a _ (hm _),Option.bind_some]
  unfold h_n rOK
  cases hs : k_n (a_c l (i : Int))
  ·simp only [Bool.false_eq_true,if_false,Bool.false_and];exact jt
  simp only [if_true,Bool.true_and]
  cases i with
  | zero =>
   simp only [show ¬ ((0 : Nat) : Int) > 0 by omega,if_false,BEq.rfl,Bool.true_or,Bool.true_and,Bool.and_assoc] at jf ⊢
   exact jf
  | succ j =>
   simp only [show ((j + 1 : Nat) : Int) > 0 by omega,if_true,g_K j (by omega),show (0 : Int) ≤ (j : Int) by omega,show (j : Int) < (l.length : Int) by omega,show (j + 1 == 0) = false from rfl,Bool.false_or,Nat.add_sub_cancel]
   by_cases c : (a_c l (j : Int)).f0 < (a_c l ((j + 1 : Nat) : Int)).f0
   ·rw [decide_eq_true c,decide_eq_false (show ¬ (a_c l (j : Int)).f0 ≥ (a_c l ((j + 1 : Nat) : Int)).f0 by omega)]
    simp only [Bool.true_and,Bool.and_assoc] at jf ⊢
    exact jf
   rw [decide_eq_false c,decide_eq_true (show (a_c l (j : Int)).f0 ≥ (a_c l ((j + 1 : Nat) : Int)).f0 by omega)]
   simp only [Bool.false_and]
   exact jt
theorem n_4 (l : List S65) (hl : l.length ≤ 1000000) (hm : ∀ i : Int,May (a_c l i)) (a : Int) : Ev (fun k => a_k.f k a l) (h_d a l):=by
 have key : ∀ b : Bool,Ev (fun k => a_k.j0 k b a l) (!b && h_n l l.length 0):=fun b => by
  cases b
  ·exact Ev.step (fun k => by rw [a_k.j0,if_neg (by decide)];rfl) (n_K l hl hm a l.length 0 (by omega))
  exact Ev.step (f:=fun _ => some false) (fun k => by rw [a_k.j0,if_pos rfl]) (Ev.now _)
 unfold a_k.f h_d tmB
 by_cases c2 : a < 0
 ·have c2' : ¬ 0 ≤ a:=by omega
  simp only [if_pos c2,decide_eq_false c2',Bool.false_and,Bool.and_false];exact key true
 have c2' : 0 ≤ a:=by omega
 simp only [if_neg c2,decide_eq_true c2',Bool.true_and]
 by_cases c3 : a ≤ 1125899906842624
 ·have c3' : ¬ a > 1125899906842624:=by omega
  simp only [decide_eq_false c3',decide_eq_true c3,Bool.and_true];simpa using key false
 have c3' : a > 1125899906842624:=by omega
 simp only [decide_eq_true c3',decide_eq_false c3,Bool.and_false];exact key true
variable {L : List S27} {en : Int}
def Mays (L : List S27) : Prop := ∀ i j : Int,May (a_c (a_p L i).f1 j)
theorem n_5 (hL : Small L) (hm : Mays L) : ∀ d i,i + d = L.length → Ev (fun k => a_r.l0 k (i : Int) L en) (h_A L en d i):=by
 intro d
 induction d with
 | zero =>
  intro i hi
  exact Ev.step (f:=fun _ => some true) (fun k => by rw [a_r.l0,if_neg (by omega)]) (Ev.now _)
 | succ d ih =>
  intro i hi
  have hL1:=hL.1
  have nxt:=ih (i + 1) (by omega)
  have h1 : (i : Int) < (L.length : Int):=by omega
  have h0 : (0 : Int) ≤ (i : Int):=by omega
  refine Ev.step (fun k => by rw [a_r.l0,if_pos h1,if_pos h0]) ?_
  refine Ev.bind (n_4 _ (hL.2 _) (hm _) _) ?_
  simp only [d_V i (by omega)]
  unfold h_A mOK
  cases hs : h_d (a_p L (i : Int)).f0 (a_p L (i : Int)).f1
  ·exact Ev.now _
  simp only [if_true,Bool.true_and]
  by_cases ce : (a_p L (i : Int)).f0 ≤ en
  rotate_left
  ·have ce' : (a_p L (i : Int)).f0 > en:=by omega
   simp only [if_pos ce',decide_eq_false ce,Bool.false_and]
   exact Ev.now _
  have ce' : ¬ (a_p L (i : Int)).f0 > en:=by omega
  simp only [if_neg ce',decide_eq_true ce,Bool.true_and]
  cases i with
  | zero =>
   simp only [show ¬ ((0 : Nat) : Int) > 0 by omega,if_false,BEq.rfl,Bool.true_or,Bool.true_and]
   exact nxt
  | succ j =>
   simp only [show ((j + 1 : Nat) : Int) > 0 by omega,if_true,g_K j (by omega),show (0 : Int) ≤ (j : Int) by omega,show (j : Int) < (L.length : Int) by omega,show (j + 1 == 0) = false from rfl,Bool.false_or,Nat.add_sub_cancel]
   by_cases c : (a_p L (j : Int)).f0 < (a_p L ((j + 1 : Nat) : Int)).f0
   ·have c' : ¬ (a_p L (j : Int)).f0 ≥ (a_p L ((j + 1 : Nat) : Int)).f0:=by omega
    simp only [if_neg c',decide_eq_true c,Bool.true_and]
    exact nxt
   have c' : (a_p L (j : Int)).f0 ≥ (a_p L ((j + 1 : Nat) : Int)).f0:=by omega
   simp only [if_pos c',decide_eq_false c,Bool.false_and]
   exact Ev.now _
theorem m_u (hL : Small L) (hm : Mays L) (en : Int) : Ev (fun k => a_r.f k L en) (f_0 L en):=by
 have key : ∀ b : Bool,Ev (fun k => a_r.j0 k b L en) (!b && h_A L en L.length 0):=fun b => by
  cases b
  ·exact Ev.step (fun k => by rw [a_r.j0,if_neg (by decide)];rfl) (n_5 hL hm L.length 0 (by omega))
  exact Ev.step (f:=fun _ => some false) (fun k => by rw [a_r.j0,if_pos rfl]) (Ev.now _)
 unfold a_r.f f_0 tmB
 by_cases c1 : (L.length : Int) > 2000
 ·have c1' : ¬ L.length ≤ 2000:=by omega
  simp only [if_pos c1,decide_eq_false c1',Bool.false_and];exact key true
 have c1' : L.length ≤ 2000:=by omega
 simp only [if_neg c1,decide_eq_true c1',Bool.true_and]
 by_cases c2 : en < 0
 ·have c2' : ¬ 0 ≤ en:=by omega
  simp only [if_pos c2,decide_eq_false c2',Bool.false_and];exact key true
 have c2' : 0 ≤ en:=by omega
 simp only [if_neg c2,decide_eq_true c2',Bool.true_and]
 by_cases c3 : en ≤ 1125899906842624
 ·have c3' : ¬ en > 1125899906842624:=by omega
  simp only [decide_eq_false c3',decide_eq_true c3,Bool.true_and];simpa using key false
 have c3' : en > 1125899906842624:=by omega
 simp only [decide_eq_true c3',decide_eq_false c3,Bool.false_and];exact key true
end Go.Proofs.Ytgglkfilkagblaa.Pure
end
section
namespace Go.Proofs.Ytgglkfilkagblaa.Pure
open Go.RowKit Go.Proofs.Ytgglkfilkagblaa.Q Go.Proofs.YtgglkfilkagblaaW.PrintWords Go.Proofs.YtgglkfilkagblaaW.PrintLast Go.Proofs.YtgglkfilkagblaaW.PrintMore
set_option linter.unusedVariables false
set_option linter.unusedSimpArgs false
variable {L : List S27} {en : Int}
def fx (l : List S65) (v : Int) : Int:=idxOf (fun s : S65 => s.f0 == v) l
theorem m_y (l : List S65) (hl : l.length ≤ 1000000) (a v : Int) : Ev (fun k => a_I.f k a l v) (fx l v):=by
 have key : ∀ d i,i + d = l.length → (∀ j,(h : j < l.length) → j < i → l[j].f0 ≠ v) → Ev (fun k => a_I.l0 k v (i : Int) a l) (fx l v):=by
  intro d
  induction d with
  | zero =>
   intro i hi hb
   refine Ev.step (f:=fun _ => some (-1)) (fun k => by rw [a_I.l0,if_neg (by omega)]) ?_
   have e : fx l v = -1:=by
    unfold fx idxOf
    have : l.findIdx? (fun s : S65 => s.f0 == v) = none:=by
     rw [List.findIdx?_eq_none_iff]
     intro x hx
     obtain ⟨j,hj,rfl⟩:=List.mem_iff_getElem.1 hx
     simpa using hb j hj (by omega)
    rw [this]
   rw [e];exact Ev.now _
  | succ d ih =>
   intro i hi hb
   refine Ev.step (fun k => by rw [a_I.l0,if_pos (by omega),if_pos (by omega),rd65 l i (by omega),d_V i (by omega)]) ?_
   by_cases c : l[i].f0 = v
   ·have e : fx l v = (i : Int):=by
     unfold fx idxOf
     have : l.findIdx? (fun s : S65 => s.f0 == v) = some i:=by
      rw [List.findIdx?_eq_some_iff_getElem]
      exact ⟨by omega,by simp [c],fun j hj => by simpa using hb j (by omega) hj⟩
     rw [this]
    rw [e]
    simp only [if_pos c];exact Ev.now _
   simp only [if_neg c]
   exact ih (i + 1) (by omega) (fun j h hj => by
    rcases Nat.lt_or_ge j i with h1|h1
    ·exact hb j h h1
    have : j = i:=by omega
    subst this;exact c)
 exact key l.length 0 (by omega) (fun j _ h => absurd h (Nat.not_lt_zero _))
theorem m_F (h : e_r L en) {j : Nat} (hj : j < L.length) : b_F.f L en (j : Int) = some (to_ L en j):=by
 have hL:=h.n
 unfold b_F.f to_ c_p
 rw [d_V j (by omega)]
 by_cases c : j + 1 < L.length
 ·rw [if_pos (by omega),if_pos (by omega),if_pos c]
 rw [if_neg (by omega),if_neg c]
theorem r_q {l : List S65} {v : Int} (h : fx l v < 0) : a_0 l v = (z65,false):=by unfold a_0;exact if_pos h
theorem o_y {l : List S65} {v : Int} (h : ¬ fx l v < 0) : a_0 l v = (a_c l (fx l v),true):=by unfold a_0;exact if_neg h
theorem u_7 (hg : f_0 L en = true) {j : Nat} (hj : j < L.length) {i : Int} (h0 : 0 ≤ i) (hi : i < ((a_p L (j : Int)).f1.length : Int)) : -1 ≤ (a_c (a_p L (j : Int)).f1 i).f4:=by
 unfold f_0 at hg
 simp only [Bool.and_eq_true,decide_eq_true_eq] at hg
 have h1:=m_w _ _ hg.2 j (Nat.zero_le _) (by omega)
 unfold mOK h_d at h1
 simp only [Bool.and_eq_true,decide_eq_true_eq] at h1
 have h2:=h1.1.1.1
 have h3 : ∀ n i,h_n (a_p L (j : Int)).f1 n i = true → ∀ t,i ≤ t → t < i + n → rOK (a_p L (j : Int)).f1 t = true:=by
  intro n
  induction n with
  | zero => intro i _ t h1 h2;omega
  | succ n ih =>
   intro i h t h1 h2
   unfold h_n at h
   rw [Bool.and_eq_true] at h
   rcases Nat.lt_or_ge i t with h3|h3
   ·exact ih (i + 1) h.2 t h3 (by omega)
   obtain rfl : i = t:=by omega
   exact h.1
 have h4:=h3 _ _ h2 i.toNat (Nat.zero_le _) (by omega)
 unfold rOK k_n win at h4
 simp only [Bool.and_eq_true,decide_eq_true_eq] at h4
 have e : ((i.toNat : Nat) : Int) = i:=Int.toNat_of_nonneg h0
 rw [e] at h4
 exact h4.1.1.1.1.1.1.1.2.1
theorem u_U (l : List S65) (v : Int) : fx l v < (l.length : Int):=m_s _ l
theorem r_N (h : e_r L en) (v a b : Int) (ha : 0 ≤ a) (hb : b ≤ 1125899906842624) (hab : a ≤ b) : ∀ d i,i + d = L.length → Ev (fun k => a_y.l0 k v a b (ran L en v a b i) (i : Int) L en) (ran L en v a b L.length):=by
 have hL:=h.n
 intro d
 induction d with
 | zero =>
  intro i hi
  refine Ev.step (f:=fun _ => some (ran L en v a b i)) (fun k => by rw [a_y.l0,if_neg (by omega)]) ?_
  rw [show i = L.length by omega];exact Ev.now _
 | succ d ih =>
  intro i hi
  have nxt:=ih (i + 1) (by omega)
  have hw:=d_V i (by omega)
  have hr : ran L en v a b (i + 1) = ran L en v a b i + seg L en v a b i:=rfl
  have r0:=r_B h v a b ha hb i (by omega)
  have s0:=o_o h v a b (j:=i) (by omega) ha hb
  have h3:=h.lo i (by omega)
  have h4:=h.s_l (j:=i) (by omega)
  have h5:=h.en1
  have h6:=h.le (j:=i) (by omega)
  have skip : onB L v i = false → Ev (fun k => a_y.j1 k v a b (ran L en v a b i) (i : Int) true L en) (ran L en v a b L.length):=fun hoff => by
   have e : seg L en v a b i = 0:=by unfold seg;rw [hoff];rfl
   rw [hr,e,Int.add_zero] at nxt
   exact Ev.step (fun k => by rw [a_y.j1,if_pos rfl,hw]) nxt
  refine Ev.step (fun k => by rw [a_y.l0,if_pos (by omega),if_pos (by omega)]) ?_
  refine Ev.bind (m_y _ (h.small.2 _) _ v) ?_
  by_cases c : fx (a_p L (i : Int)).f1 v < 0
  ·simp only [if_pos c]
   exact skip (by unfold onB;rw [r_q c];rfl)
  have f0 : 0 ≤ fx (a_p L (i : Int)).f1 v:=by omega
  simp only [if_neg c,if_pos f0,if_pos (u_U (a_p L (i : Int)).f1 v)]
  by_cases c4 : (a_c (a_p L (i : Int)).f1 (fx (a_p L (i : Int)).f1 v)).f4 < 0
  ·simp only [decide_eq_true c4]
   refine skip ?_
   unfold onB
   rw [o_y c]
   simp only [Bool.true_and]
   exact decide_eq_false (by omega)
  simp only [decide_eq_false c4]
  have hon : onB L v i = true:=by
   unfold onB
   rw [o_y c]
   simp only [Bool.true_and]
   exact decide_eq_true (by omega)
  have es : seg L en v a b i = mx (mn (to_ L en i) b - mx (at_ L i) a) 0:=by unfold seg;rw [if_pos hon]
  have fin : ∀ (m : Int),mx (at_ L i) a = m → 0 ≤ m → m ≤ 1125899906842624 → Ev (fun k => a_y.j2 k v a b (ran L en v a b i) (i : Int) m (to_ L en i) L en) (ran L en v a b L.length):=fun m em m0 m1 => by
   rw [hr,es,em] at nxt
   rw [es,em] at s0
   refine Ev.step (fun k => by rw [a_y.j2,hw]) ?_
   by_cases c1 : to_ L en i > b
   ·by_cases c2 : b > m
    ·have e : mx (mn (to_ L en i) b - m) 0 = b - m:=by unfold mx mn;(repeat' split) <;> omega
     rw [e] at nxt s0
     simp only [if_pos c1,if_pos c2]
     rw [j_j (ran L en v a b i + b) (by omega) (by omega),j_j (ran L en v a b i + b - m) (by omega) (by omega),Int.add_sub_assoc]
     exact nxt
    have e : mx (mn (to_ L en i) b - m) 0 = 0:=by unfold mx mn;(repeat' split) <;> omega
    rw [e,Int.add_zero] at nxt
    simp only [if_pos c1,if_neg c2]
    exact nxt
   by_cases c2 : to_ L en i > m
   ·have e : mx (mn (to_ L en i) b - m) 0 = to_ L en i - m:=by unfold mx mn;(repeat' split) <;> omega
    rw [e] at nxt s0
    simp only [if_neg c1,if_pos c2]
    rw [j_j (ran L en v a b i + to_ L en i) (by omega) (by omega),j_j (ran L en v a b i + to_ L en i - m) (by omega) (by omega),Int.add_sub_assoc]
    exact nxt
   have e : mx (mn (to_ L en i) b - m) 0 = 0:=by unfold mx mn;(repeat' split) <;> omega
   rw [e,Int.add_zero] at nxt
   simp only [if_neg c1,if_neg c2]
   exact nxt
  refine Ev.step (fun k => by rw [a_y.j1,if_neg (by decide),if_pos (by omega),if_pos (by omega),m_F h (by omega),Option.bind_some]) ?_
  by_cases ca : at_ L i < a
  ·have ca' : (a_p L (i : Int)).f0 < a:=ca
   simp only [if_pos ca']
   exact fin a (by unfold mx;rw [if_pos ca]) ha (by omega)
  have ca' : ¬ (a_p L (i : Int)).f0 < a:=ca
  simp only [if_neg ca']
  exact fin _ (by unfold mx;rw [if_neg ca];rfl) h3 (by unfold at_ at *; omega)
theorem u_6 (h : e_r L en) (v a b : Int) (ha : 0 ≤ a) (hb : b ≤ 1125899906842624) (hab : a ≤ b) : Ev (fun k => a_y.f k L en v a b) (ran L en v a b L.length):=r_N h v a b ha hb hab L.length 0 (by omega)
theorem n_z (v : Int) (i : Nat) : stays L en v (i + 1) = d_S L en v (stays L en v i) i:=by
 unfold stays;rw [List.range_succ,List.foldl_append];rfl
theorem n_Z (h : e_r L en) (hg : f_0 L en = true) (v : Int) : ∀ d i,i + d = L.length → Ev (fun k => a_s.l0 k v (stays L en v i) (i : Int) L en) (stays L en v L.length):=by
 have hL:=h.n
 intro d
 induction d with
 | zero =>
  intro i hi
  refine Ev.step (f:=fun _ => some (stays L en v i)) (fun k => by rw [a_s.l0,if_neg (by omega)]) ?_
  rw [show i = L.length by omega];exact Ev.now _
 | succ d ih =>
  intro i hi
  have nxt:=ih (i + 1) (by omega)
  rw [n_z] at nxt
  have hw:=d_V i (by omega)
  have hlen:=k_w (L:=L) (en:=en) v i
  have skip : ¬ wtB L en v i → Ev (fun k => a_s.j1 k v (stays L en v i) (i : Int) (a_p L (i : Int)).f0 (to_ L en i) true L en) (stays L en v L.length):=fun hno => by
   have e : d_S L en v (stays L en v i) i = stays L en v i:=by unfold d_S;exact if_neg hno
   rw [e] at nxt
   exact Ev.step (fun k => by rw [a_s.j1,if_pos rfl,hw]) nxt
  refine Ev.step (fun k => by rw [a_s.l0,if_pos (by omega),if_pos (by omega)]) ?_
  refine Ev.bind (m_y _ (h.small.2 _) _ v) ?_
  simp only [m_F h (show i < L.length by omega),Option.bind_some]
  by_cases c : fx (a_p L (i : Int)).f1 v < 0
  ·simp only [if_pos c]
   exact skip (fun hw => by have:=hw.1;rw [r_q c] at this;cases this)
  have f0 : 0 ≤ fx (a_p L (i : Int)).f1 v:=by omega
  have f1:=u_U (a_p L (i : Int)).f1 v
  simp only [if_neg c,if_pos f0,if_pos f1]
  have hc:=u_7 hg (show i < L.length by omega) f0 f1
  have eW : ∀ x : S65, -1 ≤ x.f4 → b_C.f x.f0 x.f1 x.f2 x.f3 x.f4 x.f5 x.f6 x.f7 x.f8 x.f9 x.f10 = some (g_D x):=fun x hx => by
   unfold b_C.f g_D
   cases x.f5 <;> cases x.f6 <;> simp
   by_cases c2 : x.f2 = 0
   rotate_left
   ·simp [c2]
   simp only [c2,if_true]
   by_cases c4 : x.f4 = -1
   ·rw [c4];rfl
   have c5 : ¬ x.f4 < 0:=by omega
   simp [c4,c5]
  simp only [eW _ hc,Option.bind_some]
  have e2 : (a_0 (a_p L (i : Int)).f1 v) = (a_c (a_p L (i : Int)).f1 (fx (a_p L (i : Int)).f1 v),true):=o_y c
  cases hwt : g_D (a_c (a_p L (i : Int)).f1 (fx (a_p L (i : Int)).f1 v)) with
  | false => exact skip (fun hw => by have:=hw.2.1;rw [e2] at this;simp only [hwt] at this;cases this)
  | true =>
   simp only [if_true]
   by_cases cu : (a_p L (i : Int)).f0 = to_ L en i
   ·have : ((a_p L (i : Int)).f0 == to_ L en i) = true:=by rw [cu];exact BEq.rfl
    simp only [this]
    exact skip (fun hw => hw.2.2 cu)
   have : ((a_p L (i : Int)).f0 == to_ L en i) = false:=by simp [cu]
   simp only [this]
   have hwB : (a_0 (a_p L (i : Int)).f1 v).2 = true ∧ g_D (a_0 (a_p L (i : Int)).f1 v).1 = true ∧ (a_p L (i : Int)).f0 ≠ c_p L en i:=by rw [e2];exact ⟨rfl,hwt,cu⟩
   unfold d_S at nxt
   rw [if_pos hwB] at nxt
   refine Ev.step (fun k => by rw [a_s.j1,if_neg (by decide),hw]) ?_
   by_cases c0 : 0 < (stays L en v i).length
   rotate_left
   ·rw [if_neg (fun h => c0 h.1)] at nxt
    simp only [if_neg (show ¬ ((stays L en v i).length : Int) > 0 by omega),if_pos (show (stays L en v i).length < 8796093022208 by omega)]
    exact nxt
   obtain ⟨m,em⟩ : ∃ m,(stays L en v i).length = m + 1:=⟨(stays L en v i).length - 1,by omega⟩
   have hp:=g_K m (by omega)
   have er : b_N (stays L en v i) (m : Int) = (stays L en v i).getD m z46:=by unfold b_N;rw [Int.toNat_natCast]
   simp only [em,hp,Nat.add_sub_cancel,show 0 < m + 1 by omega,true_and] at nxt
   simp only [em,hp,er,Int.toNat_natCast,show ((m + 1 : Nat) : Int) > 0 by omega,show (0 : Int) ≤ (m : Int) by omega,show (m : Int) < ((m + 1 : Nat) : Int) by omega,if_true,show m + 1 < 8796093022208 by omega]
   by_cases cl : ((stays L en v i).getD m z46).f1 = (a_p L (i : Int)).f0
   ·simp only [if_pos cl] at nxt ⊢; exact nxt
   simp only [if_neg cl] at nxt ⊢; exact nxt
theorem q_T (h : e_r L en) (hg : f_0 L en = true) (v : Int) : Ev (fun k => a_s.f k L en v) (stays L en v L.length):=n_Z h hg v L.length 0 (by omega)
end Go.Proofs.Ytgglkfilkagblaa.Pure
end
section
namespace Go.Proofs.Ytgglkfilkagblaa.Pure
open Go.RowKit Go.Proofs.Ytgglkfilkagblaa.Q Go.Proofs.YtgglkfilkagblaaW.PrintWords Go.Proofs.YtgglkfilkagblaaW.PrintLast Go.Proofs.YtgglkfilkagblaaW.PrintMore
set_option linter.unusedVariables false
set_option linter.unusedSimpArgs false
variable {L : List S27} {en : Int}
theorem u_4 {s : S65} (h : (Lit.int .u32 s.f7).wf = true) : May s:=by
 simp [Lit.wf,IntKind.min,IntKind.max,IntKind.signed,IntKind.bits] at h
 unfold May
 omega
theorem s_m {l : List S65} (h : ∀ s ∈ l,wf65 s) (i : Int) : May (a_c l i):=by
 unfold a_c
 rw [List.getD_eq_getElem?_getD]
 by_cases c : i.toNat < l.length
 ·rw [List.getElem?_eq_getElem c]
  have:=h _ (List.getElem_mem c)
  unfold wf65 at this
  exact u_4 this.2.2.2.2.2.2.2.1
 rw [List.getElem?_eq_none (by omega)]
 simp [z65,May]
theorem r_1 {M : List S27} (h : ∀ m ∈ M,wf27 m) : Mays M:=by
 intro i j
 by_cases c : i.toNat < M.length
 ·have:=h _ (List.getElem_mem c)
  have e : a_p M i = M[i.toNat]:=by unfold a_p;rw [List.getD_eq_getElem?_getD,List.getElem?_eq_getElem c];rfl
  rw [e]
  unfold wf27 at this
  exact s_m this.2.2 j
 have e : a_p M i = z27:=by unfold a_p;rw [List.getD_eq_getElem?_getD,List.getElem?_eq_none (by omega)];rfl
 rw [e]
 simp [z27,a_c,z65,May]
theorem q_8 : Ev (fun k => a_G.f k) true:=Ev.of (k:=40) (fun k => a_G.mono k) (by kernel_rfl)
end Go.Proofs.Ytgglkfilkagblaa.Pure
end
section
namespace Go.Proofs.Ytgglkfilkagblaa.Pure
open Go.RowKit Go.Proofs.Ytgglkfilkagblaa.Q Go.Proofs.YtgglkfilkagblaaW.PrintWords Go.Proofs.YtgglkfilkagblaaW.PrintLast Go.Proofs.YtgglkfilkagblaaW.PrintMore
set_option linter.unusedVariables false
set_option linter.unusedSimpArgs false
variable {L : List S27} {en : Int}
theorem r_Q (hL : Small L) (hg : f_0 L en = false) (v a b : Int) : Ev (fun k => a_4.f k L en v a b) (0,390):=by
 unfold a_4.f
 refine Ev.bind (h_z L hL en) ?_
 rw [hg]
 exact Ev.now _
theorem n_T (hL : Small L) (hg : f_0 L en = false) (v : Int) : Ev (fun k => a_Z.f k L en v) ([],390):=by
 unfold a_Z.f
 refine Ev.bind (h_z L hL en) ?_
 rw [hg]
 exact Ev.now _
theorem r_X (hL : Small L) (hg : f_0 L en = true) (v a b : Int) (h : a < 0 ∨ 1125899906842624 < b ∨ b < a) : Ev (fun k => a_4.f k L en v a b) (0,2):=by
 unfold a_4.f
 refine Ev.bind (h_z L hL en) ?_
 simp only [hg,if_true]
 by_cases c1 : a < 0
 ·rw [if_pos c1];exact Ev.now _
 rw [if_neg c1]
 by_cases c2 : 1125899906842624 < b
 ·rw [if_pos c2];exact Ev.now _
 rw [if_neg c2,if_pos (by omega)]
 exact Ev.now _
theorem q_Z (h : e_r L en) (v n e : Int) (W : List S46) (hW : W.length ≤ 120) (a b : Int)
 (hfin : Ev (fun k => if a < 0 then (if n = 0 then (some (e == 2)) else (some false)) else (if b > 1125899906842624 then (if n = 0 then (some (e == 2)) else (some false)) else (if a > b then (if n = 0 then (some (e == 2)) else (some false)) else (if e = 0 then ((a_y.f k L en v a b).bind fun t329 => (some (n == t329))) else (some false))))) true) :
 ∀ d i,i + d = W.length → Ev (fun k => a_v.l0 k v n e W W (W.length : Int) (i : Int) L en a b) true:=by
 intro d
 induction d with
 | zero =>
  intro i hi
  exact Ev.step (fun k => by rw [a_v.l0,if_neg (by omega)]) hfin
 | succ d ih =>
  intro i hi
  refine Ev.step (fun k => by rw [a_v.l0,if_pos (by omega),if_pos (by omega),if_pos (by omega),if_pos (by omega),if_neg (by simp),d_V i (by omega)]) (ih (i + 1) (by omega))
theorem n_x (L : List S27) (en v a b : Int) (h0 : wf24 ⟨L,en⟩) {B C : Prop} (_ : B) (_ : C) : ∃ k,a_v.f k L en v a b = some true:=by
 have hm : Mays L:=by unfold wf24 at h0;exact r_1 h0.1.2
 clear h0
 refine Ev.rounds ?_
 unfold a_v.f
 refine Ev.bind q_8 ?_
 simp only [if_true]
 refine Ev.bind (u_3 L en) ?_
 cases ho : k_1 L with
 | true => exact Ev.now _
 | false =>
  simp only [Bool.false_eq_true,if_false]
  have hs:=q_N ho
  cases hg : f_0 L en with
  | false =>
   refine Ev.bind (r_Q hs hg v a b) ?_
   refine Ev.bind (n_T hs hg v) ?_
   refine Ev.bind (m_u hs hm en) ?_
   simp only [hg,Bool.false_eq_true,if_false,if_true]
   exact Ev.now _
  | true =>
   have h:=q_5 ho hg
   have hW : (stays L en v L.length).length ≤ 120:=Nat.le_trans (k_w v _) h.n
   have go : ∀ n e : Int,Ev (fun k => a_4.f k L en v a b) (n,e) → Ev (fun k => if a < 0 then (if n = 0 then (some (e == 2)) else (some false)) else (if b > 1125899906842624 then (if n = 0 then (some (e == 2)) else (some false)) else (if a > b then (if n = 0 then (some (e == 2)) else (some false)) else (if e = 0 then ((a_y.f k L en v a b).bind fun t329 => (some (n == t329))) else (some false))))) true →
    Ev (fun k => (a_4.f k L en v a b).bind fun bt317 => ((a_Z.f k L en v).bind fun bt319 => ((a_r.f k L en).bind fun t323 => (if t323 = true then ((a_s.f k L en v).bind fun t324 => (if bt319.2 = 0 then (a_v.j0 k v bt317.1 bt317.2 bt319.1 t324 ((bt319.1.length : Int) != (t324.length : Int)) L en a b) else (a_v.j0 k v bt317.1 bt317.2 bt319.1 t324 true L en a b))) else (if bt317.1 = 0 then (if bt317.2 = 390 then (if (bt319.1.length : Int) = 0 then (some (bt319.2 == 390)) else (some false)) else (some false)) else (some false)))))) true:=fun n e hr hf => by
    refine Ev.bind hr ?_
    refine Ev.bind (s_k h hg v) ?_
    refine Ev.bind (m_u hs hm en) ?_
    simp only [hg,if_true]
    refine Ev.bind (q_T h hg v) ?_
    simp only [bne_self_eq_false]
    exact Ev.step (fun k => by rw [a_v.j0,if_neg (by decide)];rfl) (q_Z h v n e _ hW a b hf (stays L en v L.length).length 0 (by omega))
   by_cases c : a < 0 ∨ 1125899906842624 < b ∨ b < a
   ·refine go 0 2 (r_X hs hg v a b c) ?_
    by_cases c1 : a < 0
    ·simp only [if_pos c1,if_true];exact Ev.now _
    simp only [if_neg c1]
    by_cases c2 : b > 1125899906842624
    ·simp only [if_pos c2,if_true];exact Ev.now _
    simp only [if_neg c2,if_pos (show a > b by omega),if_true];exact Ev.now _
   refine go _ 0 (x_h h hg v a b (by omega) (by omega) (by omega)) ?_
   simp only [if_neg (show ¬ a < 0 by omega),if_neg (show ¬ b > 1125899906842624 by omega),if_neg (show ¬ a > b by omega),if_true]
   refine Ev.bind (u_6 h v a b (by omega) (by omega) (by omega)) ?_
   simp only [BEq.rfl]
   exact Ev.now _
end Go.Proofs.Ytgglkfilkagblaa.Pure
end
section
namespace Go.Proofs.Ytgglkfilkagblaa.auditTimes
open Go.ChangeShapes Go.WideShapes Go.ChangeAt Go.RowKit Go.Proofs.Ytgglkfilkagblaa.Q
open Go.Proofs.YtgglkfilkagblaaW.PrintWords Go.Proofs.YtgglkfilkagblaaW.PrintLast Go.Proofs.YtgglkfilkagblaaW.PrintMore
set_option linter.unusedVariables false
set_option linter.unusedSimpArgs false
set_option maxRecDepth 100000 in
theorem lifted (os : Os) (started : os.Started) (H : Type) (enc : TypeId × Value → H) :
 ReturnsInHanded {} Try.checked os 4 .any (Rows.auditTimesSpec.pre6 enc Try.prog Try.f4 Rows.auditTimesRow.domain false) (Rows.auditTimesSpec.post enc Try.prog Try.f4 false true false false):=by
 refine returnsInHanded_of_change_sized (C:=Try.checked) own started (by kernel_rfl) Try.func4
  (ChangeSpec.witness6 (enc:=enc) (C:=Try.checked) false ⟨#[],#[.agg #[.slice none 0 0,.int .i64 0],.int .i64 0,.agg #[.int .i64 0,.int .i64 0]],[]⟩ 8 (by kernel_rfl) (by kernel_rfl) (by kernel_rfl) (by kernel_rfl)) ?_
 intro W base args ds gs before hval0 hW hcnd hsz0 _
 have hval : ∀ (j : Nat) t v,Try.f4.params[j]? = some t → args[j]? = some v → Value.okWide Try.prog W .any base t v:=hval0
 have hW':=hW
 obtain ⟨p,q,hA0,hV,rfl,hfz,hnd⟩:=hW
 have hA : DataW.TrodAll enc Try.prog W 0 (fun _ => true) true Try.f4.params.toList args.toList ds p:=hA0
 rw [Try.params4] at hA hval
 obtain ⟨v0,vs0,d0,ds0,p0,q0,hargs,rfl,rfl,h0,r0⟩:=trodAll_cons hA
 obtain ⟨v1,vs1,d1,ds1,p1,q1,rfl,rfl,rfl,h1,r1⟩:=trodAll_cons r0
 obtain ⟨v2,vs2,d2,ds2,p2,q2,rfl,rfl,rfl,h2,r2⟩:=trodAll_cons r1
 obtain ⟨rfl,rfl,rfl⟩:=trodAll_nil r2
 obtain rfl : args = #[v0,v1,v2]:=by cases args;simp_all
 obtain ⟨rfl,rfl⟩:=trodVars_none hV
 have k0:=h0
 have lt0 : ∀ x ∈ p0,x.block < W.heap.size:=by obtain ⟨m,hm⟩:=k0;exact DataW.trod_lt m _ _ _ hm
 obtain ⟨cs0,rfl,hz0⟩:=okWide_struct Try.underlying24 (hval 0 24 v0 rfl rfl)
 obtain ⟨fuel0,hf0⟩:=h0
 obtain ⟨x0,hK0,wf0_⟩:=op24.open_ hf0
 obtain ⟨A0_0,c0_0,he0,hc0_0,hr0_0⟩:=q_S hK0
 have hq0:=toList_eq he0
 simp only [Value.cells] at hq0
 subst hq0
 obtain ⟨a1,rfl,rfl,rfl,w1⟩:=open_int Try.underlying3 (hval 1 3 v1 rfl rfl) h1
 have k2:=h2
 have lt2 : ∀ x ∈ p2,x.block < W.heap.size:=by obtain ⟨m,hm⟩:=k2;exact DataW.trod_lt m _ _ _ hm
 obtain ⟨cs2,rfl,hz2⟩:=k_D Try.underlying38 (hval 2 38 v2 rfl rfl)
 obtain ⟨fuel2,hf2⟩:=h2
 obtain ⟨x2,hK2,wf2_⟩:=op38.open_ hf2
 have he2:=q_H hK2
 have hq2:=toList_eq he2
 simp only [Value.cells] at hq2
 subst hq2
 obtain ⟨K,hK⟩:=Pure.n_x x0.f0 x0.f1 a1 x2.f0 x2.f1 wf0_ w1 wf2_
 refine (a_v.calls _ _ _ _ _ _ _ _ _ _ hr0_0 hc0_0 hK).mono fun e W' ⟨he,bel⟩ => ?_
 subst he
 exact ⟨_,rfl,_,_,_,[],_,[],hW',trodAll_mk1 (shut_bool Try.underlying4 _),(trodAll_cons_mk (Below.trod laidOut (by kernel_rfl) (of_decide_eq_true (by kernel_rfl)) k0 bel lt0) (trodAll_cons_mk (shut_int Try.underlying3 w1) (trodAll_cons_mk (Below.trod laidOut (by kernel_rfl) (of_decide_eq_true (by kernel_rfl)) k2 bel lt2) trodAll_mk0))),rfl,bel.frame _,fun h => by cases h⟩
theorem over : Rows.auditTimesRow.holds Try.pinned (OpenSpec.ofChange Rows.auditTimesSpec) :=
 OpenClaim.holds_of_wide 4 Try.f4 rfl rfl rfl rfl rfl rfl rfl ⟨rfl,rfl,rfl,rfl,rfl⟩ rfl rfl rfl rfl rfl (by kernel_rfl) Try.func4 (by kernel_rfl)
  (of_decide_eq_true (by kernel_rfl)) (by unfold Func.isWrapper;first|(rw [if_pos (by decide +kernel)];kernel_rfl)|(rw [if_neg (by decide +kernel)];exact ⟨rfl,rfl⟩))
  (fun os started H enc _ => lifted os started H enc)
theorem proved : Rows.AuditTimesSaid:=over
#print axioms proved
end Go.Proofs.Ytgglkfilkagblaa.auditTimes
namespace Go.Proofs.Ytgglkfilkagblaa
theorem auditTimes_holds : Rows.AuditTimesSaid:=auditTimes.proved
end Go.Proofs.Ytgglkfilkagblaa
end
