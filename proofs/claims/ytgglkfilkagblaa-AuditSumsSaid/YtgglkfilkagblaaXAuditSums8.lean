/- Part 9 of 9 of what the row of AuditSums stands on: contracts over the given program's functions, the plain law, the row; no condition beyond those that each theorem states. -/
import Derived.Test.YtgglkfilkagblaaXAuditSums7
section
namespace Go.Proofs.Ytgglkfilkagblaa.Pure
open Go.RowKit Go.Proofs.Ytgglkfilkagblaa.Q Go.Proofs.YtgglkfilkagblaaW.PrintWords Go.Proofs.YtgglkfilkagblaaW.PrintLast Go.Proofs.YtgglkfilkagblaaW.PrintMore
set_option linter.unusedVariables false
set_option linter.unusedSimpArgs false
theorem e_V (n : Nat) (h : n < 9223372036854775807) : wrap64 ((n : Int) + 1) = ((n + 1 : Nat) : Int):=by unfold wrap64;omega
theorem f_S (n : Nat) (h : n < 9223372036854775807) : wrap64 (((n + 1 : Nat) : Int) - 1) = (n : Int):=by unfold wrap64;omega
theorem i_t (n : Int) (h0 : -9223372036854775808 ≤ n) (h1 : n ≤ 9223372036854775807) : wrap64 n = n:=by unfold wrap64;omega
def win (a l h : Int) : Bool:=decide (l ≤ a) && decide (a ≤ h)
theorem n_1 (a l h : Int) : a_D.f a l h = some (win a l h):=by
 unfold a_D.f win
 by_cases c : a ≥ l
 ·rw [if_pos c,decide_eq_true (show l ≤ a from c)];rfl
 rw [if_neg c,decide_eq_false (show ¬ l ≤ a from c)];rfl
def mayB (a : Int) : Bool:=decide (Go.bits .andNot .u32 a 255 = 0)
theorem p_l (a : Int) : b_3.f a = some (if mayB a = true then 0 else 140):=by
 unfold b_3.f mayB
 by_cases c : Go.bits .andNot .u32 a 255 = 0
 ·rw [if_pos c];simp [c]
 rw [if_neg c];simp [c]
def l_D (x : S65) : Bool:=win x.f0 1 16 && win x.f1 1 8 && win x.f2 0 8 && win x.f3 0 3 && win x.f4 (-1) 7 && mayB x.f7 && win x.f8 1 65535 && win x.f9 1 8 && win x.f10 0 800
theorem n_W (x : S65) : Ev (fun k => a_K.f k x.f0 x.f1 x.f2 x.f3 x.f4 x.f5 x.f6 x.f7 x.f8 x.f9 x.f10) (l_D x):=by
 have key : ∀ b : Bool,Ev (fun k => a_K.j0 k b x.f0 x.f1 x.f2 x.f3 x.f4 x.f5 x.f6 x.f7 x.f8 x.f9 x.f10) (b && win x.f4 (-1) 7 && mayB x.f7 && win x.f8 1 65535 && win x.f9 1 8 && win x.f10 0 800):=fun b => by
  refine Ev.step (f:=fun _ => some (b && win x.f4 (-1) 7 && mayB x.f7 && win x.f8 1 65535 && win x.f9 1 8 && win x.f10 0 800)) (fun k => ?_) (Ev.now _)
  rw [a_K.j0]
  simp only [n_1,p_l,Option.bind_some]
  cases b <;> cases win x.f4 (-1) 7 <;> cases mayB x.f7 <;> cases win x.f8 1 65535 <;> cases win x.f9 1 8 <;> simp
 unfold a_K.f
 simp only [n_1,Option.bind_some]
 unfold l_D
 cases h0 : win x.f0 1 16 <;> cases h1 : win x.f1 1 8 <;> cases h2 : win x.f2 0 8 <;> cases h3 : win x.f3 0 3 <;> simp only [if_true,if_false,Bool.false_eq_true] <;> first|exact key true|exact key false
def rOK (l : List S65) (i : Nat) : Bool:=l_D (a_d l (i : Int)) && (i == 0 || decide ((a_d l ((i - 1 : Nat) : Int)).f0 < (a_d l (i : Int)).f0)) && decide (((l.countP (fun s => s.f1 == (a_d l (i : Int)).f1) : Nat) : Int) = (a_d l (i : Int)).f9) && decide (((l.countP (fun s => e_Y s (a_d l (i : Int)).f1 (a_d l (i : Int)).f8 (a_d l (i : Int)).f9 (a_d l (i : Int)).f10) : Nat) : Int) = (a_d l (i : Int)).f9)
def g_R (l : List S65) : Nat → Nat → Bool
 | 0,_ => true
 | n + 1,i => rOK l i && g_R l n (i + 1)
def tmB (a : Int) : Bool:=decide (0 ≤ a) && decide (a ≤ 1125899906842624)
theorem l_t (l : List S65) (hl : l.length ≤ 1000000) (a : Int) : ∀ n i,i + n = l.length → Ev (fun k => a_y.l0 k l (l.length : Int) (i : Int) a l) (g_R l n i && tmB a):=by
 intro n
 induction n with
 | zero =>
  intro i hi
  refine Ev.step (f:=fun _ => some (g_R l 0 i && tmB a)) (fun k => ?_) (Ev.now _)
  rw [a_y.l0,if_neg (by omega)]
  unfold g_R tmB
  by_cases c : a ≥ 0
  ·rw [if_pos c,decide_eq_true (show 0 ≤ a from c)];rfl
  rw [if_neg c,decide_eq_false (show ¬ 0 ≤ a from c)];rfl
 | succ n ih =>
  intro i hi
  have nxt:=ih (i + 1) (by omega)
  have h1 : ((i : Nat) : Int) < (l.length : Int):=by omega
  have h0 : (0 : Int) ≤ ((i : Nat) : Int):=by omega
  have hw:=e_V i (by omega)
  have cs : ∀ (x : S65),a_4.f l x.f0 x.f1 x.f2 x.f3 x.f4 x.f5 x.f6 x.f7 x.f8 x.f9 x.f10 = some ((l.countP (fun s => s.f1 == x.f1) : Nat) : Int):=fun x => by unfold a_4.f;rw [if_pos (by omega)]
  have ca : ∀ (x : S65),a_2.f l x.f0 x.f1 x.f2 x.f3 x.f4 x.f5 x.f6 x.f7 x.f8 x.f9 x.f10 x.f0 x.f1 x.f2 x.f3 x.f4 x.f5 x.f6 x.f7 x.f8 x.f9 x.f10 = some ((l.countP (fun s => e_Y s x.f1 x.f8 x.f9 x.f10) : Nat) : Int):=fun x => by unfold a_2.f;rw [if_pos (by omega)]
  refine Ev.step (fun k => by rw [a_y.l0,if_pos h1,if_pos h0,if_pos h1]) ?_
  refine Ev.bind (n_W _) ?_
  simp only [cs,ca,Option.bind_some,hw]
  unfold g_R rOK
  cases hs : l_D (a_d l (i : Int))
  ·exact Ev.now _
  simp only [if_true,Bool.true_and]
  have tail : Ev (fun k => if ((l.countP (fun s => s.f1 == (a_d l (i : Int)).f1) : Nat) : Int) = (a_d l (i : Int)).f9 then (if ((l.countP (fun s => e_Y s (a_d l (i : Int)).f1 (a_d l (i : Int)).f8 (a_d l (i : Int)).f9 (a_d l (i : Int)).f10) : Nat) : Int) = (a_d l (i : Int)).f9 then a_y.l0 k l (l.length : Int) ((i + 1 : Nat) : Int) a l else some false) else some false)
   (decide (((l.countP (fun s => s.f1 == (a_d l (i : Int)).f1) : Nat) : Int) = (a_d l (i : Int)).f9) && decide (((l.countP (fun s => e_Y s (a_d l (i : Int)).f1 (a_d l (i : Int)).f8 (a_d l (i : Int)).f9 (a_d l (i : Int)).f10) : Nat) : Int) = (a_d l (i : Int)).f9) && (g_R l n (i + 1) && tmB a)):=by
   by_cases c1 : ((l.countP (fun s => s.f1 == (a_d l (i : Int)).f1) : Nat) : Int) = (a_d l (i : Int)).f9
   ·simp only [if_pos c1,decide_eq_true c1,Bool.true_and]
    by_cases c2 : ((l.countP (fun s => e_Y s (a_d l (i : Int)).f1 (a_d l (i : Int)).f8 (a_d l (i : Int)).f9 (a_d l (i : Int)).f10) : Nat) : Int) = (a_d l (i : Int)).f9
    ·simp only [if_pos c2,decide_eq_true c2,Bool.true_and];exact nxt
    ·simp only [if_neg c2,decide_eq_false c2,Bool.false_and];exact Ev.now _
   ·simp only [if_neg c1,decide_eq_false c1,Bool.false_and];exact Ev.now _
  cases i with
  | zero =>
   simp only [show ¬ ((0 : Nat) : Int) > 0 by omega,if_false,BEq.rfl,Bool.true_or,Bool.true_and,Bool.and_assoc] at tail ⊢
   exact tail
  | succ j =>
   have hp:=f_S j (by omega)
   simp only [show ((j + 1 : Nat) : Int) > 0 by omega,if_true,hp,show (0 : Int) ≤ (j : Int) by omega,show (j : Int) < (l.length : Int) by omega,show (j + 1 == 0) = false from rfl,Bool.false_or,Nat.add_sub_cancel]
   by_cases c : (a_d l (j : Int)).f0 < (a_d l ((j + 1 : Nat) : Int)).f0
   ·have c' : ¬ (a_d l (j : Int)).f0 ≥ (a_d l ((j + 1 : Nat) : Int)).f0:=by omega
    simp only [if_neg c',decide_eq_true c,Bool.true_and,Bool.and_assoc] at tail ⊢
    exact tail
   have c' : (a_d l (j : Int)).f0 ≥ (a_d l ((j + 1 : Nat) : Int)).f0:=by omega
   simp only [if_pos c',decide_eq_false c,Bool.false_and]
   exact Ev.now _
def h_W (a : Int) (l : List S65) : Bool:=g_R l l.length 0 && tmB a
theorem l_7 (a : Int) (l : List S65) (hl : l.length ≤ 1000000) : Ev (fun k => a_y.f k a l) (h_W a l):=l_t l hl a l.length 0 (by omega)
def mOK (L : List S27) (en : Int) (i : Nat) : Bool:=h_W (a_p L (i : Int)).f0 (a_p L (i : Int)).f1 && decide ((a_p L (i : Int)).f0 ≤ en) && (i == 0 || decide ((a_p L ((i - 1 : Nat) : Int)).f0 < (a_p L (i : Int)).f0))
def g_u (L : List S27) (en : Int) : Nat → Nat → Bool
 | 0,_ => true
 | n + 1,i => mOK L en i && g_u L en n (i + 1)
def g_z (L : List S27) (en : Int) : Bool:=decide (L.length ≤ 2000) && tmB en && g_u L en L.length 0
def Small (L : List S27) : Prop:=L.length ≤ 1000000 ∧ ∀ i,(a_p L i).f1.length ≤ 1000000
theorem l_g (L : List S27) (hL : Small L) (en : Int) : ∀ n i,i + n = L.length → Ev (fun k => a_t.l0 k L (L.length : Int) (i : Int) L en) (if g_u L en n i = true then 0 else 390):=by
 intro n
 induction n with
 | zero =>
  intro i hi
  refine Ev.step (f:=fun _ => some (if g_u L en 0 i = true then 0 else 390)) (fun k => ?_) (Ev.now _)
  rw [a_t.l0,if_neg (by omega)]
  rfl
 | succ n ih =>
  intro i hi
  have hL1:=hL.1
  have nxt:=ih (i + 1) (by omega)
  have h1 : ((i : Nat) : Int) < (L.length : Int):=by omega
  have h0 : (0 : Int) ≤ ((i : Nat) : Int):=by omega
  have hw:=e_V i (by omega)
  refine Ev.step (fun k => by rw [a_t.l0,if_pos h1,if_pos h0,if_pos h1]) ?_
  refine Ev.bind (l_7 _ _ (hL.2 _)) ?_
  simp only [hw]
  unfold g_u mOK
  cases hs : h_W (a_p L (i : Int)).f0 (a_p L (i : Int)).f1
  ·exact Ev.now _
  simp only [if_true,Bool.true_and]
  by_cases ce : (a_p L (i : Int)).f0 ≤ en
  rotate_left
  ·have ce' : (a_p L (i : Int)).f0 > en:=by omega
   simp only [if_pos ce',decide_eq_false ce,Bool.false_and]
   exact Ev.now _
  have ce' : ¬ (a_p L (i : Int)).f0 > en:=by omega
  simp only [if_neg ce',decide_eq_true ce,Bool.true_and]
  cases i with
  | zero =>
   simp only [show ¬ ((0 : Nat) : Int) > 0 by omega,if_false,BEq.rfl,Bool.true_or,Bool.true_and]
   exact nxt
  | succ j =>
   have hp:=f_S j (by omega)
   simp only [show ((j + 1 : Nat) : Int) > 0 by omega,if_true,hp,show (0 : Int) ≤ (j : Int) by omega,show (j : Int) < (L.length : Int) by omega,show (j + 1 == 0) = false from rfl,Bool.false_or,Nat.add_sub_cancel]
   by_cases c : (a_p L (j : Int)).f0 < (a_p L ((j + 1 : Nat) : Int)).f0
   ·have c' : ¬ (a_p L (j : Int)).f0 ≥ (a_p L ((j + 1 : Nat) : Int)).f0:=by omega
    simp only [if_neg c',decide_eq_true c,Bool.true_and]
    exact nxt
   have c' : (a_p L (j : Int)).f0 ≥ (a_p L ((j + 1 : Nat) : Int)).f0:=by omega
   simp only [if_pos c',decide_eq_false c,Bool.false_and]
   exact Ev.now _
theorem g_O (L : List S27) (hL : Small L) (en : Int) : Ev (fun k => a_t.f k L en) (if g_z L en = true then 0 else 390):=by
 have key : ∀ b : Bool,Ev (fun k => a_t.j0 k b L en) (if (!b && g_u L en L.length 0) = true then 0 else 390):=fun b => by
  cases b
  ·refine Ev.step (fun k => by rw [a_t.j0,if_neg (by decide)]) ?_
   simpa using l_g L hL en L.length 0 (by omega)
  exact Ev.step (f:=fun _ => some 390) (fun k => by rw [a_t.j0,if_pos rfl]) (Ev.now _)
 unfold a_t.f g_z tmB
 by_cases c1 : (L.length : Int) > 2000
 ·have c1' : ¬ L.length ≤ 2000:=by omega
  simp only [if_pos c1,decide_eq_false c1',Bool.false_and];exact key true
 have c1' : L.length ≤ 2000:=by omega
 simp only [if_neg c1,decide_eq_true c1',Bool.true_and]
 by_cases c2 : en < 0
 ·have c2' : ¬ 0 ≤ en:=by omega
  simp only [if_pos c2,decide_eq_false c2',Bool.false_and];exact key true
 have c2' : 0 ≤ en:=by omega
 simp only [if_neg c2,decide_eq_true c2',Bool.true_and]
 by_cases c3 : en ≤ 1125899906842624
 ·have c3' : ¬ en > 1125899906842624:=by omega
  simp only [decide_eq_false c3',decide_eq_true c3,Bool.true_and];exact key false
 have c3' : en > 1125899906842624:=by omega
 simp only [decide_eq_true c3',decide_eq_false c3,Bool.false_and];exact key true
theorem l_z {L : List S27} {en : Int} : ∀ n i,g_u L en n i = true → ∀ j,i ≤ j → j < i + n → mOK L en j = true:=by
 intro n
 induction n with
 | zero => intro i _ j h1 h2;omega
 | succ n ih =>
  intro i h j h1 h2
  unfold g_u at h
  rw [Bool.and_eq_true] at h
  rcases Nat.lt_or_ge i j with h3|h3
  ·exact ih (i + 1) h.2 j h3 (by omega)
  obtain rfl : i = j:=by omega
  exact h.1
def i_k (L : List S27) : Nat → Nat → Bool
 | 0,_ => false
 | n + 1,i => decide (30 < (a_p L (i : Int)).f1.length) || i_k L n (i + 1)
def g_S (L : List S27) : Bool:=decide (120 < L.length) || i_k L L.length 0
theorem m_i (L : List S27) (hL : L.length ≤ 120) : ∀ n i,i + n = L.length → Ev (fun k => a_A.l0 k L (L.length : Int) (i : Int)) (i_k L n i):=by
 intro n
 induction n with
 | zero =>
  intro i hi
  exact Ev.step (f:=fun _ => some false) (fun k => by rw [a_A.l0,if_neg (by omega)]) (Ev.now _)
 | succ n ih =>
  intro i hi
  have nxt:=ih (i + 1) (by omega)
  have h1 : ((i : Nat) : Int) < (L.length : Int):=by omega
  have h0 : (0 : Int) ≤ ((i : Nat) : Int):=by omega
  have hw:=e_V i (by omega)
  refine Ev.step (fun k => by rw [a_A.l0,if_pos h1,if_pos h0,if_pos h1,hw]) ?_
  unfold i_k
  by_cases c : 30 < (a_p L (i : Int)).f1.length
  ·have c' : ((a_p L (i : Int)).f1.length : Int) > 30:=by omega
   simp only [if_pos c',decide_eq_true c,Bool.true_or];exact Ev.now _
  have c' : ¬ ((a_p L (i : Int)).f1.length : Int) > 30:=by omega
  simp only [if_neg c',decide_eq_false c,Bool.false_or];exact nxt
theorem o_c (L : List S27) (en : Int) : Ev (fun k => a_A.f k L en) (g_S L):=by
 unfold a_A.f g_S
 by_cases c : 120 < L.length
 ·have c' : (L.length : Int) > 120:=by omega
  simp only [if_pos c',decide_eq_true c,Bool.true_or];exact Ev.now _
 have c' : ¬ (L.length : Int) > 120:=by omega
 simp only [if_neg c',decide_eq_false c,Bool.false_or];exact m_i L (by omega) L.length 0 (by omega)
theorem l_w {L : List S27} : ∀ n i,i_k L n i = false → ∀ j : Nat,i ≤ j → j < i + n → (a_p L (j : Int)).f1.length ≤ 30:=by
 intro n
 induction n with
 | zero => intro i _ j h1 h2;omega
 | succ n ih =>
  intro i h j h1 h2
  unfold i_k at h
  rw [Bool.or_eq_false_iff] at h
  rcases Nat.lt_or_ge i j with h3|h3
  ·exact ih (i + 1) h.2 j h3 (by omega)
  obtain rfl : i = j:=by omega
  have:=of_decide_eq_false h.1
  omega
theorem f_T {L : List S27} (h : g_S L = false) : L.length ≤ 120 ∧ ∀ i : Int,(a_p L i).f1.length ≤ 30:=by
 unfold g_S at h
 rw [Bool.or_eq_false_iff] at h
 refine ⟨by have:=of_decide_eq_false h.1;omega,fun i => ?_⟩
 have e : a_p L i = a_p L ((i.toNat : Nat) : Int):=by unfold a_p;rw [Int.toNat_natCast]
 rw [e]
 by_cases hi : i.toNat < L.length
 ·exact l_w _ _ h.2 _ (by omega) (by omega)
 unfold a_p
 simp only [Int.toNat_natCast]
 rw [List.getD_eq_getElem?_getD,List.getElem?_eq_none (by omega)]
 simp [z27]
theorem l_G {L : List S27} (h : g_S L = false) : Small L:=⟨by have:=(f_T h).1;omega,fun i => by have:=(f_T h).2 i;omega⟩
end Go.Proofs.Ytgglkfilkagblaa.Pure
end
section
namespace Go.Proofs.Ytgglkfilkagblaa.Pure
open Go.RowKit Go.Proofs.Ytgglkfilkagblaa.Q Go.Proofs.YtgglkfilkagblaaW.PrintWords Go.Proofs.YtgglkfilkagblaaW.PrintLast Go.Proofs.YtgglkfilkagblaaW.PrintMore
set_option linter.unusedVariables false
set_option linter.unusedSimpArgs false
def at_ (L : List S27) (j : Nat) : Int:=(a_p L (j : Int)).f0
structure d_q (L : List S27) (en : Int) : Prop where
 n : L.length ≤ 120
 each : ∀ i : Int,(a_p L i).f1.length ≤ 30
 en0 : 0 ≤ en
 en1 : en ≤ 1125899906842624
 lo : ∀ j,j < L.length → 0 ≤ at_ L j
 hi : ∀ j,j < L.length → at_ L j ≤ en
 up : ∀ j,j + 1 < L.length → at_ L j < at_ L (j + 1)
theorem l_j {L : List S27} {en : Int} (h : g_S L = false) (hg : g_z L en = true) : d_q L en:=by
 obtain ⟨h1,h2⟩:=f_T h
 unfold g_z tmB at hg
 simp only [Bool.and_eq_true,decide_eq_true_eq] at hg
 obtain ⟨⟨h3,h4,h5⟩,h6⟩:=hg
 have k : ∀ j,j < L.length → mOK L en j = true:=fun j hj => l_z _ _ h6 j (Nat.zero_le _) (by omega)
 refine ⟨h1,h2,h4,h5,fun j hj => ?_,fun j hj => ?_,fun j hj => ?_⟩
 ·have:=k j hj
  unfold mOK h_W tmB at this
  simp only [Bool.and_eq_true,decide_eq_true_eq] at this
  exact this.1.1.2.1
 ·have:=k j hj
  unfold mOK at this
  simp only [Bool.and_eq_true,decide_eq_true_eq] at this
  exact this.1.2
 have:=k (j + 1) hj
 unfold mOK at this
 simp only [Bool.and_eq_true,decide_eq_true_eq,Nat.add_sub_cancel,show (j + 1 == 0) = false from rfl,Bool.false_or] at this
 exact this.2
variable {L : List S27} {en : Int}
theorem d_q.lt (h : d_q L en) : ∀ d i,i + d + 1 < L.length → at_ L i < at_ L (i + d + 1):=by
 intro d
 induction d with
 | zero => intro i hi;exact h.up i hi
 | succ d ih =>
  intro i hi
  have h1:=ih i (by omega)
  have h2:=h.up (i + d + 1) (by omega)
  have : i + (d + 1) + 1 = i + d + 1 + 1:=by omega
  rw [this];omega
theorem d_q.mono (h : d_q L en) {i j : Nat} (hij : i < j) (hj : j < L.length) : at_ L i < at_ L j:=by
 have:=h.lt (j - i - 1) i (by omega)
 rwa [show i + (j - i - 1) + 1 = j by omega] at this
def to_ (L : List S27) (en : Int) (j : Nat) : Int:=b_4 L en j
theorem f_P {j : Nat} (hj : j + 1 < L.length) : to_ L en j = at_ L (j + 1):=by unfold to_ b_4 at_;rw [if_pos hj]
theorem i_U {j : Nat} (hj : ¬ j + 1 < L.length) : to_ L en j = en:=by unfold to_ b_4;rw [if_neg hj]
theorem d_q.le (h : d_q L en) {j : Nat} (hj : j < L.length) : at_ L j ≤ to_ L en j:=by
 by_cases c : j + 1 < L.length
 ·rw [f_P c];exact Int.le_of_lt (h.up j c)
 rw [i_U c];exact h.hi j hj
theorem d_q.before (h : d_q L en) {i j : Nat} (hij : i < j) (hj : j < L.length) : to_ L en i ≤ at_ L j:=by
 rw [f_P (by omega)]
 rcases Nat.lt_or_ge (i + 1) j with c|c
 ·exact Int.le_of_lt (h.mono c hj)
 rw [show i + 1 = j by omega];exact Int.le_refl _
theorem d_q.l_o (h : d_q L en) {j : Nat} (hj : j < L.length) : to_ L en j ≤ en:=by
 by_cases c : j + 1 < L.length
 ·rw [f_P c];exact h.hi _ c
 rw [i_U c];exact Int.le_refl _
def onB (L : List S27) (v : Int) (j : Nat) : Bool:=(a_O (a_p L (j : Int)).f1 v).2 && decide (-1 < (a_O (a_p L (j : Int)).f1 v).1.f4)
def seg (L : List S27) (en v a b : Int) (j : Nat) : Int:=if onB L v j = true then mx (mn (to_ L en j) b - mx (at_ L j) a) 0 else 0
def ran (L : List S27) (en v a b : Int) : Nat → Int
 | 0 => 0
 | n + 1 => ran L en v a b n + seg L en v a b n
theorem l_0 (h : d_q L en) (v a b : Int) {j : Nat} (hj : j < L.length) (ha : 0 ≤ a) (hb : b ≤ 1125899906842624) : 0 ≤ seg L en v a b j ∧ seg L en v a b j ≤ 1125899906842624:=by
 have h1:=h.lo j hj
 have h2:=h.l_o hj
 have h3:=h.en1
 unfold seg
 split
 ·unfold mx mn;split <;> split <;> split <;> omega
 omega
theorem l_P (h : d_q L en) (v a b : Int) (ha : 0 ≤ a) (hb : b ≤ 1125899906842624) : ∀ n,n ≤ L.length → 0 ≤ ran L en v a b n ∧ ran L en v a b n ≤ (n : Int) * 1125899906842624:=by
 intro n
 induction n with
 | zero => intro _;simp [ran]
 | succ n ih =>
  intro hn
  have h1:=ih (by omega)
  have h2:=l_0 h v a b (j:=n) (by omega) ha hb
  unfold ran
  push_cast
  omega
theorem m_g (h : d_q L en) (v a b : Int) (ha : 0 ≤ a) (hb : b ≤ 1125899906842624) (hab : a ≤ b) {n : Nat} (hn : n < L.length) : ranB L en v a b (ran L en v a b n) n = ran L en v a b (n + 1):=by
 have h1:=l_P h v a b ha hb n (by omega)
 have h2:=l_0 h v a b hn ha hb
 have h3:=h.lo n hn
 have h4:=h.l_o hn
 have h5:=h.en1
 have h6:=h.le hn
 have h7:=h.hi n hn
 have hL:=h.n
 show _ = ran L en v a b n + seg L en v a b n
 unfold ranB seg onB at *
 by_cases c : (a_O (a_p L (n : Int)).f1 v).2 = true ∧ -1 < (a_O (a_p L (n : Int)).f1 v).1.f4
 ·rw [if_pos c]
  have c' : ((a_O (a_p L (n : Int)).f1 v).2 && decide (-1 < (a_O (a_p L (n : Int)).f1 v).1.f4)) = true:=by rw [c.1,decide_eq_true c.2];rfl
  rw [if_pos c'] at h2 ⊢
  show wrap64 (_ + mx (wrap64 (mn (to_ L en n) b - mx (at_ L n) a)) 0) = _
  rw [i_t (mn (to_ L en n) b - mx (at_ L n) a) (by unfold mx mn;split <;> split <;> omega) (by unfold mx mn;split <;> split <;> omega)]
  exact i_t _ (by omega) (by omega)
 rw [if_neg c]
 have c' : ¬ ((a_O (a_p L (n : Int)).f1 v).2 && decide (-1 < (a_O (a_p L (n : Int)).f1 v).1.f4)) = true:=fun h => by
  rw [Bool.and_eq_true,decide_eq_true_eq] at h
  exact c h
 rw [if_neg c',Int.add_zero]
theorem l_v (h : d_q L en) (v a b : Int) (ha : 0 ≤ a) (hb : b ≤ 1125899906842624) (hab : a ≤ b) : ∀ n,n ≤ L.length → (List.range n).foldl (ranB L en v a b) 0 = ran L en v a b n:=by
 intro n
 induction n with
 | zero => intro _;rfl
 | succ n ih =>
  intro hn
  rw [List.range_succ,List.foldl_append,ih (by omega)]
  exact m_g h v a b ha hb hab (by omega)
theorem l_S {x : S27} (hx : x ∈ L) : ∃ i : Int,a_p L i = x:=by
 obtain ⟨i,hi,e⟩:=List.mem_iff_getElem.1 hx
 refine ⟨(i : Int),?_⟩
 unfold a_p
 rw [Int.toNat_natCast,List.getD_eq_getElem?_getD,List.getElem?_eq_getElem hi,Option.getD_some,e]
theorem d_q.small (h : d_q L en) : Small L:=⟨by have:=h.n;omega,fun i => by have:=h.each i;omega⟩
theorem l_E (h : d_q L en) (hg : g_z L en = true) (v a b : Int) (ha : 0 ≤ a) (hb : b ≤ 1125899906842624) (hab : a ≤ b) : Ev (fun k => a_H.f k L en v a b) (ran L en v a b L.length,0):=by
 unfold a_H.f
 refine Ev.bind (g_O L h.small en) ?_
 simp only [hg,if_true]
 rw [if_neg (by omega),if_neg (by omega),if_neg (by omega),if_pos ⟨by have:=h.n;omega,fun m hm => by obtain ⟨i,rfl⟩:=l_S hm;have:=h.each i;omega⟩,l_v h v a b ha hb hab _ (Nat.le_refl _)]
 exact Ev.now _
theorem i_Q (h : d_q L en) (v c : Int) (h0 : 0 ≤ c) (h1 : c ≤ 1125899906842624) {j : Nat} (hj : j < L.length) : seg L en v 0 c j + seg L en v c 1125899906842624 j = seg L en v 0 1125899906842624 j:=by
 have h3:=h.lo j hj
 have h4:=h.l_o hj
 have h5:=h.en1
 have h6:=h.le hj
 unfold seg
 split
 ·unfold mx mn;(repeat' split) <;> omega
 rfl
theorem i_s (h : d_q L en) (v c : Int) (h0 : 0 ≤ c) (h1 : c ≤ 1125899906842624) : ∀ n,n ≤ L.length → ran L en v 0 c n + ran L en v c 1125899906842624 n = ran L en v 0 1125899906842624 n:=by
 intro n
 induction n with
 | zero => intro _;rfl
 | succ n ih =>
  intro hn
  have e1:=ih (by omega)
  have e2:=i_Q h v c h0 h1 (j:=n) (by omega)
  unfold ran
  omega
theorem l_l (v a b : Int) : ∀ n,(∀ j,j < n → seg L en v a b j = 0) → ran L en v a b n = 0:=by
 intro n
 induction n with
 | zero => intro _;rfl
 | succ n ih =>
  intro hz
  unfold ran
  rw [ih (fun j hj => hz j (by omega)),hz n (by omega)]
  rfl
end Go.Proofs.Ytgglkfilkagblaa.Pure
end
section
namespace Go.Proofs.Ytgglkfilkagblaa.Pure
open Go.RowKit Go.Proofs.Ytgglkfilkagblaa.Q Go.Proofs.YtgglkfilkagblaaW.PrintWords Go.Proofs.YtgglkfilkagblaaW.PrintLast Go.Proofs.YtgglkfilkagblaaW.PrintMore
set_option linter.unusedVariables false
set_option linter.unusedSimpArgs false
variable {L : List S27} {en : Int}
def gs (acc : List S46) (t : Nat) : S46:=acc.getD t z46
def wtB (L : List S27) (en v : Int) (j : Nat) : Prop:=(a_O (a_p L (j : Int)).f1 v).2 = true ∧ e_4 (a_O (a_p L (j : Int)).f1 v).1 = true ∧ (a_p L (j : Int)).f0 ≠ b_4 L en j
theorem o_d {v : Int} {j : Nat} (h : wtB L en v j) : onB L v j = false:=by
 have h2:=h.2.1
 unfold e_4 at h2
 simp only [Bool.and_eq_true,beq_iff_eq] at h2
 unfold onB
 rw [h2.2]
 simp
structure m_m (L : List S27) (en v : Int) (s : S46) (i k : Nat) : Prop where
 ik : i < k
 f : s.f0 = at_ L i
 t : s.f1 = to_ L en (k - 1)
 ft : s.f0 < s.f1
 off : ∀ j,i ≤ j → j < k → onB L v j = false
structure WInv (L : List S27) (en v : Int) (n : Nat) (acc : List S46) : Prop where
 each : ∀ t,t < acc.length → ∃ i k,k ≤ n ∧ m_m L en v (gs acc t) i k
 apart : ∀ t,t + 1 < acc.length → (gs acc t).f1 < (gs acc (t + 1)).f0
theorem e_2 {acc : List S46} {s : S46} {t : Nat} (h : t < acc.length) : gs (acc ++ [s]) t = gs acc t:=by
 unfold gs;rw [List.getD_eq_getElem?_getD,List.getElem?_append_left h, ← List.getD_eq_getElem?_getD]
theorem f_J {acc : List S46} {s : S46} : gs (acc ++ [s]) acc.length = s:=by
 unfold gs;rw [List.getD_eq_getElem?_getD,List.getElem?_append_right (Nat.le_refl _)];simp
theorem e_6 {acc : List S46} {s : S46} {m t : Nat} (h : m ≠ t) : gs (acc.set m s) t = gs acc t:=by
 unfold gs;rw [List.getD_eq_getElem?_getD,List.getElem?_set_ne h, ← List.getD_eq_getElem?_getD]
theorem g_s {acc : List S46} {s : S46} {m : Nat} (h : m < acc.length) : gs (acc.set m s) m = s:=by
 unfold gs;rw [List.getD_eq_getElem?_getD,List.getElem?_set_self h];rfl
theorem i_S (h : d_q L en) (v : Int) {n : Nat} (hn : n < L.length) {acc : List S46} (hi : WInv L en v n acc) : WInv L en v (n + 1) (c_9 L en v acc n):=by
 have same : WInv L en v (n + 1) acc:=⟨fun t ht => by obtain ⟨i,k,h1,h2⟩:=hi.each t ht;exact ⟨i,k,by omega,h2⟩,hi.apart⟩
 unfold c_9
 by_cases c : (a_O (a_p L (n : Int)).f1 v).2 = true ∧ e_4 (a_O (a_p L (n : Int)).f1 v).1 = true ∧ (a_p L (n : Int)).f0 ≠ b_4 L en n
 rotate_left
 ·rw [if_neg c];exact same
 rw [if_pos c]
 have off : onB L v n = false:=o_d c
 have lt : at_ L n < to_ L en n:=by
  have h1:=h.le hn
  have h2 : at_ L n ≠ to_ L en n:=c.2.2
  omega
 by_cases c2 : 0 < acc.length ∧ (acc.getD (acc.length - 1) z46).f1 = (a_p L (n : Int)).f0
 rotate_left
 ·rw [if_neg c2]
  refine ⟨fun t ht => ?_,fun t ht => ?_⟩
  ·rw [List.length_append,List.length_singleton] at ht
   rcases Nat.lt_or_ge t acc.length with h1|h1
   ·rw [e_2 h1]
    obtain ⟨i,k,h2,h3⟩:=hi.each t h1
    exact ⟨i,k,by omega,h3⟩
   obtain rfl : t = acc.length:=by omega
   rw [f_J]
   exact ⟨n,n + 1,Nat.le_refl _,⟨by omega,rfl,rfl,lt,fun j h2 h3 => by rw [show j = n by omega];exact off⟩⟩
  rw [List.length_append,List.length_singleton] at ht
  rw [e_2 (by omega)]
  rcases Nat.lt_or_ge (t + 1) acc.length with h1|h1
  ·rw [e_2 h1];exact hi.apart t h1
  have et : t + 1 = acc.length:=by omega
  rw [et,f_J]
  obtain ⟨i,k,hk,hs⟩:=hi.each t (by omega)
  have hik:=hs.ik
  have h2 : (gs acc t).f1 ≠ at_ L n:=fun e => c2 ⟨by omega,by rw [show acc.length - 1 = t by omega];exact e⟩
  have h3 : to_ L en (k - 1) ≤ at_ L n:=h.before (by omega) hn
  have h4:=hs.t
  show (gs acc t).f1 < at_ L n
  omega
 rw [if_pos c2]
 obtain ⟨i,k,hk,hs⟩:=hi.each (acc.length - 1) (by omega)
 have e : to_ L en (k - 1) = at_ L n:=hs.t.symm.trans c2.2
 have hkn : k = n:=by
  rcases Nat.lt_or_ge k n with hlt|hge
  ·have:=h.mono hlt hn
   have hik:=hs.ik
   rw [f_P (by omega),show k - 1 + 1 = k by omega] at e
   omega
  omega
 subst hkn
 have hik:=hs.ik
 have hf : (gs acc (acc.length - 1)).f0 = at_ L i:=hs.f
 refine ⟨fun t ht => ?_,fun t ht => ?_⟩
 ·rw [List.length_set] at ht
  by_cases ct : t = acc.length - 1
  rotate_left
  ·rw [e_6 (by omega)]
   obtain ⟨i,k',h1,h2⟩:=hi.each t ht
   exact ⟨i,k',by omega,h2⟩
  subst ct
  rw [g_s (by omega)]
  refine ⟨i,k + 1,Nat.le_refl _,⟨by omega,hs.f,rfl,?_,fun j h1 h2 => ?_⟩⟩
  ·show (gs acc (acc.length - 1)).f0 < to_ L en k
   rw [hf]
   have:=h.mono hik hn
   omega
  rcases Nat.lt_or_ge j k with h3|h3
  ·exact hs.off j h1 h3
  rw [show j = k by omega];exact off
 rw [List.length_set] at ht
 rw [e_6 (by omega)]
 have ha:=hi.apart t ht
 by_cases ct : t + 1 = acc.length - 1
 ·rw [ct,g_s (by omega)]
  rw [ct] at ha
  exact ha
 rw [e_6 (by omega)];exact ha
def stays (L : List S27) (en v : Int) (n : Nat) : List S46:=(List.range n).foldl (c_9 L en v) []
theorem winv (h : d_q L en) (v : Int) : ∀ n,n ≤ L.length → WInv L en v n (stays L en v n):=by
 intro n
 induction n with
 | zero => intro _;exact ⟨fun t ht => absurd ht (Nat.not_lt_zero _),fun t ht => absurd ht (Nat.not_lt_zero _)⟩
 | succ n ih =>
  intro hn
  unfold stays
  rw [List.range_succ,List.foldl_append]
  exact i_S h v (by omega) (ih (by omega))
theorem i_E (v : Int) (n : Nat) : (stays L en v n).length ≤ n:=by
 have:=g_C L en v (List.range n) []
 simpa [stays] using this
theorem m_f (h : d_q L en) (hg : g_z L en = true) (v : Int) : Ev (fun k => a_W.f k L en v) (stays L en v L.length,0):=by
 unfold a_W.f
 refine Ev.bind (g_O L h.small en) ?_
 simp only [hg,if_true]
 rw [if_pos ⟨by have:=h.n;omega,fun m hm => by obtain ⟨i,rfl⟩:=l_S hm;have:=h.each i;omega⟩]
 exact Ev.now _
theorem i_x (h : d_q L en) {v : Int} {s : S46} {i k : Nat} (hk : k ≤ L.length) (hs : m_m L en v s i k) : ran L en v s.f0 s.f1 L.length = 0:=by
 have hik:=hs.ik
 refine l_l _ _ _ _ fun j hj => ?_
 unfold seg
 split
 ·rename_i hon
  have h6:=h.le hj
  have hft:=hs.ft
  rcases Nat.lt_or_ge j i with c|c
  ·have h1 : to_ L en j ≤ s.f0:=by rw [hs.f];exact h.before c (by omega)
   unfold mx mn;(repeat' split) <;> omega
  rcases Nat.lt_or_ge j k with c2|c2
  ·rw [hs.off j c c2] at hon;cases hon
  have h1 : s.f1 ≤ at_ L j:=by rw [hs.t];exact h.before (by omega) hj
  unfold mx mn;(repeat' split) <;> omega
 rfl
theorem m_e (h : d_q L en) {v : Int} {s : S46} {i k : Nat} (hk : k ≤ L.length) (hs : m_m L en v s i k) : 0 ≤ s.f0 ∧ s.f1 ≤ 1125899906842624 ∧ s.f0 < s.f1:=by
 have hik:=hs.ik
 have h1:=h.lo i (by omega)
 have h2:=h.l_o (j:=k - 1) (by omega)
 have h3:=h.en1
 have h4:=hs.f
 have h5:=hs.t
 exact ⟨by omega,by omega,hs.ft⟩
end Go.Proofs.Ytgglkfilkagblaa.Pure
end
section
namespace Go.Proofs.Ytgglkfilkagblaa.Pure
open Go.RowKit Go.Proofs.Ytgglkfilkagblaa.Q Go.Proofs.YtgglkfilkagblaaW.PrintWords Go.Proofs.YtgglkfilkagblaaW.PrintLast Go.Proofs.YtgglkfilkagblaaW.PrintMore
set_option linter.unusedVariables false
set_option linter.unusedSimpArgs false
theorem m_q : Ev (fun k => a_F.f k) true:=Ev.of (k:=40) (fun k => a_F.mono k) (by kernel_rfl)
variable {L : List S27} {en : Int}
theorem l_8 (h : d_q L en) (hg : g_z L en = true) (v : Int) : ∀ d t,t + d = (stays L en v L.length).length → Ev (fun k => a_k.l0 k v (stays L en v L.length) (stays L en v L.length) ((stays L en v L.length).length : Int) (t : Int) L en) true:=by
 have hw:=winv h v L.length (Nat.le_refl _)
 have hl : (stays L en v L.length).length ≤ 120:=Nat.le_trans (i_E v _) h.n
 intro d
 induction d with
 | zero =>
  intro t ht
  exact Ev.step (f:=fun _ => some true) (fun k => by rw [a_k.l0,if_neg (by omega)]) (Ev.now _)
 | succ d ih =>
  intro t ht
  have nxt:=ih (t + 1) (by omega)
  have h1 : (t : Int) < ((stays L en v L.length).length : Int):=by omega
  have h0 : (0 : Int) ≤ (t : Int):=by omega
  have e : ∀ j : Nat,a_z (stays L en v L.length) (j : Int) = gs (stays L en v L.length) j:=fun j => by unfold a_z gs;rw [Int.toNat_natCast]
  obtain ⟨i,k,hk,hs⟩:=hw.each t (by omega)
  obtain ⟨i0,i1,i2⟩:=m_e h hk hs
  refine Ev.step (fun k => by rw [a_k.l0,if_pos h1,if_pos h0,if_pos h1,e t]) ?_
  refine Ev.bind (l_E h hg v _ _ i0 i1 (Int.le_of_lt i2)) ?_
  simp only [i_x h hk hs,if_true,if_neg (show ¬ (gs (stays L en v L.length) t).f0 ≥ (gs (stays L en v L.length) t).f1 by omega),e_V t (by omega)]
  cases t with
  | zero =>
   simp only [show ¬ ((0 : Nat) : Int) > 0 by omega,if_false]
   exact nxt
  | succ j =>
   have ha:=hw.apart j (by omega)
   simp only [show ((j + 1 : Nat) : Int) > 0 by omega,if_true,f_S j (by omega),show (0 : Int) ≤ (j : Int) by omega,show (j : Int) < ((stays L en v L.length).length : Int) by omega,e j,if_neg (show ¬ (gs (stays L en v L.length) j).f1 ≥ (gs (stays L en v L.length) (j + 1)).f0 by omega)]
   exact nxt
theorem i_O (L : List S27) (en v now : Int) {A B C : Prop} (_ : A) (_ : B) (_ : C) : ∃ k,a_k.f k L en v now = some true:=by
 refine Ev.rounds ?_
 unfold a_k.f
 refine Ev.bind m_q ?_
 simp only [if_true]
 refine Ev.bind (o_c L en) ?_
 have yes : Ev (fun k => a_k.j0 k v now true L en) true:=Ev.step (f:=fun _ => some true) (fun k => by rw [a_k.j0,if_pos rfl]) (Ev.now _)
 cases ho : g_S L with
 | true => simp only [if_true];exact yes
 | false =>
  simp only [Bool.false_eq_true,if_false]
  refine Ev.bind (g_O L (l_G ho) en) ?_
  cases hg : g_z L en with
  | false => exact yes
  | true =>
   have h:=l_j ho hg
   have c0 : 0 ≤ mx (mn now 1125899906842624) 0:=by unfold mx mn;(repeat' split) <;> omega
   have c1 : mx (mn now 1125899906842624) 0 ≤ 1125899906842624:=by unfold mx mn;(repeat' split) <;> omega
   have b1:=l_P h v 0 1125899906842624 (by omega) (by omega) L.length (Nat.le_refl _)
   have hL:=h.n
   refine Ev.step (fun k => by rw [if_pos rfl,a_k.j0,if_neg (by decide)]) ?_
   refine Ev.bind (l_E h hg v 0 1125899906842624 (by omega) (by omega) (by omega)) ?_
   refine Ev.bind (l_E h hg v 0 _ (by omega) c1 c0) ?_
   refine Ev.bind (l_E h hg v _ 1125899906842624 c0 (by omega) c1) ?_
   simp only [if_true,i_s h v _ c0 c1 L.length (Nat.le_refl _),i_t _ (show -9223372036854775808 ≤ ran L en v 0 1125899906842624 L.length by omega) (by omega),bne_self_eq_false]
   refine Ev.step (fun k => by rw [a_k.j1,if_neg (by decide)]) ?_
   refine Ev.bind (m_f h hg v) ?_
   simp only [if_true]
   exact l_8 h hg v (stays L en v L.length).length 0 (by omega)
end Go.Proofs.Ytgglkfilkagblaa.Pure
end
section
namespace Go.Proofs.Ytgglkfilkagblaa.auditSums
open Go.ChangeShapes Go.WideShapes Go.ChangeAt Go.RowKit Go.Proofs.Ytgglkfilkagblaa.Q
open Go.Proofs.YtgglkfilkagblaaW.PrintWords Go.Proofs.YtgglkfilkagblaaW.PrintLast Go.Proofs.YtgglkfilkagblaaW.PrintMore
set_option linter.unusedVariables false
set_option linter.unusedSimpArgs false
set_option maxRecDepth 100000 in
theorem lifted (os : Os) (started : os.Started) (H : Type) (enc : TypeId × Value → H) :
 ReturnsInHanded {} Try.checked os 5 .any (Rows.auditSumsSpec.pre6 enc Try.prog Try.f5 Rows.auditSumsRow.domain false) (Rows.auditSumsSpec.post enc Try.prog Try.f5 false true false false):=by
 refine returnsInHanded_of_change_sized (C:=Try.checked) own started (by kernel_rfl) Try.func5
  (ChangeSpec.witness6 (enc:=enc) (C:=Try.checked) false ⟨#[],#[.agg #[.slice none 0 0,.int .i64 0],.int .i64 0,.int .i64 0],[]⟩ 8 (by kernel_rfl) (by kernel_rfl) (by kernel_rfl) (by kernel_rfl)) ?_
 intro W base args ds gs before hval0 hW hcnd hsz0 _
 have hval : ∀ (j : Nat) t v,Try.f5.params[j]? = some t → args[j]? = some v → Value.okWide Try.prog W .any base t v:=hval0
 have hW':=hW
 obtain ⟨p,q,hA0,hV,rfl,hfz,hnd⟩:=hW
 have hA : DataW.TrodAll enc Try.prog W 0 (fun _ => true) true Try.f5.params.toList args.toList ds p:=hA0
 rw [Try.params5] at hA hval
 obtain ⟨v0,vs0,d0,ds0,p0,q0,hargs,rfl,rfl,h0,r0⟩:=trodAll_cons hA
 obtain ⟨v1,vs1,d1,ds1,p1,q1,rfl,rfl,rfl,h1,r1⟩:=trodAll_cons r0
 obtain ⟨v2,vs2,d2,ds2,p2,q2,rfl,rfl,rfl,h2,r2⟩:=trodAll_cons r1
 obtain ⟨rfl,rfl,rfl⟩:=trodAll_nil r2
 obtain rfl : args = #[v0,v1,v2]:=by cases args;simp_all
 obtain ⟨rfl,rfl⟩:=trodVars_none hV
 have k0:=h0
 have lt0 : ∀ x ∈ p0,x.block < W.heap.size:=by obtain ⟨m,hm⟩:=k0;exact DataW.trod_lt m _ _ _ hm
 obtain ⟨cs0,rfl,hz0⟩:=okWide_struct Try.underlying24 (hval 0 24 v0 rfl rfl)
 obtain ⟨fuel0,hf0⟩:=h0
 obtain ⟨x0,hK0,wf0_⟩:=op24.open_ hf0
 obtain ⟨A0_0,c0_0,he0,hc0_0,hr0_0⟩:=l_h hK0
 have hq0:=toList_eq he0
 simp only [Value.cells] at hq0
 subst hq0
 obtain ⟨a1,rfl,rfl,rfl,w1⟩:=open_int Try.underlying3 (hval 1 3 v1 rfl rfl) h1
 obtain ⟨a2,rfl,rfl,rfl,w2⟩:=open_int Try.underlying2 (hval 2 2 v2 rfl rfl) h2
 obtain ⟨K,hK⟩:=Pure.i_O x0.f0 x0.f1 a1 a2 wf0_ w1 w2
 refine (a_k.calls _ _ _ _ _ _ _ _ _ hr0_0 hc0_0 hK).mono fun e W' ⟨he,bel⟩ => ?_
 subst he
 exact ⟨_,rfl,_,_,_,[],_,[],hW',trodAll_mk1 (shut_bool Try.underlying4 _),(trodAll_cons_mk (Below.trod laidOut (by kernel_rfl) (of_decide_eq_true (by kernel_rfl)) k0 bel lt0) (trodAll_cons_mk (shut_int Try.underlying3 w1) (trodAll_cons_mk (shut_int Try.underlying2 w2) trodAll_mk0))),rfl,bel.frame _,fun h => by cases h⟩
theorem over : Rows.auditSumsRow.holds Try.pinned (OpenSpec.ofChange Rows.auditSumsSpec) :=
 OpenClaim.holds_of_wide 5 Try.f5 rfl rfl rfl rfl rfl rfl rfl ⟨rfl,rfl,rfl,rfl,rfl⟩ rfl rfl rfl rfl rfl (by kernel_rfl) Try.func5 (by kernel_rfl)
  (of_decide_eq_true (by kernel_rfl)) (by unfold Func.isWrapper;first|(rw [if_pos (by decide +kernel)];kernel_rfl)|(rw [if_neg (by decide +kernel)];exact ⟨rfl,rfl⟩))
  (fun os started H enc _ => lifted os started H enc)
theorem proved : Rows.AuditSumsSaid:=over
#print axioms proved
end Go.Proofs.Ytgglkfilkagblaa.auditSums
namespace Go.Proofs.Ytgglkfilkagblaa
theorem auditSums_holds : Rows.AuditSumsSaid:=auditSums.proved
end Go.Proofs.Ytgglkfilkagblaa
end
