/- Part 14 of 14 of what the row of AuditAdds stands on: contracts over the given program's functions, the plain law, the row; no condition beyond those that each theorem states. -/
import Derived.Test.YtgglkfilkagblaaXAuditAdds12
section
namespace Go.Proofs.Ytgglkfilkagblaa.Pure
open Go.RowKit Go.Proofs.Ytgglkfilkagblaa.Q Go.Proofs.YtgglkfilkagblaaW.PrintWords Go.Proofs.YtgglkfilkagblaaW.PrintLast Go.Proofs.YtgglkfilkagblaaW.PrintMore
set_option linter.unusedVariables false
set_option linter.unusedSimpArgs false
theorem e_z (n : Nat) (h : n < 9223372036854775807) : wrap64 ((n : Int) + 1) = ((n + 1 : Nat) : Int):=by unfold wrap64;omega
theorem h_F (n : Nat) (h : n < 9223372036854775807) : wrap64 (((n + 1 : Nat) : Int) - 1) = (n : Int):=by unfold wrap64;omega
def win (a l h : Int) : Bool:=decide (l ≤ a) && decide (a ≤ h)
theorem v_6 (a l h : Int) : a_I.f a l h = some (win a l h):=by
 unfold a_I.f win
 by_cases c : a ≥ l
 ·rw [if_pos c,decide_eq_true (show l ≤ a from c)];rfl
 rw [if_neg c,decide_eq_false (show ¬ l ≤ a from c)];rfl
def mayB (a : Int) : Bool:=decide (Go.bits .andNot .u32 a 255 = 0)
theorem A_f (a : Int) : c_O.f a = some (if mayB a = true then 0 else 140):=by
 unfold c_O.f mayB
 by_cases c : Go.bits .andNot .u32 a 255 = 0
 ·rw [if_pos c];simp [c]
 rw [if_neg c];simp [c]
def l_Y (x : S65) : Bool:=win x.f0 1 16 && win x.f1 1 8 && win x.f2 0 8 && win x.f3 0 3 && win x.f4 (-1) 7 && mayB x.f7 && win x.f8 1 65535 && win x.f9 1 8 && win x.f10 0 800
theorem v_r (x : S65) : Ev (fun k => a_1.f k x.f0 x.f1 x.f2 x.f3 x.f4 x.f5 x.f6 x.f7 x.f8 x.f9 x.f10) (l_Y x):=by
 have key : ∀ b : Bool,Ev (fun k => a_1.j0 k b x.f0 x.f1 x.f2 x.f3 x.f4 x.f5 x.f6 x.f7 x.f8 x.f9 x.f10) (b && win x.f4 (-1) 7 && mayB x.f7 && win x.f8 1 65535 && win x.f9 1 8 && win x.f10 0 800):=fun b => by
  refine Ev.step (f:=fun _ => some (b && win x.f4 (-1) 7 && mayB x.f7 && win x.f8 1 65535 && win x.f9 1 8 && win x.f10 0 800)) (fun k => ?_) (Ev.now _)
  rw [a_1.j0]
  simp only [v_6,A_f,Option.bind_some]
  cases b <;> cases win x.f4 (-1) 7 <;> cases mayB x.f7 <;> cases win x.f8 1 65535 <;> cases win x.f9 1 8 <;> simp
 unfold a_1.f
 simp only [v_6,Option.bind_some]
 unfold l_Y
 cases h0 : win x.f0 1 16 <;> cases h1 : win x.f1 1 8 <;> cases h2 : win x.f2 0 8 <;> cases h3 : win x.f3 0 3 <;> simp only [if_true,if_false,Bool.false_eq_true] <;> first|exact key true|exact key false
def rOK (l : List S65) (i : Nat) : Bool:=l_Y (a_c l (i : Int)) && (i == 0 || decide ((a_c l ((i - 1 : Nat) : Int)).f0 < (a_c l (i : Int)).f0)) && decide (((l.countP (fun s => s.f1 == (a_c l (i : Int)).f1) : Nat) : Int) = (a_c l (i : Int)).f9) && decide (((l.countP (fun s => e_A s (a_c l (i : Int)).f1 (a_c l (i : Int)).f8 (a_c l (i : Int)).f9 (a_c l (i : Int)).f10) : Nat) : Int) = (a_c l (i : Int)).f9)
def k_k (l : List S65) : Nat → Nat → Bool
 | 0,_ => true
 | n + 1,i => rOK l i && k_k l n (i + 1)
def tmB (a : Int) : Bool:=decide (0 ≤ a) && decide (a ≤ 1125899906842624)
theorem q_J (l : List S65) (hl : l.length ≤ 1000000) (a : Int) : ∀ n i,i + n = l.length → Ev (fun k => a_G.l0 k l (l.length : Int) (i : Int) a l) (k_k l n i && tmB a):=by
 intro n
 induction n with
 | zero =>
  intro i hi
  refine Ev.step (f:=fun _ => some (k_k l 0 i && tmB a)) (fun k => ?_) (Ev.now _)
  rw [a_G.l0,if_neg (by omega)]
  unfold k_k tmB
  by_cases c : a ≥ 0
  ·rw [if_pos c,decide_eq_true (show 0 ≤ a from c)];rfl
  rw [if_neg c,decide_eq_false (show ¬ 0 ≤ a from c)];rfl
 | succ n ih =>
  intro i hi
  have nxt:=ih (i + 1) (by omega)
  have h1 : ((i : Nat) : Int) < (l.length : Int):=by omega
  have h0 : (0 : Int) ≤ ((i : Nat) : Int):=by omega
  have hw:=e_z i (by omega)
  have cs : ∀ (x : S65),b_k.f l x.f0 x.f1 x.f2 x.f3 x.f4 x.f5 x.f6 x.f7 x.f8 x.f9 x.f10 = some ((l.countP (fun s => s.f1 == x.f1) : Nat) : Int):=fun x => by unfold b_k.f;rw [if_pos (by omega)]
  have ca : ∀ (x : S65),b_h.f l x.f0 x.f1 x.f2 x.f3 x.f4 x.f5 x.f6 x.f7 x.f8 x.f9 x.f10 x.f0 x.f1 x.f2 x.f3 x.f4 x.f5 x.f6 x.f7 x.f8 x.f9 x.f10 = some ((l.countP (fun s => e_A s x.f1 x.f8 x.f9 x.f10) : Nat) : Int):=fun x => by unfold b_h.f;rw [if_pos (by omega)]
  refine Ev.step (fun k => by rw [a_G.l0,if_pos h1,if_pos h0,if_pos h1]) ?_
  refine Ev.bind (v_r _) ?_
  simp only [cs,ca,Option.bind_some,hw]
  unfold k_k rOK
  cases hs : l_Y (a_c l (i : Int))
  ·exact Ev.now _
  simp only [if_true,Bool.true_and]
  have tail : Ev (fun k => if ((l.countP (fun s => s.f1 == (a_c l (i : Int)).f1) : Nat) : Int) = (a_c l (i : Int)).f9 then (if ((l.countP (fun s => e_A s (a_c l (i : Int)).f1 (a_c l (i : Int)).f8 (a_c l (i : Int)).f9 (a_c l (i : Int)).f10) : Nat) : Int) = (a_c l (i : Int)).f9 then a_G.l0 k l (l.length : Int) ((i + 1 : Nat) : Int) a l else some false) else some false)
   (decide (((l.countP (fun s => s.f1 == (a_c l (i : Int)).f1) : Nat) : Int) = (a_c l (i : Int)).f9) && decide (((l.countP (fun s => e_A s (a_c l (i : Int)).f1 (a_c l (i : Int)).f8 (a_c l (i : Int)).f9 (a_c l (i : Int)).f10) : Nat) : Int) = (a_c l (i : Int)).f9) && (k_k l n (i + 1) && tmB a)):=by
   by_cases c1 : ((l.countP (fun s => s.f1 == (a_c l (i : Int)).f1) : Nat) : Int) = (a_c l (i : Int)).f9
   ·simp only [if_pos c1,decide_eq_true c1,Bool.true_and]
    by_cases c2 : ((l.countP (fun s => e_A s (a_c l (i : Int)).f1 (a_c l (i : Int)).f8 (a_c l (i : Int)).f9 (a_c l (i : Int)).f10) : Nat) : Int) = (a_c l (i : Int)).f9
    ·simp only [if_pos c2,decide_eq_true c2,Bool.true_and];exact nxt
    ·simp only [if_neg c2,decide_eq_false c2,Bool.false_and];exact Ev.now _
   ·simp only [if_neg c1,decide_eq_false c1,Bool.false_and];exact Ev.now _
  cases i with
  | zero =>
   simp only [show ¬ ((0 : Nat) : Int) > 0 by omega,if_false,BEq.rfl,Bool.true_or,Bool.true_and,Bool.and_assoc] at tail ⊢
   exact tail
  | succ j =>
   have hp:=h_F j (by omega)
   simp only [show ((j + 1 : Nat) : Int) > 0 by omega,if_true,hp,show (0 : Int) ≤ (j : Int) by omega,show (j : Int) < (l.length : Int) by omega,show (j + 1 == 0) = false from rfl,Bool.false_or,Nat.add_sub_cancel]
   by_cases c : (a_c l (j : Int)).f0 < (a_c l ((j + 1 : Nat) : Int)).f0
   ·have c' : ¬ (a_c l (j : Int)).f0 ≥ (a_c l ((j + 1 : Nat) : Int)).f0:=by omega
    simp only [if_neg c',decide_eq_true c,Bool.true_and,Bool.and_assoc] at tail ⊢
    exact tail
   have c' : (a_c l (j : Int)).f0 ≥ (a_c l ((j + 1 : Nat) : Int)).f0:=by omega
   simp only [if_pos c',decide_eq_false c,Bool.false_and]
   exact Ev.now _
def g_4 (a : Int) (l : List S65) : Bool:=k_k l l.length 0 && tmB a
theorem o_2 (a : Int) (l : List S65) (hl : l.length ≤ 1000000) : Ev (fun k => a_G.f k a l) (g_4 a l):=q_J l hl a l.length 0 (by omega)
def mOK (L : List S27) (en : Int) (i : Nat) : Bool:=g_4 (a_o L (i : Int)).f0 (a_o L (i : Int)).f1 && decide ((a_o L (i : Int)).f0 ≤ en) && (i == 0 || decide ((a_o L ((i - 1 : Nat) : Int)).f0 < (a_o L (i : Int)).f0))
def i_4 (L : List S27) (en : Int) : Nat → Nat → Bool
 | 0,_ => true
 | n + 1,i => mOK L en i && i_4 L en n (i + 1)
def i_J (L : List S27) (en : Int) : Bool:=decide (L.length ≤ 2000) && tmB en && i_4 L en L.length 0
def Small (L : List S27) : Prop:=L.length ≤ 1000000 ∧ ∀ i,(a_o L i).f1.length ≤ 1000000
theorem q_6 (L : List S27) (hL : Small L) (en : Int) : ∀ n i,i + n = L.length → Ev (fun k => a_A.l0 k L (L.length : Int) (i : Int) L en) (if i_4 L en n i = true then 0 else 390):=by
 intro n
 induction n with
 | zero =>
  intro i hi
  refine Ev.step (f:=fun _ => some (if i_4 L en 0 i = true then 0 else 390)) (fun k => ?_) (Ev.now _)
  rw [a_A.l0,if_neg (by omega)]
  rfl
 | succ n ih =>
  intro i hi
  have hL1:=hL.1
  have nxt:=ih (i + 1) (by omega)
  have h1 : ((i : Nat) : Int) < (L.length : Int):=by omega
  have h0 : (0 : Int) ≤ ((i : Nat) : Int):=by omega
  have hw:=e_z i (by omega)
  refine Ev.step (fun k => by rw [a_A.l0,if_pos h1,if_pos h0,if_pos h1]) ?_
  refine Ev.bind (o_2 _ _ (hL.2 _)) ?_
  simp only [hw]
  unfold i_4 mOK
  cases hs : g_4 (a_o L (i : Int)).f0 (a_o L (i : Int)).f1
  ·exact Ev.now _
  simp only [if_true,Bool.true_and]
  by_cases ce : (a_o L (i : Int)).f0 ≤ en
  rotate_left
  ·have ce' : (a_o L (i : Int)).f0 > en:=by omega
   simp only [if_pos ce',decide_eq_false ce,Bool.false_and]
   exact Ev.now _
  have ce' : ¬ (a_o L (i : Int)).f0 > en:=by omega
  simp only [if_neg ce',decide_eq_true ce,Bool.true_and]
  cases i with
  | zero =>
   simp only [show ¬ ((0 : Nat) : Int) > 0 by omega,if_false,BEq.rfl,Bool.true_or,Bool.true_and]
   exact nxt
  | succ j =>
   have hp:=h_F j (by omega)
   simp only [show ((j + 1 : Nat) : Int) > 0 by omega,if_true,hp,show (0 : Int) ≤ (j : Int) by omega,show (j : Int) < (L.length : Int) by omega,show (j + 1 == 0) = false from rfl,Bool.false_or,Nat.add_sub_cancel]
   by_cases c : (a_o L (j : Int)).f0 < (a_o L ((j + 1 : Nat) : Int)).f0
   ·have c' : ¬ (a_o L (j : Int)).f0 ≥ (a_o L ((j + 1 : Nat) : Int)).f0:=by omega
    simp only [if_neg c',decide_eq_true c,Bool.true_and]
    exact nxt
   have c' : (a_o L (j : Int)).f0 ≥ (a_o L ((j + 1 : Nat) : Int)).f0:=by omega
   simp only [if_pos c',decide_eq_false c,Bool.false_and]
   exact Ev.now _
theorem l_X (L : List S27) (hL : Small L) (en : Int) : Ev (fun k => a_A.f k L en) (if i_J L en = true then 0 else 390):=by
 have key : ∀ b : Bool,Ev (fun k => a_A.j0 k b L en) (if (!b && i_4 L en L.length 0) = true then 0 else 390):=fun b => by
  cases b
  ·refine Ev.step (fun k => by rw [a_A.j0,if_neg (by decide)]) ?_
   simpa using q_6 L hL en L.length 0 (by omega)
  exact Ev.step (f:=fun _ => some 390) (fun k => by rw [a_A.j0,if_pos rfl]) (Ev.now _)
 unfold a_A.f i_J tmB
 by_cases c1 : (L.length : Int) > 2000
 ·have c1' : ¬ L.length ≤ 2000:=by omega
  simp only [if_pos c1,decide_eq_false c1',Bool.false_and];exact key true
 have c1' : L.length ≤ 2000:=by omega
 simp only [if_neg c1,decide_eq_true c1',Bool.true_and]
 by_cases c2 : en < 0
 ·have c2' : ¬ 0 ≤ en:=by omega
  simp only [if_pos c2,decide_eq_false c2',Bool.false_and];exact key true
 have c2' : 0 ≤ en:=by omega
 simp only [if_neg c2,decide_eq_true c2',Bool.true_and]
 by_cases c3 : en ≤ 1125899906842624
 ·have c3' : ¬ en > 1125899906842624:=by omega
  simp only [decide_eq_false c3',decide_eq_true c3,Bool.true_and];exact key false
 have c3' : en > 1125899906842624:=by omega
 simp only [decide_eq_true c3',decide_eq_false c3,Bool.false_and];exact key true
theorem q_8 {L : List S27} {en : Int} : ∀ n i,i_4 L en n i = true → ∀ j,i ≤ j → j < i + n → mOK L en j = true:=by
 intro n
 induction n with
 | zero => intro i _ j h1 h2;omega
 | succ n ih =>
  intro i h j h1 h2
  unfold i_4 at h
  rw [Bool.and_eq_true] at h
  rcases Nat.lt_or_ge i j with h3|h3
  ·exact ih (i + 1) h.2 j h3 (by omega)
  obtain rfl : i = j:=by omega
  exact h.1
def n_0 (L : List S27) : Nat → Nat → Bool
 | 0,_ => false
 | n + 1,i => decide (30 < (a_o L (i : Int)).f1.length) || n_0 L n (i + 1)
def k_h (L : List S27) : Bool:=decide (120 < L.length) || n_0 L L.length 0
theorem s_d (L : List S27) (hL : L.length ≤ 120) : ∀ n i,i + n = L.length → Ev (fun k => a_K.l0 k L (L.length : Int) (i : Int)) (n_0 L n i):=by
 intro n
 induction n with
 | zero =>
  intro i hi
  exact Ev.step (f:=fun _ => some false) (fun k => by rw [a_K.l0,if_neg (by omega)]) (Ev.now _)
 | succ n ih =>
  intro i hi
  have nxt:=ih (i + 1) (by omega)
  have h1 : ((i : Nat) : Int) < (L.length : Int):=by omega
  have h0 : (0 : Int) ≤ ((i : Nat) : Int):=by omega
  have hw:=e_z i (by omega)
  refine Ev.step (fun k => by rw [a_K.l0,if_pos h1,if_pos h0,if_pos h1,hw]) ?_
  unfold n_0
  by_cases c : 30 < (a_o L (i : Int)).f1.length
  ·have c' : ((a_o L (i : Int)).f1.length : Int) > 30:=by omega
   simp only [if_pos c',decide_eq_true c,Bool.true_or];exact Ev.now _
  have c' : ¬ ((a_o L (i : Int)).f1.length : Int) > 30:=by omega
  simp only [if_neg c',decide_eq_false c,Bool.false_or];exact nxt
theorem v_7 (L : List S27) (en : Int) : Ev (fun k => a_K.f k L en) (k_h L):=by
 unfold a_K.f k_h
 by_cases c : 120 < L.length
 ·have c' : (L.length : Int) > 120:=by omega
  simp only [if_pos c',decide_eq_true c,Bool.true_or];exact Ev.now _
 have c' : ¬ (L.length : Int) > 120:=by omega
 simp only [if_neg c',decide_eq_false c,Bool.false_or];exact s_d L (by omega) L.length 0 (by omega)
theorem q_5 {L : List S27} : ∀ n i,n_0 L n i = false → ∀ j : Nat,i ≤ j → j < i + n → (a_o L (j : Int)).f1.length ≤ 30:=by
 intro n
 induction n with
 | zero => intro i _ j h1 h2;omega
 | succ n ih =>
  intro i h j h1 h2
  unfold n_0 at h
  rw [Bool.or_eq_false_iff] at h
  rcases Nat.lt_or_ge i j with h3|h3
  ·exact ih (i + 1) h.2 j h3 (by omega)
  obtain rfl : i = j:=by omega
  have:=of_decide_eq_false h.1
  omega
theorem g_U {L : List S27} (h : k_h L = false) : L.length ≤ 120 ∧ ∀ i : Int,(a_o L i).f1.length ≤ 30:=by
 unfold k_h at h
 rw [Bool.or_eq_false_iff] at h
 refine ⟨by have:=of_decide_eq_false h.1;omega,fun i => ?_⟩
 have e : a_o L i = a_o L ((i.toNat : Nat) : Int):=by unfold a_o;rw [Int.toNat_natCast]
 rw [e]
 by_cases hi : i.toNat < L.length
 ·exact q_5 _ _ h.2 _ (by omega) (by omega)
 unfold a_o
 simp only [Int.toNat_natCast]
 rw [List.getD_eq_getElem?_getD,List.getElem?_eq_none (by omega)]
 simp [z27]
theorem k_E {L : List S27} (h : k_h L = false) : Small L:=⟨by have:=(g_U h).1;omega,fun i => by have:=(g_U h).2 i;omega⟩
end Go.Proofs.Ytgglkfilkagblaa.Pure
end
section
namespace Go.Proofs.Ytgglkfilkagblaa.Pure
open Go.RowKit Go.Proofs.Ytgglkfilkagblaa.Q Go.Proofs.YtgglkfilkagblaaW.PrintWords Go.Proofs.YtgglkfilkagblaaW.PrintLast Go.Proofs.YtgglkfilkagblaaW.PrintMore
set_option linter.unusedVariables false
set_option linter.unusedSimpArgs false
def at_ (L : List S27) (j : Nat) : Int:=(a_o L (j : Int)).f0
structure k_m (L : List S27) (en : Int) : Prop where
 n : L.length ≤ 120
 each : ∀ i : Int,(a_o L i).f1.length ≤ 30
 en0 : 0 ≤ en
 en1 : en ≤ 1125899906842624
 lo : ∀ j,j < L.length → 0 ≤ at_ L j
 hi : ∀ j,j < L.length → at_ L j ≤ en
 up : ∀ j,j + 1 < L.length → at_ L j < at_ L (j + 1)
theorem q_V {L : List S27} {en : Int} (h : k_h L = false) (hg : i_J L en = true) : k_m L en:=by
 obtain ⟨h1,h2⟩:=g_U h
 unfold i_J tmB at hg
 simp only [Bool.and_eq_true,decide_eq_true_eq] at hg
 obtain ⟨⟨h3,h4,h5⟩,h6⟩:=hg
 have k : ∀ j,j < L.length → mOK L en j = true:=fun j hj => q_8 _ _ h6 j (Nat.zero_le _) (by omega)
 refine ⟨h1,h2,h4,h5,fun j hj => ?_,fun j hj => ?_,fun j hj => ?_⟩
 ·have:=k j hj
  unfold mOK g_4 tmB at this
  simp only [Bool.and_eq_true,decide_eq_true_eq] at this
  exact this.1.1.2.1
 ·have:=k j hj
  unfold mOK at this
  simp only [Bool.and_eq_true,decide_eq_true_eq] at this
  exact this.1.2
 have:=k (j + 1) hj
 unfold mOK at this
 simp only [Bool.and_eq_true,decide_eq_true_eq,Nat.add_sub_cancel,show (j + 1 == 0) = false from rfl,Bool.false_or] at this
 exact this.2
variable {L : List S27} {en : Int}
theorem k_m.lt (h : k_m L en) : ∀ d i,i + d + 1 < L.length → at_ L i < at_ L (i + d + 1):=by
 intro d
 induction d with
 | zero => intro i hi;exact h.up i hi
 | succ d ih =>
  intro i hi
  have h1:=ih i (by omega)
  have h2:=h.up (i + d + 1) (by omega)
  have : i + (d + 1) + 1 = i + d + 1 + 1:=by omega
  rw [this];omega
theorem k_m.mono (h : k_m L en) {i j : Nat} (hij : i < j) (hj : j < L.length) : at_ L i < at_ L j:=by
 have:=h.lt (j - i - 1) i (by omega)
 rwa [show i + (j - i - 1) + 1 = j by omega] at this
def to_ (L : List S27) (en : Int) (j : Nat) : Int:=c_U L en j
theorem o_x {j : Nat} (hj : j + 1 < L.length) : to_ L en j = at_ L (j + 1):=by unfold to_ c_U at_;rw [if_pos hj]
theorem r_1 {j : Nat} (hj : ¬ j + 1 < L.length) : to_ L en j = en:=by unfold to_ c_U;rw [if_neg hj]
theorem k_m.le (h : k_m L en) {j : Nat} (hj : j < L.length) : at_ L j ≤ to_ L en j:=by
 by_cases c : j + 1 < L.length
 ·rw [o_x c];exact Int.le_of_lt (h.up j c)
 rw [r_1 c];exact h.hi j hj
theorem k_m.before (h : k_m L en) {i j : Nat} (hij : i < j) (hj : j < L.length) : to_ L en i ≤ at_ L j:=by
 rw [o_x (by omega)]
 rcases Nat.lt_or_ge (i + 1) j with c|c
 ·exact Int.le_of_lt (h.mono c hj)
 rw [show i + 1 = j by omega];exact Int.le_refl _
theorem v_v {x : S27} (hx : x ∈ L) : ∃ i : Int,a_o L i = x:=by
 obtain ⟨i,hi,e⟩:=List.mem_iff_getElem.1 hx
 refine ⟨(i : Int),?_⟩
 unfold a_o
 rw [Int.toNat_natCast,List.getD_eq_getElem?_getD,List.getElem?_eq_getElem hi,Option.getD_some,e]
end Go.Proofs.Ytgglkfilkagblaa.Pure
end
section
namespace Go.Proofs.Ytgglkfilkagblaa.Pure
open Go.RowKit Go.Proofs.Ytgglkfilkagblaa.Q Go.Proofs.YtgglkfilkagblaaW.PrintWords Go.Proofs.YtgglkfilkagblaaW.PrintLast Go.Proofs.YtgglkfilkagblaaW.PrintMore
set_option linter.unusedVariables false
set_option linter.unusedSimpArgs false
theorem wraps_u32 (n : Int) (h₀ : 0 ≤ n) (h₁ : n < 2 ^ 32) : IntKind.u32.wrap n = n:=by rw [IntKind.wrap_u32];omega
theorem w_a {a : Int} (h0 : 0 ≤ a) (h1 : a < 4294967296) : mayB a = decide (a < 256):=by
 obtain ⟨n,rfl⟩:=Int.eq_ofNat_of_zero_le h0
 have hn : n < 2 ^ 32:=by omega
 unfold mayB
 have e : Go.bits .andNot .u32 (n : Int) 255 = (((BitVec.ofNat 32 n &&& ~~~BitVec.ofNat 32 255).toNat : Nat) : Int):=by
  have h : Go.bits .andNot .u32 (n : Int) 255 = IntKind.u32.wrap (((BitVec.ofNat 32 n &&& ~~~BitVec.ofNat 32 255).toNat : Nat) : Int):=by
   simp only [Go.bits,BitVec.ofInt_natCast]
   rfl
  rw [h]
  exact wraps_u32 _ (Int.natCast_nonneg _) (by have:=BitVec.isLt (BitVec.ofNat 32 n &&& ~~~BitVec.ofNat 32 255);exact_mod_cast this)
 have tb : ∀ i,(BitVec.ofNat 32 n &&& ~~~BitVec.ofNat 32 255).toNat.testBit i = (n.testBit i && !(255 : Nat).testBit i):=fun i => by
  rw [BitVec.testBit_toNat,BitVec.getLsbD_and,BitVec.getLsbD_not,BitVec.getLsbD_ofNat,BitVec.getLsbD_ofNat]
  by_cases h : i < 32
  ·simp [h]
  have : n.testBit i = false:=Nat.testBit_lt_two_pow (Nat.lt_of_lt_of_le hn (Nat.pow_le_pow_right (by decide) (by omega)))
  simp [h,this]
 rw [e]
 by_cases c : n < 256
 rotate_left
 ·have hz : ¬ (BitVec.ofNat 32 n &&& ~~~BitVec.ofNat 32 255).toNat = 0:=fun h0 => c (by
   have : n < 2 ^ 8:=Nat.lt_pow_two_of_testBit n fun i hi => by
    have t:=tb i
    rw [h0,Nat.zero_testBit] at t
    have : (255 : Nat).testBit i = false:=Nat.testBit_lt_two_pow (Nat.lt_of_lt_of_le (by decide : 255 < 2 ^ 8) (Nat.pow_le_pow_right (by decide) hi))
    rw [this] at t
    simpa using t.symm
   simpa using this)
  rw [decide_eq_false (by omega),decide_eq_false (by omega)]
 have hz : (BitVec.ofNat 32 n &&& ~~~BitVec.ofNat 32 255).toNat = 0:=by
  apply Nat.eq_of_testBit_eq
  intro i
  rw [tb,Nat.zero_testBit]
  by_cases h : i < 8
  ·have : (255 : Nat).testBit i = true:=by
    have : i = 0 ∨ i = 1 ∨ i = 2 ∨ i = 3 ∨ i = 4 ∨ i = 5 ∨ i = 6 ∨ i = 7:=by omega
    rcases this with rfl|rfl|rfl|rfl|rfl|rfl|rfl|rfl <;> decide
   rw [this];simp
  have : n.testBit i = false:=Nat.testBit_lt_two_pow (Nat.lt_of_lt_of_le c (Nat.pow_le_pow_right (n:=2) (i:=8) (by decide) (by omega)))
  rw [this];rfl
 rw [hz,decide_eq_true (show ((0 : Nat) : Int) = 0 from rfl),decide_eq_true (by omega)]
theorem win1 {α : Type} (a l h : Int) (X Y : α) : (if a < l then Y else if a > h then Y else X) = if win a l h = true then X else Y:=by
 unfold win
 by_cases c1 : a < l
 ·rw [if_pos c1,decide_eq_false (by omega)];rfl
 rw [if_neg c1,decide_eq_true (by omega)]
 by_cases c2 : a > h
 ·rw [if_pos c2,decide_eq_false (by omega)];rfl
 rw [if_neg c2,decide_eq_true (by omega)];rfl
theorem win2 {α : Type} (a l h : Int) (X Y : α) : (if a ≥ l then if a ≤ h then X else Y else Y) = if win a l h = true then X else Y:=by
 unfold win
 by_cases c1 : a ≥ l
 rotate_left
 ·rw [if_neg c1,decide_eq_false (by omega)];rfl
 rw [if_pos c1,decide_eq_true (by omega)]
 by_cases c2 : a ≤ h
 ·rw [if_pos c2,decide_eq_true c2];rfl
 rw [if_neg c2,decide_eq_false c2];rfl
theorem win3 (a l h : Int) : (if a ≥ l then some (decide (a ≤ h)) else some false) = some (win a l h):=by
 unfold win
 by_cases c1 : a ≥ l
 ·rw [if_pos c1,decide_eq_true (show l ≤ a from c1)];rfl
 rw [if_neg c1,decide_eq_false (show ¬ l ≤ a from c1)];rfl
def May (x : S65) : Prop:=0 ≤ x.f7 ∧ x.f7 < 4294967296
theorem s_k (x : S65) (hx : May x) : b_I.f x.f0 x.f1 x.f2 x.f3 x.f4 x.f5 x.f6 x.f7 x.f8 x.f9 x.f10 = some (l_Y x):=by
 unfold b_I.f b_t.f l_Y
 rw [w_a hx.1 hx.2]
 simp only [win1,win2,win3,Option.bind_some]
 cases win x.f0 1 16 <;> cases win x.f1 1 8 <;> cases win x.f2 0 8 <;> cases win x.f3 0 3 <;> cases win x.f4 (-1) 7 <;> cases decide (x.f7 < 256) <;> cases win x.f8 1 65535 <;> cases win x.f9 1 8 <;> simp
def g_8 (x s : S65) : Bool:=s.f1 == x.f1
theorem n_3 {x s : S65} (h : e_A s x.f1 x.f8 x.f9 x.f10 = true) : g_8 x s = true:=by
 unfold e_A at h
 unfold g_8
 simp only [Bool.and_eq_true] at h
 exact h.1.1.1
theorem o_H {p q : S65 → Bool} (hpq : ∀ s,p s = true → q s = true) (l : List S65) : l.countP p ≤ l.countP q ∧ (l.countP p = l.countP q ↔ l.all (fun s => !q s || p s) = true):=by
 induction l with
 | nil => simp
 | cons s l ih =>
  obtain ⟨h1,h2⟩:=ih
  rw [List.countP_cons,List.countP_cons,List.all_cons]
  cases hp : p s <;> cases hq : q s
  ·simp;exact ⟨h1,h2.trans (by simp)⟩
  ·simp;omega
  ·rw [hpq s hp] at hq;cases hq
  simp;exact ⟨h1,h2.trans (by simp)⟩
def inB (x : S65) (r : List S65) (n : Nat) : Bool:=r.all (fun s => !g_8 x s || e_A s x.f1 x.f8 x.f9 x.f10) && decide (((n + r.countP (g_8 x) : Nat) : Int) = x.f9)
theorem s_y (l : List S65) (x : S65) : inB x l 0 = (decide (((l.countP (fun s => s.f1 == x.f1) : Nat) : Int) = x.f9) && decide (((l.countP (fun s => e_A s x.f1 x.f8 x.f9 x.f10) : Nat) : Int) = x.f9)):=by
 obtain ⟨h1,h2⟩:=o_H (p:=fun s => e_A s x.f1 x.f8 x.f9 x.f10) (q:=g_8 x) (fun s h => n_3 h) l
 unfold inB
 show _ = (decide (((l.countP (g_8 x) : Nat) : Int) = x.f9) && _)
 rw [Nat.zero_add]
 by_cases c : ((l.countP (g_8 x) : Nat) : Int) = x.f9
 rotate_left
 ·rw [decide_eq_false c,Bool.and_false,Bool.false_and]
 rw [decide_eq_true c,Bool.and_true,Bool.true_and]
 cases ha : l.all (fun s => !g_8 x s || e_A s x.f1 x.f8 x.f9 x.f10)
 ·have : ¬ l.countP (fun s => e_A s x.f1 x.f8 x.f9 x.f10) = l.countP (g_8 x):=fun e => by rw [h2.1 e] at ha;cases ha
  rw [decide_eq_false (by omega)]
 have:=h2.2 ha
 rw [decide_eq_true (by omega)]
theorem rd65 (l : List S65) (j : Nat) (hj : j < l.length) : a_c l (j : Int) = l[j]:=by
 unfold a_c;rw [Int.toNat_natCast,List.getD_eq_getElem?_getD,List.getElem?_eq_getElem hj];rfl
theorem n_9 (l : List S65) (hl : l.length ≤ 1000000) (a : Int) (x : S65) (i : Nat) (hi : i < l.length) (R : Bool) (hn : Ev (fun k => a_m.l0 k ((i + 1 : Nat) : Int) a l) R) :
 ∀ d j n,j + d = l.length → n ≤ j → Ev (fun k => a_m.l1 k (i : Int) (n : Int) (j : Int) a l x.f0 x.f1 x.f2 x.f3 x.f4 x.f5 x.f6 x.f7 x.f8 x.f9 x.f10) (inB x (l.drop j) n && R):=by
 intro d
 induction d with
 | zero =>
  intro j n hj hnj
  have hd : l.drop j = []:=List.drop_eq_nil_of_le (by omega)
  rw [hd]
  refine Ev.step (fun k => by rw [a_m.l1,if_neg (by omega),e_z i (by omega)]) ?_
  show Ev _ (decide ((n : Int) = x.f9) && R)
  by_cases c : (n : Int) = x.f9
  ·simp only [if_pos c,decide_eq_true c,Bool.true_and];exact hn
  simp only [if_neg c,decide_eq_false c,Bool.false_and];exact Ev.now _
 | succ d ih =>
  intro j n hj hnj
  have h1 : (j : Int) < (l.length : Int):=by omega
  have h0 : (0 : Int) ≤ (j : Int):=by omega
  have hd : l.drop j = l[j] :: l.drop (j + 1):=List.drop_eq_getElem_cons (by omega)
  rw [hd]
  refine Ev.step (fun k => by rw [a_m.l1,if_pos h1,if_pos h0,e_z j (by omega),e_z n (by omega),rd65 l j (by omega)]) ?_
  have i0:=ih (j + 1) n (by omega) (by omega)
  have i1:=ih (j + 1) (n + 1) (by omega) (by omega)
  unfold inB at i0 i1 ⊢
  rw [List.all_cons,List.countP_cons]
  by_cases c : l[j].f1 = x.f1
  rotate_left
  ·have cs : g_8 x l[j] = false:=by unfold g_8;simp [c]
   simp only [if_neg c,cs,Bool.not_false,Bool.true_or,Bool.true_and,Bool.false_eq_true,if_false,Nat.add_zero]
   exact i0
  have cs : g_8 x l[j] = true:=by unfold g_8;rw [c];exact BEq.rfl
  have e : n + ((l.drop (j + 1)).countP (g_8 x) + 1) = n + 1 + (l.drop (j + 1)).countP (g_8 x):=by omega
  simp only [if_pos c,cs,Bool.not_true,Bool.false_or,if_true,e]
  by_cases c8 : l[j].f8 = x.f8
  rotate_left
  ·have ca : e_A l[j] x.f1 x.f8 x.f9 x.f10 = false:=by unfold e_A;simp [c8]
   simp only [if_neg c8,ca,Bool.false_and];exact Ev.now _
  by_cases c9 : l[j].f9 = x.f9
  rotate_left
  ·have ca : e_A l[j] x.f1 x.f8 x.f9 x.f10 = false:=by unfold e_A;simp [c9]
   simp only [if_pos c8,if_neg c9,ca,Bool.false_and];exact Ev.now _
  by_cases c10 : l[j].f10 = x.f10
  ·have ca : e_A l[j] x.f1 x.f8 x.f9 x.f10 = true:=by unfold e_A;rw [c,c8,c9,c10];simp
   simp only [if_pos c8,if_pos c9,if_pos c10,ca,Bool.true_and];exact i1
  have ca : e_A l[j] x.f1 x.f8 x.f9 x.f10 = false:=by unfold e_A;simp [c10]
  simp only [if_pos c8,if_pos c9,if_neg c10,ca,Bool.false_and];exact Ev.now _
theorem o_c (l : List S65) (hl : l.length ≤ 1000000) (hm : ∀ i : Int,May (a_c l i)) (a : Int) : ∀ d i,i + d = l.length → Ev (fun k => a_m.l0 k (i : Int) a l) (k_k l d i):=by
 intro d
 induction d with
 | zero =>
  intro i hi
  exact Ev.step (f:=fun _ => some true) (fun k => by rw [a_m.l0,if_neg (by omega)]) (Ev.now _)
 | succ d ih =>
  intro i hi
  have nxt:=ih (i + 1) (by omega)
  have h1 : (i : Int) < (l.length : Int):=by omega
  have h0 : (0 : Int) ≤ (i : Int):=by omega
  have inn:=n_9 l hl a (a_c l (i : Int)) i (by omega) _ nxt l.length 0 0 (by omega) (Nat.le_refl _)
  rw [List.drop_zero,s_y] at inn
  have jt : Ev (fun k => a_m.j2 k (i : Int) true a l (a_c l (i : Int)).f0 (a_c l (i : Int)).f1 (a_c l (i : Int)).f2 (a_c l (i : Int)).f3 (a_c l (i : Int)).f4 (a_c l (i : Int)).f5 (a_c l (i : Int)).f6 (a_c l (i : Int)).f7 (a_c l (i : Int)).f8 (a_c l (i : Int)).f9 (a_c l (i : Int)).f10) false :=
   Ev.step (f:=fun _ => some false) (fun k => by rw [a_m.j2,if_pos rfl]) (Ev.now _)
  have jf:=Ev.step (g:=fun k => a_m.j2 k (i : Int) false a l (a_c l (i : Int)).f0 (a_c l (i : Int)).f1 (a_c l (i : Int)).f2 (a_c l (i : Int)).f3 (a_c l (i : Int)).f4 (a_c l (i : Int)).f5 (a_c l (i : Int)).f6 (a_c l (i : Int)).f7 (a_c l (i : Int)).f8 (a_c l (i : Int)).f9 (a_c l (i : Int)).f10) (fun k => by rw [a_m.j2,if_neg (by decide)];rfl) inn
  refine Ev.step (fun k => by rw [a_m.l0,if_pos h1,if_pos h0]) ?_
  simp only [s_k _ (hm _),Option.bind_some]
  unfold k_k rOK
  cases hs : l_Y (a_c l (i : Int))
  ·simp only [Bool.false_eq_true,if_false,Bool.false_and];exact jt
  simp only [if_true,Bool.true_and]
  cases i with
  | zero =>
   simp only [show ¬ ((0 : Nat) : Int) > 0 by omega,if_false,BEq.rfl,Bool.true_or,Bool.true_and,Bool.and_assoc] at jf ⊢
   exact jf
  | succ j =>
   simp only [show ((j + 1 : Nat) : Int) > 0 by omega,if_true,h_F j (by omega),show (0 : Int) ≤ (j : Int) by omega,show (j : Int) < (l.length : Int) by omega,show (j + 1 == 0) = false from rfl,Bool.false_or,Nat.add_sub_cancel]
   by_cases c : (a_c l (j : Int)).f0 < (a_c l ((j + 1 : Nat) : Int)).f0
   ·rw [decide_eq_true c,decide_eq_false (show ¬ (a_c l (j : Int)).f0 ≥ (a_c l ((j + 1 : Nat) : Int)).f0 by omega)]
    simp only [Bool.true_and,Bool.and_assoc] at jf ⊢
    exact jf
   rw [decide_eq_false c,decide_eq_true (show (a_c l (j : Int)).f0 ≥ (a_c l ((j + 1 : Nat) : Int)).f0 by omega)]
   simp only [Bool.false_and]
   exact jt
theorem l_r (l : List S65) (hl : l.length ≤ 1000000) (hm : ∀ i : Int,May (a_c l i)) (a : Int) : Ev (fun k => a_m.f k a l) (g_4 a l):=by
 have key : ∀ b : Bool,Ev (fun k => a_m.j0 k b a l) (!b && k_k l l.length 0):=fun b => by
  cases b
  ·exact Ev.step (fun k => by rw [a_m.j0,if_neg (by decide)];rfl) (o_c l hl hm a l.length 0 (by omega))
  exact Ev.step (f:=fun _ => some false) (fun k => by rw [a_m.j0,if_pos rfl]) (Ev.now _)
 unfold a_m.f g_4 tmB
 by_cases c2 : a < 0
 ·have c2' : ¬ 0 ≤ a:=by omega
  simp only [if_pos c2,decide_eq_false c2',Bool.false_and,Bool.and_false];exact key true
 have c2' : 0 ≤ a:=by omega
 simp only [if_neg c2,decide_eq_true c2',Bool.true_and]
 by_cases c3 : a ≤ 1125899906842624
 ·have c3' : ¬ a > 1125899906842624:=by omega
  simp only [decide_eq_false c3',decide_eq_true c3,Bool.and_true];simpa using key false
 have c3' : a > 1125899906842624:=by omega
 simp only [decide_eq_true c3',decide_eq_false c3,Bool.and_false];exact key true
variable {L : List S27} {en : Int}
def Mays (L : List S27) : Prop := ∀ i j : Int,May (a_c (a_o L i).f1 j)
theorem o_C (hL : Small L) (hm : Mays L) : ∀ d i,i + d = L.length → Ev (fun k => a_q.l0 k (i : Int) L en) (i_4 L en d i):=by
 intro d
 induction d with
 | zero =>
  intro i hi
  exact Ev.step (f:=fun _ => some true) (fun k => by rw [a_q.l0,if_neg (by omega)]) (Ev.now _)
 | succ d ih =>
  intro i hi
  have hL1:=hL.1
  have nxt:=ih (i + 1) (by omega)
  have h1 : (i : Int) < (L.length : Int):=by omega
  have h0 : (0 : Int) ≤ (i : Int):=by omega
  refine Ev.step (fun k => by rw [a_q.l0,if_pos h1,if_pos h0]) ?_
  refine Ev.bind (l_r _ (hL.2 _) (hm _) _) ?_
  simp only [e_z i (by omega)]
  unfold i_4 mOK
  cases hs : g_4 (a_o L (i : Int)).f0 (a_o L (i : Int)).f1
  ·exact Ev.now _
  simp only [if_true,Bool.true_and]
  by_cases ce : (a_o L (i : Int)).f0 ≤ en
  rotate_left
  ·have ce' : (a_o L (i : Int)).f0 > en:=by omega
   simp only [if_pos ce',decide_eq_false ce,Bool.false_and]
   exact Ev.now _
  have ce' : ¬ (a_o L (i : Int)).f0 > en:=by omega
  simp only [if_neg ce',decide_eq_true ce,Bool.true_and]
  cases i with
  | zero =>
   simp only [show ¬ ((0 : Nat) : Int) > 0 by omega,if_false,BEq.rfl,Bool.true_or,Bool.true_and]
   exact nxt
  | succ j =>
   simp only [show ((j + 1 : Nat) : Int) > 0 by omega,if_true,h_F j (by omega),show (0 : Int) ≤ (j : Int) by omega,show (j : Int) < (L.length : Int) by omega,show (j + 1 == 0) = false from rfl,Bool.false_or,Nat.add_sub_cancel]
   by_cases c : (a_o L (j : Int)).f0 < (a_o L ((j + 1 : Nat) : Int)).f0
   ·have c' : ¬ (a_o L (j : Int)).f0 ≥ (a_o L ((j + 1 : Nat) : Int)).f0:=by omega
    simp only [if_neg c',decide_eq_true c,Bool.true_and]
    exact nxt
   have c' : (a_o L (j : Int)).f0 ≥ (a_o L ((j + 1 : Nat) : Int)).f0:=by omega
   simp only [if_pos c',decide_eq_false c,Bool.false_and]
   exact Ev.now _
theorem n_J (hL : Small L) (hm : Mays L) (en : Int) : Ev (fun k => a_q.f k L en) (i_J L en):=by
 have key : ∀ b : Bool,Ev (fun k => a_q.j0 k b L en) (!b && i_4 L en L.length 0):=fun b => by
  cases b
  ·exact Ev.step (fun k => by rw [a_q.j0,if_neg (by decide)];rfl) (o_C hL hm L.length 0 (by omega))
  exact Ev.step (f:=fun _ => some false) (fun k => by rw [a_q.j0,if_pos rfl]) (Ev.now _)
 unfold a_q.f i_J tmB
 by_cases c1 : (L.length : Int) > 2000
 ·have c1' : ¬ L.length ≤ 2000:=by omega
  simp only [if_pos c1,decide_eq_false c1',Bool.false_and];exact key true
 have c1' : L.length ≤ 2000:=by omega
 simp only [if_neg c1,decide_eq_true c1',Bool.true_and]
 by_cases c2 : en < 0
 ·have c2' : ¬ 0 ≤ en:=by omega
  simp only [if_pos c2,decide_eq_false c2',Bool.false_and];exact key true
 have c2' : 0 ≤ en:=by omega
 simp only [if_neg c2,decide_eq_true c2',Bool.true_and]
 by_cases c3 : en ≤ 1125899906842624
 ·have c3' : ¬ en > 1125899906842624:=by omega
  simp only [decide_eq_false c3',decide_eq_true c3,Bool.true_and];simpa using key false
 have c3' : en > 1125899906842624:=by omega
 simp only [decide_eq_true c3',decide_eq_false c3,Bool.false_and];exact key true
theorem r_c (l : List S65) (hl : l.length ≤ 1000000) : Ev (fun k => a_D.f k l l) true:=by
 have key : ∀ d i,i + d = l.length → Ev (fun k => a_D.l0 k l l (i : Int)) true:=by
  intro d
  induction d with
  | zero => intro i hi;exact Ev.step (f:=fun _ => some true) (fun k => by rw [a_D.l0,if_neg (by omega)]) (Ev.now _)
  | succ d ih =>
   intro i hi
   refine Ev.step (fun k => by rw [a_D.l0,if_pos (by omega),if_pos (by omega),if_pos (by omega),if_neg (by simp),e_z i (by omega)]) (ih (i + 1) (by omega))
 exact Ev.congr (f:=fun k => a_D.l0 k l l 0) (fun k => if_pos rfl) (key l.length 0 (by omega))
theorem l_W (hL : Small L) (en : Int) : Ev (fun k => a_z.f k L en L en) true:=by
 have hL1:=hL.1
 have key : ∀ d i,i + d = L.length → Ev (fun k => a_z.l0 k (i : Int) L en L en) true:=by
  intro d
  induction d with
  | zero => intro i hi;exact Ev.step (f:=fun _ => some true) (fun k => by rw [a_z.l0,if_neg (by omega)]) (Ev.now _)
  | succ d ih =>
   intro i hi
   refine Ev.step (fun k => by rw [a_z.l0,if_pos (by omega),if_pos (by omega),if_pos (by omega),if_pos rfl,e_z i (by omega)]) ?_
   refine Ev.bind (r_c _ (hL.2 _)) ?_
   exact ih (i + 1) (by omega)
 refine Ev.congr (f:=fun k => a_z.j0 k false L en L en) (fun k => by unfold a_z.f;rw [if_pos rfl,bne_self_eq_false]) ?_
 exact Ev.step (fun k => by rw [a_z.j0,if_neg (by decide)];rfl) (key L.length 0 (by omega))
theorem rd27 (l : List S27) (j : Nat) (hj : j < l.length) : a_o l (j : Int) = l[j]:=by
 unfold a_o;rw [Int.toNat_natCast,List.getD_eq_getElem?_getD,List.getElem?_eq_getElem hj];rfl
theorem q_1 (hL : Small L) (en : Int) : Ev (fun k => a_C.f k L en) (L,en):=by
 have hL1:=hL.1
 have key : ∀ d i,i + d = L.length → Ev (fun k => a_C.l0 k L (L.length : Int) (i : Int) (L.take i) en) (L,en):=by
  intro d
  induction d with
  | zero => intro i hi;exact Ev.step (f:=fun _ => some (L,en)) (fun k => by rw [a_C.l0,if_neg (by omega),List.take_of_length_le (by omega)]) (Ev.now _)
  | succ d ih =>
   intro i hi
   have hs:=hL.2 (i : Int)
   refine Ev.step (fun k => ?_) (ih (i + 1) (by omega))
   rw [a_C.l0,if_pos (by omega),if_pos (by omega),if_pos (by omega),Option.bind_some,if_pos (by simp;omega),if_pos (by rw [List.length_take];omega),e_z i (by omega),List.nil_append,List.take_succ_eq_append_getElem (by omega),rd27 L i (by omega)]
 exact key L.length 0 (by omega)
end Go.Proofs.Ytgglkfilkagblaa.Pure
end
section
namespace Go.Proofs.Ytgglkfilkagblaa.Pure
open Go.RowKit Go.Proofs.Ytgglkfilkagblaa.Q Go.Proofs.YtgglkfilkagblaaW.PrintWords Go.Proofs.YtgglkfilkagblaaW.PrintLast Go.Proofs.YtgglkfilkagblaaW.PrintMore
set_option linter.unusedVariables false
set_option linter.unusedSimpArgs false
variable {L : List S27} {en : Int}
def addL (L : List S27) (a : Int) : List S27:=if 0 < L.length ∧ at_ L (L.length - 1) = a then L.take (L.length - 1) else L
def addV (L : List S27) (en a : Int) (l : List S65) : List S27 × Int × Int :=
 if i_J L en = true then (if g_4 a l = true ∧ en ≤ a then (addL L a ++ [⟨a,l⟩],a,0) else ([],0,2)) else ([],0,390)
theorem z_2 (ho : k_h L = false) (en a : Int) (l : List S65) (hl : l.length ≤ 1000000) : Ev (fun k => a_Y.f k L en a l) (addV L en a l):=by
 have hn:=(g_U ho).1
 unfold a_Y.f addV
 refine Ev.bind (l_X L (k_E ho) en) ?_
 cases hg : i_J L en with
 | false => exact Ev.now _
 | true =>
  simp only [if_true]
  refine Ev.bind (o_2 a l hl) ?_
  cases hr : g_4 a l with
  | false => exact Ev.now _
  | true =>
   simp only [if_true,true_and]
   by_cases c : a < en
   ·simp only [if_pos c,if_neg (show ¬ en ≤ a by omega)];exact Ev.now _
   simp only [if_neg c,if_pos (show en ≤ a by omega)]
   have hm : d_R.f L = some L:=by unfold d_R.f;simp;omega
   simp only [hm,Option.bind_some]
   unfold addL
   by_cases c0 : 0 < L.length
   rotate_left
   ·simp only [if_neg (show ¬ (L.length : Int) > 0 by omega),if_neg (show ¬ (0 < L.length ∧ _) from fun h => c0 h.1)]
    refine Ev.step (f:=fun _ => some (L ++ [⟨a,l⟩],a,0)) (fun k => ?_) (Ev.now _)
    rw [a_Y.j0,if_neg (by decide),if_neg (by omega),if_pos (by omega)]
   obtain ⟨m,em⟩ : ∃ m,L.length = m + 1:=⟨L.length - 1,by omega⟩
   have hp:=h_F m (by omega)
   simp only [em,hp,show ((m + 1 : Nat) : Int) > 0 by omega,show (0 : Int) ≤ (m : Int) by omega,show (m : Int) < ((m + 1 : Nat) : Int) by omega,if_true,Nat.add_sub_cancel,show 0 < m + 1 by omega,true_and]
   unfold at_
   by_cases c1 : (a_o L (m : Int)).f0 = a
   ·have hb : ((a_o L (m : Int)).f0 == a) = true:=by rw [c1];exact BEq.rfl
    simp only [hb,if_pos c1]
    refine Ev.step (f:=fun _ => some (L.take m ++ [⟨a,l⟩],a,0)) (fun k => ?_) (Ev.now _)
    rw [a_Y.j0,if_pos rfl,hp,if_pos (by omega),if_pos (by omega),Option.bind_some,Int.toNat_natCast,if_neg (by rw [List.length_take];omega),if_pos (by rw [List.length_take];omega)]
   have hb : ((a_o L (m : Int)).f0 == a) = false:=by simp [c1]
   simp only [hb,if_neg c1]
   refine Ev.step (f:=fun _ => some (L ++ [⟨a,l⟩],a,0)) (fun k => ?_) (Ev.now _)
   rw [a_Y.j0,if_neg (by decide),if_neg (by omega),if_pos (by omega)]
theorem s_z (h : k_m L en) (a : Int) (l : List S65) (ha : en ≤ a) : Ev (fun k => a_v.l0 k [] 0 L en a l) (addL L a ++ [⟨a,l⟩],a,0):=by
 have hn:=h.n
 have fin : ∀ M : List S27,M.length ≤ 120 → Ev (fun k => a_v.l0 k M (L.length : Int) L en a l) (M ++ [⟨a,l⟩],a,0):=fun M hM =>
  Ev.step (f:=fun _ => some (M ++ [⟨a,l⟩],a,0)) (fun k => by rw [a_v.l0,if_neg (by omega),if_neg (by omega),if_pos (by omega)]) (Ev.now _)
 have key : ∀ d i,i + d = L.length → 0 < d → Ev (fun k => a_v.l0 k (L.take i) (i : Int) L en a l) (addL L a ++ [⟨a,l⟩],a,0):=by
  intro d
  induction d with
  | zero => intro i hi h0;omega
  | succ d ih =>
   intro i hi _
   have e27 : (⟨(a_o L (i : Int)).f0,(a_o L (i : Int)).f1⟩ : S27) = L[i]:=rd27 L i (by omega)
   rcases Nat.eq_zero_or_pos d with rfl|hd
   ·have ei : L.length - 1 = i:=by omega
    by_cases c : (a_o L (i : Int)).f0 = a
    ·have hA : addL L a = L.take i:=by unfold addL;rw [if_pos ⟨by omega,by rw [ei];exact c⟩,ei]
     rw [hA]
     refine Ev.step (fun k => by rw [a_v.l0,if_pos (by omega),if_pos (by omega),if_pos c,e_z i (by omega),show i + 1 = L.length by omega]) (fin _ ?_)
     rw [List.length_take];omega
    have hA : addL L a = L:=by unfold addL;rw [if_neg (fun h => c (by have:=h.2;rw [ei] at this;exact this))]
    rw [hA]
    refine Ev.step (fun k => ?_) (fin L hn)
    rw [a_v.l0,if_pos (by omega),if_pos (by omega),if_neg c,if_pos (by rw [List.length_take];omega),e_z i (by omega),e27, ← List.take_succ_eq_append_getElem (by omega),show i + 1 = L.length by omega,List.take_length]
   have lt : at_ L i < at_ L (i + 1):=h.up i (by omega)
   have le:=h.hi (i + 1) (by omega)
   have c : ¬ (a_o L (i : Int)).f0 = a:=by unfold at_ at lt le;omega
   refine Ev.step (fun k => ?_) (ih (i + 1) (by omega) hd)
   rw [a_v.l0,if_pos (by omega),if_pos (by omega),if_neg c,if_pos (by rw [List.length_take];omega),e_z i (by omega),e27, ← List.take_succ_eq_append_getElem (by omega)]
 rcases Nat.eq_zero_or_pos L.length with h0|h0
 ·have hL : L = []:=List.eq_nil_of_length_eq_zero h0
  have:=fin [] (by simp)
  rw [h0] at this
  have hA : addL L a = []:=by unfold addL;rw [if_neg (fun h => by omega),hL]
  rw [hA];exact this
 exact key L.length 0 (by omega) h0
theorem v_F (ho : k_h L = false) (hm : Mays L) (en a : Int) (l : List S65) (hl : l.length ≤ 1000000) (hml : ∀ i : Int,May (a_c l i)) : Ev (fun k => a_v.f k L en a l) (addV L en a l):=by
 have hn:=(g_U ho).1
 have bad : Ev (fun k => a_v.j0 k true L en a l) ([],0,2):=Ev.step (f:=fun _ => some ([],0,2)) (fun k => by rw [a_v.j0,if_pos rfl]) (Ev.now _)
 unfold a_v.f addV
 refine Ev.bind (n_J (k_E ho) hm en) ?_
 cases hg : i_J L en with
 | false => exact Ev.now _
 | true =>
  simp only [if_true]
  refine Ev.bind (l_r l hl hml a) ?_
  cases hr : g_4 a l with
  | false => exact bad
  | true =>
   simp only [if_true,true_and]
   by_cases c : a < en
   ·simp only [decide_eq_true c,if_neg (show ¬ en ≤ a by omega)];exact bad
   simp only [decide_eq_false c,if_pos (show en ≤ a by omega)]
   exact Ev.step (fun k => by rw [a_v.j0,if_neg (by decide)]) (s_z (q_V ho hg) a l (by omega))
def r_4 (L : List S27) (en tq : Int) : List S27 × Int × Int:=if i_J L en = true then (if tq < en ∨ 1125899906842624 < tq then ([],0,2) else (L,tq,0)) else ([],0,390)
theorem v_V (hL : Small L) (en tq : Int) : Ev (fun k => b_J.f k L en tq) (r_4 L en tq):=by
 unfold b_J.f r_4
 refine Ev.bind (l_X L hL en) ?_
 cases hg : i_J L en with
 | false => exact Ev.now _
 | true =>
  simp only [if_true]
  by_cases c1 : tq < en
  ·simp only [if_pos c1,if_pos (Or.inl c1 : tq < en ∨ 1125899906842624 < tq),if_true];exact Ev.now _
  by_cases c2 : tq > 1125899906842624
  ·simp only [if_neg c1,if_pos c2,if_pos (Or.inr c2 : tq < en ∨ 1125899906842624 < tq)];exact Ev.now _
  simp only [if_neg c1,if_neg c2,if_neg (show ¬ (tq < en ∨ 1125899906842624 < tq) by omega)];exact Ev.now _
theorem o_n {M : List S27} (h1 : M.length ≤ 1000000) (h2 : ∀ x ∈ M,x.f1.length ≤ 1000000) : Small M:=by
 refine ⟨h1,fun i => ?_⟩
 unfold a_o
 rw [List.getD_eq_getElem?_getD]
 by_cases h : i.toNat < M.length
 ·rw [List.getElem?_eq_getElem h];exact h2 _ (List.getElem_mem h)
 rw [List.getElem?_eq_none (by omega)];simp [z27]
theorem o_1 (ho : k_h L = false) (en a : Int) (l : List S65) (hl : l.length ≤ 30) : Small (addV L en a l).1:=by
 have hs:=g_U ho
 have hL : ∀ x ∈ L,x.f1.length ≤ 30:=fun x hx => by obtain ⟨i,rfl⟩:=v_v hx;exact hs.2 i
 have nil : Small []:=⟨by simp,fun i => by simp [a_o,z27]⟩
 unfold addV
 split
 ·split
  ·refine o_n ?_ fun x hx => ?_
   ·unfold addL;split <;> simp <;> omega
   rw [List.mem_append,List.mem_singleton] at hx
   rcases hx with hx|rfl
   ·unfold addL at hx
    split at hx
    ·have:=hL x (List.mem_of_mem_take hx);omega
    have:=hL x hx;omega
   simp;omega
  exact nil
 exact nil
theorem v_y {s : S65} (h : (Lit.int .u32 s.f7).wf = true) : May s:=by
 simp [Lit.wf,IntKind.min,IntKind.max,IntKind.signed,IntKind.bits] at h
 unfold May
 omega
theorem o_L {l : List S65} (h : ∀ s ∈ l,wf65 s) (i : Int) : May (a_c l i):=by
 unfold a_c
 rw [List.getD_eq_getElem?_getD]
 by_cases c : i.toNat < l.length
 ·rw [List.getElem?_eq_getElem c]
  have:=h _ (List.getElem_mem c)
  unfold wf65 at this
  exact v_y this.2.2.2.2.2.2.2.1
 rw [List.getElem?_eq_none (by omega)]
 simp [z65,May]
theorem r_Y {M : List S27} (h : ∀ m ∈ M,wf27 m) : Mays M:=by
 intro i j
 by_cases c : i.toNat < M.length
 ·have:=h _ (List.getElem_mem c)
  have e : a_o M i = M[i.toNat]:=by unfold a_o;rw [List.getD_eq_getElem?_getD,List.getElem?_eq_getElem c];rfl
  rw [e]
  unfold wf27 at this
  exact o_L this.2.2 j
 have e : a_o M i = z27:=by unfold a_o;rw [List.getD_eq_getElem?_getD,List.getElem?_eq_none (by omega)];rfl
 rw [e]
 simp [z27,a_c,z65,May]
theorem q_W : Ev (fun k => a_4.f k) true:=Ev.of (k:=40) (fun k => a_4.mono k) (by kernel_rfl)
theorem o_5 (L : List S27) (en a : Int) (l : List S65) (tq : Int) (h0 : wf24 ⟨L,en⟩) (h1 : wf27 ⟨a,l⟩) {C : Prop} (_ : C) : ∃ k,a_u.f k L en a l tq = some true:=by
 have hm : Mays L:=by unfold wf24 at h0;exact r_Y h0.1.2
 have hml : ∀ i : Int,May (a_c l i):=by unfold wf27 at h1;exact o_L h1.2.2
 clear h0 h1
 refine Ev.rounds ?_
 unfold a_u.f
 refine Ev.bind q_W ?_
 simp only [if_true]
 refine Ev.bind (v_7 L en) ?_
 have yes : Ev (fun k => a_u.j0 k tq true L en a l) true:=Ev.step (f:=fun _ => some true) (fun k => by rw [a_u.j0,if_pos rfl]) (Ev.now _)
 cases ho : k_h L with
 | true => exact yes
 | false =>
  simp only [Bool.false_eq_true,if_false]
  by_cases c : (l.length : Int) > 30
  ·simp only [decide_eq_true c];exact yes
  simp only [decide_eq_false c]
  have hs:=k_E ho
  refine Ev.step (fun k => by rw [a_u.j0,if_neg (by decide)]) ?_
  refine Ev.bind (q_1 hs en) ?_
  refine Ev.bind (z_2 ho en a l (by omega)) ?_
  refine Ev.bind (v_V hs en tq) ?_
  refine Ev.bind (v_F ho hm en a l (by omega) hml) ?_
  simp only [if_true]
  refine Ev.bind (l_W (o_1 ho en a l (by omega)) _) ?_
  simp only [if_true]
  refine Ev.bind (l_W hs en) ?_
  refine Ev.step (fun k => by rw [Bool.not_true,a_u.j1,if_neg (by decide)]) ?_
  refine Ev.bind (l_X L hs en) ?_
  refine Ev.bind (n_J hs hm en) ?_
  unfold r_4
  cases hg : i_J L en with
  | false => exact Ev.now _
  | true =>
   simp only [if_true]
   by_cases c1 : tq < en
   ·simp only [if_pos c1,if_pos (Or.inl c1 : tq < en ∨ 1125899906842624 < tq),if_true];exact Ev.now _
   by_cases c2 : tq > 1125899906842624
   ·simp only [if_neg c1,if_pos c2,if_pos (Or.inr c2 : tq < en ∨ 1125899906842624 < tq),if_true];exact Ev.now _
   simp only [if_neg c1,if_neg c2,if_neg (show ¬ (tq < en ∨ 1125899906842624 < tq) by omega),if_true]
   exact Ev.bind (l_W hs tq) (Ev.now _)
end Go.Proofs.Ytgglkfilkagblaa.Pure
end
section
namespace Go.Proofs.Ytgglkfilkagblaa.auditAdds
open Go.ChangeShapes Go.WideShapes Go.ChangeAt Go.RowKit Go.Proofs.Ytgglkfilkagblaa.Q
open Go.Proofs.YtgglkfilkagblaaW.PrintWords Go.Proofs.YtgglkfilkagblaaW.PrintLast Go.Proofs.YtgglkfilkagblaaW.PrintMore
set_option linter.unusedVariables false
set_option linter.unusedSimpArgs false
set_option maxRecDepth 100000 in
theorem lifted (os : Os) (started : os.Started) (H : Type) (enc : TypeId × Value → H) :
 ReturnsInHanded {} Try.checked os 3 .any (Rows.auditAddsSpec.pre6 enc Try.prog Try.f3 Rows.auditAddsRow.domain false) (Rows.auditAddsSpec.post enc Try.prog Try.f3 false true false false):=by
 refine returnsInHanded_of_change_sized (C:=Try.checked) own started (by kernel_rfl) Try.func3
  (ChangeSpec.witness6 (enc:=enc) (C:=Try.checked) false ⟨#[],#[.agg #[.slice none 0 0,.int .i64 0],.agg #[.int .i64 0,.slice none 0 0],.int .i64 0],[]⟩ 8 (by kernel_rfl) (by kernel_rfl) (by kernel_rfl) (by kernel_rfl)) ?_
 intro W base args ds gs before hval0 hW hcnd hsz0 _
 have hval : ∀ (j : Nat) t v,Try.f3.params[j]? = some t → args[j]? = some v → Value.okWide Try.prog W .any base t v:=hval0
 have hW':=hW
 obtain ⟨p,q,hA0,hV,rfl,hfz,hnd⟩:=hW
 have hA : DataW.TrodAll enc Try.prog W 0 (fun _ => true) true Try.f3.params.toList args.toList ds p:=hA0
 rw [Try.params3] at hA hval
 obtain ⟨v0,vs0,d0,ds0,p0,q0,hargs,rfl,rfl,h0,r0⟩:=trodAll_cons hA
 obtain ⟨v1,vs1,d1,ds1,p1,q1,rfl,rfl,rfl,h1,r1⟩:=trodAll_cons r0
 obtain ⟨v2,vs2,d2,ds2,p2,q2,rfl,rfl,rfl,h2,r2⟩:=trodAll_cons r1
 obtain ⟨rfl,rfl,rfl⟩:=trodAll_nil r2
 obtain rfl : args = #[v0,v1,v2]:=by cases args;simp_all
 obtain ⟨rfl,rfl⟩:=trodVars_none hV
 have k0:=h0
 have lt0 : ∀ x ∈ p0,x.block < W.heap.size:=by obtain ⟨m,hm⟩:=k0;exact DataW.trod_lt m _ _ _ hm
 obtain ⟨cs0,rfl,hz0⟩:=okWide_struct Try.underlying24 (hval 0 24 v0 rfl rfl)
 obtain ⟨fuel0,hf0⟩:=h0
 obtain ⟨x0,hK0,wf0_⟩:=op24.open_ hf0
 obtain ⟨A0_0,c0_0,he0,hc0_0,hr0_0⟩:=r_i hK0
 have hq0:=toList_eq he0
 simp only [Value.cells] at hq0
 subst hq0
 have k1:=h1
 have lt1 : ∀ x ∈ p1,x.block < W.heap.size:=by obtain ⟨m,hm⟩:=k1;exact DataW.trod_lt m _ _ _ hm
 obtain ⟨cs1,rfl,hz1⟩:=okWide_struct Try.underlying27 (hval 1 27 v1 rfl rfl)
 obtain ⟨fuel1,hf1⟩:=h1
 obtain ⟨x1,hK1,wf1_⟩:=op27.open_ hf1
 obtain ⟨A1_1,c1_1,he1,hc1_1,hr1_1⟩:=i_N hK1
 have hq1:=toList_eq he1
 simp only [Value.cells] at hq1
 subst hq1
 obtain ⟨a2,rfl,rfl,rfl,w2⟩:=open_int Try.underlying2 (hval 2 2 v2 rfl rfl) h2
 obtain ⟨K,hK⟩:=Pure.o_5 x0.f0 x0.f1 x1.f0 x1.f1 a2 wf0_ wf1_ w2
 refine (a_u.calls _ _ _ _ _ _ _ _ _ _ _ _ hr0_0 hc0_0 hr1_1 hc1_1 hK).mono fun e W' ⟨he,bel⟩ => ?_
 subst he
 exact ⟨_,rfl,_,_,_,[],_,[],hW',trodAll_mk1 (shut_bool Try.underlying4 _),(trodAll_cons_mk (Below.trod laidOut (by kernel_rfl) (of_decide_eq_true (by kernel_rfl)) k0 bel lt0) (trodAll_cons_mk (Below.trod laidOut (by kernel_rfl) (of_decide_eq_true (by kernel_rfl)) k1 bel lt1) (trodAll_cons_mk (shut_int Try.underlying2 w2) trodAll_mk0))),rfl,bel.frame _,fun h => by cases h⟩
theorem over : Rows.auditAddsRow.holds Try.pinned (OpenSpec.ofChange Rows.auditAddsSpec) :=
 OpenClaim.holds_of_wide 3 Try.f3 rfl rfl rfl rfl rfl rfl rfl ⟨rfl,rfl,rfl,rfl,rfl⟩ rfl rfl rfl rfl rfl (by kernel_rfl) Try.func3 (by kernel_rfl)
  (of_decide_eq_true (by kernel_rfl)) (by unfold Func.isWrapper;first|(rw [if_pos (by decide +kernel)];kernel_rfl)|(rw [if_neg (by decide +kernel)];exact ⟨rfl,rfl⟩))
  (fun os started H enc _ => lifted os started H enc)
theorem proved : Rows.AuditAddsSaid:=over
#print axioms proved
end Go.Proofs.Ytgglkfilkagblaa.auditAdds
namespace Go.Proofs.Ytgglkfilkagblaa
theorem auditAdds_holds : Rows.AuditAddsSaid:=auditAdds.proved
end Go.Proofs.Ytgglkfilkagblaa
end
