/- Part 7 of 7 of what the row of PoolTells stands on: contracts over the given program's functions, the plain law, the row; no condition beyond those that each theorem states. -/
import Derived.Test.YtkhbffjfclepfaaXPoolTells5
section
namespace Go.Proofs.Ytkhbffjfclepfaa.Pure
open Go.RowKit Go.Proofs.Ytkhbffjfclepfaa.Q Go.Proofs.YtkhbffjfclepfaaW.PrintWords Go.Proofs.YtkhbffjfclepfaaW.PrintLast Go.Proofs.YtkhbffjfclepfaaW.PrintMore
set_option linter.unusedVariables false
set_option linter.unusedSimpArgs false
theorem c_C (n : Nat) (h : n < 9223372036854775807) : wrap64 ((n : Int) + 1) = ((n + 1 : Nat) : Int):=by unfold wrap64;omega
theorem i_e (n : Int) (h0 : -9223372036854775808 ≤ n) (h1 : n ≤ 9223372036854775807) : wrap64 n = n:=by unfold wrap64;omega
theorem wraps_u32 (n : Int) (h₀ : 0 ≤ n) (h₁ : n < 2 ^ 32) : IntKind.u32.wrap n = n:=by rw [IntKind.wrap_u32];omega
theorem g_P {a b : Nat} (ha : a < 2 ^ 32) (hb : b < 2 ^ 32) : Go.bits .and .u32 (a : Int) (b : Int) = ((a &&& b : Nat) : Int):=(bits_nat .u32 32 (by decide) wraps_u32 a b ha hb).1
theorem or_n {a b : Nat} (ha : a < 2 ^ 32) (hb : b < 2 ^ 32) : Go.bits .or .u32 (a : Int) (b : Int) = ((a ||| b : Nat) : Int):=(bits_nat .u32 32 (by decide) wraps_u32 a b ha hb).2
def nd (a b : Nat) : Nat:=(BitVec.ofNat 32 a &&& ~~~BitVec.ofNat 32 b).toNat
theorem j_W (a b : Nat) : nd a b < 2 ^ 32:=BitVec.isLt _
theorem nd_n (a b : Nat) : Go.bits .andNot .u32 (a : Int) (b : Int) = (nd a b : Int):=by
 have h : Go.bits .andNot .u32 (a : Int) (b : Int) = IntKind.u32.wrap ((nd a b : Nat) : Int):=by
  simp only [Go.bits,BitVec.ofInt_natCast,nd]
  rfl
 rw [h]
 exact wraps_u32 _ (Int.natCast_nonneg _) (by have:=j_W a b;exact_mod_cast this)
theorem i_s {a b : Nat} (ha : a < 2 ^ 32) (i : Nat) : (nd a b).testBit i = (a.testBit i && !b.testBit i):=by
 unfold nd
 rw [BitVec.testBit_toNat,BitVec.getLsbD_and,BitVec.getLsbD_not,BitVec.getLsbD_ofNat,BitVec.getLsbD_ofNat]
 by_cases h : i < 32
 ·simp [h]
 have : a.testBit i = false:=Nat.testBit_lt_two_pow (Nat.lt_of_lt_of_le ha (Nat.pow_le_pow_right (by decide) (by omega)))
 simp [h,this]
theorem d_b {a b : Nat} : a &&& b = 0 ↔ ∀ i,a.testBit i = true → b.testBit i = false:=by
 constructor
 ·intro h i hi
  have:=congrArg (Nat.testBit · i) h
  simp [Nat.testBit_and,hi] at this
  exact this
 intro h
 apply Nat.eq_of_testBit_eq
 intro i
 rw [Nat.testBit_and,Nat.zero_testBit]
 cases ha : a.testBit i
 ·rfl
 simp [h i ha]
theorem h_A {a b : Nat} (ha : a < 2 ^ 32) : nd a b = 0 ↔ ∀ i,a.testBit i = true → b.testBit i = true:=by
 constructor
 ·intro h i hi
  have:=congrArg (Nat.testBit · i) h
  simp [i_s ha,hi] at this
  exact this
 intro h
 apply Nat.eq_of_testBit_eq
 intro i
 rw [i_s ha,Nat.zero_testBit]
 cases hx : a.testBit i
 ·rfl
 simp [h i hx]
theorem e_s {a i : Nat} (ha : a < 256) (hi : 8 ≤ i) : a.testBit i = false:=Nat.testBit_lt_two_pow (Nat.lt_of_lt_of_le (show a < 2 ^ 8 by omega) (Nat.pow_le_pow_right (by decide) hi))
theorem f_r {a : Nat} (h : ∀ i,8 ≤ i → a.testBit i = false) : a < 256:=by
 apply Nat.lt_of_not_le
 intro hc
 obtain ⟨i,hi,hi'⟩:=Nat.exists_ge_and_testBit_of_ge_two_pow (show 2 ^ 8 ≤ a by omega)
 rw [h i hi] at hi'
 cases hi'
theorem i_f {a : Nat} (ha : a < 2 ^ 32) : nd a 255 = 0 ↔ a < 256:=by
 rw [h_A ha]
 constructor
 ·intro h
  refine f_r fun i hi => ?_
  cases hx : a.testBit i
  ·rfl
  have:=h i hx
  rw [e_s (by omega) hi] at this
  cases this
 intro h i hi
 have h8 : i < 8:=by
  apply Nat.lt_of_not_le
  intro hc
  rw [e_s h hc] at hi
  cases hi
 have : i = 0 ∨ i = 1 ∨ i = 2 ∨ i = 3 ∨ i = 4 ∨ i = 5 ∨ i = 6 ∨ i = 7:=by omega
 rcases this with rfl|rfl|rfl|rfl|rfl|rfl|rfl|rfl <;> decide
def up (S : List Nat) : List Int:=S.map fun (n : Nat) => (n : Int)
theorem b_j (S : List Nat) : (up S).length = S.length:=List.length_map _
theorem j_2 (l : List Int) (h : ∀ x ∈ l,0 ≤ x ∧ x < 4294967296) : ∃ S,l = up S ∧ ∀ s ∈ S,s < 4294967296:=by
 refine ⟨l.map Int.toNat,?_,?_⟩
 ·unfold up
  rw [List.map_map]
  conv => lhs;rw [← List.map_id l]
  apply List.map_congr_left
  intro x hx
  have:=h x hx
  simp;omega
 intro s hs
 obtain ⟨x,hx,rfl⟩:=List.mem_map.1 hs
 have:=h x hx
 omega
theorem j_3 (S : List Nat) (i : Nat) : rd (up S) (i : Int) = ((S.getD i 0 : Nat) : Int):=by
 unfold rd up
 simp [List.getD_eq_getElem?_getD]
 cases S[i]? <;> simp
def cnt (S : List Nat) (c : Nat) : Nat:=S.countP (·.testBit c)
theorem e_l (s : Nat) (S : List Nat) (c : Nat) : cnt (s :: S) c = (if s.testBit c then 1 else 0) + cnt S c:=by
 unfold cnt
 rw [List.countP_cons]
 omega
theorem f_U (c : Nat) : cnt [] c = 0:=rfl
structure Good (S : List Nat) : Prop where
 len1 : 1 ≤ S.length
 len4 : S.length ≤ 4
 each : ∀ s ∈ S,s ≠ 0 ∧ s < 256
 one : ∃ m,m ≤ 8 ∧ ∀ c,cnt S c = if c < m then 1 else 0
open Classical in
noncomputable def gd (S : List Nat) : Bool:=decide (Good S)
theorem e_o {S : List Nat} : gd S = true ↔ Good S:=by unfold gd;simp
theorem g_U {S : List Nat} : gd S = false ↔ ¬Good S:=by unfold gd;simp
theorem e_Y (S : List Nat) (a c : Nat) : (S.foldl (· ||| ·) a).testBit c = (a.testBit c || decide (1 ≤ cnt S c)):=by
 induction S generalizing a with
 | nil => simp [f_U]
 | cons s S ih =>
  rw [List.foldl_cons,ih,Nat.testBit_or,e_l]
  cases a.testBit c <;> cases s.testBit c <;> simp
theorem g_X : ∀ U,U < 256 → U &&& (U + 1) = 0 → ∃ m,m ≤ 8 ∧ U = 2 ^ m - 1:=by
 intro U hU h
 have key : ∀ U : Fin 256,U.val &&& (U.val + 1) = 0 → U.val = 0 ∨ U.val = 1 ∨ U.val = 3 ∨ U.val = 7 ∨ U.val = 15 ∨ U.val = 31 ∨ U.val = 63 ∨ U.val = 127 ∨ U.val = 255:=by decide +kernel
 rcases key ⟨U,hU⟩ h with h|h|h|h|h|h|h|h|h <;> simp only at h
 ·exact ⟨0,by decide,h⟩
 ·exact ⟨1,by decide,h⟩
 ·exact ⟨2,by decide,h⟩
 ·exact ⟨3,by decide,h⟩
 ·exact ⟨4,by decide,h⟩
 ·exact ⟨5,by decide,h⟩
 ·exact ⟨6,by decide,h⟩
 ·exact ⟨7,by decide,h⟩
 exact ⟨8,by decide,h⟩
theorem g_3 (S : List Nat) : Good S ↔ (1 ≤ S.length ∧ S.length ≤ 4) ∧ (∀ s ∈ S,s ≠ 0 ∧ s < 256) ∧ (∀ c,cnt S c ≤ 1) ∧ (S.foldl (· ||| ·) 0) &&& ((S.foldl (· ||| ·) 0 + 1) % 4294967296) = 0:=by
 have hU : (∀ s ∈ S,s ≠ 0 ∧ s < 256) → S.foldl (· ||| ·) 0 < 256:=fun h => f_r fun i hi => by
  rw [e_Y]
  have : cnt S i = 0:=by
   unfold cnt
   rw [List.countP_eq_zero]
   intro s hs
   simp [e_s (h s hs).2 hi]
  simp [this]
 constructor
 ·rintro ⟨h1,h4,he,m,hm,ho⟩
  refine ⟨⟨h1,h4⟩,he,fun c => by rw [ho];split <;> omega,?_⟩
  have hu : S.foldl (· ||| ·) 0 = 2 ^ m - 1:=by
   apply Nat.eq_of_testBit_eq
   intro c
   rw [e_Y,ho,Nat.testBit_two_pow_sub_one]
   by_cases hc : c < m <;> simp [hc]
  rw [hu]
  have : m = 0 ∨ m = 1 ∨ m = 2 ∨ m = 3 ∨ m = 4 ∨ m = 5 ∨ m = 6 ∨ m = 7 ∨ m = 8:=by omega
  rcases this with rfl|rfl|rfl|rfl|rfl|rfl|rfl|rfl|rfl <;> decide
 rintro ⟨⟨h1,h4⟩,he,hc,hz⟩
 have h:=hU he
 rw [Nat.mod_eq_of_lt (by omega)] at hz
 obtain ⟨m,hm,hu⟩:=g_X _ h hz
 refine ⟨h1,h4,he,m,hm,fun c => ?_⟩
 have:=e_Y S 0 c
 rw [hu,Nat.testBit_two_pow_sub_one] at this
 simp at this
 have:=hc c
 by_cases hcm : c < m
 ·simp [hcm] at this ⊢; omega
 simp [hcm] at this ⊢; omega
def pc (s : Nat) : Nat:=(s.testBit 0).toNat + (s.testBit 1).toNat + (s.testBit 2).toNat + (s.testBit 3).toNat + (s.testBit 4).toNat + (s.testBit 5).toNat + (s.testBit 6).toNat + (s.testBit 7).toNat
theorem i_r (S : List Nat) : (S.map pc).sum = cnt S 0 + cnt S 1 + cnt S 2 + cnt S 3 + cnt S 4 + cnt S 5 + cnt S 6 + cnt S 7:=by
 induction S with
 | nil => rfl
 | cons s S ih =>
  have h : ∀ c,(if s.testBit c = true then 1 else 0) = (s.testBit c).toNat:=fun c => by cases s.testBit c <;> rfl
  simp only [List.map_cons,List.sum_cons,e_l,ih,pc,h]
  omega
theorem f_6 (S : List Nat) : Good S ↔ (1 ≤ S.length ∧ S.length ≤ 4) ∧ (∀ s ∈ S,s ≠ 0 ∧ s < 256) ∧ ∀ c,c < (S.map pc).sum → c < 8 ∧ cnt S c = 1:=by
 rw [i_r]
 constructor
 ·rintro ⟨h1,h4,he,m,hm,ho⟩
  refine ⟨⟨h1,h4⟩,he,fun c hc => ?_⟩
  simp only [ho] at hc ⊢
  have : m = 0 ∨ m = 1 ∨ m = 2 ∨ m = 3 ∨ m = 4 ∨ m = 5 ∨ m = 6 ∨ m = 7 ∨ m = 8:=by omega
  rcases this with rfl|rfl|rfl|rfl|rfl|rfl|rfl|rfl|rfl <;> simp at hc <;> exact ⟨by omega,by rw [if_pos (by omega)]⟩
 rintro ⟨⟨h1,h4⟩,he,hc⟩
 have hz : ∀ i,8 ≤ i → cnt S i = 0:=fun i hi => by
  unfold cnt
  rw [List.countP_eq_zero]
  intro s hs
  simp [e_s (he s hs).2 hi]
 generalize hn : cnt S 0 + cnt S 1 + cnt S 2 + cnt S 3 + cnt S 4 + cnt S 5 + cnt S 6 + cnt S 7 = n at hc
 have hn8 : n ≤ 8:=by
  apply Nat.le_of_not_lt
  intro h
  have:=(hc 8 h).1
  omega
 refine ⟨h1,h4,he,n,hn8,fun c => ?_⟩
 by_cases h8 : 8 ≤ c
 ·rw [hz c h8,if_neg (by omega)]
 by_cases hcn : c < n
 ·rw [if_pos hcn];exact (hc c hcn).2
 rw [if_neg hcn]
 have g : ∀ i,i < n → cnt S i = 1:=fun i hi => (hc i hi).2
 have hcs : c = 0 ∨ c = 1 ∨ c = 2 ∨ c = 3 ∨ c = 4 ∨ c = 5 ∨ c = 6 ∨ c = 7:=by omega
 have hns : n = 0 ∨ n = 1 ∨ n = 2 ∨ n = 3 ∨ n = 4 ∨ n = 5 ∨ n = 6 ∨ n = 7:=by omega
 have g0:=g 0;have g1:=g 1;have g2:=g 2;have g3:=g 3;have g4:=g 4;have g5:=g 5;have g6:=g 6
 rcases hns with rfl|rfl|rfl|rfl|rfl|rfl|rfl|rfl <;> simp at g0 g1 g2 g3 g4 g5 g6 <;> rcases hcs with rfl|rfl|rfl|rfl|rfl|rfl|rfl|rfl <;> omega
end Go.Proofs.Ytkhbffjfclepfaa.Pure
end
section
namespace Go.Proofs.Ytkhbffjfclepfaa.Pure
open Go.RowKit Go.Proofs.Ytkhbffjfclepfaa.Q Go.Proofs.YtkhbffjfclepfaaW.PrintWords Go.Proofs.YtkhbffjfclepfaaW.PrintLast Go.Proofs.YtkhbffjfclepfaaW.PrintMore
set_option linter.unusedVariables false
set_option linter.unusedSimpArgs false
def hb (s : Nat) (a : Int) : Bool:=decide (0 ≤ a ∧ a < 8) && s.testBit a.toNat
theorem f_8 (s : Nat) (c : Nat) (h : c < 8) : hb s (c : Int) = s.testBit c:=by unfold hb;rw [decide_eq_true (by omega)];simp
theorem f_Q (s : Nat) (a : Int) (h : a < 0 ∨ 8 ≤ a) : hb s a = false:=by unfold hb;rw [decide_eq_false (by omega)];rfl
theorem eight {a : Int} (h0 : 0 ≤ a) (h8 : a < 8) : ∃ c : Nat,c < 8 ∧ a = (c : Int):=⟨a.toNat,by omega,by omega⟩
theorem i_p (c : Nat) (h : c < 8) : b_0.f (c : Int) = some ((2 ^ c : Nat) : Int):=by
 have : c = 0 ∨ c = 1 ∨ c = 2 ∨ c = 3 ∨ c = 4 ∨ c = 5 ∨ c = 6 ∨ c = 7:=by omega
 rcases this with rfl|rfl|rfl|rfl|rfl|rfl|rfl|rfl <;> decide +kernel
theorem h_z (a : Int) (h : a < 0 ∨ 8 ≤ a) : b_0.f a = some 0:=by
 unfold b_0.f
 by_cases h0 : a < 0
 ·rw [if_pos h0]
 rw [if_neg h0,if_pos (by omega)]
theorem h_y (s c : Nat) : s &&& 2 ^ c = 0 ↔ s.testBit c = false:=by
 constructor
 ·intro h
  cases hx : s.testBit c
  ·rfl
  have:=d_b.1 h c hx
  simp [Nat.testBit_two_pow] at this
 intro h
 refine d_b.2 fun i hi => ?_
 rw [Nat.testBit_two_pow]
 apply decide_eq_false
 rintro rfl
 rw [h] at hi
 cases hi
theorem i_t (c : Nat) (h : c < 8) : 2 ^ c < 2 ^ 32:=Nat.pow_lt_pow_right (by decide) (by omega)
theorem j_Y (s : Nat) (hs : s < 2 ^ 32) (a : Int) : b_Z.f (s : Int) a = some (hb s a):=by
 unfold b_Z.f
 by_cases h : 0 ≤ a ∧ a < 8
 rotate_left
 ·rw [h_z a (by omega),f_Q s a (by omega)]
  simp only [Option.bind_some]
  have:=g_P (a:=s) (b:=0) hs (by decide)
  simp at this
  rw [this]
  rfl
 obtain ⟨c,hc,rfl⟩:=eight h.1 h.2
 rw [i_p c hc]
 simp only [Option.bind_some]
 rw [g_P hs (i_t c hc),f_8 s c hc]
 have:=h_y s c
 cases hx : s.testBit c
 ·rw [this.2 hx];rfl
 have h2 : s &&& 2 ^ c ≠ 0:=fun h => by rw [this.1 h] at hx;cases hx
 have h3 : (((s &&& 2 ^ c : Nat) : Int) != 0) = true:=by simp;omega
 rw [h3]
theorem i_l (s : Nat) (hs : s < 2 ^ 32) (a : Int) : hasB (s : Int) a = hb s a:=by
 have:=h_g (s : Int) a
 rw [j_Y s hs a] at this
 exact (Option.some.inj this).symm
theorem f_o (s : Nat) (a : Int) : b_o.f (s : Int) a = some (hb s a):=by
 unfold b_o.f b_z.f
 by_cases h : 0 ≤ a ∧ a < 8
 rotate_left
 ·rw [f_Q s a (by omega)]
  by_cases h0 : a ≥ 0
  ·rw [if_pos h0]
   simp only [Option.bind_some]
   rw [if_neg (by simp;omega)]
  rw [if_neg h0]
  rfl
 obtain ⟨c,hc,rfl⟩:=eight h.1 h.2
 rw [if_pos h.1]
 simp only [Option.bind_some]
 rw [if_pos (decide_eq_true h.2),if_pos h.1,f_8 s c hc]
 have e : shr .u32 (s : Int) (c : Int) = ((s / 2 ^ c : Nat) : Int):=by
  unfold shr
  rw [show min ((c : Int).toNat) (IntKind.bits .u32) = c by simp [IntKind.bits];omega]
  simp
 rw [e,Nat.testBit_eq_decide_div_mod_eq]
 congr 1
 have e2 : Int.tmod ((s / 2 ^ c : Nat) : Int) 2 = ((s / 2 ^ c % 2 : Nat) : Int):=by
  rw [Int.tmod_eq_emod_of_nonneg (Int.natCast_nonneg _)]
  simp
 rw [e2]
 by_cases h1 : s / 2 ^ c % 2 = 1
 ·rw [h1];rfl
 have : s / 2 ^ c % 2 = 0:=by omega
 rw [this];rfl
theorem g_2 (s : Nat) (hs : s < 2 ^ 32) : b_h.f (s : Int) = some (if s < 256 then 0 else 140):=by
 unfold b_h.f
 have e:=nd_n s 255
 rw [show ((255 : Nat) : Int) = 255 from rfl] at e
 rw [e]
 by_cases h : s < 256
 ·rw [if_pos (by have:=(i_f hs).2 h;omega),if_pos h]
 rw [if_neg (by intro h2;exact h ((i_f hs).1 (by omega))),if_neg h]
theorem f_4 (s : Nat) : b_s.f (s : Int) = some (decide (s < 256)):=by
 unfold b_s.f
 by_cases h : s < 256
 ·rw [decide_eq_true h,decide_eq_true (by omega)]
 rw [decide_eq_false h,decide_eq_false (by omega)]
def lst (s : Nat) : Nat → Nat → List Nat
 | 0,_ => []
 | n + 1,i => if s.testBit i then i :: lst s n (i + 1) else lst s n (i + 1)
theorem e_q (s : Nat) : ∀ n i (acc : List Int),i + n = 8 → acc.length ≤ i → Ev (fun k => a_q.l0 k (s : Int) acc (i : Int)) (acc ++ up (lst s n i))
 | 0,i,acc,hi,ha => ⟨1,fun k hk => by
  obtain ⟨k,rfl⟩ : ∃ k',k = k' + 1:=⟨k - 1,by omega⟩
  show a_q.l0 (k + 1) _ _ _ = _
  rw [a_q.l0,if_neg (by omega)]
  simp [lst,up]⟩
 | n + 1,i,acc,hi,ha => by
  by_cases hb1 : s.testBit i = true
  ·obtain ⟨K,hK⟩:=e_q s n (i + 1) (acc ++ [(i : Int)]) (by omega) (by simp;omega)
   refine ⟨K + 1,fun k hk => ?_⟩
   obtain ⟨k,rfl⟩ : ∃ k',k = k' + 1:=⟨k - 1,by omega⟩
   show a_q.l0 (k + 1) _ _ _ = _
   rw [a_q.l0,if_pos (by omega),f_o,f_8 s i (by omega),hb1]
   rw [Option.bind_some,if_pos rfl,if_pos (by omega),c_C i (by omega)]
   have:=hK k (by omega)
   rw [show a_q.l0 k (s : Int) (acc ++ [(i : Int)]) ((i + 1 : Nat) : Int) = _ from this]
   simp [lst,hb1,up]
  ·obtain ⟨K,hK⟩:=e_q s n (i + 1) acc (by omega) (by omega)
   refine ⟨K + 1,fun k hk => ?_⟩
   obtain ⟨k,rfl⟩ : ∃ k',k = k' + 1:=⟨k - 1,by omega⟩
   have hb0 : s.testBit i = false:=by simpa using hb1
   show a_q.l0 (k + 1) _ _ _ = _
   rw [a_q.l0,if_pos (by omega),f_o,f_8 s i (by omega),hb0]
   rw [Option.bind_some,if_neg (by simp),c_C i (by omega)]
   have:=hK k (by omega)
   rw [show a_q.l0 k (s : Int) acc ((i + 1 : Nat) : Int) = _ from this]
   simp [lst,hb0]
theorem h_m (s : Nat) : Ev (fun k => a_q.f k (s : Int)) (up (lst s 8 0)):=by
 have:=e_q s 8 0 [] (by decide) (by decide)
 simpa [a_q.f] using this
theorem c_T (s : Nat) : (lst s 8 0).length = pc s:=by
 have h : ∀ n i,(lst s n i).length = ((List.range n).map fun j => (s.testBit (i + j)).toNat).sum:=by
  intro n
  induction n with
  | zero => intro i;rfl
  | succ n ih =>
   intro i
   rw [List.range_succ_eq_map,List.map_cons,List.sum_cons,List.map_map]
   have e : ((List.range n).map ((fun j => (s.testBit (i + j)).toNat) ∘ Nat.succ)) = (List.range n).map fun j => (s.testBit (i + 1 + j)).toNat:=by
    apply List.map_congr_left
    intro j _
    simp only [Function.comp]
    rw [show i + Nat.succ j = i + 1 + j by omega]
   rw [e, ← ih (i + 1)]
   show (if s.testBit i = true then i :: lst s n (i + 1) else lst s n (i + 1)).length = _
   cases hx : s.testBit i <;> simp [hx]
   omega
 rw [h 8 0]
 simp [List.range_succ,pc]
 omega
theorem f_v (s : Nat) : (lst s 8 0).length ≤ 8:=by
 rw [c_T]
 unfold pc
 have : ∀ b : Bool,b.toNat ≤ 1:=fun b => by cases b <;> decide
 have h0:=this (s.testBit 0);have h1:=this (s.testBit 1);have h2:=this (s.testBit 2);have h3:=this (s.testBit 3)
 have h4:=this (s.testBit 4);have h5:=this (s.testBit 5);have h6:=this (s.testBit 6);have h7:=this (s.testBit 7)
 omega
end Go.Proofs.Ytkhbffjfclepfaa.Pure
end
section
namespace Go.Proofs.Ytkhbffjfclepfaa.Pure
open Go.RowKit Go.Proofs.Ytkhbffjfclepfaa.Q Go.Proofs.YtkhbffjfclepfaaW.PrintWords Go.Proofs.YtkhbffjfclepfaaW.PrintLast Go.Proofs.YtkhbffjfclepfaaW.PrintMore
set_option linter.unusedVariables false
set_option linter.unusedSimpArgs false
structure Fit (S : List Nat) : Prop where
 lt : ∀ s ∈ S,s < 2 ^ 32
 len : S.length ≤ 1000
theorem Good.fit {S : List Nat} (h : Good S) : Fit S:=⟨fun s hs => by have:=(h.each s hs).2;omega,by have:=h.len4;omega⟩
theorem e_d {S pre suf : List Nat} {x : Nat} (h : S = pre ++ x :: suf) : rd (up S) (pre.length : Int) = (x : Int):=by rw [j_3];subst h;simp
theorem e_M {S pre suf : List Nat} {x : Nat} (h : S = pre ++ x :: suf) : pre.length < S.length:=by subst h;simp
theorem e_5 {S pre suf : List Nat} {x : Nat} (h : S = pre ++ x :: suf) : x ∈ S:=by subst h;simp
theorem d_M {S pre : List Nat} (h : S = pre ++ []) : pre.length = S.length:=by subst h;simp
theorem c_E {S pre suf : List Nat} {x : Nat} (h : S = pre ++ x :: suf) : S = (pre ++ [x]) ++ suf:=by simp [h]
theorem c_G {pre : List Nat} {x : Nat} (h : pre.length < 1000) : wrap64 ((pre.length : Int) + 1) = ((pre ++ [x]).length : Int):=by rw [c_C pre.length (by omega)];simp
def ckl : Bool → Nat → List Nat → Bool
 | ok,A,[] => ok && (A &&& ((A + 1) % 4294967296) == 0)
 | ok,A,x :: xs => ckl (ok && (x != 0) && decide (x < 256) && (x &&& A == 0)) (A ||| x) xs
theorem f_x (S : List Nat) (hS : Fit S) : ∀ (suf pre : List Nat) (ok : Bool) (A : Nat),S = pre ++ suf → A < 2 ^ 32 → Ev (fun k => a_s.l0 k ok (A : Int) (up S) ((up S).length : Int) (pre.length : Int)) (if ckl ok A suf = true then 0 else 180)
 | [],pre,ok,A,h,hA => ⟨1,fun k hk => by
  obtain ⟨k,rfl⟩ : ∃ k',k = k' + 1:=⟨k - 1,by omega⟩
  show a_s.l0 (k + 1) _ _ _ _ _ = _
  have e : Go.bits .and .u32 (A : Int) (((A : Int) + 1) % 4294967296) = ((A &&& ((A + 1) % 4294967296) : Nat) : Int):=by
   rw [← g_P hA (show (A + 1) % 4294967296 < 2 ^ 32 by omega)]
   rfl
  rw [a_s.l0,if_neg (by rw [b_j,d_M h];omega),e]
  unfold ckl
  cases ok
  ·simp
  ·rw [if_pos rfl]
   by_cases hz : A &&& ((A + 1) % 4294967296) = 0
   ·rw [hz];simp
   ·rw [if_neg (by omega),if_neg (by simpa using hz)]⟩
 | x :: suf,pre,ok,A,h,hA => by
  have hx:=hS.lt x (e_5 h)
  have hlen:=hS.len
  have hlt:=e_M h
  have hor : A ||| x < 2 ^ 32:=Nat.or_lt_two_pow hA hx
  obtain ⟨K,hK⟩:=f_x S hS suf (pre ++ [x]) (ok && (x != 0) && decide (x < 256) && (x &&& A == 0)) (A ||| x) (c_E h) hor
  refine ⟨K + 1,fun k hk => ?_⟩
  obtain ⟨k,rfl⟩ : ∃ k',k = k' + 1:=⟨k - 1,by omega⟩
  have hk' : a_s.l0 k (ok && (x != 0) && decide (x < 256) && (x &&& A == 0)) ((A ||| x : Nat) : Int) (up S) ((up S).length : Int) ((pre ++ [x]).length : Int) = some (if ckl (ok && (x != 0) && decide (x < 256) && (x &&& A == 0)) (A ||| x) suf = true then 0 else 180):=hK k (by omega)
  show a_s.l0 (k + 1) _ _ _ _ _ = _
  rw [a_s.l0,if_pos (by rw [b_j];omega),if_pos (by omega),if_pos (by rw [b_j];omega),e_d h,or_n hA hx,g_P hx hA,c_G (x:=x) (by omega),g_2 x hx,Option.bind_some]
  show _ = some (if ckl (ok && (x != 0) && decide (x < 256) && (x &&& A == 0)) (A ||| x) suf = true then 0 else 180)
  rw [← hk']
  cases ok
  ·rw [if_neg (by simp)];simp
  ·rw [if_pos rfl]
   by_cases h0 : x = 0
   ·subst h0;rw [if_pos (by rfl)];simp
   ·rw [if_neg (by omega)]
    have e1 : (x != 0) = true:=by simp [h0]
    by_cases h256 : x < 256
    ·rw [if_pos h256,if_pos rfl,e1,decide_eq_true h256]
     have e2 : ((((x &&& A : Nat) : Int)) == 0) = ((x &&& A) == 0):=by
      cases hz : x &&& A with
      | zero => rfl
      | succ n => simp;omega
     rw [e2]
     simp
    ·rw [if_neg h256,if_neg (by decide),decide_eq_false h256]
     simp
theorem h_s (ok : Bool) (A : Nat) (S : List Nat) : ckl ok A S = true ↔ ok = true ∧ (∀ s ∈ S,s ≠ 0 ∧ s < 256) ∧ (∀ c,(if A.testBit c then 1 else 0) + cnt S c ≤ 1) ∧ (S.foldl (· ||| ·) A) &&& ((S.foldl (· ||| ·) A + 1) % 4294967296) = 0:=by
 induction S generalizing ok A with
 | nil =>
  unfold ckl
  simp only [Bool.and_eq_true,beq_iff_eq,List.foldl_nil,f_U]
  constructor
  ·rintro ⟨h1,h2⟩
   exact ⟨h1,by simp,fun c => by split <;> omega,h2⟩
  rintro ⟨h1,_,_,h2⟩
  exact ⟨h1,h2⟩
 | cons x S ih =>
  rw [ckl,ih,List.foldl_cons]
  simp only [Bool.and_eq_true,beq_iff_eq,bne_iff_ne,decide_eq_true_eq,e_l,List.forall_mem_cons]
  constructor
  ·rintro ⟨⟨⟨⟨h1,h2⟩,h3⟩,h4⟩,h5,h6,h7⟩
   refine ⟨h1,⟨⟨h2,h3⟩,h5⟩,fun c => ?_,h7⟩
   have h8:=h6 c
   have h9:=d_b.1 h4 c
   rw [Nat.testBit_or] at h8
   cases hx : x.testBit c <;> cases ha : A.testBit c <;> simp [hx,ha] at h8 h9 ⊢ <;> omega
  rintro ⟨h1,⟨⟨h2,h3⟩,h5⟩,h6,h7⟩
  refine ⟨⟨⟨⟨h1,h2⟩,h3⟩,d_b.2 fun c hc => ?_⟩,h5,fun c => ?_,h7⟩
  ·have h8:=h6 c
   cases ha : A.testBit c
   ·rfl
   simp [hc,ha] at h8;omega
  have h8:=h6 c
  rw [Nat.testBit_or]
  cases hx : x.testBit c <;> cases ha : A.testBit c <;> simp [hx,ha] at h8 ⊢ <;> omega
theorem e_h {S : List Nat} (hS : Fit S) : Ev (fun k => a_s.f k (up S)) (if gd S = true then 0 else 180):=by
 have hl:=hS.len
 have key : ∀ ok : Bool,Ev (fun k => a_s.j0 k ok (up S)) (if ckl ok 0 S = true then 0 else 180):=fun ok => by
  refine Ev.step (f:=fun k => a_s.l0 k ok 0 (up S) ((up S).length : Int) 0) (fun k => by rw [a_s.j0]) ?_
  have:=f_x S hS S [] ok 0 rfl (by decide)
  simpa using this
 have e : gd S = ckl (decide (0 < S.length) && decide (S.length ≤ 4)) 0 S:=by
  rw [Bool.eq_iff_iff,e_o,h_s,g_3]
  simp
  intro _ _
  omega
 rw [e]
 refine Ev.congr (f:=fun k => a_s.j0 k (decide (0 < S.length) && decide (S.length ≤ 4)) (up S)) (fun k => ?_) (key _)
 unfold a_s.f
 rw [b_j]
 by_cases h0 : 0 < S.length
 rotate_left
 ·rw [if_neg (by omega),decide_eq_false h0,Bool.false_and]
 rw [if_pos (by omega),decide_eq_true h0,Bool.true_and]
 congr 1
 by_cases h4 : S.length ≤ 4
 ·rw [decide_eq_true h4,decide_eq_true (by omega)]
 rw [decide_eq_false h4,decide_eq_false (by omega)]
def rof (a : Int) : List Nat → Nat → Int → Nat → Int × Bool
 | [],_,x,n => if n = 1 then (x,true) else (0,false)
 | s :: S,i,x,n => if hb s a then rof a S (i + 1) (i : Int) (n + 1) else rof a S (i + 1) x n
theorem f_V (a : Int) (S : List Nat) (hS : S.length ≤ 1000) : ∀ suf pre x n,S = pre ++ suf → n ≤ pre.length → Ev (fun k => a_l.l0 k a x (n : Int) (up S) ((up S).length : Int) (pre.length : Int)) (rof a suf pre.length x n)
 | [],pre,x,n,h,hn => ⟨1,fun k hk => by
  obtain ⟨k,rfl⟩ : ∃ k',k = k' + 1:=⟨k - 1,by omega⟩
  show a_l.l0 (k + 1) _ _ _ _ _ _ = _
  rw [a_l.l0,if_neg (by rw [b_j,d_M h];omega)]
  unfold rof
  by_cases h1 : n = 1
  ·rw [if_pos (by omega),if_pos h1]
  ·rw [if_neg (by omega),if_neg h1]⟩
 | s :: suf,pre,x,n,h,hn => by
  have hlt:=e_M h
  by_cases hh : hb s a = true
  ·obtain ⟨K,hK⟩:=f_V a S hS suf (pre ++ [s]) (pre.length : Int) (n + 1) (c_E h) (by simp;omega)
   refine ⟨K + 1,fun k hk => ?_⟩
   obtain ⟨k,rfl⟩ : ∃ k',k = k' + 1:=⟨k - 1,by omega⟩
   have hk' : a_l.l0 k a (pre.length : Int) ((n + 1 : Nat) : Int) (up S) ((up S).length : Int) ((pre ++ [s]).length : Int) = some (rof a suf (pre ++ [s]).length (pre.length : Int) (n + 1)):=hK k (by omega)
   show a_l.l0 (k + 1) _ _ _ _ _ _ = _
   rw [a_l.l0,if_pos (by rw [b_j];omega),if_pos (by omega),if_pos (by rw [b_j];omega),e_d h,f_o,Option.bind_some,if_pos hh,c_C n (by omega),c_G (x:=s) (by omega),hk',rof,if_pos hh]
   simp
  ·obtain ⟨K,hK⟩:=f_V a S hS suf (pre ++ [s]) x n (c_E h) (by simp;omega)
   refine ⟨K + 1,fun k hk => ?_⟩
   obtain ⟨k,rfl⟩ : ∃ k',k = k' + 1:=⟨k - 1,by omega⟩
   have hk' : a_l.l0 k a x (n : Int) (up S) ((up S).length : Int) ((pre ++ [s]).length : Int) = some (rof a suf (pre ++ [s]).length x n):=hK k (by omega)
   show a_l.l0 (k + 1) _ _ _ _ _ _ = _
   rw [a_l.l0,if_pos (by rw [b_j];omega),if_pos (by omega),if_pos (by rw [b_j];omega),e_d h,f_o,Option.bind_some,if_neg hh,c_G (x:=s) (by omega),hk',rof,if_neg hh]
   simp
theorem i_i (a : Int) {S : List Nat} (hS : S.length ≤ 1000) : Ev (fun k => a_l.f k (up S) a) (rof a S 0 0 0):=by
 have:=f_V a S hS S [] 0 0 rfl (Nat.le_refl _)
 simpa [a_l.f] using this
theorem e_7 (a : Int) : ∀ (S : List Nat) i x n,(rof a S i x n).2 = decide (n + S.countP (hb · a) = 1)
 | [],i,x,n => by
  unfold rof
  by_cases h : n = 1
  ·simp [h]
  ·simp [h]
 | s :: S,i,x,n => by
  rw [rof,List.countP_cons]
  by_cases h : hb s a = true
  ·rw [if_pos h,if_pos h,e_7 a S]
   rw [show n + 1 + S.countP (hb · a) = n + (S.countP (hb · a) + 1) by omega]
  ·rw [if_neg h,if_neg h,e_7 a S]
   simp
def fst_ (a : Int) (S : List Nat) : Option Nat:=S.findIdx? (hb · a)
theorem e_4 (a : Int) : ∀ (S : List Nat) i x n,n + S.countP (hb · a) ≤ 1 → rof a S i x n = if n = 1 then (x,true) else match fst_ a S with|some j => (((i + j : Nat) : Int),true)|none => (0,false)
 | [],i,x,n,h => by unfold rof fst_;simp
 | s :: S,i,x,n,h => by
  rw [List.countP_cons] at h
  unfold fst_
  rw [rof,List.findIdx?_cons]
  by_cases hh : hb s a = true
  ·rw [if_pos hh] at h ⊢
   have hn : n = 0:=by omega
   subst hn
   rw [e_4 a S _ _ _ (by omega),hh]
   simp
  ·rw [if_neg hh] at h ⊢
   rw [e_4 a S _ _ _ (by omega)]
   have hf : hb s a = false:=by simpa using hh
   rw [hf]
   unfold fst_
   by_cases hn : n = 1
   ·rw [if_pos hn,if_pos hn]
   ·rw [if_neg hn,if_neg hn]
    cases S.findIdx? (hb · a) <;> simp
    omega
theorem e_r (S : List Nat) (c : Nat) (h : c < 8) : S.countP (hb · (c : Int)) = cnt S c:=by
 unfold cnt
 congr 1
 funext s
 exact f_8 s c h
theorem e_F (S : List Nat) (a : Int) (h : a < 0 ∨ 8 ≤ a) : S.countP (hb · a) = 0:=by
 rw [List.countP_eq_zero]
 intro s _
 simp [f_Q s a h]
theorem Good.i_d {S : List Nat} (h : Good S) (a : Int) : S.countP (hb · a) ≤ 1:=by
 by_cases ha : 0 ≤ a ∧ a < 8
 rotate_left
 ·rw [e_F S a (by omega)]
  omega
 obtain ⟨c,hc,rfl⟩:=eight ha.1 ha.2
 rw [e_r S c hc]
 obtain ⟨m,hm,ho⟩:=h.one
 rw [ho]
 split <;> omega
noncomputable def ofv (a : Int) (S : List Nat) : Int × Bool:=if gd S = true then match fst_ a S with|some j => ((j : Int),true)|none => (0,false) else (0,false)
theorem j_1 (a : Int) (S : List Nat) (hS : ∀ s ∈ S,s < 2 ^ 32) : idxOf (fun s => hasB s a) (up S) = match fst_ a S with|some j => (j : Int)|none => -1:=by
 unfold idxOf fst_
 have e : (up S).findIdx? (fun s => hasB s a) = S.findIdx? (hb · a):=by
  induction S with
  | nil => rfl
  | cons s S ih =>
   show ((s : Int) :: up S).findIdx? _ = _
   rw [List.findIdx?_cons,List.findIdx?_cons,i_l s (hS s (by simp)) a,ih (fun x hx => hS x (by simp [hx]))]
 rw [e]
 cases S.findIdx? (hb · a) <;> rfl
theorem Of_n (a : Int) {S : List Nat} (hS : Fit S) : Ev (fun k => b_k.f k (up S) a) (ofv a S):=by
 have hl:=hS.len
 unfold b_k.f a_9.f
 rw [if_pos (by rw [b_j];omega)]
 simp only [Option.bind_some]
 refine Ev.bind (e_h hS) ?_
 rw [j_1 a S hS.lt]
 unfold ofv
 by_cases hg : gd S = true
 rotate_left
 ·rw [if_neg hg,if_neg hg]
  exact Ev.now _
 rw [if_pos hg,if_pos hg]
 refine Ev.congr (f:=fun _ => some (match fst_ a S with|some j => ((j : Int),true)|none => (0,false))) (fun k => ?_) (Ev.now _)
 rw [if_pos rfl]
 cases fst_ a S with
 | none => rfl
 | some j => simp only [];rw [if_neg (by omega)]
theorem g_R (a : Int) {S : List Nat} (h : Good S) : Ev (fun k => a_l.f k (up S) a) (ofv a S):=by
 have:=i_i a (S:=S) h.fit.len
 rw [e_4 a S 0 0 0 (by have:=h.i_d a;omega)] at this
 unfold ofv
 rw [if_pos (e_o.2 h)]
 simp at this
 exact this
def e_E (S : List Nat) : Nat → Nat → Bool
 | 0,_ => true
 | m + 1,i => decide (S.countP (hb · (i : Int)) = 1) && e_E S m (i + 1)
theorem e_C (S : List Nat) : ∀ m i,e_E S m i = true ↔ ∀ c,i ≤ c → c < i + m → S.countP (hb · (c : Int)) = 1
 | 0,i => by
  simp only [e_E,true_iff]
  intro c h1 h2
  omega
 | m + 1,i => by
  rw [e_E,Bool.and_eq_true,decide_eq_true_eq,e_C S m (i + 1)]
  constructor
  ·rintro ⟨h1,g⟩ c hc1 hc2
   by_cases hci : c = i
   ·subst hci;exact h1
   ·exact g c (by omega) (by omega)
  ·intro g
   exact ⟨g i (Nat.le_refl _) (by omega),fun c hc1 hc2 => g c (by omega) (by omega)⟩
theorem f_y (S : List Nat) (hS : S.length ≤ 1000) (N : Nat) (hN : N ≤ 10000) : ∀ m i,i + m = N → Ev (fun k => a_h.l1 k (N : Int) (i : Int) (up S)) (e_E S m i)
 | 0,i,h => ⟨1,fun k hk => by
  obtain ⟨k,rfl⟩ : ∃ k',k = k' + 1:=⟨k - 1,by omega⟩
  show a_h.l1 (k + 1) _ _ _ = _
  rw [a_h.l1,if_neg (by omega)]
  rfl⟩
 | m + 1,i,h => by
  obtain ⟨K,hK⟩:=f_y S hS N hN m (i + 1) (by omega)
  obtain ⟨K2,hK2⟩:=i_i (i : Int) hS
  refine ⟨K + K2 + 1,fun k hk => ?_⟩
  obtain ⟨k,rfl⟩ : ∃ k',k = k' + 1:=⟨k - 1,by omega⟩
  have hk' : a_h.l1 k (N : Int) ((i + 1 : Nat) : Int) (up S) = some (e_E S m (i + 1)):=hK k (by omega)
  have hk2 : a_l.f k (up S) (i : Int) = some (rof (i : Int) S 0 0 0):=hK2 k (by omega)
  show a_h.l1 (k + 1) _ _ _ = _
  rw [a_h.l1,if_pos (by omega),hk2,Option.bind_some,e_7,c_C i (by omega),hk',Nat.zero_add,e_E]
  by_cases h1 : S.countP (hb · (i : Int)) = 1
  ·rw [if_pos (decide_eq_true h1),decide_eq_true h1,Bool.true_and]
  ·rw [if_neg (by simpa using h1),decide_eq_false h1,Bool.false_and]
def okS (S : List Nat) : Bool:=S.all fun s => s != 0 && decide (s < 256)
theorem h_p (S : List Nat) : okS S = true ↔ ∀ s ∈ S,s ≠ 0 ∧ s < 256:=by simp [okS,List.all_eq_true]
theorem f_t (S : List Nat) (hS : S.length ≤ 1000) : ∀ (suf pre : List Nat) (N : Nat) (r : Bool),S = pre ++ suf → N ≤ 8 * pre.length → Ev (fun k => a_h.l1 k ((N + (suf.map pc).sum : Nat) : Int) 0 (up S)) r → Ev (fun k => a_h.l0 k (N : Int) (up S) ((up S).length : Int) (pre.length : Int) (up S)) (okS suf && r)
 | [],pre,N,r,h,hN,hr => by
  obtain ⟨K,hK⟩:=hr
  refine ⟨K + 1,fun k hk => ?_⟩
  obtain ⟨k,rfl⟩ : ∃ k',k = k' + 1:=⟨k - 1,by omega⟩
  have hk' : a_h.l1 k (N : Int) 0 (up S) = some r:=hK k (by omega)
  show a_h.l0 (k + 1) _ _ _ _ _ = _
  rw [a_h.l0,if_neg (by rw [b_j,d_M h];omega),hk']
  rfl
 | s :: suf,pre,N,r,h,hN,hr => by
  have hlt:=e_M h
  have hp8 : pc s ≤ 8:=by have:=f_v s;rwa [c_T] at this
  have hr' : Ev (fun k => a_h.l1 k ((N + pc s + (suf.map pc).sum : Nat) : Int) 0 (up S)) r:=by
   have e : N + pc s + (suf.map pc).sum = N + ((s :: suf).map pc).sum:=by simp;omega
   rw [e];exact hr
  obtain ⟨K,hK⟩:=f_t S hS suf (pre ++ [s]) (N + pc s) r (c_E h) (by simp;omega) hr'
  obtain ⟨K2,hK2⟩:=h_m s
  refine ⟨K + K2 + 1,fun k hk => ?_⟩
  obtain ⟨k,rfl⟩ : ∃ k',k = k' + 1:=⟨k - 1,by omega⟩
  have hk' : a_h.l0 k ((N + pc s : Nat) : Int) (up S) ((up S).length : Int) ((pre ++ [s]).length : Int) (up S) = some (okS suf && r):=hK k (by omega)
  have hk2 : a_q.f k (s : Int) = some (up (lst s 8 0)):=hK2 k (by omega)
  show a_h.l0 (k + 1) _ _ _ _ _ = _
  rw [a_h.l0,if_pos (by rw [b_j];omega),if_pos (by omega),if_pos (by rw [b_j];omega),e_d h,f_4,Option.bind_some]
  have eo : okS (s :: suf) = ((s != 0 && decide (s < 256)) && okS suf):=rfl
  rw [eo]
  by_cases h256 : s < 256
  ·rw [if_pos (decide_eq_true h256)]
   by_cases h0 : s = 0
   ·rw [if_pos (by omega)]
    simp [h0]
   ·rw [if_neg (by omega),hk2,Option.bind_some,b_j,c_T,i_e _ (by omega) (by omega),c_G (x:=s) (by omega),show (N : Int) + (pc s : Int) = ((N + pc s : Nat) : Int) by simp,hk']
    rw [show (s != 0) = true by simp [h0],decide_eq_true h256]
    simp
  ·rw [if_neg (by simpa using h256)]
   simp [h256]
theorem h_n {S : List Nat} (hS : Fit S) : Ev (fun k => a_h.f k (up S)) (gd S):=by
 have hl:=hS.len
 by_cases hlen : 1 ≤ S.length ∧ S.length ≤ 4
 rotate_left
 ·have e : gd S = false:=g_U.2 fun h => hlen ⟨h.len1,h.len4⟩
  rw [e]
  have key : Ev (fun k => a_h.j0 k true (up S)) false:=Ev.step (f:=fun _ => some false) (fun k => by rw [a_h.j0,if_pos rfl]) (Ev.now _)
  refine Ev.congr (f:=fun k => a_h.j0 k true (up S)) (fun k => ?_) key
  unfold a_h.f
  rw [b_j]
  by_cases h1 : S.length < 1
  ·rw [if_pos (by omega)]
  rw [if_neg (by omega),decide_eq_true (by omega)]
 have hsum : (S.map pc).sum ≤ 8 * S.length:=by
  clear hlen hl hS
  induction S with
  | nil => simp
  | cons s S ih =>
   have hp8 : pc s ≤ 8:=by have:=f_v s;rwa [c_T] at this
   simp
   omega
 have h1:=f_y S hl (S.map pc).sum (by omega) (S.map pc).sum 0 (by omega)
 have h0:=f_t S hl S [] 0 _ rfl (Nat.le_refl _) (by simpa using h1)
 have e : gd S = (okS S && e_E S (S.map pc).sum 0):=by
  rw [Bool.eq_iff_iff,e_o,Bool.and_eq_true,h_p,e_C,f_6]
  constructor
  ·rintro ⟨_,he,hc⟩
   refine ⟨he,fun c _ h2 => ?_⟩
   have:=hc c (by omega)
   rw [e_r S c this.1]
   exact this.2
  rintro ⟨he,hc⟩
  refine ⟨hlen,he,fun c h2 => ?_⟩
  have:=hc c (Nat.zero_le _) (by omega)
  by_cases h8 : c < 8
  ·rw [e_r S c h8] at this
   exact ⟨h8,this⟩
  rw [e_F S (c : Int) (by omega)] at this
  cases this
 rw [e]
 refine Ev.congr (f:=fun k => a_h.j0 k false (up S)) (fun k => by unfold a_h.f;rw [b_j,if_neg (by omega),decide_eq_false (by omega)]) ?_
 refine Ev.step (f:=fun k => a_h.l0 k 0 (up S) ((up S).length : Int) 0 (up S)) (fun k => ?_) (by simpa using h0)
 rw [a_h.j0,if_neg (by simp)]
end Go.Proofs.Ytkhbffjfclepfaa.Pure
end
section
namespace Go.Proofs.Ytkhbffjfclepfaa.Pure
open Go.RowKit Go.Proofs.Ytkhbffjfclepfaa.Q Go.Proofs.YtkhbffjfclepfaaW.PrintWords Go.Proofs.YtkhbffjfclepfaaW.PrintLast Go.Proofs.YtkhbffjfclepfaaW.PrintMore
set_option linter.unusedVariables false
set_option linter.unusedSimpArgs false
theorem g_7 (l : List Int) (h : l.length ≤ 1000) : b_t.f l = some l:=by
 unfold b_t.f
 simp only [Option.bind_some]
 rw [if_pos (by simp;omega)]
 simp
theorem f_9 (l : List Int) : a_v.f l = some (l.take 12):=by
 unfold a_v.f
 have hm : mn (l.length : Int) 12 = ((min l.length 12 : Nat) : Int):=by unfold mn;split <;> omega
 rw [hm,if_pos (by omega),if_pos (by omega)]
 have e : l.take ((min l.length 12 : Nat) : Int).toNat = l.take 12:=by
  rw [show (((min l.length 12 : Nat) : Int)).toNat = min l.length 12 by simp]
  by_cases h : l.length ≤ 12
  ·rw [Nat.min_eq_left h,List.take_of_length_le (Nat.le_refl _),List.take_of_length_le h]
  rw [Nat.min_eq_right (by omega)]
 rw [e,g_7 _ (by rw [List.length_take];omega)]
 rfl
theorem g_Z (l : List Int) (a : Int) : b_l.f l [a] = some (decide (0 ≤ a ∧ a < (l.length : Int))):=by
 unfold b_l.f
 rw [if_pos (by simp)]
 congr 1
 rw [Bool.eq_iff_iff]
 simp
theorem h_v (l : List Int) (a : Int) : a_S.f l a = some (decide (0 ≤ a ∧ a < (l.length : Int))):=by
 unfold a_S.f
 by_cases h : a ≥ 0
 rotate_left
 ·rw [if_neg h,decide_eq_false (by omega)]
 rw [if_pos h]
 congr 1
 apply decide_eq_decide.2
 omega
def gt (S : List Nat) (a : Int) : Nat:=S.getD a.toNat 0
theorem i_k (S : List Nat) (a : Int) : rd (up S) a = (gt S a : Int):=by
 unfold gt rd up
 simp [List.getD_eq_getElem?_getD]
 cases S[a.toNat]? <;> simp
theorem uniq {p : Nat → Bool} : ∀ (S : List Nat) (i j : Nat) (hi : i < S.length) (hj : j < S.length),S.countP p ≤ 1 → p S[i] = true → p S[j] = true → i = j
 | [],i,j,hi,hj,_,_,_ => by simp at hi
 | s :: S,0,0,hi,hj,_,_,_ => rfl
 | s :: S,0,j + 1,hi,hj,h,h1,h2 => by
  rw [List.countP_cons] at h
  simp at h1 h2
  have : 0 < S.countP p:=List.countP_pos_iff.2 ⟨_,List.getElem_mem _,h2⟩
  rw [if_pos h1] at h
  omega
 | s :: S,i + 1,0,hi,hj,h,h1,h2 => by
  rw [List.countP_cons] at h
  simp at h1 h2
  have : 0 < S.countP p:=List.countP_pos_iff.2 ⟨_,List.getElem_mem _,h1⟩
  rw [if_pos h2] at h
  omega
 | s :: S,i + 1,j + 1,hi,hj,h,h1,h2 => by
  rw [List.countP_cons] at h
  have:=uniq (p:=p) S i j (by simpa using hi) (by simpa using hj) (by omega) (by simpa using h1) (by simpa using h2)
  omega
theorem Good.apart {S : List Nat} (h : Good S) {i j : Nat} (hi : i < S.length) (hj : j < S.length) (hij : i ≠ j) : S[i] &&& S[j] = 0:=by
 refine d_b.2 fun c hc => ?_
 cases hx : (S[j]).testBit c
 ·rfl
 obtain ⟨m,hm,ho⟩:=h.one
 have hc1:=ho c
 unfold cnt at hc1
 exact absurd (uniq S i j hi hj (by rw [hc1];split <;> omega) hc hx) hij
end Go.Proofs.Ytkhbffjfclepfaa.Pure
end
section
namespace Go.Proofs.Ytkhbffjfclepfaa.Pure
open Go.RowKit Go.Proofs.Ytkhbffjfclepfaa.Q Go.Proofs.YtkhbffjfclepfaaW.PrintWords Go.Proofs.YtkhbffjfclepfaaW.PrintLast Go.Proofs.YtkhbffjfclepfaaW.PrintMore
set_option linter.unusedVariables false
set_option linter.unusedSimpArgs false
theorem f_l (A B : List Int) (hA : A.length ≤ 1000) : ∀ (suf suf' pre pre' : List Int),A = pre ++ suf → B = pre' ++ suf' → pre.length = pre'.length → suf.length = suf'.length → Ev (fun k => a_o.l0 k (A.length : Int) (pre.length : Int) A B) (decide (suf = suf'))
 | [],[],pre,pre',h1,h2,h3,h4 => ⟨1,fun k hk => by
  obtain ⟨k,rfl⟩ : ∃ k',k = k' + 1:=⟨k - 1,by omega⟩
  show a_o.l0 (k + 1) _ _ _ _ = _
  rw [a_o.l0,if_neg (by subst h1;simp)]
  rfl⟩
 | [],y :: suf',pre,pre',h1,h2,h3,h4 => by simp at h4
 | x :: suf,[],pre,pre',h1,h2,h3,h4 => by simp at h4
 | x :: suf,y :: suf',pre,pre',h1,h2,h3,h4 => by
  obtain ⟨K,hK⟩:=f_l A B hA suf suf' (pre ++ [x]) (pre' ++ [y]) (by simp [h1]) (by simp [h2]) (by simp [h3]) (by simpa using h4)
  refine ⟨K + 1,fun k hk => ?_⟩
  obtain ⟨k,rfl⟩ : ∃ k',k = k' + 1:=⟨k - 1,by omega⟩
  have hk' : a_o.l0 k (A.length : Int) ((pre ++ [x]).length : Int) A B = some (decide (suf = suf')):=hK k (by omega)
  have hltA : pre.length < A.length:=by subst h1;simp
  have hltB : pre.length < B.length:=by subst h2;rw [h3];simp
  have hx : rd A (pre.length : Int) = x:=by subst h1;simp [rd]
  have hy : rd B (pre.length : Int) = y:=by subst h2;rw [h3];simp [rd]
  show a_o.l0 (k + 1) _ _ _ _ = _
  rw [a_o.l0,if_pos (by omega),if_pos (by omega),if_pos (by omega),if_pos (by omega),hx,hy,c_C pre.length (by omega),show pre.length + 1 = (pre ++ [x]).length by simp,hk']
  by_cases hxy : x = y
  ·rw [if_pos hxy];simp [hxy]
  ·rw [if_neg hxy];simp [hxy]
theorem f_7 (A B : List Int) (hA : A.length ≤ 1000) : Ev (fun k => a_o.f k A B) (decide (A = B)):=by
 unfold a_o.f
 by_cases h : A.length = B.length
 ·simp only [if_pos (show (A.length : Int) = (B.length : Int) by omega)]
  exact f_l A B hA A B [] [] rfl rfl rfl h
 simp only [if_neg (show ¬(A.length : Int) = (B.length : Int) by omega)]
 rw [decide_eq_false (by rintro rfl;exact h rfl)]
 exact Ev.now _
theorem g_1 : Ev (fun k => a_G.f k) true:=Ev.of a_G.mono (k:=100) (by kernel_rfl)
theorem h_e (l : List Int) (h : l.length ≤ maxLen ∧ ∀ x ∈ l,(Lit.int .u32 x).wf = true) : ∃ S,l.take 12 = up S ∧ Fit S ∧ S.length ≤ 12:=by
 obtain ⟨S,hS,hlt⟩:=j_2 (l.take 12) (fun x hx => by
  have:=bounds_u32 (h.2 x (List.mem_of_mem_take hx))
  omega)
 have hlen : S.length ≤ 12:=by
  have:=congrArg List.length hS
  rw [b_j,List.length_take] at this
  omega
 exact ⟨S,hS,⟨hlt,by omega⟩,hlen⟩
end Go.Proofs.Ytkhbffjfclepfaa.Pure
end
section
namespace Go.Proofs.Ytkhbffjfclepfaa.Pure
open Go.RowKit Go.Proofs.Ytkhbffjfclepfaa.Q Go.Proofs.YtkhbffjfclepfaaW.PrintWords Go.Proofs.YtkhbffjfclepfaaW.PrintLast Go.Proofs.YtkhbffjfclepfaaW.PrintMore
set_option linter.unusedVariables false
set_option linter.unusedSimpArgs false
theorem f_0 {A pre suf : List Int} {x : Int} (h : A = pre ++ x :: suf) : rd A (pre.length : Int) = x:=by subst h;simp [rd]
theorem f_3 {α : Type} {A pre suf : List α} {x : α} (h : A = pre ++ x :: suf) : pre.length < A.length:=by subst h;simp
theorem d_B {α : Type} {A pre suf : List α} {x : α} (h : A = pre ++ x :: suf) : A = (pre ++ [x]) ++ suf:=by simp [h]
theorem e_1 {α : Type} {pre : List α} {x : α} (h : pre.length < 9223372036854775807) : wrap64 ((pre.length : Int) + 1) = ((pre ++ [x]).length : Int):=by rw [c_C pre.length h];simp
theorem h_i (A B : List Int) (hA : A.length ≤ 1000000) : ∀ (s t p q : List Int),A = p ++ s → B = q ++ t → p.length = q.length → A.length = B.length →
 Ev (fun k => a_4.l0 k A B (A.length : Int) (p.length : Int)) (decide (s = t))
 | [],t,p,q,h1,h2,h3,h4 => by
  have ht : t = []:=by
   have : t.length = 0:=by subst h1 h2;simp at h4;omega
   exact List.eq_nil_of_length_eq_zero this
  subst ht
  refine Ev.step (f:=fun _ => some true) (fun k => ?_) (Ev.now _)
  rw [a_4.l0,if_neg (by subst h1;simp)]
 | x :: s,[],p,q,h1,h2,h3,h4 => by
  exfalso
  subst h1 h2
  simp at h4
  omega
 | x :: s,y :: t,p,q,h1,h2,h3,h4 => by
  have ih:=h_i A B hA s t (p ++ [x]) (q ++ [y]) (d_B h1) (d_B h2) (by simp [h3]) h4
  have hlt:=f_3 h1
  have hx:=f_0 h1
  have hy:=f_0 h2
  rw [← h3] at hy
  refine Ev.step (f:=fun k => if x = y then a_4.l0 k A B (A.length : Int) ((p ++ [x]).length : Int) else some false) (fun k => ?_) ?_
  ·rw [a_4.l0,if_pos (by omega),if_pos (by omega),if_pos (by omega),if_pos (by omega),hx,hy,e_1 (x:=x) (by omega)]
  ·by_cases hxy : x = y
   ·simp only [if_pos hxy]
    rw [show decide (x :: s = y :: t) = decide (s = t) by simp [hxy]]
    exact ih
   ·simp only [if_neg hxy]
    rw [show decide (x :: s = y :: t) = false by simp [hxy]]
    exact Ev.now _
theorem e_O (A B : List Int) (hA : A.length ≤ 1000000) : Ev (fun k => a_O.f k A B) (decide (A = B)):=by
 unfold a_O.f a_4.f
 refine Ev.bind (a:=decide (A = B)) ?_ (Ev.now _)
 by_cases h : A.length = B.length
 ·simp only [if_pos (show (A.length : Int) = (B.length : Int) by omega)]
  exact h_i A B hA A B [] [] rfl rfl rfl h
 simp only [if_neg (show ¬(A.length : Int) = (B.length : Int) by omega)]
 rw [decide_eq_false (by rintro rfl;exact h rfl)]
 exact Ev.now _
theorem f_1 {S : List Nat} (hS : Fit S) : ∀ (suf pre : List Nat) (a : Nat),S = pre ++ suf → a < 2 ^ 32 →
 Ev (fun k => a_2.l0 k (a : Int) (up S) ((up S).length : Int) (pre.length : Int)) ((suf.foldl (· ||| ·) a : Nat) : Int)
 | [],pre,a,h,ha => by
  refine Ev.step (f:=fun _ => some (a : Int)) (fun k => ?_) (Ev.now _)
  rw [a_2.l0,if_neg (by rw [b_j,d_M h];omega)]
 | x :: suf,pre,a,h,ha => by
  have hx:=hS.lt x (e_5 h)
  have hlen:=hS.len
  have hlt:=e_M h
  refine Ev.step (f:=fun k => a_2.l0 k ((a ||| x : Nat) : Int) (up S) ((up S).length : Int) ((pre ++ [x]).length : Int)) (fun k => ?_) (f_1 hS suf (pre ++ [x]) (a ||| x) (c_E h) (Nat.or_lt_two_pow ha hx))
  rw [a_2.l0,if_pos (by rw [b_j];omega),if_pos (by omega),if_pos (by rw [b_j];omega),e_d h,or_n ha hx,c_G (x:=x) (by omega)]
theorem i_a {S : List Nat} (hS : Fit S) : Ev (fun k => a_2.f k (up S)) (if gd S = true then ((S.foldl (· ||| ·) 0 : Nat) : Int) else 0):=by
 unfold a_2.f
 refine Ev.bind (e_h hS) ?_
 by_cases hg : gd S = true
 ·simp only [if_pos hg,if_true]
  exact f_1 hS S [] 0 rfl (by decide)
 simp only [if_neg hg]
 simp only [show ((180 : Int) = 0) = False by simp,if_false]
 exact Ev.now _
theorem j_0 {S : List Nat} (hS : Fit S) (a : Int) : Ev (fun k => b_d.f k (up S) a) (if gd S = true ∧ 0 ≤ a ∧ a < (S.length : Int) then (gt S a : Int) else 0):=by
 unfold b_d.f
 refine Ev.bind (e_h hS) ?_
 by_cases hg : gd S = true
 rotate_left
 ·simp only [if_neg hg,if_neg (fun h : gd S = true ∧ _ => hg h.1)]
  simp only [show ((180 : Int) = 0) = False by simp,if_false]
  exact Ev.now _
 simp only [hg,if_true,true_and,g_Z,Option.bind_some,b_j,i_k]
 by_cases h : 0 ≤ a ∧ a < (S.length : Int)
 ·simp only [decide_eq_true h,if_true,if_pos h.1,if_pos h.2,if_pos h]
  exact Ev.now _
 simp only [decide_eq_false h,if_neg h]
 rw [if_neg (by simp)]
 exact Ev.now _
end Go.Proofs.Ytkhbffjfclepfaa.Pure
end
section
namespace Go.Proofs.Ytkhbffjfclepfaa.Pure
open Go.RowKit Go.Proofs.Ytkhbffjfclepfaa.Q Go.Proofs.YtkhbffjfclepfaaW.PrintWords Go.Proofs.YtkhbffjfclepfaaW.PrintLast Go.Proofs.YtkhbffjfclepfaaW.PrintMore
set_option linter.unusedVariables false
set_option linter.unusedSimpArgs false
theorem f_m (x0 x23 : List S26) (x1 : List Int) (x24 x25 : Int) (hl : x1.length ≤ 9223372036854775807) {S : List Nat} (hS : Fit S) (hnext : Ev (fun k => a_b.l0 k x0 x1 x23 x24 (wrap64 (x25 + 1))) true) :
 ∀ suf pre,x1 = pre ++ suf → Ev (fun k => a_b.l2 k x0 x1 (gd S) x23 x24 x25 x1 (x1.length : Int) (pre.length : Int) (up S)) true
 | [],pre,h => by
  refine Ev.step (f:=fun k => a_b.l0 k x0 x1 x23 x24 (wrap64 (x25 + 1))) (fun k => ?_) hnext
  rw [a_b.l2,if_neg (by subst h;simp)]
 | x :: suf,pre,h => by
  have ih:=f_m x0 x23 x1 x24 x25 hl hS hnext suf (pre ++ [x]) (d_B h)
  have hlt:=f_3 h
  have hx:=f_0 h
  have hof:=Of_n x hS
  have hset:=j_0 hS x
  refine Ev.step (f:=fun k => if (pre.length : Int) = 12 then a_b.l0 k x0 x1 x23 x24 (wrap64 (x25 + 1)) else (b_k.f k (up S) x).bind fun bt343 => (if gd S = true then ((a_l.f k (up S) x).bind fun bt345 => ((a_S.f (up S) x).bind fun t347 => (if t347 = true then (if 0 ≤ x then (if x < ((up S).length : Int) then (if bt343.1 = bt345.1 then (if (bt343.2 != bt345.2) = true then (some false) else ((b_d.f k (up S) x).bind fun t349 => (if t349 = (rd (up S) x) then (a_b.l2 k x0 x1 (gd S) x23 x24 x25 x1 (x1.length : Int) ((pre ++ [x]).length : Int) (up S)) else (some false)))) else (some false)) else (none)) else (none)) else (if bt343.1 = bt345.1 then (if (bt343.2 != bt345.2) = true then (some false) else ((b_d.f k (up S) x).bind fun t350 => (if t350 = 0 then (a_b.l2 k x0 x1 (gd S) x23 x24 x25 x1 (x1.length : Int) ((pre ++ [x]).length : Int) (up S)) else (some false)))) else (some false))))) else (if bt343.1 = 0 then (if (bt343.2 != false) = true then (some false) else ((b_d.f k (up S) x).bind fun t351 => (if t351 = 0 then (a_b.l2 k x0 x1 (gd S) x23 x24 x25 x1 (x1.length : Int) ((pre ++ [x]).length : Int) (up S)) else (some false)))) else (some false)))) (fun k => ?_) ?_
  ·rw [a_b.l2,if_pos (by omega),if_pos (by omega),if_pos (by omega),hx,e_1 (x:=x) (by omega)]
  by_cases h12 : (pre.length : Int) = 12
  ·simp only [if_pos h12];exact hnext
  simp only [if_neg h12]
  refine Ev.bind hof ?_
  by_cases hg : gd S = true
  ·simp only [if_pos hg]
   refine Ev.bind (g_R x (e_o.1 hg)) ?_
   simp only [h_v,Option.bind_some,b_j,if_true,bne_self_eq_false]
   simp only [Bool.false_eq_true,if_false]
   simp only [hg,true_and] at hset
   by_cases hp : 0 ≤ x ∧ x < (S.length : Int)
   ·simp only [if_pos hp] at hset
    simp only [decide_eq_true hp,if_true,if_pos hp.1,if_pos hp.2]
    refine Ev.bind hset ?_
    simp only [i_k,if_true]
    exact ih
   ·simp only [if_neg hp] at hset
    simp only [decide_eq_false hp]
    simp only [Bool.false_eq_true,if_false]
    refine Ev.bind hset ?_
    simp only [if_true]
    exact ih
  ·simp only [if_neg hg]
   have hv : ofv x S = (0,false):=by unfold ofv;rw [if_neg hg]
   simp only [hv,if_true,bne_self_eq_false,Bool.false_eq_true,if_false]
   simp only [if_neg (fun h : gd S = true ∧ _ => hg h.1)] at hset
   refine Ev.bind hset ?_
   simp only [if_true]
   exact ih
theorem e_j (x0 x23 : List S26) (x1 : List Int) (x24 x25 : Int) (hl : x1.length ≤ 9223372036854775807) {S : List Nat} (hS : Fit S) (hnext : Ev (fun k => a_b.l0 k x0 x1 x23 x24 (wrap64 (x25 + 1))) true) :
 ∀ (suf pre : List Nat) (a : Nat),S = pre ++ suf → a < 2 ^ 32 → (if gd S = true then suf.foldl (· ||| ·) a = S.foldl (· ||| ·) 0 else a = 0) →
  Ev (fun k => a_b.l1 k x0 x1 (gd S) (a : Int) x23 x24 x25 (up S) ((up S).length : Int) (pre.length : Int) (up S)) true
 | [],pre,a,h,ha,hc => by
  refine Ev.step (f:=fun k => (a_2.f k (up S)).bind fun t341 => (if t341 = (a : Int) then (a_b.l2 k x0 x1 (gd S) x23 x24 x25 x1 (x1.length : Int) 0 (up S)) else (some false))) (fun k => ?_) ?_
  ·rw [a_b.l1,if_neg (by rw [b_j,d_M h];omega)]
  refine Ev.bind (i_a hS) ?_
  have e : (if gd S = true then ((S.foldl (· ||| ·) 0 : Nat) : Int) else 0) = (a : Int):=by
   by_cases hg : gd S = true
   ·rw [if_pos hg] at hc ⊢
    rw [← hc]
    rfl
   ·rw [if_neg hg] at hc ⊢
    rw [hc]
    rfl
  simp only [e,if_true]
  exact f_m x0 x23 x1 x24 x25 hl hS hnext x1 [] rfl
 | x :: suf,pre,a,h,ha,hc => by
  have hx:=hS.lt x (e_5 h)
  have hlen:=hS.len
  have hlt:=e_M h
  by_cases hg : gd S = true
  ·rw [if_pos hg] at hc
   refine Ev.step (f:=fun k => a_b.l1 k x0 x1 (gd S) ((a ||| x : Nat) : Int) x23 x24 x25 (up S) ((up S).length : Int) ((pre ++ [x]).length : Int) (up S)) (fun k => ?_) (e_j x0 x23 x1 x24 x25 hl hS hnext suf (pre ++ [x]) (a ||| x) (c_E h) (Nat.or_lt_two_pow ha hx) (by rw [if_pos hg];exact hc))
   rw [a_b.l1,if_pos (by rw [b_j];omega),if_pos (by omega),if_pos (by rw [b_j];omega),if_pos hg,e_d h,or_n ha hx,c_G (x:=x) (by omega)]
  ·rw [if_neg hg] at hc
   refine Ev.step (f:=fun k => a_b.l1 k x0 x1 (gd S) (a : Int) x23 x24 x25 (up S) ((up S).length : Int) ((pre ++ [x]).length : Int) (up S)) (fun k => ?_) (e_j x0 x23 x1 x24 x25 hl hS hnext suf (pre ++ [x]) a (c_E h) ha (by rw [if_neg hg];exact hc))
   rw [a_b.l1,if_pos (by rw [b_j];omega),if_pos (by omega),if_pos (by rw [b_j];omega),if_neg hg,c_G (x:=x) (by omega)]
theorem g_V (x0 x23 : List S26) (x1 : List Int) (x24 x25 : Int) (hl : x1.length ≤ 9223372036854775807) {S : List Nat} (hS : Fit S) (hnext : Ev (fun k => a_b.l0 k x0 x1 x23 x24 (wrap64 (x25 + 1))) true) :
 Ev (fun k => a_b.j1 k x0 x1 (gd S) x23 x24 x25 false (up S)) true:=by
 refine Ev.step (f:=fun k => a_b.l1 k x0 x1 (gd S) 0 x23 x24 x25 (up S) ((up S).length : Int) 0 (up S)) (fun k => ?_) ?_
 ·rw [a_b.j1,if_neg (by simp)]
 refine e_j x0 x23 x1 x24 x25 hl hS hnext S [] 0 rfl (by decide) ?_
 by_cases hg : gd S = true
 ·rw [if_pos hg]
 rw [if_neg hg]
theorem g_S {A pre suf : List S26} {x : S26} (h : A = pre ++ x :: suf) : a_L A (pre.length : Int) = x:=by subst h;simp [a_L]
theorem f_q (l : List S26) (x1 : List Int) (hl : l.length ≤ 9223372036854775807) (hl1 : x1.length ≤ 9223372036854775807) (hw : ∀ x ∈ l,wf26 x) : ∀ (suf pre : List S26),l = pre ++ suf → Ev (fun k => a_b.l0 k l x1 l (l.length : Int) (pre.length : Int)) true
 | [],pre,h => by
  refine Ev.step (f:=fun _ => some true) (fun k => ?_) (Ev.now _)
  rw [a_b.l0,if_neg (by subst h;simp)]
 | x :: suf,pre,h => by
  have ih:=f_q l x1 hl hl1 hw suf (pre ++ [x]) (d_B h)
  have hlt:=f_3 h
  have hx:=g_S h
  have hnext : Ev (fun k => a_b.l0 k l x1 l (l.length : Int) (wrap64 ((pre.length : Int) + 1))) true:=by rw [e_1 (x:=x) (by omega)];exact ih
  obtain ⟨S,hS,hfit,h12⟩:=h_e x.f0 (hw x (by subst h;simp))
  obtain ⟨S0,hS0,hfit0,h120⟩:=h_e (a_L l 0).f0 (hw _ (by
   cases l with
   | nil => simp at hlt
   | cons y l => simp [a_L]))
  have hcheck : ((if gd S = true then (0 : Int) else 180) == 0) = gd S:=by
   cases gd S <;> rfl
  have hch : gd S = false → (if gd S = true then (0 : Int) else 180) = 180:=fun h => by rw [h];rfl
  have hj:=g_V l l x1 (l.length : Int) (pre.length : Int) hl1 hfit hnext
  have hsame:=e_O (up S) (up S0) (by rw [b_j];omega)
  have hrsame:=f_7 (up S) (up S0) (by rw [b_j];omega)
  have hself:=e_O (up S) (up S) (by rw [b_j];omega)
  rw [decide_eq_true (rfl : up S = up S)] at hself
  refine Ev.step (f:=fun k => if (pre.length : Int) = 8 then some true else (a_h.f k (up S)).bind fun t326 => ((a_s.f k (up S)).bind fun t327 => (if ((t327 == 0) != t326) = true then (a_b.j1 k l x1 t326 l (l.length : Int) (pre.length : Int) true (up S)) else (if t326 = true then ((a_O.f k (up S) (up S0)).bind fun t328 => ((a_o.f k (up S) (up S0)).bind fun t329 => (if (t328 != t329) = true then (a_b.j1 k l x1 t326 l (l.length : Int) (pre.length : Int) true (up S)) else ((a_O.f k (up S) (up S)).bind fun t333 => (a_b.j1 k l x1 t326 l (l.length : Int) (pre.length : Int) (!t333) (up S)))))) else (if t327 = 180 then ((a_O.f k (up S) (up S0)).bind fun t334 => ((a_o.f k (up S) (up S0)).bind fun t335 => (if (t334 != t335) = true then (a_b.j1 k l x1 t326 l (l.length : Int) (pre.length : Int) true (up S)) else ((a_O.f k (up S) (up S)).bind fun t339 => (a_b.j1 k l x1 t326 l (l.length : Int) (pre.length : Int) (!t339) (up S)))))) else (a_b.j1 k l x1 t326 l (l.length : Int) (pre.length : Int) true (up S))))))) (fun k => ?_) ?_
  ·rw [a_b.l0,if_pos (by omega),if_pos (by omega),if_pos (by omega),hx]
   simp only [f_9,Option.bind_some,hS,hS0]
   rw [if_pos (show (0 : Int) < (l.length : Int) by omega)]
  by_cases h8 : (pre.length : Int) = 8
  ·simp only [if_pos h8];exact Ev.now _
  simp only [if_neg h8]
  refine Ev.bind (h_n hfit) (Ev.bind (e_h hfit) ?_)
  simp only [hcheck,bne_self_eq_false,Bool.false_eq_true,if_false]
  by_cases hg : gd S = true
  ·simp only [if_pos hg]
   refine Ev.bind hsame (Ev.bind hrsame ?_)
   simp only [bne_self_eq_false,Bool.false_eq_true,if_false]
   refine Ev.bind hself ?_
   simp only [Bool.not_true]
   exact hj
  ·have hg' : gd S = false:=by simpa using hg
   simp only [if_neg hg,if_true]
   refine Ev.bind hsame (Ev.bind hrsame ?_)
   simp only [bne_self_eq_false,Bool.false_eq_true,if_false]
   refine Ev.bind hself ?_
   simp only [Bool.not_true]
   exact hj
theorem f_O (l : List S26) (l1 : List Int) (h0 : l.length ≤ maxLen ∧ ∀ x ∈ l,wf26 x) (h1 : l1.length ≤ maxLen ∧ ∀ x ∈ l1,(Lit.int .i64 x).wf = true) : ∃ k,a_b.f k l l1 = some true:=by
 have hl : l.length ≤ 9223372036854775807:=h0.1
 have hl1 : l1.length ≤ 9223372036854775807:=h1.1
 refine Ev.rounds (g:=fun k => a_b.f k l l1) (Ev.bind g_1 ?_)
 simp only [if_true]
 exact f_q l l1 hl hl1 h0.2 l [] rfl
end Go.Proofs.Ytkhbffjfclepfaa.Pure
end
section
namespace Go.Proofs.Ytkhbffjfclepfaa.poolTells
open Go.ChangeShapes Go.WideShapes Go.ChangeAt Go.RowKit Go.Proofs.Ytkhbffjfclepfaa.Q
open Go.Proofs.YtkhbffjfclepfaaW.PrintWords Go.Proofs.YtkhbffjfclepfaaW.PrintLast Go.Proofs.YtkhbffjfclepfaaW.PrintMore
set_option linter.unusedVariables false
set_option linter.unusedSimpArgs false
set_option maxRecDepth 100000 in
theorem lifted (os : Os) (started : os.Started) (H : Type) (enc : TypeId × Value → H) :
 ReturnsInHanded {} Try.checked os 5 .any (Rows.poolTellsSpec.pre6 enc Try.prog Try.f5 Rows.poolTellsRow.domain false) (Rows.poolTellsSpec.post enc Try.prog Try.f5 false true false false):=by
 refine returnsInHanded_of_change_sized (C:=Try.checked) own started (by kernel_rfl) Try.func5
  (ChangeSpec.witness6 (enc:=enc) (C:=Try.checked) false ⟨#[],#[.slice none 0 0,.slice none 0 0],[]⟩ 8 (by kernel_rfl) (by kernel_rfl) (by kernel_rfl) (by kernel_rfl)) ?_
 intro W base args ds gs before hval0 hW hcnd hsz0 _
 have hval : ∀ (j : Nat) t v,Try.f5.params[j]? = some t → args[j]? = some v → Value.okWide Try.prog W .any base t v:=hval0
 have hW':=hW
 obtain ⟨p,q,hA0,hV,rfl,hfz,hnd⟩:=hW
 have hA : DataW.TrodAll enc Try.prog W 0 (fun _ => true) true Try.f5.params.toList args.toList ds p:=hA0
 rw [Try.params5] at hA hval
 obtain ⟨v0,vs0,d0,ds0,p0,q0,hargs,rfl,rfl,h0,r0⟩:=trodAll_cons hA
 obtain ⟨v1,vs1,d1,ds1,p1,q1,rfl,rfl,rfl,h1,r1⟩:=trodAll_cons r0
 obtain ⟨rfl,rfl,rfl⟩:=trodAll_nil r1
 obtain rfl : args = #[v0,v1]:=by cases args;simp_all
 obtain ⟨rfl,rfl⟩:=trodVars_none hV
 have k0:=h0
 have lt0 : ∀ x ∈ p0,x.block < W.heap.size:=by obtain ⟨m,hm⟩:=k0;exact DataW.trod_lt m _ _ _ hm
 obtain ⟨a0,len0,cap0,rfl⟩:=okWide_slice Try.underlying41 (hval 0 41 v0 rfl rfl)
 obtain ⟨fuel0,hf0⟩:=h0
 obtain ⟨l0,⟨A0,c0,he0,hc0,hr0⟩,wf0_⟩:=(d_g.slice Try.underlying41 (by kernel_rfl) op26).open_ hf0
 simp [Value.cells] at he0
 obtain ⟨rfl,rfl,rfl⟩:=he0
 have k1:=h1
 have lt1 : ∀ x ∈ p1,x.block < W.heap.size:=by obtain ⟨m,hm⟩:=k1;exact DataW.trod_lt m _ _ _ hm
 obtain ⟨a1,len1,cap1,rfl⟩:=okWide_slice Try.underlying22 (hval 1 22 v1 rfl rfl)
 obtain ⟨fuel1,hf1⟩:=h1
 obtain ⟨l1,⟨A1,c1,he1,hc1,hr1⟩,wf1_⟩:=(d_g.slice Try.underlying22 (by kernel_rfl) (d_g.int Try.underlying3 (by kernel_rfl))).open_ hf1
 simp [Value.cells] at he1
 obtain ⟨rfl,rfl,rfl⟩:=he1
 obtain ⟨K,hK⟩:=Pure.f_O l0 l1 wf0_ wf1_
 refine (a_b.calls _ _ _ _ _ _ _ _ _ hr0 hc0 hr1 hc1 hK).mono fun e W' ⟨he,bel⟩ => ?_
 subst he
 exact ⟨_,rfl,_,_,_,[],_,[],hW',trodAll_mk1 (shut_bool Try.underlying4 _),(trodAll_cons_mk (Below.trod laidOut (by kernel_rfl) (of_decide_eq_true (by kernel_rfl)) k0 bel lt0) (trodAll_cons_mk (Below.trod laidOut (by kernel_rfl) (of_decide_eq_true (by kernel_rfl)) k1 bel lt1) trodAll_mk0)),rfl,bel.frame _,fun h => by cases h⟩
theorem over : Rows.poolTellsRow.holds Try.pinned (OpenSpec.ofChange Rows.poolTellsSpec) :=
 OpenClaim.holds_of_wide 5 Try.f5 rfl rfl rfl rfl rfl rfl rfl ⟨rfl,rfl,rfl,rfl,rfl⟩ rfl rfl rfl rfl rfl (by kernel_rfl) Try.func5 (by kernel_rfl)
  (of_decide_eq_true (by kernel_rfl)) (by unfold Func.isWrapper;first|(rw [if_pos (by decide +kernel)];kernel_rfl)|(rw [if_neg (by decide +kernel)];exact ⟨rfl,rfl⟩))
  (fun os started H enc _ => lifted os started H enc)
theorem proved : Rows.PoolTellsSaid:=over
#print axioms proved
end Go.Proofs.Ytkhbffjfclepfaa.poolTells
namespace Go.Proofs.Ytkhbffjfclepfaa
theorem poolTells_holds : Rows.PoolTellsSaid:=poolTells.proved
end Go.Proofs.Ytkhbffjfclepfaa
end
