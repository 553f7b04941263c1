/- Part 6 of 6 of what the row of PoolBack stands on: contracts over the given program's functions, the plain law, the row; no condition beyond those that each theorem states. -/
import Derived.Test.YtkhbffjfclepfaaXPoolBack4
section
namespace Go.Proofs.Ytkhbffjfclepfaa.Pure
open Go.RowKit Go.Proofs.Ytkhbffjfclepfaa.Q Go.Proofs.YtkhbffjfclepfaaW.PrintWords Go.Proofs.YtkhbffjfclepfaaW.PrintLast Go.Proofs.YtkhbffjfclepfaaW.PrintMore
set_option linter.unusedVariables false
set_option linter.unusedSimpArgs false
theorem f_v (n : Nat) (h : n < 9223372036854775807) : wrap64 ((n : Int) + 1) = ((n + 1 : Nat) : Int):=by unfold wrap64;omega
theorem wraps_u32 (n : Int) (h₀ : 0 ≤ n) (h₁ : n < 2 ^ 32) : IntKind.u32.wrap n = n:=by rw [IntKind.wrap_u32];omega
theorem f_N {a b : Nat} (ha : a < 2 ^ 32) (hb : b < 2 ^ 32) : Go.bits .and .u32 (a : Int) (b : Int) = ((a &&& b : Nat) : Int):=(bits_nat .u32 32 (by decide) wraps_u32 a b ha hb).1
theorem or_n {a b : Nat} (ha : a < 2 ^ 32) (hb : b < 2 ^ 32) : Go.bits .or .u32 (a : Int) (b : Int) = ((a ||| b : Nat) : Int):=(bits_nat .u32 32 (by decide) wraps_u32 a b ha hb).2
def nd (a b : Nat) : Nat:=(BitVec.ofNat 32 a &&& ~~~BitVec.ofNat 32 b).toNat
theorem n_l (a b : Nat) : nd a b < 2 ^ 32:=BitVec.isLt _
theorem nd_n (a b : Nat) : Go.bits .andNot .u32 (a : Int) (b : Int) = (nd a b : Int):=by
 have h : Go.bits .andNot .u32 (a : Int) (b : Int) = IntKind.u32.wrap ((nd a b : Nat) : Int):=by
  simp only [Go.bits,BitVec.ofInt_natCast,nd]
  rfl
 rw [h]
 exact wraps_u32 _ (Int.natCast_nonneg _) (by have:=n_l a b;exact_mod_cast this)
theorem d_T {a b : Nat} (ha : a < 2 ^ 32) (i : Nat) : (nd a b).testBit i = (a.testBit i && !b.testBit i):=by
 unfold nd
 rw [BitVec.testBit_toNat,BitVec.getLsbD_and,BitVec.getLsbD_not,BitVec.getLsbD_ofNat,BitVec.getLsbD_ofNat]
 by_cases h : i < 32
 ·simp [h]
 have : a.testBit i = false:=Nat.testBit_lt_two_pow (Nat.lt_of_lt_of_le ha (Nat.pow_le_pow_right (by decide) (by omega)))
 simp [h,this]
theorem c_X {a b : Nat} : a &&& b = 0 ↔ ∀ i,a.testBit i = true → b.testBit i = false:=by
 constructor
 ·intro h i hi
  have:=congrArg (Nat.testBit · i) h
  simp [Nat.testBit_and,hi] at this
  exact this
 intro h
 apply Nat.eq_of_testBit_eq
 intro i
 rw [Nat.testBit_and,Nat.zero_testBit]
 cases ha : a.testBit i
 ·rfl
 simp [h i ha]
theorem f_Q {a b : Nat} (ha : a < 2 ^ 32) : nd a b = 0 ↔ ∀ i,a.testBit i = true → b.testBit i = true:=by
 constructor
 ·intro h i hi
  have:=congrArg (Nat.testBit · i) h
  simp [d_T ha,hi] at this
  exact this
 intro h
 apply Nat.eq_of_testBit_eq
 intro i
 rw [d_T ha,Nat.zero_testBit]
 cases hx : a.testBit i
 ·rfl
 simp [h i hx]
theorem i_J {a b : Nat} (ha : a < 2 ^ 31) (hb : b < 2 ^ 31) (h : a &&& b = 0) : a + b = a ||| b:=by
 have e:=BitVec.add_eq_or_of_and_eq_zero (BitVec.ofNat 32 a) (BitVec.ofNat 32 b) (by
  apply BitVec.eq_of_toNat_eq
  simp only [BitVec.toNat_and,BitVec.toNat_ofNat]
  rw [Nat.mod_eq_of_lt (by omega),Nat.mod_eq_of_lt (by omega),h])
 have e2:=congrArg BitVec.toNat e
 simp only [BitVec.toNat_add,BitVec.toNat_or,BitVec.toNat_ofNat] at e2
 rw [Nat.mod_eq_of_lt (show a < 2 ^ 32 by omega),Nat.mod_eq_of_lt (show b < 2 ^ 32 by omega),Nat.mod_eq_of_lt (by omega)] at e2
 exact e2
theorem h_o {a b : Nat} (ha : a < 2 ^ 31) (h : ∀ i,b.testBit i = true → a.testBit i = true) : nd a b + b = a:=by
 have hb : b < 2 ^ 31:=by
  apply Nat.lt_of_not_le
  intro hc
  obtain ⟨i,hi,hi'⟩:=Nat.exists_ge_and_testBit_of_ge_two_pow hc
  have:=h i hi'
  rw [Nat.testBit_lt_two_pow (Nat.lt_of_lt_of_le ha (Nat.pow_le_pow_right (by decide) hi))] at this
  cases this
 have hn : nd a b < 2 ^ 31:=by
  apply Nat.lt_of_not_le
  intro hc
  obtain ⟨i,hi,hi'⟩:=Nat.exists_ge_and_testBit_of_ge_two_pow hc
  rw [d_T (by omega),Nat.testBit_lt_two_pow (Nat.lt_of_lt_of_le ha (Nat.pow_le_pow_right (by decide) hi))] at hi'
  simp at hi'
 rw [i_J hn hb (c_X.2 fun i hi => by rw [d_T (by omega)] at hi;simp at hi;exact hi.2)]
 apply Nat.eq_of_testBit_eq
 intro i
 rw [Nat.testBit_or,d_T (by omega)]
 cases hb' : b.testBit i
 ·simp
 simp [h i hb']
theorem e_r {a i : Nat} (ha : a < 256) (hi : 8 ≤ i) : a.testBit i = false:=Nat.testBit_lt_two_pow (Nat.lt_of_lt_of_le (show a < 2 ^ 8 by omega) (Nat.pow_le_pow_right (by decide) hi))
theorem e_v {a : Nat} (h : ∀ i,8 ≤ i → a.testBit i = false) : a < 256:=by
 apply Nat.lt_of_not_le
 intro hc
 obtain ⟨i,hi,hi'⟩:=Nat.exists_ge_and_testBit_of_ge_two_pow (show 2 ^ 8 ≤ a by omega)
 rw [h i hi] at hi'
 cases hi'
theorem i_T {a : Nat} (ha : a < 2 ^ 32) : nd a 255 = 0 ↔ a < 256:=by
 rw [f_Q ha]
 constructor
 ·intro h
  refine e_v fun i hi => ?_
  cases hx : a.testBit i
  ·rfl
  have:=h i hx
  rw [e_r (by omega) hi] at this
  cases this
 intro h i hi
 have h8 : i < 8:=by
  apply Nat.lt_of_not_le
  intro hc
  rw [e_r h hc] at hi
  cases hi
 have : i = 0 ∨ i = 1 ∨ i = 2 ∨ i = 3 ∨ i = 4 ∨ i = 5 ∨ i = 6 ∨ i = 7:=by omega
 rcases this with rfl|rfl|rfl|rfl|rfl|rfl|rfl|rfl <;> decide
def up (S : List Nat) : List Int:=S.map fun (n : Nat) => (n : Int)
theorem b_w (S : List Nat) : (up S).length = S.length:=List.length_map _
theorem f_L (S R : List Nat) : up (S ++ R) = up S ++ up R:=List.map_append
theorem n_j (l : List Int) (h : ∀ x ∈ l,0 ≤ x ∧ x < 4294967296) : ∃ S,l = up S ∧ ∀ s ∈ S,s < 4294967296:=by
 refine ⟨l.map Int.toNat,?_,?_⟩
 ·unfold up
  rw [List.map_map]
  conv => lhs;rw [← List.map_id l]
  apply List.map_congr_left
  intro x hx
  have:=h x hx
  simp;omega
 intro s hs
 obtain ⟨x,hx,rfl⟩:=List.mem_map.1 hs
 have:=h x hx
 omega
theorem n_h (S : List Nat) (i : Nat) : rd (up S) (i : Int) = ((S.getD i 0 : Nat) : Int):=by
 unfold rd up
 simp [List.getD_eq_getElem?_getD]
 cases S[i]? <;> simp
def cnt (S : List Nat) (c : Nat) : Nat:=S.countP (·.testBit c)
theorem c_U (s : Nat) (S : List Nat) (c : Nat) : cnt (s :: S) c = (if s.testBit c then 1 else 0) + cnt S c:=by
 unfold cnt
 rw [List.countP_cons]
 omega
theorem f_b (c : Nat) : cnt [] c = 0:=rfl
theorem f_C (S R : List Nat) (c : Nat) : cnt (S ++ R) c = cnt S c + cnt R c:=List.countP_append
structure Good (S : List Nat) : Prop where
 len1 : 1 ≤ S.length
 len4 : S.length ≤ 4
 each : ∀ s ∈ S,s ≠ 0 ∧ s < 256
 one : ∃ m,m ≤ 8 ∧ ∀ c,cnt S c = if c < m then 1 else 0
open Classical in
noncomputable def gd (S : List Nat) : Bool:=decide (Good S)
theorem c_z {S : List Nat} : gd S = true ↔ Good S:=by unfold gd;simp
theorem f_d (S : List Nat) (a c : Nat) : (S.foldl (· ||| ·) a).testBit c = (a.testBit c || decide (1 ≤ cnt S c)):=by
 induction S generalizing a with
 | nil => simp [f_b]
 | cons s S ih =>
  rw [List.foldl_cons,ih,Nat.testBit_or,c_U]
  cases a.testBit c <;> cases s.testBit c <;> simp
theorem g_L : ∀ U,U < 256 → U &&& (U + 1) = 0 → ∃ m,m ≤ 8 ∧ U = 2 ^ m - 1:=by
 intro U hU h
 have key : ∀ U : Fin 256,U.val &&& (U.val + 1) = 0 → U.val = 0 ∨ U.val = 1 ∨ U.val = 3 ∨ U.val = 7 ∨ U.val = 15 ∨ U.val = 31 ∨ U.val = 63 ∨ U.val = 127 ∨ U.val = 255:=by decide +kernel
 rcases key ⟨U,hU⟩ h with h|h|h|h|h|h|h|h|h <;> simp only at h
 ·exact ⟨0,by decide,h⟩
 ·exact ⟨1,by decide,h⟩
 ·exact ⟨2,by decide,h⟩
 ·exact ⟨3,by decide,h⟩
 ·exact ⟨4,by decide,h⟩
 ·exact ⟨5,by decide,h⟩
 ·exact ⟨6,by decide,h⟩
 ·exact ⟨7,by decide,h⟩
 exact ⟨8,by decide,h⟩
theorem g_R (S : List Nat) : Good S ↔ (1 ≤ S.length ∧ S.length ≤ 4) ∧ (∀ s ∈ S,s ≠ 0 ∧ s < 256) ∧ (∀ c,cnt S c ≤ 1) ∧ (S.foldl (· ||| ·) 0) &&& ((S.foldl (· ||| ·) 0 + 1) % 4294967296) = 0:=by
 have hU : (∀ s ∈ S,s ≠ 0 ∧ s < 256) → S.foldl (· ||| ·) 0 < 256:=fun h => e_v fun i hi => by
  rw [f_d]
  have : cnt S i = 0:=by
   unfold cnt
   rw [List.countP_eq_zero]
   intro s hs
   simp [e_r (h s hs).2 hi]
  simp [this]
 constructor
 ·rintro ⟨h1,h4,he,m,hm,ho⟩
  refine ⟨⟨h1,h4⟩,he,fun c => by rw [ho];split <;> omega,?_⟩
  have hu : S.foldl (· ||| ·) 0 = 2 ^ m - 1:=by
   apply Nat.eq_of_testBit_eq
   intro c
   rw [f_d,ho,Nat.testBit_two_pow_sub_one]
   by_cases hc : c < m <;> simp [hc]
  rw [hu]
  have : m = 0 ∨ m = 1 ∨ m = 2 ∨ m = 3 ∨ m = 4 ∨ m = 5 ∨ m = 6 ∨ m = 7 ∨ m = 8:=by omega
  rcases this with rfl|rfl|rfl|rfl|rfl|rfl|rfl|rfl|rfl <;> decide
 rintro ⟨⟨h1,h4⟩,he,hc,hz⟩
 have h:=hU he
 rw [Nat.mod_eq_of_lt (by omega)] at hz
 obtain ⟨m,hm,hu⟩:=g_L _ h hz
 refine ⟨h1,h4,he,m,hm,fun c => ?_⟩
 have:=f_d S 0 c
 rw [hu,Nat.testBit_two_pow_sub_one] at this
 simp at this
 have:=hc c
 by_cases hcm : c < m
 ·simp [hcm] at this ⊢; omega
 simp [hcm] at this ⊢; omega
def pc (s : Nat) : Nat:=(s.testBit 0).toNat + (s.testBit 1).toNat + (s.testBit 2).toNat + (s.testBit 3).toNat + (s.testBit 4).toNat + (s.testBit 5).toNat + (s.testBit 6).toNat + (s.testBit 7).toNat
end Go.Proofs.Ytkhbffjfclepfaa.Pure
end
section
namespace Go.Proofs.Ytkhbffjfclepfaa.Pure
open Go.RowKit Go.Proofs.Ytkhbffjfclepfaa.Q Go.Proofs.YtkhbffjfclepfaaW.PrintWords Go.Proofs.YtkhbffjfclepfaaW.PrintLast Go.Proofs.YtkhbffjfclepfaaW.PrintMore
set_option linter.unusedVariables false
set_option linter.unusedSimpArgs false
def hb (s : Nat) (a : Int) : Bool:=decide (0 ≤ a ∧ a < 8) && s.testBit a.toNat
theorem g_w (s : Nat) (c : Nat) (h : c < 8) : hb s (c : Int) = s.testBit c:=by unfold hb;rw [decide_eq_true (by omega)];simp
theorem h_i (s : Nat) (a : Int) (h : a < 0 ∨ 8 ≤ a) : hb s a = false:=by unfold hb;rw [decide_eq_false (by omega)];rfl
theorem eight {a : Int} (h0 : 0 ≤ a) (h8 : a < 8) : ∃ c : Nat,c < 8 ∧ a = (c : Int):=⟨a.toNat,by omega,by omega⟩
theorem i_I (c : Nat) (h : c < 8) : b_7.f (c : Int) = some ((2 ^ c : Nat) : Int):=by
 have : c = 0 ∨ c = 1 ∨ c = 2 ∨ c = 3 ∨ c = 4 ∨ c = 5 ∨ c = 6 ∨ c = 7:=by omega
 rcases this with rfl|rfl|rfl|rfl|rfl|rfl|rfl|rfl <;> decide +kernel
theorem h_w (a : Int) (h : a < 0 ∨ 8 ≤ a) : b_7.f a = some 0:=by
 unfold b_7.f
 by_cases h0 : a < 0
 ·rw [if_pos h0]
 rw [if_neg h0,if_pos (by omega)]
theorem h_v (s c : Nat) : s &&& 2 ^ c = 0 ↔ s.testBit c = false:=by
 constructor
 ·intro h
  cases hx : s.testBit c
  ·rfl
  have:=c_X.1 h c hx
  simp [Nat.testBit_two_pow] at this
 intro h
 refine c_X.2 fun i hi => ?_
 rw [Nat.testBit_two_pow]
 apply decide_eq_false
 rintro rfl
 rw [h] at hi
 cases hi
theorem h_g (c : Nat) (h : c < 8) : 2 ^ c < 2 ^ 32:=Nat.pow_lt_pow_right (by decide) (by omega)
theorem n_n (s : Nat) (hs : s < 2 ^ 32) (a : Int) : b_6.f (s : Int) a = some (hb s a):=by
 unfold b_6.f
 by_cases h : 0 ≤ a ∧ a < 8
 rotate_left
 ·rw [h_w a (by omega),h_i s a (by omega)]
  simp only [Option.bind_some]
  have:=f_N (a:=s) (b:=0) hs (by decide)
  simp at this
  rw [this]
  rfl
 obtain ⟨c,hc,rfl⟩:=eight h.1 h.2
 rw [i_I c hc]
 simp only [Option.bind_some]
 rw [f_N hs (h_g c hc),g_w s c hc]
 have:=h_v s c
 cases hx : s.testBit c
 ·rw [this.2 hx];rfl
 have h2 : s &&& 2 ^ c ≠ 0:=fun h => by rw [this.1 h] at hx;cases hx
 have h3 : (((s &&& 2 ^ c : Nat) : Int) != 0) = true:=by simp;omega
 rw [h3]
theorem i_X (s : Nat) (hs : s < 2 ^ 32) (a : Int) : hasB (s : Int) a = hb s a:=by
 have:=h_a (s : Int) a
 rw [n_n s hs a] at this
 exact (Option.some.inj this).symm
theorem f_o (s : Nat) (hs : s < 2 ^ 32) : a_Y.f (s : Int) = some (if s < 256 then 0 else 140):=by
 unfold a_Y.f
 have e:=nd_n s 255
 rw [show ((255 : Nat) : Int) = 255 from rfl] at e
 rw [e]
 by_cases h : s < 256
 ·rw [if_pos (by have:=(i_T hs).2 h;omega),if_pos h]
 rw [if_neg (by intro h2;exact h ((i_T hs).1 (by omega))),if_neg h]
def sub (s t : Nat) : Bool:=nd s t == 0
theorem h_J {s t : Nat} (hs : s < 2 ^ 32) : sub s t = true ↔ ∀ i,s.testBit i = true → t.testBit i = true:=by
 unfold sub
 rw [beq_iff_eq,f_Q hs]
theorem g_O (s t : Nat) (hs : s < 256) : b_k.f (s : Int) (t : Int) = some (sub s t):=by
 unfold b_k.f sub
 have e : Go.bits .and .u32 (s : Int) 255 = (s : Int):=by
  have:=f_N (a:=s) (b:=255) (by omega) (by decide)
  rw [show ((255 : Nat) : Int) = 255 from rfl] at this
  rw [this]
  have h2 : s &&& 255 = s:=by
   rw [show (255 : Nat) = 2 ^ 8 - 1 from rfl,Nat.and_two_pow_sub_one_eq_mod]
   omega
  rw [h2]
 rw [e,nd_n s t]
 congr 1
 cases h : nd s t with
 | zero => rfl
 | succ n => simp;omega
theorem f_U (s : Nat) (hs : s < 256) : b_I.f (s : Int) = some ((pc s : Nat) : Int):=by
 have key : ∀ s : Fin 256,b_I.f ((s.val : Nat) : Int) = some ((pc s.val : Nat) : Int):=by decide +kernel
 exact key ⟨s,hs⟩
end Go.Proofs.Ytkhbffjfclepfaa.Pure
end
section
namespace Go.Proofs.Ytkhbffjfclepfaa.Pure
open Go.RowKit Go.Proofs.Ytkhbffjfclepfaa.Q Go.Proofs.YtkhbffjfclepfaaW.PrintWords Go.Proofs.YtkhbffjfclepfaaW.PrintLast Go.Proofs.YtkhbffjfclepfaaW.PrintMore
set_option linter.unusedVariables false
set_option linter.unusedSimpArgs false
structure Fit (S : List Nat) : Prop where
 lt : ∀ s ∈ S,s < 2 ^ 32
 len : S.length ≤ 1000
theorem Good.fit {S : List Nat} (h : Good S) : Fit S:=⟨fun s hs => by have:=(h.each s hs).2;omega,by have:=h.len4;omega⟩
theorem i_z {S pre suf : List Nat} {x : Nat} (h : S = pre ++ x :: suf) : rd (up S) (pre.length : Int) = (x : Int):=by rw [n_h];subst h;simp
theorem i_S {S pre suf : List Nat} {x : Nat} (h : S = pre ++ x :: suf) : pre.length < S.length:=by subst h;simp
theorem h_B {S pre suf : List Nat} {x : Nat} (h : S = pre ++ x :: suf) : x ∈ S:=by subst h;simp
theorem h_x {S pre : List Nat} (h : S = pre ++ []) : pre.length = S.length:=by subst h;simp
theorem g_T {S pre suf : List Nat} {x : Nat} (h : S = pre ++ x :: suf) : S = (pre ++ [x]) ++ suf:=by simp [h]
theorem g_F {pre : List Nat} {x : Nat} (h : pre.length < 1000) : wrap64 ((pre.length : Int) + 1) = ((pre ++ [x]).length : Int):=by rw [f_v pre.length (by omega)];simp
def ckl : Bool → Nat → List Nat → Bool
 | ok,A,[] => ok && (A &&& ((A + 1) % 4294967296) == 0)
 | ok,A,x :: xs => ckl (ok && (x != 0) && decide (x < 256) && (x &&& A == 0)) (A ||| x) xs
theorem f_r (S : List Nat) (hS : Fit S) : ∀ (suf pre : List Nat) (ok : Bool) (A : Nat),S = pre ++ suf → A < 2 ^ 32 → Ev (fun k => a_q.l0 k ok (A : Int) (up S) ((up S).length : Int) (pre.length : Int)) (if ckl ok A suf = true then 0 else 180)
 | [],pre,ok,A,h,hA => ⟨1,fun k hk => by
  obtain ⟨k,rfl⟩ : ∃ k',k = k' + 1:=⟨k - 1,by omega⟩
  show a_q.l0 (k + 1) _ _ _ _ _ = _
  have e : Go.bits .and .u32 (A : Int) (((A : Int) + 1) % 4294967296) = ((A &&& ((A + 1) % 4294967296) : Nat) : Int):=by
   rw [← f_N hA (show (A + 1) % 4294967296 < 2 ^ 32 by omega)]
   rfl
  rw [a_q.l0,if_neg (by rw [b_w,h_x h];omega),e]
  unfold ckl
  cases ok
  ·simp
  ·rw [if_pos rfl]
   by_cases hz : A &&& ((A + 1) % 4294967296) = 0
   ·rw [hz];simp
   ·rw [if_neg (by omega),if_neg (by simpa using hz)]⟩
 | x :: suf,pre,ok,A,h,hA => by
  have hx:=hS.lt x (h_B h)
  have hlen:=hS.len
  have hlt:=i_S h
  have hor : A ||| x < 2 ^ 32:=Nat.or_lt_two_pow hA hx
  obtain ⟨K,hK⟩:=f_r S hS suf (pre ++ [x]) (ok && (x != 0) && decide (x < 256) && (x &&& A == 0)) (A ||| x) (g_T h) hor
  refine ⟨K + 1,fun k hk => ?_⟩
  obtain ⟨k,rfl⟩ : ∃ k',k = k' + 1:=⟨k - 1,by omega⟩
  have hk' : a_q.l0 k (ok && (x != 0) && decide (x < 256) && (x &&& A == 0)) ((A ||| x : Nat) : Int) (up S) ((up S).length : Int) ((pre ++ [x]).length : Int) = some (if ckl (ok && (x != 0) && decide (x < 256) && (x &&& A == 0)) (A ||| x) suf = true then 0 else 180):=hK k (by omega)
  show a_q.l0 (k + 1) _ _ _ _ _ = _
  rw [a_q.l0,if_pos (by rw [b_w];omega),if_pos (by omega),if_pos (by rw [b_w];omega),i_z h,or_n hA hx,f_N hx hA,g_F (x:=x) (by omega),f_o x hx,Option.bind_some]
  show _ = some (if ckl (ok && (x != 0) && decide (x < 256) && (x &&& A == 0)) (A ||| x) suf = true then 0 else 180)
  rw [← hk']
  cases ok
  ·rw [if_neg (by simp)];simp
  ·rw [if_pos rfl]
   by_cases h0 : x = 0
   ·subst h0;rw [if_pos (by rfl)];simp
   ·rw [if_neg (by omega)]
    have e1 : (x != 0) = true:=by simp [h0]
    by_cases h256 : x < 256
    ·rw [if_pos h256,if_pos rfl,e1,decide_eq_true h256]
     have e2 : ((((x &&& A : Nat) : Int)) == 0) = ((x &&& A) == 0):=by
      cases hz : x &&& A with
      | zero => rfl
      | succ n => simp;omega
     rw [e2]
     simp
    ·rw [if_neg h256,if_neg (by decide),decide_eq_false h256]
     simp
theorem h_z (ok : Bool) (A : Nat) (S : List Nat) : ckl ok A S = true ↔ ok = true ∧ (∀ s ∈ S,s ≠ 0 ∧ s < 256) ∧ (∀ c,(if A.testBit c then 1 else 0) + cnt S c ≤ 1) ∧ (S.foldl (· ||| ·) A) &&& ((S.foldl (· ||| ·) A + 1) % 4294967296) = 0:=by
 induction S generalizing ok A with
 | nil =>
  unfold ckl
  simp only [Bool.and_eq_true,beq_iff_eq,List.foldl_nil,f_b]
  constructor
  ·rintro ⟨h1,h2⟩
   exact ⟨h1,by simp,fun c => by split <;> omega,h2⟩
  rintro ⟨h1,_,_,h2⟩
  exact ⟨h1,h2⟩
 | cons x S ih =>
  rw [ckl,ih,List.foldl_cons]
  simp only [Bool.and_eq_true,beq_iff_eq,bne_iff_ne,decide_eq_true_eq,c_U,List.forall_mem_cons]
  constructor
  ·rintro ⟨⟨⟨⟨h1,h2⟩,h3⟩,h4⟩,h5,h6,h7⟩
   refine ⟨h1,⟨⟨h2,h3⟩,h5⟩,fun c => ?_,h7⟩
   have h8:=h6 c
   have h9:=c_X.1 h4 c
   rw [Nat.testBit_or] at h8
   cases hx : x.testBit c <;> cases ha : A.testBit c <;> simp [hx,ha] at h8 h9 ⊢ <;> omega
  rintro ⟨h1,⟨⟨h2,h3⟩,h5⟩,h6,h7⟩
  refine ⟨⟨⟨⟨h1,h2⟩,h3⟩,c_X.2 fun c hc => ?_⟩,h5,fun c => ?_,h7⟩
  ·have h8:=h6 c
   cases ha : A.testBit c
   ·rfl
   simp [hc,ha] at h8;omega
  have h8:=h6 c
  rw [Nat.testBit_or]
  cases hx : x.testBit c <;> cases ha : A.testBit c <;> simp [hx,ha] at h8 ⊢ <;> omega
theorem d_D {S : List Nat} (hS : Fit S) : Ev (fun k => a_q.f k (up S)) (if gd S = true then 0 else 180):=by
 have hl:=hS.len
 have key : ∀ ok : Bool,Ev (fun k => a_q.j0 k ok (up S)) (if ckl ok 0 S = true then 0 else 180):=fun ok => by
  refine Ev.step (f:=fun k => a_q.l0 k ok 0 (up S) ((up S).length : Int) 0) (fun k => by rw [a_q.j0]) ?_
  have:=f_r S hS S [] ok 0 rfl (by decide)
  simpa using this
 have e : gd S = ckl (decide (0 < S.length) && decide (S.length ≤ 4)) 0 S:=by
  rw [Bool.eq_iff_iff,c_z,h_z,g_R]
  simp
  intro _ _
  omega
 rw [e]
 refine Ev.congr (f:=fun k => a_q.j0 k (decide (0 < S.length) && decide (S.length ≤ 4)) (up S)) (fun k => ?_) (key _)
 unfold a_q.f
 rw [b_w]
 by_cases h0 : 0 < S.length
 rotate_left
 ·rw [if_neg (by omega),decide_eq_false h0,Bool.false_and]
 rw [if_pos (by omega),decide_eq_true h0,Bool.true_and]
 congr 1
 by_cases h4 : S.length ≤ 4
 ·rw [decide_eq_true h4,decide_eq_true (by omega)]
 rw [decide_eq_false h4,decide_eq_false (by omega)]
def fst_ (a : Int) (S : List Nat) : Option Nat:=S.findIdx? (hb · a)
noncomputable def ofv (a : Int) (S : List Nat) : Int × Bool:=if gd S = true then match fst_ a S with|some j => ((j : Int),true)|none => (0,false) else (0,false)
theorem n_f (a : Int) (S : List Nat) (hS : ∀ s ∈ S,s < 2 ^ 32) : idxOf (fun s => hasB s a) (up S) = match fst_ a S with|some j => (j : Int)|none => -1:=by
 unfold idxOf fst_
 have e : (up S).findIdx? (fun s => hasB s a) = S.findIdx? (hb · a):=by
  induction S with
  | nil => rfl
  | cons s S ih =>
   show ((s : Int) :: up S).findIdx? _ = _
   rw [List.findIdx?_cons,List.findIdx?_cons,i_X s (hS s (by simp)) a,ih (fun x hx => hS x (by simp [hx]))]
 rw [e]
 cases S.findIdx? (hb · a) <;> rfl
theorem Of_n (a : Int) {S : List Nat} (hS : Fit S) : Ev (fun k => b_t.f k (up S) a) (ofv a S):=by
 have hl:=hS.len
 unfold b_t.f a_U.f
 rw [if_pos (by rw [b_w];omega)]
 simp only [Option.bind_some]
 refine Ev.bind (d_D hS) ?_
 rw [n_f a S hS.lt]
 unfold ofv
 by_cases hg : gd S = true
 rotate_left
 ·rw [if_neg hg,if_neg hg]
  exact Ev.now _
 rw [if_pos hg,if_pos hg]
 refine Ev.congr (f:=fun _ => some (match fst_ a S with|some j => ((j : Int),true)|none => (0,false))) (fun k => ?_) (Ev.now _)
 rw [if_pos rfl]
 cases fst_ a S with
 | none => rfl
 | some j => simp only [];rw [if_neg (by omega)]
end Go.Proofs.Ytkhbffjfclepfaa.Pure
end
section
namespace Go.Proofs.Ytkhbffjfclepfaa.Pure
open Go.RowKit Go.Proofs.Ytkhbffjfclepfaa.Q Go.Proofs.YtkhbffjfclepfaaW.PrintWords Go.Proofs.YtkhbffjfclepfaaW.PrintLast Go.Proofs.YtkhbffjfclepfaaW.PrintMore
set_option linter.unusedVariables false
set_option linter.unusedSimpArgs false
theorem f_q (S : List Nat) (i x : Nat) : (up S).set i (x : Int) = up (S.set i x):=by unfold up;rw [List.map_set]
theorem g_G (S : List Nat) (i : Nat) : (up S).eraseIdx i = up (S.eraseIdx i):=by
 unfold up
 induction S generalizing i with
 | nil => simp
 | cons s S ih => cases i <;> simp [ih]
theorem g_N (l : List Int) (h : l.length ≤ 1000) : b_i.f l = some l:=by
 unfold b_i.f
 simp only [Option.bind_some]
 rw [if_pos (by simp;omega)]
 simp
theorem f_4 (l : List Int) : a_Z.f l = some (l.take 12):=by
 unfold a_Z.f
 have hm : mn (l.length : Int) 12 = ((min l.length 12 : Nat) : Int):=by unfold mn;split <;> omega
 rw [hm,if_pos (by omega),if_pos (by omega)]
 have e : l.take ((min l.length 12 : Nat) : Int).toNat = l.take 12:=by
  rw [show (((min l.length 12 : Nat) : Int)).toNat = min l.length 12 by simp]
  by_cases h : l.length ≤ 12
  ·rw [Nat.min_eq_left h,List.take_of_length_le (Nat.le_refl _),List.take_of_length_le h]
  rw [Nat.min_eq_right (by omega)]
 rw [e,g_N _ (by rw [List.length_take];omega)]
 rfl
theorem e_z (l : List Int) (a : Int) : a_P.f l [a] = some (decide (0 ≤ a ∧ a < (l.length : Int))):=by
 unfold a_P.f
 rw [if_pos (by simp)]
 congr 1
 rw [Bool.eq_iff_iff]
 simp
theorem g_y (l : List Int) (a b : Int) : a_P.f l [a,b] = some (decide (0 ≤ a ∧ a < (l.length : Int)) && decide (0 ≤ b ∧ b < (l.length : Int))):=by
 unfold a_P.f
 rw [if_pos (by simp)]
 congr 1
 rw [Bool.eq_iff_iff]
 simp
def gt (S : List Nat) (a : Int) : Nat:=S.getD a.toNat 0
theorem f_B (S : List Nat) (a : Int) : rd (up S) a = (gt S a : Int):=by
 unfold gt rd up
 simp [List.getD_eq_getElem?_getD]
 cases S[a.toNat]? <;> simp
theorem d_J {S : List Nat} {a : Int} (h0 : 0 ≤ a) (h1 : a < S.length) : gt S a ∈ S:=by
 unfold gt
 have : a.toNat < S.length:=by omega
 rw [List.getD_eq_getElem?_getD,List.getElem?_eq_getElem this]
 exact List.getElem_mem this
theorem e_8 {S : List Nat} {a : Int} (h0 : 0 ≤ a) (h1 : a < S.length) : gt S a = S[a.toNat]'(by omega):=by
 unfold gt
 have : a.toNat < S.length:=by omega
 rw [List.getD_eq_getElem?_getD,List.getElem?_eq_getElem this]
 rfl
theorem uniq {p : Nat → Bool} : ∀ (S : List Nat) (i j : Nat) (hi : i < S.length) (hj : j < S.length),S.countP p ≤ 1 → p S[i] = true → p S[j] = true → i = j
 | [],i,j,hi,hj,_,_,_ => by simp at hi
 | s :: S,0,0,hi,hj,_,_,_ => rfl
 | s :: S,0,j + 1,hi,hj,h,h1,h2 => by
  rw [List.countP_cons] at h
  simp at h1 h2
  have : 0 < S.countP p:=List.countP_pos_iff.2 ⟨_,List.getElem_mem _,h2⟩
  rw [if_pos h1] at h
  omega
 | s :: S,i + 1,0,hi,hj,h,h1,h2 => by
  rw [List.countP_cons] at h
  simp at h1 h2
  have : 0 < S.countP p:=List.countP_pos_iff.2 ⟨_,List.getElem_mem _,h1⟩
  rw [if_pos h2] at h
  omega
 | s :: S,i + 1,j + 1,hi,hj,h,h1,h2 => by
  rw [List.countP_cons] at h
  have:=uniq (p:=p) S i j (by simpa using hi) (by simpa using hj) (by omega) (by simpa using h1) (by simpa using h2)
  omega
theorem Good.apart {S : List Nat} (h : Good S) {i j : Nat} (hi : i < S.length) (hj : j < S.length) (hij : i ≠ j) : S[i] &&& S[j] = 0:=by
 refine c_X.2 fun c hc => ?_
 cases hx : (S[j]).testBit c
 ·rfl
 obtain ⟨m,hm,ho⟩:=h.one
 have hc1:=ho c
 unfold cnt at hc1
 exact absurd (uniq S i j hi hj (by rw [hc1];split <;> omega) hc hx) hij
noncomputable def splv (S : List Nat) (a : Int) (s : Nat) : List Nat × Int × Int :=
 if gd S = true then if 0 ≤ a ∧ a < (S.length : Int) then if s < 256 then if s = 0 ∨ sub s (gt S a) = false then ([],0,2) else if s = gt S a then ([],0,181) else if S.length = 4 then ([],0,6) else (S.set a.toNat (nd (gt S a) s) ++ [s],(S.length : Int),0)
  else ([],0,140) else ([],0,4) else ([],0,180)
theorem f_W (S : List Nat) (a : Int) (s : Nat) (hg : Good S) (h0 : 0 ≤ a ∧ a < (S.length : Int)) (hs : s < 2 ^ 32) :
 ∃ x,d_i (up S) a (s : Int) = some x ∧ (if x.1 = 0 then x.2.1 else []) = up (splv S a s).1 ∧ x.2.2 = (splv S a s).2.1 ∧ x.1 = (splv S a s).2.2:=by
 unfold d_i splv
 rw [if_pos (c_z.2 hg),if_pos h0,f_o s hs,Option.bind_some]
 by_cases h256 : s < 256
 rotate_left
 ·simp only [if_neg h256]
  exact ⟨(140,[],0),by rw [if_pos (by decide)],rfl,rfl,rfl⟩
 simp only [if_pos h256]
 rw [if_neg (show ¬((0 : Int) ≠ 0) by simp)]
 by_cases hz : s = 0
 ·refine ⟨(2,[],0),by rw [if_pos (show (s : Int) = 0 by omega)],?_⟩
  simp [hz,up]
 rw [if_neg (show ¬((s : Int) = 0) by omega),f_B,g_O s _ h256,Option.bind_some]
 by_cases hw : sub s (gt S a) = false
 ·refine ⟨(2,[],0),by rw [if_pos hw],?_⟩
  simp [hw,up]
 have hor : ¬(s = 0 ∨ sub s (gt S a) = false):=fun h => h.elim hz hw
 simp only [if_neg hw,if_neg hor]
 by_cases he : s = gt S a
 ·refine ⟨(181,[],0),by rw [if_pos (show (s : Int) = (gt S a : Int) by omega)],?_⟩
  simp only [if_pos he]
  simp [up]
 rw [if_neg (show ¬((s : Int) = (gt S a : Int)) by omega)]
 simp only [if_neg he,b_w]
 by_cases h4 : S.length = 4
 ·refine ⟨(6,[],0),by rw [if_pos h4],?_⟩
  simp only [if_pos h4]
  simp [up]
 simp only [if_neg h4]
 refine ⟨_,rfl,?_,rfl,rfl⟩
 rw [if_pos rfl,nd_n,f_q,f_L]
 rfl
theorem h_E {S : List Nat} (hS : Fit S) (a : Int) (s : Nat) (hs : s < 2 ^ 32) : Ev (fun k => a_Q.f k (up S) a (s : Int)) (up (splv S a s).1,(splv S a s).2.1,(splv S a s).2.2):=by
 have hl:=hS.len
 refine Ev.congr (f:=fun k => (a_q.f k (up S)).bind fun e => if e ≠ 0 then some ([],0,e) else (a_P.f (up S) [a]).bind fun ok => if ok = false then some ([],0,4) else (d_i (up S) a s).bind fun x => some (if x.1 = 0 then x.2.1 else [],x.2.2,x.1)) (fun k => by unfold a_Q.f;rw [if_pos (by rw [b_w];omega)]) ?_
 refine Ev.bind (d_D hS) ?_
 by_cases hg : gd S = true
 rotate_left
 ·rw [if_neg hg,if_pos (by decide)]
  unfold splv
  rw [if_neg hg]
  exact Ev.now _
 rw [if_pos hg,if_neg (by simp),e_z,Option.bind_some,b_w]
 by_cases h0 : 0 ≤ a ∧ a < (S.length : Int)
 ·rw [decide_eq_true h0,if_neg (by simp)]
  obtain ⟨x,h1,h2,h3,h4⟩:=f_W S a s (c_z.1 hg) h0 hs
  rw [h1,Option.bind_some,h2,h3,h4]
  exact Ev.now _
 rw [decide_eq_false h0,if_pos rfl]
 unfold splv
 rw [if_pos hg,if_neg h0]
 exact Ev.now _
end Go.Proofs.Ytkhbffjfclepfaa.Pure
end
section
namespace Go.Proofs.Ytkhbffjfclepfaa.Pure
open Go.RowKit Go.Proofs.Ytkhbffjfclepfaa.Q Go.Proofs.YtkhbffjfclepfaaW.PrintWords Go.Proofs.YtkhbffjfclepfaaW.PrintLast Go.Proofs.YtkhbffjfclepfaaW.PrintMore
set_option linter.unusedVariables false
set_option linter.unusedSimpArgs false
noncomputable def f_M (S : List Nat) (a b : Int) : List Nat × Int :=
 if gd S = true then if (0 ≤ a ∧ a < (S.length : Int)) ∧ 0 ≤ b ∧ b < (S.length : Int) then if a = b then ([],2) else ((S.set b.toNat (gt S b ||| gt S a)).eraseIdx a.toNat,0) else ([],4) else ([],180)
theorem i_L {S : List Nat} (hS : Fit S) (a b : Int) : Ev (fun k => a_0.f k (up S) a b) (up (f_M S a b).1,(f_M S a b).2):=by
 have hl:=hS.len
 refine Ev.congr (f:=fun k => (a_q.f k (up S)).bind fun e => if e ≠ 0 then some ([],e) else (a_P.f (up S) [a,b]).bind fun ok => if ok = false then some ([],4) else (e_o (up S) a b).bind fun x => some (if x.1 = 0 then x.2 else [],x.1)) (fun k => by unfold a_0.f;rw [if_pos (by rw [b_w];omega)]) ?_
 refine Ev.bind (d_D hS) ?_
 unfold f_M
 by_cases hg : gd S = true
 rotate_left
 ·simp only [if_neg hg]
  rw [if_pos (by decide)]
  exact Ev.now _
 simp only [if_pos hg]
 rw [if_neg (show ¬((0 : Int) ≠ 0) by simp),g_y,Option.bind_some,b_w]
 by_cases h0 : (0 ≤ a ∧ a < (S.length : Int)) ∧ 0 ≤ b ∧ b < (S.length : Int)
 rotate_left
 ·simp only [if_neg h0]
  have e : (decide (0 ≤ a ∧ a < (S.length : Int)) && decide (0 ≤ b ∧ b < (S.length : Int))) = false:=by
   rw [← Bool.decide_and]
   exact decide_eq_false h0
  rw [e,if_pos rfl]
  exact Ev.now _
 simp only [if_pos h0]
 rw [decide_eq_true h0.1,decide_eq_true h0.2,if_neg (by simp)]
 unfold e_o
 by_cases hab : a = b
 ·simp only [if_pos hab,Option.bind_some]
  exact Ev.now _
 simp only [if_neg hab,Option.bind_some,f_B]
 have hgg:=c_z.1 hg
 rw [or_n (by have:=(hgg.each _ (d_J h0.2.1 h0.2.2)).2;omega) (by have:=(hgg.each _ (d_J h0.1.1 h0.1.2)).2;omega),f_q,g_G]
 exact Ev.now _
end Go.Proofs.Ytkhbffjfclepfaa.Pure
end
section
namespace Go.Proofs.Ytkhbffjfclepfaa.Pure
open Go.RowKit Go.Proofs.Ytkhbffjfclepfaa.Q Go.Proofs.YtkhbffjfclepfaaW.PrintWords Go.Proofs.YtkhbffjfclepfaaW.PrintLast Go.Proofs.YtkhbffjfclepfaaW.PrintMore
set_option linter.unusedVariables false
set_option linter.unusedSimpArgs false
theorem h_C (c : Nat) (h : c < 8) : shl .u32 1 (c : Int) = ((2 ^ c : Nat) : Int):=by
 have : c = 0 ∨ c = 1 ∨ c = 2 ∨ c = 3 ∨ c = 4 ∨ c = 5 ∨ c = 6 ∨ c = 7:=by omega
 rcases this with rfl|rfl|rfl|rfl|rfl|rfl|rfl|rfl <;> decide +kernel
theorem f_u {a : Int} {S : List Nat} {j : Nat} (h : fst_ a S = some j) : ∃ c : Nat,c < 8 ∧ a = (c : Int) ∧ j < S.length ∧ (gt S (j : Int)).testBit c = true:=by
 unfold fst_ at h
 rw [List.findIdx?_eq_some_iff_getElem] at h
 obtain ⟨hj,h1,_⟩:=h
 by_cases ha : 0 ≤ a ∧ a < 8
 rotate_left
 ·rw [h_i _ a (by omega)] at h1
  cases h1
 obtain ⟨c,hc,rfl⟩:=eight ha.1 ha.2
 rw [g_w _ c hc] at h1
 refine ⟨c,hc,rfl,hj,?_⟩
 rw [e_8 (by omega) (by omega)]
 simpa using h1
theorem h_f (S : List Nat) (j v : Nat) (a : Int) (h : a.toNat ≠ j) : gt (S.set j v) a = gt S a:=by
 unfold gt
 rw [List.getD_eq_getElem?_getD,List.getD_eq_getElem?_getD,List.getElem?_set_ne (by omega)]
noncomputable def movv (S : List Nat) (cpu tt : Int) : List Nat × Int × Int :=
 if gd S = true then if 0 ≤ tt ∧ tt < (S.length : Int) then match fst_ cpu S with
  | none => ([],0,2)
  | some j => if (j : Int) = tt then ([],0,5) else if pc (gt S (j : Int)) = 1 then ([],0,181) else ((S.set j (nd (gt S (j : Int)) (2 ^ cpu.toNat))).set tt.toNat (gt S tt ||| 2 ^ cpu.toNat),(j : Int),0)
  else ([],0,4) else ([],0,180)
theorem h_e {S : List Nat} (hS : Fit S) (cpu tt : Int) : Ev (fun k => a_K.f k (up S) cpu tt) (up (movv S cpu tt).1,(movv S cpu tt).2.1,(movv S cpu tt).2.2):=by
 have hl:=hS.len
 refine Ev.congr (f:=fun k => (a_q.f k (up S)).bind fun e => if e ≠ 0 then some ([],0,e) else (a_P.f (up S) [tt]).bind fun ok => if ok = false then some ([],0,4) else (d_h k (up S) cpu tt).bind fun x => some (if x.1 = 0 then x.2.1 else [],x.2.2,x.1)) (fun k => by unfold a_K.f;rw [if_pos (by rw [b_w];omega)]) ?_
 refine Ev.bind (d_D hS) ?_
 unfold movv
 by_cases hg : gd S = true
 rotate_left
 ·simp only [if_neg hg]
  simp only [if_pos (show (180 : Int) ≠ 0 by decide)]
  exact Ev.now _
 simp only [if_pos hg]
 simp only [if_neg (show ¬((0 : Int) ≠ 0) by simp),e_z,Option.bind_some,b_w]
 by_cases h0 : 0 ≤ tt ∧ tt < (S.length : Int)
 rotate_left
 ·simp only [if_neg h0]
  simp only [decide_eq_false h0,if_true]
  exact Ev.now _
 simp only [if_pos h0]
 simp only [decide_eq_true h0,Bool.true_eq_false,if_false]
 have hgg:=c_z.1 hg
 have hof:=Of_n cpu hS
 unfold ofv at hof
 rw [if_pos hg] at hof
 cases hf : fst_ cpu S with
 | none =>
  rw [hf] at hof
  refine Ev.bind (a:=(2,[],0)) ?_ (by simp only [];rw [if_neg (show ¬((2 : Int) = 0) by decide)];exact Ev.now _)
  unfold d_h
  exact Ev.bind hof (by simp only [if_true];exact Ev.now _)
 | some j =>
  rw [hf] at hof
  obtain ⟨c,hc,rfl,hj,hbit⟩:=f_u hf
  have hgj:=(hgg.each _ (d_J (a:=(j : Int)) (by omega) (by omega))).2
  have hgt:=(hgg.each _ (d_J (a:=tt) h0.1 h0.2)).2
  simp only []
  by_cases hjt : (j : Int) = tt
  ·simp only [if_pos hjt]
   refine Ev.bind (a:=(5,[],0)) ?_ (by simp only [];rw [if_neg (show ¬((5 : Int) = 0) by decide)];exact Ev.now _)
   unfold d_h
   exact Ev.bind hof (by simp only [];rw [if_neg (by simp),if_pos hjt];exact Ev.now _)
  simp only [if_neg hjt]
  have hcond : 0 ≤ (j : Int) ∧ (j : Int) < ((up S).length : Int) ∧ 0 ≤ (c : Int) ∧ (c : Int) < 8:=by rw [b_w];omega
  by_cases hp : pc (gt S (j : Int)) = 1
  ·simp only [if_pos hp]
   refine Ev.bind (a:=(181,[],0)) ?_ (by simp only [];rw [if_neg (show ¬((181 : Int) = 0) by decide)];exact Ev.now _)
   unfold d_h
   exact Ev.bind hof (by simp only [];rw [if_neg (by simp),if_neg hjt,if_pos hcond,f_B,f_U _ hgj,Option.bind_some,if_pos (by omega)];exact Ev.now _)
  simp only [if_neg hp]
  refine Ev.bind (a:=(0,up ((S.set j (nd (gt S (j : Int)) (2 ^ c))).set tt.toNat (gt S tt ||| 2 ^ c)),(j : Int))) ?_ (by simp only [if_true];exact Ev.now _)
  unfold d_h
  refine Ev.bind hof ?_
  simp only []
  rw [if_neg (by simp),if_neg hjt,if_pos hcond,f_B,f_U _ hgj,Option.bind_some,if_neg (by omega),h_C c hc,nd_n,f_B,or_n (by omega) (h_g c hc),f_q,f_q]
  exact Ev.now _
end Go.Proofs.Ytkhbffjfclepfaa.Pure
end
section
namespace Go.Proofs.Ytkhbffjfclepfaa.Pure
open Go.RowKit Go.Proofs.Ytkhbffjfclepfaa.Q Go.Proofs.YtkhbffjfclepfaaW.PrintWords Go.Proofs.YtkhbffjfclepfaaW.PrintLast Go.Proofs.YtkhbffjfclepfaaW.PrintMore
set_option linter.unusedVariables false
set_option linter.unusedSimpArgs false
theorem g_z : Ev (fun k => a_A.f k) true:=Ev.of a_A.mono (k:=100) (by kernel_rfl)
theorem i_E (l : List Int) (h : l.length ≤ maxLen ∧ ∀ x ∈ l,(Lit.int .u32 x).wf = true) : ∃ S,l.take 12 = up S ∧ Fit S ∧ S.length ≤ 12:=by
 obtain ⟨S,hS,hlt⟩:=n_j (l.take 12) (fun x hx => by
  have:=bounds_u32 (h.2 x (List.mem_of_mem_take hx))
  omega)
 have hlen : S.length ≤ 12:=by
  have:=congrArg List.length hS
  rw [b_w,List.length_take] at this
  omega
 exact ⟨S,hS,⟨hlt,by omega⟩,hlen⟩
end Go.Proofs.Ytkhbffjfclepfaa.Pure
end
section
namespace Go.Proofs.Ytkhbffjfclepfaa.Pure
open Go.RowKit Go.Proofs.Ytkhbffjfclepfaa.Q Go.Proofs.YtkhbffjfclepfaaW.PrintWords Go.Proofs.YtkhbffjfclepfaaW.PrintLast Go.Proofs.YtkhbffjfclepfaaW.PrintMore
set_option linter.unusedVariables false
set_option linter.unusedSimpArgs false
theorem h_l {A pre suf : List Int} {x : Int} (h : A = pre ++ x :: suf) : rd A (pre.length : Int) = x:=by subst h;simp [rd]
theorem i_U {α : Type} {A pre suf : List α} {x : α} (h : A = pre ++ x :: suf) : pre.length < A.length:=by subst h;simp
theorem f_s {α : Type} {A pre suf : List α} {x : α} (h : A = pre ++ x :: suf) : A = (pre ++ [x]) ++ suf:=by simp [h]
theorem h_D {α : Type} {pre : List α} {x : α} (h : pre.length < 9223372036854775807) : wrap64 ((pre.length : Int) + 1) = ((pre ++ [x]).length : Int):=by rw [f_v pre.length h];simp
theorem h_n (A B : List Int) (hA : A.length ≤ 1000000) : ∀ (s t p q : List Int),A = p ++ s → B = q ++ t → p.length = q.length → A.length = B.length →
 Ev (fun k => a_O.l0 k A B (A.length : Int) (p.length : Int)) (decide (s = t))
 | [],t,p,q,h1,h2,h3,h4 => by
  have ht : t = []:=by
   have : t.length = 0:=by subst h1 h2;simp at h4;omega
   exact List.eq_nil_of_length_eq_zero this
  subst ht
  refine Ev.step (f:=fun _ => some true) (fun k => ?_) (Ev.now _)
  rw [a_O.l0,if_neg (by subst h1;simp)]
 | x :: s,[],p,q,h1,h2,h3,h4 => by
  exfalso
  subst h1 h2
  simp at h4
  omega
 | x :: s,y :: t,p,q,h1,h2,h3,h4 => by
  have ih:=h_n A B hA s t (p ++ [x]) (q ++ [y]) (f_s h1) (f_s h2) (by simp [h3]) h4
  have hlt:=i_U h1
  have hx:=h_l h1
  have hy:=h_l h2
  rw [← h3] at hy
  refine Ev.step (f:=fun k => if x = y then a_O.l0 k A B (A.length : Int) ((p ++ [x]).length : Int) else some false) (fun k => ?_) ?_
  ·rw [a_O.l0,if_pos (by omega),if_pos (by omega),if_pos (by omega),if_pos (by omega),hx,hy,h_D (x:=x) (by omega)]
  ·by_cases hxy : x = y
   ·simp only [if_pos hxy]
    rw [show decide (x :: s = y :: t) = decide (s = t) by simp [hxy]]
    exact ih
   ·simp only [if_neg hxy]
    rw [show decide (x :: s = y :: t) = false by simp [hxy]]
    exact Ev.now _
theorem e_K (A B : List Int) (hA : A.length ≤ 1000000) : Ev (fun k => a_1.f k A B) (decide (A = B)):=by
 unfold a_1.f a_O.f
 refine Ev.bind (a:=decide (A = B)) ?_ (Ev.now _)
 by_cases h : A.length = B.length
 ·simp only [if_pos (show (A.length : Int) = (B.length : Int) by omega)]
  exact h_n A B hA A B [] [] rfl rfl rfl h
 simp only [if_neg (show ¬(A.length : Int) = (B.length : Int) by omega)]
 rw [decide_eq_false (by rintro rfl;exact h rfl)]
 exact Ev.now _
theorem n_k {S : List Nat} (hS : Fit S) (a : Int) : Ev (fun k => b_s.f k (up S) a) (if gd S = true ∧ 0 ≤ a ∧ a < (S.length : Int) then (gt S a : Int) else 0):=by
 unfold b_s.f
 refine Ev.bind (d_D hS) ?_
 by_cases hg : gd S = true
 rotate_left
 ·simp only [if_neg hg,if_neg (fun h : gd S = true ∧ _ => hg h.1)]
  simp only [show ((180 : Int) = 0) = False by simp,if_false]
  exact Ev.now _
 simp only [hg,if_true,true_and,e_z,Option.bind_some,b_w,f_B]
 by_cases h : 0 ≤ a ∧ a < (S.length : Int)
 ·simp only [decide_eq_true h,if_true,if_pos h.1,if_pos h.2,if_pos h]
  exact Ev.now _
 simp only [decide_eq_false h,if_neg h]
 rw [if_neg (by simp)]
 exact Ev.now _
end Go.Proofs.Ytkhbffjfclepfaa.Pure
end
section
namespace Go.Proofs.Ytkhbffjfclepfaa.Pure
open Go.RowKit Go.Proofs.Ytkhbffjfclepfaa.Q Go.Proofs.YtkhbffjfclepfaaW.PrintWords Go.Proofs.YtkhbffjfclepfaaW.PrintLast Go.Proofs.YtkhbffjfclepfaaW.PrintMore
set_option linter.unusedVariables false
set_option linter.unusedSimpArgs false
theorem e_t (c : Nat) : ∀ (S : List Nat) (i x : Nat),i < S.length → cnt (S.set i x) c + ((S.getD i 0).testBit c).toNat = cnt S c + (x.testBit c).toNat
 | [],i,x,h => by simp at h
 | s :: S,0,x,h => by
  rw [List.set_cons_zero,c_U,c_U,List.getD_cons_zero]
  cases s.testBit c <;> cases x.testBit c <;> simp <;> omega
 | s :: S,i + 1,x,h => by
  have ih:=e_t c S i x (by simpa using h)
  rw [List.set_cons_succ,c_U,c_U,List.getD_cons_succ]
  omega
theorem f_k {a b : Nat} (ha : a < 256) (hb : b < 256) : a ||| b < 256:=Nat.or_lt_two_pow (n:=8) ha hb
theorem f_j {a b : Nat} (ha : a < 256) : nd a b < 256:=e_v fun i hi => by rw [d_T (by omega),e_r ha hi];rfl
theorem Good.h_h {S Q : List Nat} (g : Good S) (h1 : 1 ≤ Q.length) (h4 : Q.length ≤ 4) (he : ∀ s ∈ Q,s ≠ 0 ∧ s < 256) (hc : ∀ c,cnt Q c = cnt S c) : Good Q:=by
 obtain ⟨m,hm,ho⟩:=g.one
 exact ⟨h1,h4,he,m,hm,fun c => (hc c).trans (ho c)⟩
theorem d_G {S : List Nat} {i x s : Nat} {P : Nat → Prop} (hS : ∀ s ∈ S,P s) (hx : P x) (h : s ∈ S.set i x) : P s:=by
 rcases List.mem_or_eq_of_mem_set h with h|rfl
 ·exact hS s h
 exact hx
structure e_7 (S : List Nat) (a : Int) (s : Nat) : Prop where
 good : Good S
 r0 : 0 ≤ a
 r1 : a < (S.length : Int)
 s256 : s < 256
 s0 : s ≠ 0
 sub_ : ∀ i,s.testBit i = true → (gt S a).testBit i = true
 ne : s ≠ gt S a
 len : S.length ≠ 4
theorem f_P {S : List Nat} {a : Int} {s : Nat} (h : (splv S a s).2.2 = 0) : e_7 S a s ∧ splv S a s = (S.set a.toNat (nd (gt S a) s) ++ [s],(S.length : Int),0):=by
 unfold splv at h ⊢
 by_cases hg : gd S = true
 rotate_left
 ·simp only [if_neg hg] at h;omega
 simp only [if_pos hg] at h ⊢
 by_cases h0 : 0 ≤ a ∧ a < (S.length : Int)
 rotate_left
 ·simp only [if_neg h0] at h;omega
 simp only [if_pos h0] at h ⊢
 by_cases h256 : s < 256
 rotate_left
 ·simp only [if_neg h256] at h;omega
 simp only [if_pos h256] at h ⊢
 by_cases hz : s = 0 ∨ sub s (gt S a) = false
 ·simp only [if_pos hz] at h;omega
 simp only [if_neg hz] at h ⊢
 by_cases he : s = gt S a
 ·simp only [if_pos he] at h;omega
 simp only [if_neg he] at h ⊢
 by_cases h4 : S.length = 4
 ·simp only [if_pos h4] at h;omega
 simp only [if_neg h4] at h ⊢
 refine ⟨⟨c_z.1 hg,h0.1,h0.2,h256,fun h => hz (.inl h),?_,he,h4⟩,trivial⟩
 refine (h_J (by omega)).1 ?_
 cases hb : sub s (gt S a)
 ·exact absurd (.inr hb) hz
 rfl
theorem f_6 (S : List Nat) (a : Int) : S.getD a.toNat 0 = gt S a:=rfl
theorem e_7.result {S : List Nat} {a : Int} {s : Nat} (k : e_7 S a s) : Good (S.set a.toNat (nd (gt S a) s) ++ [s]):=by
 have g:=k.good
 have hg:=g.each _ (d_J k.r0 k.r1)
 have hlt : a.toNat < S.length:=by have:=k.r1;have:=k.r0;omega
 refine g.h_h (by simp) (by have:=g.len4;have:=k.len;simp;omega) (fun x hx => ?_) (fun c => ?_)
 ·rcases List.mem_append.1 hx with hx|hx
  ·refine d_G (P:=fun s => s ≠ 0 ∧ s < 256) g.each ⟨fun hz => ?_,f_j hg.2⟩ hx
   have:=h_o (a:=gt S a) (b:=s) (by omega) k.sub_
   exact k.ne (by omega)
  rw [List.mem_singleton] at hx
  rw [hx]
  exact ⟨k.s0,k.s256⟩
 have h:=e_t c S a.toNat (nd (gt S a) s) hlt
 rw [f_6,d_T (by omega)] at h
 rw [f_C,c_U,f_b]
 have hs:=k.sub_ c
 cases h1 : s.testBit c <;> cases h2 : (gt S a).testBit c <;> simp [h1,h2] at h hs ⊢ <;> omega
theorem h_m {Q : List Nat} (g : Good Q) {c : Nat} (hc : c < 8) {j : Nat} (hj : j < Q.length) (hb : (gt Q (j : Int)).testBit c = true) : fst_ (c : Int) Q = some j:=by
 unfold fst_
 rw [List.findIdx?_eq_some_iff_getElem]
 have hj' : gt Q (j : Int) = Q[j]:=e_8 (by omega) (by omega)
 rw [hj'] at hb
 refine ⟨hj,by rw [g_w _ c hc];exact hb,fun i hi => ?_⟩
 rw [g_w _ c hc]
 cases hx : (Q[i]).testBit c
 ·simp
 exfalso
 obtain ⟨m,hm,ho⟩:=g.one
 have hc1:=ho c
 unfold cnt at hc1
 have:=uniq Q i j (by omega) hj (by rw [hc1];split <;> omega) hx hb
 omega
structure c_C (S : List Nat) (c j : Nat) (tt : Int) : Prop where
 good : Good S
 c8 : c < 8
 r0 : 0 ≤ tt
 r1 : tt < (S.length : Int)
 j1 : j < S.length
 bit : (gt S (j : Int)).testBit c = true
 ne : (j : Int) ≠ tt
 pc1 : pc (gt S (j : Int)) ≠ 1
def moved (S : List Nat) (c j : Nat) (tt : Int) : List Nat:=(S.set j (nd (gt S (j : Int)) (2 ^ c))).set tt.toNat (gt S tt ||| 2 ^ c)
theorem f_O {S : List Nat} {cpu tt : Int} (h : (movv S cpu tt).2.2 = 0) : ∃ c j : Nat,cpu = (c : Int) ∧ c_C S c j tt ∧ movv S cpu tt = (moved S c j tt,(j : Int),0):=by
 unfold movv at h ⊢
 by_cases hg : gd S = true
 rotate_left
 ·simp only [if_neg hg] at h;omega
 simp only [if_pos hg] at h ⊢
 by_cases h0 : 0 ≤ tt ∧ tt < (S.length : Int)
 rotate_left
 ·simp only [if_neg h0] at h;omega
 simp only [if_pos h0] at h ⊢
 cases hf : fst_ cpu S with
 | none => rw [hf] at h;simp only at h;omega
 | some j =>
  obtain ⟨c,hc,rfl,hj,hb⟩:=f_u hf
  rw [hf] at h
  simp only at h ⊢
  by_cases hjt : (j : Int) = tt
  ·simp only [if_pos hjt] at h;omega
  simp only [if_neg hjt] at h ⊢
  by_cases hp : pc (gt S (j : Int)) = 1
  ·simp only [if_pos hp] at h;omega
  simp only [if_neg hp] at h ⊢
  exact ⟨c,j,rfl,⟨c_z.1 hg,hc,h0.1,h0.2,hj,hb,hjt,hp⟩,by simp only [moved,Int.toNat_natCast]⟩
theorem h_d {c : Nat} (h : c < 8) : 2 ^ c < 256:=Nat.pow_lt_pow_right (by decide) h
theorem i_B {c : Nat} (h : c < 8) : pc (2 ^ c) = 1:=by
 have : c = 0 ∨ c = 1 ∨ c = 2 ∨ c = 3 ∨ c = 4 ∨ c = 5 ∨ c = 6 ∨ c = 7:=by omega
 rcases this with rfl|rfl|rfl|rfl|rfl|rfl|rfl|rfl <;> decide
theorem e_q (c i : Nat) : (2 ^ c).testBit i = decide (c = i):=Nat.testBit_two_pow ..
theorem c_C.own {S : List Nat} {c j : Nat} {tt : Int} (k : c_C S c j tt) : gt S (j : Int) < 256 ∧ gt S tt < 256 ∧ gt S tt ≠ 0 ∧ (gt S tt).testBit c = false ∧ nd (gt S (j : Int)) (2 ^ c) ≠ 0 ∧ nd (gt S (j : Int)) (2 ^ c) ||| 2 ^ c = gt S (j : Int):=by
 have g:=k.good
 have h1:=g.each _ (d_J (a:=(j : Int)) (by omega) (by have:=k.j1;omega))
 have h2:=g.each _ (d_J k.r0 k.r1)
 have hr1:=k.r1
 have hr0:=k.r0
 have hne:=k.ne
 have hap:=g.apart (i:=j) (j:=tt.toNat) k.j1 (by omega) (by omega)
 have ea : gt S (j : Int) = S[j]'k.j1:=e_8 (by omega) (by have:=k.j1;omega)
 rw [← ea, ← e_8 k.r0 k.r1] at hap
 have hb:=c_X.1 hap c k.bit
 have hsub:=h_o (a:=gt S (j : Int)) (b:=2 ^ c) (by omega) (fun i hi => by
  rw [e_q,decide_eq_true_eq] at hi
  subst hi
  exact k.bit)
 refine ⟨h1.2,h2.2,h2.1,hb,fun hz => ?_,?_⟩
 ·have : gt S (j : Int) = 2 ^ c:=by omega
  exact k.pc1 (by rw [this];exact i_B k.c8)
 apply Nat.eq_of_testBit_eq
 intro i
 rw [Nat.testBit_or,d_T (by omega),e_q]
 by_cases hi : c = i
 ·subst hi
  simp [k.bit]
 simp [hi]
theorem d_q (S : List Nat) (c j : Nat) (tt : Int) : (moved S c j tt).length = S.length:=by simp [moved]
theorem d_U {S : List Nat} {i v : Nat} {a : Int} (h : a.toNat = i) (hi : i < S.length) : gt (S.set i v) a = v:=by
 unfold gt
 rw [h,List.getD_eq_getElem?_getD,List.getElem?_set_self hi]
 rfl
theorem c_C.h_F {S : List Nat} {c j : Nat} {tt : Int} (k : c_C S c j tt) : gt (moved S c j tt) tt = gt S tt ||| 2 ^ c:=d_U rfl (by have:=k.r1;have:=k.r0;simp;omega)
theorem c_C.i_D {S : List Nat} {c j : Nat} {tt : Int} (k : c_C S c j tt) : gt (moved S c j tt) (j : Int) = nd (gt S (j : Int)) (2 ^ c):=by
 have hne:=k.ne
 have hr:=k.r0
 unfold moved
 rw [h_f _ _ _ _ (by omega),d_U (by omega) k.j1]
theorem c_C.result {S : List Nat} {c j : Nat} {tt : Int} (k : c_C S c j tt) : Good (moved S c j tt):=by
 have g:=k.good
 obtain ⟨h1,h2,h3,h4,h5,h6⟩:=k.own
 have hr1:=k.r1
 have hr0:=k.r0
 have hne:=k.ne
 refine g.h_h (by rw [d_q];exact g.len1) (by rw [d_q];exact g.len4) (fun x hx => ?_) (fun i => ?_)
 ·refine d_G (P:=fun s => s ≠ 0 ∧ s < 256) (fun y hy => d_G (P:=fun s => s ≠ 0 ∧ s < 256) g.each ⟨h5,f_j h1⟩ hy) ⟨fun hz => ?_,f_k h2 (h_d k.c8)⟩ hx
  apply h3
  apply Nat.eq_of_testBit_eq
  intro i
  have:=congrArg (Nat.testBit · i) hz
  simp [Nat.testBit_or] at this
  simp [this.1]
 have e1:=e_t i S j (nd (gt S (j : Int)) (2 ^ c)) k.j1
 have e2:=e_t i (S.set j (nd (gt S (j : Int)) (2 ^ c))) tt.toNat (gt S tt ||| 2 ^ c) (by simp;omega)
 rw [f_6,h_f _ _ _ _ (by omega),Nat.testBit_or,e_q] at e2
 rw [show S.getD j 0 = gt S (j : Int) by unfold gt;rw [Int.toNat_natCast],d_T (by omega),e_q] at e1
 unfold moved
 have hbit:=k.bit
 by_cases hi : c = i
 rotate_left
 ·simp [hi] at e1 e2
  omega
 subst hi
 rw [hbit] at e1
 rw [h4] at e2
 simp at e1 e2
 omega
theorem i_N : ∀ (x : Fin 256) (c : Fin 8),x.val ≠ 0 → x.val.testBit c.val = false → pc (x.val ||| 2 ^ c.val) ≠ 1:=by decide +kernel
theorem c_C.back {S : List Nat} {c j : Nat} {tt : Int} (k : c_C S c j tt) : c_C (moved S c j tt) c tt.toNat (j : Int):=by
 obtain ⟨h1,h2,h3,h4,h5,h6⟩:=k.own
 have hr1:=k.r1
 have hr0:=k.r0
 have hne:=k.ne
 have htt : ((tt.toNat : Nat) : Int) = tt:=by omega
 refine ⟨k.result,k.c8,by omega,by rw [d_q];have:=k.j1;omega,by rw [d_q];omega,?_,by omega,?_⟩
 ·rw [htt,k.h_F,Nat.testBit_or,e_q]
  simp
 rw [htt,k.h_F]
 exact i_N ⟨gt S tt,h2⟩ ⟨c,k.c8⟩ h3 h4
theorem c_C.home {S : List Nat} {c j : Nat} {tt : Int} (k : c_C S c j tt) : moved (moved S c j tt) c tt.toNat (j : Int) = S:=by
 obtain ⟨h1,h2,h3,h4,h5,h6⟩:=k.own
 have hr1:=k.r1
 have hr0:=k.r0
 have hne:=k.ne
 have htt : ((tt.toNat : Nat) : Int) = tt:=by omega
 rw [show moved (moved S c j tt) c tt.toNat (j : Int) = ((moved S c j tt).set tt.toNat (nd (gt (moved S c j tt) ((tt.toNat : Nat) : Int)) (2 ^ c))).set ((j : Int)).toNat (gt (moved S c j tt) (j : Int) ||| 2 ^ c) from rfl,htt,k.h_F,k.i_D,h6]
 have e : nd (gt S tt ||| 2 ^ c) (2 ^ c) = gt S tt:=by
  have hp:=h_d k.c8
  have hlt:=f_k h2 hp
  apply Nat.eq_of_testBit_eq
  intro i
  rw [d_T (by omega),Nat.testBit_or,e_q]
  by_cases hi : c = i
  ·subst hi
   simp [h4]
  simp [hi]
 rw [e]
 apply List.ext_getElem
 ·simp [moved]
 intro i hi1 hi2
 unfold moved
 simp only [List.getElem_set,Int.toNat_natCast]
 by_cases hj : j = i
 ·subst hj
  simp only [if_true]
  exact e_8 (by omega) (by omega)
 simp only [if_neg hj]
 by_cases ht : tt.toNat = i
 ·subst ht
  simp only [if_true]
  exact e_8 hr0 hr1
 simp only [if_neg ht]
theorem h_K {S : List Nat} {c j : Nat} {tt : Int} (k : c_C S c j tt) : movv S (c : Int) tt = (moved S c j tt,(j : Int),0):=by
 unfold movv moved
 rw [if_pos (c_z.2 k.good),if_pos ⟨k.r0,k.r1⟩,h_m k.good k.c8 k.j1 k.bit]
 simp only [if_neg k.ne,if_neg k.pc1,Int.toNat_natCast]
theorem g_J {S : List Nat} {cpu tt : Int} (h : (movv S cpu tt).2.2 ≠ 0) : (movv S cpu tt).1 = []:=by
 unfold movv at h ⊢
 by_cases hg : gd S = true
 rotate_left
 ·simp only [if_neg hg]
 simp only [if_pos hg] at h ⊢
 by_cases h0 : 0 ≤ tt ∧ tt < (S.length : Int)
 rotate_left
 ·simp only [if_neg h0]
 simp only [if_pos h0] at h ⊢
 cases hf : fst_ cpu S with
 | none => rfl
 | some j =>
  rw [hf] at h
  simp only at h ⊢
  by_cases hjt : (j : Int) = tt
  ·simp only [if_pos hjt]
  simp only [if_neg hjt] at h ⊢
  by_cases hp : pc (gt S (j : Int)) = 1
  ·simp only [if_pos hp]
  simp only [if_neg hp] at h
  exact absurd rfl h
end Go.Proofs.Ytkhbffjfclepfaa.Pure
end
section
namespace Go.Proofs.Ytkhbffjfclepfaa.Pure
open Go.RowKit Go.Proofs.Ytkhbffjfclepfaa.Q Go.Proofs.YtkhbffjfclepfaaW.PrintWords Go.Proofs.YtkhbffjfclepfaaW.PrintLast Go.Proofs.YtkhbffjfclepfaaW.PrintMore
set_option linter.unusedVariables false
set_option linter.unusedSimpArgs false
theorem h_I (kind a b cpu s : Int) {S : List Nat} (g : Good S) : Ev (fun k => a_n.j0 k kind a b cpu s (up S)) true:=by
 have hl:=g.len4
 refine Ev.step (f:=fun k => (a_K.f k (up S) cpu b).bind fun bt494 => (if bt494.2.2 = 0 then ((b_t.f k bt494.1 cpu).bind fun bt500 => ((a_K.f k bt494.1 cpu bt494.2.1).bind fun bt502 => (if bt500.2 = true then (if bt500.1 = b then (if bt502.2.2 = 0 then (if bt502.2.1 = b then ((a_1.f k bt502.1 (up S)).bind fun t508 => (some t508)) else (some false)) else (some false)) else (some false)) else (some false)))) else (some ((bt494.1.length : Int) == 0)))) (fun k => by rw [a_n.j0]) ?_
 refine Ev.bind (h_e g.fit cpu b) ?_
 by_cases h : (movv S cpu b).2.2 = 0
 rotate_left
 ·simp only [if_neg h]
  rw [g_J h]
  exact Ev.now _
 obtain ⟨c,j,rfl,mo,hm⟩:=f_O h
 have hb:=mo.back
 have hr0:=mo.r0
 have htt : ((b.toNat : Nat) : Int) = b:=by omega
 have hof:=Of_n (c : Int) mo.result.fit
 have hv : ofv (c : Int) (moved S c j b) = (b,true):=by
  unfold ofv
  rw [if_pos (c_z.2 mo.result),h_m mo.result mo.c8 hb.j1 hb.bit]
  simp only [htt]
 rw [hv] at hof
 have hmv:=h_e mo.result.fit (c : Int) (j : Int)
 rw [h_K hb,mo.home,htt] at hmv
 simp only at hmv
 have hs:=e_K (up S) (up S) (by rw [b_w];omega)
 rw [decide_eq_true rfl] at hs
 rw [hm]
 simp only [if_true]
 refine Ev.bind hof (Ev.bind hmv ?_)
 simp only [if_true]
 exact Ev.bind hs (Ev.now _)
theorem g_H (l : List Int) (kind a b cpu s : Int) (h0 : l.length ≤ maxLen ∧ ∀ x ∈ l,(Lit.int .u32 x).wf = true) (h1 : wf36 ⟨kind,a,b,cpu,s⟩) : ∃ k,a_n.f k l kind a b cpu s = some true:=by
 refine Ev.rounds (g:=fun k => a_n.f k l kind a b cpu s) (Ev.bind g_z ?_)
 simp only [if_true,f_4,Option.bind_some]
 obtain ⟨S,hS,hfit,h12⟩:=i_E l h0
 rw [hS]
 obtain ⟨_,_,_,_,h4⟩:=h1
 have hb:=bounds_u32 h4
 obtain ⟨s,rfl⟩:=Int.eq_ofNat_of_zero_le hb.1
 have hs32 : s < 2 ^ 32:=by simp only at hb;omega
 refine Ev.bind (d_D hfit) ?_
 by_cases hg : gd S = true
 rotate_left
 ·simp only [if_neg hg]
  exact Ev.now _
 have g:=c_z.1 hg
 have hj:=h_I kind a b cpu (s : Int) g
 simp only [if_pos hg,if_true]
 refine Ev.bind (h_E hfit a s hs32) ?_
 by_cases he : (splv S a s).2.2 = 0
 rotate_left
 ·simp only [if_neg he]
  exact hj
 obtain ⟨ok,hv⟩:=f_P he
 have hga:=(g.each _ (d_J ok.r0 ok.r1)).2
 have hr0:=ok.r0
 have hr1:=ok.r1
 have gq:=ok.result
 have hql : (S.set a.toNat (nd (gt S a) s) ++ [s]).length = S.length + 1:=by simp
 have hgn : gt (S.set a.toNat (nd (gt S a) s) ++ [s]) (S.length : Int) = s:=by
  unfold gt
  rw [Int.toNat_natCast,List.getD_eq_getElem?_getD,List.getElem?_append_right (by simp)]
  simp
 have hgaq : gt (S.set a.toNat (nd (gt S a) s) ++ [s]) a = nd (gt S a) s:=by
  unfold gt
  rw [List.getD_eq_getElem?_getD,List.getElem?_append_left (by simp;omega),List.getElem?_set_self (by omega)]
  rfl
 have hjoin : f_M (S.set a.toNat (nd (gt S a) s) ++ [s]) (S.length : Int) a = (S,0):=by
  unfold f_M
  rw [if_pos (c_z.2 gq),if_pos (by rw [hql];omega),if_neg (by omega),hgn,hgaq]
  congr 1
  have e : nd (gt S a) s ||| s = gt S a:=by
   apply Nat.eq_of_testBit_eq
   intro i
   rw [Nat.testBit_or,d_T (by omega)]
   have:=ok.sub_ i
   cases h1 : s.testBit i
   ·simp
   simp [this h1]
  rw [e,Int.toNat_natCast]
  apply List.ext_getElem
  ·rw [List.length_eraseIdx,List.length_set,List.length_append,List.length_set,List.length_singleton,if_pos (by omega)]
   omega
  intro i hi1 hi2
  rw [List.getElem_eraseIdx_of_lt (h':=by exact hi2)]
  rw [List.getElem_set]
  by_cases hi : a.toNat = i
  ·subst hi
   rw [if_pos rfl]
   exact e_8 hr0 hr1
  rw [if_neg hi,List.getElem_append_left (by simpa using hi2),List.getElem_set_ne hi]
 have hj2:=i_L gq.fit (S.length : Int) a
 rw [hjoin] at hj2
 have hs:=e_K (up S) (up S) (by rw [b_w];have:=g.len4;omega)
 rw [decide_eq_true rfl] at hs
 have hset:=n_k gq.fit (S.length : Int)
 rw [if_pos ⟨c_z.2 gq,by omega,by rw [hql];omega⟩,hgn] at hset
 rw [hv]
 simp only [if_true]
 refine Ev.bind hj2 ?_
 simp only [if_true]
 refine Ev.bind hs ?_
 simp only [if_true]
 refine Ev.bind hset ?_
 simp only [if_true]
 exact hj
end Go.Proofs.Ytkhbffjfclepfaa.Pure
end
section
namespace Go.Proofs.Ytkhbffjfclepfaa.poolBack
open Go.ChangeShapes Go.WideShapes Go.ChangeAt Go.RowKit Go.Proofs.Ytkhbffjfclepfaa.Q
open Go.Proofs.YtkhbffjfclepfaaW.PrintWords Go.Proofs.YtkhbffjfclepfaaW.PrintLast Go.Proofs.YtkhbffjfclepfaaW.PrintMore
set_option linter.unusedVariables false
set_option linter.unusedSimpArgs false
set_option maxRecDepth 100000 in
theorem lifted (os : Os) (started : os.Started) (H : Type) (enc : TypeId × Value → H) :
 ReturnsInHanded {} Try.checked os 8 .any (Rows.poolBackSpec.pre6 enc Try.prog Try.f8 Rows.poolBackRow.domain false) (Rows.poolBackSpec.post enc Try.prog Try.f8 false true false false):=by
 refine returnsInHanded_of_change_sized (C:=Try.checked) own started (by kernel_rfl) Try.func8
  (ChangeSpec.witness6 (enc:=enc) (C:=Try.checked) false ⟨#[],#[.agg #[.slice none 0 0],.agg #[.int .i64 0,.int .i64 0,.int .i64 0,.int .i64 0,.int .u32 0]],[]⟩ 8 (by kernel_rfl) (by kernel_rfl) (by kernel_rfl) (by kernel_rfl)) ?_
 intro W base args ds gs before hval0 hW hcnd hsz0 _
 have hval : ∀ (j : Nat) t v,Try.f8.params[j]? = some t → args[j]? = some v → Value.okWide Try.prog W .any base t v:=hval0
 have hW':=hW
 obtain ⟨p,q,hA0,hV,rfl,hfz,hnd⟩:=hW
 have hA : DataW.TrodAll enc Try.prog W 0 (fun _ => true) true Try.f8.params.toList args.toList ds p:=hA0
 rw [Try.params8] at hA hval
 obtain ⟨v0,vs0,d0,ds0,p0,q0,hargs,rfl,rfl,h0,r0⟩:=trodAll_cons hA
 obtain ⟨v1,vs1,d1,ds1,p1,q1,rfl,rfl,rfl,h1,r1⟩:=trodAll_cons r0
 obtain ⟨rfl,rfl,rfl⟩:=trodAll_nil r1
 obtain rfl : args = #[v0,v1]:=by cases args;simp_all
 obtain ⟨rfl,rfl⟩:=trodVars_none hV
 have k0:=h0
 have lt0 : ∀ x ∈ p0,x.block < W.heap.size:=by obtain ⟨m,hm⟩:=k0;exact DataW.trod_lt m _ _ _ hm
 obtain ⟨cs0,rfl,hz0⟩:=okWide_struct Try.underlying26 (hval 0 26 v0 rfl rfl)
 obtain ⟨fuel0,hf0⟩:=h0
 obtain ⟨x0,hK0,wf0_⟩:=op26.open_ hf0
 obtain ⟨A0_0,c0_0,he0,hc0_0,hr0_0⟩:=g_A hK0
 have hq0:=toList_eq he0
 simp only [Value.cells] at hq0
 subst hq0
 have k1:=h1
 have lt1 : ∀ x ∈ p1,x.block < W.heap.size:=by obtain ⟨m,hm⟩:=k1;exact DataW.trod_lt m _ _ _ hm
 obtain ⟨cs1,rfl,hz1⟩:=okWide_struct Try.underlying36 (hval 1 36 v1 rfl rfl)
 obtain ⟨fuel1,hf1⟩:=h1
 obtain ⟨x1,hK1,wf1_⟩:=op36.open_ hf1
 have he1:=g_S hK1
 have hq1:=toList_eq he1
 simp only [Value.cells] at hq1
 subst hq1
 obtain ⟨K,hK⟩:=Pure.g_H x0.f0 x1.f0 x1.f1 x1.f2 x1.f3 x1.f4 wf0_ wf1_
 refine (a_n.calls _ _ _ _ _ _ _ _ _ _ _ hr0_0 hc0_0 hK).mono fun e W' ⟨he,bel⟩ => ?_
 subst he
 exact ⟨_,rfl,_,_,_,[],_,[],hW',trodAll_mk1 (shut_bool Try.underlying4 _),(trodAll_cons_mk (Below.trod laidOut (by kernel_rfl) (of_decide_eq_true (by kernel_rfl)) k0 bel lt0) (trodAll_cons_mk (Below.trod laidOut (by kernel_rfl) (of_decide_eq_true (by kernel_rfl)) k1 bel lt1) trodAll_mk0)),rfl,bel.frame _,fun h => by cases h⟩
theorem over : Rows.poolBackRow.holds Try.pinned (OpenSpec.ofChange Rows.poolBackSpec) :=
 OpenClaim.holds_of_wide 8 Try.f8 rfl rfl rfl rfl rfl rfl rfl ⟨rfl,rfl,rfl,rfl,rfl⟩ rfl rfl rfl rfl rfl (by kernel_rfl) Try.func8 (by kernel_rfl)
  (of_decide_eq_true (by kernel_rfl)) (by unfold Func.isWrapper;first|(rw [if_pos (by decide +kernel)];kernel_rfl)|(rw [if_neg (by decide +kernel)];exact ⟨rfl,rfl⟩))
  (fun os started H enc _ => lifted os started H enc)
theorem proved : Rows.PoolBackSaid:=over
#print axioms proved
end Go.Proofs.Ytkhbffjfclepfaa.poolBack
namespace Go.Proofs.Ytkhbffjfclepfaa
theorem poolBack_holds : Rows.PoolBackSaid:=poolBack.proved
end Go.Proofs.Ytkhbffjfclepfaa
end
