/- Part 12 of 13 of what the row of PoolDoes stands on: contracts over the given program's functions, the plain law, the row; no condition beyond those that each theorem states. -/
import Derived.Test.YtkhbffjfclepfaaXPoolDoes11
import Derived.Laws.BitsLemmas
/- Words for the plain laws of pools: sets as naturals, bits, and when pools are good. -/
namespace Go.Proofs.Ytkhbffjfclepfaa.Pure
open Go.RowKit Go.Proofs.Ytkhbffjfclepfaa.Q Go.Proofs.YtkhbffjfclepfaaW.PrintWords Go.Proofs.YtkhbffjfclepfaaW.PrintLast Go.Proofs.YtkhbffjfclepfaaW.PrintMore
set_option linter.unusedVariables false
set_option linter.unusedSimpArgs false
/-! ### whole numbers and bits -/
theorem w64_next (n : Nat) (h : n < 9223372036854775807) : wrap64 ((n : Int) + 1) = ((n + 1 : Nat) : Int) := by unfold wrap64; omega
theorem w64_id (n : Int) (h0 : -9223372036854775808 ≤ n) (h1 : n ≤ 9223372036854775807) : wrap64 n = n := by unfold wrap64; omega
theorem wraps_u32 (n : Int) (h₀ : 0 ≤ n) (h₁ : n < 2 ^ 32) : IntKind.u32.wrap n = n := by rw [IntKind.wrap_u32]; omega
theorem and_n {a b : Nat} (ha : a < 2 ^ 32) (hb : b < 2 ^ 32) : Go.bits .and .u32 (a : Int) (b : Int) = ((a &&& b : Nat) : Int) := (bits_nat .u32 32 (by decide) wraps_u32 a b ha hb).1
theorem or_n {a b : Nat} (ha : a < 2 ^ 32) (hb : b < 2 ^ 32) : Go.bits .or .u32 (a : Int) (b : Int) = ((a ||| b : Nat) : Int) := (bits_nat .u32 32 (by decide) wraps_u32 a b ha hb).2
/-- What of a is not in b. -/
def nd (a b : Nat) : Nat := (BitVec.ofNat 32 a &&& ~~~BitVec.ofNat 32 b).toNat
theorem nd_lt (a b : Nat) : nd a b < 2 ^ 32 := BitVec.isLt _
theorem nd_n (a b : Nat) : Go.bits .andNot .u32 (a : Int) (b : Int) = (nd a b : Int) := by
  have h : Go.bits .andNot .u32 (a : Int) (b : Int) = IntKind.u32.wrap ((nd a b : Nat) : Int) := by
    simp only [Go.bits, BitVec.ofInt_natCast, nd]
    rfl
  rw [h]
  exact wraps_u32 _ (Int.natCast_nonneg _) (by have := nd_lt a b; exact_mod_cast this)
theorem tb_nd {a b : Nat} (ha : a < 2 ^ 32) (i : Nat) : (nd a b).testBit i = (a.testBit i && !b.testBit i) := by
  unfold nd
  rw [BitVec.testBit_toNat, BitVec.getLsbD_and, BitVec.getLsbD_not, BitVec.getLsbD_ofNat, BitVec.getLsbD_ofNat]
  by_cases h : i < 32
  · simp [h]
  · have : a.testBit i = false := Nat.testBit_lt_two_pow (Nat.lt_of_lt_of_le ha (Nat.pow_le_pow_right (by decide) (by omega)))
    simp [h, this]
theorem and_zero {a b : Nat} : a &&& b = 0 ↔ ∀ i, a.testBit i = true → b.testBit i = false := by
  constructor
  · intro h i hi
    have := congrArg (Nat.testBit · i) h
    simp [Nat.testBit_and, hi] at this
    exact this
  · intro h
    apply Nat.eq_of_testBit_eq
    intro i
    rw [Nat.testBit_and, Nat.zero_testBit]
    cases ha : a.testBit i
    · rfl
    · simp [h i ha]
theorem nd_zero {a b : Nat} (ha : a < 2 ^ 32) : nd a b = 0 ↔ ∀ i, a.testBit i = true → b.testBit i = true := by
  constructor
  · intro h i hi
    have := congrArg (Nat.testBit · i) h
    simp [tb_nd ha, hi] at this
    exact this
  · intro h
    apply Nat.eq_of_testBit_eq
    intro i
    rw [tb_nd ha, Nat.zero_testBit]
    cases hx : a.testBit i
    · rfl
    · simp [h i hx]
theorem add_or {a b : Nat} (ha : a < 2 ^ 31) (hb : b < 2 ^ 31) (h : a &&& b = 0) : a + b = a ||| b := by
  have e := BitVec.add_eq_or_of_and_eq_zero (BitVec.ofNat 32 a) (BitVec.ofNat 32 b) (by
    apply BitVec.eq_of_toNat_eq
    simp only [BitVec.toNat_and, BitVec.toNat_ofNat]
    rw [Nat.mod_eq_of_lt (by omega), Nat.mod_eq_of_lt (by omega), h])
  have e2 := congrArg BitVec.toNat e
  simp only [BitVec.toNat_add, BitVec.toNat_or, BitVec.toNat_ofNat] at e2
  rw [Nat.mod_eq_of_lt (show a < 2 ^ 32 by omega), Nat.mod_eq_of_lt (show b < 2 ^ 32 by omega), Nat.mod_eq_of_lt (by omega)] at e2
  exact e2
/-- A part taken away. -/
theorem sub_nd {a b : Nat} (ha : a < 2 ^ 31) (h : ∀ i, b.testBit i = true → a.testBit i = true) : nd a b + b = a := by
  have hb : b < 2 ^ 31 := by
    apply Nat.lt_of_not_le
    intro hc
    obtain ⟨i, hi, hi'⟩ := Nat.exists_ge_and_testBit_of_ge_two_pow hc
    have := h i hi'
    rw [Nat.testBit_lt_two_pow (Nat.lt_of_lt_of_le ha (Nat.pow_le_pow_right (by decide) hi))] at this
    cases this
  have hn : nd a b < 2 ^ 31 := by
    apply Nat.lt_of_not_le
    intro hc
    obtain ⟨i, hi, hi'⟩ := Nat.exists_ge_and_testBit_of_ge_two_pow hc
    rw [tb_nd (by omega), Nat.testBit_lt_two_pow (Nat.lt_of_lt_of_le ha (Nat.pow_le_pow_right (by decide) hi))] at hi'
    simp at hi'
  rw [add_or hn hb (and_zero.2 fun i hi => by rw [tb_nd (by omega)] at hi; simp at hi; exact hi.2)]
  apply Nat.eq_of_testBit_eq
  intro i
  rw [Nat.testBit_or, tb_nd (by omega)]
  cases hb' : b.testBit i
  · simp
  · simp [h i hb']
theorem tb_high {a i : Nat} (ha : a < 256) (hi : 8 ≤ i) : a.testBit i = false := Nat.testBit_lt_two_pow (Nat.lt_of_lt_of_le (show a < 2 ^ 8 by omega) (Nat.pow_le_pow_right (by decide) hi))
theorem lt256_of {a : Nat} (h : ∀ i, 8 ≤ i → a.testBit i = false) : a < 256 := by
  apply Nat.lt_of_not_le
  intro hc
  obtain ⟨i, hi, hi'⟩ := Nat.exists_ge_and_testBit_of_ge_two_pow (show 2 ^ 8 ≤ a by omega)
  rw [h i hi] at hi'
  cases hi'
theorem nd255 {a : Nat} (ha : a < 2 ^ 32) : nd a 255 = 0 ↔ a < 256 := by
  rw [nd_zero ha]
  constructor
  · intro h
    refine lt256_of fun i hi => ?_
    cases hx : a.testBit i
    · rfl
    · have := h i hx
      rw [tb_high (by omega) hi] at this
      cases this
  · intro h i hi
    have h8 : i < 8 := by
      apply Nat.lt_of_not_le
      intro hc
      rw [tb_high h hc] at hi
      cases hi
    have : i = 0 ∨ i = 1 ∨ i = 2 ∨ i = 3 ∨ i = 4 ∨ i = 5 ∨ i = 6 ∨ i = 7 := by omega
    rcases this with rfl | rfl | rfl | rfl | rfl | rfl | rfl | rfl <;> decide
/-! ### pools as lists of naturals -/
def up (S : List Nat) : List Int := S.map fun (n : Nat) => (n : Int)
theorem up_length (S : List Nat) : (up S).length = S.length := List.length_map _
theorem up_append (S R : List Nat) : up (S ++ R) = up S ++ up R := List.map_append
theorem up_inj {S R : List Nat} (h : up S = up R) : S = R := by
  have := congrArg (List.map Int.toNat) h
  simpa [up, List.map_map, Function.comp_def] using this
theorem up_of (l : List Int) (h : ∀ x ∈ l, 0 ≤ x ∧ x < 4294967296) : ∃ S, l = up S ∧ ∀ s ∈ S, s < 4294967296 := by
  refine ⟨l.map Int.toNat, ?_, ?_⟩
  · unfold up
    rw [List.map_map]
    conv => lhs; rw [← List.map_id l]
    apply List.map_congr_left
    intro x hx
    have := h x hx
    simp; omega
  · intro s hs
    obtain ⟨x, hx, rfl⟩ := List.mem_map.1 hs
    have := h x hx
    omega
theorem rd_up (S : List Nat) (i : Nat) : rd (up S) (i : Int) = ((S.getD i 0 : Nat) : Int) := by
  unfold rd up
  simp [List.getD_eq_getElem?_getD]
  cases S[i]? <;> simp
def cnt (S : List Nat) (c : Nat) : Nat := S.countP (·.testBit c)
theorem cnt_cons (s : Nat) (S : List Nat) (c : Nat) : cnt (s :: S) c = (if s.testBit c then 1 else 0) + cnt S c := by
  unfold cnt
  rw [List.countP_cons]
  omega
theorem cnt_nil (c : Nat) : cnt [] c = 0 := rfl
theorem cnt_append (S R : List Nat) (c : Nat) : cnt (S ++ R) c = cnt S c + cnt R c := List.countP_append
/-- Pools that may be. -/
structure Good (S : List Nat) : Prop where
  len1 : 1 ≤ S.length
  len4 : S.length ≤ 4
  each : ∀ s ∈ S, s ≠ 0 ∧ s < 256
  one : ∃ m, m ≤ 8 ∧ ∀ c, cnt S c = if c < m then 1 else 0
open Classical in
noncomputable def gd (S : List Nat) : Bool := decide (Good S)
theorem gd_true {S : List Nat} : gd S = true ↔ Good S := by unfold gd; simp
theorem gd_false {S : List Nat} : gd S = false ↔ ¬Good S := by unfold gd; simp
theorem fold_or (S : List Nat) (a c : Nat) : (S.foldl (· ||| ·) a).testBit c = (a.testBit c || decide (1 ≤ cnt S c)) := by
  induction S generalizing a with
  | nil => simp [cnt_nil]
  | cons s S ih =>
    rw [List.foldl_cons, ih, Nat.testBit_or, cnt_cons]
    cases a.testBit c <;> cases s.testBit c <;> simp
theorem fold_lt (S : List Nat) (a : Nat) (ha : a < 2 ^ 32) (h : ∀ s ∈ S, s < 2 ^ 32) : S.foldl (· ||| ·) a < 2 ^ 32 := by
  induction S generalizing a with
  | nil => exact ha
  | cons s S ih => exact ih _ (Nat.or_lt_two_pow ha (h s (by simp))) (fun x hx => h x (by simp [hx]))
theorem low_ones : ∀ U, U < 256 → U &&& (U + 1) = 0 → ∃ m, m ≤ 8 ∧ U = 2 ^ m - 1 := by
  intro U hU h
  have key : ∀ U : Fin 256, U.val &&& (U.val + 1) = 0 → U.val = 0 ∨ U.val = 1 ∨ U.val = 3 ∨ U.val = 7 ∨ U.val = 15 ∨ U.val = 31 ∨ U.val = 63 ∨ U.val = 127 ∨ U.val = 255 := by decide +kernel
  rcases key ⟨U, hU⟩ h with h | h | h | h | h | h | h | h | h <;> simp only at h
  · exact ⟨0, by decide, h⟩
  · exact ⟨1, by decide, h⟩
  · exact ⟨2, by decide, h⟩
  · exact ⟨3, by decide, h⟩
  · exact ⟨4, by decide, h⟩
  · exact ⟨5, by decide, h⟩
  · exact ⟨6, by decide, h⟩
  · exact ⟨7, by decide, h⟩
  · exact ⟨8, by decide, h⟩
/-- What the check sees, and good pools. -/
theorem good_iff (S : List Nat) : Good S ↔ (1 ≤ S.length ∧ S.length ≤ 4) ∧ (∀ s ∈ S, s ≠ 0 ∧ s < 256) ∧ (∀ c, cnt S c ≤ 1) ∧ (S.foldl (· ||| ·) 0) &&& ((S.foldl (· ||| ·) 0 + 1) % 4294967296) = 0 := by
  have hU : (∀ s ∈ S, s ≠ 0 ∧ s < 256) → S.foldl (· ||| ·) 0 < 256 := fun h => lt256_of fun i hi => by
    rw [fold_or]
    have : cnt S i = 0 := by
      unfold cnt
      rw [List.countP_eq_zero]
      intro s hs
      simp [tb_high (h s hs).2 hi]
    simp [this]
  constructor
  · rintro ⟨h1, h4, he, m, hm, ho⟩
    refine ⟨⟨h1, h4⟩, he, fun c => by rw [ho]; split <;> omega, ?_⟩
    have hu : S.foldl (· ||| ·) 0 = 2 ^ m - 1 := by
      apply Nat.eq_of_testBit_eq
      intro c
      rw [fold_or, ho, Nat.testBit_two_pow_sub_one]
      by_cases hc : c < m <;> simp [hc]
    rw [hu]
    have : m = 0 ∨ m = 1 ∨ m = 2 ∨ m = 3 ∨ m = 4 ∨ m = 5 ∨ m = 6 ∨ m = 7 ∨ m = 8 := by omega
    rcases this with rfl | rfl | rfl | rfl | rfl | rfl | rfl | rfl | rfl <;> decide
  · rintro ⟨⟨h1, h4⟩, he, hc, hz⟩
    have h := hU he
    rw [Nat.mod_eq_of_lt (by omega)] at hz
    obtain ⟨m, hm, hu⟩ := low_ones _ h hz
    refine ⟨h1, h4, he, m, hm, fun c => ?_⟩
    have := fold_or S 0 c
    rw [hu, Nat.testBit_two_pow_sub_one] at this
    simp at this
    have := hc c
    by_cases hcm : c < m
    · simp [hcm] at this ⊢; omega
    · simp [hcm] at this ⊢; omega
/-- How many are in a set below 256. -/
def pc (s : Nat) : Nat := (s.testBit 0).toNat + (s.testBit 1).toNat + (s.testBit 2).toNat + (s.testBit 3).toNat + (s.testBit 4).toNat + (s.testBit 5).toNat + (s.testBit 6).toNat + (s.testBit 7).toNat
theorem sum_pc (S : List Nat) : (S.map pc).sum = cnt S 0 + cnt S 1 + cnt S 2 + cnt S 3 + cnt S 4 + cnt S 5 + cnt S 6 + cnt S 7 := by
  induction S with
  | nil => rfl
  | cons s S ih =>
    have h : ∀ c, (if s.testBit c = true then 1 else 0) = (s.testBit c).toNat := fun c => by cases s.testBit c <;> rfl
    simp only [List.map_cons, List.sum_cons, cnt_cons, ih, pc, h]
    omega
/-- What the reference sees, and good pools. -/
theorem good_iff' (S : List Nat) : Good S ↔ (1 ≤ S.length ∧ S.length ≤ 4) ∧ (∀ s ∈ S, s ≠ 0 ∧ s < 256) ∧ ∀ c, c < (S.map pc).sum → c < 8 ∧ cnt S c = 1 := by
  rw [sum_pc]
  constructor
  · rintro ⟨h1, h4, he, m, hm, ho⟩
    refine ⟨⟨h1, h4⟩, he, fun c hc => ?_⟩
    simp only [ho] at hc ⊢
    have : m = 0 ∨ m = 1 ∨ m = 2 ∨ m = 3 ∨ m = 4 ∨ m = 5 ∨ m = 6 ∨ m = 7 ∨ m = 8 := by omega
    rcases this with rfl | rfl | rfl | rfl | rfl | rfl | rfl | rfl | rfl <;> simp at hc <;> exact ⟨by omega, by rw [if_pos (by omega)]⟩
  · rintro ⟨⟨h1, h4⟩, he, hc⟩
    have hz : ∀ i, 8 ≤ i → cnt S i = 0 := fun i hi => by
      unfold cnt
      rw [List.countP_eq_zero]
      intro s hs
      simp [tb_high (he s hs).2 hi]
    generalize hn : cnt S 0 + cnt S 1 + cnt S 2 + cnt S 3 + cnt S 4 + cnt S 5 + cnt S 6 + cnt S 7 = n at hc
    have hn8 : n ≤ 8 := by
      apply Nat.le_of_not_lt
      intro h
      have := (hc 8 h).1
      omega
    refine ⟨h1, h4, he, n, hn8, fun c => ?_⟩
    by_cases h8 : 8 ≤ c
    · rw [hz c h8, if_neg (by omega)]
    by_cases hcn : c < n
    · rw [if_pos hcn]; exact (hc c hcn).2
    rw [if_neg hcn]
    have g : ∀ i, i < n → cnt S i = 1 := fun i hi => (hc i hi).2
    have hcs : c = 0 ∨ c = 1 ∨ c = 2 ∨ c = 3 ∨ c = 4 ∨ c = 5 ∨ c = 6 ∨ c = 7 := by omega
    have hns : n = 0 ∨ n = 1 ∨ n = 2 ∨ n = 3 ∨ n = 4 ∨ n = 5 ∨ n = 6 ∨ n = 7 := by omega
    have g0 := g 0; have g1 := g 1; have g2 := g 2; have g3 := g 3; have g4 := g 4; have g5 := g 5; have g6 := g 6
    rcases hns with rfl | rfl | rfl | rfl | rfl | rfl | rfl | rfl <;> simp at g0 g1 g2 g3 g4 g5 g6 <;> rcases hcs with rfl | rfl | rfl | rfl | rfl | rfl | rfl | rfl <;> omega
end Go.Proofs.Ytkhbffjfclepfaa.Pure

/- What the functions of a set tell, on naturals. -/
namespace Go.Proofs.Ytkhbffjfclepfaa.Pure
open Go.RowKit Go.Proofs.Ytkhbffjfclepfaa.Q Go.Proofs.YtkhbffjfclepfaaW.PrintWords Go.Proofs.YtkhbffjfclepfaaW.PrintLast Go.Proofs.YtkhbffjfclepfaaW.PrintMore
set_option linter.unusedVariables false
set_option linter.unusedSimpArgs false
/-- Is a pCPU in a set? -/
def hb (s : Nat) (a : Int) : Bool := decide (0 ≤ a ∧ a < 8) && s.testBit a.toNat
theorem hb_in (s : Nat) (c : Nat) (h : c < 8) : hb s (c : Int) = s.testBit c := by unfold hb; rw [decide_eq_true (by omega)]; simp
theorem hb_out (s : Nat) (a : Int) (h : a < 0 ∨ 8 ≤ a) : hb s a = false := by unfold hb; rw [decide_eq_false (by omega)]; rfl
theorem eight {a : Int} (h0 : 0 ≤ a) (h8 : a < 8) : ∃ c : Nat, c < 8 ∧ a = (c : Int) := ⟨a.toNat, by omega, by omega⟩
theorem bit_in (c : Nat) (h : c < 8) : cpuset_bit.f (c : Int) = some ((2 ^ c : Nat) : Int) := by
  have : c = 0 ∨ c = 1 ∨ c = 2 ∨ c = 3 ∨ c = 4 ∨ c = 5 ∨ c = 6 ∨ c = 7 := by omega
  rcases this with rfl | rfl | rfl | rfl | rfl | rfl | rfl | rfl <;> decide +kernel
theorem bit_out (a : Int) (h : a < 0 ∨ 8 ≤ a) : cpuset_bit.f a = some 0 := by
  unfold cpuset_bit.f
  by_cases h0 : a < 0
  · rw [if_pos h0]
  · rw [if_neg h0, if_pos (by omega)]
theorem and_pow (s c : Nat) : s &&& 2 ^ c = 0 ↔ s.testBit c = false := by
  constructor
  · intro h
    cases hx : s.testBit c
    · rfl
    · have := and_zero.1 h c hx
      simp [Nat.testBit_two_pow] at this
  · intro h
    refine and_zero.2 fun i hi => ?_
    rw [Nat.testBit_two_pow]
    apply decide_eq_false
    rintro rfl
    rw [h] at hi
    cases hi
theorem pow_lt (c : Nat) (h : c < 8) : 2 ^ c < 2 ^ 32 := Nat.pow_lt_pow_right (by decide) (by omega)
theorem Has_n (s : Nat) (hs : s < 2 ^ 32) (a : Int) : cpuset_Has.f (s : Int) a = some (hb s a) := by
  unfold cpuset_Has.f
  by_cases h : 0 ≤ a ∧ a < 8
  · obtain ⟨c, hc, rfl⟩ := eight h.1 h.2
    rw [bit_in c hc]
    simp only [Option.bind_some]
    rw [and_n hs (pow_lt c hc), hb_in s c hc]
    have := and_pow s c
    cases hx : s.testBit c
    · rw [this.2 hx]; rfl
    · have h2 : s &&& 2 ^ c ≠ 0 := fun h => by rw [this.1 h] at hx; cases hx
      have h3 : (((s &&& 2 ^ c : Nat) : Int) != 0) = true := by simp; omega
      rw [h3]
  · rw [bit_out a (by omega), hb_out s a (by omega)]
    simp only [Option.bind_some]
    have := and_n (a := s) (b := 0) hs (by decide)
    simp at this
    rw [this]
    rfl
theorem hasB_n (s : Nat) (hs : s < 2 ^ 32) (a : Int) : hasB (s : Int) a = hb s a := by
  have := hasB_f (s : Int) a
  rw [Has_n s hs a] at this
  exact (Option.some.inj this).symm
theorem rHas_n (s : Nat) (a : Int) : mainsheetref04_Has.f (s : Int) a = some (hb s a) := by
  unfold mainsheetref04_Has.f mainsheetref04_Cpu.f
  by_cases h : 0 ≤ a ∧ a < 8
  · obtain ⟨c, hc, rfl⟩ := eight h.1 h.2
    rw [if_pos h.1]
    simp only [Option.bind_some]
    rw [if_pos (decide_eq_true h.2), if_pos h.1, hb_in s c hc]
    have e : shr .u32 (s : Int) (c : Int) = ((s / 2 ^ c : Nat) : Int) := by
      unfold shr
      rw [show min ((c : Int).toNat) (IntKind.bits .u32) = c by simp [IntKind.bits]; omega]
      simp
    rw [e, Nat.testBit_eq_decide_div_mod_eq]
    congr 1
    have e2 : Int.tmod ((s / 2 ^ c : Nat) : Int) 2 = ((s / 2 ^ c % 2 : Nat) : Int) := by
      rw [Int.tmod_eq_emod_of_nonneg (Int.natCast_nonneg _)]
      simp
    rw [e2]
    by_cases h1 : s / 2 ^ c % 2 = 1
    · rw [h1]; rfl
    · have : s / 2 ^ c % 2 = 0 := by omega
      rw [this]; rfl
  · rw [hb_out s a (by omega)]
    by_cases h0 : a ≥ 0
    · rw [if_pos h0]
      simp only [Option.bind_some]
      rw [if_neg (by simp; omega)]
    · rw [if_neg h0]
      rfl
theorem Check1_n (s : Nat) (hs : s < 2 ^ 32) : cpuset_Check.f (s : Int) = some (if s < 256 then 0 else 140) := by
  unfold cpuset_Check.f
  have e := nd_n s 255
  rw [show ((255 : Nat) : Int) = 255 from rfl] at e
  rw [e]
  by_cases h : s < 256
  · rw [if_pos (by have := (nd255 hs).2 h; omega), if_pos h]
  · rw [if_neg (by intro h2; exact h ((nd255 hs).1 (by omega))), if_neg h]
theorem rRight1_n (s : Nat) : mainsheetref04_Right.f (s : Int) = some (decide (s < 256)) := by
  unfold mainsheetref04_Right.f
  by_cases h : s < 256
  · rw [decide_eq_true h, decide_eq_true (by omega)]
  · rw [decide_eq_false h, decide_eq_false (by omega)]
/-- The pCPUs of a set, from the i-th on. -/
def lst (s : Nat) : Nat → Nat → List Nat
  | 0, _ => []
  | n + 1, i => if s.testBit i then i :: lst s n (i + 1) else lst s n (i + 1)
theorem rList_l0 (s : Nat) : ∀ n i (acc : List Int), i + n = 8 → acc.length ≤ i → Ev (fun k => mainsheetref04_List.l0 k (s : Int) acc (i : Int)) (acc ++ up (lst s n i))
  | 0, i, acc, hi, ha => ⟨1, fun k hk => by
    obtain ⟨k, rfl⟩ : ∃ k', k = k' + 1 := ⟨k - 1, by omega⟩
    show mainsheetref04_List.l0 (k + 1) _ _ _ = _
    rw [mainsheetref04_List.l0, if_neg (by omega)]
    simp [lst, up]⟩
  | n + 1, i, acc, hi, ha => by
    by_cases hb1 : s.testBit i = true
    · obtain ⟨K, hK⟩ := rList_l0 s n (i + 1) (acc ++ [(i : Int)]) (by omega) (by simp; omega)
      refine ⟨K + 1, fun k hk => ?_⟩
      obtain ⟨k, rfl⟩ : ∃ k', k = k' + 1 := ⟨k - 1, by omega⟩
      show mainsheetref04_List.l0 (k + 1) _ _ _ = _
      rw [mainsheetref04_List.l0, if_pos (by omega), rHas_n, hb_in s i (by omega), hb1]
      rw [Option.bind_some, if_pos rfl, if_pos (by omega), w64_next i (by omega)]
      have := hK k (by omega)
      rw [show mainsheetref04_List.l0 k (s : Int) (acc ++ [(i : Int)]) ((i + 1 : Nat) : Int) = _ from this]
      simp [lst, hb1, up]
    · obtain ⟨K, hK⟩ := rList_l0 s n (i + 1) acc (by omega) (by omega)
      refine ⟨K + 1, fun k hk => ?_⟩
      obtain ⟨k, rfl⟩ : ∃ k', k = k' + 1 := ⟨k - 1, by omega⟩
      have hb0 : s.testBit i = false := by simpa using hb1
      show mainsheetref04_List.l0 (k + 1) _ _ _ = _
      rw [mainsheetref04_List.l0, if_pos (by omega), rHas_n, hb_in s i (by omega), hb0]
      rw [Option.bind_some, if_neg (by simp), w64_next i (by omega)]
      have := hK k (by omega)
      rw [show mainsheetref04_List.l0 k (s : Int) acc ((i + 1 : Nat) : Int) = _ from this]
      simp [lst, hb0]
theorem rList_n (s : Nat) : Ev (fun k => mainsheetref04_List.f k (s : Int)) (up (lst s 8 0)) := by
  have := rList_l0 s 8 0 [] (by decide) (by decide)
  simpa [mainsheetref04_List.f] using this
theorem lst_length (s : Nat) : (lst s 8 0).length = pc s := by
  have h : ∀ n i, (lst s n i).length = ((List.range n).map fun j => (s.testBit (i + j)).toNat).sum := by
    intro n
    induction n with
    | zero => intro i; rfl
    | succ n ih =>
      intro i
      rw [List.range_succ_eq_map, List.map_cons, List.sum_cons, List.map_map]
      have e : ((List.range n).map ((fun j => (s.testBit (i + j)).toNat) ∘ Nat.succ)) = (List.range n).map fun j => (s.testBit (i + 1 + j)).toNat := by
        apply List.map_congr_left
        intro j _
        simp only [Function.comp]
        rw [show i + Nat.succ j = i + 1 + j by omega]
      rw [e, ← ih (i + 1)]
      show (if s.testBit i = true then i :: lst s n (i + 1) else lst s n (i + 1)).length = _
      cases hx : s.testBit i <;> simp [hx]
      omega
  rw [h 8 0]
  simp [List.range_succ, pc]
  omega
theorem lst_mem (s : Nat) : ∀ n i c, c ∈ lst s n i ↔ i ≤ c ∧ c < i + n ∧ s.testBit c = true := by
  intro n
  induction n with
  | zero => intro i c; simp [lst]; omega
  | succ n ih =>
    intro i c
    unfold lst
    by_cases hx : s.testBit i = true
    · rw [if_pos hx, List.mem_cons, ih]
      constructor
      · rintro (rfl | ⟨h1, h2, h3⟩)
        · exact ⟨Nat.le_refl _, by omega, hx⟩
        · exact ⟨by omega, by omega, h3⟩
      · rintro ⟨h1, h2, h3⟩
        by_cases h : c = i
        · exact .inl h
        · exact .inr ⟨by omega, by omega, h3⟩
    · rw [if_neg hx, ih]
      constructor
      · rintro ⟨h1, h2, h3⟩
        exact ⟨by omega, by omega, h3⟩
      · rintro ⟨h1, h2, h3⟩
        have : c ≠ i := by rintro rfl; exact hx h3
        exact ⟨by omega, by omega, h3⟩
/-- All of one set in another. -/
def sub (s t : Nat) : Bool := nd s t == 0
theorem sub_iff {s t : Nat} (hs : s < 2 ^ 32) : sub s t = true ↔ ∀ i, s.testBit i = true → t.testBit i = true := by
  unfold sub
  rw [beq_iff_eq, nd_zero hs]
theorem Within_n (s t : Nat) (hs : s < 256) : cpuset_Within.f (s : Int) (t : Int) = some (sub s t) := by
  unfold cpuset_Within.f sub
  have e : Go.bits .and .u32 (s : Int) 255 = (s : Int) := by
    have := and_n (a := s) (b := 255) (by omega) (by decide)
    rw [show ((255 : Nat) : Int) = 255 from rfl] at this
    rw [this]
    have h2 : s &&& 255 = s := by
      rw [show (255 : Nat) = 2 ^ 8 - 1 from rfl, Nat.and_two_pow_sub_one_eq_mod]
      omega
    rw [h2]
  rw [e, nd_n s t]
  congr 1
  cases h : nd s t with
  | zero => rfl
  | succ n => simp; omega
theorem rWithin_l0 (t : Nat) (l : List Nat) (hl : ∀ c ∈ l, c < 8) (hn : l.length ≤ 8) : ∀ suf pre, l = pre ++ suf → Ev (fun k => mainsheetref04_Within.l0 k (t : Int) (up l) ((up l).length : Int) (pre.length : Int)) (suf.all fun c => t.testBit c)
  | [], pre, h => ⟨1, fun k hk => by
    obtain ⟨k, rfl⟩ : ∃ k', k = k' + 1 := ⟨k - 1, by omega⟩
    show mainsheetref04_Within.l0 (k + 1) _ _ _ _ = _
    rw [mainsheetref04_Within.l0, if_neg (by subst h; simp [up_length])]
    rfl⟩
  | c :: suf, pre, h => by
    obtain ⟨K, hK⟩ := rWithin_l0 t l hl hn suf (pre ++ [c]) (by simp [h])
    refine ⟨K + 1, fun k hk => ?_⟩
    obtain ⟨k, rfl⟩ : ∃ k', k = k' + 1 := ⟨k - 1, by omega⟩
    have hk' : mainsheetref04_Within.l0 k (t : Int) (up l) ((up l).length : Int) ((pre ++ [c]).length : Int) = some (suf.all fun c => t.testBit c) := hK k (by omega)
    have hlt : pre.length < l.length := by subst h; simp
    have hc : rd (up l) (pre.length : Int) = (c : Int) := by rw [rd_up]; subst h; simp
    have hc8 : c < 8 := hl c (by subst h; simp)
    show mainsheetref04_Within.l0 (k + 1) _ _ _ _ = _
    rw [mainsheetref04_Within.l0, if_pos (by rw [up_length]; omega), if_pos (by omega), if_pos (by rw [up_length]; omega), hc, rHas_n, hb_in t c hc8]
    rw [Option.bind_some]
    cases hx : t.testBit c
    · rw [if_neg (by simp)]
      simp [hx]
    · rw [if_pos rfl, w64_next pre.length (by omega), show pre.length + 1 = (pre ++ [c]).length by simp, hk']
      simp [hx]
theorem lst_lt (s c : Nat) (h : c ∈ lst s 8 0) : c < 8 := by have := (lst_mem s 8 0 c).1 h; omega
theorem lst_len8 (s : Nat) : (lst s 8 0).length ≤ 8 := by
  rw [lst_length]
  unfold pc
  have : ∀ b : Bool, b.toNat ≤ 1 := fun b => by cases b <;> decide
  have h0 := this (s.testBit 0); have h1 := this (s.testBit 1); have h2 := this (s.testBit 2); have h3 := this (s.testBit 3)
  have h4 := this (s.testBit 4); have h5 := this (s.testBit 5); have h6 := this (s.testBit 6); have h7 := this (s.testBit 7)
  omega
theorem rWithin_n (s t : Nat) (hs : s < 256) : Ev (fun k => mainsheetref04_Within.f k (s : Int) (t : Int)) (sub s t) := by
  refine Ev.bind (rList_n s) ?_
  have h := rWithin_l0 t (lst s 8 0) (lst_lt s) (lst_len8 s) (lst s 8 0) [] rfl
  have e : ((lst s 8 0).all fun c => t.testBit c) = sub s t := by
    rw [Bool.eq_iff_iff, sub_iff (by omega), List.all_eq_true]
    constructor
    · intro h i hi
      refine h i ((lst_mem s 8 0 i).2 ⟨Nat.zero_le _, ?_, hi⟩)
      apply Nat.lt_of_not_le
      intro hc
      rw [tb_high hs (by omega)] at hi
      cases hi
    · intro h c hc
      exact h c ((lst_mem s 8 0 c).1 hc).2.2
  rw [e] at h
  exact h
theorem Count_n (s : Nat) (hs : s < 256) : cpuset_Count.f (s : Int) = some ((pc s : Nat) : Int) := by
  have key : ∀ s : Fin 256, cpuset_Count.f ((s.val : Nat) : Int) = some ((pc s.val : Nat) : Int) := by decide +kernel
  exact key ⟨s, hs⟩
end Go.Proofs.Ytkhbffjfclepfaa.Pure

/- Function 39, slices_Equal___mainsheet_api_Cpus_mainsheet_api_Cpus_: contracts over the given program's functions, one a function; no condition beyond those that each theorem states. Written by this session's program over the kit's printer, and by hand. -/
namespace Go.Proofs.Ytkhbffjfclepfaa.Q
open Go.RowKit Go.Proofs.YtkhbffjfclepfaaW.PrintWords Go.Proofs.YtkhbffjfclepfaaW.PrintLast Go.Proofs.YtkhbffjfclepfaaW.PrintMore
attribute [local go_sem] max2_int min2_int max_two min_two max_three min_three max_four min_four
set_option linter.unusedVariables false
set_option linter.unusedSimpArgs false

/-! ### api_Cpus_39: function 39 -/
def api_Cpus_39.l0 : Nat → List Int → List Int → Int → Int → Option (Bool)
  | 0, _, _, _, _ => none
  | k + 1, x0, x1, x12, x13 => if x13 < x12 then (if 0 ≤ x13 then (if x13 < (x0.length : Int) then (if x13 < (x1.length : Int) then (if (rd x0 x13) = (rd x1 x13) then (api_Cpus_39.l0 k x0 x1 x12 (wrap64 (x13 + 1))) else (some false)) else (none)) else (none)) else (none)) else (some true)
def api_Cpus_39.f (k : Nat) (l0 : List Int) (l1 : List Int) : Option (Bool) := if (l0.length : Int) = (l1.length : Int) then (api_Cpus_39.l0 k l0 l1 (l0.length : Int) 0) else (some false)
theorem api_Cpus_39.mono_l : ∀ k, (∀ y0 y1 y2 y3, LeO (api_Cpus_39.l0 k y0 y1 y2 y3) (api_Cpus_39.l0 (k + 1) y0 y1 y2 y3))
  | 0 => fun _ _ _ _ r h => by simp [api_Cpus_39.l0] at h
  | k + 1 => by
    have ih0 := api_Cpus_39.mono_l k
    · intro y0 y1 y2 y3
      unfold api_Cpus_39.l0
      repeat' first
      | (with_reducible exact ih0 _ _ _ _)
      | (with_reducible exact LeO.refl _)
      | (with_reducible exact LeO.none _)
      | (with_reducible refine LeO.ite ?_ ?_)
      | (with_reducible refine LeO.bind ?_ (fun _ => ?_))
      | exact ih0 _ _ _ _
      | exact LeO.none _
      | refine LeO.ite ?_ ?_
      | refine LeO.bind ?_ (fun _ => ?_)
theorem api_Cpus_39.mono : ∀ a0 a1 k, LeO (api_Cpus_39.f k a0 a1) (api_Cpus_39.f (k + 1) a0 a1) := by
  intro a0 a1 k
  have ih0 := api_Cpus_39.mono_l k
  unfold api_Cpus_39.f
  repeat' first
      | (with_reducible exact ih0 _ _ _ _)
      | (with_reducible exact LeO.refl _)
      | (with_reducible exact LeO.none _)
      | (with_reducible refine LeO.ite ?_ ?_)
      | (with_reducible refine LeO.bind ?_ (fun _ => ?_))
      | exact ih0 _ _ _ _
      | exact LeO.none _
      | refine LeO.ite ?_ ?_
      | refine LeO.bind ?_ (fun _ => ?_)
set_option maxHeartbeats 8000000 in
set_option maxRecDepth 100000 in
theorem api_Cpus_39.calls (k : Nat) (A0 : Option Addr) (c0 : Nat) (l0 : List Int) (A1 : Option Addr) (c1 : Nat) (l1 : List Int) (r : Bool) (w : World) (hr0 : Kd.C (Kd.int .u32) w A0 l0.length l0) (hc0 : l0.length ≤ c0) (hr1 : Kd.C (Kd.int .u32) w A1 l1.length l1) (hc1 : l1.length ≤ c1) (h : api_Cpus_39.f k l0 l1 = some r) :
    Calls Try.prog 39 #[.slice A0 l0.length c0, .slice A1 l1.length c1] w fun e w' => e = .returned (.bool r) ∧ Drawn0 w w' := by
  have HR0 := Aside0.mk hr0
  have HC0 := Aside0.mk hc0
  clear hr0 hc0
  have HR1 := Aside0.mk hr1
  have HC1 := Aside0.mk hc1
  clear hr1 hc1
  have H : (if (l0.length : Int) = (l1.length : Int) then (api_Cpus_39.l0 k l0 l1 (l0.length : Int) 0) else (some false)) = some r := h
  clear h
  by_cases c3 : (l0.length : Int) = (l1.length : Int)
  · rw [if_pos c3] at H
    have c3b0 : ((l0.length : Int) == (l1.length : Int)) = true := beq_iff_eq.mpr c3
    have c3b1 : ((l0.length : Int) != (l1.length : Int)) = false := bne_eq_false_iff_eq.mpr c3
    have c3b2 : (l0.length == l1.length) = true := by first | simpa using c3 | (simp at c3 ⊢; omega)
    clear c3
    have H' := Aside0.mk H
    clear H
    go_enter Try.func39, Try.ntmps39
    go_wp2
    repeat (go_quiet (fail); try go_wp2)
    go_loopg [13] k (fun kq v13 w' => ∃ (x13_1 : Int), v13 = .int .i64 x13_1 ∧ Aside0 (api_Cpus_39.l0 kq l0 l1 (l0.length : Int) x13_1 = some r) ∧ Aside0 (kq ≤ k) ∧ Drawn0 w w')
    case atStart => exact ⟨(0), (by first | rfl | (simp; done) | (simp [*]; done)), H', ⟨Nat.le_refl _⟩, by repeat (first | exact Drawn0.refl _ | apply Drawn0.step)⟩
    case round =>
      clear H'
      try clear c1
      try clear p2
      try clear c3
      try clear c3b0
      try clear c3b1
      try clear c3b2
      obtain ⟨x13_1, rfl, HA, HK1, ⟨m1, rfl⟩⟩ := hrel
      cases gk with
      | zero => exact absurd HA.out (by simp [api_Cpus_39.l0])
      | succ k1 =>
        have H := HA.out
        clear HA
        simp only [api_Cpus_39.l0] at H
        by_cases c4 : x13_1 < (l0.length : Int)
        · rw [if_pos c4] at H
          have c4b0 : decide (x13_1 < (l0.length : Int)) = true := decide_eq_true c4
          clear c4
          by_cases c5 : 0 ≤ x13_1
          · rw [if_pos c5] at H
            have c5b0 : decide (0 ≤ x13_1) = true := decide_eq_true c5
            clear c5
            by_cases c6 : x13_1 < (l0.length : Int)
            · rw [if_pos c6] at H
              have c6b0 : decide (x13_1 < (l0.length : Int)) = true := decide_eq_true c6
              clear c6
              by_cases c7 : x13_1 < (l1.length : Int)
              · rw [if_pos c7] at H
                have c7b0 : decide (x13_1 < (l1.length : Int)) = true := decide_eq_true c7
                clear c7
                by_cases c8 : (rd l0 x13_1) = (rd l1 x13_1)
                · rw [if_pos c8] at H
                  have c8b0 : ((rd l0 x13_1) == (rd l1 x13_1)) = true := beq_iff_eq.mpr c8
                  have c8b1 : ((rd l0 x13_1) != (rd l1 x13_1)) = false := bne_eq_false_iff_eq.mpr c8
                  clear c8
                  have H' := Aside0.mk H
                  clear H
                  have p295 : 0 ≤ (x13_1 : Int) := of_decide_eq_true (by first | (with_reducible assumption) | assumption)
                  have q295 : x13_1 < (l0.length : Int) := of_decide_eq_true (by first | (with_reducible assumption) | assumption)
                  obtain ⟨ad295, e295, hx295_0⟩ := Kd.at_int HR0.out x13_1 p295 q295
                  cases e295
                  replace p295 := eq_true p295
                  replace q295 := eq_true q295
                  have p296 : 0 ≤ (x13_1 : Int) := of_decide_eq_true (by first | (with_reducible assumption) | assumption)
                  have q296 : x13_1 < (l1.length : Int) := of_decide_eq_true (by first | (with_reducible assumption) | assumption)
                  obtain ⟨ad296, e296, hx296_0⟩ := Kd.at_int HR1.out x13_1 p296 q296
                  cases e296
                  replace p296 := eq_true p296
                  replace q296 := eq_true q296
                  go_wp2
                  repeat (go_quiet (fail); try go_wp2)
                  go_roundg k1
                  case measure => have := HK1.out; omega
                  case rel => exact ⟨(wrap64 (x13_1 + 1)), (by first | rfl | (simp; done) | (simp [*]; done)), H', ⟨by have := HK1.out; omega⟩, by repeat (first | exact Drawn0.refl _ | apply Drawn0.step)⟩
                · rw [if_neg c8] at H
                  have c8b0 : ((rd l0 x13_1) == (rd l1 x13_1)) = false := beq_eq_false_iff_ne.mpr c8
                  have c8b1 : ((rd l0 x13_1) != (rd l1 x13_1)) = true := bne_iff_ne.mpr c8
                  obtain rfl := Option.some.inj H
                  have p295 : 0 ≤ (x13_1 : Int) := of_decide_eq_true (by first | (with_reducible assumption) | assumption)
                  have q295 : x13_1 < (l0.length : Int) := of_decide_eq_true (by first | (with_reducible assumption) | assumption)
                  obtain ⟨ad295, e295, hx295_0⟩ := Kd.at_int HR0.out x13_1 p295 q295
                  cases e295
                  replace p295 := eq_true p295
                  replace q295 := eq_true q295
                  have p296 : 0 ≤ (x13_1 : Int) := of_decide_eq_true (by first | (with_reducible assumption) | assumption)
                  have q296 : x13_1 < (l1.length : Int) := of_decide_eq_true (by first | (with_reducible assumption) | assumption)
                  obtain ⟨ad296, e296, hx296_0⟩ := Kd.at_int HR1.out x13_1 p296 q296
                  cases e296
                  replace p296 := eq_true p296
                  replace q296 := eq_true q296
                  go_wp2
                  repeat (go_quiet (fail); try go_wp2)
                  go_ret
                  exact ⟨by first | rfl | (simp; done) | (simp [*]; done), by repeat (first | exact Drawn0.refl _ | apply Drawn0.step)⟩
              · rw [if_neg c7] at H
                exact absurd H (by simp)
            · rw [if_neg c6] at H
              exact absurd H (by simp)
          · rw [if_neg c5] at H
            exact absurd H (by simp)
        · rw [if_neg c4] at H
          have c4b0 : decide (x13_1 < (l0.length : Int)) = false := decide_eq_false c4
          clear c4
          obtain rfl := Option.some.inj H
          go_wp2
          repeat (go_quiet (fail); try go_wp2)
          go_ret
          exact ⟨by first | rfl | (simp; done) | (simp [*]; done), by repeat (first | exact Drawn0.refl _ | apply Drawn0.step)⟩
  · rw [if_neg c3] at H
    have c3b0 : ((l0.length : Int) == (l1.length : Int)) = false := beq_eq_false_iff_ne.mpr c3
    have c3b1 : ((l0.length : Int) != (l1.length : Int)) = true := bne_iff_ne.mpr c3
    have c3b2 : (l0.length == l1.length) = false := by first | simpa using c3 | (simp at c3 ⊢; omega)
    obtain rfl := Option.some.inj H
    go_enter Try.func39, Try.ntmps39
    go_wp2
    repeat (go_quiet (fail); try go_wp2)
    go_ret
    exact ⟨by first | rfl | (simp; done) | (simp [*]; done), by repeat (first | exact Drawn0.refl _ | apply Drawn0.step)⟩

end Go.Proofs.Ytkhbffjfclepfaa.Q

/- Function 18, mainsheet_pool_Same: contracts over the given program's functions, one a function; no condition beyond those that each theorem states. Written by this session's program over the kit's printer, and by hand. -/
namespace Go.Proofs.Ytkhbffjfclepfaa.Q
open Go.RowKit Go.Proofs.YtkhbffjfclepfaaW.PrintWords Go.Proofs.YtkhbffjfclepfaaW.PrintLast Go.Proofs.YtkhbffjfclepfaaW.PrintMore
attribute [local go_sem] max2_int min2_int max_two min_two max_three min_three max_four min_four
set_option linter.unusedVariables false
set_option linter.unusedSimpArgs false

/-! ### pool_Same: function 18 -/
def pool_Same.f (k : Nat) (l0_0 : List Int) (l1_0 : List Int) : Option (Bool) := (api_Cpus_39.f k l0_0 l1_0).bind fun t299 => (some t299)
theorem pool_Same.mono : ∀ a0 a1 k, LeO (pool_Same.f k a0 a1) (pool_Same.f (k + 1) a0 a1) := by
  intro a0 a1 k
  unfold pool_Same.f
  repeat' first
      | (with_reducible exact api_Cpus_39.mono _ _ _)
      | (with_reducible exact LeO.refl _)
      | (with_reducible exact LeO.none _)
      | (with_reducible refine LeO.ite ?_ ?_)
      | (with_reducible refine LeO.bind ?_ (fun _ => ?_))
      | exact api_Cpus_39.mono _ _ _
      | exact LeO.none _
      | refine LeO.ite ?_ ?_
      | refine LeO.bind ?_ (fun _ => ?_)
set_option maxHeartbeats 8000000 in
set_option maxRecDepth 100000 in
theorem pool_Same.calls (k : Nat) (A0_0 : Option Addr) (c0_0 : Nat) (l0_0 : List Int) (A1_0 : Option Addr) (c1_0 : Nat) (l1_0 : List Int) (r : Bool) (w : World) (hr0_0 : Kd.C (Kd.int .u32) w A0_0 l0_0.length l0_0) (hc0_0 : l0_0.length ≤ c0_0) (hr1_0 : Kd.C (Kd.int .u32) w A1_0 l1_0.length l1_0) (hc1_0 : l1_0.length ≤ c1_0) (h : pool_Same.f k l0_0 l1_0 = some r) :
    Calls Try.prog 18 #[.agg #[.slice A0_0 l0_0.length c0_0], .agg #[.slice A1_0 l1_0.length c1_0]] w fun e w' => e = .returned (.bool r) ∧ Below w.heap.size w w' := by
  have hu26 := Try.underlying26
  have HR0_0 := Aside0.mk hr0_0
  have HC0_0 := Aside0.mk hc0_0
  clear hr0_0 hc0_0
  have HR1_0 := Aside0.mk hr1_0
  have HC1_0 := Aside0.mk hc1_0
  clear hr1_0 hc1_0
  have HB := Aside0.mk (Below.refl w.heap.size w)
  have H : ((api_Cpus_39.f k l0_0 l1_0).bind fun t299 => (some t299)) = some r := h
  clear h
  replace H := Option.bind_eq_some_iff.mp H
  obtain ⟨t299, A30, H⟩ := H
  replace H : (some t299) = some r := H
  have A3 := Aside0.mk A30
  clear A30
  obtain rfl := Option.some.inj H
  go_enter Try.func18, Try.ntmps18
  go_wp2_with (first | ((with_reducible refine gate_dst (N := 2) rfl ?_); refine box_event ?hg (N := 2) ?hd (cs := #[.slice A0_0 l0_0.length c0_0]) (t := 26) ?hr ?_; (case hd => rfl); (case hg => rfl); (case hr => first | (go_simp; done) | (go_simp; rfl)); intro gb297 hg w4 hbox hb; have n0_ := Aside0.mk (below_step (by repeat (first | (with_reducible first | exact HB.out | apply below_alloc | apply pw_below_drewN | apply below_drew1) | exact HB.out)) hb); have n1_ := Aside0.mk (hbox); have n2_ := Aside0.mk ((by rw [hg]; exact (below_size (by repeat (first | (with_reducible first | exact HB.out | apply below_alloc | apply pw_below_drewN | apply below_drew1) | exact HB.out))) : w.heap.size ≤ gb297)); have n3_ := Aside0.mk ((by rw [hg]; exact (below_size (by repeat (first | (with_reducible first | exact HB.out | apply below_alloc | apply pw_below_drewN | apply below_drew1) | exact HB.out))) : w.heap.size ≤ gb297)); clear HB; have HB := n0_; have BK297 := n1_; have GW297 := n2_; have GE297 := n3_; clear n0_ n1_ n2_ n3_; clear hb hbox hg) | ((with_reducible refine gate_dst (N := 3) rfl ?_); refine box_event ?hg (N := 3) ?hd (cs := #[.slice A1_0 l1_0.length c1_0]) (t := 26) ?hr ?_; (case hd => rfl); (case hg => rfl); (case hr => first | (go_simp; done) | (go_simp; rfl)); intro gb298 hg w5 hbox hb; have n0_ := Aside0.mk (blk_below (g := gb297) (o := .cells #[.slice A0_0 l0_0.length c0_0] 26 (0, 0)) (by (with_reducible repeat (first | refine blk_drewN ?_ _ | refine blk_drew ?_ | refine blk_alloc ?_ _)); exact BK297.out) hb); have n1_ := Aside0.mk (below_step (by repeat (first | (with_reducible first | exact HB.out | apply below_alloc | apply pw_below_drewN | apply below_drew1 | refine below_set ?_ GE297.out) | exact HB.out)) hb); have n2_ := Aside0.mk (hbox); have n3_ := Aside0.mk ((by rw [hg]; exact (below_size (by repeat (first | (with_reducible first | exact HB.out | apply below_alloc | apply pw_below_drewN | apply below_drew1 | refine below_set ?_ GE297.out) | exact HB.out))) : w.heap.size ≤ gb298)); have n4_ := Aside0.mk ((by rw [hg]; exact (below_size (by repeat (first | (with_reducible first | exact HB.out | apply below_alloc | apply pw_below_drewN | apply below_drew1 | refine below_set ?_ GE297.out) | exact HB.out))) : w.heap.size ≤ gb298)); have n5_ := Aside0.mk ((by rw [hg]; exact Nat.ne_of_lt (blk_lt (g := gb297) (o := .cells #[.slice A0_0 l0_0.length c0_0] 26 (0, 0)) (by (with_reducible repeat (first | refine blk_drewN ?_ _ | refine blk_drew ?_ | refine blk_alloc ?_ _)); exact BK297.out)) : gb297 ≠ gb298)); have n6_ := Aside0.mk ((by rw [hg]; exact Nat.ne_of_gt (blk_lt (g := gb297) (o := .cells #[.slice A0_0 l0_0.length c0_0] 26 (0, 0)) (by (with_reducible repeat (first | refine blk_drewN ?_ _ | refine blk_drew ?_ | refine blk_alloc ?_ _)); exact BK297.out)) : gb298 ≠ gb297)); clear BK297; clear HB; have BK297 := n0_; have HB := n1_; have BK298 := n2_; have GW298 := n3_; have GE298 := n4_; have NB297_298 := n5_; have NB298_297 := n6_; clear n0_ n1_ n2_ n3_ n4_ n5_ n6_; clear hb hbox hg; have hnb6 := NB297_298.out; have hnc6 := NB298_297.out; have hcz7_0 : w5.cell? ⟨gb297, 0, none⟩ = some (.slice A0_0 l0_0.length c0_0) := (blk_cell BK297.out 0).trans rfl; have hfz7_0 := blk_frozen BK297.out 0; have hcz8_0 : w5.cell? ⟨gb298, 0, none⟩ = some (.slice A1_0 l1_0.length c1_0) := (blk_cell BK298.out 0).trans rfl; have hfz8_0 := blk_frozen BK298.out 0) | ((with_reducible refine gate_callee (f := 39) rfl ?_); refine goesL_ (some 9) rfl rfl Try.func39 (by kernel_rfl) rfl #[.slice A0_0 l0_0.length c0_0, .slice A1_0 l1_0.length c1_0] rfl (by (try simp only [List.map_toArray, List.map_cons, List.map_nil]); first | done | rfl | (simp only [List.length_drop, List.length_take]; rfl)) ?_; (with_reducible refine (api_Cpus_39.calls k _ _ l0_0 _ _ l1_0 t299 _ ?side1 ?side2 ?side3 ?side4 A3.out).mono ?_); (case side1 => repeat (first | exact (Kd.C_below HR0_0.out HB.out) | (with_reducible refine Kd.C_alloc ?_ _) | (with_reducible refine Kd.C_drewN ?_ _) | (with_reducible refine Kd.C_drew ?_))); (case side2 => exact HC0_0.out); (case side3 => repeat (first | exact (Kd.C_below HR1_0.out HB.out) | (with_reducible refine Kd.C_alloc ?_ _) | (with_reducible refine Kd.C_drewN ?_ _) | (with_reducible refine Kd.C_drew ?_))); (case side4 => exact HC1_0.out); rintro e w' ⟨rfl, ⟨nd, rfl⟩⟩; refine ⟨_, rfl, ?_⟩))
  go_ret
  exact ⟨by first | rfl | (simp [errW_none, errW_some] <;> rfl) | (simp [*, errW_none, errW_some] <;> rfl), by repeat (first | (with_reducible first | exact HB.out | apply below_alloc | apply pw_below_drewN | apply below_drew1 | refine below_set ?_ GE297.out | refine below_set ?_ GE298.out) | exact HB.out)⟩

end Go.Proofs.Ytkhbffjfclepfaa.Q

/- What the functions of pools tell, on naturals: check, right, of, same, copy. -/
namespace Go.Proofs.Ytkhbffjfclepfaa.Pure
open Go.RowKit Go.Proofs.Ytkhbffjfclepfaa.Q Go.Proofs.YtkhbffjfclepfaaW.PrintWords Go.Proofs.YtkhbffjfclepfaaW.PrintLast Go.Proofs.YtkhbffjfclepfaaW.PrintMore
set_option linter.unusedVariables false
set_option linter.unusedSimpArgs false
/-- Sets that fit their type, in a row that is not too long. -/
structure Fit (S : List Nat) : Prop where
  lt : ∀ s ∈ S, s < 2 ^ 32
  len : S.length ≤ 1000
theorem Good.fit {S : List Nat} (h : Good S) : Fit S := ⟨fun s hs => by have := (h.each s hs).2; omega, by have := h.len4; omega⟩
theorem at_pre {S pre suf : List Nat} {x : Nat} (h : S = pre ++ x :: suf) : rd (up S) (pre.length : Int) = (x : Int) := by rw [rd_up]; subst h; simp
theorem pre_lt {S pre suf : List Nat} {x : Nat} (h : S = pre ++ x :: suf) : pre.length < S.length := by subst h; simp
theorem pre_mem {S pre suf : List Nat} {x : Nat} (h : S = pre ++ x :: suf) : x ∈ S := by subst h; simp
theorem pre_end {S pre : List Nat} (h : S = pre ++ []) : pre.length = S.length := by subst h; simp
theorem pre_next {S pre suf : List Nat} {x : Nat} (h : S = pre ++ x :: suf) : S = (pre ++ [x]) ++ suf := by simp [h]
theorem pre_succ {pre : List Nat} {x : Nat} (h : pre.length < 1000) : wrap64 ((pre.length : Int) + 1) = ((pre ++ [x]).length : Int) := by rw [w64_next pre.length (by omega)]; simp
def ckl : Bool → Nat → List Nat → Bool
  | ok, A, [] => ok && (A &&& ((A + 1) % 4294967296) == 0)
  | ok, A, x :: xs => ckl (ok && (x != 0) && decide (x < 256) && (x &&& A == 0)) (A ||| x) xs
theorem Check_l0 (S : List Nat) (hS : Fit S) : ∀ (suf pre : List Nat) (ok : Bool) (A : Nat), S = pre ++ suf → A < 2 ^ 32 → Ev (fun k => pool_Check.l0 k ok (A : Int) (up S) ((up S).length : Int) (pre.length : Int)) (if ckl ok A suf = true then 0 else 180)
  | [], pre, ok, A, h, hA => ⟨1, fun k hk => by
    obtain ⟨k, rfl⟩ : ∃ k', k = k' + 1 := ⟨k - 1, by omega⟩
    show pool_Check.l0 (k + 1) _ _ _ _ _ = _
    have e : Go.bits .and .u32 (A : Int) (((A : Int) + 1) % 4294967296) = ((A &&& ((A + 1) % 4294967296) : Nat) : Int) := by
      rw [← and_n hA (show (A + 1) % 4294967296 < 2 ^ 32 by omega)]
      rfl
    rw [pool_Check.l0, if_neg (by rw [up_length, pre_end h]; omega), e]
    unfold ckl
    cases ok
    · simp
    · rw [if_pos rfl]
      by_cases hz : A &&& ((A + 1) % 4294967296) = 0
      · rw [hz]; simp
      · rw [if_neg (by omega), if_neg (by simpa using hz)]⟩
  | x :: suf, pre, ok, A, h, hA => by
    have hx := hS.lt x (pre_mem h)
    have hlen := hS.len
    have hlt := pre_lt h
    have hor : A ||| x < 2 ^ 32 := Nat.or_lt_two_pow hA hx
    obtain ⟨K, hK⟩ := Check_l0 S hS suf (pre ++ [x]) (ok && (x != 0) && decide (x < 256) && (x &&& A == 0)) (A ||| x) (pre_next h) hor
    refine ⟨K + 1, fun k hk => ?_⟩
    obtain ⟨k, rfl⟩ : ∃ k', k = k' + 1 := ⟨k - 1, by omega⟩
    have hk' : pool_Check.l0 k (ok && (x != 0) && decide (x < 256) && (x &&& A == 0)) ((A ||| x : Nat) : Int) (up S) ((up S).length : Int) ((pre ++ [x]).length : Int) = some (if ckl (ok && (x != 0) && decide (x < 256) && (x &&& A == 0)) (A ||| x) suf = true then 0 else 180) := hK k (by omega)
    show pool_Check.l0 (k + 1) _ _ _ _ _ = _
    rw [pool_Check.l0, if_pos (by rw [up_length]; omega), if_pos (by omega), if_pos (by rw [up_length]; omega), at_pre h, or_n hA hx, and_n hx hA, pre_succ (x := x) (by omega), Check1_n x hx, Option.bind_some]
    show _ = some (if ckl (ok && (x != 0) && decide (x < 256) && (x &&& A == 0)) (A ||| x) suf = true then 0 else 180)
    rw [← hk']
    cases ok
    · rw [if_neg (by simp)]; simp
    · rw [if_pos rfl]
      by_cases h0 : x = 0
      · subst h0; rw [if_pos (by rfl)]; simp
      · rw [if_neg (by omega)]
        have e1 : (x != 0) = true := by simp [h0]
        by_cases h256 : x < 256
        · rw [if_pos h256, if_pos rfl, e1, decide_eq_true h256]
          have e2 : ((((x &&& A : Nat) : Int)) == 0) = ((x &&& A) == 0) := by
            cases hz : x &&& A with
            | zero => rfl
            | succ n => simp; omega
          rw [e2]
          simp
        · rw [if_neg h256, if_neg (by decide), decide_eq_false h256]
          simp
theorem ckl_iff (ok : Bool) (A : Nat) (S : List Nat) : ckl ok A S = true ↔ ok = true ∧ (∀ s ∈ S, s ≠ 0 ∧ s < 256) ∧ (∀ c, (if A.testBit c then 1 else 0) + cnt S c ≤ 1) ∧ (S.foldl (· ||| ·) A) &&& ((S.foldl (· ||| ·) A + 1) % 4294967296) = 0 := by
  induction S generalizing ok A with
  | nil =>
    unfold ckl
    simp only [Bool.and_eq_true, beq_iff_eq, List.foldl_nil, cnt_nil]
    constructor
    · rintro ⟨h1, h2⟩
      exact ⟨h1, by simp, fun c => by split <;> omega, h2⟩
    · rintro ⟨h1, _, _, h2⟩
      exact ⟨h1, h2⟩
  | cons x S ih =>
    rw [ckl, ih, List.foldl_cons]
    simp only [Bool.and_eq_true, beq_iff_eq, bne_iff_ne, decide_eq_true_eq, cnt_cons, List.forall_mem_cons]
    constructor
    · rintro ⟨⟨⟨⟨h1, h2⟩, h3⟩, h4⟩, h5, h6, h7⟩
      refine ⟨h1, ⟨⟨h2, h3⟩, h5⟩, fun c => ?_, h7⟩
      have h8 := h6 c
      have h9 := and_zero.1 h4 c
      rw [Nat.testBit_or] at h8
      cases hx : x.testBit c <;> cases ha : A.testBit c <;> simp [hx, ha] at h8 h9 ⊢ <;> omega
    · rintro ⟨h1, ⟨⟨h2, h3⟩, h5⟩, h6, h7⟩
      refine ⟨⟨⟨⟨h1, h2⟩, h3⟩, and_zero.2 fun c hc => ?_⟩, h5, fun c => ?_, h7⟩
      · have h8 := h6 c
        cases ha : A.testBit c
        · rfl
        · simp [hc, ha] at h8; omega
      · have h8 := h6 c
        rw [Nat.testBit_or]
        cases hx : x.testBit c <;> cases ha : A.testBit c <;> simp [hx, ha] at h8 ⊢ <;> omega
theorem Check_n {S : List Nat} (hS : Fit S) : Ev (fun k => pool_Check.f k (up S)) (if gd S = true then 0 else 180) := by
  have hl := hS.len
  have key : ∀ ok : Bool, Ev (fun k => pool_Check.j0 k ok (up S)) (if ckl ok 0 S = true then 0 else 180) := fun ok => by
    refine Ev.step (f := fun k => pool_Check.l0 k ok 0 (up S) ((up S).length : Int) 0) (fun k => by rw [pool_Check.j0]) ?_
    have := Check_l0 S hS S [] ok 0 rfl (by decide)
    simpa using this
  have e : gd S = ckl (decide (0 < S.length) && decide (S.length ≤ 4)) 0 S := by
    rw [Bool.eq_iff_iff, gd_true, ckl_iff, good_iff]
    simp
    intro _ _
    omega
  rw [e]
  refine Ev.congr (f := fun k => pool_Check.j0 k (decide (0 < S.length) && decide (S.length ≤ 4)) (up S)) (fun k => ?_) (key _)
  unfold pool_Check.f
  rw [up_length]
  by_cases h0 : 0 < S.length
  · rw [if_pos (by omega), decide_eq_true h0, Bool.true_and]
    congr 1
    by_cases h4 : S.length ≤ 4
    · rw [decide_eq_true h4, decide_eq_true (by omega)]
    · rw [decide_eq_false h4, decide_eq_false (by omega)]
  · rw [if_neg (by omega), decide_eq_false h0, Bool.false_and]
/-! ### Of -/
def rof (a : Int) : List Nat → Nat → Int → Nat → Int × Bool
  | [], _, x, n => if n = 1 then (x, true) else (0, false)
  | s :: S, i, x, n => if hb s a then rof a S (i + 1) (i : Int) (n + 1) else rof a S (i + 1) x n
theorem rOf_l0 (a : Int) (S : List Nat) (hS : S.length ≤ 1000) : ∀ suf pre x n, S = pre ++ suf → n ≤ pre.length → Ev (fun k => mainsheetref08_Of.l0 k a x (n : Int) (up S) ((up S).length : Int) (pre.length : Int)) (rof a suf pre.length x n)
  | [], pre, x, n, h, hn => ⟨1, fun k hk => by
    obtain ⟨k, rfl⟩ : ∃ k', k = k' + 1 := ⟨k - 1, by omega⟩
    show mainsheetref08_Of.l0 (k + 1) _ _ _ _ _ _ = _
    rw [mainsheetref08_Of.l0, if_neg (by rw [up_length, pre_end h]; omega)]
    unfold rof
    by_cases h1 : n = 1
    · rw [if_pos (by omega), if_pos h1]
    · rw [if_neg (by omega), if_neg h1]⟩
  | s :: suf, pre, x, n, h, hn => by
    have hlt := pre_lt h
    by_cases hh : hb s a = true
    · obtain ⟨K, hK⟩ := rOf_l0 a S hS suf (pre ++ [s]) (pre.length : Int) (n + 1) (pre_next h) (by simp; omega)
      refine ⟨K + 1, fun k hk => ?_⟩
      obtain ⟨k, rfl⟩ : ∃ k', k = k' + 1 := ⟨k - 1, by omega⟩
      have hk' : mainsheetref08_Of.l0 k a (pre.length : Int) ((n + 1 : Nat) : Int) (up S) ((up S).length : Int) ((pre ++ [s]).length : Int) = some (rof a suf (pre ++ [s]).length (pre.length : Int) (n + 1)) := hK k (by omega)
      show mainsheetref08_Of.l0 (k + 1) _ _ _ _ _ _ = _
      rw [mainsheetref08_Of.l0, if_pos (by rw [up_length]; omega), if_pos (by omega), if_pos (by rw [up_length]; omega), at_pre h, rHas_n, Option.bind_some, if_pos hh, w64_next n (by omega), pre_succ (x := s) (by omega), hk', rof, if_pos hh]
      simp
    · obtain ⟨K, hK⟩ := rOf_l0 a S hS suf (pre ++ [s]) x n (pre_next h) (by simp; omega)
      refine ⟨K + 1, fun k hk => ?_⟩
      obtain ⟨k, rfl⟩ : ∃ k', k = k' + 1 := ⟨k - 1, by omega⟩
      have hk' : mainsheetref08_Of.l0 k a x (n : Int) (up S) ((up S).length : Int) ((pre ++ [s]).length : Int) = some (rof a suf (pre ++ [s]).length x n) := hK k (by omega)
      show mainsheetref08_Of.l0 (k + 1) _ _ _ _ _ _ = _
      rw [mainsheetref08_Of.l0, if_pos (by rw [up_length]; omega), if_pos (by omega), if_pos (by rw [up_length]; omega), at_pre h, rHas_n, Option.bind_some, if_neg hh, pre_succ (x := s) (by omega), hk', rof, if_neg hh]
      simp
theorem rOf_n (a : Int) {S : List Nat} (hS : S.length ≤ 1000) : Ev (fun k => mainsheetref08_Of.f k (up S) a) (rof a S 0 0 0) := by
  have := rOf_l0 a S hS S [] 0 0 rfl (Nat.le_refl _)
  simpa [mainsheetref08_Of.f] using this
theorem rof_snd (a : Int) : ∀ (S : List Nat) i x n, (rof a S i x n).2 = decide (n + S.countP (hb · a) = 1)
  | [], i, x, n => by
    unfold rof
    by_cases h : n = 1
    · simp [h]
    · simp [h]
  | s :: S, i, x, n => by
    rw [rof, List.countP_cons]
    by_cases h : hb s a = true
    · rw [if_pos h, if_pos h, rof_snd a S]
      rw [show n + 1 + S.countP (hb · a) = n + (S.countP (hb · a) + 1) by omega]
    · rw [if_neg h, if_neg h, rof_snd a S]
      simp
/-- The first pool that a pCPU is in. -/
def fst_ (a : Int) (S : List Nat) : Option Nat := S.findIdx? (hb · a)
theorem rof_one (a : Int) : ∀ (S : List Nat) i x n, n + S.countP (hb · a) ≤ 1 → rof a S i x n = if n = 1 then (x, true) else match fst_ a S with | some j => (((i + j : Nat) : Int), true) | none => (0, false)
  | [], i, x, n, h => by unfold rof fst_; simp
  | s :: S, i, x, n, h => by
    rw [List.countP_cons] at h
    unfold fst_
    rw [rof, List.findIdx?_cons]
    by_cases hh : hb s a = true
    · rw [if_pos hh] at h ⊢
      have hn : n = 0 := by omega
      subst hn
      rw [rof_one a S _ _ _ (by omega), hh]
      simp
    · rw [if_neg hh] at h ⊢
      rw [rof_one a S _ _ _ (by omega)]
      have hf : hb s a = false := by simpa using hh
      rw [hf]
      unfold fst_
      by_cases hn : n = 1
      · rw [if_pos hn, if_pos hn]
      · rw [if_neg hn, if_neg hn]
        cases S.findIdx? (hb · a) <;> simp
        omega
theorem count_hb (S : List Nat) (c : Nat) (h : c < 8) : S.countP (hb · (c : Int)) = cnt S c := by
  unfold cnt
  congr 1
  funext s
  exact hb_in s c h
theorem count_out (S : List Nat) (a : Int) (h : a < 0 ∨ 8 ≤ a) : S.countP (hb · a) = 0 := by
  rw [List.countP_eq_zero]
  intro s _
  simp [hb_out s a h]
theorem Good.count1 {S : List Nat} (h : Good S) (a : Int) : S.countP (hb · a) ≤ 1 := by
  by_cases ha : 0 ≤ a ∧ a < 8
  · obtain ⟨c, hc, rfl⟩ := eight ha.1 ha.2
    rw [count_hb S c hc]
    obtain ⟨m, hm, ho⟩ := h.one
    rw [ho]
    split <;> omega
  · rw [count_out S a (by omega)]
    omega
/-- Of, told. -/
noncomputable def ofv (a : Int) (S : List Nat) : Int × Bool := if gd S = true then match fst_ a S with | some j => ((j : Int), true) | none => (0, false) else (0, false)
theorem idx_n (a : Int) (S : List Nat) (hS : ∀ s ∈ S, s < 2 ^ 32) : idxOf (fun s => hasB s a) (up S) = match fst_ a S with | some j => (j : Int) | none => -1 := by
  unfold idxOf fst_
  have e : (up S).findIdx? (fun s => hasB s a) = S.findIdx? (hb · a) := by
    induction S with
    | nil => rfl
    | cons s S ih =>
      show ((s : Int) :: up S).findIdx? _ = _
      rw [List.findIdx?_cons, List.findIdx?_cons, hasB_n s (hS s (by simp)) a, ih (fun x hx => hS x (by simp [hx]))]
  rw [e]
  cases S.findIdx? (hb · a) <;> rfl
theorem Of_n (a : Int) {S : List Nat} (hS : Fit S) : Ev (fun k => pool_Of.f k (up S) a) (ofv a S) := by
  have hl := hS.len
  unfold pool_Of.f slices_IndexFunc_cpus_Of1.f
  rw [if_pos (by rw [up_length]; omega)]
  simp only [Option.bind_some]
  refine Ev.bind (Check_n hS) ?_
  rw [idx_n a S hS.lt]
  unfold ofv
  by_cases hg : gd S = true
  · rw [if_pos hg, if_pos hg]
    refine Ev.congr (f := fun _ => some (match fst_ a S with | some j => ((j : Int), true) | none => (0, false))) (fun k => ?_) (Ev.now _)
    rw [if_pos rfl]
    cases fst_ a S with
    | none => rfl
    | some j => simp only []; rw [if_neg (by omega)]
  · rw [if_neg hg, if_neg hg]
    exact Ev.now _
theorem rOf_good (a : Int) {S : List Nat} (h : Good S) : Ev (fun k => mainsheetref08_Of.f k (up S) a) (ofv a S) := by
  have := rOf_n a (S := S) h.fit.len
  rw [rof_one a S 0 0 0 (by have := h.count1 a; omega)] at this
  unfold ofv
  rw [if_pos (gd_true.2 h)]
  simp at this
  exact this
/-! ### Right -/
def allOf (S : List Nat) : Nat → Nat → Bool
  | 0, _ => true
  | m + 1, i => decide (S.countP (hb · (i : Int)) = 1) && allOf S m (i + 1)
theorem allOf_iff (S : List Nat) : ∀ m i, allOf S m i = true ↔ ∀ c, i ≤ c → c < i + m → S.countP (hb · (c : Int)) = 1
  | 0, i => by
    simp only [allOf, true_iff]
    intro c h1 h2
    omega
  | m + 1, i => by
    rw [allOf, Bool.and_eq_true, decide_eq_true_eq, allOf_iff S m (i + 1)]
    constructor
    · rintro ⟨h1, g⟩ c hc1 hc2
      by_cases hci : c = i
      · subst hci; exact h1
      · exact g c (by omega) (by omega)
    · intro g
      exact ⟨g i (Nat.le_refl _) (by omega), fun c hc1 hc2 => g c (by omega) (by omega)⟩
theorem Right_l1 (S : List Nat) (hS : S.length ≤ 1000) (N : Nat) (hN : N ≤ 10000) : ∀ m i, i + m = N → Ev (fun k => mainsheetref08_Right.l1 k (N : Int) (i : Int) (up S)) (allOf S m i)
  | 0, i, h => ⟨1, fun k hk => by
    obtain ⟨k, rfl⟩ : ∃ k', k = k' + 1 := ⟨k - 1, by omega⟩
    show mainsheetref08_Right.l1 (k + 1) _ _ _ = _
    rw [mainsheetref08_Right.l1, if_neg (by omega)]
    rfl⟩
  | m + 1, i, h => by
    obtain ⟨K, hK⟩ := Right_l1 S hS N hN m (i + 1) (by omega)
    obtain ⟨K2, hK2⟩ := rOf_n (i : Int) hS
    refine ⟨K + K2 + 1, fun k hk => ?_⟩
    obtain ⟨k, rfl⟩ : ∃ k', k = k' + 1 := ⟨k - 1, by omega⟩
    have hk' : mainsheetref08_Right.l1 k (N : Int) ((i + 1 : Nat) : Int) (up S) = some (allOf S m (i + 1)) := hK k (by omega)
    have hk2 : mainsheetref08_Of.f k (up S) (i : Int) = some (rof (i : Int) S 0 0 0) := hK2 k (by omega)
    show mainsheetref08_Right.l1 (k + 1) _ _ _ = _
    rw [mainsheetref08_Right.l1, if_pos (by omega), hk2, Option.bind_some, rof_snd, w64_next i (by omega), hk', Nat.zero_add, allOf]
    by_cases h1 : S.countP (hb · (i : Int)) = 1
    · rw [if_pos (decide_eq_true h1), decide_eq_true h1, Bool.true_and]
    · rw [if_neg (by simpa using h1), decide_eq_false h1, Bool.false_and]
def okS (S : List Nat) : Bool := S.all fun s => s != 0 && decide (s < 256)
theorem okS_iff (S : List Nat) : okS S = true ↔ ∀ s ∈ S, s ≠ 0 ∧ s < 256 := by simp [okS, List.all_eq_true]
theorem Right_l0 (S : List Nat) (hS : S.length ≤ 1000) : ∀ (suf pre : List Nat) (N : Nat) (r : Bool), S = pre ++ suf → N ≤ 8 * pre.length → Ev (fun k => mainsheetref08_Right.l1 k ((N + (suf.map pc).sum : Nat) : Int) 0 (up S)) r → Ev (fun k => mainsheetref08_Right.l0 k (N : Int) (up S) ((up S).length : Int) (pre.length : Int) (up S)) (okS suf && r)
  | [], pre, N, r, h, hN, hr => by
    obtain ⟨K, hK⟩ := hr
    refine ⟨K + 1, fun k hk => ?_⟩
    obtain ⟨k, rfl⟩ : ∃ k', k = k' + 1 := ⟨k - 1, by omega⟩
    have hk' : mainsheetref08_Right.l1 k (N : Int) 0 (up S) = some r := hK k (by omega)
    show mainsheetref08_Right.l0 (k + 1) _ _ _ _ _ = _
    rw [mainsheetref08_Right.l0, if_neg (by rw [up_length, pre_end h]; omega), hk']
    rfl
  | s :: suf, pre, N, r, h, hN, hr => by
    have hlt := pre_lt h
    have hp8 : pc s ≤ 8 := by have := lst_len8 s; rwa [lst_length] at this
    have hr' : Ev (fun k => mainsheetref08_Right.l1 k ((N + pc s + (suf.map pc).sum : Nat) : Int) 0 (up S)) r := by
      have e : N + pc s + (suf.map pc).sum = N + ((s :: suf).map pc).sum := by simp; omega
      rw [e]; exact hr
    obtain ⟨K, hK⟩ := Right_l0 S hS suf (pre ++ [s]) (N + pc s) r (pre_next h) (by simp; omega) hr'
    obtain ⟨K2, hK2⟩ := rList_n s
    refine ⟨K + K2 + 1, fun k hk => ?_⟩
    obtain ⟨k, rfl⟩ : ∃ k', k = k' + 1 := ⟨k - 1, by omega⟩
    have hk' : mainsheetref08_Right.l0 k ((N + pc s : Nat) : Int) (up S) ((up S).length : Int) ((pre ++ [s]).length : Int) (up S) = some (okS suf && r) := hK k (by omega)
    have hk2 : mainsheetref04_List.f k (s : Int) = some (up (lst s 8 0)) := hK2 k (by omega)
    show mainsheetref08_Right.l0 (k + 1) _ _ _ _ _ = _
    rw [mainsheetref08_Right.l0, if_pos (by rw [up_length]; omega), if_pos (by omega), if_pos (by rw [up_length]; omega), at_pre h, rRight1_n, Option.bind_some]
    have eo : okS (s :: suf) = ((s != 0 && decide (s < 256)) && okS suf) := rfl
    rw [eo]
    by_cases h256 : s < 256
    · rw [if_pos (decide_eq_true h256)]
      by_cases h0 : s = 0
      · rw [if_pos (by omega)]
        simp [h0]
      · rw [if_neg (by omega), hk2, Option.bind_some, up_length, lst_length, w64_id _ (by omega) (by omega), pre_succ (x := s) (by omega), show (N : Int) + (pc s : Int) = ((N + pc s : Nat) : Int) by simp, hk']
        rw [show (s != 0) = true by simp [h0], decide_eq_true h256]
        simp
    · rw [if_neg (by simpa using h256)]
      simp [h256]
theorem Right_n {S : List Nat} (hS : Fit S) : Ev (fun k => mainsheetref08_Right.f k (up S)) (gd S) := by
  have hl := hS.len
  by_cases hlen : 1 ≤ S.length ∧ S.length ≤ 4
  · have hsum : (S.map pc).sum ≤ 8 * S.length := by
      clear hlen hl hS
      induction S with
      | nil => simp
      | cons s S ih =>
        have hp8 : pc s ≤ 8 := by have := lst_len8 s; rwa [lst_length] at this
        simp
        omega
    have h1 := Right_l1 S hl (S.map pc).sum (by omega) (S.map pc).sum 0 (by omega)
    have h0 := Right_l0 S hl S [] 0 _ rfl (Nat.le_refl _) (by simpa using h1)
    have e : gd S = (okS S && allOf S (S.map pc).sum 0) := by
      rw [Bool.eq_iff_iff, gd_true, Bool.and_eq_true, okS_iff, allOf_iff, good_iff']
      constructor
      · rintro ⟨_, he, hc⟩
        refine ⟨he, fun c _ h2 => ?_⟩
        have := hc c (by omega)
        rw [count_hb S c this.1]
        exact this.2
      · rintro ⟨he, hc⟩
        refine ⟨hlen, he, fun c h2 => ?_⟩
        have := hc c (Nat.zero_le _) (by omega)
        by_cases h8 : c < 8
        · rw [count_hb S c h8] at this
          exact ⟨h8, this⟩
        · rw [count_out S (c : Int) (by omega)] at this
          cases this
    rw [e]
    refine Ev.congr (f := fun k => mainsheetref08_Right.j0 k false (up S)) (fun k => by unfold mainsheetref08_Right.f; rw [up_length, if_neg (by omega), decide_eq_false (by omega)]) ?_
    refine Ev.step (f := fun k => mainsheetref08_Right.l0 k 0 (up S) ((up S).length : Int) 0 (up S)) (fun k => ?_) (by simpa using h0)
    rw [mainsheetref08_Right.j0, if_neg (by simp)]
  · have e : gd S = false := gd_false.2 fun h => hlen ⟨h.len1, h.len4⟩
    rw [e]
    have key : Ev (fun k => mainsheetref08_Right.j0 k true (up S)) false := Ev.step (f := fun _ => some false) (fun k => by rw [mainsheetref08_Right.j0, if_pos rfl]) (Ev.now _)
    refine Ev.congr (f := fun k => mainsheetref08_Right.j0 k true (up S)) (fun k => ?_) key
    unfold mainsheetref08_Right.f
    rw [up_length]
    by_cases h1 : S.length < 1
    · rw [if_pos (by omega)]
    · rw [if_neg (by omega), decide_eq_true (by omega)]
end Go.Proofs.Ytkhbffjfclepfaa.Pure

/- What is done with pools: split, join, move; the program's and the reference's answers are one. -/
namespace Go.Proofs.Ytkhbffjfclepfaa.Pure
open Go.RowKit Go.Proofs.Ytkhbffjfclepfaa.Q Go.Proofs.YtkhbffjfclepfaaW.PrintWords Go.Proofs.YtkhbffjfclepfaaW.PrintLast Go.Proofs.YtkhbffjfclepfaaW.PrintMore
set_option linter.unusedVariables false
set_option linter.unusedSimpArgs false
theorem up_set (S : List Nat) (i x : Nat) : (up S).set i (x : Int) = up (S.set i x) := by unfold up; rw [List.map_set]
theorem up_one (x : Nat) : [(x : Int)] = up [x] := rfl
theorem up_erase (S : List Nat) (i : Nat) : (up S).eraseIdx i = up (S.eraseIdx i) := by
  unfold up
  induction S generalizing i with
  | nil => simp
  | cons s S ih => cases i <;> simp [ih]
theorem Copy_any (l : List Int) (h : l.length ≤ 1000) : mainsheetref08_Copy.f l = some l := by
  unfold mainsheetref08_Copy.f
  simp only [Option.bind_some]
  rw [if_pos (by simp; omega)]
  simp
theorem short_any (l : List Int) : mainsheetlaw08_short.f l = some (l.take 12) := by
  unfold mainsheetlaw08_short.f
  have hm : mn (l.length : Int) 12 = ((min l.length 12 : Nat) : Int) := by unfold mn; split <;> omega
  rw [hm, if_pos (by omega), if_pos (by omega)]
  have e : l.take ((min l.length 12 : Nat) : Int).toNat = l.take 12 := by
    rw [show (((min l.length 12 : Nat) : Int)).toNat = min l.length 12 by simp]
    by_cases h : l.length ≤ 12
    · rw [Nat.min_eq_left h, List.take_of_length_le (Nat.le_refl _), List.take_of_length_le h]
    · rw [Nat.min_eq_right (by omega)]
  rw [e, Copy_any _ (by rw [List.length_take]; omega)]
  rfl
theorem pool_one (l : List Int) (a : Int) : pool_pool.f l [a] = some (decide (0 ≤ a ∧ a < (l.length : Int))) := by
  unfold pool_pool.f
  rw [if_pos (by simp)]
  congr 1
  rw [Bool.eq_iff_iff]
  simp
theorem pool_two (l : List Int) (a b : Int) : pool_pool.f l [a, b] = some (decide (0 ≤ a ∧ a < (l.length : Int)) && decide (0 ≤ b ∧ b < (l.length : Int))) := by
  unfold pool_pool.f
  rw [if_pos (by simp)]
  congr 1
  rw [Bool.eq_iff_iff]
  simp
theorem rPool_n (l : List Int) (a : Int) : mainsheetref08_Pool.f l a = some (decide (0 ≤ a ∧ a < (l.length : Int))) := by
  unfold mainsheetref08_Pool.f
  by_cases h : a ≥ 0
  · rw [if_pos h]
    congr 1
    apply decide_eq_decide.2
    omega
  · rw [if_neg h, decide_eq_false (by omega)]
/-- A pool's set. -/
def gt (S : List Nat) (a : Int) : Nat := S.getD a.toNat 0
theorem rd_gt (S : List Nat) (a : Int) : rd (up S) a = (gt S a : Int) := by
  unfold gt rd up
  simp [List.getD_eq_getElem?_getD]
  cases S[a.toNat]? <;> simp
theorem gt_mem {S : List Nat} {a : Int} (h0 : 0 ≤ a) (h1 : a < S.length) : gt S a ∈ S := by
  unfold gt
  have : a.toNat < S.length := by omega
  rw [List.getD_eq_getElem?_getD, List.getElem?_eq_getElem this]
  exact List.getElem_mem this
theorem gt_at {S : List Nat} {a : Int} (h0 : 0 ≤ a) (h1 : a < S.length) : gt S a = S[a.toNat]'(by omega) := by
  unfold gt
  have : a.toNat < S.length := by omega
  rw [List.getD_eq_getElem?_getD, List.getElem?_eq_getElem this]
  rfl
theorem uniq {p : Nat → Bool} : ∀ (S : List Nat) (i j : Nat) (hi : i < S.length) (hj : j < S.length), S.countP p ≤ 1 → p S[i] = true → p S[j] = true → i = j
  | [], i, j, hi, hj, _, _, _ => by simp at hi
  | s :: S, 0, 0, hi, hj, _, _, _ => rfl
  | s :: S, 0, j + 1, hi, hj, h, h1, h2 => by
    rw [List.countP_cons] at h
    simp at h1 h2
    have : 0 < S.countP p := List.countP_pos_iff.2 ⟨_, List.getElem_mem _, h2⟩
    rw [if_pos h1] at h
    omega
  | s :: S, i + 1, 0, hi, hj, h, h1, h2 => by
    rw [List.countP_cons] at h
    simp at h1 h2
    have : 0 < S.countP p := List.countP_pos_iff.2 ⟨_, List.getElem_mem _, h1⟩
    rw [if_pos h2] at h
    omega
  | s :: S, i + 1, j + 1, hi, hj, h, h1, h2 => by
    rw [List.countP_cons] at h
    have := uniq (p := p) S i j (by simpa using hi) (by simpa using hj) (by omega) (by simpa using h1) (by simpa using h2)
    omega
theorem Good.apart {S : List Nat} (h : Good S) {i j : Nat} (hi : i < S.length) (hj : j < S.length) (hij : i ≠ j) : S[i] &&& S[j] = 0 := by
  refine and_zero.2 fun c hc => ?_
  cases hx : (S[j]).testBit c
  · rfl
  · obtain ⟨m, hm, ho⟩ := h.one
    have hc1 := ho c
    unfold cnt at hc1
    exact absurd (uniq S i j hi hj (by rw [hc1]; split <;> omega) hc hx) hij
/-! ### Split -/
noncomputable def splv (S : List Nat) (a : Int) (s : Nat) : List Nat × Int × Int :=
  if gd S = true then if 0 ≤ a ∧ a < (S.length : Int) then if s < 256 then if s = 0 ∨ sub s (gt S a) = false then ([], 0, 2) else if s = gt S a then ([], 0, 181) else if S.length = 4 then ([], 0, 6) else (S.set a.toNat (nd (gt S a) s) ++ [s], (S.length : Int), 0)
    else ([], 0, 140) else ([], 0, 4) else ([], 0, 180)
theorem splitDo_n (S : List Nat) (a : Int) (s : Nat) (hg : Good S) (h0 : 0 ≤ a ∧ a < (S.length : Int)) (hs : s < 2 ^ 32) :
    ∃ x, splitDo (up S) a (s : Int) = some x ∧ (if x.1 = 0 then x.2.1 else []) = up (splv S a s).1 ∧ x.2.2 = (splv S a s).2.1 ∧ x.1 = (splv S a s).2.2 := by
  unfold splitDo splv
  rw [if_pos (gd_true.2 hg), if_pos h0, Check1_n s hs, Option.bind_some]
  by_cases h256 : s < 256
  · simp only [if_pos h256]
    rw [if_neg (show ¬((0 : Int) ≠ 0) by simp)]
    by_cases hz : s = 0
    · refine ⟨(2, [], 0), by rw [if_pos (show (s : Int) = 0 by omega)], ?_⟩
      simp [hz, up]
    rw [if_neg (show ¬((s : Int) = 0) by omega), rd_gt, Within_n s _ h256, Option.bind_some]
    by_cases hw : sub s (gt S a) = false
    · refine ⟨(2, [], 0), by rw [if_pos hw], ?_⟩
      simp [hw, up]
    have hor : ¬(s = 0 ∨ sub s (gt S a) = false) := fun h => h.elim hz hw
    simp only [if_neg hw, if_neg hor]
    by_cases he : s = gt S a
    · refine ⟨(181, [], 0), by rw [if_pos (show (s : Int) = (gt S a : Int) by omega)], ?_⟩
      simp only [if_pos he]
      simp [up]
    rw [if_neg (show ¬((s : Int) = (gt S a : Int)) by omega)]
    simp only [if_neg he, up_length]
    by_cases h4 : S.length = 4
    · refine ⟨(6, [], 0), by rw [if_pos h4], ?_⟩
      simp only [if_pos h4]
      simp [up]
    simp only [if_neg h4]
    refine ⟨_, rfl, ?_, rfl, rfl⟩
    rw [if_pos rfl, nd_n, up_set, up_append]
    rfl
  · simp only [if_neg h256]
    exact ⟨(140, [], 0), by rw [if_pos (by decide)], rfl, rfl, rfl⟩
theorem Split_n {S : List Nat} (hS : Fit S) (a : Int) (s : Nat) (hs : s < 2 ^ 32) : Ev (fun k => pool_Split.f k (up S) a (s : Int)) (up (splv S a s).1, (splv S a s).2.1, (splv S a s).2.2) := by
  have hl := hS.len
  refine Ev.congr (f := fun k => (pool_Check.f k (up S)).bind fun e => if e ≠ 0 then some ([], 0, e) else (pool_pool.f (up S) [a]).bind fun ok => if ok = false then some ([], 0, 4) else (splitDo (up S) a s).bind fun x => some (if x.1 = 0 then x.2.1 else [], x.2.2, x.1)) (fun k => by unfold pool_Split.f; rw [if_pos (by rw [up_length]; omega)]) ?_
  refine Ev.bind (Check_n hS) ?_
  by_cases hg : gd S = true
  · rw [if_pos hg, if_neg (by simp), pool_one, Option.bind_some, up_length]
    by_cases h0 : 0 ≤ a ∧ a < (S.length : Int)
    · rw [decide_eq_true h0, if_neg (by simp)]
      obtain ⟨x, h1, h2, h3, h4⟩ := splitDo_n S a s (gd_true.1 hg) h0 hs
      rw [h1, Option.bind_some, h2, h3, h4]
      exact Ev.now _
    · rw [decide_eq_false h0, if_pos rfl]
      unfold splv
      rw [if_pos hg, if_neg h0]
      exact Ev.now _
  · rw [if_neg hg, if_pos (by decide)]
    unfold splv
    rw [if_neg hg]
    exact Ev.now _
theorem rSplit_n {S : List Nat} (hg : Good S) (a : Int) (s : Nat) (hs : s < 2 ^ 32) : Ev (fun k => mainsheetref08_Split.f k (up S) a (s : Int)) (up (splv S a s).1, (splv S a s).2.1, (splv S a s).2.2) := by
  have hl := hg.len4
  unfold splv
  rw [if_pos (gd_true.2 hg)]
  refine Ev.congr (f := fun k => if 0 ≤ a ∧ a < (S.length : Int) then (if s < 256 then (if s = 0 then mainsheetref08_Split.j0 k a s true (up S) else (mainsheetref04_Within.f k s (gt S a : Int)).bind fun t => mainsheetref08_Split.j0 k a s (!t) (up S)) else some ([], 0, 140)) else some ([], 0, 4)) (fun k => ?_) ?_
  · unfold mainsheetref08_Split.f
    rw [rPool_n, Option.bind_some, up_length]
    by_cases h0 : 0 ≤ a ∧ a < (S.length : Int)
    · rw [if_pos (decide_eq_true h0), if_pos h0, rRight1_n, Option.bind_some]
      by_cases h256 : s < 256
      · rw [if_pos (decide_eq_true h256), if_pos h256]
        by_cases hz : s = 0
        · rw [if_pos (by omega), if_pos hz]
        · rw [if_neg (by omega), if_neg hz, if_pos h0.1, if_pos h0.2, rd_gt]
      · rw [if_neg (by simpa using h256), if_neg h256]
    · rw [if_neg (by simpa using h0), if_neg h0]
  by_cases h0' : ¬(0 ≤ a ∧ a < (S.length : Int))
  · have h0 := h0'; simp only [if_neg h0]; exact Ev.now _
  have h0 : 0 ≤ a ∧ a < (S.length : Int) := Classical.not_not.1 h0'
  simp only [if_pos h0]
  by_cases h256' : ¬(s < 256)
  · have h256 := h256'; simp only [if_neg h256]; exact Ev.now _
  have h256 : s < 256 := Classical.not_not.1 h256'
  simp only [if_pos h256]
  have hbad : Ev (fun k => mainsheetref08_Split.j0 k a s true (up S)) ([], 0, 2) := Ev.step (f := fun _ => some ([], 0, 2)) (fun k => by rw [mainsheetref08_Split.j0, if_pos rfl]) (Ev.now _)
  by_cases hz : s = 0
  · simp only [if_pos hz, hz, true_or, if_true]
    rw [hz] at hbad
    exact hbad
  simp only [if_neg hz]
  refine Ev.bind (rWithin_n s _ h256) ?_
  by_cases hw : sub s (gt S a) = false
  · rw [hw]
    simp only [Bool.not_false, or_true, if_true]
    exact hbad
  have hw1 : sub s (gt S a) = true := by simpa using hw
  rw [hw1]
  simp only [Bool.not_true]
  rw [if_neg (fun h : s = 0 ∨ true = false => h.elim hz (fun h => by cases h))]
  have hga := hg.each _ (gt_mem h0.1 h0.2)
  refine Ev.step (f := fun k => if s = gt S a then some ([], 0, 181) else if S.length = 4 then some ([], 0, 6) else some (up (S.set a.toNat (nd (gt S a) s) ++ [s]), (S.length : Int), 0)) (fun k => ?_) ?_
  · rw [mainsheetref08_Split.j0, if_neg (by simp), if_pos h0.1, up_length, if_pos h0.2, rd_gt]
    by_cases he : s = gt S a
    · rw [if_pos (by omega), if_pos he]
    rw [if_neg (by omega), if_neg he]
    by_cases h4 : S.length = 4
    · rw [if_pos (by omega), if_pos h4]
    rw [if_neg (by omega), if_neg h4, Copy_any _ (by rw [up_length]; omega), Option.bind_some, up_length, if_pos h0.2, rd_gt]
    have hn := sub_nd (a := gt S a) (b := s) (by omega) ((sub_iff (by omega)).1 hw1)
    have e : ((gt S a : Int) - (s : Int)) % 4294967296 = (nd (gt S a) s : Int) := by
      have := hga.2
      omega
    rw [e, up_set, Option.bind_some, if_pos (by rw [up_length, List.length_set]; omega), Option.bind_some, up_append]
    congr 1
    rw [up_one]
    congr 1
    congr 1
    rw [List.length_append, up_length, up_length, List.length_set]
    unfold wrap64
    simp
    omega
  · by_cases he : s = gt S a
    · simp only [if_pos he]; exact Ev.now _
    simp only [if_neg he]
    by_cases h4 : S.length = 4
    · simp only [if_pos h4]; exact Ev.now _
    simp only [if_neg h4]
    exact Ev.now _
end Go.Proofs.Ytkhbffjfclepfaa.Pure

/- Join and move: the program's and the reference's answers are one. -/
namespace Go.Proofs.Ytkhbffjfclepfaa.Pure
open Go.RowKit Go.Proofs.Ytkhbffjfclepfaa.Q Go.Proofs.YtkhbffjfclepfaaW.PrintWords Go.Proofs.YtkhbffjfclepfaaW.PrintLast Go.Proofs.YtkhbffjfclepfaaW.PrintMore
set_option linter.unusedVariables false
set_option linter.unusedSimpArgs false
/-! ### Join -/
noncomputable def joinv (S : List Nat) (a b : Int) : List Nat × Int :=
  if gd S = true then if (0 ≤ a ∧ a < (S.length : Int)) ∧ 0 ≤ b ∧ b < (S.length : Int) then if a = b then ([], 2) else ((S.set b.toNat (gt S b ||| gt S a)).eraseIdx a.toNat, 0) else ([], 4) else ([], 180)
theorem Join_n {S : List Nat} (hS : Fit S) (a b : Int) : Ev (fun k => pool_Join.f k (up S) a b) (up (joinv S a b).1, (joinv S a b).2) := by
  have hl := hS.len
  refine Ev.congr (f := fun k => (pool_Check.f k (up S)).bind fun e => if e ≠ 0 then some ([], e) else (pool_pool.f (up S) [a, b]).bind fun ok => if ok = false then some ([], 4) else (joinDo (up S) a b).bind fun x => some (if x.1 = 0 then x.2 else [], x.1)) (fun k => by unfold pool_Join.f; rw [if_pos (by rw [up_length]; omega)]) ?_
  refine Ev.bind (Check_n hS) ?_
  unfold joinv
  by_cases hg : gd S = true
  · simp only [if_pos hg]
    rw [if_neg (show ¬((0 : Int) ≠ 0) by simp), pool_two, Option.bind_some, up_length]
    by_cases h0 : (0 ≤ a ∧ a < (S.length : Int)) ∧ 0 ≤ b ∧ b < (S.length : Int)
    · simp only [if_pos h0]
      rw [decide_eq_true h0.1, decide_eq_true h0.2, if_neg (by simp)]
      unfold joinDo
      by_cases hab : a = b
      · simp only [if_pos hab, Option.bind_some]
        exact Ev.now _
      · simp only [if_neg hab, Option.bind_some, rd_gt]
        have hgg := gd_true.1 hg
        rw [or_n (by have := (hgg.each _ (gt_mem h0.2.1 h0.2.2)).2; omega) (by have := (hgg.each _ (gt_mem h0.1.1 h0.1.2)).2; omega), up_set, up_erase]
        exact Ev.now _
    · simp only [if_neg h0]
      have e : (decide (0 ≤ a ∧ a < (S.length : Int)) && decide (0 ≤ b ∧ b < (S.length : Int))) = false := by
        rw [← Bool.decide_and]
        exact decide_eq_false h0
      rw [e, if_pos rfl]
      exact Ev.now _
  · simp only [if_neg hg]
    rw [if_pos (by decide)]
    exact Ev.now _
/-- What the reference's loop builds. -/
def rj (a b x : Nat) : List Nat → Nat → List Nat
  | [], _ => []
  | s :: S, i => if i = a then rj a b x S (i + 1) else (if i = b then s + x else s) :: rj a b x S (i + 1)
theorem rj_past (a b x : Nat) : ∀ (S : List Nat) i, a < i → b < i → rj a b x S i = S
  | [], i, ha, hb => rfl
  | s :: S, i, ha, hb => by rw [rj, if_neg (by omega), if_neg (by omega), rj_past a b x S (i + 1) (by omega) (by omega)]
theorem rj_b (a b x : Nat) : ∀ (S : List Nat) i, a < i → i ≤ b → rj a b x S i = S.set (b - i) (S.getD (b - i) 0 + x)
  | [], i, ha, hb => rfl
  | s :: S, i, ha, hb => by
    rw [rj, if_neg (by omega)]
    by_cases h : i = b
    · subst h
      rw [if_pos rfl, rj_past a i x S (i + 1) (by omega) (by omega)]
      simp
    · rw [if_neg h, rj_b a b x S (i + 1) (by omega) (by omega), show b - i = (b - (i + 1)) + 1 by omega]
      simp
theorem rj_a (a b x : Nat) : ∀ (S : List Nat) i, i ≤ a → b < i → rj a b x S i = S.eraseIdx (a - i)
  | [], i, ha, hb => by simp [rj]
  | s :: S, i, ha, hb => by
    rw [rj]
    by_cases h : i = a
    · subst h
      rw [if_pos rfl, rj_past i b x S (i + 1) (by omega) (by omega)]
      simp
    · rw [if_neg h, if_neg (by omega), rj_a a b x S (i + 1) (by omega) (by omega), show a - i = (a - (i + 1)) + 1 by omega]
      simp
theorem rj_all (a b x : Nat) (hab : a ≠ b) : ∀ (S : List Nat) i, i ≤ a → i ≤ b → rj a b x S i = (S.set (b - i) (S.getD (b - i) 0 + x)).eraseIdx (a - i)
  | [], i, ha, hb => by simp [rj]
  | s :: S, i, ha, hb => by
    rw [rj]
    by_cases h : i = a
    · subst h
      rw [if_pos rfl, rj_b i b x S (i + 1) (by omega) (by omega), show b - i = (b - (i + 1)) + 1 by omega]
      simp
    · rw [if_neg h]
      by_cases h2 : i = b
      · subst h2
        rw [if_pos rfl, rj_a a i x S (i + 1) (by omega) (by omega), show a - i = (a - (i + 1)) + 1 by omega]
        simp
      · rw [if_neg h2, rj_all a b x hab S (i + 1) (by omega) (by omega), show a - i = (a - (i + 1)) + 1 by omega, show b - i = (b - (i + 1)) + 1 by omega]
        simp
theorem rJoin_l0 {S : List Nat} (hg : Good S) (a b : Nat) (ha : a < S.length) (hb : b < S.length) (hab : a ≠ b) : ∀ (suf pre acc : List Nat), S = pre ++ suf → acc.length ≤ pre.length →
    Ev (fun k => mainsheetref08_Join.l0 k (a : Int) (b : Int) (up S) ((up S).length : Int) (pre.length : Int) (up S) (up acc)) (up (acc ++ rj a b (gt S (a : Int)) suf pre.length), 0)
  | [], pre, acc, h, hacc => ⟨1, fun k hk => by
    obtain ⟨k, rfl⟩ : ∃ k', k = k' + 1 := ⟨k - 1, by omega⟩
    show mainsheetref08_Join.l0 (k + 1) _ _ _ _ _ _ _ = _
    rw [mainsheetref08_Join.l0, if_neg (by rw [up_length, pre_end h]; omega)]
    simp [rj]⟩
  | s :: suf, pre, acc, h, hacc => by
    have hl4 := hg.len4
    have hlt := pre_lt h
    have hs := (hg.each s (pre_mem h)).2
    have hga := (hg.each _ (gt_mem (a := (a : Int)) (by omega) (by omega))).2
    by_cases hia : pre.length = a
    · obtain ⟨K, hK⟩ := rJoin_l0 hg a b ha hb hab suf (pre ++ [s]) acc (pre_next h) (by simp; omega)
      refine ⟨K + 1, fun k hk => ?_⟩
      obtain ⟨k, rfl⟩ : ∃ k', k = k' + 1 := ⟨k - 1, by omega⟩
      have hk' : mainsheetref08_Join.l0 k (a : Int) (b : Int) (up S) ((up S).length : Int) ((pre ++ [s]).length : Int) (up S) (up acc) = some (up (acc ++ rj a b (gt S (a : Int)) suf (pre ++ [s]).length), 0) := hK k (by omega)
      show mainsheetref08_Join.l0 (k + 1) _ _ _ _ _ _ _ = _
      rw [mainsheetref08_Join.l0, if_pos (by rw [up_length]; omega), if_pos (by omega), if_pos (by rw [up_length]; omega), if_neg (by omega), if_pos (by omega), pre_succ (x := s) (by omega), hk', rj, if_pos hia]
      simp
    · obtain ⟨K, hK⟩ := rJoin_l0 hg a b ha hb hab suf (pre ++ [s]) (acc ++ [if pre.length = b then s + gt S (a : Int) else s]) (pre_next h) (by simp; omega)
      refine ⟨K + 1, fun k hk => ?_⟩
      obtain ⟨k, rfl⟩ : ∃ k', k = k' + 1 := ⟨k - 1, by omega⟩
      have hk' : mainsheetref08_Join.l0 k (a : Int) (b : Int) (up S) ((up S).length : Int) ((pre ++ [s]).length : Int) (up S) (up (acc ++ [if pre.length = b then s + gt S (a : Int) else s])) = some (up ((acc ++ [if pre.length = b then s + gt S (a : Int) else s]) ++ rj a b (gt S (a : Int)) suf (pre ++ [s]).length), 0) := hK k (by omega)
      show mainsheetref08_Join.l0 (k + 1) _ _ _ _ _ _ _ = _
      rw [mainsheetref08_Join.l0, if_pos (by rw [up_length]; omega), if_pos (by omega), if_pos (by rw [up_length]; omega), at_pre h, rd_gt, up_length, pre_succ (x := s) (by omega)]
      by_cases hib : pre.length = b
      · rw [if_pos (by omega), if_pos (by omega), if_pos (by omega), if_neg (by omega), if_pos (by rw [up_length]; omega)]
        have e : (((s : Int) + (gt S (a : Int) : Int)) % 4294967296) = ((s + gt S (a : Int) : Nat) : Int) := by omega
        rw [e, up_one, ← up_append]
        rw [if_pos hib, up_length] at hk'
        rw [hk', rj, if_neg hia, if_pos hib]
        simp
      · rw [if_neg (by omega), if_neg (by omega), if_pos (by rw [up_length]; omega), up_one, ← up_append]
        rw [if_neg hib, up_length] at hk'
        rw [hk', rj, if_neg hia, if_neg hib]
        simp
theorem rJoin_n {S : List Nat} (hg : Good S) (a b : Int) : Ev (fun k => mainsheetref08_Join.f k (up S) a b) (up (joinv S a b).1, (joinv S a b).2) := by
  unfold joinv
  rw [if_pos (gd_true.2 hg)]
  have hbad : Ev (fun k => mainsheetref08_Join.j0 k a b true (up S)) ([], 4) := Ev.step (f := fun _ => some ([], 4)) (fun k => by rw [mainsheetref08_Join.j0, if_pos rfl]) (Ev.now _)
  unfold mainsheetref08_Join.f
  simp only [rPool_n, Option.bind_some, up_length]
  by_cases ha : 0 ≤ a ∧ a < (S.length : Int)
  · by_cases hb : 0 ≤ b ∧ b < (S.length : Int)
    · have h0 : (0 ≤ a ∧ a < (S.length : Int)) ∧ 0 ≤ b ∧ b < (S.length : Int) := ⟨ha, hb⟩
      simp only [if_pos h0, decide_eq_true ha, decide_eq_true hb, if_true, Bool.not_true]
      by_cases hab : a = b
      · simp only [if_pos hab]
        exact Ev.step (f := fun _ => some ([], 2)) (fun k => by rw [mainsheetref08_Join.j0, if_neg (by simp), if_pos hab]) (Ev.now _)
      · simp only [if_neg hab]
        obtain ⟨a, rfl⟩ := Int.eq_ofNat_of_zero_le ha.1
        obtain ⟨b, rfl⟩ := Int.eq_ofNat_of_zero_le hb.1
        refine Ev.step (f := fun k => mainsheetref08_Join.l0 k (a : Int) (b : Int) (up S) ((up S).length : Int) 0 (up S) ([] : List Int)) (fun k => by rw [mainsheetref08_Join.j0, if_neg (by simp), if_neg hab]) ?_
        have h := rJoin_l0 hg a b (by omega) (by omega) (by omega) S [] [] rfl (Nat.le_refl _)
        have e : rj a b (gt S (a : Int)) S 0 = (S.set b (gt S (b : Int) ||| gt S (a : Int))).eraseIdx a := by
          rw [rj_all a b _ (by omega) S 0 (Nat.zero_le _) (Nat.zero_le _)]
          simp only [Nat.sub_zero]
          have h1 := gt_at (S := S) (a := (a : Int)) (by omega) (by omega)
          have h2 := gt_at (S := S) (a := (b : Int)) (by omega) (by omega)
          simp only [Int.toNat_natCast] at h1 h2
          have h3 := hg.apart (i := b) (j := a) (by omega) (by omega) (by omega)
          rw [← h1, ← h2] at h3
          have h4 := (hg.each _ (gt_mem (a := (a : Int)) (by omega) (by omega))).2
          have h5 := (hg.each _ (gt_mem (a := (b : Int)) (by omega) (by omega))).2
          rw [← add_or (by omega) (by omega) h3]
          rfl
        simp only [List.nil_append, List.length_nil, e] at h
        exact h
    · have h0 : ¬((0 ≤ a ∧ a < (S.length : Int)) ∧ 0 ≤ b ∧ b < (S.length : Int)) := fun h => hb h.2
      simp only [if_neg h0, decide_eq_true ha, decide_eq_false hb, if_true, Bool.not_false]
      exact hbad
  · have h0 : ¬((0 ≤ a ∧ a < (S.length : Int)) ∧ 0 ≤ b ∧ b < (S.length : Int)) := fun h => ha h.1
    simp only [if_neg h0, decide_eq_false ha]
    exact hbad
end Go.Proofs.Ytkhbffjfclepfaa.Pure

/- Move, and an op run and wanted: the program's and the reference's answers are one. -/
namespace Go.Proofs.Ytkhbffjfclepfaa.Pure
open Go.RowKit Go.Proofs.Ytkhbffjfclepfaa.Q Go.Proofs.YtkhbffjfclepfaaW.PrintWords Go.Proofs.YtkhbffjfclepfaaW.PrintLast Go.Proofs.YtkhbffjfclepfaaW.PrintMore
set_option linter.unusedVariables false
set_option linter.unusedSimpArgs false
theorem shl_pow (c : Nat) (h : c < 8) : shl .u32 1 (c : Int) = ((2 ^ c : Nat) : Int) := by
  have : c = 0 ∨ c = 1 ∨ c = 2 ∨ c = 3 ∨ c = 4 ∨ c = 5 ∨ c = 6 ∨ c = 7 := by omega
  rcases this with rfl | rfl | rfl | rfl | rfl | rfl | rfl | rfl <;> decide +kernel
theorem fst_some {a : Int} {S : List Nat} {j : Nat} (h : fst_ a S = some j) : ∃ c : Nat, c < 8 ∧ a = (c : Int) ∧ j < S.length ∧ (gt S (j : Int)).testBit c = true := by
  unfold fst_ at h
  rw [List.findIdx?_eq_some_iff_getElem] at h
  obtain ⟨hj, h1, _⟩ := h
  by_cases ha : 0 ≤ a ∧ a < 8
  · obtain ⟨c, hc, rfl⟩ := eight ha.1 ha.2
    rw [hb_in _ c hc] at h1
    refine ⟨c, hc, rfl, hj, ?_⟩
    rw [gt_at (by omega) (by omega)]
    simpa using h1
  · rw [hb_out _ a (by omega)] at h1
    cases h1
theorem gt_set (S : List Nat) (j v : Nat) (a : Int) (h : a.toNat ≠ j) : gt (S.set j v) a = gt S a := by
  unfold gt
  rw [List.getD_eq_getElem?_getD, List.getD_eq_getElem?_getD, List.getElem?_set_ne (by omega)]
noncomputable def movv (S : List Nat) (cpu tt : Int) : List Nat × Int × Int :=
  if gd S = true then if 0 ≤ tt ∧ tt < (S.length : Int) then match fst_ cpu S with
    | none => ([], 0, 2)
    | some j => if (j : Int) = tt then ([], 0, 5) else if pc (gt S (j : Int)) = 1 then ([], 0, 181) else ((S.set j (nd (gt S (j : Int)) (2 ^ cpu.toNat))).set tt.toNat (gt S tt ||| 2 ^ cpu.toNat), (j : Int), 0)
    else ([], 0, 4) else ([], 0, 180)
theorem Move_n {S : List Nat} (hS : Fit S) (cpu tt : Int) : Ev (fun k => pool_Move.f k (up S) cpu tt) (up (movv S cpu tt).1, (movv S cpu tt).2.1, (movv S cpu tt).2.2) := by
  have hl := hS.len
  refine Ev.congr (f := fun k => (pool_Check.f k (up S)).bind fun e => if e ≠ 0 then some ([], 0, e) else (pool_pool.f (up S) [tt]).bind fun ok => if ok = false then some ([], 0, 4) else (moveDo k (up S) cpu tt).bind fun x => some (if x.1 = 0 then x.2.1 else [], x.2.2, x.1)) (fun k => by unfold pool_Move.f; rw [if_pos (by rw [up_length]; omega)]) ?_
  refine Ev.bind (Check_n hS) ?_
  unfold movv
  by_cases hg : gd S = true
  · simp only [if_pos hg]
    simp only [if_neg (show ¬((0 : Int) ≠ 0) by simp), pool_one, Option.bind_some, up_length]
    by_cases h0 : 0 ≤ tt ∧ tt < (S.length : Int)
    · simp only [if_pos h0]
      simp only [decide_eq_true h0, Bool.true_eq_false, if_false]
      have hgg := gd_true.1 hg
      have hof := Of_n cpu hS
      unfold ofv at hof
      rw [if_pos hg] at hof
      cases hf : fst_ cpu S with
      | none =>
        rw [hf] at hof
        refine Ev.bind (a := (2, [], 0)) ?_ (by simp only []; rw [if_neg (show ¬((2 : Int) = 0) by decide)]; exact Ev.now _)
        unfold moveDo
        exact Ev.bind hof (by simp only [if_true]; exact Ev.now _)
      | some j =>
        rw [hf] at hof
        obtain ⟨c, hc, rfl, hj, hbit⟩ := fst_some hf
        have hgj := (hgg.each _ (gt_mem (a := (j : Int)) (by omega) (by omega))).2
        have hgt := (hgg.each _ (gt_mem (a := tt) h0.1 h0.2)).2
        simp only []
        by_cases hjt : (j : Int) = tt
        · simp only [if_pos hjt]
          refine Ev.bind (a := (5, [], 0)) ?_ (by simp only []; rw [if_neg (show ¬((5 : Int) = 0) by decide)]; exact Ev.now _)
          unfold moveDo
          exact Ev.bind hof (by simp only []; rw [if_neg (by simp), if_pos hjt]; exact Ev.now _)
        simp only [if_neg hjt]
        have hcond : 0 ≤ (j : Int) ∧ (j : Int) < ((up S).length : Int) ∧ 0 ≤ (c : Int) ∧ (c : Int) < 8 := by rw [up_length]; omega
        by_cases hp : pc (gt S (j : Int)) = 1
        · simp only [if_pos hp]
          refine Ev.bind (a := (181, [], 0)) ?_ (by simp only []; rw [if_neg (show ¬((181 : Int) = 0) by decide)]; exact Ev.now _)
          unfold moveDo
          exact Ev.bind hof (by simp only []; rw [if_neg (by simp), if_neg hjt, if_pos hcond, rd_gt, Count_n _ hgj, Option.bind_some, if_pos (by omega)]; exact Ev.now _)
        simp only [if_neg hp]
        refine Ev.bind (a := (0, up ((S.set j (nd (gt S (j : Int)) (2 ^ c))).set tt.toNat (gt S tt ||| 2 ^ c)), (j : Int))) ?_ (by simp only [if_true]; exact Ev.now _)
        unfold moveDo
        refine Ev.bind hof ?_
        simp only []
        rw [if_neg (by simp), if_neg hjt, if_pos hcond, rd_gt, Count_n _ hgj, Option.bind_some, if_neg (by omega), shl_pow c hc, nd_n, rd_gt, or_n (by omega) (pow_lt c hc), up_set, up_set]
        exact Ev.now _
    · simp only [if_neg h0]
      simp only [decide_eq_false h0, if_true]
      exact Ev.now _
  · simp only [if_neg hg]
    simp only [if_pos (show (180 : Int) ≠ 0 by decide)]
    exact Ev.now _
theorem rMove_n {S : List Nat} (hg : Good S) (cpu tt : Int) : Ev (fun k => mainsheetref08_Move.f k (up S) cpu tt) (up (movv S cpu tt).1, (movv S cpu tt).2.1, (movv S cpu tt).2.2) := by
  have hl := hg.len4
  have hof := rOf_good cpu hg
  unfold movv
  unfold ofv at hof
  rw [if_pos (gd_true.2 hg)] at hof ⊢
  refine Ev.bind hof ?_
  simp only [rPool_n, Option.bind_some, up_length]
  by_cases h0 : 0 ≤ tt ∧ tt < (S.length : Int)
  · simp only [if_pos h0, decide_eq_true h0, if_true]
    cases hf : fst_ cpu S with
    | none =>
      simp only [Bool.false_eq_true, if_false]
      exact Ev.now _
    | some j =>
      obtain ⟨c, hc, rfl, hj, hbit⟩ := fst_some hf
      have hgj := (hg.each _ (gt_mem (a := (j : Int)) (by omega) (by omega))).2
      have hgt := (hg.each _ (gt_mem (a := tt) h0.1 h0.2)).2
      simp only [if_true]
      by_cases hjt : (j : Int) = tt
      · simp only [if_pos hjt]
        exact Ev.now _
      simp only [if_neg hjt]
      simp only [if_pos (show (0 : Int) ≤ (j : Int) by omega), if_pos (show (j : Int) < (S.length : Int) by omega), rd_gt]
      refine Ev.bind (rList_n _) ?_
      simp only [up_length, lst_length]
      by_cases hp : pc (gt S (j : Int)) = 1
      · simp only [if_pos hp]
        rw [if_pos (show ((pc (gt S (j : Int)) : Nat) : Int) = 1 by omega)]
        exact Ev.now _
      simp only [if_neg hp]
      rw [if_neg (show ¬((pc (gt S (j : Int)) : Nat) : Int) = 1 by omega), Copy_any _ (by rw [up_length]; omega), Option.bind_some, up_length, if_pos (show (j : Int) < (S.length : Int) by omega), if_pos (show (0 : Int) ≤ (c : Int) by omega), shl_pow c hc, rd_gt]
      have hsub : ∀ i, (2 ^ c).testBit i = true → (gt S (j : Int)).testBit i = true := fun i hi => by
        rw [Nat.testBit_two_pow] at hi
        have := of_decide_eq_true hi
        subst this
        exact hbit
      have hpw : (2 : Nat) ^ c < 256 := Nat.lt_of_lt_of_le (Nat.pow_lt_pow_right (by decide) hc) (by decide)
      have hn := sub_nd (a := gt S (j : Int)) (b := 2 ^ c) (by omega) hsub
      have e : ((gt S (j : Int) : Int) - ((2 ^ c : Nat) : Int)) % 4294967296 = (nd (gt S (j : Int)) (2 ^ c) : Int) := by
        generalize 2 ^ c = p at hn hpw ⊢
        omega
      simp only [Int.toNat_natCast]
      rw [e, up_set]
      simp only [Option.bind_some, if_pos h0.1, if_pos h0.2]
      rw [rd_gt, gt_set _ _ _ _ (by omega)]
      have hdis : gt S tt &&& 2 ^ c = 0 := by
        rw [and_pow]
        cases hx : (gt S tt).testBit c
        · rfl
        · have h1 := gt_at (S := S) (a := (j : Int)) (by omega) (by omega)
          have h2 := gt_at (S := S) h0.1 h0.2
          simp only [Int.toNat_natCast] at h1
          rw [h1] at hbit
          rw [h2] at hx
          have h3 := hg.count1 (c : Int)
          rw [count_hb S c hc] at h3
          have := uniq (p := (·.testBit c)) S j tt.toNat hj (by omega) h3 hbit hx
          omega
      have ho := add_or (a := gt S tt) (b := 2 ^ c) (by omega) (by omega) hdis
      have e2 : ((gt S tt : Int) + ((2 ^ c : Nat) : Int)) % 4294967296 = ((gt S tt ||| 2 ^ c : Nat) : Int) := by
        rw [← ho]
        generalize 2 ^ c = p at hpw ⊢
        omega
      rw [e2, up_set]
      exact Ev.now _
  · simp only [if_neg h0, decide_eq_false h0]
    exact Ev.now _
/-! ### an op -/
noncomputable def runv (S : List Nat) (u a b cpu : Int) (s : Nat) : List Nat × Int × Int :=
  if u = 0 ∨ u = 1 then splv S a s else if u = 2 then ((joinv S a b).1, 0, (joinv S a b).2) else movv S cpu b
theorem run_n {S : List Nat} (hS : Fit S) (kind a b cpu : Int) (s : Nat) (hs : s < 2 ^ 32) :
    Ev (fun k => mainsheetlaw08_Op_run.f k kind a b cpu (s : Int) (up S)) (up (runv S (Int.tmod (IntKind.u64.wrap kind) 6) a b cpu s).1, (runv S (Int.tmod (IntKind.u64.wrap kind) 6) a b cpu s).2.1, (runv S (Int.tmod (IntKind.u64.wrap kind) 6) a b cpu s).2.2) := by
  unfold mainsheetlaw08_Op_run.f
  generalize Int.tmod (IntKind.u64.wrap kind) 6 = u
  have key : ∀ ok : Bool, ok = decide (u = 0 ∨ u = 1) → Ev (fun k => mainsheetlaw08_Op_run.j0 k 0 u ok kind a b cpu (s : Int) (up S)) (up (runv S u a b cpu s).1, (runv S u a b cpu s).2.1, (runv S u a b cpu s).2.2) := fun ok hok => by
    refine Ev.step (f := fun k => if ok = true then ((pool_Split.f k (up S) a (s : Int)).bind fun bt159 => (some (bt159.1, bt159.2.1, bt159.2.2))) else (if u = 2 then ((pool_Join.f k (up S) a b).bind fun bt164 => (some (bt164.1, 0, bt164.2))) else ((pool_Move.f k (up S) cpu b).bind fun bt168 => (some (bt168.1, bt168.2.1, bt168.2.2))))) (fun k => by rw [mainsheetlaw08_Op_run.j0]) ?_
    unfold runv
    by_cases hu : u = 0 ∨ u = 1
    · rw [decide_eq_true hu] at hok
      simp only [hok, if_true, if_pos hu]
      exact Ev.bind (Split_n hS a s hs) (Ev.now _)
    · rw [decide_eq_false hu] at hok
      simp only [hok, if_neg hu]
      simp only [Bool.false_eq_true, if_false]
      by_cases h2 : u = 2
      · simp only [if_pos h2]
        exact Ev.bind (Join_n hS a b) (Ev.now _)
      · simp only [if_neg h2]
        exact Ev.bind (Move_n hS cpu b) (Ev.now _)
  by_cases h0 : u = 0
  · simp only [if_pos h0]
    exact key _ (by rw [h0]; rfl)
  · simp only [if_neg h0]
    exact key _ (by by_cases h1 : u = 1 <;> simp [h0, h1])
theorem wants_n {S : List Nat} (hS : Fit S) (kind a b cpu : Int) (s : Nat) (hs : s < 2 ^ 32) :
    Ev (fun k => mainsheetlaw08_Op_wants.f k kind a b cpu (s : Int) (up S)) (up (runv S (Int.tmod (IntKind.u64.wrap kind) 6) a b cpu s).1, (runv S (Int.tmod (IntKind.u64.wrap kind) 6) a b cpu s).2.1, (runv S (Int.tmod (IntKind.u64.wrap kind) 6) a b cpu s).2.2) := by
  unfold mainsheetlaw08_Op_wants.f
  generalize Int.tmod (IntKind.u64.wrap kind) 6 = u
  refine Ev.bind (Right_n hS) ?_
  by_cases hgd : gd S = true
  · have hg := gd_true.1 hgd
    simp only [if_pos hgd]
    have key : ∀ ok : Bool, ok = decide (u = 0 ∨ u = 1) → Ev (fun k => mainsheetlaw08_Op_wants.j0 k 0 u ok kind a b cpu (s : Int) (up S)) (up (runv S u a b cpu s).1, (runv S u a b cpu s).2.1, (runv S u a b cpu s).2.2) := fun ok hok => by
      refine Ev.step (f := fun k => if ok = true then ((mainsheetref08_Split.f k (up S) a (s : Int)).bind fun bt159 => (some (bt159.1, bt159.2.1, bt159.2.2))) else (if u = 2 then ((mainsheetref08_Join.f k (up S) a b).bind fun bt164 => (some (bt164.1, 0, bt164.2))) else ((mainsheetref08_Move.f k (up S) cpu b).bind fun bt168 => (some (bt168.1, bt168.2.1, bt168.2.2))))) (fun k => by rw [mainsheetlaw08_Op_wants.j0]) ?_
      unfold runv
      by_cases hu : u = 0 ∨ u = 1
      · rw [decide_eq_true hu] at hok
        simp only [hok, if_true, if_pos hu]
        exact Ev.bind (rSplit_n hg a s hs) (Ev.now _)
      · rw [decide_eq_false hu] at hok
        simp only [hok, if_neg hu]
        simp only [Bool.false_eq_true, if_false]
        by_cases h2 : u = 2
        · simp only [if_pos h2]
          exact Ev.bind (rJoin_n hg a b) (Ev.now _)
        · simp only [if_neg h2]
          exact Ev.bind (rMove_n hg cpu b) (Ev.now _)
    by_cases h0 : u = 0
    · simp only [if_pos h0]
      exact key _ (by rw [h0]; rfl)
    · simp only [if_neg h0]
      exact key _ (by by_cases h1 : u = 1 <;> simp [h0, h1])
  · have e : runv S u a b cpu s = ([], 0, 180) := by
      unfold runv splv joinv movv
      simp only [if_neg hgd]
      split
      · rfl
      · split <;> rfl
    rw [e]
    simp only [if_neg hgd]
    exact Ev.now _
end Go.Proofs.Ytkhbffjfclepfaa.Pure

/- Words for the plain laws of pools: the same pools, what comes of an op fits, the layer wakes, pools that can be played in time. -/
namespace Go.Proofs.Ytkhbffjfclepfaa.Pure
open Go.RowKit Go.Proofs.Ytkhbffjfclepfaa.Q Go.Proofs.YtkhbffjfclepfaaW.PrintWords Go.Proofs.YtkhbffjfclepfaaW.PrintLast Go.Proofs.YtkhbffjfclepfaaW.PrintMore
set_option linter.unusedVariables false
set_option linter.unusedSimpArgs false
theorem rSame_l0 (A B : List Int) (hA : A.length ≤ 1000) : ∀ (suf suf' pre pre' : List Int), A = pre ++ suf → B = pre' ++ suf' → pre.length = pre'.length → suf.length = suf'.length → Ev (fun k => mainsheetref08_Same.l0 k (A.length : Int) (pre.length : Int) A B) (decide (suf = suf'))
  | [], [], pre, pre', h1, h2, h3, h4 => ⟨1, fun k hk => by
    obtain ⟨k, rfl⟩ : ∃ k', k = k' + 1 := ⟨k - 1, by omega⟩
    show mainsheetref08_Same.l0 (k + 1) _ _ _ _ = _
    rw [mainsheetref08_Same.l0, if_neg (by subst h1; simp)]
    rfl⟩
  | [], y :: suf', pre, pre', h1, h2, h3, h4 => by simp at h4
  | x :: suf, [], pre, pre', h1, h2, h3, h4 => by simp at h4
  | x :: suf, y :: suf', pre, pre', h1, h2, h3, h4 => by
    obtain ⟨K, hK⟩ := rSame_l0 A B hA suf suf' (pre ++ [x]) (pre' ++ [y]) (by simp [h1]) (by simp [h2]) (by simp [h3]) (by simpa using h4)
    refine ⟨K + 1, fun k hk => ?_⟩
    obtain ⟨k, rfl⟩ : ∃ k', k = k' + 1 := ⟨k - 1, by omega⟩
    have hk' : mainsheetref08_Same.l0 k (A.length : Int) ((pre ++ [x]).length : Int) A B = some (decide (suf = suf')) := hK k (by omega)
    have hltA : pre.length < A.length := by subst h1; simp
    have hltB : pre.length < B.length := by subst h2; rw [h3]; simp
    have hx : rd A (pre.length : Int) = x := by subst h1; simp [rd]
    have hy : rd B (pre.length : Int) = y := by subst h2; rw [h3]; simp [rd]
    show mainsheetref08_Same.l0 (k + 1) _ _ _ _ = _
    rw [mainsheetref08_Same.l0, if_pos (by omega), if_pos (by omega), if_pos (by omega), if_pos (by omega), hx, hy, w64_next pre.length (by omega), show pre.length + 1 = (pre ++ [x]).length by simp, hk']
    by_cases hxy : x = y
    · rw [if_pos hxy]; simp [hxy]
    · rw [if_neg hxy]; simp [hxy]
theorem rSame_any (A B : List Int) (hA : A.length ≤ 1000) : Ev (fun k => mainsheetref08_Same.f k A B) (decide (A = B)) := by
  unfold mainsheetref08_Same.f
  by_cases h : A.length = B.length
  · simp only [if_pos (show (A.length : Int) = (B.length : Int) by omega)]
    exact rSame_l0 A B hA A B [] [] rfl rfl rfl h
  · simp only [if_neg (show ¬(A.length : Int) = (B.length : Int) by omega)]
    rw [decide_eq_false (by rintro rfl; exact h rfl)]
    exact Ev.now _
theorem rSame_self (A : List Int) (hA : A.length ≤ 1000) : Ev (fun k => mainsheetref08_Same.f k A A) true := by
  have := rSame_any A A hA
  rwa [decide_eq_true rfl] at this
theorem set_lt {S : List Nat} {N i x : Nat} (h : ∀ s ∈ S, s < N) (hx : x < N) : ∀ s ∈ S.set i x, s < N := fun s hs => by
  rcases List.mem_or_eq_of_mem_set hs with h' | rfl
  · exact h s h'
  · exact hx
def Ok (Q : List Nat) : Prop := (∀ x ∈ Q, x < 2 ^ 32) ∧ Q.length ≤ 12
theorem Ok.nil : Ok [] := ⟨by simp, by simp⟩
theorem splv_ok {S : List Nat} (hS : Fit S) (a : Int) (s : Nat) (hs : s < 2 ^ 32) : Ok (splv S a s).1 := by
  unfold splv
  by_cases hg : gd S = true
  · have g := gd_true.1 hg
    rw [if_pos hg]
    repeat' split
    all_goals first | exact Ok.nil | skip
    refine ⟨fun x hx => ?_, ?_⟩
    · rcases List.mem_append.1 hx with hx | hx
      · exact set_lt hS.lt (nd_lt _ _) x hx
      · simp at hx; omega
    · simp; have := g.len4; omega
  · rw [if_neg hg]; exact Ok.nil
theorem joinv_ok {S : List Nat} (hS : Fit S) (a b : Int) : Ok (joinv S a b).1 := by
  unfold joinv
  by_cases hg : gd S = true
  · have g := gd_true.1 hg
    rw [if_pos hg]
    by_cases h0 : (0 ≤ a ∧ a < (S.length : Int)) ∧ 0 ≤ b ∧ b < (S.length : Int)
    · rw [if_pos h0]
      by_cases hab : a = b
      · rw [if_pos hab]; exact Ok.nil
      · rw [if_neg hab]
        refine ⟨fun x hx => ?_, ?_⟩
        · exact set_lt hS.lt (Nat.or_lt_two_pow (hS.lt _ (gt_mem h0.2.1 h0.2.2)) (hS.lt _ (gt_mem h0.1.1 h0.1.2))) x (List.mem_of_mem_eraseIdx hx)
        · have h1 := List.length_eraseIdx_le (S.set b.toNat (gt S b ||| gt S a)) a.toNat
          have := g.len4
          simp at h1 ⊢
          omega
    · rw [if_neg h0]; exact Ok.nil
  · rw [if_neg hg]; exact Ok.nil
theorem movv_ok {S : List Nat} (hS : Fit S) (cpu b : Int) : Ok (movv S cpu b).1 := by
  unfold movv
  by_cases hg : gd S = true
  · have g := gd_true.1 hg
    rw [if_pos hg]
    by_cases h0 : 0 ≤ b ∧ b < (S.length : Int)
    · rw [if_pos h0]
      cases hf : fst_ cpu S with
      | none => exact Ok.nil
      | some j =>
        obtain ⟨c, hc, rfl, hj, _⟩ := fst_some hf
        simp only []
        repeat' split
        all_goals first | exact Ok.nil | skip
        refine ⟨fun x hx => ?_, ?_⟩
        · exact set_lt (set_lt hS.lt (nd_lt _ _)) (Nat.or_lt_two_pow (hS.lt _ (gt_mem h0.1 h0.2)) (by rw [Int.toNat_natCast]; exact pow_lt c hc)) x hx
        · simp; have := g.len4; omega
    · rw [if_neg h0]; exact Ok.nil
  · rw [if_neg hg]; exact Ok.nil
theorem runv_fit {S : List Nat} (hS : Fit S) (u a b cpu : Int) (s : Nat) (hs : s < 2 ^ 32) : (∀ x ∈ (runv S u a b cpu s).1, x < 2 ^ 32) ∧ (runv S u a b cpu s).1.length ≤ 12 := by
  unfold runv
  by_cases hu : u = 0 ∨ u = 1
  · rw [if_pos hu]; exact splv_ok hS a s hs
  · rw [if_neg hu]
    by_cases h2 : u = 2
    · rw [if_pos h2]; exact joinv_ok hS a b
    · rw [if_neg h2]; exact movv_ok hS cpu b
theorem runv_fit' {S : List Nat} (hS : Fit S) (u a b cpu : Int) (s : Nat) (hs : s < 2 ^ 32) : Fit (runv S u a b cpu s).1 := ⟨(runv_fit hS u a b cpu s hs).1, by have := (runv_fit hS u a b cpu s hs).2; omega⟩
theorem wakes_ev : Ev (fun k => mainsheetlaw08_wakes.f k) true := Ev.of mainsheetlaw08_wakes.mono (k := 100) (by kernel_rfl)
theorem take12 (l : List Int) (h : l.length ≤ maxLen ∧ ∀ x ∈ l, (Lit.int .u32 x).wf = true) : ∃ S, l.take 12 = up S ∧ Fit S ∧ S.length ≤ 12 := by
  obtain ⟨S, hS, hlt⟩ := up_of (l.take 12) (fun x hx => by
    have := bounds_u32 (h.2 x (List.mem_of_mem_take hx))
    omega)
  have hlen : S.length ≤ 12 := by
    have := congrArg List.length hS
    rw [up_length, List.length_take] at this
    omega
  exact ⟨S, hS, ⟨hlt, by omega⟩, hlen⟩
end Go.Proofs.Ytkhbffjfclepfaa.Pure

/- PoolDoes, the plain law: whatever pools and ops, the printed function answers true. No condition but that the arguments fit their types. -/
namespace Go.Proofs.Ytkhbffjfclepfaa.Pure
open Go.RowKit Go.Proofs.Ytkhbffjfclepfaa.Q Go.Proofs.YtkhbffjfclepfaaW.PrintWords Go.Proofs.YtkhbffjfclepfaaW.PrintLast Go.Proofs.YtkhbffjfclepfaaW.PrintMore
set_option linter.unusedVariables false
set_option linter.unusedSimpArgs false
theorem Does_l1 (e : Int) (ops : List S36) (len idx : Int) (n : Nat) (hn : n ≤ 1000) (P R : List Int) (hP : P.length ≤ 1000)
    (hnext : Ev (fun k => if e = 0 then mainsheetlaw08_PoolDoes.l0 k ops len (wrap64 (idx + 1)) R else mainsheetlaw08_PoolDoes.l0 k ops len (wrap64 (idx + 1)) P) true) :
    ∀ m i (T : List Int), i + m = n → T.length = n → Ev (fun k => mainsheetlaw08_PoolDoes.l1 k e ops len idx (n : Int) (i : Int) P P T R) true
  | 0, i, T, h, hT => by
    obtain ⟨K, hK⟩ := hnext
    obtain ⟨K2, hK2⟩ := rSame_self P hP
    refine ⟨K + K2 + 1, fun k hk => ?_⟩
    obtain ⟨k, rfl⟩ : ∃ k', k = k' + 1 := ⟨k - 1, by omega⟩
    have h2 : mainsheetref08_Same.f k P P = some true := hK2 k (by omega)
    have h1 : (if e = 0 then mainsheetlaw08_PoolDoes.l0 k ops len (wrap64 (idx + 1)) R else mainsheetlaw08_PoolDoes.l0 k ops len (wrap64 (idx + 1)) P) = some true := hK k (by omega)
    show mainsheetlaw08_PoolDoes.l1 (k + 1) _ _ _ _ _ _ _ _ _ _ = _
    rw [mainsheetlaw08_PoolDoes.l1, if_neg (by omega), h2, Option.bind_some, if_pos rfl, h1]
  | m + 1, i, T, h, hT => by
    obtain ⟨K, hK⟩ := Does_l1 e ops len idx n hn P R hP hnext m (i + 1) (T.set i 99) (by omega) (by simpa using hT)
    refine ⟨K + 1, fun k hk => ?_⟩
    obtain ⟨k, rfl⟩ : ∃ k', k = k' + 1 := ⟨k - 1, by omega⟩
    have hk' : mainsheetlaw08_PoolDoes.l1 k e ops len idx (n : Int) ((i + 1 : Nat) : Int) P P (T.set i 99) R = some true := hK k (by omega)
    show mainsheetlaw08_PoolDoes.l1 (k + 1) _ _ _ _ _ _ _ _ _ _ = _
    rw [mainsheetlaw08_PoolDoes.l1, if_pos (by omega), if_pos (by omega), if_pos (by omega), w64_next i (by omega), Int.toNat_natCast, hk']
theorem Does_l0 (ops : List S36) (hl : ops.length ≤ 9223372036854775807) (hw : ∀ x ∈ ops, wf36 x) : ∀ (suf pre : List S36) (S : List Nat), ops = pre ++ suf → Fit S → S.length ≤ 12 → Ev (fun k => mainsheetlaw08_PoolDoes.l0 k ops (ops.length : Int) (pre.length : Int) (up S)) true
  | [], pre, S, h, hS, h12 => ⟨1, fun k hk => by
    obtain ⟨k, rfl⟩ : ∃ k', k = k' + 1 := ⟨k - 1, by omega⟩
    show mainsheetlaw08_PoolDoes.l0 (k + 1) _ _ _ _ = _
    rw [mainsheetlaw08_PoolDoes.l0, if_neg (by subst h; simp)]⟩
  | x :: suf, pre, S, h, hS, h12 => by
    have hlt : pre.length < ops.length := by subst h; simp
    have hx : rd_T36 ops (pre.length : Int) = x := by subst h; simp [rd_T36]
    have hwx : wf36 x := hw x (by subst h; simp)
    obtain ⟨_, _, _, _, h4⟩ := hwx
    have hb := bounds_u32 h4
    obtain ⟨s, hs⟩ := Int.eq_ofNat_of_zero_le hb.1
    have hs32 : s < 2 ^ 32 := by omega
    have hn : wrap64 ((pre.length : Int) + 1) = ((pre ++ [x]).length : Int) := by rw [w64_next pre.length (by omega)]; simp
    have hfit := runv_fit hS (Int.tmod (IntKind.u64.wrap x.f0) 6) x.f1 x.f2 x.f3 s hs32
    have hrun := run_n hS x.f0 x.f1 x.f2 x.f3 s hs32
    have hwant := wants_n hS x.f0 x.f1 x.f2 x.f3 s hs32
    generalize runv S (Int.tmod (IntKind.u64.wrap x.f0) 6) x.f1 x.f2 x.f3 s = v at hfit hrun hwant
    obtain ⟨Q, n, e⟩ := v
    simp only at hfit hrun hwant
    have ihQ := Does_l0 ops hl hw suf (pre ++ [x]) Q (by simp [h]) ⟨hfit.1, by omega⟩ hfit.2
    have ihS := Does_l0 ops hl hw suf (pre ++ [x]) S (by simp [h]) hS h12
    have hnext : Ev (fun k => if e = 0 then mainsheetlaw08_PoolDoes.l0 k ops (ops.length : Int) (wrap64 ((pre.length : Int) + 1)) (up Q) else mainsheetlaw08_PoolDoes.l0 k ops (ops.length : Int) (wrap64 ((pre.length : Int) + 1)) (up S)) true := by
      rw [hn]
      by_cases he : e = 0
      · simp only [if_pos he]; exact ihQ
      · simp only [if_neg he]; exact ihS
    have hl1 := Does_l1 e ops (ops.length : Int) (pre.length : Int) Q.length (by omega) (up S) (up Q) (by rw [up_length]; omega) hnext Q.length 0 (up Q) (by omega) (by rw [up_length])
    have ht : (up S).take 12 = up S := List.take_of_length_le (by rw [up_length]; exact h12)
    refine Ev.step (f := fun k => if (pre.length : Int) = 30 then some true else ((mainsheetlaw08_Op_run.f k x.f0 x.f1 x.f2 x.f3 (s : Int) (up S)).bind fun bt273 => ((mainsheetlaw08_Op_wants.f k x.f0 x.f1 x.f2 x.f3 (s : Int) (up S)).bind fun bt282 => (if bt273.2.2 = bt282.2.2 then (if bt273.2.1 = bt282.2.1 then ((mainsheetref08_Same.f k bt273.1 bt282.1).bind fun t288 => (if t288 = true then ((mainsheetref08_Same.f k (up S) (up S)).bind fun t289 => (mainsheetlaw08_PoolDoes.j1 k bt273.2.2 ops (ops.length : Int) (pre.length : Int) (!t289) (up S) (up S) bt273.1 bt282.1)) else (mainsheetlaw08_PoolDoes.j1 k bt273.2.2 ops (ops.length : Int) (pre.length : Int) true (up S) (up S) bt273.1 bt282.1))) else (mainsheetlaw08_PoolDoes.j1 k bt273.2.2 ops (ops.length : Int) (pre.length : Int) true (up S) (up S) bt273.1 bt282.1)) else (mainsheetlaw08_PoolDoes.j1 k bt273.2.2 ops (ops.length : Int) (pre.length : Int) true (up S) (up S) bt273.1 bt282.1))))) (fun k => ?_) ?_
    · rw [mainsheetlaw08_PoolDoes.l0, if_pos (by omega), if_pos (by omega), if_pos (by omega), hx, short_any, Option.bind_some, ht, hs]
      simp only [short_any, Option.bind_some, ht]
    by_cases h30 : (pre.length : Int) = 30
    · simp only [if_pos h30]; exact Ev.now _
    simp only [if_neg h30]
    refine Ev.bind hrun (Ev.bind hwant ?_)
    simp only [if_true]
    refine Ev.bind (rSame_self (up Q) (by rw [up_length]; omega)) ?_
    simp only [if_true]
    refine Ev.bind (rSame_self (up S) (by rw [up_length]; omega)) ?_
    simp only [Bool.not_true]
    refine Ev.step (f := fun k => mainsheetlaw08_PoolDoes.l1 k e ops (ops.length : Int) (pre.length : Int) ((up Q).length : Int) 0 (up S) (up S) (up Q) (up Q)) (fun k => ?_) ?_
    · rw [mainsheetlaw08_PoolDoes.j1, if_neg (by simp), Copy_any _ (by rw [up_length]; omega), Option.bind_some]
    · rw [up_length]
      exact hl1
theorem PoolDoes (l : List Int) (l1 : List S36) (h0 : l.length ≤ maxLen ∧ ∀ x ∈ l, (Lit.int .u32 x).wf = true) (h1 : l1.length ≤ maxLen ∧ ∀ x ∈ l1, wf36 x) : ∃ k, mainsheetlaw08_PoolDoes.f k l l1 = some true := by
  refine Ev.rounds (g := fun k => mainsheetlaw08_PoolDoes.f k l l1) (Ev.bind wakes_ev ?_)
  simp only [if_true, short_any, Option.bind_some]
  obtain ⟨S, hS, hfit, h12⟩ := take12 l h0
  rw [hS]
  have hl : l1.length ≤ 9223372036854775807 := h1.1
  exact Does_l0 l1 hl h1.2 l1 [] S rfl hfit h12
end Go.Proofs.Ytkhbffjfclepfaa.Pure
