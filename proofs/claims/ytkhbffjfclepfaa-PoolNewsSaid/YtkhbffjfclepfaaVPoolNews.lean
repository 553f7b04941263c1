/- PoolNews, the plain law: whatever the row of numbers, the printed function answers true. No condition but that the row fits its type. -/
import Derived.Test.YtkhbffjfclepfaaQf3
namespace Go.Proofs.Ytkhbffjfclepfaa.Pure
open Go.RowKit Go.Proofs.Ytkhbffjfclepfaa.Q Go.Proofs.YtkhbffjfclepfaaW.PrintWords Go.Proofs.YtkhbffjfclepfaaW.PrintLast Go.Proofs.YtkhbffjfclepfaaW.PrintMore
set_option linter.unusedVariables false
set_option linter.unusedSimpArgs false
theorem w64_next (n : Nat) (h : n < 9223372036854775807) : wrap64 ((n : Int) + 1) = ((n + 1 : Nat) : Int) := by unfold wrap64; omega
theorem New_in (n : Int) (h1 : 1 ≤ n) (h8 : n ≤ 8) : pool_New.f n = some ([((shl .u32 1 n) - 1) % 4294967296], 0) := by
  have : n = 1 ∨ n = 2 ∨ n = 3 ∨ n = 4 ∨ n = 5 ∨ n = 6 ∨ n = 7 ∨ n = 8 := by omega
  rcases this with rfl | rfl | rfl | rfl | rfl | rfl | rfl | rfl <;> decide +kernel
theorem New_out (n : Int) (h : n < 1 ∨ 8 < n) : pool_New.f n = some ([], 2) := by
  unfold pool_New.f cpuset_First.f
  by_cases h0 : n < 0
  · simp [h0]
  · by_cases h8 : n > 8
    · simp [h0, h8]
    · obtain rfl : n = 0 := by omega
      decide +kernel
theorem wakes_true : Ev (fun k => mainsheetlaw08_wakes.f k) true := Ev.of mainsheetlaw08_wakes.mono (k := 100) (by kernel_rfl)
theorem News_l0 (l : List Int) (hl : l.length ≤ 9223372036854775807) : ∀ suf pre, l = pre ++ suf → Ev (fun k => mainsheetlaw08_PoolNews.l0 k l (l.length : Int) (pre.length : Int)) true
  | [], pre, h => ⟨1, fun k hk => by
    obtain ⟨k, rfl⟩ : ∃ k', k = k' + 1 := ⟨k - 1, by omega⟩
    show mainsheetlaw08_PoolNews.l0 (k + 1) _ _ _ = _
    rw [mainsheetlaw08_PoolNews.l0, if_neg (by subst h; simp)]⟩
  | x :: suf, pre, h => by
    obtain ⟨K, hK⟩ := News_l0 l hl suf (pre ++ [x]) (by simp [h])
    have hx : rd l (pre.length : Int) = x := by subst h; simp [rd]
    have hlt : pre.length < l.length := by subst h; simp
    have hn := w64_next pre.length (by omega)
    rw [show pre.length + 1 = (pre ++ [x]).length by simp] at hn
    refine ⟨K + 2, fun k hk => ?_⟩
    obtain ⟨k, rfl⟩ : ∃ k', k = k' + 2 := ⟨k - 2, by omega⟩
    have hk' : mainsheetlaw08_PoolNews.l0 k l (l.length : Int) ((pre ++ [x]).length : Int) = some true := hK k (by omega)
    show mainsheetlaw08_PoolNews.l0 (k + 1 + 1) _ _ _ = _
    rw [mainsheetlaw08_PoolNews.l0, if_pos (by omega), if_pos (by omega), if_pos (by omega), hx]
    by_cases h20 : (pre.length : Int) = 20
    · rw [if_pos h20]
    rw [if_neg h20]
    by_cases h1 : x < 1
    · rw [New_out x (.inl h1)]
      simp only [Option.bind_some]
      rw [if_pos h1, mainsheetlaw08_PoolNews.j1, if_pos rfl, if_pos rfl, if_pos (by simp), hn, hk']
    · by_cases h8 : x > 8
      · rw [New_out x (.inr h8)]
        simp only [Option.bind_some]
        rw [if_neg h1, decide_eq_true h8, mainsheetlaw08_PoolNews.j1, if_pos rfl, if_pos rfl, if_pos (by simp), hn, hk']
      · rw [New_in x (by omega) (by omega)]
        simp only [Option.bind_some]
        rw [if_neg h1, decide_eq_false h8, mainsheetlaw08_PoolNews.j1, if_neg (by simp), if_pos rfl, if_pos (by simp), if_pos (by simp), if_pos (by omega), if_pos (by simp [rd]), hn, hk']
theorem PoolNews (l : List Int) (h : l.length ≤ maxLen ∧ ∀ x ∈ l, (Lit.int .i64 x).wf = true) : ∃ k, mainsheetlaw08_PoolNews.f k l = some true := by
  have hl : l.length ≤ 9223372036854775807 := h.1
  refine Ev.rounds (g := fun k => mainsheetlaw08_PoolNews.f k l) (Ev.bind wakes_true ?_)
  simp only [if_true]
  exact News_l0 l hl l [] rfl
end Go.Proofs.Ytkhbffjfclepfaa.Pure
