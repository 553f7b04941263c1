/- Function 44, mainsheet_pool_pool: contracts over the given program's functions, one a function; no condition beyond those that each theorem states. Written by this session's program over the kit's printer, and by hand. -/
import Derived.Test.YtkhbffjfclepfaaQ0
import Derived.Test.YtkhbffjfclepfaaQf55
namespace Go.Proofs.Ytkhbffjfclepfaa.Q
open Go.RowKit Go.Proofs.YtkhbffjfclepfaaW.PrintWords Go.Proofs.YtkhbffjfclepfaaW.PrintLast Go.Proofs.YtkhbffjfclepfaaW.PrintMore
attribute [local go_sem] max2_int min2_int max_two min_two max_three min_three max_four min_four
set_option linter.unusedVariables false
set_option linter.unusedSimpArgs false

/-! ### pool_pool: function 44, by hand -/
set_option maxHeartbeats 2000000 in
theorem pool_pool1.calls (g : Nat) (A : Option Addr) (m c : Nat) (n : Int) (w : World) (hb : w.heap[g]? = some (.cells #[.slice A m c] 26 (0, 0))) :
    Calls Try.prog 56 (#[.int .i64 n] ++ #[.pointer (some ⟨g, 0, none⟩)]) w fun e w' => e = .returned (.bool (decide (n < 0) || decide ((m : Int) ≤ n))) ∧ Below w.heap.size w w' := by
  have hc := (blk_cell hb 0).trans rfl
  have hf := blk_frozen hb 0
  clear hb
  by_cases h : n < 0
  · have h1 : decide (n < 0) = true := decide_eq_true h
    go_enter Try.func56, Try.ntmps56
    go_wp2
    go_ret
    exact ⟨by simp [h], Below.refl _ _⟩
  · have h1 : decide (n < 0) = false := decide_eq_false h
    go_enter Try.func56, Try.ntmps56
    go_wp2
    go_ret
    exact ⟨by simp [h], Below.refl _ _⟩
def pool_pool.f (l0_0 : List Int) (l1 : List Int) : Option Bool :=
  if l1.length ≤ 35184372088832 then some (!(l1.any fun n => decide (n < 0) || decide ((l0_0.length : Int) ≤ n))) else none
set_option maxHeartbeats 2000000 in
theorem pool_pool.calls (A0_0 : Option Addr) (c0_0 : Nat) (l0_0 : List Int) (A1 : Option Addr) (c1 : Nat) (l1 : List Int) (r : Bool) (w : World) (hr0_0 : Kd.C (Kd.int .u32) w A0_0 l0_0.length l0_0) (hc0_0 : l0_0.length ≤ c0_0)
    (hr1 : Kd.C (Kd.int .i64) w A1 l1.length l1) (hc1 : l1.length ≤ c1) (h : pool_pool.f l0_0 l1 = some r) :
    Calls Try.prog 44 #[.agg #[.slice A0_0 l0_0.length c0_0], .slice A1 l1.length c1] w fun e w' => e = .returned (.bool r) ∧ Below w.heap.size w w' := by
  unfold pool_pool.f at h
  split at h
  case isFalse => cases h
  case isTrue hl =>
  obtain rfl := Option.some.inj h
  have eg : ∀ args w, (callFunc 56 args).run Try.prog w = .ok (.enter 56 args) w := enters_ Try.func56 (by kernel_rfl) rfl
  have HR := Aside0.mk hr1
  clear h hr0_0 hr1 hc1
  have HP := Aside0.mk (fun W (hW : Below (w.alloc (.cells #[.slice A0_0 l0_0.length c0_0] 26)).heap.size (w.alloc (.cells #[.slice A0_0 l0_0.length c0_0] 26)) W) x (_ : x ∈ l1) => pool_pool1.calls w.heap.size A0_0 l0_0.length c0_0 x W ((hW.block w.heap.size (by simp)).trans (blk_new _ _)))
  go_enter Try.func44, Try.ntmps44
  go_wp2_with (go_at_call 55; refine (slices_ContainsFunc_int.any 56 _ eg (fun n => decide (n < 0) || decide ((l0_0.length : Int) ≤ n)) A1 c1 l1 _ (Kd.C_alloc HR.out _) hl HP.out).mono ?_; rintro e w' ⟨rfl, hb⟩)
  go_ret
  exact ⟨rfl, ((Below.refl _ _).alloc (Nat.le_refl _) _).trans (hb.mono (by simp))⟩

end Go.Proofs.Ytkhbffjfclepfaa.Q
