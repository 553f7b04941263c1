/- Function 40, slices_IndexFunc___mainsheet_api_Cpus_mainsheet_api_Cpus_: contracts over the given program's functions, one a function; no condition beyond those that each theorem states. Written by this session's program over the kit's printer, and by hand. -/
import Derived.Test.YtkhbffjfclepfaaQ0
import Derived.Test.YtkhbffjfclepfaaQf42
import Derived.Test.YtkhbffjfclepfaaQf53
namespace Go.Proofs.Ytkhbffjfclepfaa.Q
open Go.RowKit Go.Proofs.YtkhbffjfclepfaaW.PrintWords Go.Proofs.YtkhbffjfclepfaaW.PrintLast Go.Proofs.YtkhbffjfclepfaaW.PrintMore
attribute [local go_sem] max2_int min2_int max_two min_two max_three min_three max_four min_four
set_option linter.unusedVariables false
set_option linter.unusedSimpArgs false

/-! ### slices_IndexFunc_cpus: function 40, by hand -/
set_option maxHeartbeats 2000000 in
theorem slices_IndexFunc_cpus.any (g : Nat) (lb : Array Value) (eg : ∀ args w, (callFunc g args).run Try.prog w = .ok (.enter g args) w) (p : Int → Bool) (A : Option Addr) (c : Nat) (xs : List Int) (w : World)
    (hr : Kd.C (Kd.int .u32) w A xs.length xs) (hlen : xs.length ≤ 35184372088832)
    (hp : ∀ W, Below w.heap.size w W → ∀ x ∈ xs, Calls Try.prog g (#[.int .u32 x] ++ lb) W fun e W' => e = .returned (.bool (p x)) ∧ Below W.heap.size W W') :
    Calls Try.prog 40 #[.slice A xs.length c, .func (.func g) #[] lb] w fun e w' => e = .returned (.int .i64 (idxOf p xs)) ∧ Below w.heap.size w w' := by
  have HP := Aside0.mk hp
  have HR := Aside0.mk hr
  clear hp hr
  go_enter Try.func40, Try.ntmps40
  go_wp2
  go_loopg [5, 8] xs.length (fun gg _ s8 wr => ∃ kk : Nat, s8 = .int .i64 kk ∧ kk ≤ xs.length ∧ xs.length - kk ≤ gg ∧ Aside0 (Below w.heap.size w wr) ∧ Aside0 (∀ j (hj : j < kk) (hj2 : j < xs.length), p xs[j] = false))
  case atStart => exact ⟨0, rfl, Nat.zero_le _, by omega, ⟨Below.refl _ _⟩, ⟨fun j hj => absurd hj (Nat.not_lt_zero _)⟩⟩
  case round =>
    obtain ⟨kk, rfl, hkk, hg, HB, HN⟩ := hrel
    by_cases hlt : kk < xs.length
    · have hltz : (kk : Int) < (xs.length : Int) := by omega
      obtain ⟨ad, rfl, hcell⟩ := Kd.at_int (Kd.C_below HR.out HB.out) (kk : Int) (by omega) (by omega)
      have hx := List.getElem_mem hlt
      have hrd : rd xs (kk : Int) = xs[kk] := by unfold rd; simp [hlt]
      rw [hrd] at hcell
      simp only [Int.toNat_natCast] at hcell
      have hcall := HP.out _ HB.out _ hx
      generalize hy : xs[kk] = y at hcell hcall hx
      have HY := Aside0.mk hy
      clear hy hx hrd
      cases hq : p y with
      | true =>
        rw [hq] at hcall
        go_wp2_with (go_at_fn g; refine hcall.mono ?_; rintro e w' ⟨rfl, hb'⟩)
        go_ret
        refine ⟨?_, HB.out.trans (hb'.mono (below_size HB.out))⟩
        rw [idxOf_hit hlt (by rw [HY.out]; exact hq) (fun j hj => HN.out j hj (by omega))]; rfl
      | false =>
        rw [hq] at hcall
        go_wp2_with (go_at_fn g; refine hcall.mono ?_; rintro e w' ⟨rfl, hb'⟩)
        go_roundg (xs.length - (kk + 1))
        case measure => omega
        case rel =>
          exact ⟨kk + 1, by go_num, by omega, by omega, ⟨HB.out.trans (hb'.mono (below_size HB.out))⟩, ⟨fun j hj hj2 => by
            by_cases e : j = kk
            · subst e; rw [HY.out]; exact hq
            · exact HN.out j (by omega) hj2⟩⟩
    · have hltz : ¬ (kk : Int) < (xs.length : Int) := by omega
      have : kk = xs.length := by omega
      go_wp2
      go_ret
      refine ⟨?_, HB.out⟩
      rw [idxOf_miss (fun j hj => HN.out j (by omega) hj)]; rfl

/-! the function value is pool.Of's, over the pCPU's number -/
def hasB (s c : Int) : Bool := (cpuset_Has.f s c).getD false
theorem hasB_f (s c : Int) : cpuset_Has.f s c = some (hasB s c) := by
  unfold hasB
  have : ∃ b, cpuset_Has.f s c = some b := by
    unfold cpuset_Has.f cpuset_bit.f
    (repeat' split) <;> first | exact ⟨_, rfl⟩ | omega
  obtain ⟨b, hb⟩ := this
  rw [hb]; rfl
set_option maxHeartbeats 2000000 in
theorem pool_Of1.calls (g : Nat) (s a1 : Int) (w : World) (hb : w.heap[g]? = some (.cells #[.int .i64 a1] 3 (0, 0))) :
    Calls Try.prog 41 (#[.int .u32 s] ++ #[.pointer (some ⟨g, 0, none⟩)]) w fun e w' => e = .returned (.bool (hasB s a1)) ∧ Below w.heap.size w w' := by
  have hc := (blk_cell hb 0).trans rfl
  have hf := blk_frozen hb 0
  clear hb
  have hH := Aside0.mk (hasB_f s a1)
  go_enter Try.func41, Try.ntmps41
  go_wp2_with (go_at_call 42; refine (cpuset_Has.calls s a1 _ _ hH.out).mono ?_; rintro e w' ⟨rfl, hb⟩)
  go_ret
  exact ⟨rfl, hb.below⟩
def slices_IndexFunc_cpus_Of1.f (l0 : List Int) (a : Int) : Option Int := if l0.length ≤ 35184372088832 then some (idxOf (fun s => hasB s a) l0) else none
theorem slices_IndexFunc_cpus_Of1.calls (A0 : Option Addr) (c0 : Nat) (l0 : List Int) (g : Nat) (a : Int) (r : Int) (w : World) (hr0 : Kd.C (Kd.int .u32) w A0 l0.length l0) (hc0 : l0.length ≤ c0) (hb : w.heap[g]? = some (.cells #[.int .i64 a] 3 (0, 0))) (h : slices_IndexFunc_cpus_Of1.f l0 a = some r) :
    Calls Try.prog 40 #[.slice A0 l0.length c0, .func (.func 41) #[] #[.pointer (some ⟨g, 0, none⟩)]] w fun e w' => e = .returned (.int .i64 r) ∧ Below w.heap.size w w' := by
  unfold slices_IndexFunc_cpus_Of1.f at h
  split at h
  case isFalse => cases h
  case isTrue hl =>
  obtain rfl := Option.some.inj h
  exact slices_IndexFunc_cpus.any 41 _ (enters_ Try.func41 (by kernel_rfl) rfl) _ A0 c0 l0 w hr0 hl (fun W hW x _ => pool_Of1.calls g x a W ((hW.block _ (blk_lt hb)).trans hb))

end Go.Proofs.Ytkhbffjfclepfaa.Q
