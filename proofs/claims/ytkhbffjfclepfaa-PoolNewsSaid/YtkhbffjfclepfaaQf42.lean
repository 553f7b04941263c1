/- Function 42, mainsheet_cpuset_Has: contracts over the given program's functions, one a function; no condition beyond those that each theorem states. Written by this session's program over the kit's printer, and by hand. -/
import Derived.Test.YtkhbffjfclepfaaQ0
import Derived.Test.YtkhbffjfclepfaaQf53
namespace Go.Proofs.Ytkhbffjfclepfaa.Q
open Go.RowKit Go.Proofs.YtkhbffjfclepfaaW.PrintWords Go.Proofs.YtkhbffjfclepfaaW.PrintLast Go.Proofs.YtkhbffjfclepfaaW.PrintMore
attribute [local go_sem] max2_int min2_int max_two min_two max_three min_three max_four min_four
set_option linter.unusedVariables false
set_option linter.unusedSimpArgs false

/-! ### cpuset_Has: function 42 -/
def cpuset_Has.f (a0 : Int) (a1 : Int) : Option (Bool) := (cpuset_bit.f a1).bind fun t510 => (some ((Go.bits .and .u32 a0 t510) != 0))
set_option maxHeartbeats 8000000 in
set_option maxRecDepth 100000 in
theorem cpuset_Has.calls (a0 : Int) (a1 : Int) (r : Bool) (w : World) (h : cpuset_Has.f a0 a1 = some r) :
    Calls Try.prog 42 #[.int .u32 a0, .int .i64 a1] w fun e w' => e = .returned (.bool r) ∧ Drawn0 w w' := by
  have H : ((cpuset_bit.f a1).bind fun t510 => (some ((Go.bits .and .u32 a0 t510) != 0))) = some r := h
  clear h
  replace H := Option.bind_eq_some_iff.mp H
  obtain ⟨t510, A30, H⟩ := H
  replace H : (some ((Go.bits .and .u32 a0 t510) != 0)) = some r := H
  have A3 := Aside0.mk A30
  clear A30
  obtain rfl := Option.some.inj H
  go_enter Try.func42, Try.ntmps42
  go_wp2_with (first | ((with_reducible refine gate_callee (f := 53) rfl ?_); refine goesL_ (some 7) rfl rfl Try.func53 (by kernel_rfl) rfl #[.int .i64 a1] rfl (by (try simp only [List.map_toArray, List.map_cons, List.map_nil]); first | done | rfl | (simp only [List.length_drop, List.length_take]; rfl)) ?_; (with_reducible refine (cpuset_bit.calls a1 t510 _ A3.out).mono ?_); rintro e w' ⟨rfl, ⟨nd, rfl⟩⟩; refine ⟨_, rfl, ?_⟩))
  go_ret
  exact ⟨by first | rfl | (simp; done) | (simp [*]; done), by repeat (first | exact Drawn0.refl _ | apply Drawn0.step)⟩

end Go.Proofs.Ytkhbffjfclepfaa.Q
