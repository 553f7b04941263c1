/- How the arguments of these statements are opened: what their cells are, and that their numbers fit their types. -/
import Derived.Test.YtkhbffjfclepfaaRows
import Derived.Test.YtkhbffjfclepfaaQ0
import Derived.Deep.Slices
import Derived.ChangeArms
import Derived.DataReads
import Derived.WalkKit
import Derived.ProofKit
import Derived.OpenShut
import Derived.ChangeOld
import Derived.Below
import Derived.SizedLaws
namespace Go.Proofs.Ytkhbffjfclepfaa.Q
open Go.RowKit Go.Proofs.YtkhbffjfclepfaaW.PrintWords Go.Proofs.YtkhbffjfclepfaaW.PrintLast Go.Proofs.YtkhbffjfclepfaaW.PrintMore
open Go.ChangeShapes Go.WideShapes Go.ChangeAt
set_option linter.unusedVariables false
set_option linter.unusedSimpArgs false
/-- What a reading of a type gives: a Lean value of a kind, its cells as they lie, and what is known of it. -/
structure Opens (P : Program) (t : TypeId) {α : Type} (d : Kd α) (wf : α → Prop) : Prop where
  cells : P.cellsOf t = d.sz
  open_ : ∀ {H : Type} {enc : TypeId × Value → H} {w : World} {base : Nat} {spare : Nat → Bool} {held : Bool} {fuel : Nat} {cs : List Value} {x : DataW H × List MemPlace},
    DataW.trod enc P w base spare held fuel t cs = some x → ∃ v, d.K w v cs ∧ wf v
theorem Opens.int {P : Program} {t : TypeId} {k : IntKind} (ht : P.underlying t = some (.int k)) (hc : P.cellsOf t = 1) : Opens P t (Kd.int k) (fun n => (Lit.int k n).wf = true) :=
  ⟨hc, fun {H enc w base spare held fuel cs x} h => by
    cases fuel with
    | zero => simp [DataW.trod] at h
    | succ n =>
      unfold DataW.trod at h
      rw [ht] at h
      split at h <;> simp_all
      exact ⟨_, rfl, h.1.2⟩⟩
theorem Opens.bool {P : Program} {t : TypeId} (ht : P.underlying t = some .bool) (hc : P.cellsOf t = 1) : Opens P t Kd.bool (fun _ => True) :=
  ⟨hc, fun {H enc w base spare held fuel cs x} h => by
    cases fuel with
    | zero => simp [DataW.trod] at h
    | succ n =>
      unfold DataW.trod at h
      rw [ht] at h
      split at h
      all_goals first | exact ⟨_, rfl, trivial⟩ | simp_all⟩
theorem row_choose {α : Type} [Inhabited α] (m : Nat) (p : Nat → α → Prop) (h : ∀ i, i < m → ∃ v, p i v) : ∃ f : Nat → α, ∀ i, i < m → p i (f i) := by
  classical
  exact ⟨fun i => if hi : ∃ v, p i v then hi.choose else default, fun i hi => by
    have hx := h i hi
    simp only [hx, dif_pos]
    exact hx.choose_spec⟩
theorem Opens.slice {P : Program} {t e : TypeId} {α : Type} {d : Kd α} {wf : α → Prop} [Inhabited α] (ht : P.underlying t = some (.slice e)) (hc : P.cellsOf t = 1) (he : Opens P e d wf) :
    Opens P t (Kd.slice e d) (fun l => l.length ≤ maxLen ∧ ∀ x ∈ l, wf x) :=
  ⟨hc, fun {H enc w base spare held fuel cs x} h => by
    rcases Go.Deep.open_slice ht h with ⟨rfl, _⟩ | ⟨a, len, cap, m, n, D, Pl, rfl, hb, hl, hm, hmm, _, hx⟩
    · exact ⟨[], ⟨none, 0, rfl, Nat.le_refl _, ⟨rfl, by simp, fun h => absurd h (Nat.lt_irrefl 0)⟩⟩, by simp, by simp⟩
    · have hlm : len ≤ m := by rw [hmm]; split <;> omega
      obtain ⟨f, hf⟩ := row_choose (α := α) m (fun i v => ∃ cs', w.cells? base (a.add (i * P.cellsOf e)) (P.cellsOf e) = some cs' ∧ d.K w v cs' ∧ wf v) (fun i hi => by
        obtain ⟨cs', h1, h2⟩ := hx i hi
        obtain ⟨v, h3, h4⟩ := he.open_ h2
        exact ⟨v, cs', h1, h3, h4⟩)
      have hml : maxLen = 9223372036854775807 := rfl
      refine ⟨(List.range len).map f, ⟨some a, cap, by simp, by simpa using hl, ⟨by simp, by simp; omega, fun _ => ⟨a, rfl, fun j p hj => ?_⟩⟩⟩, by simp; omega, fun v hv => ?_⟩
      · rw [List.getElem?_map] at hj
        obtain ⟨i, hi, rfl⟩ := Option.map_eq_some_iff.1 hj
        have hij : j < len := by
          rcases Nat.lt_or_ge j len with h | h
          · exact h
          · rw [List.getElem?_eq_none (by simpa using h)] at hi; cases hi
        rw [List.getElem?_range hij] at hi
        injection hi with hi
        subst hi
        obtain ⟨cs', h1, h2, h3⟩ := hf j (by omega)
        obtain ⟨_, h4, h5⟩ := World.cells?_some h1
        rw [he.cells] at h4 h5 h1
        refine ⟨cs', h4, h2, fun i u hu => ?_⟩
        have hil : i < d.sz := by
          rw [← h4]
          exact (List.getElem?_eq_some_iff.1 hu).1
        rw [show j * d.sz + i = j * d.sz + i from rfl, ← add_add, h5 i hil]
        exact hu
      · obtain ⟨j, hj, rfl⟩ := List.mem_map.1 hv
        obtain ⟨_, _, _, h3⟩ := hf j (by have := List.mem_range.1 hj; omega)
        exact h3⟩
theorem K_pair {α β : Type} {a : Kd α} {b : Kd β} {w : World} {x : α} {y : β} {cs : List Value} (n : Nat) (h0 : a.K w x (cs.take n)) (h1 : b.K w y (cs.drop n)) : (Kd.pair a b).K w (x, y) cs :=
  ⟨cs.take n, cs.drop n, (List.take_append_drop n cs).symm, h0, h1⟩
/-- A struct's fields, one by one. -/
theorem struct_field {P : Program} {H : Type} {enc : TypeId × Value → H} {w : World} {base : Nat} {spare : Nat → Bool} {held : Bool} {fuel : Nat} {t : TypeId} {cs : List Value} {x : DataW H × List MemPlace} {fs : Array Field}
    (ht : P.underlying t = some (.struct fs)) (h : DataW.trod enc P w base spare held fuel t cs = some x) (i : Nat) {f : Field} (hf : fs[i]? = some f) {α : Type} {d : Kd α} {wf : α → Prop} (ho : Opens P f.type d wf) :
    ∃ v, d.K w v ((cs.drop f.offset).take d.sz) ∧ wf v := by
  obtain ⟨xs, n, _, _, _, hl, hx⟩ := DataW.trod_struct ht h
  have h1 := hx i f hf
  have hi : i < xs.length := by rw [hl]; exact (Array.getElem?_eq_some_iff.1 hf).1
  rw [List.getElem?_eq_getElem hi, ho.cells] at h1
  exact ho.open_ h1
theorem struct_cells {P : Program} {H : Type} {enc : TypeId × Value → H} {w : World} {base : Nat} {spare : Nat → Bool} {held : Bool} {fuel : Nat} {t : TypeId} {cs : List Value} {x : DataW H × List MemPlace} {fs : Array Field}
    (ht : P.underlying t = some (.struct fs)) (h : DataW.trod enc P w base spare held fuel t cs = some x) : cs.length = P.cellsOf t := by
  obtain ⟨xs, n, _, _, hl, _⟩ := DataW.trod_struct ht h
  exact hl
theorem drop_take_last {α : Type} {cs : List α} {k n : Nat} (h : cs.length = k + n) : (cs.drop k).take n = cs.drop k := List.take_of_length_le (by rw [List.length_drop]; omega)
theorem list_cons_of_len {α : Type} {cs : List α} {n : Nat} (h : cs.length = n + 1) : ∃ a l, cs = a :: l ∧ l.length = n := by
  cases cs with
  | nil => simp at h
  | cons a l => exact ⟨a, l, rfl, by simpa using h⟩
theorem toList_eq {α : Type} {cs : Array α} {l : List α} (h : cs.toList = l) : cs = l.toArray := by rw [← h]
theorem own : ownKnob Try.prog.godebug = none := by kernel_rfl
theorem laidOut : laidOutB Try.prog = true := by kernel_rfl
instance : Inhabited S26 := ⟨z26⟩
def wf26 (x : S26) : Prop := (fun l => l.length ≤ maxLen ∧ ∀ x ∈ l, (fun n => (Lit.int .u32 n).wf = true) x) x.f0
theorem op26 : Opens Try.prog 26 k26 wf26 :=
  ⟨by kernel_rfl, fun {H enc w base spare held fuel cs x} h => by
    have hl : cs.length = 1 := (struct_cells Try.underlying26 h).trans (by kernel_rfl)
    obtain ⟨v0, h0, w0⟩ := struct_field Try.underlying26 h 0 rfl (Opens.slice Try.underlying24 (by kernel_rfl) (Opens.int Try.underlying31 (by kernel_rfl)))
    obtain ⟨c0, l0, rfl, hm0⟩ := list_cons_of_len hl
    obtain rfl := List.eq_nil_of_length_eq_zero hm0
    exact ⟨⟨v0⟩, h0, w0⟩⟩
instance : Inhabited S36 := ⟨z36⟩
def wf36 (x : S36) : Prop := (fun n => (Lit.int .i64 n).wf = true) x.f0 ∧ (fun n => (Lit.int .i64 n).wf = true) x.f1 ∧ (fun n => (Lit.int .i64 n).wf = true) x.f2 ∧ (fun n => (Lit.int .i64 n).wf = true) x.f3 ∧ (fun n => (Lit.int .u32 n).wf = true) x.f4
theorem op36 : Opens Try.prog 36 k36 wf36 :=
  ⟨by kernel_rfl, fun {H enc w base spare held fuel cs x} h => by
    have hl : cs.length = 5 := (struct_cells Try.underlying36 h).trans (by kernel_rfl)
    obtain ⟨v0, h0, w0⟩ := struct_field Try.underlying36 h 0 rfl (Opens.int Try.underlying3 (by kernel_rfl))
    obtain ⟨v1, h1, w1⟩ := struct_field Try.underlying36 h 1 rfl (Opens.int Try.underlying3 (by kernel_rfl))
    obtain ⟨v2, h2, w2⟩ := struct_field Try.underlying36 h 2 rfl (Opens.int Try.underlying3 (by kernel_rfl))
    obtain ⟨v3, h3, w3⟩ := struct_field Try.underlying36 h 3 rfl (Opens.int Try.underlying3 (by kernel_rfl))
    obtain ⟨v4, h4, w4⟩ := struct_field Try.underlying36 h 4 rfl (Opens.int Try.underlying31 (by kernel_rfl))
    obtain ⟨c0, l0, rfl, hm0⟩ := list_cons_of_len hl
    obtain ⟨c1, l1, rfl, hm1⟩ := list_cons_of_len hm0
    obtain ⟨c2, l2, rfl, hm2⟩ := list_cons_of_len hm1
    obtain ⟨c3, l3, rfl, hm3⟩ := list_cons_of_len hm2
    obtain ⟨c4, l4, rfl, hm4⟩ := list_cons_of_len hm3
    obtain rfl := List.eq_nil_of_length_eq_zero hm4
    exact ⟨⟨v0, v1, v2, v3, v4⟩, ⟨[c0], [c1, c2, c3, c4], rfl, h0, ⟨[c1], [c2, c3, c4], rfl, h1, ⟨[c2], [c3, c4], rfl, h2, ⟨[c3], [c4], rfl, h3, h4⟩⟩⟩⟩, ⟨w0, w1, w2, w3, w4⟩⟩⟩
end Go.Proofs.Ytkhbffjfclepfaa.Q
