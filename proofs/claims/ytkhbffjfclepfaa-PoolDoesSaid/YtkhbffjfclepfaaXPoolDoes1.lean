/- Part 1 of 13 of what the row of PoolDoes stands on: contracts over the given program's functions, the plain law, the row; no condition beyond those that each theorem states. -/
import Derived.Test.YtkhbffjfclepfaaXPoolDoes0
import Derived.Test.YtkhbffjfclepfaaProg
import Derived.Below
import Derived.Deep.Draws
import Derived.Deep.AppendLies
import Derived.Maps.AppendAt
import Derived.OwnWalk
import Derived.Laws.BytesArg
import Derived.Laws.MakeOwn
import Derived.Laws.OwnMore
import Derived.Deep.OwnRows
import Derived.Tactics
import Derived.Lib.ConvBytes
import Derived.Laws.Slices
import Derived.WalkKit
import Derived.KernelRfl
import Derived.RowKit3
import Derived.Deep.LoopGhost
import Derived.Deep.QuietTactic
import Derived.BigQuiet
import Derived.WideLaws
import Derived.Deep.DeepCutAuto
import Derived.Deep.CutBlock
import Derived.Deep.RegionHeld3
import Derived.Laws.Rows
import Derived.Lib.AppendStr
import Derived.ArgAppend
import Derived.Laws.IdiomCopy
import Derived.OrdersHeld
import Derived.Laws.BitsLemmas
import Derived.RowKit
import Derived.Shelf.Abstract
import Derived.Test.YtkhbffjfclepfaaRows
import Derived.Deep.Slices
import Derived.ChangeArms
import Derived.DataReads
import Derived.ProofKit
import Derived.OpenShut
import Derived.ChangeOld
import Derived.SizedLaws
import Derived.WalkSpells
/- The head: contracts over the given program's functions, one a function; no condition beyond those that each theorem states. Written by this session's program over the kit's printer, and by hand. -/
namespace Go.Proofs.Ytkhbffjfclepfaa.Q
open Go.RowKit Go.Proofs.YtkhbffjfclepfaaW.PrintWords Go.Proofs.YtkhbffjfclepfaaW.PrintLast Go.Proofs.YtkhbffjfclepfaaW.PrintMore
attribute [local go_sem] max2_int min2_int max_two min_two max_three min_three max_four min_four
set_option linter.unusedVariables false
set_option linter.unusedSimpArgs false

def errW : Option Int → Value
  | none => .nilIface
  | some c => .iface 0 (.int .i64 c)
theorem errW_none : errW none = .nilIface := rfl
theorem errW_some (c : Int) : errW (some c) = .iface 0 (.int .i64 c) := rfl

theorem info3 : (Try.prog.info? 3).map (fun i => (i.zero, i.size, i.bytes)) = some (some (.int .i64 0), 1, 8) := by kernel_rfl
theorem info5 : (Try.prog.info? 5).map (fun i => (i.zero, i.size, i.bytes)) = some (some (.int .u8 0), 1, 1) := by kernel_rfl
theorem info31 : (Try.prog.info? 31).map (fun i => (i.zero, i.size, i.bytes)) = some (some (.int .u32 0), 1, 4) := by kernel_rfl
/-! #### struct type 36 -/
structure S36 where
  f0 : Int
  f1 : Int
  f2 : Int
  f3 : Int
  f4 : Int
def z36 : S36 := ⟨(0 : Int), (0 : Int), (0 : Int), (0 : Int), (0 : Int)⟩
def k36 : Kd S36 := Kd.iso (Kd.pair (Kd.int .i64) (Kd.pair (Kd.int .i64) (Kd.pair (Kd.int .i64) (Kd.pair (Kd.int .i64) (Kd.int .u32))))) (fun x : S36 => (x.f0, x.f1, x.f2, x.f3, x.f4))
theorem k36_open {w : World} {x : S36} {cs : List Value} (h : k36.K w x cs) : cs = [.int .i64 x.f0, .int .i64 x.f1, .int .i64 x.f2, .int .i64 x.f3, .int .u32 x.f4] := by
  obtain ⟨_, _, rfl, rfl, ⟨_, _, rfl, rfl, ⟨_, _, rfl, rfl, ⟨_, _, rfl, rfl, rfl⟩⟩⟩⟩ := h
  exact rfl
theorem k36_openM {w : World} {base : Nat} {ok : Nat → Prop} {x : S36} {cs : List Value} (h : k36.M w base ok x cs) : cs = [.int .i64 x.f0, .int .i64 x.f1, .int .i64 x.f2, .int .i64 x.f3, .int .u32 x.f4] := by
  obtain ⟨_, _, rfl, rfl, ⟨_, _, rfl, rfl, ⟨_, _, rfl, rfl, ⟨_, _, rfl, rfl, rfl⟩⟩⟩⟩ := h
  exact rfl
theorem k36_mk (w : World) (x : S36)  : k36.K w x [.int .i64 x.f0, .int .i64 x.f1, .int .i64 x.f2, .int .i64 x.f3, .int .u32 x.f4] := ⟨[.int .i64 x.f0], [.int .i64 x.f1, .int .i64 x.f2, .int .i64 x.f3, .int .u32 x.f4], rfl, rfl, ⟨[.int .i64 x.f1], [.int .i64 x.f2, .int .i64 x.f3, .int .u32 x.f4], rfl, rfl, ⟨[.int .i64 x.f2], [.int .i64 x.f3, .int .u32 x.f4], rfl, rfl, ⟨[.int .i64 x.f3], [.int .u32 x.f4], rfl, rfl, rfl⟩⟩⟩⟩
theorem k36_mkM (w : World) (base : Nat) (ok : Nat → Prop) (x : S36)  : k36.M w base ok x [.int .i64 x.f0, .int .i64 x.f1, .int .i64 x.f2, .int .i64 x.f3, .int .u32 x.f4] := ⟨[.int .i64 x.f0], [.int .i64 x.f1, .int .i64 x.f2, .int .i64 x.f3, .int .u32 x.f4], rfl, rfl, ⟨[.int .i64 x.f1], [.int .i64 x.f2, .int .i64 x.f3, .int .u32 x.f4], rfl, rfl, ⟨[.int .i64 x.f2], [.int .i64 x.f3, .int .u32 x.f4], rfl, rfl, ⟨[.int .i64 x.f3], [.int .u32 x.f4], rfl, rfl, rfl⟩⟩⟩⟩
theorem k36_mkF (W : World) (ok : Nat → Prop) (x : S36) : Kd.FK k36 W ok x [.int .i64 x.f0, .int .i64 x.f1, .int .i64 x.f2, .int .i64 x.f3, .int .u32 x.f4] := fun W2 _ => k36_mk W2 x
def rd_T36 (xs : List S36) (i : Int) : S36 := xs.getD i.toNat z36
theorem at_T36 {w : World} {A : Option Addr} {n : Nat} {xs : List S36} (h : Kd.C k36 w A n xs) (i : Int) (h0 : 0 ≤ i) (h1 : i < n) : ∃ ad , A = some ad ∧ w.cell? (ad.add (i.toNat * 5)) = some (.int .i64 (rd_T36 xs i).f0) ∧ w.cell? ⟨(ad.add (i.toNat * 5)).block, (ad.add (i.toNat * 5)).off + 1, none⟩ = some (.int .i64 (rd_T36 xs i).f1) ∧ w.cell? ⟨(ad.add (i.toNat * 5)).block, (ad.add (i.toNat * 5)).off + 2, none⟩ = some (.int .i64 (rd_T36 xs i).f2) ∧ w.cell? ⟨(ad.add (i.toNat * 5)).block, (ad.add (i.toNat * 5)).off + 3, none⟩ = some (.int .i64 (rd_T36 xs i).f3) ∧ w.cell? ⟨(ad.add (i.toNat * 5)).block, (ad.add (i.toNat * 5)).off + 4, none⟩ = some (.int .u32 (rd_T36 xs i).f4) := by
  obtain ⟨ad, c, e, _, hK, hc0⟩ := Kd.C_get h z36 i h0 h1
  have hc : ∀ j u, c[j]? = some u → w.cell? (ad.add (i.toNat * 5 + j)) = some u := hc0
  obtain rfl := k36_open hK
  exact ⟨ad, e, hc 0 _ rfl, by rw [← add_field _ _ 1 (by omega)]; exact hc 1 _ rfl, by rw [← add_field _ _ 2 (by omega)]; exact hc 2 _ rfl, by rw [← add_field _ _ 3 (by omega)]; exact hc 3 _ rfl, by rw [← add_field _ _ 4 (by omega)]; exact hc 4 _ rfl⟩

def rd_L3 (xs : List (List Int)) (i : Int) : (List Int) := xs.getD i.toNat ([] : List Int)
theorem at_L3 {w : World} {A : Option Addr} {n : Nat} {xs : List (List Int)} (h : Kd.C (Kd.slice 31 (Kd.int .u32)) w A n xs) (i : Int) (h0 : 0 ≤ i) (h1 : i < n) : ∃ ad A0 c0, A = some ad ∧ w.cell? (ad.add i.toNat) = some (.slice A0 (rd_L3 xs i).length c0) ∧ (rd_L3 xs i).length ≤ c0 ∧ (Kd.int .u32).C w A0 (rd_L3 xs i).length (rd_L3 xs i) := by
  obtain ⟨ad, c, e, _, hK, hc0⟩ := Kd.C_get h ([] : List Int) i h0 h1
  have hc : ∀ j u, c[j]? = some u → w.cell? (ad.add (i.toNat * 1 + j)) = some u := hc0
  obtain ⟨A0, c0, rfl, l0, g0⟩ := hK
  exact ⟨ad, A0, c0, e, by have hq := hc 0 _ rfl; rwa [Nat.mul_one, Nat.add_zero] at hq, l0, g0⟩

/-! #### struct type 26 -/
structure S26 where
  f0 : (List Int)
def z26 : S26 := ⟨([] : List Int)⟩
def k26 : Kd S26 := Kd.iso (Kd.slice 31 (Kd.int .u32)) (fun x : S26 => x.f0)
theorem k26_open {w : World} {x : S26} {cs : List Value} (h : k26.K w x cs) : ∃ A0 c0, cs = [.slice A0 x.f0.length c0] ∧ x.f0.length ≤ c0 ∧ (Kd.int .u32).C w A0 x.f0.length x.f0 := by
  obtain ⟨A0, c0, rfl, l0, g0⟩ := h
  exact ⟨A0, c0, rfl, l0, g0⟩
theorem k26_openM {w : World} {base : Nat} {ok : Nat → Prop} {x : S26} {cs : List Value} (h : k26.M w base ok x cs) : ∃ v0, cs = [v0] ∧ (Kd.int .u32).R 31 w base ok v0 x.f0 := by
  obtain ⟨v0, rfl, g0⟩ := h
  exact ⟨v0, rfl, g0⟩
theorem k26_mk (w : World) (x : S26) {A0 : Option Addr} {c0 : Nat} (l0 : x.f0.length ≤ c0) (g0 : (Kd.int .u32).C w A0 x.f0.length x.f0) : k26.K w x [.slice A0 x.f0.length c0] := ⟨A0, c0, rfl, l0, g0⟩
theorem k26_mkM (w : World) (base : Nat) (ok : Nat → Prop) (x : S26) {v0 : Value} (g0 : (Kd.int .u32).R 31 w base ok v0 x.f0) : k26.M w base ok x [v0] := ⟨v0, rfl, g0⟩
theorem k26_openF {W : World} {ok : Nat → Prop} {x : S26} {cs : List Value} (h : Kd.FK k26 W ok x cs) : ∃ A0 c0, cs = [.slice A0 x.f0.length c0] ∧ x.f0.length ≤ c0 ∧ Kd.F (Kd.int .u32) W ok A0 x.f0.length x.f0 := by
  obtain ⟨A0, c0, rfl, l0, _⟩ := k26_open (Kd.FK_now h)
  exact ⟨A0, c0, rfl, l0, (fun W' hW => by obtain ⟨A0_, c0_, he, l0_, g0_⟩ := k26_open (h W' hW); injection (Option.some.inj (show some (Value.slice A0 x.f0.length c0) = some (Value.slice A0_ x.f0.length c0_) from congrArg (fun l => l[0]?) he)) with ha_ _ _; rw [ha_]; exact g0_)⟩
theorem k26_mkF (W : World) (ok : Nat → Prop) (x : S26) {A0 : Option Addr} {c0 : Nat} (l0 : x.f0.length ≤ c0) (g0 : Kd.F (Kd.int .u32) W ok A0 x.f0.length x.f0) : Kd.FK k26 W ok x [.slice A0 x.f0.length c0] := fun W2 hW => k26_mk W2 x l0 (g0 W2 hW)
def rd_T26 (xs : List S26) (i : Int) : S26 := xs.getD i.toNat z26
theorem at_T26 {w : World} {A : Option Addr} {n : Nat} {xs : List S26} (h : Kd.C k26 w A n xs) (i : Int) (h0 : 0 ≤ i) (h1 : i < n) : ∃ ad A0 c0, A = some ad ∧ w.cell? (ad.add i.toNat) = some (.slice A0 (rd_T26 xs i).f0.length c0) ∧ (rd_T26 xs i).f0.length ≤ c0 ∧ (Kd.int .u32).C w A0 (rd_T26 xs i).f0.length (rd_T26 xs i).f0 := by
  obtain ⟨ad, c, e, _, hK, hc0⟩ := Kd.C_get h z26 i h0 h1
  have hc : ∀ j u, c[j]? = some u → w.cell? (ad.add (i.toNat * 1 + j)) = some u := hc0
  obtain ⟨A0, c0, rfl, l0, g0⟩ := k26_open hK
  exact ⟨ad, A0, c0, e, by have hq := hc 0 _ rfl; rwa [Nat.mul_one, Nat.add_zero] at hq, l0, g0⟩

def rd_L6 (xs : List (List Int)) (i : Int) : (List Int) := xs.getD i.toNat ([] : List Int)
theorem at_L6 {w : World} {A : Option Addr} {n : Nat} {xs : List (List Int)} (h : Kd.C (Kd.slice 5 (Kd.int .u8)) w A n xs) (i : Int) (h0 : 0 ≤ i) (h1 : i < n) : ∃ ad A0 c0, A = some ad ∧ w.cell? (ad.add i.toNat) = some (.slice A0 (rd_L6 xs i).length c0) ∧ (rd_L6 xs i).length ≤ c0 ∧ (Kd.int .u8).C w A0 (rd_L6 xs i).length (rd_L6 xs i) := by
  obtain ⟨ad, c, e, _, hK, hc0⟩ := Kd.C_get h ([] : List Int) i h0 h1
  have hc : ∀ j u, c[j]? = some u → w.cell? (ad.add (i.toNat * 1 + j)) = some u := hc0
  obtain ⟨A0, c0, rfl, l0, g0⟩ := hK
  exact ⟨ad, A0, c0, e, by have hq := hc 0 _ rfl; rwa [Nat.mul_one, Nat.add_zero] at hq, l0, g0⟩

/-- The place of the first element of which something holds, or -1. -/
def idxOf {α : Type} (p : α → Bool) (xs : List α) : Int := match xs.findIdx? p with | some i => i | none => -1
theorem idxOf_hit {α : Type} {p : α → Bool} {xs : List α} {k : Nat} (hk : k < xs.length) (h : p xs[k] = true) (hb : ∀ j (hj : j < k), p (xs[j]'(by omega)) = false) : idxOf p xs = k := by
  unfold idxOf
  have : xs.findIdx? p = some k := by
    rw [List.findIdx?_eq_some_iff_getElem]
    exact ⟨hk, h, fun j hj => by simp [hb j hj]⟩
  rw [this]
theorem idxOf_miss {α : Type} {p : α → Bool} {xs : List α} (hb : ∀ j (hj : j < xs.length), p xs[j] = false) : idxOf p xs = -1 := by
  unfold idxOf
  have : xs.findIdx? p = none := by
    rw [List.findIdx?_eq_none_iff]
    intro x hx
    obtain ⟨j, hj, rfl⟩ := List.getElem_of_mem hx
    exact hb j hj
  rw [this]
theorem idxOf_nonneg {α : Type} (p : α → Bool) (xs : List α) : decide (0 ≤ idxOf p xs) = xs.any p := by
  unfold idxOf
  cases h : xs.findIdx? p with
  | none =>
    rw [List.findIdx?_eq_none_iff] at h
    have : xs.any p = false := List.any_eq_false.2 fun x hx => by simp [h x hx]
    rw [this]; rfl
  | some i =>
    rw [List.findIdx?_eq_some_iff_getElem] at h
    obtain ⟨hi, hp, _⟩ := h
    have : xs.any p = true := List.any_eq_true.2 ⟨_, List.getElem_mem hi, hp⟩
    rw [this]; simp
theorem C_len_ {α : Type} {d : Kd α} {w : World} {A : Option Addr} {m n : Nat} {xs : List α} (e : m = n) (h : d.C w A m xs) : d.C w A n xs := e ▸ h
theorem heap_apart {w : World} {g j k B : Nat} {u : Value} (h : k < B) (hg : B ≤ g) : (w.setCell ⟨g, j, none⟩ u).heap[k]? = w.heap[k]? := Below.heap_setCell w ⟨g, j, none⟩ u k (by show k ≠ g; omega)

end Go.Proofs.Ytkhbffjfclepfaa.Q

/- How the arguments of these statements are opened: what their cells are, and that their numbers fit their types. -/
namespace Go.Proofs.Ytkhbffjfclepfaa.Q
open Go.RowKit Go.Proofs.YtkhbffjfclepfaaW.PrintWords Go.Proofs.YtkhbffjfclepfaaW.PrintLast Go.Proofs.YtkhbffjfclepfaaW.PrintMore
open Go.ChangeShapes Go.WideShapes Go.ChangeAt
set_option linter.unusedVariables false
set_option linter.unusedSimpArgs false
/-- What a reading of a type gives: a Lean value of a kind, its cells as they lie, and what is known of it. -/
structure Opens (P : Program) (t : TypeId) {α : Type} (d : Kd α) (wf : α → Prop) : Prop where
  cells : P.cellsOf t = d.sz
  open_ : ∀ {H : Type} {enc : TypeId × Value → H} {w : World} {base : Nat} {spare : Nat → Bool} {held : Bool} {fuel : Nat} {cs : List Value} {x : DataW H × List MemPlace},
    DataW.trod enc P w base spare held fuel t cs = some x → ∃ v, d.K w v cs ∧ wf v
theorem Opens.int {P : Program} {t : TypeId} {k : IntKind} (ht : P.underlying t = some (.int k)) (hc : P.cellsOf t = 1) : Opens P t (Kd.int k) (fun n => (Lit.int k n).wf = true) :=
  ⟨hc, fun {H enc w base spare held fuel cs x} h => by
    cases fuel with
    | zero => simp [DataW.trod] at h
    | succ n =>
      unfold DataW.trod at h
      rw [ht] at h
      split at h <;> simp_all
      exact ⟨_, rfl, h.1.2⟩⟩
theorem Opens.bool {P : Program} {t : TypeId} (ht : P.underlying t = some .bool) (hc : P.cellsOf t = 1) : Opens P t Kd.bool (fun _ => True) :=
  ⟨hc, fun {H enc w base spare held fuel cs x} h => by
    cases fuel with
    | zero => simp [DataW.trod] at h
    | succ n =>
      unfold DataW.trod at h
      rw [ht] at h
      split at h
      all_goals first | exact ⟨_, rfl, trivial⟩ | simp_all⟩
theorem row_choose {α : Type} [Inhabited α] (m : Nat) (p : Nat → α → Prop) (h : ∀ i, i < m → ∃ v, p i v) : ∃ f : Nat → α, ∀ i, i < m → p i (f i) := by
  classical
  exact ⟨fun i => if hi : ∃ v, p i v then hi.choose else default, fun i hi => by
    have hx := h i hi
    simp only [hx, dif_pos]
    exact hx.choose_spec⟩
theorem Opens.slice {P : Program} {t e : TypeId} {α : Type} {d : Kd α} {wf : α → Prop} [Inhabited α] (ht : P.underlying t = some (.slice e)) (hc : P.cellsOf t = 1) (he : Opens P e d wf) :
    Opens P t (Kd.slice e d) (fun l => l.length ≤ maxLen ∧ ∀ x ∈ l, wf x) :=
  ⟨hc, fun {H enc w base spare held fuel cs x} h => by
    rcases Go.Deep.open_slice ht h with ⟨rfl, _⟩ | ⟨a, len, cap, m, n, D, Pl, rfl, hb, hl, hm, hmm, _, hx⟩
    · exact ⟨[], ⟨none, 0, rfl, Nat.le_refl _, ⟨rfl, by simp, fun h => absurd h (Nat.lt_irrefl 0)⟩⟩, by simp, by simp⟩
    · have hlm : len ≤ m := by rw [hmm]; split <;> omega
      obtain ⟨f, hf⟩ := row_choose (α := α) m (fun i v => ∃ cs', w.cells? base (a.add (i * P.cellsOf e)) (P.cellsOf e) = some cs' ∧ d.K w v cs' ∧ wf v) (fun i hi => by
        obtain ⟨cs', h1, h2⟩ := hx i hi
        obtain ⟨v, h3, h4⟩ := he.open_ h2
        exact ⟨v, cs', h1, h3, h4⟩)
      have hml : maxLen = 9223372036854775807 := rfl
      refine ⟨(List.range len).map f, ⟨some a, cap, by simp, by simpa using hl, ⟨by simp, by simp; omega, fun _ => ⟨a, rfl, fun j p hj => ?_⟩⟩⟩, by simp; omega, fun v hv => ?_⟩
      · rw [List.getElem?_map] at hj
        obtain ⟨i, hi, rfl⟩ := Option.map_eq_some_iff.1 hj
        have hij : j < len := by
          rcases Nat.lt_or_ge j len with h | h
          · exact h
          · rw [List.getElem?_eq_none (by simpa using h)] at hi; cases hi
        rw [List.getElem?_range hij] at hi
        injection hi with hi
        subst hi
        obtain ⟨cs', h1, h2, h3⟩ := hf j (by omega)
        obtain ⟨_, h4, h5⟩ := World.cells?_some h1
        rw [he.cells] at h4 h5 h1
        refine ⟨cs', h4, h2, fun i u hu => ?_⟩
        have hil : i < d.sz := by
          rw [← h4]
          exact (List.getElem?_eq_some_iff.1 hu).1
        rw [show j * d.sz + i = j * d.sz + i from rfl, ← add_add, h5 i hil]
        exact hu
      · obtain ⟨j, hj, rfl⟩ := List.mem_map.1 hv
        obtain ⟨_, _, _, h3⟩ := hf j (by have := List.mem_range.1 hj; omega)
        exact h3⟩
theorem K_pair {α β : Type} {a : Kd α} {b : Kd β} {w : World} {x : α} {y : β} {cs : List Value} (n : Nat) (h0 : a.K w x (cs.take n)) (h1 : b.K w y (cs.drop n)) : (Kd.pair a b).K w (x, y) cs :=
  ⟨cs.take n, cs.drop n, (List.take_append_drop n cs).symm, h0, h1⟩
/-- A struct's fields, one by one. -/
theorem struct_field {P : Program} {H : Type} {enc : TypeId × Value → H} {w : World} {base : Nat} {spare : Nat → Bool} {held : Bool} {fuel : Nat} {t : TypeId} {cs : List Value} {x : DataW H × List MemPlace} {fs : Array Field}
    (ht : P.underlying t = some (.struct fs)) (h : DataW.trod enc P w base spare held fuel t cs = some x) (i : Nat) {f : Field} (hf : fs[i]? = some f) {α : Type} {d : Kd α} {wf : α → Prop} (ho : Opens P f.type d wf) :
    ∃ v, d.K w v ((cs.drop f.offset).take d.sz) ∧ wf v := by
  obtain ⟨xs, n, _, _, _, hl, hx⟩ := DataW.trod_struct ht h
  have h1 := hx i f hf
  have hi : i < xs.length := by rw [hl]; exact (Array.getElem?_eq_some_iff.1 hf).1
  rw [List.getElem?_eq_getElem hi, ho.cells] at h1
  exact ho.open_ h1
theorem struct_cells {P : Program} {H : Type} {enc : TypeId × Value → H} {w : World} {base : Nat} {spare : Nat → Bool} {held : Bool} {fuel : Nat} {t : TypeId} {cs : List Value} {x : DataW H × List MemPlace} {fs : Array Field}
    (ht : P.underlying t = some (.struct fs)) (h : DataW.trod enc P w base spare held fuel t cs = some x) : cs.length = P.cellsOf t := by
  obtain ⟨xs, n, _, _, hl, _⟩ := DataW.trod_struct ht h
  exact hl
theorem drop_take_last {α : Type} {cs : List α} {k n : Nat} (h : cs.length = k + n) : (cs.drop k).take n = cs.drop k := List.take_of_length_le (by rw [List.length_drop]; omega)
theorem list_cons_of_len {α : Type} {cs : List α} {n : Nat} (h : cs.length = n + 1) : ∃ a l, cs = a :: l ∧ l.length = n := by
  cases cs with
  | nil => simp at h
  | cons a l => exact ⟨a, l, rfl, by simpa using h⟩
theorem toList_eq {α : Type} {cs : Array α} {l : List α} (h : cs.toList = l) : cs = l.toArray := by rw [← h]
theorem own : ownKnob Try.prog.godebug = none := by kernel_rfl
theorem laidOut : laidOutB Try.prog = true := by kernel_rfl
instance : Inhabited S26 := ⟨z26⟩
def wf26 (x : S26) : Prop := (fun l => l.length ≤ maxLen ∧ ∀ x ∈ l, (fun n => (Lit.int .u32 n).wf = true) x) x.f0
theorem op26 : Opens Try.prog 26 k26 wf26 :=
  ⟨by kernel_rfl, fun {H enc w base spare held fuel cs x} h => by
    have hl : cs.length = 1 := (struct_cells Try.underlying26 h).trans (by kernel_rfl)
    obtain ⟨v0, h0, w0⟩ := struct_field Try.underlying26 h 0 rfl (Opens.slice Try.underlying24 (by kernel_rfl) (Opens.int Try.underlying31 (by kernel_rfl)))
    obtain ⟨c0, l0, rfl, hm0⟩ := list_cons_of_len hl
    obtain rfl := List.eq_nil_of_length_eq_zero hm0
    exact ⟨⟨v0⟩, h0, w0⟩⟩
instance : Inhabited S36 := ⟨z36⟩
def wf36 (x : S36) : Prop := (fun n => (Lit.int .i64 n).wf = true) x.f0 ∧ (fun n => (Lit.int .i64 n).wf = true) x.f1 ∧ (fun n => (Lit.int .i64 n).wf = true) x.f2 ∧ (fun n => (Lit.int .i64 n).wf = true) x.f3 ∧ (fun n => (Lit.int .u32 n).wf = true) x.f4
theorem op36 : Opens Try.prog 36 k36 wf36 :=
  ⟨by kernel_rfl, fun {H enc w base spare held fuel cs x} h => by
    have hl : cs.length = 5 := (struct_cells Try.underlying36 h).trans (by kernel_rfl)
    obtain ⟨v0, h0, w0⟩ := struct_field Try.underlying36 h 0 rfl (Opens.int Try.underlying3 (by kernel_rfl))
    obtain ⟨v1, h1, w1⟩ := struct_field Try.underlying36 h 1 rfl (Opens.int Try.underlying3 (by kernel_rfl))
    obtain ⟨v2, h2, w2⟩ := struct_field Try.underlying36 h 2 rfl (Opens.int Try.underlying3 (by kernel_rfl))
    obtain ⟨v3, h3, w3⟩ := struct_field Try.underlying36 h 3 rfl (Opens.int Try.underlying3 (by kernel_rfl))
    obtain ⟨v4, h4, w4⟩ := struct_field Try.underlying36 h 4 rfl (Opens.int Try.underlying31 (by kernel_rfl))
    obtain ⟨c0, l0, rfl, hm0⟩ := list_cons_of_len hl
    obtain ⟨c1, l1, rfl, hm1⟩ := list_cons_of_len hm0
    obtain ⟨c2, l2, rfl, hm2⟩ := list_cons_of_len hm1
    obtain ⟨c3, l3, rfl, hm3⟩ := list_cons_of_len hm2
    obtain ⟨c4, l4, rfl, hm4⟩ := list_cons_of_len hm3
    obtain rfl := List.eq_nil_of_length_eq_zero hm4
    exact ⟨⟨v0, v1, v2, v3, v4⟩, ⟨[c0], [c1, c2, c3, c4], rfl, h0, ⟨[c1], [c2, c3, c4], rfl, h1, ⟨[c2], [c3, c4], rfl, h2, ⟨[c3], [c4], rfl, h3, h4⟩⟩⟩⟩, ⟨w0, w1, w2, w3, w4⟩⟩⟩
end Go.Proofs.Ytkhbffjfclepfaa.Q

/- Function 15, mainsheet_mainsheetref08_Copy: contracts over the given program's functions, one a function; no condition beyond those that each theorem states. Written by this session's program over the kit's printer, and by hand. -/
namespace Go.Proofs.Ytkhbffjfclepfaa.Q
open Go.RowKit Go.Proofs.YtkhbffjfclepfaaW.PrintWords Go.Proofs.YtkhbffjfclepfaaW.PrintLast Go.Proofs.YtkhbffjfclepfaaW.PrintMore
attribute [local go_sem] max2_int min2_int max_two min_two max_three min_three max_four min_four
set_option linter.unusedVariables false
set_option linter.unusedSimpArgs false

/-! ### mainsheetref08_Copy: function 15 -/
def mainsheetref08_Copy.f (l0_0 : List Int) : Option (List Int) := (some (([] : List Int) : List Int)).bind fun y144 => (if y144.length + l0_0.length < 35184372088832 then (some (y144 ++ l0_0)) else (none))
set_option maxHeartbeats 8000000 in
set_option maxRecDepth 100000 in
theorem mainsheetref08_Copy.calls (A0_0 : Option Addr) (c0_0 : Nat) (l0_0 : List Int) (r : List Int) (w : World) (hr0_0 : Kd.C (Kd.int .u32) w A0_0 l0_0.length l0_0) (hc0_0 : l0_0.length ≤ c0_0) (h : mainsheetref08_Copy.f l0_0 = some r) :
    Calls Try.prog 15 #[.agg #[.slice A0_0 l0_0.length c0_0]] w fun e w' => ∃ v0_ : Value, e = .returned (.agg #[v0_]) ∧ Kd.R (Kd.int .u32) 31 w' w.heap.size (fun _ => True) v0_ r ∧ Below w.heap.size w w' := by
  have hu26 := Try.underlying26
  have HR0_0 := Aside0.mk hr0_0
  have HC0_0 := Aside0.mk hc0_0
  clear hr0_0 hc0_0
  have HB := Aside0.mk (Below.refl w.heap.size w)
  have H : ((some (([] : List Int) : List Int)).bind fun y144 => (if y144.length + l0_0.length < 35184372088832 then (some (y144 ++ l0_0)) else (none))) = some r := h
  clear h
  obtain ⟨y144, hy144⟩ : ∃ y_ : List Int, y_ = (([] : List Int)) := ⟨_, rfl⟩
  replace H : (if y144.length + l0_0.length < 35184372088832 then (some (y144 ++ l0_0)) else (none)) = some r := by first | (rw [hy144]; with_reducible exact H) | (have H2_ := (Option.bind_some _ _).symm.trans H; rw [hy144]; with_reducible exact H2_) | (have H2_ := (Option.bind_some _ _).symm.trans H; with_reducible exact H2_) | with_reducible exact H | (rw [hy144]; exact H) | exact H
  have Ny144 := Aside0.mk hy144
  clear hy144
  by_cases c2 : y144.length + l0_0.length < 35184372088832
  · rw [if_pos c2] at H
    have LMc2 := Aside0.mk c2
    clear c2
    obtain ⟨y147, hy147⟩ : ∃ y_ : List Int, y_ = (y144 ++ l0_0) := ⟨_, rfl⟩
    replace H : (some y147) = some r := by first | (rw [hy147]; with_reducible exact H) | (have H2_ := (Option.bind_some _ _).symm.trans H; rw [hy147]; with_reducible exact H2_) | (have H2_ := (Option.bind_some _ _).symm.trans H; with_reducible exact H2_) | with_reducible exact H | (rw [hy147]; exact H) | exact H
    have Ny147 := Aside0.mk hy147
    clear hy147
    obtain rfl := Option.some.inj H
    go_enter Try.func15, Try.ntmps15
    go_wp2_with (first | ((with_reducible refine gate_dst (N := 1) rfl ?_); refine box_event ?hg (N := 1) ?hd (cs := #[.slice A0_0 l0_0.length c0_0]) (t := 26) ?hr ?_; (case hd => rfl); (case hg => rfl); (case hr => first | (go_simp; done) | (go_simp; rfl)); intro gb142 hg w3 hbox hb; have n0_ := Aside0.mk (below_step (by repeat (first | (with_reducible first | exact HB.out | apply below_alloc | apply pw_below_drewN | apply below_drew1) | exact HB.out)) hb); have n1_ := Aside0.mk (hbox); have n2_ := Aside0.mk ((by rw [hg]; exact (below_size (by repeat (first | (with_reducible first | exact HB.out | apply below_alloc | apply pw_below_drewN | apply below_drew1) | exact HB.out))) : w.heap.size ≤ gb142)); have n3_ := Aside0.mk ((by rw [hg]; exact (below_size (by repeat (first | (with_reducible first | exact HB.out | apply below_alloc | apply pw_below_drewN | apply below_drew1) | exact HB.out))) : w.heap.size ≤ gb142)); clear HB; have HB := n0_; have BK142 := n1_; have GW142 := n2_; have GE142 := n3_; clear n0_ n1_ n2_ n3_; clear hb hbox hg) | ((with_reducible refine gate_dst (N := 2) rfl ?_); refine box_event ?hg (N := 2) ?hd (cs := #[.slice none 0 0]) (t := 26) ?hr ?_; (case hd => rfl); (case hg => rfl); (case hr => first | (go_simp; done) | (go_simp; rfl)); intro gb143 hg w4 hbox hb; have n0_ := Aside0.mk (blk_below (g := gb142) (o := .cells #[.slice A0_0 l0_0.length c0_0] 26 (0, 0)) (by (with_reducible repeat (first | refine blk_drewN ?_ _ | refine blk_drew ?_ | refine blk_alloc ?_ _)); exact BK142.out) hb); have n1_ := Aside0.mk (below_step (by repeat (first | (with_reducible first | exact HB.out | apply below_alloc | apply pw_below_drewN | apply below_drew1 | refine below_set ?_ GE142.out) | exact HB.out)) hb); have n2_ := Aside0.mk (hbox); have n3_ := Aside0.mk ((by rw [hg]; exact (below_size (by repeat (first | (with_reducible first | exact HB.out | apply below_alloc | apply pw_below_drewN | apply below_drew1 | refine below_set ?_ GE142.out) | exact HB.out))) : w.heap.size ≤ gb143)); have n4_ := Aside0.mk ((by rw [hg]; exact (below_size (by repeat (first | (with_reducible first | exact HB.out | apply below_alloc | apply pw_below_drewN | apply below_drew1 | refine below_set ?_ GE142.out) | exact HB.out))) : w.heap.size ≤ gb143)); have n5_ := Aside0.mk ((by rw [hg]; exact Nat.ne_of_lt (blk_lt (g := gb142) (o := .cells #[.slice A0_0 l0_0.length c0_0] 26 (0, 0)) (by (with_reducible repeat (first | refine blk_drewN ?_ _ | refine blk_drew ?_ | refine blk_alloc ?_ _)); exact BK142.out)) : gb142 ≠ gb143)); have n6_ := Aside0.mk ((by rw [hg]; exact Nat.ne_of_gt (blk_lt (g := gb142) (o := .cells #[.slice A0_0 l0_0.length c0_0] 26 (0, 0)) (by (with_reducible repeat (first | refine blk_drewN ?_ _ | refine blk_drew ?_ | refine blk_alloc ?_ _)); exact BK142.out)) : gb143 ≠ gb142)); clear BK142; clear HB; have BK142 := n0_; have HB := n1_; have BK143 := n2_; have GW143 := n3_; have GE143 := n4_; have NB142_143 := n5_; have NB143_142 := n6_; clear n0_ n1_ n2_ n3_ n4_ n5_ n6_; clear hb hbox hg) | ((with_reducible refine gate_dst (N := 3) rfl ?_); refine Kd.R_lit (Kd.int .u32) _ 31 ?hg (N := 3) ?hd (xs := ([] : List Int)) (inner := []) (ok := fun _ => True) (okp := fun _ => True) ?hr ?hp (fun _ hk => hk) trivial (Below.refl _ _) (Nat.le_refl _) (by simp) ?_; (case hd => rfl); (case hg => rfl); (case hr => first | (go_simp; done) | (go_simp; rfl)); (case hp => exact (Reps.none _ _)); intro v145 w5 ho6 hb hg_ hnew_; clear hg_ hnew_; (first | rw [← Ny144.out] at ho6 | (simp only [Int.reduceToNat] at ho6; rw [← Ny144.out] at ho6)); have n0_ := Aside0.mk (Kd.R_lower ho6 (below_size (by repeat (first | (with_reducible first | exact HB.out | apply below_alloc | apply pw_below_drewN | apply below_drew1 | refine below_set ?_ GE142.out | refine below_set ?_ GE143.out) | exact HB.out)))); have n1_ := Aside0.mk (blk_below (g := gb142) (o := .cells #[.slice A0_0 l0_0.length c0_0] 26 (0, 0)) (by (with_reducible repeat (first | refine blk_drewN ?_ _ | refine blk_drew ?_ | refine blk_alloc ?_ _)); exact BK142.out) hb); have n2_ := Aside0.mk (blk_below (g := gb143) (o := .cells #[.slice none 0 0] 26 (0, 0)) (by (with_reducible repeat (first | refine blk_drewN ?_ _ | refine blk_drew ?_ | refine blk_alloc ?_ _)); exact BK143.out) hb); have n3_ := Aside0.mk (below_step (by repeat (first | (with_reducible first | exact HB.out | apply below_alloc | apply pw_below_drewN | apply below_drew1 | refine below_set ?_ GE142.out | refine below_set ?_ GE143.out) | exact HB.out)) hb); clear BK142; clear BK143; clear HB; have HO146 := n0_; have BK142 := n1_; have BK143 := n2_; have HB := n3_; clear n0_ n1_ n2_ n3_; clear hb ho6; have hnb7 := NB142_143.out; have hnc7 := NB143_142.out; have hcz8_0 : w5.cell? ⟨gb142, 0, none⟩ = some (.slice A0_0 l0_0.length c0_0) := (blk_cell BK142.out 0).trans rfl; have hfz8_0 := blk_frozen BK142.out 0) | ((with_reducible refine gate_builtin (b := .append) (xs := #[.tmp 3, .tmp 5]) rfl ?_); at_builtin; refine Kd.R_append_rows (Kd.int .u32) (w0 := w) w.heap.size rfl (.tmp 3) (.tmp 5) 24 31 (.int .u32 0) 4 rfl Try.underlying24 info31 rfl (by decide) (by omega) v145 y144 l0_0 _ _ _ (fun _ => True) (fun _ => False) rfl rfl ?aO ?aR (fun _ _ h => h) (fun _ h => h.elim) ?aF ?aB ?aS ?aL ?_; (case aR => repeat (first | exact (Kd.C_below HR0_0.out HB.out) | (with_reducible refine Kd.C_alloc ?_ _) | (with_reducible refine Kd.C_drewN ?_ _) | (with_reducible refine Kd.C_drew ?_))); (case aB => exact (by repeat (first | (with_reducible first | exact HB.out | apply below_alloc | apply pw_below_drewN | apply below_drew1 | refine below_set ?_ GE142.out | refine below_set ?_ GE143.out) | exact HB.out))); (case aF => exact (fun _ _ => trivial)); (case aO => exact (by (with_reducible repeat (first | apply Kd.R_alloc | apply Kd.R_drewN | apply Kd.R_drew)); exact HO146.out)); (case aS => exact (below_size (by repeat (first | (with_reducible first | exact HB.out | apply below_alloc | apply pw_below_drewN | apply below_drew1 | refine below_set ?_ GE142.out | refine below_set ?_ GE143.out) | exact HB.out)))); (case aL => have := LMc2.out; omega); intro v148 w9 ho hb hg hat; rw [← Ny147.out] at ho; have n0_ := Aside0.mk (blk_grown (g := gb142) (o := .cells #[.slice A0_0 l0_0.length c0_0] 26 (0, 0)) (by (with_reducible repeat (first | refine blk_drewN ?_ _ | refine blk_drew ?_ | refine blk_alloc ?_ _)); exact BK142.out) hg (Kd.R_ne HO146.out BK142.out (by decide))); have n1_ := Aside0.mk (blk_grown (g := gb143) (o := .cells #[.slice none 0 0] 26 (0, 0)) (by (with_reducible repeat (first | refine blk_drewN ?_ _ | refine blk_drew ?_ | refine blk_alloc ?_ _)); exact BK143.out) hg (Kd.R_ne HO146.out BK143.out (by decide))); have n2_ := Aside0.mk (hb); have n3_ := Aside0.mk (ho); clear BK142; clear BK143; clear HB; clear HO146; have BK142 := n0_; have BK143 := n1_; have HB := n2_; have HO149 := n3_; clear n0_ n1_ n2_ n3_; clear ho hb hg hat; obtain ⟨Ao10, co10, eo10⟩ := Kd.R_slice HO149.out; subst eo10; have hcz11_0 : w9.cell? ⟨gb143, 0, none⟩ = some (.slice none 0 0) := (blk_cell BK143.out 0).trans rfl; have hfz11_0 := blk_frozen BK143.out 0))
    refine bodyPost_ret (results_cell_row rfl _ _ gb143 26 #[.slice Ao10 y147.length co10] (0, 0) _ rfl (by (with_reducible repeat (first | refine blk_drewN ?_ _ | refine blk_drew ?_ | refine blk_alloc ?_ _)); refine blk_put (cs := #[.slice none 0 0]) ?_ 0 _ rfl; (with_reducible repeat (first | refine blk_drewN ?_ _ | refine blk_drew ?_ | refine blk_alloc ?_ _)); exact BK143.out) Try.underlying26 rfl (by kernel_rfl)) rfl ?_
    exact ⟨_, by first | rfl | (simp [errW_none, errW_some] <;> rfl) | (simp [*, errW_none, errW_some] <;> rfl), by (with_reducible repeat (first | apply Kd.R_alloc | apply Kd.R_drewN | apply Kd.R_drew)); exact Kd.R_mono (Kd.R_far (p := ⟨gb143, 0, none⟩) (Kd.R_types HO149.out BK143.out (by decide)) (fun _ hk => hk.2) (.slice Ao10 y147.length co10)) (fun _ hk => trivial), by repeat (first | (with_reducible first | exact HB.out | apply below_alloc | apply pw_below_drewN | apply below_drew1 | refine below_set ?_ GE142.out | refine below_set ?_ GE143.out) | exact HB.out)⟩
  · rw [if_neg c2] at H
    exact absurd H (by simp)

end Go.Proofs.Ytkhbffjfclepfaa.Q

/- Function 11, mainsheet_mainsheetlaw08_short: contracts over the given program's functions, one a function; no condition beyond those that each theorem states. Written by this session's program over the kit's printer, and by hand. -/
namespace Go.Proofs.Ytkhbffjfclepfaa.Q
open Go.RowKit Go.Proofs.YtkhbffjfclepfaaW.PrintWords Go.Proofs.YtkhbffjfclepfaaW.PrintLast Go.Proofs.YtkhbffjfclepfaaW.PrintMore
attribute [local go_sem] max2_int min2_int max_two min_two max_three min_three max_four min_four
set_option linter.unusedVariables false
set_option linter.unusedSimpArgs false

/-! ### mainsheetlaw08_short: function 11 -/
def mainsheetlaw08_short.f (l0_0 : List Int) : Option (List Int) := if 0 ≤ (mn (l0_0.length : Int) 12) then (if (mn (l0_0.length : Int) 12) ≤ (l0_0.length : Int) then ((mainsheetref08_Copy.f (l0_0.take ((mn (l0_0.length : Int) 12) : Int).toNat)).bind fun t153 => (some t153)) else (none)) else (none)
set_option maxHeartbeats 8000000 in
set_option maxRecDepth 100000 in
theorem mainsheetlaw08_short.calls (A0_0 : Option Addr) (c0_0 : Nat) (l0_0 : List Int) (r : List Int) (w : World) (hr0_0 : Kd.C (Kd.int .u32) w A0_0 l0_0.length l0_0) (hc0_0 : l0_0.length ≤ c0_0) (h : mainsheetlaw08_short.f l0_0 = some r) :
    Calls Try.prog 11 #[.agg #[.slice A0_0 l0_0.length c0_0]] w fun e w' => ∃ v0_ : Value, e = .returned (.agg #[v0_]) ∧ Kd.R (Kd.int .u32) 31 w' w.heap.size (fun _ => True) v0_ r ∧ Below w.heap.size w w' := by
  have hu26 := Try.underlying26
  have HR0_0 := Aside0.mk hr0_0
  have HC0_0 := Aside0.mk hc0_0
  clear hr0_0 hc0_0
  have HB := Aside0.mk (Below.refl w.heap.size w)
  have H : (if 0 ≤ (mn (l0_0.length : Int) 12) then (if (mn (l0_0.length : Int) 12) ≤ (l0_0.length : Int) then ((mainsheetref08_Copy.f (l0_0.take ((mn (l0_0.length : Int) 12) : Int).toNat)).bind fun t153 => (some t153)) else (none)) else (none)) = some r := h
  clear h
  obtain ⟨ji2, hji2⟩ : ∃ j_ : Int, (mn (l0_0.length : Int) 12) = j_ := ⟨_, rfl⟩
  replace H : (if 0 ≤ (ji2) then (if (ji2) ≤ (l0_0.length : Int) then ((mainsheetref08_Copy.f (l0_0.take ((ji2) : Int).toNat)).bind fun t153 => (some t153)) else (none)) else (none)) = some r := by first | (rw [hji2] at H; exact H) | (simp only [hji2] at H ⊢; exact H)
  (try (have hji2h : ji2 ≤ 12 := by (rw [← hji2]; unfold mn; (repeat' split) <;> omega)))
  (try (have hji2g : ji2 ≤ 64 := by omega))
  (try (have hji2l : 0 ≤ ji2 := by (rw [← hji2]; unfold mn; (repeat' split) <;> omega)))
  (try (have hji2m : 0 ≤ ji2 := by omega))
  have hji2_ : (if 12 < (l0_0.length : Int) then 12 else (l0_0.length : Int)) = ji2 := hji2
  by_cases c3 : 0 ≤ (ji2)
  · rw [if_pos c3] at H
    have c3b0 := eq_true c3
    have c3b1 : decide (0 ≤ (ji2)) = true := decide_eq_true c3
    clear c3
    by_cases c4 : (ji2) ≤ (l0_0.length : Int)
    · rw [if_pos c4] at H
      have c4b0 := eq_true c4
      have c4b1 : decide ((ji2) ≤ (l0_0.length : Int)) = true := decide_eq_true c4
      clear c4
      replace H := Option.bind_eq_some_iff.mp H
      obtain ⟨t153, A50, H⟩ := H
      replace H : (some t153) = some r := H
      have A5 := Aside0.mk A50
      clear A50
      obtain rfl := Option.some.inj H
      go_enter Try.func11, Try.ntmps11
      go_wp2_with (first | ((with_reducible refine gate_dst (N := 1) rfl ?_); refine box_event ?hg (N := 1) ?hd (cs := #[.slice A0_0 l0_0.length c0_0]) (t := 26) ?hr ?_; (case hd => rfl); (case hg => rfl); (case hr => first | (go_simp; done) | (go_simp; rfl)); intro gb150 hg w6 hbox hb; have n0_ := Aside0.mk (below_step (by repeat (first | (with_reducible first | exact HB.out | apply below_alloc | apply pw_below_drewN | apply below_drew1) | exact HB.out)) hb); have n1_ := Aside0.mk (hbox); have n2_ := Aside0.mk ((by rw [hg]; exact (below_size (by repeat (first | (with_reducible first | exact HB.out | apply below_alloc | apply pw_below_drewN | apply below_drew1) | exact HB.out))) : w.heap.size ≤ gb150)); have n3_ := Aside0.mk ((by rw [hg]; exact (below_size (by repeat (first | (with_reducible first | exact HB.out | apply below_alloc | apply pw_below_drewN | apply below_drew1) | exact HB.out))) : w.heap.size ≤ gb150)); clear HB; have HB := n0_; have BK150 := n1_; have GW150 := n2_; have GE150 := n3_; clear n0_ n1_ n2_ n3_; clear hb hbox hg) | ((with_reducible refine gate_dst (N := 2) rfl ?_); refine box_event ?hg (N := 2) ?hd (cs := #[.slice none 0 0]) (t := 26) ?hr ?_; (case hd => rfl); (case hg => rfl); (case hr => first | (go_simp; done) | (go_simp; rfl)); intro gb151 hg w7 hbox hb; have n0_ := Aside0.mk (blk_below (g := gb150) (o := .cells #[.slice A0_0 l0_0.length c0_0] 26 (0, 0)) (by (with_reducible repeat (first | refine blk_drewN ?_ _ | refine blk_drew ?_ | refine blk_alloc ?_ _)); exact BK150.out) hb); have n1_ := Aside0.mk (below_step (by repeat (first | (with_reducible first | exact HB.out | apply below_alloc | apply pw_below_drewN | apply below_drew1 | refine below_set ?_ GE150.out) | exact HB.out)) hb); have n2_ := Aside0.mk (hbox); have n3_ := Aside0.mk ((by rw [hg]; exact (below_size (by repeat (first | (with_reducible first | exact HB.out | apply below_alloc | apply pw_below_drewN | apply below_drew1 | refine below_set ?_ GE150.out) | exact HB.out))) : w.heap.size ≤ gb151)); have n4_ := Aside0.mk ((by rw [hg]; exact (below_size (by repeat (first | (with_reducible first | exact HB.out | apply below_alloc | apply pw_below_drewN | apply below_drew1 | refine below_set ?_ GE150.out) | exact HB.out))) : w.heap.size ≤ gb151)); have n5_ := Aside0.mk ((by rw [hg]; exact Nat.ne_of_lt (blk_lt (g := gb150) (o := .cells #[.slice A0_0 l0_0.length c0_0] 26 (0, 0)) (by (with_reducible repeat (first | refine blk_drewN ?_ _ | refine blk_drew ?_ | refine blk_alloc ?_ _)); exact BK150.out)) : gb150 ≠ gb151)); have n6_ := Aside0.mk ((by rw [hg]; exact Nat.ne_of_gt (blk_lt (g := gb150) (o := .cells #[.slice A0_0 l0_0.length c0_0] 26 (0, 0)) (by (with_reducible repeat (first | refine blk_drewN ?_ _ | refine blk_drew ?_ | refine blk_alloc ?_ _)); exact BK150.out)) : gb151 ≠ gb150)); clear BK150; clear HB; have BK150 := n0_; have HB := n1_; have BK151 := n2_; have GW151 := n3_; have GE151 := n4_; have NB150_151 := n5_; have NB151_150 := n6_; clear n0_ n1_ n2_ n3_ n4_ n5_ n6_; clear hb hbox hg; have hnb8 := NB150_151.out; have hnc8 := NB151_150.out; have hcz9_0 : w7.cell? ⟨gb150, 0, none⟩ = some (.slice A0_0 l0_0.length c0_0) := (blk_cell BK150.out 0).trans rfl; have hfz9_0 := blk_frozen BK150.out 0; obtain ⟨i010, hi010, _, hsz10, _⟩ := info_parts info31; obtain ⟨hcut10, hA10, hC10⟩ := print_take_of (P := Try.prog) (Value.int .u32) 0 24 31 .i64 Try.underlying24 hi010 hsz10 A0_0 c0_0 l0_0 (ji2) (of_decide_eq_true (by first | (with_reducible assumption) | assumption)) (of_decide_eq_true (by first | (with_reducible assumption) | assumption)) HC0_0.out; have HR152 := Aside0.mk (Kd.C_of_reads (h1 := fun _ => rfl) (hA10 _ (Kd.reads_of_C HR0_0.out))); have HC152 := Aside0.mk hC10; clear hA10 hC10 hi010 hsz10) | ((with_reducible refine gate_callee (f := 15) rfl ?_); refine goesL_ (some 11) rfl rfl Try.func15 (by kernel_rfl) rfl #[.agg #[.slice A0_0 (l0_0.take ((ji2) : Int).toNat).length c0_0]] rfl (by (try simp only [List.map_toArray, List.map_cons, List.map_nil]); first | done | (rw [show (l0_0.take ((ji2) : Int).toNat).length = (ji2).toNat from (by rw [List.length_take]; have h_ : ((ji2) : Int) ≤ (l0_0.length : Int) := of_decide_eq_true (by first | (with_reducible assumption) | assumption); omega)] <;> rfl) | (simp only [hji2]; rfl) | rfl | (simp only [List.length_drop, List.length_take]; rfl)) ?_; (with_reducible refine (mainsheetref08_Copy.calls _ _ (l0_0.take ((ji2) : Int).toNat) t153 _ ?side1 ?side2 A5.out).mono ?_); (case side1 => repeat (first | exact (Kd.C_below HR152.out HB.out) | (with_reducible refine Kd.C_alloc ?_ _) | (with_reducible refine Kd.C_drewN ?_ _) | (with_reducible refine Kd.C_drew ?_))); (case side2 => exact HC152.out); rintro e w11 ⟨v154, rfl, ho0, hb⟩; refine ⟨_, rfl, ?_⟩; have n0_ := Aside0.mk (Kd.R_lower ho0 (below_size (by repeat (first | (with_reducible first | exact HB.out | apply below_alloc | apply pw_below_drewN | apply below_drew1 | refine below_set ?_ GE150.out | refine below_set ?_ GE151.out) | exact HB.out)))); have n1_ := Aside0.mk (blk_below (g := gb150) (o := .cells #[.slice A0_0 l0_0.length c0_0] 26 (0, 0)) (by (with_reducible repeat (first | refine blk_drewN ?_ _ | refine blk_drew ?_ | refine blk_alloc ?_ _)); exact BK150.out) hb); have n2_ := Aside0.mk (blk_below (g := gb151) (o := .cells #[.slice none 0 0] 26 (0, 0)) (by (with_reducible repeat (first | refine blk_drewN ?_ _ | refine blk_drew ?_ | refine blk_alloc ?_ _)); exact BK151.out) hb); have n3_ := Aside0.mk (below_step (by repeat (first | (with_reducible first | exact HB.out | apply below_alloc | apply pw_below_drewN | apply below_drew1 | refine below_set ?_ GE150.out | refine below_set ?_ GE151.out) | exact HB.out)) hb); clear BK150; clear BK151; clear HB; have HO155 := n0_; have BK150 := n1_; have BK151 := n2_; have HB := n3_; clear n0_ n1_ n2_ n3_; (try clear hb); (try clear hb2); (try clear hk); (try clear hi); (try clear ho0); obtain ⟨Ao12, co12, eo12⟩ := Kd.R_slice HO155.out; subst eo12; have hcz13_0 : w11.cell? ⟨gb151, 0, none⟩ = some (.slice none 0 0) := (blk_cell BK151.out 0).trans rfl; have hfz13_0 := blk_frozen BK151.out 0))
      refine bodyPost_ret (results_cell_row rfl _ _ gb151 26 #[.slice Ao12 t153.length co12] (0, 0) _ rfl (by (with_reducible repeat (first | refine blk_drewN ?_ _ | refine blk_drew ?_ | refine blk_alloc ?_ _)); refine blk_put (cs := #[.slice none 0 0]) ?_ 0 _ rfl; (with_reducible repeat (first | refine blk_drewN ?_ _ | refine blk_drew ?_ | refine blk_alloc ?_ _)); exact BK151.out) Try.underlying26 rfl (by kernel_rfl)) rfl ?_
      exact ⟨_, by first | rfl | (simp [errW_none, errW_some] <;> rfl) | (simp only [← hji2]; first | rfl | (simp [errW_none, errW_some] <;> rfl)) | (simp [*, errW_none, errW_some] <;> rfl), by (with_reducible repeat (first | apply Kd.R_alloc | apply Kd.R_drewN | apply Kd.R_drew)); exact Kd.R_mono (Kd.R_far (p := ⟨gb151, 0, none⟩) (Kd.R_types HO155.out BK151.out (by decide)) (fun _ hk => hk.2) (.slice Ao12 t153.length co12)) (fun _ hk => trivial), by repeat (first | (with_reducible first | exact HB.out | apply below_alloc | apply pw_below_drewN | apply below_drew1 | refine below_set ?_ GE150.out | refine below_set ?_ GE151.out) | exact HB.out)⟩
    · rw [if_neg c4] at H
      exact absurd H (by simp)
  · rw [if_neg c3] at H
    exact absurd H (by simp)

end Go.Proofs.Ytkhbffjfclepfaa.Q

/- Function 38, mainsheet_cpuset_Check: contracts over the given program's functions, one a function; no condition beyond those that each theorem states. Written by this session's program over the kit's printer, and by hand. -/
namespace Go.Proofs.Ytkhbffjfclepfaa.Q
open Go.RowKit Go.Proofs.YtkhbffjfclepfaaW.PrintWords Go.Proofs.YtkhbffjfclepfaaW.PrintLast Go.Proofs.YtkhbffjfclepfaaW.PrintMore
attribute [local go_sem] max2_int min2_int max_two min_two max_three min_three max_four min_four
set_option linter.unusedVariables false
set_option linter.unusedSimpArgs false

/-! ### cpuset_Check: function 38 -/
def cpuset_Check.f (a0 : Int) : Option (Int) := if (Go.bits .andNot .u32 a0 255) = 0 then (some 0) else (some 140)
set_option maxHeartbeats 8000000 in
set_option maxRecDepth 100000 in
theorem cpuset_Check.calls (a0 : Int) (r : Int) (w : World) (h : cpuset_Check.f a0 = some r) :
    Calls Try.prog 38 #[.int .u32 a0] w fun e w' => e = .returned (.int .i64 r) ∧ Drawn0 w w' := by
  have H : (if (Go.bits .andNot .u32 a0 255) = 0 then (some 0) else (some 140)) = some r := h
  clear h
  by_cases c2 : (Go.bits .andNot .u32 a0 255) = 0
  · rw [if_pos c2] at H
    have c2b0 : ((Go.bits .andNot .u32 a0 255) == 0) = true := beq_iff_eq.mpr c2
    have c2b1 : ((Go.bits .andNot .u32 a0 255) != 0) = false := bne_eq_false_iff_eq.mpr c2
    clear c2
    obtain rfl := Option.some.inj H
    go_enter Try.func38, Try.ntmps38
    go_wp2
    go_ret
    exact ⟨by first | rfl | (simp; done) | (simp [*]; done), by repeat (first | exact Drawn0.refl _ | apply Drawn0.step)⟩
  · rw [if_neg c2] at H
    have c2b0 : ((Go.bits .andNot .u32 a0 255) == 0) = false := beq_eq_false_iff_ne.mpr c2
    have c2b1 : ((Go.bits .andNot .u32 a0 255) != 0) = true := bne_iff_ne.mpr c2
    obtain rfl := Option.some.inj H
    go_enter Try.func38, Try.ntmps38
    go_wp2
    go_ret
    exact ⟨by first | rfl | (simp; done) | (simp [*]; done), by repeat (first | exact Drawn0.refl _ | apply Drawn0.step)⟩

end Go.Proofs.Ytkhbffjfclepfaa.Q

/- Function 17, mainsheet_pool_Check: contracts over the given program's functions, one a function; no condition beyond those that each theorem states. Written by this session's program over the kit's printer, and by hand. -/
namespace Go.Proofs.Ytkhbffjfclepfaa.Q
open Go.RowKit Go.Proofs.YtkhbffjfclepfaaW.PrintWords Go.Proofs.YtkhbffjfclepfaaW.PrintLast Go.Proofs.YtkhbffjfclepfaaW.PrintMore
attribute [local go_sem] max2_int min2_int max_two min_two max_three min_three max_four min_four
set_option linter.unusedVariables false
set_option linter.unusedSimpArgs false

/-! ### pool_Check: function 17 -/
mutual
def pool_Check.j0 : Nat → Bool → List Int → Option (Int)
  | 0, _, _ => none
  | k + 1, x3, x108000 => pool_Check.l0 k x3 0 x108000 (x108000.length : Int) 0
def pool_Check.l0 : Nat → Bool → Int → List Int → Int → Int → Option (Int)
  | 0, _, _, _, _, _ => none
  | k + 1, x3, x4, x18, x19, x20 => if x20 < x19 then (if 0 ≤ x20 then (if x20 < (x18.length : Int) then (if x3 = true then (if (rd x18 x20) = 0 then (pool_Check.l0 k false (Go.bits .or .u32 x4 (rd x18 x20)) x18 x19 (wrap64 (x20 + 1))) else ((cpuset_Check.f (rd x18 x20)).bind fun t109 => (if t109 = 0 then (pool_Check.l0 k ((Go.bits .and .u32 (rd x18 x20) x4) == 0) (Go.bits .or .u32 x4 (rd x18 x20)) x18 x19 (wrap64 (x20 + 1))) else (pool_Check.l0 k false (Go.bits .or .u32 x4 (rd x18 x20)) x18 x19 (wrap64 (x20 + 1)))))) else (pool_Check.l0 k false (Go.bits .or .u32 x4 (rd x18 x20)) x18 x19 (wrap64 (x20 + 1)))) else (none)) else (none)) else (if x3 = true then (if (Go.bits .and .u32 x4 ((x4 + 1) % 4294967296)) = 0 then (some 0) else (some 180)) else (some 180))
end
def pool_Check.f (k : Nat) (l0_0 : List Int) : Option (Int) := if (l0_0.length : Int) > 0 then (pool_Check.j0 k (decide ((l0_0.length : Int) ≤ 4)) l0_0) else (pool_Check.j0 k false l0_0)
theorem pool_Check.mono_l : ∀ k, (∀ y0 y1, LeO (pool_Check.j0 k y0 y1) (pool_Check.j0 (k + 1) y0 y1)) ∧ (∀ y0 y1 y2 y3 y4, LeO (pool_Check.l0 k y0 y1 y2 y3 y4) (pool_Check.l0 (k + 1) y0 y1 y2 y3 y4))
  | 0 => ⟨fun _ _ r h => by simp [pool_Check.j0] at h, fun _ _ _ _ _ r h => by simp [pool_Check.l0] at h⟩
  | k + 1 => by
    obtain ⟨ih0, ih1⟩ := pool_Check.mono_l k
    refine ⟨?_, ?_⟩
    · intro y0 y1
      unfold pool_Check.j0
      repeat' first
      | (with_reducible exact ih0 _ _)
      | (with_reducible exact ih1 _ _ _ _ _)
      | (with_reducible exact LeO.refl _)
      | (with_reducible exact LeO.none _)
      | (with_reducible refine LeO.ite ?_ ?_)
      | (with_reducible refine LeO.bind ?_ (fun _ => ?_))
      | exact ih0 _ _
      | exact ih1 _ _ _ _ _
      | exact LeO.none _
      | refine LeO.ite ?_ ?_
      | refine LeO.bind ?_ (fun _ => ?_)
    · intro y0 y1 y2 y3 y4
      unfold pool_Check.l0
      repeat' first
      | (with_reducible exact ih0 _ _)
      | (with_reducible exact ih1 _ _ _ _ _)
      | (with_reducible exact LeO.refl _)
      | (with_reducible exact LeO.none _)
      | (with_reducible refine LeO.ite ?_ ?_)
      | (with_reducible refine LeO.bind ?_ (fun _ => ?_))
      | exact ih0 _ _
      | exact ih1 _ _ _ _ _
      | exact LeO.none _
      | refine LeO.ite ?_ ?_
      | refine LeO.bind ?_ (fun _ => ?_)
theorem pool_Check.mono : ∀ a0 k, LeO (pool_Check.f k a0) (pool_Check.f (k + 1) a0) := by
  intro a0 k
  obtain ⟨ih0, ih1⟩ := pool_Check.mono_l k
  unfold pool_Check.f
  repeat' first
      | (with_reducible exact ih0 _ _)
      | (with_reducible exact ih1 _ _ _ _ _)
      | (with_reducible exact LeO.refl _)
      | (with_reducible exact LeO.none _)
      | (with_reducible refine LeO.ite ?_ ?_)
      | (with_reducible refine LeO.bind ?_ (fun _ => ?_))
      | exact ih0 _ _
      | exact ih1 _ _ _ _ _
      | exact LeO.none _
      | refine LeO.ite ?_ ?_
      | refine LeO.bind ?_ (fun _ => ?_)
set_option maxHeartbeats 8000000 in
set_option maxRecDepth 100000 in
theorem pool_Check.calls (k : Nat) (A0_0 : Option Addr) (c0_0 : Nat) (l0_0 : List Int) (r : Int) (w : World) (hr0_0 : Kd.C (Kd.int .u32) w A0_0 l0_0.length l0_0) (hc0_0 : l0_0.length ≤ c0_0) (h : pool_Check.f k l0_0 = some r) :
    Calls Try.prog 17 #[.agg #[.slice A0_0 l0_0.length c0_0]] w fun e w' => e = .returned (.int .i64 r) ∧ Below w.heap.size w w' := by
  have hu26 := Try.underlying26
  have HR0_0 := Aside0.mk hr0_0
  have HC0_0 := Aside0.mk hc0_0
  clear hr0_0 hc0_0
  have HB := Aside0.mk (Below.refl w.heap.size w)
  have H : (if (l0_0.length : Int) > 0 then (pool_Check.j0 k (decide ((l0_0.length : Int) ≤ 4)) l0_0) else (pool_Check.j0 k false l0_0)) = some r := h
  clear h
  have HC2 := Aside0.mk H
  clear H
  go_enter Try.func17, Try.ntmps17
  go_upto_region 1 with (first | ((with_reducible refine gate_dst (N := 1) rfl ?_); (try (refine gate_guard (by rfl) ?_; dsimp only)); refine box_event ?hg (N := 1) ?hd (cs := #[.slice A0_0 l0_0.length c0_0]) (t := 26) ?hr ?_; (case hd => rfl); (case hg => rfl); (case hr => first | (go_simp; done) | (go_simp; rfl)); intro gb107 hg w3 hbox hb; have n0_ := Aside0.mk (below_step (by repeat (first | (with_reducible first | exact HB.out | apply below_alloc | apply pw_below_drewN | apply below_drew1) | exact HB.out)) hb); have n1_ := Aside0.mk (hbox); have n2_ := Aside0.mk ((by rw [hg]; exact (below_size (by repeat (first | (with_reducible first | exact HB.out | apply below_alloc | apply pw_below_drewN | apply below_drew1) | exact HB.out))) : w.heap.size ≤ gb107)); have n3_ := Aside0.mk ((by rw [hg]; exact (below_size (by repeat (first | (with_reducible first | exact HB.out | apply below_alloc | apply pw_below_drewN | apply below_drew1) | exact HB.out))) : w.heap.size ≤ gb107)); clear HB; have HB := n0_; have BK107 := n1_; have GW107 := n2_; have GE107 := n3_; clear n0_ n1_ n2_ n3_; clear hb hbox hg))
  (try simp only [Act.put, List.setIfInBounds_toArray, List.set_cons_zero, List.set_cons_succ])
  go_cut [3] (fun v3 wc => ∃ (kq : Nat) (x3_1 : Bool), v3 = .bool x3_1 ∧ Aside0 (pool_Check.j0 kq x3_1 l0_0 = some r) ∧ Aside0 (kq ≤ k) ∧ Aside0 (wc.heap[gb107]? = some (.cells #[(.slice A0_0 l0_0.length c0_0)] 26 (0, 0))) ∧ Aside0 (Below w.heap.size w wc))
  case first =>
    have H := HC2.out
    clear HC2
    by_cases c4 : (l0_0.length : Int) > 0
    · rw [if_pos c4] at H
      have c4b0 : decide (0 < (l0_0.length : Int)) = true := decide_eq_true c4
      have c4b1 : decide (0 < l0_0.length) = true := decide_eq_true (by omega)
      clear c4
      (first | rw [c4b0] | (simp only [i64_w, i32_w]; rw [c4b0]) | skip)
      have H' := Aside0.mk H
      clear H
      have hcz5_0 : w3.cell? ⟨gb107, 0, none⟩ = some (.slice A0_0 l0_0.length c0_0) := (blk_cell BK107.out 0).trans rfl
      have hfz5_0 := blk_frozen BK107.out 0
      go_wp2
      go_meet
      case rel => exact ⟨_, (decide ((l0_0.length : Int) ≤ 4)), (by first | rfl | (simp; done) | (simp [*]; done)), H', ⟨by first | omega | exact Nat.le_refl _⟩, ⟨by (with_reducible repeat (first | refine blk_drewN ?_ _ | refine blk_drew ?_ | refine blk_alloc ?_ _)); exact BK107.out⟩, ⟨by repeat (first | (with_reducible first | exact HB.out | apply below_alloc | apply pw_below_drewN | apply below_drew1 | refine below_set ?_ GE107.out) | exact HB.out)⟩⟩
    · rw [if_neg c4] at H
      have c4b0 : decide (0 < (l0_0.length : Int)) = false := decide_eq_false c4
      have c4b1 : decide (0 < l0_0.length) = false := decide_eq_false (by omega)
      clear c4
      (first | rw [c4b0] | (simp only [i64_w, i32_w]; rw [c4b0]) | skip)
      have H' := Aside0.mk H
      clear H
      have hcz6_0 : w3.cell? ⟨gb107, 0, none⟩ = some (.slice A0_0 l0_0.length c0_0) := (blk_cell BK107.out 0).trans rfl
      have hfz6_0 := blk_frozen BK107.out 0
      go_wp2
      go_meet
      case rel => exact ⟨_, (false), (by first | rfl | (simp; done) | (simp [*]; done)), H', ⟨by first | omega | exact Nat.le_refl _⟩, ⟨by (with_reducible repeat (first | refine blk_drewN ?_ _ | refine blk_drew ?_ | refine blk_alloc ?_ _)); exact BK107.out⟩, ⟨by repeat (first | (with_reducible first | exact HB.out | apply below_alloc | apply pw_below_drewN | apply below_drew1 | refine below_set ?_ GE107.out) | exact HB.out)⟩⟩
  case rest =>
    clear HC2
    try clear c1
    try clear p2
    try clear c4
    try clear c4b0
    try clear c4b1
    try clear hcz5_0
    try clear hcz6_0
    try clear hfz5_0
    try clear hfz6_0
    obtain ⟨kq, x3_1, rfl, HA, HJ1, BK107, HB⟩ := hcut
    cases kq with
    | zero => exact absurd HA.out (by simp [pool_Check.j0])
    | succ kj1 =>
      have H := HA.out
      clear HA
      simp only [pool_Check.j0] at H
      have H' := Aside0.mk H
      clear H
      have hcz7_0 : wc.cell? ⟨gb107, 0, none⟩ = some (.slice A0_0 l0_0.length c0_0) := (blk_cell BK107.out 0).trans rfl
      have hfz7_0 := blk_frozen BK107.out 0
      go_wp2
      go_loopg [3, 4, 20] kj1 (fun kq v3 v4 v20 w' => ∃ (x3_2 : Bool) (x4_2 : Int) (x20_2 : Int), v3 = .bool x3_2 ∧ v4 = .int .u32 x4_2 ∧ v20 = .int .i64 x20_2 ∧ Aside0 (pool_Check.l0 kq x3_2 x4_2 l0_0 (l0_0.length : Int) x20_2 = some r) ∧ Aside0 (kq ≤ kj1) ∧ Aside0 (w'.heap[gb107]? = some (.cells #[(.slice A0_0 l0_0.length c0_0)] 26 (0, 0))) ∧ Aside0 (Below w.heap.size w w'))
      case atStart => exact ⟨(x3_1), (0), (0), (by first | rfl | (simp; done) | (simp [*]; done)), (by first | rfl | (simp; done) | (simp [*]; done)), (by first | rfl | (simp; done) | (simp [*]; done)), H', ⟨Nat.le_refl _⟩, ⟨by (with_reducible repeat (first | refine blk_drewN ?_ _ | refine blk_drew ?_ | refine blk_alloc ?_ _)); exact BK107.out⟩, ⟨by repeat (first | (with_reducible first | exact HB.out | apply below_alloc | apply pw_below_drewN | apply below_drew1 | refine below_set ?_ GE107.out) | exact HB.out)⟩⟩
      case round =>
        clear H'
        try clear c1
        try clear p2
        try clear c4
        try clear c4b0
        try clear c4b1
        try clear hcz5_0
        try clear hcz6_0
        try clear hcz7_0
        try clear hfz5_0
        try clear hfz6_0
        try clear hfz7_0
        try clear p2
        obtain ⟨x3_2, x4_2, x20_2, rfl, rfl, rfl, HA, HK2, BK107, HB⟩ := hrel
        cases gk with
        | zero => exact absurd HA.out (by simp [pool_Check.l0])
        | succ k2 =>
          have H := HA.out
          clear HA
          simp only [pool_Check.l0] at H
          by_cases c8 : x20_2 < (l0_0.length : Int)
          · rw [if_pos c8] at H
            have c8b0 : decide (x20_2 < (l0_0.length : Int)) = true := decide_eq_true c8
            clear c8
            by_cases c9 : 0 ≤ x20_2
            · rw [if_pos c9] at H
              have c9b0 : decide (0 ≤ x20_2) = true := decide_eq_true c9
              clear c9
              by_cases c10 : x20_2 < (l0_0.length : Int)
              · rw [if_pos c10] at H
                have c10b0 : decide (x20_2 < (l0_0.length : Int)) = true := decide_eq_true c10
                clear c10
                by_cases c11 : x3_2 = true
                · subst c11
                  have H1 : (if (rd l0_0 x20_2) = 0 then (pool_Check.l0 k2 false (Go.bits .or .u32 x4_2 (rd l0_0 x20_2)) l0_0 (l0_0.length : Int) (wrap64 (x20_2 + 1))) else ((cpuset_Check.f (rd l0_0 x20_2)).bind fun t109 => (if t109 = 0 then (pool_Check.l0 k2 ((Go.bits .and .u32 (rd l0_0 x20_2) x4_2) == 0) (Go.bits .or .u32 x4_2 (rd l0_0 x20_2)) l0_0 (l0_0.length : Int) (wrap64 (x20_2 + 1))) else (pool_Check.l0 k2 false (Go.bits .or .u32 x4_2 (rd l0_0 x20_2)) l0_0 (l0_0.length : Int) (wrap64 (x20_2 + 1)))))) = some r := by rw [if_pos rfl] at H; exact H
                  clear H
                  have H := H1
                  clear H1
                  by_cases c12 : (rd l0_0 x20_2) = 0
                  · rw [if_pos c12] at H
                    have c12b0 : ((rd l0_0 x20_2) == 0) = true := beq_iff_eq.mpr c12
                    have c12b1 : ((rd l0_0 x20_2) != 0) = false := bne_eq_false_iff_eq.mpr c12
                    clear c12
                    have H' := Aside0.mk H
                    clear H
                    have p108 : 0 ≤ (x20_2 : Int) := of_decide_eq_true (by first | (with_reducible assumption) | assumption)
                    have q108 : x20_2 < (l0_0.length : Int) := of_decide_eq_true (by first | (with_reducible assumption) | assumption)
                    obtain ⟨ad108, e108, hx108_0⟩ := Kd.at_int HR0_0.out x20_2 p108 q108
                    cases e108
                    replace hx108_0 := (HB.out.cell (World.block_lt_of_cell? w _ hx108_0)).trans hx108_0
                    replace p108 := eq_true p108
                    replace q108 := eq_true q108
                    go_wp2
                    go_roundg k2
                    case measure => have := HJ1.out; have := HK2.out; omega
                    case rel => exact ⟨(false), (Go.bits .or .u32 x4_2 (rd l0_0 x20_2)), (wrap64 (x20_2 + 1)), (by first | rfl | (simp; done) | (simp [*]; done)), (by first | rfl | (simp; done) | (simp [*]; done)), (by first | rfl | (simp; done) | (simp [*]; done)), H', ⟨by have := HJ1.out; have := HK2.out; omega⟩, ⟨by (with_reducible repeat (first | refine blk_drewN ?_ _ | refine blk_drew ?_ | refine blk_alloc ?_ _)); exact BK107.out⟩, ⟨by repeat (first | (with_reducible first | exact HB.out | apply below_alloc | apply pw_below_drewN | apply below_drew1 | refine below_set ?_ GE107.out) | exact HB.out)⟩⟩
                  · rw [if_neg c12] at H
                    have c12b0 : ((rd l0_0 x20_2) == 0) = false := beq_eq_false_iff_ne.mpr c12
                    have c12b1 : ((rd l0_0 x20_2) != 0) = true := bne_iff_ne.mpr c12
                    replace H := Option.bind_eq_some_iff.mp H
                    obtain ⟨t109, A130, H⟩ := H
                    replace H : (if t109 = 0 then (pool_Check.l0 k2 ((Go.bits .and .u32 (rd l0_0 x20_2) x4_2) == 0) (Go.bits .or .u32 x4_2 (rd l0_0 x20_2)) l0_0 (l0_0.length : Int) (wrap64 (x20_2 + 1))) else (pool_Check.l0 k2 false (Go.bits .or .u32 x4_2 (rd l0_0 x20_2)) l0_0 (l0_0.length : Int) (wrap64 (x20_2 + 1)))) = some r := H
                    have A13 := Aside0.mk A130
                    clear A130
                    by_cases c14 : t109 = 0
                    · rw [if_pos c14] at H
                      have c14b0 : (t109 == 0) = true := beq_iff_eq.mpr c14
                      have c14b1 : (t109 != 0) = false := bne_eq_false_iff_eq.mpr c14
                      clear c14
                      have H' := Aside0.mk H
                      clear H
                      have p108 : 0 ≤ (x20_2 : Int) := of_decide_eq_true (by first | (with_reducible assumption) | assumption)
                      have q108 : x20_2 < (l0_0.length : Int) := of_decide_eq_true (by first | (with_reducible assumption) | assumption)
                      obtain ⟨ad108, e108, hx108_0⟩ := Kd.at_int HR0_0.out x20_2 p108 q108
                      cases e108
                      replace hx108_0 := (HB.out.cell (World.block_lt_of_cell? w _ hx108_0)).trans hx108_0
                      replace p108 := eq_true p108
                      replace q108 := eq_true q108
                      go_wp2_with (first | (go_at_call 38; (with_reducible refine (cpuset_Check.calls (rd l0_0 x20_2) t109 _ A13.out).mono ?_); rintro e w' ⟨rfl, ⟨nd, rfl⟩⟩))
                      go_roundg k2
                      case measure => have := HJ1.out; have := HK2.out; omega
                      case rel => exact ⟨(((Go.bits .and .u32 (rd l0_0 x20_2) x4_2) == 0)), (Go.bits .or .u32 x4_2 (rd l0_0 x20_2)), (wrap64 (x20_2 + 1)), (by first | rfl | (simp; done) | (simp [*]; done)), (by first | rfl | (simp; done) | (simp [*]; done)), (by first | rfl | (simp; done) | (simp [*]; done)), H', ⟨by have := HJ1.out; have := HK2.out; omega⟩, ⟨by (with_reducible repeat (first | refine blk_drewN ?_ _ | refine blk_drew ?_ | refine blk_alloc ?_ _)); exact BK107.out⟩, ⟨by repeat (first | (with_reducible first | exact HB.out | apply below_alloc | apply pw_below_drewN | apply below_drew1 | refine below_set ?_ GE107.out) | exact HB.out)⟩⟩
                    · rw [if_neg c14] at H
                      have c14b0 : (t109 == 0) = false := beq_eq_false_iff_ne.mpr c14
                      have c14b1 : (t109 != 0) = true := bne_iff_ne.mpr c14
                      have H' := Aside0.mk H
                      clear H
                      have p108 : 0 ≤ (x20_2 : Int) := of_decide_eq_true (by first | (with_reducible assumption) | assumption)
                      have q108 : x20_2 < (l0_0.length : Int) := of_decide_eq_true (by first | (with_reducible assumption) | assumption)
                      obtain ⟨ad108, e108, hx108_0⟩ := Kd.at_int HR0_0.out x20_2 p108 q108
                      cases e108
                      replace hx108_0 := (HB.out.cell (World.block_lt_of_cell? w _ hx108_0)).trans hx108_0
                      replace p108 := eq_true p108
                      replace q108 := eq_true q108
                      go_wp2_with (first | (go_at_call 38; (with_reducible refine (cpuset_Check.calls (rd l0_0 x20_2) t109 _ A13.out).mono ?_); rintro e w' ⟨rfl, ⟨nd, rfl⟩⟩))
                      go_roundg k2
                      case measure => have := HJ1.out; have := HK2.out; omega
                      case rel => exact ⟨(false), (Go.bits .or .u32 x4_2 (rd l0_0 x20_2)), (wrap64 (x20_2 + 1)), (by first | rfl | (simp; done) | (simp [*]; done)), (by first | rfl | (simp; done) | (simp [*]; done)), (by first | rfl | (simp; done) | (simp [*]; done)), H', ⟨by have := HJ1.out; have := HK2.out; omega⟩, ⟨by (with_reducible repeat (first | refine blk_drewN ?_ _ | refine blk_drew ?_ | refine blk_alloc ?_ _)); exact BK107.out⟩, ⟨by repeat (first | (with_reducible first | exact HB.out | apply below_alloc | apply pw_below_drewN | apply below_drew1 | refine below_set ?_ GE107.out) | exact HB.out)⟩⟩
                · replace c11 := Bool.eq_false_iff.mpr c11
                  subst c11
                  have H1 : (pool_Check.l0 k2 false (Go.bits .or .u32 x4_2 (rd l0_0 x20_2)) l0_0 (l0_0.length : Int) (wrap64 (x20_2 + 1))) = some r := by rw [if_neg (show ¬ (false = true) by decide)] at H; exact H
                  clear H
                  have H := H1
                  clear H1
                  have H' := Aside0.mk H
                  clear H
                  have p108 : 0 ≤ (x20_2 : Int) := of_decide_eq_true (by first | (with_reducible assumption) | assumption)
                  have q108 : x20_2 < (l0_0.length : Int) := of_decide_eq_true (by first | (with_reducible assumption) | assumption)
                  obtain ⟨ad108, e108, hx108_0⟩ := Kd.at_int HR0_0.out x20_2 p108 q108
                  cases e108
                  replace hx108_0 := (HB.out.cell (World.block_lt_of_cell? w _ hx108_0)).trans hx108_0
                  replace p108 := eq_true p108
                  replace q108 := eq_true q108
                  go_wp2
                  go_roundg k2
                  case measure => have := HJ1.out; have := HK2.out; omega
                  case rel => exact ⟨(false), (Go.bits .or .u32 x4_2 (rd l0_0 x20_2)), (wrap64 (x20_2 + 1)), (by first | rfl | (simp; done) | (simp [*]; done)), (by first | rfl | (simp; done) | (simp [*]; done)), (by first | rfl | (simp; done) | (simp [*]; done)), H', ⟨by have := HJ1.out; have := HK2.out; omega⟩, ⟨by (with_reducible repeat (first | refine blk_drewN ?_ _ | refine blk_drew ?_ | refine blk_alloc ?_ _)); exact BK107.out⟩, ⟨by repeat (first | (with_reducible first | exact HB.out | apply below_alloc | apply pw_below_drewN | apply below_drew1 | refine below_set ?_ GE107.out) | exact HB.out)⟩⟩
              · rw [if_neg c10] at H
                exact absurd H (by simp)
            · rw [if_neg c9] at H
              exact absurd H (by simp)
          · rw [if_neg c8] at H
            have c8b0 : decide (x20_2 < (l0_0.length : Int)) = false := decide_eq_false c8
            clear c8
            by_cases c15 : x3_2 = true
            · subst c15
              have H1 : (if (Go.bits .and .u32 x4_2 ((x4_2 + 1) % 4294967296)) = 0 then (some 0) else (some 180)) = some r := by rw [if_pos rfl] at H; exact H
              clear H
              have H := H1
              clear H1
              by_cases c16 : (Go.bits .and .u32 x4_2 ((x4_2 + 1) % 4294967296)) = 0
              · rw [if_pos c16] at H
                have c16b0 : ((Go.bits .and .u32 x4_2 ((x4_2 + 1) % 4294967296)) == 0) = true := beq_iff_eq.mpr c16
                have c16b1 : ((Go.bits .and .u32 x4_2 ((x4_2 + 1) % 4294967296)) != 0) = false := bne_eq_false_iff_eq.mpr c16
                clear c16
                obtain rfl := Option.some.inj H
                go_wp2
                go_ret
                exact ⟨by first | rfl | (simp [errW_none, errW_some] <;> rfl) | (simp [*, errW_none, errW_some] <;> rfl), by repeat (first | (with_reducible first | exact HB.out | apply below_alloc | apply pw_below_drewN | apply below_drew1 | refine below_set ?_ GE107.out) | exact HB.out)⟩
              · rw [if_neg c16] at H
                have c16b0 : ((Go.bits .and .u32 x4_2 ((x4_2 + 1) % 4294967296)) == 0) = false := beq_eq_false_iff_ne.mpr c16
                have c16b1 : ((Go.bits .and .u32 x4_2 ((x4_2 + 1) % 4294967296)) != 0) = true := bne_iff_ne.mpr c16
                obtain rfl := Option.some.inj H
                go_wp2
                go_ret
                exact ⟨by first | rfl | (simp [errW_none, errW_some] <;> rfl) | (simp [*, errW_none, errW_some] <;> rfl), by repeat (first | (with_reducible first | exact HB.out | apply below_alloc | apply pw_below_drewN | apply below_drew1 | refine below_set ?_ GE107.out) | exact HB.out)⟩
            · replace c15 := Bool.eq_false_iff.mpr c15
              subst c15
              have H1 : (some 180) = some r := by rw [if_neg (show ¬ (false = true) by decide)] at H; exact H
              clear H
              have H := H1
              clear H1
              obtain rfl := Option.some.inj H
              go_wp2
              go_ret
              exact ⟨by first | rfl | (simp [errW_none, errW_some] <;> rfl) | (simp [*, errW_none, errW_some] <;> rfl), by repeat (first | (with_reducible first | exact HB.out | apply below_alloc | apply pw_below_drewN | apply below_drew1 | refine below_set ?_ GE107.out) | exact HB.out)⟩

end Go.Proofs.Ytkhbffjfclepfaa.Q

/- Function 59, slices_IndexFunc___int_int_: contracts over the given program's functions, one a function; no condition beyond those that each theorem states. Written by this session's program over the kit's printer, and by hand. -/
namespace Go.Proofs.Ytkhbffjfclepfaa.Q
open Go.RowKit Go.Proofs.YtkhbffjfclepfaaW.PrintWords Go.Proofs.YtkhbffjfclepfaaW.PrintLast Go.Proofs.YtkhbffjfclepfaaW.PrintMore
attribute [local go_sem] max2_int min2_int max_two min_two max_three min_three max_four min_four
set_option linter.unusedVariables false
set_option linter.unusedSimpArgs false

/-! ### slices_IndexFunc_int: function 59, by hand -/
set_option maxHeartbeats 2000000 in
theorem slices_IndexFunc_int.any (g : Nat) (lb : Array Value) (eg : ∀ args w, (callFunc g args).run Try.prog w = .ok (.enter g args) w) (p : Int → Bool) (A : Option Addr) (c : Nat) (xs : List Int) (w : World)
    (hr : Kd.C (Kd.int .i64) w A xs.length xs) (hlen : xs.length ≤ 35184372088832)
    (hp : ∀ W, Below w.heap.size w W → ∀ x ∈ xs, Calls Try.prog g (#[.int .i64 x] ++ lb) W fun e W' => e = .returned (.bool (p x)) ∧ Below W.heap.size W W') :
    Calls Try.prog 59 #[.slice A xs.length c, .func (.func g) #[] lb] w fun e w' => e = .returned (.int .i64 (idxOf p xs)) ∧ Below w.heap.size w w' := by
  have HP := Aside0.mk hp
  have HR := Aside0.mk hr
  clear hp hr
  go_enter Try.func59, Try.ntmps59
  go_wp2
  go_loopg [5, 8] xs.length (fun gg _ s8 wr => ∃ kk : Nat, s8 = .int .i64 kk ∧ kk ≤ xs.length ∧ xs.length - kk ≤ gg ∧ Aside0 (Below w.heap.size w wr) ∧ Aside0 (∀ j (hj : j < kk) (hj2 : j < xs.length), p xs[j] = false))
  case atStart => exact ⟨0, rfl, Nat.zero_le _, by omega, ⟨Below.refl _ _⟩, ⟨fun j hj => absurd hj (Nat.not_lt_zero _)⟩⟩
  case round =>
    obtain ⟨kk, rfl, hkk, hg, HB, HN⟩ := hrel
    by_cases hlt : kk < xs.length
    · have hltz : (kk : Int) < (xs.length : Int) := by omega
      obtain ⟨ad, rfl, hcell⟩ := Kd.at_int (Kd.C_below HR.out HB.out) (kk : Int) (by omega) (by omega)
      have hx := List.getElem_mem hlt
      have hrd : rd xs (kk : Int) = xs[kk] := by unfold rd; simp [hlt]
      rw [hrd] at hcell
      simp only [Int.toNat_natCast] at hcell
      have hcall := HP.out _ HB.out _ hx
      generalize hy : xs[kk] = y at hcell hcall hx
      have HY := Aside0.mk hy
      clear hy hx hrd
      cases hq : p y with
      | true =>
        rw [hq] at hcall
        go_wp2_with (go_at_fn g; refine hcall.mono ?_; rintro e w' ⟨rfl, hb'⟩)
        go_ret
        refine ⟨?_, HB.out.trans (hb'.mono (below_size HB.out))⟩
        rw [idxOf_hit hlt (by rw [HY.out]; exact hq) (fun j hj => HN.out j hj (by omega))]; rfl
      | false =>
        rw [hq] at hcall
        go_wp2_with (go_at_fn g; refine hcall.mono ?_; rintro e w' ⟨rfl, hb'⟩)
        go_roundg (xs.length - (kk + 1))
        case measure => omega
        case rel =>
          exact ⟨kk + 1, by go_num, by omega, by omega, ⟨HB.out.trans (hb'.mono (below_size HB.out))⟩, ⟨fun j hj hj2 => by
            by_cases e : j = kk
            · subst e; rw [HY.out]; exact hq
            · exact HN.out j (by omega) hj2⟩⟩
    · have hltz : ¬ (kk : Int) < (xs.length : Int) := by omega
      have : kk = xs.length := by omega
      go_wp2
      go_ret
      refine ⟨?_, HB.out⟩
      rw [idxOf_miss (fun j hj => HN.out j (by omega) hj)]; rfl

end Go.Proofs.Ytkhbffjfclepfaa.Q

/- Function 55, slices_ContainsFunc___int_int_: contracts over the given program's functions, one a function; no condition beyond those that each theorem states. Written by this session's program over the kit's printer, and by hand. -/
namespace Go.Proofs.Ytkhbffjfclepfaa.Q
open Go.RowKit Go.Proofs.YtkhbffjfclepfaaW.PrintWords Go.Proofs.YtkhbffjfclepfaaW.PrintLast Go.Proofs.YtkhbffjfclepfaaW.PrintMore
attribute [local go_sem] max2_int min2_int max_two min_two max_three min_three max_four min_four
set_option linter.unusedVariables false
set_option linter.unusedSimpArgs false

/-! ### slices_ContainsFunc_int: function 55, by hand -/
set_option maxHeartbeats 2000000 in
theorem slices_ContainsFunc_int.any (g : Nat) (lb : Array Value) (eg : ∀ args w, (callFunc g args).run Try.prog w = .ok (.enter g args) w) (p : Int → Bool) (A : Option Addr) (c : Nat) (xs : List Int) (w : World)
    (hr : Kd.C (Kd.int .i64) w A xs.length xs) (hlen : xs.length ≤ 35184372088832)
    (hp : ∀ W, Below w.heap.size w W → ∀ x ∈ xs, Calls Try.prog g (#[.int .i64 x] ++ lb) W fun e W' => e = .returned (.bool (p x)) ∧ Below W.heap.size W W') :
    Calls Try.prog 55 #[.slice A xs.length c, .func (.func g) #[] lb] w fun e w' => e = .returned (.bool (xs.any p)) ∧ Below w.heap.size w w' := by
  rw [← idxOf_nonneg]
  have HP := Aside0.mk hp
  have HR := Aside0.mk hr
  clear hp hr
  go_enter Try.func55, Try.ntmps55
  go_wp2_with (go_at_call 59; refine (slices_IndexFunc_int.any g lb eg p A c xs _ HR.out hlen HP.out).mono ?_; rintro e w' ⟨rfl, hb⟩)
  go_ret
  exact ⟨rfl, hb⟩

end Go.Proofs.Ytkhbffjfclepfaa.Q

/- Function 44, mainsheet_pool_pool: contracts over the given program's functions, one a function; no condition beyond those that each theorem states. Written by this session's program over the kit's printer, and by hand. -/
namespace Go.Proofs.Ytkhbffjfclepfaa.Q
open Go.RowKit Go.Proofs.YtkhbffjfclepfaaW.PrintWords Go.Proofs.YtkhbffjfclepfaaW.PrintLast Go.Proofs.YtkhbffjfclepfaaW.PrintMore
attribute [local go_sem] max2_int min2_int max_two min_two max_three min_three max_four min_four
set_option linter.unusedVariables false
set_option linter.unusedSimpArgs false

/-! ### pool_pool: function 44, by hand -/
set_option maxHeartbeats 2000000 in
theorem pool_pool1.calls (g : Nat) (A : Option Addr) (m c : Nat) (n : Int) (w : World) (hb : w.heap[g]? = some (.cells #[.slice A m c] 26 (0, 0))) :
    Calls Try.prog 56 (#[.int .i64 n] ++ #[.pointer (some ⟨g, 0, none⟩)]) w fun e w' => e = .returned (.bool (decide (n < 0) || decide ((m : Int) ≤ n))) ∧ Below w.heap.size w w' := by
  have hc := (blk_cell hb 0).trans rfl
  have hf := blk_frozen hb 0
  clear hb
  by_cases h : n < 0
  · have h1 : decide (n < 0) = true := decide_eq_true h
    go_enter Try.func56, Try.ntmps56
    go_wp2
    go_ret
    exact ⟨by simp [h], Below.refl _ _⟩
  · have h1 : decide (n < 0) = false := decide_eq_false h
    go_enter Try.func56, Try.ntmps56
    go_wp2
    go_ret
    exact ⟨by simp [h], Below.refl _ _⟩
def pool_pool.f (l0_0 : List Int) (l1 : List Int) : Option Bool :=
  if l1.length ≤ 35184372088832 then some (!(l1.any fun n => decide (n < 0) || decide ((l0_0.length : Int) ≤ n))) else none
set_option maxHeartbeats 2000000 in
theorem pool_pool.calls (A0_0 : Option Addr) (c0_0 : Nat) (l0_0 : List Int) (A1 : Option Addr) (c1 : Nat) (l1 : List Int) (r : Bool) (w : World) (hr0_0 : Kd.C (Kd.int .u32) w A0_0 l0_0.length l0_0) (hc0_0 : l0_0.length ≤ c0_0)
    (hr1 : Kd.C (Kd.int .i64) w A1 l1.length l1) (hc1 : l1.length ≤ c1) (h : pool_pool.f l0_0 l1 = some r) :
    Calls Try.prog 44 #[.agg #[.slice A0_0 l0_0.length c0_0], .slice A1 l1.length c1] w fun e w' => e = .returned (.bool r) ∧ Below w.heap.size w w' := by
  unfold pool_pool.f at h
  split at h
  case isFalse => cases h
  case isTrue hl =>
  obtain rfl := Option.some.inj h
  have eg : ∀ args w, (callFunc 56 args).run Try.prog w = .ok (.enter 56 args) w := enters_ Try.func56 (by kernel_rfl) rfl
  have HR := Aside0.mk hr1
  clear h hr0_0 hr1 hc1
  have HP := Aside0.mk (fun W (hW : Below (w.alloc (.cells #[.slice A0_0 l0_0.length c0_0] 26)).heap.size (w.alloc (.cells #[.slice A0_0 l0_0.length c0_0] 26)) W) x (_ : x ∈ l1) => pool_pool1.calls w.heap.size A0_0 l0_0.length c0_0 x W ((hW.block w.heap.size (by simp)).trans (blk_new _ _)))
  go_enter Try.func44, Try.ntmps44
  go_wp2_with (go_at_call 55; refine (slices_ContainsFunc_int.any 56 _ eg (fun n => decide (n < 0) || decide ((l0_0.length : Int) ≤ n)) A1 c1 l1 _ (Kd.C_alloc HR.out _) hl HP.out).mono ?_; rintro e w' ⟨rfl, hb⟩)
  go_ret
  exact ⟨rfl, ((Below.refl _ _).alloc (Nat.le_refl _) _).trans (hb.mono (by simp))⟩

end Go.Proofs.Ytkhbffjfclepfaa.Q

/- Function 57, slices_Clone___mainsheet_api_Cpus_mainsheet_api_Cpus_: contracts over the given program's functions, one a function; no condition beyond those that each theorem states. Written by this session's program over the kit's printer, and by hand. -/
namespace Go.Proofs.Ytkhbffjfclepfaa.Q
open Go.RowKit Go.Proofs.YtkhbffjfclepfaaW.PrintWords Go.Proofs.YtkhbffjfclepfaaW.PrintLast Go.Proofs.YtkhbffjfclepfaaW.PrintMore
attribute [local go_sem] max2_int min2_int max_two min_two max_three min_three max_four min_four
set_option linter.unusedVariables false
set_option linter.unusedSimpArgs false

/-! ### slices_Clone_cpus: function 57, by hand -/

set_option maxHeartbeats 2000000 in
theorem slices_Clone_cpus.calls (ad : Addr) (c0 : Nat) (l : List Int) (w : World) (hr : Kd.C (Kd.int .u32) w (some ad) l.length l) (hl : l.length < 35184372088832) :
    Calls Try.prog 57 #[.slice (some ad) l.length c0] w fun e w' => ∃ v : Value, e = .returned v ∧ Kd.R (Kd.int .u32) 31 w' w.heap.size (fun _ => True) v l ∧ Below w.heap.size w w' := by
  have HR := Aside0.mk hr
  have HL := Aside0.mk hl
  clear hr hl
  have HB := Aside0.mk (Below.refl w.heap.size w)
  have hnil := @Lib.run_eql_slice_nil Try.prog
  go_enter Try.func57, Try.ntmps57
  go_wp2_with (first | ((with_reducible refine gate_dst (N := 5) rfl ?_); refine Kd.R_lit (Kd.int .u32) _ 31 ?hg (N := 5) ?hd (xs := ([] : List Int)) (inner := []) (ok := fun _ => True) (okp := fun _ => True) ?hr ?hp (fun _ hk => hk) trivial (Below.refl _ _) (Nat.le_refl _) (by simp) ?_; (case hd => rfl); (case hg => rfl); (case hr => first | (go_simp; done) | (go_simp; rfl)); (case hp => exact (Reps.none _ _)); intro v121 w5 ho6 hb hg_ hnew_; clear hg_ hnew_; have HO := Aside0.mk ho6; have n3_ := Aside0.mk (below_step HB.out hb); clear HB; have HB := n3_; clear n3_ hb ho6) | ((with_reducible refine gate_builtin (b := .append) (xs := #[.tmp 5, .tmp 6]) rfl ?_); at_builtin; refine Kd.R_append_rows (Kd.int .u32) (w0 := w) w.heap.size rfl (.tmp 5) (.tmp 6) 24 31 (.int .u32 0) 4 rfl Try.underlying24 info31 rfl (by decide) (by omega) v121 [] l _ _ _ (fun _ => True) (fun _ => False) rfl rfl ?aO ?aR (fun _ _ h => h) (fun _ h => h.elim) ?aF ?aB ?aS ?aL ?_; (case aR => exact (Kd.C_below HR.out HB.out)); (case aB => exact HB.out); (case aF => exact (fun _ _ => trivial)); (case aO => exact HO.out); (case aS => exact HB.out.size); (case aL => have := HL.out; simp; omega); intro v124 w9 ho hb hg hat; have HO2 := Aside0.mk ho; have HB2 := Aside0.mk hb; clear ho hb hg hat))
  go_ret
  exact ⟨_, rfl, HO2.out, HB2.out⟩

end Go.Proofs.Ytkhbffjfclepfaa.Q

/- Function 45, mainsheet_pool_with: contracts over the given program's functions, one a function; no condition beyond those that each theorem states. Written by this session's program over the kit's printer, and by hand. -/
namespace Go.Proofs.Ytkhbffjfclepfaa.Q
open Go.RowKit Go.Proofs.YtkhbffjfclepfaaW.PrintWords Go.Proofs.YtkhbffjfclepfaaW.PrintLast Go.Proofs.YtkhbffjfclepfaaW.PrintMore
attribute [local go_sem] max2_int min2_int max_two min_two max_three min_three max_four min_four
set_option linter.unusedVariables false
set_option linter.unusedSimpArgs false

/-! ### pool_with: function 45, by hand -/
set_option maxHeartbeats 2000000 in
theorem pool_with.does (g : Nat) (lb : Array Value) (eg : ∀ args w, (callFunc g args).run Try.prog w = .ok (.enter g args) w) (base : Nat) (M : Nat → Prop) (k : Nat) (ad : Addr) (c0 : Nat) (l : List Int) (A1 : Option Addr) (c1 : Nat) (ns : List Int) (w : World)
    (hr : Kd.C (Kd.int .u32) w (some ad) l.length l) (hc : l.length ≤ c0) (hr1 : Kd.C (Kd.int .i64) w A1 ns.length ns) (hc1 : ns.length ≤ c1) (hbase : base ≤ w.heap.size) (hM : ∀ k, M k → k < w.heap.size) (hec : pool_Check.f k l = some 0) (hp : pool_pool.f l ns = some true) (hl : l.length < 35184372088832)
    (err : Int) (l' : List Int) (J' : World → Prop) (hJ' : ∀ W W', J' W → (∀ k, M k → W'.heap[k]? = W.heap[k]?) → J' W')
    (hdo : ∀ W gq v, Below w.heap.size w W → w.heap.size ≤ gq → W.heap[gq]? = some (.cells #[v] 26 (0, 0)) → Kd.R (Kd.int .u32) 31 W w.heap.size (fun _ => True) v l →
      Calls Try.prog g (#[.pointer (some ⟨gq, 0, none⟩)] ++ lb) W fun e W' => e = .returned (.int .i64 err) ∧ Below base W W' ∧ J' W' ∧ (∀ k, k < W.heap.size → k ≠ gq → ¬ M k → some k ≠ v.ownBlock → W'.heap[k]? = W.heap[k]?) ∧ (err = 0 → ∃ v', W'.heap[gq]? = some (.cells #[v'] 26 (0, 0)) ∧ Kd.R (Kd.int .u32) 31 W' w.heap.size (fun _ => True) v' l')) :
    Calls Try.prog 45 #[.agg #[.slice (some ad) l.length c0], .func (.func g) #[] lb, .slice A1 ns.length c1] w fun e w' => ∃ v, e = .returned (.tuple #[.agg #[v], .int .i64 err]) ∧ Kd.R (Kd.int .u32) 31 w' w.heap.size (fun _ => True) v (if err = 0 then l' else []) ∧ Below base w w' ∧ J' w' ∧ (∀ k, k < w.heap.size → ¬ M k → w'.heap[k]? = w.heap[k]?) := by
  have HR := Aside0.mk hr
  have HC := Aside0.mk hc
  have HR1 := Aside0.mk hr1
  have HC1 := Aside0.mk hc1
  have HE := Aside0.mk hec
  have HP := Aside0.mk hp
  have HL := Aside0.mk hl
  have HD := Aside0.mk hdo
  have HJ := Aside0.mk hJ'
  have HM := Aside0.mk hM
  have HBS := Aside0.mk hbase
  clear hr hc hr1 hc1 hec hp hl hdo hJ' hM hbase
  have HB := Aside0.mk (Below.refl w.heap.size w)
  by_cases herr : err = 0
  · subst herr
    simp only [if_true]
    go_enter Try.func45, Try.ntmps45
    go_wp2_with (first
      | ((with_reducible refine gate_dst (N := 3) rfl ?_); refine box_event ?hg (N := 3) ?hd (cs := #[.slice (some ad) l.length c0]) (t := 26) ?hr ?_; (case hd => rfl); (case hg => rfl); (case hr => first | (go_simp; done) | (go_simp; rfl)); intro gbp hg wbp hbox hb; have m0_ := Aside0.mk (below_step HB.out hb); have m1_ := Aside0.mk (hbox); have m2_ := Aside0.mk ((by rw [hg]; exact HB.out.size : w.heap.size ≤ gbp)); (try clear HB); have HB := m0_; have BKp := m1_; have GEp := m2_; clear m0_ m1_ m2_; clear hb hbox hg)
      | ((with_reducible refine gate_dst (N := 6) rfl ?_); refine box_event ?hg (N := 6) ?hd (cs := #[.slice none 0 0]) (t := 26) ?hr ?_; (case hd => rfl); (case hg => rfl); (case hr => first | (go_simp; done) | (go_simp; rfl)); intro gbq hg wbq hbox hb; have m0_ := Aside0.mk (blk_below (g := gbp) (o := .cells #[.slice (some ad) l.length c0] 26 (0, 0)) BKp.out hb); have m1_ := Aside0.mk (below_step HB.out hb); have m2_ := Aside0.mk (hbox); have m3_ := Aside0.mk ((by rw [hg]; exact HB.out.size : w.heap.size ≤ gbq)); have m4_ := Aside0.mk ((by rw [hg]; exact Nat.ne_of_lt (blk_lt BKp.out) : gbp ≠ gbq)); have m5_ := Aside0.mk ((by rw [hg]; exact Nat.ne_of_gt (blk_lt BKp.out) : gbq ≠ gbp)); (try clear BKp); (try clear HB); have BKp := m0_; have HB := m1_; have BKq := m2_; have GEq := m3_; have NBp_q := m4_; have NBq_p := m5_; clear m0_ m1_ m2_ m3_ m4_ m5_; clear hb hbox hg; have hcz1_p_0 : World.cell? _ ⟨gbp, 0, none⟩ = some (.slice (some ad) l.length c0) := (blk_cell BKp.out 0).trans rfl; have hfz1_p := blk_frozen BKp.out 0)
      | (go_at_call 17; (with_reducible refine (pool_Check.calls k _ _ l 0 _ ?s1 HC.out HE.out).mono ?_); (case s1 => exact Kd.C_below HR.out HB.out); rintro e w' ⟨rfl, hb⟩; clear hcz1_p_0 hfz1_p; have m0_ := Aside0.mk (blk_below (g := gbp) (o := .cells #[.slice (some ad) l.length c0] 26 (0, 0)) BKp.out hb); have m1_ := Aside0.mk (blk_below (g := gbq) (o := .cells #[.slice none 0 0] 26 (0, 0)) BKq.out hb); have m2_ := Aside0.mk (below_step HB.out hb); (try clear BKp); (try clear BKq); (try clear HB); have BKp := m0_; have BKq := m1_; have HB := m2_; clear m0_ m1_ m2_; clear hb; have hcz2_p_0 : World.cell? _ ⟨gbp, 0, none⟩ = some (.slice (some ad) l.length c0) := (blk_cell BKp.out 0).trans rfl; have hfz2_p := blk_frozen BKp.out 0)
      | (go_at_call 44; (with_reducible refine (pool_pool.calls _ _ l _ _ ns true _ ?s1 HC.out ?s2 HC1.out HP.out).mono ?_); (case s1 => exact Kd.C_below HR.out HB.out); (case s2 => exact Kd.C_below HR1.out HB.out); rintro e w' ⟨rfl, hb⟩; clear hcz2_p_0 hfz2_p; have m0_ := Aside0.mk (blk_below (g := gbp) (o := .cells #[.slice (some ad) l.length c0] 26 (0, 0)) BKp.out hb); have m1_ := Aside0.mk (blk_below (g := gbq) (o := .cells #[.slice none 0 0] 26 (0, 0)) BKq.out hb); have m2_ := Aside0.mk (below_step HB.out hb); (try clear BKp); (try clear BKq); (try clear HB); have BKp := m0_; have BKq := m1_; have HB := m2_; clear m0_ m1_ m2_; clear hb; have hcz3_p_0 : World.cell? _ ⟨gbp, 0, none⟩ = some (.slice (some ad) l.length c0) := (blk_cell BKp.out 0).trans rfl; have hfz3_p := blk_frozen BKp.out 0)
      | (go_at_call 57; (with_reducible refine (slices_Clone_cpus.calls _ _ l _ ?s1 HL.out).mono ?_); (case s1 => exact Kd.C_below HR.out HB.out); rintro e w' ⟨v, rfl, ho, hb⟩; clear hcz3_p_0 hfz3_p; have m0_ := Aside0.mk (blk_below (g := gbp) (o := .cells #[.slice (some ad) l.length c0] 26 (0, 0)) BKp.out hb); have m1_ := Aside0.mk (blk_below (g := gbq) (o := .cells #[.slice none 0 0] 26 (0, 0)) BKq.out hb); have m2_ := Aside0.mk (below_step HB.out hb); have m3_ := Aside0.mk (Kd.R_lower ho HB.out.size); (try clear BKp); (try clear BKq); (try clear HB); have BKp := m0_; have BKq := m1_; have HB := m2_; have HOv := m3_; clear m0_ m1_ m2_ m3_; clear hb ho; obtain ⟨Av, cv, ev⟩ := Kd.R_slice HOv.out; subst ev)
      | ((with_reducible refine gate_dst (N := 9) rfl ?_); refine box_event ?hg (N := 9) ?hd (cs := #[.slice none 0 0]) (t := 26) ?hr ?_; (case hd => rfl); (case hg => rfl); (case hr => first | (go_simp; done) | (go_simp; rfl)); intro gbn hg wbn hbox hb; have m0_ := Aside0.mk (blk_below (g := gbp) (o := .cells #[.slice (some ad) l.length c0] 26 (0, 0)) BKp.out hb); have m1_ := Aside0.mk (blk_below (g := gbq) (o := .cells #[.slice none 0 0] 26 (0, 0)) BKq.out hb); have m2_ := Aside0.mk (Kd.R_below HOv.out hb); have m3_ := Aside0.mk (below_step HB.out hb); have m4_ := Aside0.mk (hbox); have m5_ := Aside0.mk ((by rw [hg]; exact HB.out.size : w.heap.size ≤ gbn)); have m6_ := Aside0.mk ((by rw [hg]; exact Nat.ne_of_lt (blk_lt BKp.out) : gbp ≠ gbn)); have m7_ := Aside0.mk ((by rw [hg]; exact Nat.ne_of_gt (blk_lt BKp.out) : gbn ≠ gbp)); have m8_ := Aside0.mk ((by rw [hg]; exact Nat.ne_of_lt (blk_lt BKq.out) : gbq ≠ gbn)); have m9_ := Aside0.mk ((by rw [hg]; exact Nat.ne_of_gt (blk_lt BKq.out) : gbn ≠ gbq)); (try clear BKp); (try clear BKq); (try clear HOv); (try clear HB); have BKp := m0_; have BKq := m1_; have HOv := m2_; have HB := m3_; have BKn := m4_; have GEn := m5_; have NBp_n := m6_; have NBn_p := m7_; have NBq_n := m8_; have NBn_q := m9_; clear m0_ m1_ m2_ m3_ m4_ m5_ m6_ m7_ m8_ m9_; clear hb hbox hg; have hcz4_n_0 : World.cell? _ ⟨gbn, 0, none⟩ = some (.slice none 0 0) := (blk_cell BKn.out 0).trans rfl; have hfz4_n := blk_frozen BKn.out 0)
      | (go_at_fn g; refine (HD.out _ gbn (.slice Av l.length cv) ?d1 GEn.out ?d2 ?d3).mono ?_; (case d1 => exact below_set HB.out GEn.out); (case d2 => exact blk_put (cs := #[.slice none 0 0]) BKn.out 0 _ rfl); (case d3 => exact Kd.R_set HOv.out BKn.out (by decide) 0 _); rintro e w' ⟨rfl, hbb, hj, hk, hq⟩; clear hcz4_n_0 hfz4_n; have KQ := Aside0.mk ((hk gbq (by have := blk_lt BKq.out; simpa [World.setCell] using this) NBq_n.out (fun hm => Nat.not_lt.2 GEq.out (HM.out _ hm)) (Kd.R_ne HOv.out BKq.out (by decide))).trans (blk_far BKq.out (p := ⟨gbn, 0, none⟩) NBq_n.out (.slice Av l.length cv))); have hcq : World.cell? _ ⟨gbq, 0, none⟩ = some (.slice none 0 0) := (blk_cell KQ.out 0).trans rfl; have hfq := blk_frozen KQ.out 0; have HBB := Aside0.mk hbb; have HJ2 := Aside0.mk hj; have HK := Aside0.mk hk; have hnq := NBq_n.out; have hnq2 := NBn_q.out; clear hbb hj hk; obtain ⟨v', hbn, hov⟩ := hq (by trivial); obtain ⟨Aw, cw, ew⟩ := Kd.R_slice hov; subst ew; have KN := Aside0.mk hbn; have HOW := Aside0.mk hov; clear hbn hov; have hcn : World.cell? _ ⟨gbn, 0, none⟩ = some (.slice Aw l'.length cw) := (blk_cell KN.out 0).trans rfl))
    refine bodyPost_ret (results_ct rfl _ _ gbq 26 #[.slice Aw l'.length cw] (0, 0) _ rfl (blk_put (cs := #[.slice none 0 0]) KQ.out 0 _ rfl) Try.underlying26 rfl (by kernel_rfl)) rfl ?_
    refine ⟨_, rfl, Kd.R_set HOW.out KQ.out (by decide) 0 _, ((HB.out.setCell GEn.out _).mono HBS.out |>.trans HBB.out).setCell (Nat.le_trans HBS.out GEq.out) _, HJ.out _ _ HJ2.out (fun k_ hk_ => heap_apart (HM.out _ hk_) GEq.out), fun k_ hk_ hm_ => ?_⟩
    refine (heap_apart hk_ GEq.out).trans ((HK.out k_ (by have := HB.out.size; simp [World.setCell]; omega) (Nat.ne_of_lt (Nat.lt_of_lt_of_le hk_ GEn.out)) hm_ (fun e_ => Nat.not_lt.2 (Kd.R_base HOv.out k_ e_.symm) hk_)).trans ?_)
    exact (heap_apart hk_ GEn.out).trans (HB.out.block k_ hk_)
  · rw [if_neg herr]
    have hb1 : (err != 0) = true := bne_iff_ne.mpr herr
    clear herr
    go_enter Try.func45, Try.ntmps45
    go_wp2_with (first
      | ((with_reducible refine gate_dst (N := 3) rfl ?_); refine box_event ?hg (N := 3) ?hd (cs := #[.slice (some ad) l.length c0]) (t := 26) ?hr ?_; (case hd => rfl); (case hg => rfl); (case hr => first | (go_simp; done) | (go_simp; rfl)); intro gbp hg wbp hbox hb; have m0_ := Aside0.mk (below_step HB.out hb); have m1_ := Aside0.mk (hbox); have m2_ := Aside0.mk ((by rw [hg]; exact HB.out.size : w.heap.size ≤ gbp)); (try clear HB); have HB := m0_; have BKp := m1_; have GEp := m2_; clear m0_ m1_ m2_; clear hb hbox hg)
      | ((with_reducible refine gate_dst (N := 6) rfl ?_); refine box_event ?hg (N := 6) ?hd (cs := #[.slice none 0 0]) (t := 26) ?hr ?_; (case hd => rfl); (case hg => rfl); (case hr => first | (go_simp; done) | (go_simp; rfl)); intro gbq hg wbq hbox hb; have m0_ := Aside0.mk (blk_below (g := gbp) (o := .cells #[.slice (some ad) l.length c0] 26 (0, 0)) BKp.out hb); have m1_ := Aside0.mk (below_step HB.out hb); have m2_ := Aside0.mk (hbox); have m3_ := Aside0.mk ((by rw [hg]; exact HB.out.size : w.heap.size ≤ gbq)); have m4_ := Aside0.mk ((by rw [hg]; exact Nat.ne_of_lt (blk_lt BKp.out) : gbp ≠ gbq)); have m5_ := Aside0.mk ((by rw [hg]; exact Nat.ne_of_gt (blk_lt BKp.out) : gbq ≠ gbp)); (try clear BKp); (try clear HB); have BKp := m0_; have HB := m1_; have BKq := m2_; have GEq := m3_; have NBp_q := m4_; have NBq_p := m5_; clear m0_ m1_ m2_ m3_ m4_ m5_; clear hb hbox hg; have hcz1_p_0 : World.cell? _ ⟨gbp, 0, none⟩ = some (.slice (some ad) l.length c0) := (blk_cell BKp.out 0).trans rfl; have hfz1_p := blk_frozen BKp.out 0)
      | (go_at_call 17; (with_reducible refine (pool_Check.calls k _ _ l 0 _ ?s1 HC.out HE.out).mono ?_); (case s1 => exact Kd.C_below HR.out HB.out); rintro e w' ⟨rfl, hb⟩; clear hcz1_p_0 hfz1_p; have m0_ := Aside0.mk (blk_below (g := gbp) (o := .cells #[.slice (some ad) l.length c0] 26 (0, 0)) BKp.out hb); have m1_ := Aside0.mk (blk_below (g := gbq) (o := .cells #[.slice none 0 0] 26 (0, 0)) BKq.out hb); have m2_ := Aside0.mk (below_step HB.out hb); (try clear BKp); (try clear BKq); (try clear HB); have BKp := m0_; have BKq := m1_; have HB := m2_; clear m0_ m1_ m2_; clear hb; have hcz2_p_0 : World.cell? _ ⟨gbp, 0, none⟩ = some (.slice (some ad) l.length c0) := (blk_cell BKp.out 0).trans rfl; have hfz2_p := blk_frozen BKp.out 0)
      | (go_at_call 44; (with_reducible refine (pool_pool.calls _ _ l _ _ ns true _ ?s1 HC.out ?s2 HC1.out HP.out).mono ?_); (case s1 => exact Kd.C_below HR.out HB.out); (case s2 => exact Kd.C_below HR1.out HB.out); rintro e w' ⟨rfl, hb⟩; clear hcz2_p_0 hfz2_p; have m0_ := Aside0.mk (blk_below (g := gbp) (o := .cells #[.slice (some ad) l.length c0] 26 (0, 0)) BKp.out hb); have m1_ := Aside0.mk (blk_below (g := gbq) (o := .cells #[.slice none 0 0] 26 (0, 0)) BKq.out hb); have m2_ := Aside0.mk (below_step HB.out hb); (try clear BKp); (try clear BKq); (try clear HB); have BKp := m0_; have BKq := m1_; have HB := m2_; clear m0_ m1_ m2_; clear hb; have hcz3_p_0 : World.cell? _ ⟨gbp, 0, none⟩ = some (.slice (some ad) l.length c0) := (blk_cell BKp.out 0).trans rfl; have hfz3_p := blk_frozen BKp.out 0)
      | (go_at_call 57; (with_reducible refine (slices_Clone_cpus.calls _ _ l _ ?s1 HL.out).mono ?_); (case s1 => exact Kd.C_below HR.out HB.out); rintro e w' ⟨v, rfl, ho, hb⟩; clear hcz3_p_0 hfz3_p; have m0_ := Aside0.mk (blk_below (g := gbp) (o := .cells #[.slice (some ad) l.length c0] 26 (0, 0)) BKp.out hb); have m1_ := Aside0.mk (blk_below (g := gbq) (o := .cells #[.slice none 0 0] 26 (0, 0)) BKq.out hb); have m2_ := Aside0.mk (below_step HB.out hb); have m3_ := Aside0.mk (Kd.R_lower ho HB.out.size); (try clear BKp); (try clear BKq); (try clear HB); have BKp := m0_; have BKq := m1_; have HB := m2_; have HOv := m3_; clear m0_ m1_ m2_ m3_; clear hb ho; obtain ⟨Av, cv, ev⟩ := Kd.R_slice HOv.out; subst ev)
      | ((with_reducible refine gate_dst (N := 9) rfl ?_); refine box_event ?hg (N := 9) ?hd (cs := #[.slice none 0 0]) (t := 26) ?hr ?_; (case hd => rfl); (case hg => rfl); (case hr => first | (go_simp; done) | (go_simp; rfl)); intro gbn hg wbn hbox hb; have m0_ := Aside0.mk (blk_below (g := gbp) (o := .cells #[.slice (some ad) l.length c0] 26 (0, 0)) BKp.out hb); have m1_ := Aside0.mk (blk_below (g := gbq) (o := .cells #[.slice none 0 0] 26 (0, 0)) BKq.out hb); have m2_ := Aside0.mk (Kd.R_below HOv.out hb); have m3_ := Aside0.mk (below_step HB.out hb); have m4_ := Aside0.mk (hbox); have m5_ := Aside0.mk ((by rw [hg]; exact HB.out.size : w.heap.size ≤ gbn)); have m6_ := Aside0.mk ((by rw [hg]; exact Nat.ne_of_lt (blk_lt BKp.out) : gbp ≠ gbn)); have m7_ := Aside0.mk ((by rw [hg]; exact Nat.ne_of_gt (blk_lt BKp.out) : gbn ≠ gbp)); have m8_ := Aside0.mk ((by rw [hg]; exact Nat.ne_of_lt (blk_lt BKq.out) : gbq ≠ gbn)); have m9_ := Aside0.mk ((by rw [hg]; exact Nat.ne_of_gt (blk_lt BKq.out) : gbn ≠ gbq)); (try clear BKp); (try clear BKq); (try clear HOv); (try clear HB); have BKp := m0_; have BKq := m1_; have HOv := m2_; have HB := m3_; have BKn := m4_; have GEn := m5_; have NBp_n := m6_; have NBn_p := m7_; have NBq_n := m8_; have NBn_q := m9_; clear m0_ m1_ m2_ m3_ m4_ m5_ m6_ m7_ m8_ m9_; clear hb hbox hg; have hcz4_n_0 : World.cell? _ ⟨gbn, 0, none⟩ = some (.slice none 0 0) := (blk_cell BKn.out 0).trans rfl; have hfz4_n := blk_frozen BKn.out 0)
      | (go_at_fn g; refine (HD.out _ gbn (.slice Av l.length cv) ?d1 GEn.out ?d2 ?d3).mono ?_; (case d1 => exact below_set HB.out GEn.out); (case d2 => exact blk_put (cs := #[.slice none 0 0]) BKn.out 0 _ rfl); (case d3 => exact Kd.R_set HOv.out BKn.out (by decide) 0 _); rintro e w' ⟨rfl, hbb, hj, hk, hq⟩; clear hcz4_n_0 hfz4_n; have KQ := Aside0.mk ((hk gbq (by have := blk_lt BKq.out; simpa [World.setCell] using this) NBq_n.out (fun hm => Nat.not_lt.2 GEq.out (HM.out _ hm)) (Kd.R_ne HOv.out BKq.out (by decide))).trans (blk_far BKq.out (p := ⟨gbn, 0, none⟩) NBq_n.out (.slice Av l.length cv))); have hcq : World.cell? _ ⟨gbq, 0, none⟩ = some (.slice none 0 0) := (blk_cell KQ.out 0).trans rfl; have hfq := blk_frozen KQ.out 0; have HBB := Aside0.mk hbb; have HJ2 := Aside0.mk hj; have HK := Aside0.mk hk; have hnq := NBq_n.out; have hnq2 := NBn_q.out; clear hbb hj hk; clear hq))
    refine bodyPost_ret (results_ct rfl _ _ gbq 26 #[.slice none 0 0] (0, 0) _ rfl (blk_put (cs := #[.slice none 0 0]) KQ.out 0 _ rfl) Try.underlying26 rfl (by kernel_rfl)) rfl ?_
    refine ⟨_, rfl, Kd.R_nil _ _ _ _ _, ((HB.out.setCell GEn.out _).mono HBS.out |>.trans HBB.out).setCell (Nat.le_trans HBS.out GEq.out) _, HJ.out _ _ HJ2.out (fun k_ hk_ => heap_apart (HM.out _ hk_) GEq.out), fun k_ hk_ hm_ => ?_⟩
    refine (heap_apart hk_ GEq.out).trans ((HK.out k_ (by have := HB.out.size; simp [World.setCell]; omega) (Nat.ne_of_lt (Nat.lt_of_lt_of_le hk_ GEn.out)) hm_ (fun e_ => Nat.not_lt.2 (Kd.R_base HOv.out k_ e_.symm) hk_)).trans ?_)
    exact (heap_apart hk_ GEn.out).trans (HB.out.block k_ hk_)
set_option maxHeartbeats 2000000 in
theorem pool_with.bad (g : Nat) (lb : Array Value) (k : Nat) (A0 : Option Addr) (c0 : Nat) (l : List Int) (A1 : Option Addr) (c1 : Nat) (ns : List Int) (w : World)
    (hr : Kd.C (Kd.int .u32) w A0 l.length l) (hc : l.length ≤ c0) (hr1 : Kd.C (Kd.int .i64) w A1 ns.length ns) (hc1 : ns.length ≤ c1) (e1 : Int) (hec : pool_Check.f k l = some e1) (he1 : e1 ≠ 0) :
    Calls Try.prog 45 #[.agg #[.slice A0 l.length c0], .func (.func g) #[] lb, .slice A1 ns.length c1] w fun e w' => e = .returned (.tuple #[.agg #[.slice none 0 0], .int .i64 e1]) ∧ Below w.heap.size w w' := by
  have HR := Aside0.mk hr
  have HC := Aside0.mk hc
  have HR1 := Aside0.mk hr1
  have HC1 := Aside0.mk hc1
  have HE := Aside0.mk hec
  clear hr hc hr1 hc1 hec
  have HB := Aside0.mk (Below.refl w.heap.size w)
  have hb1 : (e1 != 0) = true := bne_iff_ne.mpr he1
  clear he1
  go_enter Try.func45, Try.ntmps45
  go_wp2_with (first
    | ((with_reducible refine gate_dst (N := 3) rfl ?_); refine box_event ?hg (N := 3) ?hd (cs := #[.slice A0 l.length c0]) (t := 26) ?hr ?_; (case hd => rfl); (case hg => rfl); (case hr => first | (go_simp; done) | (go_simp; rfl)); intro gbp hg wbp hbox hb; have m0_ := Aside0.mk (below_step HB.out hb); have m1_ := Aside0.mk (hbox); have m2_ := Aside0.mk ((by rw [hg]; exact HB.out.size : w.heap.size ≤ gbp)); (try clear HB); have HB := m0_; have BKp := m1_; have GEp := m2_; clear m0_ m1_ m2_; clear hb hbox hg)
    | ((with_reducible refine gate_dst (N := 6) rfl ?_); refine box_event ?hg (N := 6) ?hd (cs := #[.slice none 0 0]) (t := 26) ?hr ?_; (case hd => rfl); (case hg => rfl); (case hr => first | (go_simp; done) | (go_simp; rfl)); intro gbq hg wbq hbox hb; have m0_ := Aside0.mk (blk_below (g := gbp) (o := .cells #[.slice A0 l.length c0] 26 (0, 0)) BKp.out hb); have m1_ := Aside0.mk (below_step HB.out hb); have m2_ := Aside0.mk (hbox); have m3_ := Aside0.mk ((by rw [hg]; exact HB.out.size : w.heap.size ≤ gbq)); have m4_ := Aside0.mk ((by rw [hg]; exact Nat.ne_of_lt (blk_lt BKp.out) : gbp ≠ gbq)); have m5_ := Aside0.mk ((by rw [hg]; exact Nat.ne_of_gt (blk_lt BKp.out) : gbq ≠ gbp)); (try clear BKp); (try clear HB); have BKp := m0_; have HB := m1_; have BKq := m2_; have GEq := m3_; have NBp_q := m4_; have NBq_p := m5_; clear m0_ m1_ m2_ m3_ m4_ m5_; clear hb hbox hg; have hcz1_p_0 : World.cell? _ ⟨gbp, 0, none⟩ = some (.slice A0 l.length c0) := (blk_cell BKp.out 0).trans rfl; have hfz1_p := blk_frozen BKp.out 0)
    | (go_at_call 17; (with_reducible refine (pool_Check.calls k _ _ l e1 _ ?s1 HC.out HE.out).mono ?_); (case s1 => exact Kd.C_below HR.out HB.out); rintro e w' ⟨rfl, hb⟩; clear hcz1_p_0 hfz1_p; have m0_ := Aside0.mk (blk_below (g := gbp) (o := .cells #[.slice A0 l.length c0] 26 (0, 0)) BKp.out hb); have m1_ := Aside0.mk (blk_below (g := gbq) (o := .cells #[.slice none 0 0] 26 (0, 0)) BKq.out hb); have m2_ := Aside0.mk (below_step HB.out hb); (try clear BKp); (try clear BKq); (try clear HB); have BKp := m0_; have BKq := m1_; have HB := m2_; clear m0_ m1_ m2_; clear hb; have hcz2_p_0 : World.cell? _ ⟨gbp, 0, none⟩ = some (.slice A0 l.length c0) := (blk_cell BKp.out 0).trans rfl; have hfz2_p := blk_frozen BKp.out 0; have hcz2_q_0 : World.cell? _ ⟨gbq, 0, none⟩ = some (.slice none 0 0) := (blk_cell BKq.out 0).trans rfl; have hfz2_q := blk_frozen BKq.out 0))
  refine bodyPost_ret (results_ct rfl _ _ gbq 26 #[.slice none 0 0] (0, 0) _ rfl (blk_put (cs := #[.slice none 0 0]) BKq.out 0 _ rfl) Try.underlying26 rfl (by kernel_rfl)) rfl ?_
  exact ⟨rfl, HB.out.setCell GEq.out _⟩
set_option maxHeartbeats 2000000 in
theorem pool_with.lacks (g : Nat) (lb : Array Value) (k : Nat) (A0 : Option Addr) (c0 : Nat) (l : List Int) (A1 : Option Addr) (c1 : Nat) (ns : List Int) (w : World)
    (hr : Kd.C (Kd.int .u32) w A0 l.length l) (hc : l.length ≤ c0) (hr1 : Kd.C (Kd.int .i64) w A1 ns.length ns) (hc1 : ns.length ≤ c1) (hec : pool_Check.f k l = some 0) (hp : pool_pool.f l ns = some false) :
    Calls Try.prog 45 #[.agg #[.slice A0 l.length c0], .func (.func g) #[] lb, .slice A1 ns.length c1] w fun e w' => e = .returned (.tuple #[.agg #[.slice none 0 0], .int .i64 4]) ∧ Below w.heap.size w w' := by
  have HR := Aside0.mk hr
  have HC := Aside0.mk hc
  have HR1 := Aside0.mk hr1
  have HC1 := Aside0.mk hc1
  have HE := Aside0.mk hec
  clear hr hc hr1 hc1 hec
  have HB := Aside0.mk (Below.refl w.heap.size w)
  have HP := Aside0.mk hp
  clear hp
  go_enter Try.func45, Try.ntmps45
  go_wp2_with (first
    | ((with_reducible refine gate_dst (N := 3) rfl ?_); refine box_event ?hg (N := 3) ?hd (cs := #[.slice A0 l.length c0]) (t := 26) ?hr ?_; (case hd => rfl); (case hg => rfl); (case hr => first | (go_simp; done) | (go_simp; rfl)); intro gbp hg wbp hbox hb; have m0_ := Aside0.mk (below_step HB.out hb); have m1_ := Aside0.mk (hbox); have m2_ := Aside0.mk ((by rw [hg]; exact HB.out.size : w.heap.size ≤ gbp)); (try clear HB); have HB := m0_; have BKp := m1_; have GEp := m2_; clear m0_ m1_ m2_; clear hb hbox hg)
    | ((with_reducible refine gate_dst (N := 6) rfl ?_); refine box_event ?hg (N := 6) ?hd (cs := #[.slice none 0 0]) (t := 26) ?hr ?_; (case hd => rfl); (case hg => rfl); (case hr => first | (go_simp; done) | (go_simp; rfl)); intro gbq hg wbq hbox hb; have m0_ := Aside0.mk (blk_below (g := gbp) (o := .cells #[.slice A0 l.length c0] 26 (0, 0)) BKp.out hb); have m1_ := Aside0.mk (below_step HB.out hb); have m2_ := Aside0.mk (hbox); have m3_ := Aside0.mk ((by rw [hg]; exact HB.out.size : w.heap.size ≤ gbq)); have m4_ := Aside0.mk ((by rw [hg]; exact Nat.ne_of_lt (blk_lt BKp.out) : gbp ≠ gbq)); have m5_ := Aside0.mk ((by rw [hg]; exact Nat.ne_of_gt (blk_lt BKp.out) : gbq ≠ gbp)); (try clear BKp); (try clear HB); have BKp := m0_; have HB := m1_; have BKq := m2_; have GEq := m3_; have NBp_q := m4_; have NBq_p := m5_; clear m0_ m1_ m2_ m3_ m4_ m5_; clear hb hbox hg; have hcz1_p_0 : World.cell? _ ⟨gbp, 0, none⟩ = some (.slice A0 l.length c0) := (blk_cell BKp.out 0).trans rfl; have hfz1_p := blk_frozen BKp.out 0)
    | (go_at_call 17; (with_reducible refine (pool_Check.calls k _ _ l 0 _ ?s1 HC.out HE.out).mono ?_); (case s1 => exact Kd.C_below HR.out HB.out); rintro e w' ⟨rfl, hb⟩; clear hcz1_p_0 hfz1_p; have m0_ := Aside0.mk (blk_below (g := gbp) (o := .cells #[.slice A0 l.length c0] 26 (0, 0)) BKp.out hb); have m1_ := Aside0.mk (blk_below (g := gbq) (o := .cells #[.slice none 0 0] 26 (0, 0)) BKq.out hb); have m2_ := Aside0.mk (below_step HB.out hb); (try clear BKp); (try clear BKq); (try clear HB); have BKp := m0_; have BKq := m1_; have HB := m2_; clear m0_ m1_ m2_; clear hb; have hcz2_p_0 : World.cell? _ ⟨gbp, 0, none⟩ = some (.slice A0 l.length c0) := (blk_cell BKp.out 0).trans rfl; have hfz2_p := blk_frozen BKp.out 0; have hcz2_q_0 : World.cell? _ ⟨gbq, 0, none⟩ = some (.slice none 0 0) := (blk_cell BKq.out 0).trans rfl; have hfz2_q := blk_frozen BKq.out 0)
    | (go_at_call 44; (with_reducible refine (pool_pool.calls _ _ l _ _ ns false _ ?s1 HC.out ?s2 HC1.out HP.out).mono ?_); (case s1 => exact Kd.C_below HR.out HB.out); (case s2 => exact Kd.C_below HR1.out HB.out); rintro e w' ⟨rfl, hb⟩; clear hcz2_p_0 hcz2_q_0 hfz2_p hfz2_q; have m0_ := Aside0.mk (blk_below (g := gbp) (o := .cells #[.slice A0 l.length c0] 26 (0, 0)) BKp.out hb); have m1_ := Aside0.mk (blk_below (g := gbq) (o := .cells #[.slice none 0 0] 26 (0, 0)) BKq.out hb); have m2_ := Aside0.mk (below_step HB.out hb); (try clear BKp); (try clear BKq); (try clear HB); have BKp := m0_; have BKq := m1_; have HB := m2_; clear m0_ m1_ m2_; clear hb; have hcz3_p_0 : World.cell? _ ⟨gbp, 0, none⟩ = some (.slice A0 l.length c0) := (blk_cell BKp.out 0).trans rfl; have hfz3_p := blk_frozen BKp.out 0; have hcz3_q_0 : World.cell? _ ⟨gbq, 0, none⟩ = some (.slice none 0 0) := (blk_cell BKq.out 0).trans rfl; have hfz3_q := blk_frozen BKq.out 0))
  refine bodyPost_ret (results_ct rfl _ _ gbq 26 #[.slice none 0 0] (0, 0) _ rfl (blk_put (cs := #[.slice none 0 0]) BKq.out 0 _ rfl) Try.underlying26 rfl (by kernel_rfl)) rfl ?_
  exact ⟨rfl, HB.out.setCell GEq.out _⟩

end Go.Proofs.Ytkhbffjfclepfaa.Q

/- Function 47, mainsheet_cpuset_Within: contracts over the given program's functions, one a function; no condition beyond those that each theorem states. Written by this session's program over the kit's printer, and by hand. -/
namespace Go.Proofs.Ytkhbffjfclepfaa.Q
open Go.RowKit Go.Proofs.YtkhbffjfclepfaaW.PrintWords Go.Proofs.YtkhbffjfclepfaaW.PrintLast Go.Proofs.YtkhbffjfclepfaaW.PrintMore
attribute [local go_sem] max2_int min2_int max_two min_two max_three min_three max_four min_four
set_option linter.unusedVariables false
set_option linter.unusedSimpArgs false

/-! ### cpuset_Within: function 47 -/
def cpuset_Within.f (a0 : Int) (a1 : Int) : Option (Bool) := some ((Go.bits .andNot .u32 (Go.bits .and .u32 a0 255) a1) == 0)
set_option maxHeartbeats 8000000 in
set_option maxRecDepth 100000 in
theorem cpuset_Within.calls (a0 : Int) (a1 : Int) (r : Bool) (w : World) (h : cpuset_Within.f a0 a1 = some r) :
    Calls Try.prog 47 #[.int .u32 a0, .int .u32 a1] w fun e w' => e = .returned (.bool r) ∧ Drawn0 w w' := by
  have H : (some ((Go.bits .andNot .u32 (Go.bits .and .u32 a0 255) a1) == 0)) = some r := h
  clear h
  obtain rfl := Option.some.inj H
  go_enter Try.func47, Try.ntmps47
  go_wp2
  go_ret
  exact ⟨by first | rfl | (simp; done) | (simp [*]; done), by repeat (first | exact Drawn0.refl _ | apply Drawn0.step)⟩

end Go.Proofs.Ytkhbffjfclepfaa.Q
