/- Part 5 of 6 of what the row of TopoTells stands on: contracts over the given program's functions, the plain law, the row; no condition beyond those that each theorem states. -/
import Derived.Test.YtcpfcehfgenljaaDoorXTopoTells3
section
namespace Go.Proofs.YtcpfcehfgenljaaDoor.Q
open Go.RowKit Go.Proofs.YtcpfcehfgenljaaDoorW.PrintWords Go.Proofs.YtcpfcehfgenljaaDoorW.PrintLast Go.Proofs.YtcpfcehfgenljaaDoorW.PrintMore
set_option linter.unusedVariables false
set_option linter.unusedSimpArgs false
attribute [local go_sem high] h_0
mutual
def a_a.l0 : Nat → List (S24) → List Int → List (S24) → Int → Int → Option (Bool)
 | 0,_,_,_,_,_ => none
 | k + 1,x0,x1,x21,x22,x23 => if x23 < x22 then (if 0 ≤ x23 then (if x23 < (x21.length : Int) then (if x23 = 8 then (some true) else ((a_u.f ((a_E x21 x23).f0)).bind fun t368 => (if 0 < (x0.length : Int) then ((a_u.f ((a_E x0 0).f0)).bind fun t372 => ((a_q.f k t368).bind fun t377 => ((b_l.f t368).bind fun t378 => (if ((t378 == 0) != t377) = true then (a_a.j1 k x0 x1 t377 x21 x22 x23 true t368) else (if t377 = true then ((a_H.f k t368 t372).bind fun t379 => ((a_o.f k t368 t372).bind fun t380 => (if (t379 != t380) = true then (a_a.j1 k x0 x1 t377 x21 x22 x23 true t368) else ((a_u.f ((a_E x21 x23).f0)).bind fun t381 => ((a_H.f k t368 t381).bind fun t384 => (a_a.j1 k x0 x1 t377 x21 x22 x23 (!t384) t368)))))) else (if t378 = 160 then ((a_H.f k t368 t372).bind fun t385 => ((a_o.f k t368 t372).bind fun t386 => (if (t385 != t386) = true then (a_a.j1 k x0 x1 t377 x21 x22 x23 true t368) else ((a_u.f ((a_E x21 x23).f0)).bind fun t387 => ((a_H.f k t368 t387).bind fun t390 => (a_a.j1 k x0 x1 t377 x21 x22 x23 (!t390) t368)))))) else (a_a.j1 k x0 x1 t377 x21 x22 x23 true t368))))))) else (none)))) else (none)) else (none)) else (some true)
def a_a.j1 : Nat → List (S24) → List Int → Bool → List (S24) → Int → Int → Bool → List (S56) → Option (Bool)
 | 0,_,_,_,_,_,_,_,_ => none
 | k + 1,x0,x1,x9,x21,x22,x23,x67,x376000 => if x67 = true then (some false) else (a_a.l1 k x0 x1 x9 0 x21 x22 x23 (x376000.length : Int) 0 x376000)
def a_a.l1 : Nat → List (S24) → List Int → Bool → Int → List (S24) → Int → Int → Int → Int → List (S56) → Option (Bool)
 | 0,_,_,_,_,_,_,_,_,_,_ => none
 | k + 1,x0,x1,x9,x11,x21,x22,x23,x70,x71,x376000 => if x71 < x70 then (if x9 = true then (if 0 ≤ x71 then (a_a.l1 k x0 x1 x9 (Go.bits .or .u32 x11 (shl .u32 1 x71)) x21 x22 x23 x70 (wrap64 (x71 + 1)) x376000) else (none)) else (a_a.l1 k x0 x1 x9 x11 x21 x22 x23 x70 (wrap64 (x71 + 1)) x376000)) else ((c_A.f x376000).bind fun t391 => (if t391 = x11 then (a_a.l2 k x0 x1 x9 x21 x22 x23 x1 (x1.length : Int) 0 x376000) else (some false)))
def a_a.l2 : Nat → List (S24) → List Int → Bool → List (S24) → Int → Int → List Int → Int → Int → List (S56) → Option (Bool)
 | 0,_,_,_,_,_,_,_,_,_,_ => none
 | k + 1,x0,x1,x9,x21,x22,x23,x84,x85,x86,x376000 => if x86 < x85 then (if 0 ≤ x86 then (if x86 < (x84.length : Int) then (if x86 = 10 then (a_a.l0 k x0 x1 x21 x22 (wrap64 (x23 + 1))) else (a_a.l3 k x0 x1 x9 (rd x84 x86) 0 0 x21 x22 x23 x84 x85 x86 x376000 (x376000.length : Int) 0 x376000)) else (none)) else (none)) else (a_a.l0 k x0 x1 x21 x22 (wrap64 (x23 + 1)))
def a_a.l3 : Nat → List (S24) → List Int → Bool → Int → Int → Int → List (S24) → Int → Int → List Int → Int → Int → List (S56) → Int → Int → List (S56) → Option (Bool)
 | 0,_,_,_,_,_,_,_,_,_,_,_,_,_,_,_,_ => none
 | k + 1,x0,x1,x9,x14,x15,x16,x21,x22,x23,x84,x85,x86,x94,x95,x96,x376000 => if x96 < x95 then (if 0 ≤ x96 then (if x96 < (x94.length : Int) then (if x9 = true then (a_a.j5 k x0 x1 x9 x14 x15 x16 x96 x21 x22 x23 x84 x85 x86 x94 x95 x96 (((a_n x94 x96).f0) == x14) x376000 ((a_n x94 x96).f0) ((a_n x94 x96).f1)) else (a_a.j5 k x0 x1 x9 x14 x15 x16 x96 x21 x22 x23 x84 x85 x86 x94 x95 x96 false x376000 ((a_n x94 x96).f0) ((a_n x94 x96).f1))) else (none)) else (none)) else ((b_u.f x376000 x14).bind fun t399 => (if t399 = x15 then ((b_R.f x376000 x14).bind fun t400 => (if t400 = x16 then (a_a.l2 k x0 x1 x9 x21 x22 x23 x84 x85 (wrap64 (x86 + 1)) x376000) else (some false))) else (some false)))
def a_a.j5 : Nat → List (S24) → List Int → Bool → Int → Int → Int → Int → List (S24) → Int → Int → List Int → Int → Int → List (S56) → Int → Int → Bool → List (S56) → Int → Int → Option (Bool)
 | 0,_,_,_,_,_,_,_,_,_,_,_,_,_,_,_,_,_,_,_,_ => none
 | k + 1,x0,x1,x9,x14,x15,x16,x17,x21,x22,x23,x84,x85,x86,x94,x95,x96,x107,x376000,x395000,x395001 => if x107 = true then (if 0 ≤ x17 then (if x9 = true then ((a_T.f x376000 x14).bind fun t395 => (if t395 = true then (if 0 ≤ x14 then (if x14 < (x376000.length : Int) then (if (x395000 == ((a_n x376000 x14).f0) && (x395001 == ((a_n x376000 x14).f1))) = true then (a_a.l3 k x0 x1 x9 x14 (Go.bits .or .u32 x15 (shl .u32 1 x17)) (Go.bits .or .u32 x16 (shl .u32 1 x17)) x21 x22 x23 x84 x85 x86 x94 x95 (wrap64 (x96 + 1)) x376000) else (a_a.l3 k x0 x1 x9 x14 (Go.bits .or .u32 x15 (shl .u32 1 x17)) x16 x21 x22 x23 x84 x85 x86 x94 x95 (wrap64 (x96 + 1)) x376000)) else (none)) else (none)) else (a_a.l3 k x0 x1 x9 x14 (Go.bits .or .u32 x15 (shl .u32 1 x17)) x16 x21 x22 x23 x84 x85 x86 x94 x95 (wrap64 (x96 + 1)) x376000))) else (a_a.l3 k x0 x1 x9 x14 (Go.bits .or .u32 x15 (shl .u32 1 x17)) x16 x21 x22 x23 x84 x85 x86 x94 x95 (wrap64 (x96 + 1)) x376000)) else (none)) else (if x9 = true then ((a_T.f x376000 x14).bind fun t397 => (if t397 = true then (if 0 ≤ x14 then (if x14 < (x376000.length : Int) then (if (x395000 == ((a_n x376000 x14).f0) && (x395001 == ((a_n x376000 x14).f1))) = true then (if 0 ≤ x17 then (a_a.l3 k x0 x1 x9 x14 x15 (Go.bits .or .u32 x16 (shl .u32 1 x17)) x21 x22 x23 x84 x85 x86 x94 x95 (wrap64 (x96 + 1)) x376000) else (none)) else (a_a.l3 k x0 x1 x9 x14 x15 x16 x21 x22 x23 x84 x85 x86 x94 x95 (wrap64 (x96 + 1)) x376000)) else (none)) else (none)) else (a_a.l3 k x0 x1 x9 x14 x15 x16 x21 x22 x23 x84 x85 x86 x94 x95 (wrap64 (x96 + 1)) x376000))) else (a_a.l3 k x0 x1 x9 x14 x15 x16 x21 x22 x23 x84 x85 x86 x94 x95 (wrap64 (x96 + 1)) x376000))
end
def a_a.f (k : Nat) (l0 : List (S24)) (l1 : List Int) : Option (Bool):=(a_y.f k).bind fun t365 => (if t365 = true then (a_a.l0 k l0 l1 l0 (l0.length : Int) 0) else (some false))
theorem a_a.c_n : ∀ k,(∀ y0 y1 y2 y3 y4,LeO (a_a.l0 k y0 y1 y2 y3 y4) (a_a.l0 (k + 1) y0 y1 y2 y3 y4)) ∧ (∀ y0 y1 y2 y3 y4 y5 y6 y7,LeO (a_a.j1 k y0 y1 y2 y3 y4 y5 y6 y7) (a_a.j1 (k + 1) y0 y1 y2 y3 y4 y5 y6 y7)) ∧ (∀ y0 y1 y2 y3 y4 y5 y6 y7 y8 y9,LeO (a_a.l1 k y0 y1 y2 y3 y4 y5 y6 y7 y8 y9) (a_a.l1 (k + 1) y0 y1 y2 y3 y4 y5 y6 y7 y8 y9)) ∧ (∀ y0 y1 y2 y3 y4 y5 y6 y7 y8 y9,LeO (a_a.l2 k y0 y1 y2 y3 y4 y5 y6 y7 y8 y9) (a_a.l2 (k + 1) y0 y1 y2 y3 y4 y5 y6 y7 y8 y9)) ∧ (∀ y0 y1 y2 y3 y4 y5 y6 y7 y8 y9 y10 y11 y12 y13 y14 y15,LeO (a_a.l3 k y0 y1 y2 y3 y4 y5 y6 y7 y8 y9 y10 y11 y12 y13 y14 y15) (a_a.l3 (k + 1) y0 y1 y2 y3 y4 y5 y6 y7 y8 y9 y10 y11 y12 y13 y14 y15)) ∧ (∀ y0 y1 y2 y3 y4 y5 y6 y7 y8 y9 y10 y11 y12 y13 y14 y15 y16 y17 y18 y19,LeO (a_a.j5 k y0 y1 y2 y3 y4 y5 y6 y7 y8 y9 y10 y11 y12 y13 y14 y15 y16 y17 y18 y19) (a_a.j5 (k + 1) y0 y1 y2 y3 y4 y5 y6 y7 y8 y9 y10 y11 y12 y13 y14 y15 y16 y17 y18 y19))
 | 0 => ⟨fun _ _ _ _ _ r h => by simp [a_a.l0] at h,fun _ _ _ _ _ _ _ _ r h => by simp [a_a.j1] at h,fun _ _ _ _ _ _ _ _ _ _ r h => by simp [a_a.l1] at h,fun _ _ _ _ _ _ _ _ _ _ r h => by simp [a_a.l2] at h,fun _ _ _ _ _ _ _ _ _ _ _ _ _ _ _ _ r h => by simp [a_a.l3] at h,fun _ _ _ _ _ _ _ _ _ _ _ _ _ _ _ _ _ _ _ _ r h => by simp [a_a.j5] at h⟩
 | k + 1 => by
  obtain ⟨ih0,ih1,ih2,ih3,ih4,ih5⟩:=a_a.c_n k
  refine ⟨?_,?_,?_,?_,?_,?_⟩
  ·intro y0 y1 y2 y3 y4
   unfold a_a.l0
   repeat' first
   | (with_reducible exact ih0 _ _ _ _ _)
   | (with_reducible exact ih1 _ _ _ _ _ _ _ _)
   | (with_reducible exact ih2 _ _ _ _ _ _ _ _ _ _)
   | (with_reducible exact ih3 _ _ _ _ _ _ _ _ _ _)
   | (with_reducible exact ih4 _ _ _ _ _ _ _ _ _ _ _ _ _ _ _ _)
   | (with_reducible exact ih5 _ _ _ _ _ _ _ _ _ _ _ _ _ _ _ _ _ _ _ _)
   | (with_reducible exact a_y.mono _)
   | (with_reducible exact a_q.mono _ _)
   | (with_reducible exact a_o.mono _ _ _)
   | (with_reducible exact a_H.mono _ _ _)
   | (with_reducible exact LeO.refl _)
   | (with_reducible exact LeO.none _)
   | (with_reducible refine LeO.ite ?_ ?_)
   | (with_reducible refine LeO.bind ?_ (fun _ => ?_))
   | exact ih0 _ _ _ _ _
   | exact ih1 _ _ _ _ _ _ _ _
   | exact ih2 _ _ _ _ _ _ _ _ _ _
   | exact ih3 _ _ _ _ _ _ _ _ _ _
   | exact ih4 _ _ _ _ _ _ _ _ _ _ _ _ _ _ _ _
   | exact ih5 _ _ _ _ _ _ _ _ _ _ _ _ _ _ _ _ _ _ _ _
   | exact a_y.mono _
   | exact a_q.mono _ _
   | exact a_o.mono _ _ _
   | exact a_H.mono _ _ _
   | exact LeO.none _
   | refine LeO.ite ?_ ?_
   | refine LeO.bind ?_ (fun _ => ?_)
  ·intro y0 y1 y2 y3 y4 y5 y6 y7
   unfold a_a.j1
   repeat' first
   | (with_reducible exact ih0 _ _ _ _ _)
   | (with_reducible exact ih1 _ _ _ _ _ _ _ _)
   | (with_reducible exact ih2 _ _ _ _ _ _ _ _ _ _)
   | (with_reducible exact ih3 _ _ _ _ _ _ _ _ _ _)
   | (with_reducible exact ih4 _ _ _ _ _ _ _ _ _ _ _ _ _ _ _ _)
   | (with_reducible exact ih5 _ _ _ _ _ _ _ _ _ _ _ _ _ _ _ _ _ _ _ _)
   | (with_reducible exact a_y.mono _)
   | (with_reducible exact a_q.mono _ _)
   | (with_reducible exact a_o.mono _ _ _)
   | (with_reducible exact a_H.mono _ _ _)
   | (with_reducible exact LeO.refl _)
   | (with_reducible exact LeO.none _)
   | (with_reducible refine LeO.ite ?_ ?_)
   | (with_reducible refine LeO.bind ?_ (fun _ => ?_))
   | exact ih0 _ _ _ _ _
   | exact ih1 _ _ _ _ _ _ _ _
   | exact ih2 _ _ _ _ _ _ _ _ _ _
   | exact ih3 _ _ _ _ _ _ _ _ _ _
   | exact ih4 _ _ _ _ _ _ _ _ _ _ _ _ _ _ _ _
   | exact ih5 _ _ _ _ _ _ _ _ _ _ _ _ _ _ _ _ _ _ _ _
   | exact a_y.mono _
   | exact a_q.mono _ _
   | exact a_o.mono _ _ _
   | exact a_H.mono _ _ _
   | exact LeO.none _
   | refine LeO.ite ?_ ?_
   | refine LeO.bind ?_ (fun _ => ?_)
  ·intro y0 y1 y2 y3 y4 y5 y6 y7 y8 y9
   unfold a_a.l1
   repeat' first
   | (with_reducible exact ih0 _ _ _ _ _)
   | (with_reducible exact ih1 _ _ _ _ _ _ _ _)
   | (with_reducible exact ih2 _ _ _ _ _ _ _ _ _ _)
   | (with_reducible exact ih3 _ _ _ _ _ _ _ _ _ _)
   | (with_reducible exact ih4 _ _ _ _ _ _ _ _ _ _ _ _ _ _ _ _)
   | (with_reducible exact ih5 _ _ _ _ _ _ _ _ _ _ _ _ _ _ _ _ _ _ _ _)
   | (with_reducible exact a_y.mono _)
   | (with_reducible exact a_q.mono _ _)
   | (with_reducible exact a_o.mono _ _ _)
   | (with_reducible exact a_H.mono _ _ _)
   | (with_reducible exact LeO.refl _)
   | (with_reducible exact LeO.none _)
   | (with_reducible refine LeO.ite ?_ ?_)
   | (with_reducible refine LeO.bind ?_ (fun _ => ?_))
   | exact ih0 _ _ _ _ _
   | exact ih1 _ _ _ _ _ _ _ _
   | exact ih2 _ _ _ _ _ _ _ _ _ _
   | exact ih3 _ _ _ _ _ _ _ _ _ _
   | exact ih4 _ _ _ _ _ _ _ _ _ _ _ _ _ _ _ _
   | exact ih5 _ _ _ _ _ _ _ _ _ _ _ _ _ _ _ _ _ _ _ _
   | exact a_y.mono _
   | exact a_q.mono _ _
   | exact a_o.mono _ _ _
   | exact a_H.mono _ _ _
   | exact LeO.none _
   | refine LeO.ite ?_ ?_
   | refine LeO.bind ?_ (fun _ => ?_)
  ·intro y0 y1 y2 y3 y4 y5 y6 y7 y8 y9
   unfold a_a.l2
   repeat' first
   | (with_reducible exact ih0 _ _ _ _ _)
   | (with_reducible exact ih1 _ _ _ _ _ _ _ _)
   | (with_reducible exact ih2 _ _ _ _ _ _ _ _ _ _)
   | (with_reducible exact ih3 _ _ _ _ _ _ _ _ _ _)
   | (with_reducible exact ih4 _ _ _ _ _ _ _ _ _ _ _ _ _ _ _ _)
   | (with_reducible exact ih5 _ _ _ _ _ _ _ _ _ _ _ _ _ _ _ _ _ _ _ _)
   | (with_reducible exact a_y.mono _)
   | (with_reducible exact a_q.mono _ _)
   | (with_reducible exact a_o.mono _ _ _)
   | (with_reducible exact a_H.mono _ _ _)
   | (with_reducible exact LeO.refl _)
   | (with_reducible exact LeO.none _)
   | (with_reducible refine LeO.ite ?_ ?_)
   | (with_reducible refine LeO.bind ?_ (fun _ => ?_))
   | exact ih0 _ _ _ _ _
   | exact ih1 _ _ _ _ _ _ _ _
   | exact ih2 _ _ _ _ _ _ _ _ _ _
   | exact ih3 _ _ _ _ _ _ _ _ _ _
   | exact ih4 _ _ _ _ _ _ _ _ _ _ _ _ _ _ _ _
   | exact ih5 _ _ _ _ _ _ _ _ _ _ _ _ _ _ _ _ _ _ _ _
   | exact a_y.mono _
   | exact a_q.mono _ _
   | exact a_o.mono _ _ _
   | exact a_H.mono _ _ _
   | exact LeO.none _
   | refine LeO.ite ?_ ?_
   | refine LeO.bind ?_ (fun _ => ?_)
  ·intro y0 y1 y2 y3 y4 y5 y6 y7 y8 y9 y10 y11 y12 y13 y14 y15
   unfold a_a.l3
   repeat' first
   | (with_reducible exact ih0 _ _ _ _ _)
   | (with_reducible exact ih1 _ _ _ _ _ _ _ _)
   | (with_reducible exact ih2 _ _ _ _ _ _ _ _ _ _)
   | (with_reducible exact ih3 _ _ _ _ _ _ _ _ _ _)
   | (with_reducible exact ih4 _ _ _ _ _ _ _ _ _ _ _ _ _ _ _ _)
   | (with_reducible exact ih5 _ _ _ _ _ _ _ _ _ _ _ _ _ _ _ _ _ _ _ _)
   | (with_reducible exact a_y.mono _)
   | (with_reducible exact a_q.mono _ _)
   | (with_reducible exact a_o.mono _ _ _)
   | (with_reducible exact a_H.mono _ _ _)
   | (with_reducible exact LeO.refl _)
   | (with_reducible exact LeO.none _)
   | (with_reducible refine LeO.ite ?_ ?_)
   | (with_reducible refine LeO.bind ?_ (fun _ => ?_))
   | exact ih0 _ _ _ _ _
   | exact ih1 _ _ _ _ _ _ _ _
   | exact ih2 _ _ _ _ _ _ _ _ _ _
   | exact ih3 _ _ _ _ _ _ _ _ _ _
   | exact ih4 _ _ _ _ _ _ _ _ _ _ _ _ _ _ _ _
   | exact ih5 _ _ _ _ _ _ _ _ _ _ _ _ _ _ _ _ _ _ _ _
   | exact a_y.mono _
   | exact a_q.mono _ _
   | exact a_o.mono _ _ _
   | exact a_H.mono _ _ _
   | exact LeO.none _
   | refine LeO.ite ?_ ?_
   | refine LeO.bind ?_ (fun _ => ?_)
  ·intro y0 y1 y2 y3 y4 y5 y6 y7 y8 y9 y10 y11 y12 y13 y14 y15 y16 y17 y18 y19
   unfold a_a.j5
   repeat' first
   | (with_reducible exact ih0 _ _ _ _ _)
   | (with_reducible exact ih1 _ _ _ _ _ _ _ _)
   | (with_reducible exact ih2 _ _ _ _ _ _ _ _ _ _)
   | (with_reducible exact ih3 _ _ _ _ _ _ _ _ _ _)
   | (with_reducible exact ih4 _ _ _ _ _ _ _ _ _ _ _ _ _ _ _ _)
   | (with_reducible exact ih5 _ _ _ _ _ _ _ _ _ _ _ _ _ _ _ _ _ _ _ _)
   | (with_reducible exact a_y.mono _)
   | (with_reducible exact a_q.mono _ _)
   | (with_reducible exact a_o.mono _ _ _)
   | (with_reducible exact a_H.mono _ _ _)
   | (with_reducible exact LeO.refl _)
   | (with_reducible exact LeO.none _)
   | (with_reducible refine LeO.ite ?_ ?_)
   | (with_reducible refine LeO.bind ?_ (fun _ => ?_))
   | exact ih0 _ _ _ _ _
   | exact ih1 _ _ _ _ _ _ _ _
   | exact ih2 _ _ _ _ _ _ _ _ _ _
   | exact ih3 _ _ _ _ _ _ _ _ _ _
   | exact ih4 _ _ _ _ _ _ _ _ _ _ _ _ _ _ _ _
   | exact ih5 _ _ _ _ _ _ _ _ _ _ _ _ _ _ _ _ _ _ _ _
   | exact a_y.mono _
   | exact a_q.mono _ _
   | exact a_o.mono _ _ _
   | exact a_H.mono _ _ _
   | exact LeO.none _
   | refine LeO.ite ?_ ?_
   | refine LeO.bind ?_ (fun _ => ?_)
theorem a_a.mono : ∀ a0 a1 k,LeO (a_a.f k a0 a1) (a_a.f (k + 1) a0 a1):=by
 intro a0 a1 k
 obtain ⟨ih0,ih1,ih2,ih3,ih4,ih5⟩:=a_a.c_n k
 unfold a_a.f
 repeat' first
  | (with_reducible exact ih0 _ _ _ _ _)
  | (with_reducible exact ih1 _ _ _ _ _ _ _ _)
  | (with_reducible exact ih2 _ _ _ _ _ _ _ _ _ _)
  | (with_reducible exact ih3 _ _ _ _ _ _ _ _ _ _)
  | (with_reducible exact ih4 _ _ _ _ _ _ _ _ _ _ _ _ _ _ _ _)
  | (with_reducible exact ih5 _ _ _ _ _ _ _ _ _ _ _ _ _ _ _ _ _ _ _ _)
  | (with_reducible exact a_y.mono _)
  | (with_reducible exact a_q.mono _ _)
  | (with_reducible exact a_o.mono _ _ _)
  | (with_reducible exact a_H.mono _ _ _)
  | (with_reducible exact LeO.refl _)
  | (with_reducible exact LeO.none _)
  | (with_reducible refine LeO.ite ?_ ?_)
  | (with_reducible refine LeO.bind ?_ (fun _ => ?_))
  | exact ih0 _ _ _ _ _
  | exact ih1 _ _ _ _ _ _ _ _
  | exact ih2 _ _ _ _ _ _ _ _ _ _
  | exact ih3 _ _ _ _ _ _ _ _ _ _
  | exact ih4 _ _ _ _ _ _ _ _ _ _ _ _ _ _ _ _
  | exact ih5 _ _ _ _ _ _ _ _ _ _ _ _ _ _ _ _ _ _ _ _
  | exact a_y.mono _
  | exact a_q.mono _ _
  | exact a_o.mono _ _ _
  | exact a_H.mono _ _ _
  | exact LeO.none _
  | refine LeO.ite ?_ ?_
  | refine LeO.bind ?_ (fun _ => ?_)
def a_a.T7 : Bool × List (List Nat × List Nat):=(true,[([],[]),([0],[0]),([],[]),([2],[2]),([3],[3]),([4,1],[4]),([],[]),([],[]),([6,1,5,0,1,6,7],[1,6]),([7,5,8,0,1,2,3,4,5,6,7,8],[5,7])])
def a_a.B7 : List Nat:=[0,1,0,4,12,31,0,0,255,511]
theorem a_a.tab7 : rtab .any (opsOf Tryd.f8 7) = a_a.T7:=by kernel_rfl
theorem a_a.i_M : c_1 a_a.T7.2 a_a.B7 = true:=by kernel_rfl
def a_a.T10 : Bool × List (List Nat × List Nat):=(true,[([],[]),([0],[0]),([],[]),([1,2],[1,2]),([3],[3]),([4],[4]),([5,4],[4,5]),([6,4,4],[4,6]),([7],[7]),([8,7],[7,8]),([7,9,4],[4,7,9]),([4,10],[4,10]),([11,7],[11]),([12],[12]),([12],[12]),([13,14,12,12],[12,13,14]),([12],[12]),([12],[12]),([16,17,15,12],[12,16,17]),([15,18,12],[12,15,18]),([12,19],[12,19]),([20,18],[20]),([21],[21]),([21],[21]),([23,21,21],[21,23]),([22,24,24,21],[21,22,24]),([25,21],[21,25]),([21,26],[21,26])])
def a_a.B10 : List Nat:=[0,1,0,7,15,31,63,127,255,511,1023,2047,4095,8191,8191,32767,8191,8191,262143,524287,1048575,2097151,4194303,4194303,12582911,33554431,67108863,134217727]
theorem a_a.g_F : rtab .any (opsOf Tryd.f8 10) = a_a.T10:=by kernel_rfl
theorem a_a.e_C : c_1 a_a.T10.2 a_a.B10 = true:=by kernel_rfl
def a_a.T31 : Bool × List (List Nat × List Nat):=(true,[([],[]),([0],[0]),([1],[1]),([1],[1]),([2,3,1,1],[1,2,3]),([1,4],[1,4]),([5,4],[5]),([6],[6]),([6],[6]),([8,6],[6,8]),([6],[6]),([9,10,6],[6,9,10]),([11,6],[6,11]),([7,12,6],[6,7,12]),([6,13],[6,13])])
def a_a.B31 : List Nat:=[0,1,3,3,15,31,63,127,127,383,127,1919,3967,8191,16383]
theorem a_a.f_y : rtab .any (opsOf Tryd.f8 31) = a_a.T31:=by kernel_rfl
theorem a_a.d_O : c_1 a_a.T31.2 a_a.B31 = true:=by kernel_rfl
set_option maxHeartbeats 8000000 in
set_option maxRecDepth 100000 in
theorem a_a.calls (k : Nat) (A0 : Option Addr) (c0 : Nat) (l0 : List (S24)) (A1 : Option Addr) (c1 : Nat) (l1 : List Int) (r : Bool) (w : World) (hr0 : Kd.C k24 w A0 l0.length l0) (hc0 : l0.length ≤ c0) (hr1 : Kd.C (Kd.int .i64) w A1 l1.length l1) (hc1 : l1.length ≤ c1) (ht : c_g w) (h : a_a.f k l0 l1 = some r) :
 Calls Tryd.prog 8 #[.slice A0 l0.length c0,.slice A1 l1.length c1] w fun e w' => e = .returned (.bool r) ∧ Below w.heap.size w w':=by
 have hu24:=Tryd.underlying24
 have hu56:=Tryd.underlying56
 have HTAB_:=a_b.mk ht
 clear ht
 have HR0:=a_b.mk hr0
 have HC0:=a_b.mk hc0
 clear hr0 hc0
 have HR1:=a_b.mk hr1
 have HC1:=a_b.mk hc1
 clear hr1 hc1
 have HB:=a_b.mk (Below.refl w.heap.size w)
 have H : ((a_y.f k).bind fun t365 => (if t365 = true then (a_a.l0 k l0 l1 l0 (l0.length : Int) 0) else (some false))) = some r:=h
 clear h
 replace H:=Option.bind_eq_some_iff.mp H
 obtain ⟨t365,A30,H⟩:=H
 replace H : (if t365 = true then (a_a.l0 k l0 l1 l0 (l0.length : Int) 0) else (some false)) = some r:=H
 have A3:=a_b.mk A30
 clear A30
 by_cases c4 : t365 = true
 rotate_left
 ·replace c4:=Bool.eq_false_iff.mpr c4
  subst c4
  have H1 : (some false) = some r:=by rw [if_neg (show ¬ (false = true) by decide)] at H;exact H
  clear H
  have H:=H1
  clear H1
  obtain rfl:=Option.some.inj H
  go_enter Tryd.func8,Tryd.ntmps8
  go_wp2_with (first|((with_reducible refine a_D (f:=10) rfl ?_);refine b_n (some 19) rfl rfl Tryd.func10 (by kernel_rfl) rfl #[] rfl (by (try simp only [List.map_toArray,List.map_cons,List.map_nil]);first|done|rfl|(simp only [List.length_drop,List.length_take];rfl)) ?_;(with_reducible refine (a_y.calls k  false _ ?side1 A3.out).mono ?_);(case side1 => exact c_g.below HTAB_.out (lup_ HB.out));rintro e w162 ⟨rfl,hb⟩;refine ⟨_,rfl,?_⟩;replace HB:=a_b.mk (a_m (lup_ HB.out) hb);(try clear hb);(try clear hb2);(try clear hk);(try clear hi)))
  go_ret
  exact ⟨by first|rfl|(simp [a_r,a_s] <;> rfl)|(simp [*, a_r,a_s] <;> rfl),by repeat (first|(with_reducible first|exact HB.out|apply a_f|apply a_c|apply a_e)|exact HB.out)⟩
 subst c4
 have H1 : (a_a.l0 k l0 l1 l0 (l0.length : Int) 0) = some r:=by rw [if_pos rfl] at H;exact H
 clear H
 have H:=H1
 clear H1
 have H':=a_b.mk H
 clear H
 go_enter Tryd.func8,Tryd.ntmps8
 go_wp2_with (first|((with_reducible refine a_D (f:=10) rfl ?_);refine b_n (some 19) rfl rfl Tryd.func10 (by kernel_rfl) rfl #[] rfl (by (try simp only [List.map_toArray,List.map_cons,List.map_nil]);first|done|rfl|(simp only [List.length_drop,List.length_take];rfl)) ?_;(with_reducible refine (a_y.calls k  true _ ?side1 A3.out).mono ?_);(case side1 => exact c_g.below HTAB_.out (lup_ HB.out));rintro e w5 ⟨rfl,hb⟩;refine ⟨_,rfl,?_⟩;replace HB:=a_b.mk (a_m (lup_ HB.out) hb);(try clear hb);(try clear hb2);(try clear hk);(try clear hi)))
 go_loopg [23] k (fun kq v23 w' => ∃ (x23_1 : Int),v23 = .int .i64 x23_1 ∧ a_b (a_a.l0 kq l0 l1 l0 (l0.length : Int) x23_1 = some r) ∧ a_b (kq ≤ k) ∧ a_b (Below w.heap.size w w'))
 case atStart => exact ⟨(0),(by first|rfl|(simp;done)|(simp [*];done)),H',⟨Nat.le_refl _⟩,⟨by repeat (first|(with_reducible first|exact HB.out|apply a_f|apply a_c|apply a_e)|exact HB.out)⟩⟩
 case round =>
  clear H'
  try clear c1
  try clear p2
  try clear c4
  obtain ⟨x23_1,rfl,HA,HK1,HB⟩:=hrel
  cases gk with
  | zero => exact absurd HA.out (by simp [a_a.l0])
  | succ k1 =>
   have H:=HA.out
   clear HA
   simp only [a_a.l0] at H
   by_cases c6 : x23_1 < (l0.length : Int)
   rotate_left
   ·rw [if_neg c6] at H
    have c6b0 : decide (x23_1 < (l0.length : Int)) = false:=decide_eq_false c6
    clear c6
    obtain rfl:=Option.some.inj H
    go_wp2
    go_ret
    exact ⟨by first|rfl|(simp [a_r,a_s] <;> rfl)|(simp [*, a_r,a_s] <;> rfl),by repeat (first|(with_reducible first|exact HB.out|apply a_f|apply a_c|apply a_e)|exact HB.out)⟩
   rw [if_pos c6] at H
   have c6b0 : decide (x23_1 < (l0.length : Int)) = true:=decide_eq_true c6
   clear c6
   by_cases c7 : 0 ≤ x23_1
   rotate_left
   ·rw [if_neg c7] at H
    exact absurd H (by simp)
   rw [if_pos c7] at H
   have c7b0 : decide (0 ≤ x23_1) = true:=decide_eq_true c7
   clear c7
   by_cases c8 : x23_1 < (l0.length : Int)
   rotate_left
   ·rw [if_neg c8] at H
    exact absurd H (by simp)
   rw [if_pos c8] at H
   have c8b0 : decide (x23_1 < (l0.length : Int)) = true:=decide_eq_true c8
   clear c8
   by_cases c9 : x23_1 = 8
   ·rw [if_pos c9] at H
    have c9b0 : (x23_1 == 8) = true:=beq_iff_eq.mpr c9
    have c9b1 : (x23_1 != 8) = false:=bne_eq_false_iff_eq.mpr c9
    clear c9
    obtain rfl:=Option.some.inj H
    have p366 : 0 ≤ (x23_1 : Int):=of_decide_eq_true (by first|(with_reducible assumption)|assumption)
    have q366 : x23_1 < (l0.length : Int):=of_decide_eq_true (by first|(with_reducible assumption)|assumption)
    obtain ⟨ad366,A366_0,c366_0,e366,d_u,e_b,e_a⟩:=g_Y HR0.out x23_1 p366 q366
    cases e366
    replace d_u:=(HB.out.cell (World.block_lt_of_cell? w _ d_u)).trans d_u
    have d_m:=a_b.mk e_a
    have d_l:=a_b.mk e_b
    clear e_a e_b
    replace p366:=eq_true p366
    replace q366:=eq_true q366
    go_wp2_with (first|((with_reducible refine a_L (N:=6) rfl ?_);refine a_G ?hg (N:=6) ?hd (cs:=#[.slice none 0 0]) (t:=24) ?hr ?_;(case hd => rfl);(case hg => rfl);(case hr => first|(go_simp;done)|(go_simp;rfl));intro a_P hg w10 hbox hb;have a_x:=a_b.mk (hbox);have k_r:=a_b.mk ((by rw [hg];exact (a_g (lup_ HB.out)) : w.heap.size ≤ a_P));have a_R:=a_b.mk ((by rw [hg];exact (a_g (lup_ HB.out)) : w.heap.size ≤ a_P));replace HB:=a_b.mk (a_m (lup_ HB.out) hb);clear hb hbox hg;have f_H : w10.cell? ⟨a_P,0,none⟩ = some (.slice none 0 0):=(a_h a_x.out 0).trans rfl;have f_P:=a_p a_x.out 0))
    go_ret
    exact ⟨by first|rfl|(simp [a_r,a_s] <;> rfl)|(simp [*, a_r,a_s] <;> rfl),by repeat (first|(with_reducible first|exact HB.out|apply a_f|apply a_c|apply a_e|refine a_d ?_ a_R.out)|exact HB.out)⟩
   rw [if_neg c9] at H
   have c9b0 : (x23_1 == 8) = false:=beq_eq_false_iff_ne.mpr c9
   have c9b1 : (x23_1 != 8) = true:=bne_iff_ne.mpr c9
   replace H:=Option.bind_eq_some_iff.mp H
   obtain ⟨t368,A120,H⟩:=H
   replace H : (if 0 < (l0.length : Int) then ((a_u.f ((a_E l0 0).f0)).bind fun t372 => ((a_q.f k1 t368).bind fun t377 => ((b_l.f t368).bind fun t378 => (if ((t378 == 0) != t377) = true then (a_a.j1 k1 l0 l1 t377 l0 (l0.length : Int) x23_1 true t368) else (if t377 = true then ((a_H.f k1 t368 t372).bind fun t379 => ((a_o.f k1 t368 t372).bind fun t380 => (if (t379 != t380) = true then (a_a.j1 k1 l0 l1 t377 l0 (l0.length : Int) x23_1 true t368) else ((a_u.f ((a_E l0 x23_1).f0)).bind fun t381 => ((a_H.f k1 t368 t381).bind fun t384 => (a_a.j1 k1 l0 l1 t377 l0 (l0.length : Int) x23_1 (!t384) t368)))))) else (if t378 = 160 then ((a_H.f k1 t368 t372).bind fun t385 => ((a_o.f k1 t368 t372).bind fun t386 => (if (t385 != t386) = true then (a_a.j1 k1 l0 l1 t377 l0 (l0.length : Int) x23_1 true t368) else ((a_u.f ((a_E l0 x23_1).f0)).bind fun t387 => ((a_H.f k1 t368 t387).bind fun t390 => (a_a.j1 k1 l0 l1 t377 l0 (l0.length : Int) x23_1 (!t390) t368)))))) else (a_a.j1 k1 l0 l1 t377 l0 (l0.length : Int) x23_1 true t368))))))) else (none)) = some r:=H
   have A12:=a_b.mk A120
   clear A120
   by_cases c13 : 0 < (l0.length : Int)
   rotate_left
   ·rw [if_neg c13] at H
    exact absurd H (by simp)
   rw [if_pos c13] at H
   have c13b0 : decide (0 < (l0.length : Int)) = true:=decide_eq_true c13
   have c13b1 : decide (0 < l0.length) = true:=decide_eq_true (by omega)
   clear c13
   replace H:=Option.bind_eq_some_iff.mp H
   obtain ⟨t372,A140,H⟩:=H
   replace H : ((a_q.f k1 t368).bind fun t377 => ((b_l.f t368).bind fun t378 => (if ((t378 == 0) != t377) = true then (a_a.j1 k1 l0 l1 t377 l0 (l0.length : Int) x23_1 true t368) else (if t377 = true then ((a_H.f k1 t368 t372).bind fun t379 => ((a_o.f k1 t368 t372).bind fun t380 => (if (t379 != t380) = true then (a_a.j1 k1 l0 l1 t377 l0 (l0.length : Int) x23_1 true t368) else ((a_u.f ((a_E l0 x23_1).f0)).bind fun t381 => ((a_H.f k1 t368 t381).bind fun t384 => (a_a.j1 k1 l0 l1 t377 l0 (l0.length : Int) x23_1 (!t384) t368)))))) else (if t378 = 160 then ((a_H.f k1 t368 t372).bind fun t385 => ((a_o.f k1 t368 t372).bind fun t386 => (if (t385 != t386) = true then (a_a.j1 k1 l0 l1 t377 l0 (l0.length : Int) x23_1 true t368) else ((a_u.f ((a_E l0 x23_1).f0)).bind fun t387 => ((a_H.f k1 t368 t387).bind fun t390 => (a_a.j1 k1 l0 l1 t377 l0 (l0.length : Int) x23_1 (!t390) t368)))))) else (a_a.j1 k1 l0 l1 t377 l0 (l0.length : Int) x23_1 true t368)))))) = some r:=H
   have A14:=a_b.mk A140
   clear A140
   replace H:=Option.bind_eq_some_iff.mp H
   obtain ⟨t377,A150,H⟩:=H
   replace H : ((b_l.f t368).bind fun t378 => (if ((t378 == 0) != t377) = true then (a_a.j1 k1 l0 l1 t377 l0 (l0.length : Int) x23_1 true t368) else (if t377 = true then ((a_H.f k1 t368 t372).bind fun t379 => ((a_o.f k1 t368 t372).bind fun t380 => (if (t379 != t380) = true then (a_a.j1 k1 l0 l1 t377 l0 (l0.length : Int) x23_1 true t368) else ((a_u.f ((a_E l0 x23_1).f0)).bind fun t381 => ((a_H.f k1 t368 t381).bind fun t384 => (a_a.j1 k1 l0 l1 t377 l0 (l0.length : Int) x23_1 (!t384) t368)))))) else (if t378 = 160 then ((a_H.f k1 t368 t372).bind fun t385 => ((a_o.f k1 t368 t372).bind fun t386 => (if (t385 != t386) = true then (a_a.j1 k1 l0 l1 t377 l0 (l0.length : Int) x23_1 true t368) else ((a_u.f ((a_E l0 x23_1).f0)).bind fun t387 => ((a_H.f k1 t368 t387).bind fun t390 => (a_a.j1 k1 l0 l1 t377 l0 (l0.length : Int) x23_1 (!t390) t368)))))) else (a_a.j1 k1 l0 l1 t377 l0 (l0.length : Int) x23_1 true t368))))) = some r:=H
   have A15:=a_b.mk A150
   clear A150
   replace H:=Option.bind_eq_some_iff.mp H
   obtain ⟨t378,A160,H⟩:=H
   replace H : (if ((t378 == 0) != t377) = true then (a_a.j1 k1 l0 l1 t377 l0 (l0.length : Int) x23_1 true t368) else (if t377 = true then ((a_H.f k1 t368 t372).bind fun t379 => ((a_o.f k1 t368 t372).bind fun t380 => (if (t379 != t380) = true then (a_a.j1 k1 l0 l1 t377 l0 (l0.length : Int) x23_1 true t368) else ((a_u.f ((a_E l0 x23_1).f0)).bind fun t381 => ((a_H.f k1 t368 t381).bind fun t384 => (a_a.j1 k1 l0 l1 t377 l0 (l0.length : Int) x23_1 (!t384) t368)))))) else (if t378 = 160 then ((a_H.f k1 t368 t372).bind fun t385 => ((a_o.f k1 t368 t372).bind fun t386 => (if (t385 != t386) = true then (a_a.j1 k1 l0 l1 t377 l0 (l0.length : Int) x23_1 true t368) else ((a_u.f ((a_E l0 x23_1).f0)).bind fun t387 => ((a_H.f k1 t368 t387).bind fun t390 => (a_a.j1 k1 l0 l1 t377 l0 (l0.length : Int) x23_1 (!t390) t368)))))) else (a_a.j1 k1 l0 l1 t377 l0 (l0.length : Int) x23_1 true t368)))) = some r:=H
   have A16:=a_b.mk A160
   clear A160
   have HC17:=a_b.mk H
   clear H
   have p366 : 0 ≤ (x23_1 : Int):=of_decide_eq_true (by first|(with_reducible assumption)|assumption)
   have q366 : x23_1 < (l0.length : Int):=of_decide_eq_true (by first|(with_reducible assumption)|assumption)
   obtain ⟨ad366,A366_0,c366_0,e366,d_u,e_b,e_a⟩:=g_Y HR0.out x23_1 p366 q366
   cases e366
   replace d_u:=(HB.out.cell (World.block_lt_of_cell? w _ d_u)).trans d_u
   have d_m:=a_b.mk e_a
   have d_l:=a_b.mk e_b
   clear e_a e_b
   replace p366:=eq_true p366
   replace q366:=eq_true q366
   try go_wp2_with (first|((with_reducible refine a_L (N:=6) rfl ?_);refine a_G ?hg (N:=6) ?hd (cs:=#[.slice none 0 0]) (t:=24) ?hr ?_;(case hd => rfl);(case hg => rfl);(case hr => first|(go_simp;done)|(go_simp;rfl));intro a_P hg w18 hbox hb;have a_x:=a_b.mk (hbox);have k_r:=a_b.mk ((by rw [hg];exact (a_g (lup_ HB.out)) : w.heap.size ≤ a_P));have a_R:=a_b.mk ((by rw [hg];exact (a_g (lup_ HB.out)) : w.heap.size ≤ a_P));replace HB:=a_b.mk (a_m (lup_ HB.out) hb);clear hb hbox hg;have i_U : w18.cell? ⟨a_P,0,none⟩ = some (.slice none 0 0):=(a_h a_x.out 0).trans rfl;have i_6:=a_p a_x.out 0))
   have n0_ : a_b ((w18.setCell ⟨a_P,0,none⟩ (.slice A366_0 ((a_E l0 x23_1).f0).length c366_0)).heap[a_P]? = some (.cells #[.slice A366_0 ((a_E l0 x23_1).f0).length c366_0] 24 (0,0))):=⟨by (with_reducible repeat (first|refine a_l ?_ _|refine a_j ?_|refine a_k ?_ _));refine b_p (cs:=#[.slice none 0 0]) ?_ 0 _ rfl;(with_reducible repeat (first|refine a_l ?_ _|refine a_j ?_|refine a_k ?_ _));exact a_x.out⟩
   have n1_ : a_b (Below w.heap.size w (w18.setCell ⟨a_P,0,none⟩ (.slice A366_0 ((a_E l0 x23_1).f0).length c366_0))):=⟨by repeat (first|(with_reducible first|exact HB.out|apply a_f|apply a_c|apply a_e|refine a_d ?_ a_R.out)|exact HB.out)⟩
   (try clear a_x)
   (try clear HB)
   generalize (w18.setCell ⟨a_P,0,none⟩ (.slice A366_0 ((a_E l0 x23_1).f0).length c366_0)) = w20 at n0_ n1_ ⊢
   have a_x:=n0_
   have HB:=n1_
   clear n0_ n1_
   replace a_x:=a_b.mk (a_j a_x.out)
   replace HB:=a_b.mk (a_e HB.out)
   have p371 : 0 ≤ (0 : Int):=(by omega)
   have q371 : 0 < (l0.length : Int):=of_decide_eq_true (by first|(with_reducible assumption)|assumption)
   obtain ⟨ad371,A371_0,c371_0,e371,d_v,h_u,h_t⟩:=g_Y HR0.out 0 p371 q371
   have a_4:=d_v
   (try rw [show ((0 : Int)).toNat = 0 from rfl] at a_4)
   (try rw [show 0 * 1 = 0 from rfl] at a_4)
   (try rw [Addr.add_zero'] at a_4)
   obtain rfl : ad366 = ad371:=(by injection e371)
   have qi371 : (0 < l0.length) = True:=eq_true (by omega)
   (try rw [show ((0 : Int)).toNat = 0 from rfl] at d_v)
   (try rw [Addr.add_zero'] at d_v)
   replace d_v:=(HB.out.cell (World.block_lt_of_cell? w _ d_v)).trans d_v
   have d_0:=a_b.mk h_t
   have e_M:=a_b.mk h_u
   clear h_t h_u
   replace p371:=eq_true p371
   replace q371:=eq_true q371
   refine c_D (n:=10) (S:=fun w' => w'.cell? ⟨a_P,0,none⟩ = some (.slice A366_0 ((a_E l0 x23_1).f0).length c366_0) ∧ w'.cell? ad366 = some (.slice A371_0 ((a_E l0 0).f0).length c371_0)) (ds:=[]) #[F_,F_,F_,F_,F_,F_,F_,F_,F_,F_] (by kernel_rfl) rfl rfl ⟨(a_h a_x.out 0).trans rfl,((HB.out.cell (World.block_lt_of_cell? w _ a_4)).trans a_4)⟩ (fun hHeld => ?_);refine b_G a_a.tab7 a_a.i_M (fun HT_ HW_ => ?_)
   generalize w20.drew = w21 at a_x HB d_0 d_v hHeld ⊢
   refine pt_ 2 (some 32) #[F_,F_,T_,F_,F_,F_,F_,F_,F_,F_] HT_ ?_
   refine pt_ 3 (some 33) #[F_,F_,T_,T_,F_,F_,F_,F_,F_,F_] HT_ ?_
   refine b_L (i:=0) (N:=some 30) (v:=?_) (a':=?_) #[T_,F_,T_,T_,F_,F_,F_,F_,F_,F_] rfl rfl (a_1 HT_.out HW_.out (by kernel_rfl)) (fun _ _ _ h => h) (Or.inl ⟨by rfl,?_⟩) hHeld ?_ ?_
   rotate_left
   ·rintro w' ⟨s0,s1⟩
    go_simp
    with_reducible rfl
   rotate_left
   ·simp only [Act.put,sa_,sb_,sc_,a_8,a_7]
    rfl
   refine b_L (i:=4) (N:=some 34) (v:=?_) (a':=?_) #[T_,F_,T_,T_,T_,F_,F_,F_,F_,F_] rfl rfl (a_1 HT_.out HW_.out (by kernel_rfl)) (fun _ _ _ h => h) (Or.inl ⟨by rfl,?_⟩) hHeld ?_ ?_
   rotate_left
   ·rintro w' ⟨s0,s1⟩
    go_simp
    with_reducible rfl
   rotate_left
   ·simp only [Act.put,sa_,sb_,sc_,a_8,a_7]
    rfl
   refine d_W (σ:=Value × Value × Nat × Nat) 2 Z26_ (fun s_ => [(31,.agg #[s_.1]),(35,.agg #[s_.2.1]),(7,.pointer (some ⟨s_.2.2.1,0,none⟩)),(8,.pointer (some ⟨s_.2.2.2,0,none⟩))]) (fun s_ w' => (w'.cell? ⟨a_P,0,none⟩ = some (.slice A366_0 ((a_E l0 x23_1).f0).length c366_0) ∧ w'.cell? ad366 = some (.slice A371_0 ((a_E l0 0).f0).length c371_0)) ∧ (Kd.R k56 56 w' w.heap.size (fun k_ => some k_ ≠ (s_.2.1 : Value).ownBlock) s_.1 t368) ∧ (Kd.R k56 56 w' w.heap.size (fun k_ => some k_ ≠ (s_.1 : Value).ownBlock) s_.2.1 t372) ∧ (w'.heap[a_P]? = some (.cells #[.slice A366_0 ((a_E l0 x23_1).f0).length c366_0] 24 (0,0))) ∧ (w'.heap[s_.2.2.1]? = some (.cells #[.slice none 0 0] 24 (0,0))) ∧ (w'.heap[s_.2.2.2]? = some (.cells #[.slice none 0 0] 24 (0,0))) ∧ (w.heap.size ≤ s_.2.2.1) ∧ (w.heap.size ≤ s_.2.2.1) ∧ (a_P ≠ s_.2.2.1) ∧ (s_.2.2.1 ≠ a_P) ∧ (s_.2.2.2 ≠ s_.2.2.1) ∧ (s_.2.2.1 ≠ s_.2.2.2) ∧ (w.heap.size ≤ s_.2.2.2) ∧ (w.heap.size ≤ s_.2.2.2) ∧ (a_P ≠ s_.2.2.2) ∧ (s_.2.2.2 ≠ a_P) ∧ (Below w.heap.size w w')) ?_ ?_
   rotate_left
   ·intro d_7
    refine d_W (σ:=Value × Value × Nat) 3 Z21_ (fun s_ => [(31,.agg #[s_.1]),(35,.agg #[s_.2.1]),(7,.pointer (some ⟨s_.2.2,0,none⟩))]) (fun s_ w' => (w'.cell? ⟨a_P,0,none⟩ = some (.slice A366_0 ((a_E l0 x23_1).f0).length c366_0) ∧ w'.cell? ad366 = some (.slice A371_0 ((a_E l0 0).f0).length c371_0)) ∧ (Kd.R k56 56 w' w.heap.size (fun k_ => some k_ ≠ (s_.2.1 : Value).ownBlock) s_.1 t368) ∧ (Kd.R k56 56 w' w.heap.size (fun k_ => some k_ ≠ (s_.1 : Value).ownBlock) s_.2.1 t372) ∧ (w'.heap[a_P]? = some (.cells #[.slice A366_0 ((a_E l0 x23_1).f0).length c366_0] 24 (0,0))) ∧ (w'.heap[s_.2.2]? = some (.cells #[.slice none 0 0] 24 (0,0))) ∧ (w.heap.size ≤ s_.2.2) ∧ (w.heap.size ≤ s_.2.2) ∧ (a_P ≠ s_.2.2) ∧ (s_.2.2 ≠ a_P) ∧ (Below w.heap.size w w')) ?_ ?_
    rotate_left
    ·intro h_d
     refine d_W (σ:=Value × Value × Nat) 3 Z18_ (fun s_ => [(31,.agg #[s_.1]),(35,.agg #[s_.2.1]),(8,.pointer (some ⟨s_.2.2,0,none⟩))]) (fun s_ w' => (w'.cell? ⟨a_P,0,none⟩ = some (.slice A366_0 ((a_E l0 x23_1).f0).length c366_0) ∧ w'.cell? ad366 = some (.slice A371_0 ((a_E l0 0).f0).length c371_0)) ∧ (Kd.R k56 56 w' w.heap.size (fun k_ => some k_ ≠ (s_.2.1 : Value).ownBlock) s_.1 t368) ∧ (Kd.R k56 56 w' w.heap.size (fun k_ => some k_ ≠ (s_.1 : Value).ownBlock) s_.2.1 t372) ∧ (w'.heap[a_P]? = some (.cells #[.slice A366_0 ((a_E l0 x23_1).f0).length c366_0] 24 (0,0))) ∧ (w'.heap[s_.2.2]? = some (.cells #[.slice none 0 0] 24 (0,0))) ∧ (w.heap.size ≤ s_.2.2) ∧ (w.heap.size ≤ s_.2.2) ∧ (a_P ≠ s_.2.2) ∧ (s_.2.2 ≠ a_P) ∧ (Below w.heap.size w w')) ?_ ?_
     rotate_left
     ·intro h_e
      refine d_W (σ:=Value × Nat × Nat) 3 Z15_ (fun s_ => [(31,.agg #[s_.1]),(7,.pointer (some ⟨s_.2.1,0,none⟩)),(8,.pointer (some ⟨s_.2.2,0,none⟩))]) (fun s_ w' => (w'.cell? ⟨a_P,0,none⟩ = some (.slice A366_0 ((a_E l0 x23_1).f0).length c366_0) ∧ w'.cell? ad366 = some (.slice A371_0 ((a_E l0 0).f0).length c371_0)) ∧ (Kd.R k56 56 w' w.heap.size (fun _ => True) s_.1 t368) ∧ (w'.heap[a_P]? = some (.cells #[.slice A366_0 ((a_E l0 x23_1).f0).length c366_0] 24 (0,0))) ∧ (w'.heap[s_.2.1]? = some (.cells #[.slice none 0 0] 24 (0,0))) ∧ (w'.heap[s_.2.2]? = some (.cells #[.slice none 0 0] 24 (0,0))) ∧ (w.heap.size ≤ s_.2.1) ∧ (w.heap.size ≤ s_.2.1) ∧ (a_P ≠ s_.2.1) ∧ (s_.2.1 ≠ a_P) ∧ (s_.2.2 ≠ s_.2.1) ∧ (s_.2.1 ≠ s_.2.2) ∧ (w.heap.size ≤ s_.2.2) ∧ (w.heap.size ≤ s_.2.2) ∧ (a_P ≠ s_.2.2) ∧ (s_.2.2 ≠ a_P) ∧ (Below w.heap.size w w')) ?_ ?_
      rotate_left
      ·intro f_G
       refine d_W (σ:=Value × Value) 4 #[T_,T_,T_,T_,T_,T_,F_,F_,F_,F_] (fun s_ => [(31,.agg #[s_.1]),(35,.agg #[s_.2])]) (fun s_ w' => (w'.cell? ⟨a_P,0,none⟩ = some (.slice A366_0 ((a_E l0 x23_1).f0).length c366_0) ∧ w'.cell? ad366 = some (.slice A371_0 ((a_E l0 0).f0).length c371_0)) ∧ (Kd.R k56 56 w' w.heap.size (fun k_ => some k_ ≠ (s_.2 : Value).ownBlock) s_.1 t368) ∧ (Kd.R k56 56 w' w.heap.size (fun k_ => some k_ ≠ (s_.1 : Value).ownBlock) s_.2 t372) ∧ (w'.heap[a_P]? = some (.cells #[.slice A366_0 ((a_E l0 x23_1).f0).length c366_0] 24 (0,0))) ∧ (Below w.heap.size w w')) ?_ ?_
       rotate_left
       ·intro k_z
        refine d_W (σ:=Value × Nat) 4 Z14_ (fun s_ => [(31,.agg #[s_.1]),(7,.pointer (some ⟨s_.2,0,none⟩))]) (fun s_ w' => (w'.cell? ⟨a_P,0,none⟩ = some (.slice A366_0 ((a_E l0 x23_1).f0).length c366_0) ∧ w'.cell? ad366 = some (.slice A371_0 ((a_E l0 0).f0).length c371_0)) ∧ (Kd.R k56 56 w' w.heap.size (fun _ => True) s_.1 t368) ∧ (w'.heap[a_P]? = some (.cells #[.slice A366_0 ((a_E l0 x23_1).f0).length c366_0] 24 (0,0))) ∧ (w'.heap[s_.2]? = some (.cells #[.slice none 0 0] 24 (0,0))) ∧ (w.heap.size ≤ s_.2) ∧ (w.heap.size ≤ s_.2) ∧ (a_P ≠ s_.2) ∧ (s_.2 ≠ a_P) ∧ (Below w.heap.size w w')) ?_ ?_
        rotate_left
        ·intro j_K
         refine d_W (σ:=Value × Nat) 4 Z13_ (fun s_ => [(31,.agg #[s_.1]),(8,.pointer (some ⟨s_.2,0,none⟩))]) (fun s_ w' => (w'.cell? ⟨a_P,0,none⟩ = some (.slice A366_0 ((a_E l0 x23_1).f0).length c366_0) ∧ w'.cell? ad366 = some (.slice A371_0 ((a_E l0 0).f0).length c371_0)) ∧ (Kd.R k56 56 w' w.heap.size (fun _ => True) s_.1 t368) ∧ (w'.heap[a_P]? = some (.cells #[.slice A366_0 ((a_E l0 x23_1).f0).length c366_0] 24 (0,0))) ∧ (w'.heap[s_.2]? = some (.cells #[.slice none 0 0] 24 (0,0))) ∧ (w.heap.size ≤ s_.2) ∧ (w.heap.size ≤ s_.2) ∧ (a_P ≠ s_.2) ∧ (s_.2 ≠ a_P) ∧ (Below w.heap.size w w')) ?_ ?_
         rotate_left
         ·intro j_L
          refine d_W (σ:=Nat × Nat) 4 Z4_ (fun s_ => [(7,.pointer (some ⟨s_.1,0,none⟩)),(8,.pointer (some ⟨s_.2,0,none⟩))]) (fun s_ w' => (w'.cell? ⟨a_P,0,none⟩ = some (.slice A366_0 ((a_E l0 x23_1).f0).length c366_0) ∧ w'.cell? ad366 = some (.slice A371_0 ((a_E l0 0).f0).length c371_0)) ∧ (w'.heap[a_P]? = some (.cells #[.slice A366_0 ((a_E l0 x23_1).f0).length c366_0] 24 (0,0))) ∧ (w'.heap[s_.1]? = some (.cells #[.slice none 0 0] 24 (0,0))) ∧ (w'.heap[s_.2]? = some (.cells #[.slice none 0 0] 24 (0,0))) ∧ (w.heap.size ≤ s_.1) ∧ (w.heap.size ≤ s_.1) ∧ (a_P ≠ s_.1) ∧ (s_.1 ≠ a_P) ∧ (s_.2 ≠ s_.1) ∧ (s_.1 ≠ s_.2) ∧ (w.heap.size ≤ s_.2) ∧ (w.heap.size ≤ s_.2) ∧ (a_P ≠ s_.2) ∧ (s_.2 ≠ a_P) ∧ (Below w.heap.size w w')) ?_ ?_
          rotate_left
          ·intro j_M
           refine d_W (σ:=Value) 5 #[T_,T_,T_,T_,T_,F_,F_,F_,F_,F_] (fun s_ => [(31,.agg #[s_])]) (fun s_ w' => (w'.cell? ⟨a_P,0,none⟩ = some (.slice A366_0 ((a_E l0 x23_1).f0).length c366_0) ∧ w'.cell? ad366 = some (.slice A371_0 ((a_E l0 0).f0).length c371_0)) ∧ (Kd.R k56 56 w' w.heap.size (fun _ => True) s_ t368) ∧ (w'.heap[a_P]? = some (.cells #[.slice A366_0 ((a_E l0 x23_1).f0).length c366_0] 24 (0,0))) ∧ (Below w.heap.size w w')) ?_ ?_
           rotate_left
           ·intro hJ1
            refine d_W (σ:=Nat) 5 #[T_,F_,T_,T_,T_,F_,T_,F_,F_,F_] (fun s_ => [(7,.pointer (some ⟨s_,0,none⟩))]) (fun s_ w' => (w'.cell? ⟨a_P,0,none⟩ = some (.slice A366_0 ((a_E l0 x23_1).f0).length c366_0) ∧ w'.cell? ad366 = some (.slice A371_0 ((a_E l0 0).f0).length c371_0)) ∧ (w'.heap[a_P]? = some (.cells #[.slice A366_0 ((a_E l0 x23_1).f0).length c366_0] 24 (0,0))) ∧ (w'.heap[s_]? = some (.cells #[.slice none 0 0] 24 (0,0))) ∧ (w.heap.size ≤ s_) ∧ (w.heap.size ≤ s_) ∧ (a_P ≠ s_) ∧ (s_ ≠ a_P) ∧ (Below w.heap.size w w')) ?_ ?_
            rotate_left
            ·intro hJ6
             refine d_W (σ:=Nat) 5 #[T_,F_,T_,T_,T_,F_,F_,T_,F_,F_] (fun s_ => [(8,.pointer (some ⟨s_,0,none⟩))]) (fun s_ w' => (w'.cell? ⟨a_P,0,none⟩ = some (.slice A366_0 ((a_E l0 x23_1).f0).length c366_0) ∧ w'.cell? ad366 = some (.slice A371_0 ((a_E l0 0).f0).length c371_0)) ∧ (w'.heap[a_P]? = some (.cells #[.slice A366_0 ((a_E l0 x23_1).f0).length c366_0] 24 (0,0))) ∧ (w'.heap[s_]? = some (.cells #[.slice none 0 0] 24 (0,0))) ∧ (w.heap.size ≤ s_) ∧ (w.heap.size ≤ s_) ∧ (a_P ≠ s_) ∧ (s_ ≠ a_P) ∧ (Below w.heap.size w w')) ?_ ?_
             rotate_left
             ·intro hJ7
              refine i_y (i:=1) (j:=6) (k:=7) (Ni:=some 31) (Nj:=some 7) (Nk:=some 8) #[T_,T_,T_,T_,T_,F_,F_,F_,F_,F_] #[T_,F_,T_,T_,T_,F_,T_,F_,F_,F_] #[T_,F_,T_,T_,T_,F_,F_,T_,F_,F_] rfl rfl rfl rfl rfl rfl (g_k HT_.out (by kernel_rfl)) (by decide) (by decide) (by decide) (fun K hK => ?_) (fun K hK => ?_) (fun K hK => ?_)
              ·skip
               refine c_C Tryd.func11 (by kernel_rfl) rfl #[.agg #[.slice A366_0 ((a_E l0 x23_1).f0).length c366_0]] (by rfl) rfl rfl (by (try simp only [List.map_toArray,List.map_cons,List.map_nil]);first|done|rfl|(simp only [List.length_drop,List.length_take];rfl)) ?_
               with_reducible refine (a_u.calls _ _ ((a_E l0 x23_1).f0) t368 _ ?side1 ?side2 A12.out).mono ?_
               (case side1 => repeat (first|exact (Kd.a_5 d_m.out HB.out)|(with_reducible refine Kd.a_M ?_ _)|(with_reducible refine Kd.a_N ?_ _)|(with_reducible refine Kd.a_2 ?_)))
               (case side2 => exact d_l.out)
               rintro e w22 ⟨v369,rfl,ho0,hb⟩
               refine ⟨_,rfl,?_⟩
               have a_S:=a_b.mk (Kd.b_v ho0 (a_g (by repeat (first|(with_reducible first|exact HB.out|apply a_f|apply a_c|apply a_e|refine a_d ?_ a_R.out)|exact HB.out))))
               replace a_x:=a_b.mk (a_i (bup_ a_x.out) hb)
               replace HB:=a_b.mk (a_m (by repeat (first|(with_reducible first|exact HB.out|apply a_f|apply a_c|apply a_e|refine a_d ?_ a_R.out)|exact HB.out)) hb)
               (try clear hb)
               (try clear hb2)
               (try clear hk)
               (try clear hi)
               (try clear ho0)
               refine hK.out _ _ ⟨(a_h a_x.out 0).trans rfl,((HB.out.cell (World.block_lt_of_cell? w _ a_4)).trans a_4)⟩ (fun hHeld => ?_)
               clear hK K
               refine b_i (a':=?_) ?_ ?_
               rotate_left
               ·show Act.put _ (some 31) _ = _
                simp only [Act.put,sa_,sb_,sc_,a_8,a_7]
                rfl
               exact b_i (by first|(simp only [b_c,Act.put,sa_,sb_,sc_];done)|(simp only [b_c,Act.put,sa_,sb_,sc_];rfl)) (hJ1 (v369) _ ⟨hHeld,(rup_ a_S.out),(bup_ a_x.out),(by repeat (first|(with_reducible first|exact HB.out|apply a_f|apply a_c|apply a_e|refine a_d ?_ a_R.out)|exact HB.out))⟩)
              ·skip
               refine b_W ?hg (N:=7) ?hd (cs:=#[.slice none 0 0]) (t:=24) ?hr ?_;(case hd => rfl);(case hg => rfl);(case hr => first|(go_simp;done)|(go_simp;rfl))
               intro a_U hg w22 hbox hb
               have a_z:=a_b.mk (hbox)
               have c_w:=a_b.mk ((by rw [hg];exact (a_g (by repeat (first|(with_reducible first|exact HB.out|apply a_f|apply a_c|apply a_e|refine a_d ?_ a_R.out)|exact HB.out))) : w.heap.size ≤ a_U))
               have a_Y:=a_b.mk ((by rw [hg];exact (a_g (by repeat (first|(with_reducible first|exact HB.out|apply a_f|apply a_c|apply a_e|refine a_d ?_ a_R.out)|exact HB.out))) : w.heap.size ≤ a_U))
               have a_3:=a_b.mk ((by rw [hg];exact Nat.ne_of_lt (a_K (bup_ a_x.out)) : a_P ≠ a_U))
               have a_6:=a_b.mk ((by rw [hg];exact Nat.ne_of_gt (a_K (bup_ a_x.out)) : a_U ≠ a_P))
               replace a_x:=a_b.mk (a_i (bup_ a_x.out) hb)
               replace HB:=a_b.mk (a_m (by repeat (first|(with_reducible first|exact HB.out|apply a_f|apply a_c|apply a_e|refine a_d ?_ a_R.out)|exact HB.out)) hb)
               clear hb hbox hg
               refine hK.out _ _ ⟨(a_h a_x.out 0).trans rfl,((HB.out.cell (World.block_lt_of_cell? w _ a_4)).trans a_4)⟩ (fun hHeld => ?_)
               clear hK K
               refine b_i (a':=?_) ?_ ?_
               rotate_left
               ·show Act.put _ (some 7) _ = _
                simp only [Act.put,sa_,sb_,sc_,a_8,a_7]
                rfl
               exact b_i (by first|(simp only [b_c,Act.put,sa_,sb_,sc_];done)|(simp only [b_c,Act.put,sa_,sb_,sc_];rfl)) (hJ6 (a_U) _ ⟨hHeld,(bup_ a_x.out),(bup_ a_z.out),c_w.out,a_Y.out,a_3.out,a_6.out,(by repeat (first|(with_reducible first|exact HB.out|apply a_f|apply a_c|apply a_e|refine a_d ?_ a_R.out|refine a_d ?_ a_Y.out)|exact HB.out))⟩)
              skip
              refine b_W ?hg (N:=8) ?hd (cs:=#[.slice none 0 0]) (t:=24) ?hr ?_;(case hd => rfl);(case hg => rfl);(case hr => first|(go_simp;done)|(go_simp;rfl))
              intro a_0 hg w22 hbox hb
              have a_C:=a_b.mk (hbox)
              have c_x:=a_b.mk ((by rw [hg];exact (a_g (by repeat (first|(with_reducible first|exact HB.out|apply a_f|apply a_c|apply a_e|refine a_d ?_ a_R.out)|exact HB.out))) : w.heap.size ≤ a_0))
              have a_Z:=a_b.mk ((by rw [hg];exact (a_g (by repeat (first|(with_reducible first|exact HB.out|apply a_f|apply a_c|apply a_e|refine a_d ?_ a_R.out)|exact HB.out))) : w.heap.size ≤ a_0))
              have b_d:=a_b.mk ((by rw [hg];exact Nat.ne_of_lt (a_K (bup_ a_x.out)) : a_P ≠ a_0))
              have b_j:=a_b.mk ((by rw [hg];exact Nat.ne_of_gt (a_K (bup_ a_x.out)) : a_0 ≠ a_P))
              replace a_x:=a_b.mk (a_i (bup_ a_x.out) hb)
              replace HB:=a_b.mk (a_m (by repeat (first|(with_reducible first|exact HB.out|apply a_f|apply a_c|apply a_e|refine a_d ?_ a_R.out)|exact HB.out)) hb)
              clear hb hbox hg
              refine hK.out _ _ ⟨(a_h a_x.out 0).trans rfl,((HB.out.cell (World.block_lt_of_cell? w _ a_4)).trans a_4)⟩ (fun hHeld => ?_)
              clear hK K
              refine b_i (a':=?_) ?_ ?_
              rotate_left
              ·show Act.put _ (some 8) _ = _
               simp only [Act.put,sa_,sb_,sc_,a_8,a_7]
               rfl
              exact b_i (by first|(simp only [b_c,Act.put,sa_,sb_,sc_];done)|(simp only [b_c,Act.put,sa_,sb_,sc_];rfl)) (hJ7 (a_0) _ ⟨hHeld,(bup_ a_x.out),(bup_ a_C.out),c_x.out,a_Z.out,b_d.out,b_j.out,(by repeat (first|(with_reducible first|exact HB.out|apply a_f|apply a_c|apply a_e|refine a_d ?_ a_R.out|refine a_d ?_ a_Z.out)|exact HB.out))⟩)
             skip
             rintro a_0 w23 ⟨hS_,h0_,h1_,h2_,h3_,h4_,h5_,h6_⟩
             have a_C : a_b (w23.heap[a_0]? = some (.cells #[.slice none 0 0] 24 (0,0))):=⟨h1_⟩
             have c_x : a_b (w.heap.size ≤ a_0):=⟨h2_⟩
             have a_Z : a_b (w.heap.size ≤ a_0):=⟨h3_⟩
             have b_d : a_b (a_P ≠ a_0):=⟨h4_⟩
             have b_j : a_b (a_0 ≠ a_P):=⟨h5_⟩
             replace a_x : a_b (w23.heap[a_P]? = some (.cells #[.slice A366_0 ((a_E l0 x23_1).f0).length c366_0] 24 (0,0))):=⟨h0_⟩
             replace HB : a_b (Below w.heap.size w w23):=⟨h6_⟩
             clear h0_ h1_ h2_ h3_ h4_ h5_ h6_
             have hHeld : w23.cell? ⟨a_P,0,none⟩ = some (.slice A366_0 ((a_E l0 x23_1).f0).length c366_0) ∧ w23.cell? ad366 = some (.slice A371_0 ((a_E l0 0).f0).length c371_0):=hS_
             refine b_i (a':=?_) ?_ ?_
             rotate_left
             ·simp only [b_c,Act.put,sa_,sb_,sc_]
              rfl
             refine two_ (i:=1) (j:=6) (Ni:=some 31) (Nj:=some 7) Z13_ Z4_ rfl rfl rfl rfl (e_I HT_.out (by kernel_rfl)) (by decide) (by decide) (fun K hK => ?_) (fun K hK => ?_)
             ·skip
              refine c_C Tryd.func11 (by kernel_rfl) rfl #[.agg #[.slice A366_0 ((a_E l0 x23_1).f0).length c366_0]] (by rfl) rfl rfl (by (try simp only [List.map_toArray,List.map_cons,List.map_nil]);first|done|rfl|(simp only [List.length_drop,List.length_take];rfl)) ?_
              with_reducible refine (a_u.calls _ _ ((a_E l0 x23_1).f0) t368 _ ?side1 ?side2 A12.out).mono ?_
              (case side1 => repeat (first|exact (Kd.a_5 d_m.out HB.out)|(with_reducible refine Kd.a_M ?_ _)|(with_reducible refine Kd.a_N ?_ _)|(with_reducible refine Kd.a_2 ?_)))
              (case side2 => exact d_l.out)
              rintro e w24 ⟨v369,rfl,ho0,hb⟩
              refine ⟨_,rfl,?_⟩
              have a_S:=a_b.mk (Kd.b_v ho0 (a_g (by repeat (first|(with_reducible first|exact HB.out|apply a_f|apply a_c|apply a_e|refine a_d ?_ a_R.out|refine a_d ?_ a_Z.out)|exact HB.out))))
              replace a_x:=a_b.mk (a_i (bup_ a_x.out) hb)
              replace a_C:=a_b.mk (a_i (bup_ a_C.out) hb)
              replace HB:=a_b.mk (a_m (by repeat (first|(with_reducible first|exact HB.out|apply a_f|apply a_c|apply a_e|refine a_d ?_ a_R.out|refine a_d ?_ a_Z.out)|exact HB.out)) hb)
              (try clear hb)
              (try clear hb2)
              (try clear hk)
              (try clear hi)
              (try clear ho0)
              refine hK.out _ _ ⟨(a_h a_x.out 0).trans rfl,((HB.out.cell (World.block_lt_of_cell? w _ a_4)).trans a_4)⟩ (fun hHeld => ?_)
              clear hK K
              refine b_i (a':=?_) ?_ ?_
              rotate_left
              ·show Act.put _ (some 31) _ = _
               simp only [Act.put,sa_,sb_,sc_,a_8,a_7]
               rfl
              exact b_i (by first|(simp only [b_c,Act.put,sa_,sb_,sc_];done)|(simp only [b_c,Act.put,sa_,sb_,sc_];rfl)) (j_L (v369,a_0) _ ⟨hHeld,(rup_ a_S.out),(bup_ a_x.out),(bup_ a_C.out),c_x.out,a_Z.out,b_d.out,b_j.out,(by repeat (first|(with_reducible first|exact HB.out|apply a_f|apply a_c|apply a_e|refine a_d ?_ a_R.out|refine a_d ?_ a_Z.out)|exact HB.out))⟩)
             skip
             refine b_W ?hg (N:=7) ?hd (cs:=#[.slice none 0 0]) (t:=24) ?hr ?_;(case hd => rfl);(case hg => rfl);(case hr => first|(go_simp;done)|(go_simp;rfl))
             intro a_U hg w24 hbox hb
             have a_z:=a_b.mk (hbox)
             have c_w:=a_b.mk ((by rw [hg];exact (a_g (by repeat (first|(with_reducible first|exact HB.out|apply a_f|apply a_c|apply a_e|refine a_d ?_ a_R.out|refine a_d ?_ a_Z.out)|exact HB.out))) : w.heap.size ≤ a_U))
             have a_Y:=a_b.mk ((by rw [hg];exact (a_g (by repeat (first|(with_reducible first|exact HB.out|apply a_f|apply a_c|apply a_e|refine a_d ?_ a_R.out|refine a_d ?_ a_Z.out)|exact HB.out))) : w.heap.size ≤ a_U))
             have a_3:=a_b.mk ((by rw [hg];exact Nat.ne_of_lt (a_K (bup_ a_x.out)) : a_P ≠ a_U))
             have a_6:=a_b.mk ((by rw [hg];exact Nat.ne_of_gt (a_K (bup_ a_x.out)) : a_U ≠ a_P))
             have b_f:=a_b.mk ((by rw [hg];exact Nat.ne_of_lt (a_K (bup_ a_C.out)) : a_0 ≠ a_U))
             have b_e:=a_b.mk ((by rw [hg];exact Nat.ne_of_gt (a_K (bup_ a_C.out)) : a_U ≠ a_0))
             replace a_x:=a_b.mk (a_i (bup_ a_x.out) hb)
             replace a_C:=a_b.mk (a_i (bup_ a_C.out) hb)
             replace HB:=a_b.mk (a_m (by repeat (first|(with_reducible first|exact HB.out|apply a_f|apply a_c|apply a_e|refine a_d ?_ a_R.out|refine a_d ?_ a_Z.out)|exact HB.out)) hb)
             clear hb hbox hg
             refine hK.out _ _ ⟨(a_h a_x.out 0).trans rfl,((HB.out.cell (World.block_lt_of_cell? w _ a_4)).trans a_4)⟩ (fun hHeld => ?_)
             clear hK K
             refine b_i (a':=?_) ?_ ?_
             rotate_left
             ·show Act.put _ (some 7) _ = _
              simp only [Act.put,sa_,sb_,sc_,a_8,a_7]
              rfl
             exact b_i (by first|(simp only [b_c,Act.put,sa_,sb_,sc_];done)|(simp only [b_c,Act.put,sa_,sb_,sc_];rfl)) (j_M (a_U,a_0) _ ⟨hHeld,(bup_ a_x.out),(bup_ a_z.out),(bup_ a_C.out),c_w.out,a_Y.out,a_3.out,a_6.out,b_f.out,b_e.out,c_x.out,a_Z.out,b_d.out,b_j.out,(by repeat (first|(with_reducible first|exact HB.out|apply a_f|apply a_c|apply a_e|refine a_d ?_ a_R.out|refine a_d ?_ a_Z.out|refine a_d ?_ a_Y.out)|exact HB.out))⟩)
            skip
            rintro a_U w23 ⟨hS_,h0_,h1_,h2_,h3_,h4_,h5_,h6_⟩
            have a_z : a_b (w23.heap[a_U]? = some (.cells #[.slice none 0 0] 24 (0,0))):=⟨h1_⟩
            have c_w : a_b (w.heap.size ≤ a_U):=⟨h2_⟩
            have a_Y : a_b (w.heap.size ≤ a_U):=⟨h3_⟩
            have a_3 : a_b (a_P ≠ a_U):=⟨h4_⟩
            have a_6 : a_b (a_U ≠ a_P):=⟨h5_⟩
            replace a_x : a_b (w23.heap[a_P]? = some (.cells #[.slice A366_0 ((a_E l0 x23_1).f0).length c366_0] 24 (0,0))):=⟨h0_⟩
            replace HB : a_b (Below w.heap.size w w23):=⟨h6_⟩
            clear h0_ h1_ h2_ h3_ h4_ h5_ h6_
            have hHeld : w23.cell? ⟨a_P,0,none⟩ = some (.slice A366_0 ((a_E l0 x23_1).f0).length c366_0) ∧ w23.cell? ad366 = some (.slice A371_0 ((a_E l0 0).f0).length c371_0):=hS_
            refine b_i (a':=?_) ?_ ?_
            rotate_left
            ·simp only [b_c,Act.put,sa_,sb_,sc_]
             rfl
            refine two_ (i:=1) (j:=7) (Ni:=some 31) (Nj:=some 8) Z14_ Z4_ rfl rfl rfl rfl (e_I HT_.out (by kernel_rfl)) (by decide) (by decide) (fun K hK => ?_) (fun K hK => ?_)
            ·skip
             refine c_C Tryd.func11 (by kernel_rfl) rfl #[.agg #[.slice A366_0 ((a_E l0 x23_1).f0).length c366_0]] (by rfl) rfl rfl (by (try simp only [List.map_toArray,List.map_cons,List.map_nil]);first|done|rfl|(simp only [List.length_drop,List.length_take];rfl)) ?_
             with_reducible refine (a_u.calls _ _ ((a_E l0 x23_1).f0) t368 _ ?side1 ?side2 A12.out).mono ?_
             (case side1 => repeat (first|exact (Kd.a_5 d_m.out HB.out)|(with_reducible refine Kd.a_M ?_ _)|(with_reducible refine Kd.a_N ?_ _)|(with_reducible refine Kd.a_2 ?_)))
             (case side2 => exact d_l.out)
             rintro e w24 ⟨v369,rfl,ho0,hb⟩
             refine ⟨_,rfl,?_⟩
             have a_S:=a_b.mk (Kd.b_v ho0 (a_g (by repeat (first|(with_reducible first|exact HB.out|apply a_f|apply a_c|apply a_e|refine a_d ?_ a_R.out|refine a_d ?_ a_Y.out)|exact HB.out))))
             replace a_x:=a_b.mk (a_i (bup_ a_x.out) hb)
             replace a_z:=a_b.mk (a_i (bup_ a_z.out) hb)
             replace HB:=a_b.mk (a_m (by repeat (first|(with_reducible first|exact HB.out|apply a_f|apply a_c|apply a_e|refine a_d ?_ a_R.out|refine a_d ?_ a_Y.out)|exact HB.out)) hb)
             (try clear hb)
             (try clear hb2)
             (try clear hk)
             (try clear hi)
             (try clear ho0)
             refine hK.out _ _ ⟨(a_h a_x.out 0).trans rfl,((HB.out.cell (World.block_lt_of_cell? w _ a_4)).trans a_4)⟩ (fun hHeld => ?_)
             clear hK K
             refine b_i (a':=?_) ?_ ?_
             rotate_left
             ·show Act.put _ (some 31) _ = _
              simp only [Act.put,sa_,sb_,sc_,a_8,a_7]
              rfl
             exact b_i (by first|(simp only [b_c,Act.put,sa_,sb_,sc_];done)|(simp only [b_c,Act.put,sa_,sb_,sc_];rfl)) (j_K (v369,a_U) _ ⟨hHeld,(rup_ a_S.out),(bup_ a_x.out),(bup_ a_z.out),c_w.out,a_Y.out,a_3.out,a_6.out,(by repeat (first|(with_reducible first|exact HB.out|apply a_f|apply a_c|apply a_e|refine a_d ?_ a_R.out|refine a_d ?_ a_Y.out)|exact HB.out))⟩)
            skip
            refine b_W ?hg (N:=8) ?hd (cs:=#[.slice none 0 0]) (t:=24) ?hr ?_;(case hd => rfl);(case hg => rfl);(case hr => first|(go_simp;done)|(go_simp;rfl))
            intro a_0 hg w24 hbox hb
            have a_C:=a_b.mk (hbox)
            have c_x:=a_b.mk ((by rw [hg];exact (a_g (by repeat (first|(with_reducible first|exact HB.out|apply a_f|apply a_c|apply a_e|refine a_d ?_ a_R.out|refine a_d ?_ a_Y.out)|exact HB.out))) : w.heap.size ≤ a_0))
            have a_Z:=a_b.mk ((by rw [hg];exact (a_g (by repeat (first|(with_reducible first|exact HB.out|apply a_f|apply a_c|apply a_e|refine a_d ?_ a_R.out|refine a_d ?_ a_Y.out)|exact HB.out))) : w.heap.size ≤ a_0))
            have b_d:=a_b.mk ((by rw [hg];exact Nat.ne_of_lt (a_K (bup_ a_x.out)) : a_P ≠ a_0))
            have b_j:=a_b.mk ((by rw [hg];exact Nat.ne_of_gt (a_K (bup_ a_x.out)) : a_0 ≠ a_P))
            have b_e:=a_b.mk ((by rw [hg];exact Nat.ne_of_lt (a_K (bup_ a_z.out)) : a_U ≠ a_0))
            have b_f:=a_b.mk ((by rw [hg];exact Nat.ne_of_gt (a_K (bup_ a_z.out)) : a_0 ≠ a_U))
            replace a_x:=a_b.mk (a_i (bup_ a_x.out) hb)
            replace a_z:=a_b.mk (a_i (bup_ a_z.out) hb)
            replace HB:=a_b.mk (a_m (by repeat (first|(with_reducible first|exact HB.out|apply a_f|apply a_c|apply a_e|refine a_d ?_ a_R.out|refine a_d ?_ a_Y.out)|exact HB.out)) hb)
            clear hb hbox hg
            refine hK.out _ _ ⟨(a_h a_x.out 0).trans rfl,((HB.out.cell (World.block_lt_of_cell? w _ a_4)).trans a_4)⟩ (fun hHeld => ?_)
            clear hK K
            refine b_i (a':=?_) ?_ ?_
            rotate_left
            ·show Act.put _ (some 8) _ = _
             simp only [Act.put,sa_,sb_,sc_,a_8,a_7]
             rfl
            exact b_i (by first|(simp only [b_c,Act.put,sa_,sb_,sc_];done)|(simp only [b_c,Act.put,sa_,sb_,sc_];rfl)) (j_M (a_U,a_0) _ ⟨hHeld,(bup_ a_x.out),(bup_ a_z.out),(bup_ a_C.out),c_w.out,a_Y.out,a_3.out,a_6.out,b_f.out,b_e.out,c_x.out,a_Z.out,b_d.out,b_j.out,(by repeat (first|(with_reducible first|exact HB.out|apply a_f|apply a_c|apply a_e|refine a_d ?_ a_R.out|refine a_d ?_ a_Y.out|refine a_d ?_ a_Z.out)|exact HB.out))⟩)
           skip
           rintro v369 w23 ⟨hS_,h0_,h1_,h2_⟩
           have a_S : a_b (Kd.R k56 56 w23 w.heap.size (fun _ => True) v369 t368):=⟨h0_⟩
           replace a_x : a_b (w23.heap[a_P]? = some (.cells #[.slice A366_0 ((a_E l0 x23_1).f0).length c366_0] 24 (0,0))):=⟨h1_⟩
           replace HB : a_b (Below w.heap.size w w23):=⟨h2_⟩
           clear h0_ h1_ h2_
           have hHeld : w23.cell? ⟨a_P,0,none⟩ = some (.slice A366_0 ((a_E l0 x23_1).f0).length c366_0) ∧ w23.cell? ad366 = some (.slice A371_0 ((a_E l0 0).f0).length c371_0):=hS_
           refine b_i (a':=?_) ?_ ?_
           rotate_left
           ·simp only [b_c,Act.put,sa_,sb_,sc_]
            rfl
           refine i_y (i:=5) (j:=6) (k:=7) (Ni:=some 35) (Nj:=some 7) (Nk:=some 8) #[T_,T_,T_,T_,T_,T_,F_,F_,F_,F_] Z14_ Z13_ rfl rfl rfl rfl rfl rfl (g_k HT_.out (by kernel_rfl)) (by decide) (by decide) (by decide) (fun K hK => ?_) (fun K hK => ?_) (fun K hK => ?_)
           ·skip
            refine c_C Tryd.func11 (by kernel_rfl) rfl #[.agg #[.slice A371_0 ((a_E l0 0).f0).length c371_0]] (by rfl) rfl rfl (by (try simp only [List.map_toArray,List.map_cons,List.map_nil]);first|done|rfl|(simp only [List.length_drop,List.length_take];rfl)) ?_
            with_reducible refine (a_u.calls _ _ ((a_E l0 0).f0) t372 _ ?side1 ?side2 A14.out).mono ?_
            (case side1 => repeat (first|exact (Kd.a_5 d_0.out HB.out)|(with_reducible refine Kd.a_M ?_ _)|(with_reducible refine Kd.a_N ?_ _)|(with_reducible refine Kd.a_2 ?_)))
            (case side2 => exact e_M.out)
            rintro e w24 ⟨v373,rfl,ho0,hb⟩
            refine ⟨_,rfl,?_⟩
            have a_9:=a_b.mk (Kd.b_v (Kd.d_N ho0 (Kd.R_lt (rup_ a_S.out))) (a_g (by repeat (first|(with_reducible first|exact HB.out|apply a_f|apply a_c|apply a_e|refine a_d ?_ a_R.out)|exact HB.out))))
            replace a_S:=a_b.mk (Kd.c_N (rup_ a_S.out) (Kd.d_M ho0) hb)
            replace a_x:=a_b.mk (a_i (bup_ a_x.out) hb)
            replace HB:=a_b.mk (a_m (by repeat (first|(with_reducible first|exact HB.out|apply a_f|apply a_c|apply a_e|refine a_d ?_ a_R.out)|exact HB.out)) hb)
            (try clear hb)
            (try clear hb2)
            (try clear hk)
            (try clear hi)
            (try clear ho0)
            refine hK.out _ _ ⟨(a_h a_x.out 0).trans rfl,((HB.out.cell (World.block_lt_of_cell? w _ a_4)).trans a_4)⟩ (fun hHeld => ?_)
            clear hK K
            refine b_i (a':=?_) ?_ ?_
            rotate_left
            ·show Act.put _ (some 35) _ = _
             simp only [Act.put,sa_,sb_,sc_,a_8,a_7]
             rfl
            exact b_i (by first|(simp only [b_c,Act.put,sa_,sb_,sc_];done)|(simp only [b_c,Act.put,sa_,sb_,sc_];rfl)) (k_z (v369,v373) _ ⟨hHeld,(by (with_reducible repeat (first|apply Kd.a_I|apply Kd.a_J|apply Kd.a_F));exact Kd.a_X a_S.out (fun _ hk => hk.2)),(by (with_reducible repeat (first|apply Kd.a_I|apply Kd.a_J|apply Kd.a_F));exact Kd.a_X a_9.out (fun _ hk => hk.2)),(bup_ a_x.out),(by repeat (first|(with_reducible first|exact HB.out|apply a_f|apply a_c|apply a_e|refine a_d ?_ a_R.out)|exact HB.out))⟩)
           ·skip
            refine b_W ?hg (N:=7) ?hd (cs:=#[.slice none 0 0]) (t:=24) ?hr ?_;(case hd => rfl);(case hg => rfl);(case hr => first|(go_simp;done)|(go_simp;rfl))
            intro a_U hg w24 hbox hb
            have a_z:=a_b.mk (hbox)
            have c_w:=a_b.mk ((by rw [hg];exact (a_g (by repeat (first|(with_reducible first|exact HB.out|apply a_f|apply a_c|apply a_e|refine a_d ?_ a_R.out)|exact HB.out))) : w.heap.size ≤ a_U))
            have a_Y:=a_b.mk ((by rw [hg];exact (a_g (by repeat (first|(with_reducible first|exact HB.out|apply a_f|apply a_c|apply a_e|refine a_d ?_ a_R.out)|exact HB.out))) : w.heap.size ≤ a_U))
            have a_3:=a_b.mk ((by rw [hg];exact Nat.ne_of_lt (a_K (bup_ a_x.out)) : a_P ≠ a_U))
            have a_6:=a_b.mk ((by rw [hg];exact Nat.ne_of_gt (a_K (bup_ a_x.out)) : a_U ≠ a_P))
            replace a_S:=a_b.mk (Kd.a_B (rup_ a_S.out) hb)
            replace a_x:=a_b.mk (a_i (bup_ a_x.out) hb)
            replace HB:=a_b.mk (a_m (by repeat (first|(with_reducible first|exact HB.out|apply a_f|apply a_c|apply a_e|refine a_d ?_ a_R.out)|exact HB.out)) hb)
            clear hb hbox hg
            refine hK.out _ _ ⟨(a_h a_x.out 0).trans rfl,((HB.out.cell (World.block_lt_of_cell? w _ a_4)).trans a_4)⟩ (fun hHeld => ?_)
            clear hK K
            refine b_i (a':=?_) ?_ ?_
            rotate_left
            ·show Act.put _ (some 7) _ = _
             simp only [Act.put,sa_,sb_,sc_,a_8,a_7]
             rfl
            exact b_i (by first|(simp only [b_c,Act.put,sa_,sb_,sc_];done)|(simp only [b_c,Act.put,sa_,sb_,sc_];rfl)) (j_K (v369,a_U) _ ⟨hHeld,(rup_ a_S.out),(bup_ a_x.out),(bup_ a_z.out),c_w.out,a_Y.out,a_3.out,a_6.out,(by repeat (first|(with_reducible first|exact HB.out|apply a_f|apply a_c|apply a_e|refine a_d ?_ a_R.out|refine a_d ?_ a_Y.out)|exact HB.out))⟩)
           skip
           refine b_W ?hg (N:=8) ?hd (cs:=#[.slice none 0 0]) (t:=24) ?hr ?_;(case hd => rfl);(case hg => rfl);(case hr => first|(go_simp;done)|(go_simp;rfl))
           intro a_0 hg w24 hbox hb
           have a_C:=a_b.mk (hbox)
           have c_x:=a_b.mk ((by rw [hg];exact (a_g (by repeat (first|(with_reducible first|exact HB.out|apply a_f|apply a_c|apply a_e|refine a_d ?_ a_R.out)|exact HB.out))) : w.heap.size ≤ a_0))
           have a_Z:=a_b.mk ((by rw [hg];exact (a_g (by repeat (first|(with_reducible first|exact HB.out|apply a_f|apply a_c|apply a_e|refine a_d ?_ a_R.out)|exact HB.out))) : w.heap.size ≤ a_0))
           have b_d:=a_b.mk ((by rw [hg];exact Nat.ne_of_lt (a_K (bup_ a_x.out)) : a_P ≠ a_0))
           have b_j:=a_b.mk ((by rw [hg];exact Nat.ne_of_gt (a_K (bup_ a_x.out)) : a_0 ≠ a_P))
           replace a_S:=a_b.mk (Kd.a_B (rup_ a_S.out) hb)
           replace a_x:=a_b.mk (a_i (bup_ a_x.out) hb)
           replace HB:=a_b.mk (a_m (by repeat (first|(with_reducible first|exact HB.out|apply a_f|apply a_c|apply a_e|refine a_d ?_ a_R.out)|exact HB.out)) hb)
           clear hb hbox hg
           refine hK.out _ _ ⟨(a_h a_x.out 0).trans rfl,((HB.out.cell (World.block_lt_of_cell? w _ a_4)).trans a_4)⟩ (fun hHeld => ?_)
           clear hK K
           refine b_i (a':=?_) ?_ ?_
           rotate_left
           ·show Act.put _ (some 8) _ = _
            simp only [Act.put,sa_,sb_,sc_,a_8,a_7]
            rfl
           exact b_i (by first|(simp only [b_c,Act.put,sa_,sb_,sc_];done)|(simp only [b_c,Act.put,sa_,sb_,sc_];rfl)) (j_L (v369,a_0) _ ⟨hHeld,(rup_ a_S.out),(bup_ a_x.out),(bup_ a_C.out),c_x.out,a_Z.out,b_d.out,b_j.out,(by repeat (first|(with_reducible first|exact HB.out|apply a_f|apply a_c|apply a_e|refine a_d ?_ a_R.out|refine a_d ?_ a_Z.out)|exact HB.out))⟩)
          skip
          rintro ⟨a_U,a_0⟩ w24 ⟨hS_,h0_,h1_,h2_,h3_,h4_,h5_,h6_,h7_,h8_,h9_,h10_,h11_,h12_,h13_⟩
          have a_z : a_b (w24.heap[a_U]? = some (.cells #[.slice none 0 0] 24 (0,0))):=⟨h1_⟩
          have a_C : a_b (w24.heap[a_0]? = some (.cells #[.slice none 0 0] 24 (0,0))):=⟨h2_⟩
          have c_w : a_b (w.heap.size ≤ a_U):=⟨h3_⟩
          have a_Y : a_b (w.heap.size ≤ a_U):=⟨h4_⟩
          have a_3 : a_b (a_P ≠ a_U):=⟨h5_⟩
          have a_6 : a_b (a_U ≠ a_P):=⟨h6_⟩
          have b_f : a_b (a_0 ≠ a_U):=⟨h7_⟩
          have b_e : a_b (a_U ≠ a_0):=⟨h8_⟩
          have c_x : a_b (w.heap.size ≤ a_0):=⟨h9_⟩
          have a_Z : a_b (w.heap.size ≤ a_0):=⟨h10_⟩
          have b_d : a_b (a_P ≠ a_0):=⟨h11_⟩
          have b_j : a_b (a_0 ≠ a_P):=⟨h12_⟩
          replace a_x : a_b (w24.heap[a_P]? = some (.cells #[.slice A366_0 ((a_E l0 x23_1).f0).length c366_0] 24 (0,0))):=⟨h0_⟩
          replace HB : a_b (Below w.heap.size w w24):=⟨h13_⟩
          clear h0_ h1_ h2_ h3_ h4_ h5_ h6_ h7_ h8_ h9_ h10_ h11_ h12_ h13_
          have hHeld : w24.cell? ⟨a_P,0,none⟩ = some (.slice A366_0 ((a_E l0 x23_1).f0).length c366_0) ∧ w24.cell? ad366 = some (.slice A371_0 ((a_E l0 0).f0).length c371_0):=hS_
          refine b_i (a':=?_) ?_ ?_
          rotate_left
          ·simp only [b_c,Act.put,sa_,sb_,sc_]
           rfl
          refine one_ (i:=1) (N:=some 31) Z15_ rfl rfl (b_K HT_.out (by kernel_rfl)) (by decide) (fun K hK => ?_)
          refine c_C Tryd.func11 (by kernel_rfl) rfl #[.agg #[.slice A366_0 ((a_E l0 x23_1).f0).length c366_0]] (by rfl) rfl rfl (by (try simp only [List.map_toArray,List.map_cons,List.map_nil]);first|done|rfl|(simp only [List.length_drop,List.length_take];rfl)) ?_
          with_reducible refine (a_u.calls _ _ ((a_E l0 x23_1).f0) t368 _ ?side1 ?side2 A12.out).mono ?_
          (case side1 => repeat (first|exact (Kd.a_5 d_m.out HB.out)|(with_reducible refine Kd.a_M ?_ _)|(with_reducible refine Kd.a_N ?_ _)|(with_reducible refine Kd.a_2 ?_)))
          (case side2 => exact d_l.out)
          rintro e w25 ⟨v369,rfl,ho0,hb⟩
          refine ⟨_,rfl,?_⟩
          have a_S:=a_b.mk (Kd.b_v ho0 (a_g (by repeat (first|(with_reducible first|exact HB.out|apply a_f|apply a_c|apply a_e|refine a_d ?_ a_R.out|refine a_d ?_ a_Y.out|refine a_d ?_ a_Z.out)|exact HB.out))))
          replace a_x:=a_b.mk (a_i (bup_ a_x.out) hb)
          replace a_z:=a_b.mk (a_i (bup_ a_z.out) hb)
          replace a_C:=a_b.mk (a_i (bup_ a_C.out) hb)
          replace HB:=a_b.mk (a_m (by repeat (first|(with_reducible first|exact HB.out|apply a_f|apply a_c|apply a_e|refine a_d ?_ a_R.out|refine a_d ?_ a_Y.out|refine a_d ?_ a_Z.out)|exact HB.out)) hb)
          (try clear hb)
          (try clear hb2)
          (try clear hk)
          (try clear hi)
          (try clear ho0)
          refine hK.out _ _ ⟨(a_h a_x.out 0).trans rfl,((HB.out.cell (World.block_lt_of_cell? w _ a_4)).trans a_4)⟩ (fun hHeld => ?_)
          clear hK K
          refine b_i (a':=?_) ?_ ?_
          rotate_left
          ·show Act.put _ (some 31) _ = _
           simp only [Act.put,sa_,sb_,sc_,a_8,a_7]
           rfl
          exact b_i (by first|(simp only [b_c,Act.put,sa_,sb_,sc_];done)|(simp only [b_c,Act.put,sa_,sb_,sc_];rfl)) (f_G (v369,a_U,a_0) _ ⟨hHeld,(rup_ a_S.out),(bup_ a_x.out),(bup_ a_z.out),(bup_ a_C.out),c_w.out,a_Y.out,a_3.out,a_6.out,b_f.out,b_e.out,c_x.out,a_Z.out,b_d.out,b_j.out,(by repeat (first|(with_reducible first|exact HB.out|apply a_f|apply a_c|apply a_e|refine a_d ?_ a_R.out|refine a_d ?_ a_Y.out|refine a_d ?_ a_Z.out)|exact HB.out))⟩)
         skip
         rintro ⟨v369,a_0⟩ w24 ⟨hS_,h0_,h1_,h2_,h3_,h4_,h5_,h6_,h7_⟩
         have a_S : a_b (Kd.R k56 56 w24 w.heap.size (fun _ => True) v369 t368):=⟨h0_⟩
         have a_C : a_b (w24.heap[a_0]? = some (.cells #[.slice none 0 0] 24 (0,0))):=⟨h2_⟩
         have c_x : a_b (w.heap.size ≤ a_0):=⟨h3_⟩
         have a_Z : a_b (w.heap.size ≤ a_0):=⟨h4_⟩
         have b_d : a_b (a_P ≠ a_0):=⟨h5_⟩
         have b_j : a_b (a_0 ≠ a_P):=⟨h6_⟩
         replace a_x : a_b (w24.heap[a_P]? = some (.cells #[.slice A366_0 ((a_E l0 x23_1).f0).length c366_0] 24 (0,0))):=⟨h1_⟩
         replace HB : a_b (Below w.heap.size w w24):=⟨h7_⟩
         clear h0_ h1_ h2_ h3_ h4_ h5_ h6_ h7_
         have hHeld : w24.cell? ⟨a_P,0,none⟩ = some (.slice A366_0 ((a_E l0 x23_1).f0).length c366_0) ∧ w24.cell? ad366 = some (.slice A371_0 ((a_E l0 0).f0).length c371_0):=hS_
         refine b_i (a':=?_) ?_ ?_
         rotate_left
         ·simp only [b_c,Act.put,sa_,sb_,sc_]
          rfl
         refine two_ (i:=5) (j:=6) (Ni:=some 35) (Nj:=some 7) Z18_ Z15_ rfl rfl rfl rfl (e_I HT_.out (by kernel_rfl)) (by decide) (by decide) (fun K hK => ?_) (fun K hK => ?_)
         ·skip
          refine c_C Tryd.func11 (by kernel_rfl) rfl #[.agg #[.slice A371_0 ((a_E l0 0).f0).length c371_0]] (by rfl) rfl rfl (by (try simp only [List.map_toArray,List.map_cons,List.map_nil]);first|done|rfl|(simp only [List.length_drop,List.length_take];rfl)) ?_
          with_reducible refine (a_u.calls _ _ ((a_E l0 0).f0) t372 _ ?side1 ?side2 A14.out).mono ?_
          (case side1 => repeat (first|exact (Kd.a_5 d_0.out HB.out)|(with_reducible refine Kd.a_M ?_ _)|(with_reducible refine Kd.a_N ?_ _)|(with_reducible refine Kd.a_2 ?_)))
          (case side2 => exact e_M.out)
          rintro e w25 ⟨v373,rfl,ho0,hb⟩
          refine ⟨_,rfl,?_⟩
          have a_9:=a_b.mk (Kd.b_v (Kd.d_N ho0 (Kd.R_lt (rup_ a_S.out))) (a_g (by repeat (first|(with_reducible first|exact HB.out|apply a_f|apply a_c|apply a_e|refine a_d ?_ a_R.out|refine a_d ?_ a_Z.out)|exact HB.out))))
          replace a_S:=a_b.mk (Kd.c_N (rup_ a_S.out) (Kd.d_M ho0) hb)
          replace a_x:=a_b.mk (a_i (bup_ a_x.out) hb)
          replace a_C:=a_b.mk (a_i (bup_ a_C.out) hb)
          replace HB:=a_b.mk (a_m (by repeat (first|(with_reducible first|exact HB.out|apply a_f|apply a_c|apply a_e|refine a_d ?_ a_R.out|refine a_d ?_ a_Z.out)|exact HB.out)) hb)
          (try clear hb)
          (try clear hb2)
          (try clear hk)
          (try clear hi)
          (try clear ho0)
          refine hK.out _ _ ⟨(a_h a_x.out 0).trans rfl,((HB.out.cell (World.block_lt_of_cell? w _ a_4)).trans a_4)⟩ (fun hHeld => ?_)
          clear hK K
          refine b_i (a':=?_) ?_ ?_
          rotate_left
          ·show Act.put _ (some 35) _ = _
           simp only [Act.put,sa_,sb_,sc_,a_8,a_7]
           rfl
          exact b_i (by first|(simp only [b_c,Act.put,sa_,sb_,sc_];done)|(simp only [b_c,Act.put,sa_,sb_,sc_];rfl)) (h_e (v369,v373,a_0) _ ⟨hHeld,(by (with_reducible repeat (first|apply Kd.a_I|apply Kd.a_J|apply Kd.a_F));exact Kd.a_X a_S.out (fun _ hk => hk.2)),(by (with_reducible repeat (first|apply Kd.a_I|apply Kd.a_J|apply Kd.a_F));exact Kd.a_X a_9.out (fun _ hk => hk.2)),(bup_ a_x.out),(bup_ a_C.out),c_x.out,a_Z.out,b_d.out,b_j.out,(by repeat (first|(with_reducible first|exact HB.out|apply a_f|apply a_c|apply a_e|refine a_d ?_ a_R.out|refine a_d ?_ a_Z.out)|exact HB.out))⟩)
         skip
         refine b_W ?hg (N:=7) ?hd (cs:=#[.slice none 0 0]) (t:=24) ?hr ?_;(case hd => rfl);(case hg => rfl);(case hr => first|(go_simp;done)|(go_simp;rfl))
         intro a_U hg w25 hbox hb
         have a_z:=a_b.mk (hbox)
         have c_w:=a_b.mk ((by rw [hg];exact (a_g (by repeat (first|(with_reducible first|exact HB.out|apply a_f|apply a_c|apply a_e|refine a_d ?_ a_R.out|refine a_d ?_ a_Z.out)|exact HB.out))) : w.heap.size ≤ a_U))
         have a_Y:=a_b.mk ((by rw [hg];exact (a_g (by repeat (first|(with_reducible first|exact HB.out|apply a_f|apply a_c|apply a_e|refine a_d ?_ a_R.out|refine a_d ?_ a_Z.out)|exact HB.out))) : w.heap.size ≤ a_U))
         have a_3:=a_b.mk ((by rw [hg];exact Nat.ne_of_lt (a_K (bup_ a_x.out)) : a_P ≠ a_U))
         have a_6:=a_b.mk ((by rw [hg];exact Nat.ne_of_gt (a_K (bup_ a_x.out)) : a_U ≠ a_P))
         have b_f:=a_b.mk ((by rw [hg];exact Nat.ne_of_lt (a_K (bup_ a_C.out)) : a_0 ≠ a_U))
         have b_e:=a_b.mk ((by rw [hg];exact Nat.ne_of_gt (a_K (bup_ a_C.out)) : a_U ≠ a_0))
         replace a_S:=a_b.mk (Kd.a_B (rup_ a_S.out) hb)
         replace a_x:=a_b.mk (a_i (bup_ a_x.out) hb)
         replace a_C:=a_b.mk (a_i (bup_ a_C.out) hb)
         replace HB:=a_b.mk (a_m (by repeat (first|(with_reducible first|exact HB.out|apply a_f|apply a_c|apply a_e|refine a_d ?_ a_R.out|refine a_d ?_ a_Z.out)|exact HB.out)) hb)
         clear hb hbox hg
         refine hK.out _ _ ⟨(a_h a_x.out 0).trans rfl,((HB.out.cell (World.block_lt_of_cell? w _ a_4)).trans a_4)⟩ (fun hHeld => ?_)
         clear hK K
         refine b_i (a':=?_) ?_ ?_
         rotate_left
         ·show Act.put _ (some 7) _ = _
          simp only [Act.put,sa_,sb_,sc_,a_8,a_7]
          rfl
         exact b_i (by first|(simp only [b_c,Act.put,sa_,sb_,sc_];done)|(simp only [b_c,Act.put,sa_,sb_,sc_];rfl)) (f_G (v369,a_U,a_0) _ ⟨hHeld,(rup_ a_S.out),(bup_ a_x.out),(bup_ a_z.out),(bup_ a_C.out),c_w.out,a_Y.out,a_3.out,a_6.out,b_f.out,b_e.out,c_x.out,a_Z.out,b_d.out,b_j.out,(by repeat (first|(with_reducible first|exact HB.out|apply a_f|apply a_c|apply a_e|refine a_d ?_ a_R.out|refine a_d ?_ a_Z.out|refine a_d ?_ a_Y.out)|exact HB.out))⟩)
        skip
        rintro ⟨v369,a_U⟩ w24 ⟨hS_,h0_,h1_,h2_,h3_,h4_,h5_,h6_,h7_⟩
        have a_S : a_b (Kd.R k56 56 w24 w.heap.size (fun _ => True) v369 t368):=⟨h0_⟩
        have a_z : a_b (w24.heap[a_U]? = some (.cells #[.slice none 0 0] 24 (0,0))):=⟨h2_⟩
        have c_w : a_b (w.heap.size ≤ a_U):=⟨h3_⟩
        have a_Y : a_b (w.heap.size ≤ a_U):=⟨h4_⟩
        have a_3 : a_b (a_P ≠ a_U):=⟨h5_⟩
        have a_6 : a_b (a_U ≠ a_P):=⟨h6_⟩
        replace a_x : a_b (w24.heap[a_P]? = some (.cells #[.slice A366_0 ((a_E l0 x23_1).f0).length c366_0] 24 (0,0))):=⟨h1_⟩
        replace HB : a_b (Below w.heap.size w w24):=⟨h7_⟩
        clear h0_ h1_ h2_ h3_ h4_ h5_ h6_ h7_
        have hHeld : w24.cell? ⟨a_P,0,none⟩ = some (.slice A366_0 ((a_E l0 x23_1).f0).length c366_0) ∧ w24.cell? ad366 = some (.slice A371_0 ((a_E l0 0).f0).length c371_0):=hS_
        refine b_i (a':=?_) ?_ ?_
        rotate_left
        ·simp only [b_c,Act.put,sa_,sb_,sc_]
         rfl
        refine two_ (i:=5) (j:=7) (Ni:=some 35) (Nj:=some 8) Z21_ Z15_ rfl rfl rfl rfl (e_I HT_.out (by kernel_rfl)) (by decide) (by decide) (fun K hK => ?_) (fun K hK => ?_)
        ·skip
         refine c_C Tryd.func11 (by kernel_rfl) rfl #[.agg #[.slice A371_0 ((a_E l0 0).f0).length c371_0]] (by rfl) rfl rfl (by (try simp only [List.map_toArray,List.map_cons,List.map_nil]);first|done|rfl|(simp only [List.length_drop,List.length_take];rfl)) ?_
         with_reducible refine (a_u.calls _ _ ((a_E l0 0).f0) t372 _ ?side1 ?side2 A14.out).mono ?_
         (case side1 => repeat (first|exact (Kd.a_5 d_0.out HB.out)|(with_reducible refine Kd.a_M ?_ _)|(with_reducible refine Kd.a_N ?_ _)|(with_reducible refine Kd.a_2 ?_)))
         (case side2 => exact e_M.out)
         rintro e w25 ⟨v373,rfl,ho0,hb⟩
         refine ⟨_,rfl,?_⟩
         have a_9:=a_b.mk (Kd.b_v (Kd.d_N ho0 (Kd.R_lt (rup_ a_S.out))) (a_g (by repeat (first|(with_reducible first|exact HB.out|apply a_f|apply a_c|apply a_e|refine a_d ?_ a_R.out|refine a_d ?_ a_Y.out)|exact HB.out))))
         replace a_S:=a_b.mk (Kd.c_N (rup_ a_S.out) (Kd.d_M ho0) hb)
         replace a_x:=a_b.mk (a_i (bup_ a_x.out) hb)
         replace a_z:=a_b.mk (a_i (bup_ a_z.out) hb)
         replace HB:=a_b.mk (a_m (by repeat (first|(with_reducible first|exact HB.out|apply a_f|apply a_c|apply a_e|refine a_d ?_ a_R.out|refine a_d ?_ a_Y.out)|exact HB.out)) hb)
         (try clear hb)
         (try clear hb2)
         (try clear hk)
         (try clear hi)
         (try clear ho0)
         refine hK.out _ _ ⟨(a_h a_x.out 0).trans rfl,((HB.out.cell (World.block_lt_of_cell? w _ a_4)).trans a_4)⟩ (fun hHeld => ?_)
         clear hK K
         refine b_i (a':=?_) ?_ ?_
         rotate_left
         ·show Act.put _ (some 35) _ = _
          simp only [Act.put,sa_,sb_,sc_,a_8,a_7]
          rfl
         exact b_i (by first|(simp only [b_c,Act.put,sa_,sb_,sc_];done)|(simp only [b_c,Act.put,sa_,sb_,sc_];rfl)) (h_d (v369,v373,a_U) _ ⟨hHeld,(by (with_reducible repeat (first|apply Kd.a_I|apply Kd.a_J|apply Kd.a_F));exact Kd.a_X a_S.out (fun _ hk => hk.2)),(by (with_reducible repeat (first|apply Kd.a_I|apply Kd.a_J|apply Kd.a_F));exact Kd.a_X a_9.out (fun _ hk => hk.2)),(bup_ a_x.out),(bup_ a_z.out),c_w.out,a_Y.out,a_3.out,a_6.out,(by repeat (first|(with_reducible first|exact HB.out|apply a_f|apply a_c|apply a_e|refine a_d ?_ a_R.out|refine a_d ?_ a_Y.out)|exact HB.out))⟩)
        skip
        refine b_W ?hg (N:=8) ?hd (cs:=#[.slice none 0 0]) (t:=24) ?hr ?_;(case hd => rfl);(case hg => rfl);(case hr => first|(go_simp;done)|(go_simp;rfl))
        intro a_0 hg w25 hbox hb
        have a_C:=a_b.mk (hbox)
        have c_x:=a_b.mk ((by rw [hg];exact (a_g (by repeat (first|(with_reducible first|exact HB.out|apply a_f|apply a_c|apply a_e|refine a_d ?_ a_R.out|refine a_d ?_ a_Y.out)|exact HB.out))) : w.heap.size ≤ a_0))
        have a_Z:=a_b.mk ((by rw [hg];exact (a_g (by repeat (first|(with_reducible first|exact HB.out|apply a_f|apply a_c|apply a_e|refine a_d ?_ a_R.out|refine a_d ?_ a_Y.out)|exact HB.out))) : w.heap.size ≤ a_0))
        have b_d:=a_b.mk ((by rw [hg];exact Nat.ne_of_lt (a_K (bup_ a_x.out)) : a_P ≠ a_0))
        have b_j:=a_b.mk ((by rw [hg];exact Nat.ne_of_gt (a_K (bup_ a_x.out)) : a_0 ≠ a_P))
        have b_e:=a_b.mk ((by rw [hg];exact Nat.ne_of_lt (a_K (bup_ a_z.out)) : a_U ≠ a_0))
        have b_f:=a_b.mk ((by rw [hg];exact Nat.ne_of_gt (a_K (bup_ a_z.out)) : a_0 ≠ a_U))
        replace a_S:=a_b.mk (Kd.a_B (rup_ a_S.out) hb)
        replace a_x:=a_b.mk (a_i (bup_ a_x.out) hb)
        replace a_z:=a_b.mk (a_i (bup_ a_z.out) hb)
        replace HB:=a_b.mk (a_m (by repeat (first|(with_reducible first|exact HB.out|apply a_f|apply a_c|apply a_e|refine a_d ?_ a_R.out|refine a_d ?_ a_Y.out)|exact HB.out)) hb)
        clear hb hbox hg
        refine hK.out _ _ ⟨(a_h a_x.out 0).trans rfl,((HB.out.cell (World.block_lt_of_cell? w _ a_4)).trans a_4)⟩ (fun hHeld => ?_)
        clear hK K
        refine b_i (a':=?_) ?_ ?_
        rotate_left
        ·show Act.put _ (some 8) _ = _
         simp only [Act.put,sa_,sb_,sc_,a_8,a_7]
         rfl
        exact b_i (by first|(simp only [b_c,Act.put,sa_,sb_,sc_];done)|(simp only [b_c,Act.put,sa_,sb_,sc_];rfl)) (f_G (v369,a_U,a_0) _ ⟨hHeld,(rup_ a_S.out),(bup_ a_x.out),(bup_ a_z.out),(bup_ a_C.out),c_w.out,a_Y.out,a_3.out,a_6.out,b_f.out,b_e.out,c_x.out,a_Z.out,b_d.out,b_j.out,(by repeat (first|(with_reducible first|exact HB.out|apply a_f|apply a_c|apply a_e|refine a_d ?_ a_R.out|refine a_d ?_ a_Y.out|refine a_d ?_ a_Z.out)|exact HB.out))⟩)
       skip
       rintro ⟨v369,v373⟩ w24 ⟨hS_,h0_,h1_,h2_,h3_⟩
       have a_S : a_b (Kd.R k56 56 w24 w.heap.size (fun k_ => some k_ ≠ (v373 : Value).ownBlock) v369 t368):=⟨h0_⟩
       have a_9 : a_b (Kd.R k56 56 w24 w.heap.size (fun k_ => some k_ ≠ (v369 : Value).ownBlock) v373 t372):=⟨h1_⟩
       replace a_x : a_b (w24.heap[a_P]? = some (.cells #[.slice A366_0 ((a_E l0 x23_1).f0).length c366_0] 24 (0,0))):=⟨h2_⟩
       replace HB : a_b (Below w.heap.size w w24):=⟨h3_⟩
       clear h0_ h1_ h2_ h3_
       have hHeld : w24.cell? ⟨a_P,0,none⟩ = some (.slice A366_0 ((a_E l0 x23_1).f0).length c366_0) ∧ w24.cell? ad366 = some (.slice A371_0 ((a_E l0 0).f0).length c371_0):=hS_
       refine b_i (a':=?_) ?_ ?_
       rotate_left
       ·simp only [b_c,Act.put,sa_,sb_,sc_]
        rfl
       refine two_ (i:=6) (j:=7) (Ni:=some 7) (Nj:=some 8) Z21_ Z18_ rfl rfl rfl rfl (e_I HT_.out (by kernel_rfl)) (by decide) (by decide) (fun K hK => ?_) (fun K hK => ?_)
       ·skip
        refine b_W ?hg (N:=7) ?hd (cs:=#[.slice none 0 0]) (t:=24) ?hr ?_;(case hd => rfl);(case hg => rfl);(case hr => first|(go_simp;done)|(go_simp;rfl))
        intro a_U hg w25 hbox hb
        have a_z:=a_b.mk (hbox)
        have c_w:=a_b.mk ((by rw [hg];exact (a_g (by repeat (first|(with_reducible first|exact HB.out|apply a_f|apply a_c|apply a_e|refine a_d ?_ a_R.out)|exact HB.out))) : w.heap.size ≤ a_U))
        have a_Y:=a_b.mk ((by rw [hg];exact (a_g (by repeat (first|(with_reducible first|exact HB.out|apply a_f|apply a_c|apply a_e|refine a_d ?_ a_R.out)|exact HB.out))) : w.heap.size ≤ a_U))
        have a_3:=a_b.mk ((by rw [hg];exact Nat.ne_of_lt (a_K (bup_ a_x.out)) : a_P ≠ a_U))
        have a_6:=a_b.mk ((by rw [hg];exact Nat.ne_of_gt (a_K (bup_ a_x.out)) : a_U ≠ a_P))
        replace a_S:=a_b.mk (Kd.a_B (rup_ a_S.out) hb)
        replace a_9:=a_b.mk (Kd.a_B (rup_ a_9.out) hb)
        replace a_x:=a_b.mk (a_i (bup_ a_x.out) hb)
        replace HB:=a_b.mk (a_m (by repeat (first|(with_reducible first|exact HB.out|apply a_f|apply a_c|apply a_e|refine a_d ?_ a_R.out)|exact HB.out)) hb)
        clear hb hbox hg
        refine hK.out _ _ ⟨(a_h a_x.out 0).trans rfl,((HB.out.cell (World.block_lt_of_cell? w _ a_4)).trans a_4)⟩ (fun hHeld => ?_)
        clear hK K
        refine b_i (a':=?_) ?_ ?_
        rotate_left
        ·show Act.put _ (some 7) _ = _
         simp only [Act.put,sa_,sb_,sc_,a_8,a_7]
         rfl
        exact b_i (by first|(simp only [b_c,Act.put,sa_,sb_,sc_];done)|(simp only [b_c,Act.put,sa_,sb_,sc_];rfl)) (h_d (v369,v373,a_U) _ ⟨hHeld,(rup_ a_S.out),(rup_ a_9.out),(bup_ a_x.out),(bup_ a_z.out),c_w.out,a_Y.out,a_3.out,a_6.out,(by repeat (first|(with_reducible first|exact HB.out|apply a_f|apply a_c|apply a_e|refine a_d ?_ a_R.out|refine a_d ?_ a_Y.out)|exact HB.out))⟩)
       skip
       refine b_W ?hg (N:=8) ?hd (cs:=#[.slice none 0 0]) (t:=24) ?hr ?_;(case hd => rfl);(case hg => rfl);(case hr => first|(go_simp;done)|(go_simp;rfl))
       intro a_0 hg w25 hbox hb
       have a_C:=a_b.mk (hbox)
       have c_x:=a_b.mk ((by rw [hg];exact (a_g (by repeat (first|(with_reducible first|exact HB.out|apply a_f|apply a_c|apply a_e|refine a_d ?_ a_R.out)|exact HB.out))) : w.heap.size ≤ a_0))
       have a_Z:=a_b.mk ((by rw [hg];exact (a_g (by repeat (first|(with_reducible first|exact HB.out|apply a_f|apply a_c|apply a_e|refine a_d ?_ a_R.out)|exact HB.out))) : w.heap.size ≤ a_0))
       have b_d:=a_b.mk ((by rw [hg];exact Nat.ne_of_lt (a_K (bup_ a_x.out)) : a_P ≠ a_0))
       have b_j:=a_b.mk ((by rw [hg];exact Nat.ne_of_gt (a_K (bup_ a_x.out)) : a_0 ≠ a_P))
       replace a_S:=a_b.mk (Kd.a_B (rup_ a_S.out) hb)
       replace a_9:=a_b.mk (Kd.a_B (rup_ a_9.out) hb)
       replace a_x:=a_b.mk (a_i (bup_ a_x.out) hb)
       replace HB:=a_b.mk (a_m (by repeat (first|(with_reducible first|exact HB.out|apply a_f|apply a_c|apply a_e|refine a_d ?_ a_R.out)|exact HB.out)) hb)
       clear hb hbox hg
       refine hK.out _ _ ⟨(a_h a_x.out 0).trans rfl,((HB.out.cell (World.block_lt_of_cell? w _ a_4)).trans a_4)⟩ (fun hHeld => ?_)
       clear hK K
       refine b_i (a':=?_) ?_ ?_
       rotate_left
       ·show Act.put _ (some 8) _ = _
        simp only [Act.put,sa_,sb_,sc_,a_8,a_7]
        rfl
       exact b_i (by first|(simp only [b_c,Act.put,sa_,sb_,sc_];done)|(simp only [b_c,Act.put,sa_,sb_,sc_];rfl)) (h_e (v369,v373,a_0) _ ⟨hHeld,(rup_ a_S.out),(rup_ a_9.out),(bup_ a_x.out),(bup_ a_C.out),c_x.out,a_Z.out,b_d.out,b_j.out,(by repeat (first|(with_reducible first|exact HB.out|apply a_f|apply a_c|apply a_e|refine a_d ?_ a_R.out|refine a_d ?_ a_Z.out)|exact HB.out))⟩)
      skip
      rintro ⟨v369,a_U,a_0⟩ w25 ⟨hS_,h0_,h1_,h2_,h3_,h4_,h5_,h6_,h7_,h8_,h9_,h10_,h11_,h12_,h13_,h14_⟩
      have a_S : a_b (Kd.R k56 56 w25 w.heap.size (fun _ => True) v369 t368):=⟨h0_⟩
      have a_z : a_b (w25.heap[a_U]? = some (.cells #[.slice none 0 0] 24 (0,0))):=⟨h2_⟩
      have a_C : a_b (w25.heap[a_0]? = some (.cells #[.slice none 0 0] 24 (0,0))):=⟨h3_⟩
      have c_w : a_b (w.heap.size ≤ a_U):=⟨h4_⟩
      have a_Y : a_b (w.heap.size ≤ a_U):=⟨h5_⟩
      have a_3 : a_b (a_P ≠ a_U):=⟨h6_⟩
      have a_6 : a_b (a_U ≠ a_P):=⟨h7_⟩
      have b_f : a_b (a_0 ≠ a_U):=⟨h8_⟩
      have b_e : a_b (a_U ≠ a_0):=⟨h9_⟩
      have c_x : a_b (w.heap.size ≤ a_0):=⟨h10_⟩
      have a_Z : a_b (w.heap.size ≤ a_0):=⟨h11_⟩
      have b_d : a_b (a_P ≠ a_0):=⟨h12_⟩
      have b_j : a_b (a_0 ≠ a_P):=⟨h13_⟩
      replace a_x : a_b (w25.heap[a_P]? = some (.cells #[.slice A366_0 ((a_E l0 x23_1).f0).length c366_0] 24 (0,0))):=⟨h1_⟩
      replace HB : a_b (Below w.heap.size w w25):=⟨h14_⟩
      clear h0_ h1_ h2_ h3_ h4_ h5_ h6_ h7_ h8_ h9_ h10_ h11_ h12_ h13_ h14_
      have hHeld : w25.cell? ⟨a_P,0,none⟩ = some (.slice A366_0 ((a_E l0 x23_1).f0).length c366_0) ∧ w25.cell? ad366 = some (.slice A371_0 ((a_E l0 0).f0).length c371_0):=hS_
      refine b_i (a':=?_) ?_ ?_
      rotate_left
      ·simp only [b_c,Act.put,sa_,sb_,sc_]
       rfl
      refine one_ (i:=5) (N:=some 35) Z26_ rfl rfl (b_K HT_.out (by kernel_rfl)) (by decide) (fun K hK => ?_)
      refine c_C Tryd.func11 (by kernel_rfl) rfl #[.agg #[.slice A371_0 ((a_E l0 0).f0).length c371_0]] (by rfl) rfl rfl (by (try simp only [List.map_toArray,List.map_cons,List.map_nil]);first|done|rfl|(simp only [List.length_drop,List.length_take];rfl)) ?_
      with_reducible refine (a_u.calls _ _ ((a_E l0 0).f0) t372 _ ?side1 ?side2 A14.out).mono ?_
      (case side1 => repeat (first|exact (Kd.a_5 d_0.out HB.out)|(with_reducible refine Kd.a_M ?_ _)|(with_reducible refine Kd.a_N ?_ _)|(with_reducible refine Kd.a_2 ?_)))
      (case side2 => exact e_M.out)
      rintro e w26 ⟨v373,rfl,ho0,hb⟩
      refine ⟨_,rfl,?_⟩
      have a_9:=a_b.mk (Kd.b_v (Kd.d_N ho0 (Kd.R_lt (rup_ a_S.out))) (a_g (by repeat (first|(with_reducible first|exact HB.out|apply a_f|apply a_c|apply a_e|refine a_d ?_ a_R.out|refine a_d ?_ a_Y.out|refine a_d ?_ a_Z.out)|exact HB.out))))
      replace a_S:=a_b.mk (Kd.c_N (rup_ a_S.out) (Kd.d_M ho0) hb)
      replace a_x:=a_b.mk (a_i (bup_ a_x.out) hb)
      replace a_z:=a_b.mk (a_i (bup_ a_z.out) hb)
      replace a_C:=a_b.mk (a_i (bup_ a_C.out) hb)
      replace HB:=a_b.mk (a_m (by repeat (first|(with_reducible first|exact HB.out|apply a_f|apply a_c|apply a_e|refine a_d ?_ a_R.out|refine a_d ?_ a_Y.out|refine a_d ?_ a_Z.out)|exact HB.out)) hb)
      (try clear hb)
      (try clear hb2)
      (try clear hk)
      (try clear hi)
      (try clear ho0)
      refine hK.out _ _ ⟨(a_h a_x.out 0).trans rfl,((HB.out.cell (World.block_lt_of_cell? w _ a_4)).trans a_4)⟩ (fun hHeld => ?_)
      clear hK K
      refine b_i (a':=?_) ?_ ?_
      rotate_left
      ·show Act.put _ (some 35) _ = _
       simp only [Act.put,sa_,sb_,sc_,a_8,a_7]
       rfl
      exact b_i (by first|(simp only [b_c,Act.put,sa_,sb_,sc_];done)|(simp only [b_c,Act.put,sa_,sb_,sc_];rfl)) (d_7 (v369,v373,a_U,a_0) _ ⟨hHeld,(by (with_reducible repeat (first|apply Kd.a_I|apply Kd.a_J|apply Kd.a_F));exact Kd.a_X a_S.out (fun _ hk => hk.2)),(by (with_reducible repeat (first|apply Kd.a_I|apply Kd.a_J|apply Kd.a_F));exact Kd.a_X a_9.out (fun _ hk => hk.2)),(bup_ a_x.out),(bup_ a_z.out),(bup_ a_C.out),c_w.out,a_Y.out,a_3.out,a_6.out,b_f.out,b_e.out,c_x.out,a_Z.out,b_d.out,b_j.out,(by repeat (first|(with_reducible first|exact HB.out|apply a_f|apply a_c|apply a_e|refine a_d ?_ a_R.out|refine a_d ?_ a_Y.out|refine a_d ?_ a_Z.out)|exact HB.out))⟩)
     skip
     rintro ⟨v369,v373,a_0⟩ w25 ⟨hS_,h0_,h1_,h2_,h3_,h4_,h5_,h6_,h7_,h8_⟩
     have a_S : a_b (Kd.R k56 56 w25 w.heap.size (fun k_ => some k_ ≠ (v373 : Value).ownBlock) v369 t368):=⟨h0_⟩
     have a_9 : a_b (Kd.R k56 56 w25 w.heap.size (fun k_ => some k_ ≠ (v369 : Value).ownBlock) v373 t372):=⟨h1_⟩
     have a_C : a_b (w25.heap[a_0]? = some (.cells #[.slice none 0 0] 24 (0,0))):=⟨h3_⟩
     have c_x : a_b (w.heap.size ≤ a_0):=⟨h4_⟩
     have a_Z : a_b (w.heap.size ≤ a_0):=⟨h5_⟩
     have b_d : a_b (a_P ≠ a_0):=⟨h6_⟩
     have b_j : a_b (a_0 ≠ a_P):=⟨h7_⟩
     replace a_x : a_b (w25.heap[a_P]? = some (.cells #[.slice A366_0 ((a_E l0 x23_1).f0).length c366_0] 24 (0,0))):=⟨h2_⟩
     replace HB : a_b (Below w.heap.size w w25):=⟨h8_⟩
     clear h0_ h1_ h2_ h3_ h4_ h5_ h6_ h7_ h8_
     have hHeld : w25.cell? ⟨a_P,0,none⟩ = some (.slice A366_0 ((a_E l0 x23_1).f0).length c366_0) ∧ w25.cell? ad366 = some (.slice A371_0 ((a_E l0 0).f0).length c371_0):=hS_
     refine b_i (a':=?_) ?_ ?_
     rotate_left
     ·simp only [b_c,Act.put,sa_,sb_,sc_]
      rfl
     refine one_ (i:=6) (N:=some 7) Z26_ rfl rfl (b_K HT_.out (by kernel_rfl)) (by decide) (fun K hK => ?_)
     refine b_W ?hg (N:=7) ?hd (cs:=#[.slice none 0 0]) (t:=24) ?hr ?_;(case hd => rfl);(case hg => rfl);(case hr => first|(go_simp;done)|(go_simp;rfl))
     intro a_U hg w26 hbox hb
     have a_z:=a_b.mk (hbox)
     have c_w:=a_b.mk ((by rw [hg];exact (a_g (by repeat (first|(with_reducible first|exact HB.out|apply a_f|apply a_c|apply a_e|refine a_d ?_ a_R.out|refine a_d ?_ a_Z.out)|exact HB.out))) : w.heap.size ≤ a_U))
     have a_Y:=a_b.mk ((by rw [hg];exact (a_g (by repeat (first|(with_reducible first|exact HB.out|apply a_f|apply a_c|apply a_e|refine a_d ?_ a_R.out|refine a_d ?_ a_Z.out)|exact HB.out))) : w.heap.size ≤ a_U))
     have a_3:=a_b.mk ((by rw [hg];exact Nat.ne_of_lt (a_K (bup_ a_x.out)) : a_P ≠ a_U))
     have a_6:=a_b.mk ((by rw [hg];exact Nat.ne_of_gt (a_K (bup_ a_x.out)) : a_U ≠ a_P))
     have b_f:=a_b.mk ((by rw [hg];exact Nat.ne_of_lt (a_K (bup_ a_C.out)) : a_0 ≠ a_U))
     have b_e:=a_b.mk ((by rw [hg];exact Nat.ne_of_gt (a_K (bup_ a_C.out)) : a_U ≠ a_0))
     replace a_S:=a_b.mk (Kd.a_B (rup_ a_S.out) hb)
     replace a_9:=a_b.mk (Kd.a_B (rup_ a_9.out) hb)
     replace a_x:=a_b.mk (a_i (bup_ a_x.out) hb)
     replace a_C:=a_b.mk (a_i (bup_ a_C.out) hb)
     replace HB:=a_b.mk (a_m (by repeat (first|(with_reducible first|exact HB.out|apply a_f|apply a_c|apply a_e|refine a_d ?_ a_R.out|refine a_d ?_ a_Z.out)|exact HB.out)) hb)
     clear hb hbox hg
     refine hK.out _ _ ⟨(a_h a_x.out 0).trans rfl,((HB.out.cell (World.block_lt_of_cell? w _ a_4)).trans a_4)⟩ (fun hHeld => ?_)
     clear hK K
     refine b_i (a':=?_) ?_ ?_
     rotate_left
     ·show Act.put _ (some 7) _ = _
      simp only [Act.put,sa_,sb_,sc_,a_8,a_7]
      rfl
     exact b_i (by first|(simp only [b_c,Act.put,sa_,sb_,sc_];done)|(simp only [b_c,Act.put,sa_,sb_,sc_];rfl)) (d_7 (v369,v373,a_U,a_0) _ ⟨hHeld,(rup_ a_S.out),(rup_ a_9.out),(bup_ a_x.out),(bup_ a_z.out),(bup_ a_C.out),c_w.out,a_Y.out,a_3.out,a_6.out,b_f.out,b_e.out,c_x.out,a_Z.out,b_d.out,b_j.out,(by repeat (first|(with_reducible first|exact HB.out|apply a_f|apply a_c|apply a_e|refine a_d ?_ a_R.out|refine a_d ?_ a_Z.out|refine a_d ?_ a_Y.out)|exact HB.out))⟩)
    skip
    rintro ⟨v369,v373,a_U⟩ w25 ⟨hS_,h0_,h1_,h2_,h3_,h4_,h5_,h6_,h7_,h8_⟩
    have a_S : a_b (Kd.R k56 56 w25 w.heap.size (fun k_ => some k_ ≠ (v373 : Value).ownBlock) v369 t368):=⟨h0_⟩
    have a_9 : a_b (Kd.R k56 56 w25 w.heap.size (fun k_ => some k_ ≠ (v369 : Value).ownBlock) v373 t372):=⟨h1_⟩
    have a_z : a_b (w25.heap[a_U]? = some (.cells #[.slice none 0 0] 24 (0,0))):=⟨h3_⟩
    have c_w : a_b (w.heap.size ≤ a_U):=⟨h4_⟩
    have a_Y : a_b (w.heap.size ≤ a_U):=⟨h5_⟩
    have a_3 : a_b (a_P ≠ a_U):=⟨h6_⟩
    have a_6 : a_b (a_U ≠ a_P):=⟨h7_⟩
    replace a_x : a_b (w25.heap[a_P]? = some (.cells #[.slice A366_0 ((a_E l0 x23_1).f0).length c366_0] 24 (0,0))):=⟨h2_⟩
    replace HB : a_b (Below w.heap.size w w25):=⟨h8_⟩
    clear h0_ h1_ h2_ h3_ h4_ h5_ h6_ h7_ h8_
    have hHeld : w25.cell? ⟨a_P,0,none⟩ = some (.slice A366_0 ((a_E l0 x23_1).f0).length c366_0) ∧ w25.cell? ad366 = some (.slice A371_0 ((a_E l0 0).f0).length c371_0):=hS_
    refine b_i (a':=?_) ?_ ?_
    rotate_left
    ·simp only [b_c,Act.put,sa_,sb_,sc_]
     rfl
    refine one_ (i:=7) (N:=some 8) Z26_ rfl rfl (b_K HT_.out (by kernel_rfl)) (by decide) (fun K hK => ?_)
    refine b_W ?hg (N:=8) ?hd (cs:=#[.slice none 0 0]) (t:=24) ?hr ?_;(case hd => rfl);(case hg => rfl);(case hr => first|(go_simp;done)|(go_simp;rfl))
    intro a_0 hg w26 hbox hb
    have a_C:=a_b.mk (hbox)
    have c_x:=a_b.mk ((by rw [hg];exact (a_g (by repeat (first|(with_reducible first|exact HB.out|apply a_f|apply a_c|apply a_e|refine a_d ?_ a_R.out|refine a_d ?_ a_Y.out)|exact HB.out))) : w.heap.size ≤ a_0))
    have a_Z:=a_b.mk ((by rw [hg];exact (a_g (by repeat (first|(with_reducible first|exact HB.out|apply a_f|apply a_c|apply a_e|refine a_d ?_ a_R.out|refine a_d ?_ a_Y.out)|exact HB.out))) : w.heap.size ≤ a_0))
    have b_d:=a_b.mk ((by rw [hg];exact Nat.ne_of_lt (a_K (bup_ a_x.out)) : a_P ≠ a_0))
    have b_j:=a_b.mk ((by rw [hg];exact Nat.ne_of_gt (a_K (bup_ a_x.out)) : a_0 ≠ a_P))
    have b_e:=a_b.mk ((by rw [hg];exact Nat.ne_of_lt (a_K (bup_ a_z.out)) : a_U ≠ a_0))
    have b_f:=a_b.mk ((by rw [hg];exact Nat.ne_of_gt (a_K (bup_ a_z.out)) : a_0 ≠ a_U))
    replace a_S:=a_b.mk (Kd.a_B (rup_ a_S.out) hb)
    replace a_9:=a_b.mk (Kd.a_B (rup_ a_9.out) hb)
    replace a_x:=a_b.mk (a_i (bup_ a_x.out) hb)
    replace a_z:=a_b.mk (a_i (bup_ a_z.out) hb)
    replace HB:=a_b.mk (a_m (by repeat (first|(with_reducible first|exact HB.out|apply a_f|apply a_c|apply a_e|refine a_d ?_ a_R.out|refine a_d ?_ a_Y.out)|exact HB.out)) hb)
    clear hb hbox hg
    refine hK.out _ _ ⟨(a_h a_x.out 0).trans rfl,((HB.out.cell (World.block_lt_of_cell? w _ a_4)).trans a_4)⟩ (fun hHeld => ?_)
    clear hK K
    refine b_i (a':=?_) ?_ ?_
    rotate_left
    ·show Act.put _ (some 8) _ = _
     simp only [Act.put,sa_,sb_,sc_,a_8,a_7]
     rfl
    exact b_i (by first|(simp only [b_c,Act.put,sa_,sb_,sc_];done)|(simp only [b_c,Act.put,sa_,sb_,sc_];rfl)) (d_7 (v369,v373,a_U,a_0) _ ⟨hHeld,(rup_ a_S.out),(rup_ a_9.out),(bup_ a_x.out),(bup_ a_z.out),(bup_ a_C.out),c_w.out,a_Y.out,a_3.out,a_6.out,b_f.out,b_e.out,c_x.out,a_Z.out,b_d.out,b_j.out,(by repeat (first|(with_reducible first|exact HB.out|apply a_f|apply a_c|apply a_e|refine a_d ?_ a_R.out|refine a_d ?_ a_Y.out|refine a_d ?_ a_Z.out)|exact HB.out))⟩)
   rintro ⟨v369,v373,a_U,a_0⟩ w26 ⟨hS_,h0_,h1_,h2_,h3_,h4_,h5_,h6_,h7_,h8_,h9_,h10_,h11_,h12_,h13_,h14_,h15_⟩
   have a_S : a_b (Kd.R k56 56 w26 w.heap.size (fun k_ => some k_ ≠ (v373 : Value).ownBlock) v369 t368):=⟨h0_⟩
   have a_9 : a_b (Kd.R k56 56 w26 w.heap.size (fun k_ => some k_ ≠ (v369 : Value).ownBlock) v373 t372):=⟨h1_⟩
   have a_z : a_b (w26.heap[a_U]? = some (.cells #[.slice none 0 0] 24 (0,0))):=⟨h3_⟩
   have a_C : a_b (w26.heap[a_0]? = some (.cells #[.slice none 0 0] 24 (0,0))):=⟨h4_⟩
   have c_w : a_b (w.heap.size ≤ a_U):=⟨h5_⟩
   have a_Y : a_b (w.heap.size ≤ a_U):=⟨h6_⟩
   have a_3 : a_b (a_P ≠ a_U):=⟨h7_⟩
   have a_6 : a_b (a_U ≠ a_P):=⟨h8_⟩
   have b_f : a_b (a_0 ≠ a_U):=⟨h9_⟩
   have b_e : a_b (a_U ≠ a_0):=⟨h10_⟩
   have c_x : a_b (w.heap.size ≤ a_0):=⟨h11_⟩
   have a_Z : a_b (w.heap.size ≤ a_0):=⟨h12_⟩
   have b_d : a_b (a_P ≠ a_0):=⟨h13_⟩
   have b_j : a_b (a_0 ≠ a_P):=⟨h14_⟩
   replace a_x : a_b (w26.heap[a_P]? = some (.cells #[.slice A366_0 ((a_E l0 x23_1).f0).length c366_0] 24 (0,0))):=⟨h2_⟩
   replace HB : a_b (Below w.heap.size w w26):=⟨h15_⟩
   clear h0_ h1_ h2_ h3_ h4_ h5_ h6_ h7_ h8_ h9_ h10_ h11_ h12_ h13_ h14_ h15_
   have hHeld : w26.cell? ⟨a_P,0,none⟩ = some (.slice A366_0 ((a_E l0 x23_1).f0).length c366_0) ∧ w26.cell? ad366 = some (.slice A371_0 ((a_E l0 0).f0).length c371_0):=hS_
   obtain ⟨Ao27,co27,eo27⟩:=Kd.b_5 a_S.out
   (first|subst eo27|(injection eo27 with f1_ f2_ f3_;have f4_:=f1_.symm;have f5_:=f3_.symm;clear f1_ f2_ f3_;subst f4_;subst f5_))
   obtain ⟨Ao29,co29,eo29⟩:=Kd.b_5 a_9.out
   (first|subst eo29|(injection eo29 with f1_ f2_ f3_;have f4_:=f1_.symm;have f5_:=f3_.symm;clear f1_ f2_ f3_;subst f4_;subst f5_))
   refine b_i (a':=?_) ?_ ?_
   rotate_left
   ·simp only [b_c,Act.put,sa_,sb_,sc_]
    rfl
   refine one_ (i:=8) (N:=none) #[T_,T_,T_,T_,T_,T_,T_,T_,T_,F_] rfl rfl (b_K HT_.out (by kernel_rfl)) (by decide) (fun K hK => ?_)
   have hs28 : w26.cell? ⟨a_U,0,none⟩ = some (.slice none 0 0):=(a_h a_z.out 0).trans rfl
   have hfs28:=a_p a_z.out 0
   have hns28_0:=a_3.out
   have hns28_2:=b_f.out
   have hms28_0:=a_6.out
   have hms28_2:=b_e.out
   refine h_J (w1:=?_) (by rfl) rfl ?_ ?_
   rotate_left
   ·go_simp
    rfl
   refine hK.out _ _ ⟨((cell_far (p:=⟨a_U,_,none⟩) a_3.out _).trans (hHeld.1)),((cell_far (p:=⟨a_U,_,none⟩) (by first|exact Nat.ne_of_lt (Nat.lt_of_lt_of_le (by have:=World.block_lt_of_cell? _ _ a_4;first|rwa [add_block] at this|exact this) c_w.out)|(rw [add_block];exact Nat.ne_of_lt (Nat.lt_of_lt_of_le (by have:=World.block_lt_of_cell? _ _ a_4;first|rwa [add_block] at this|exact this) c_w.out))|(show (Addr.add _ _).block ≠ _;rw [add_block];exact Nat.ne_of_lt (Nat.lt_of_lt_of_le (by have:=World.block_lt_of_cell? _ _ a_4;first|rwa [add_block] at this|exact this) c_w.out))|(dsimp only;exact Nat.ne_of_lt (Nat.lt_of_lt_of_le (by have:=World.block_lt_of_cell? _ _ a_4;first|rwa [add_block] at this|exact this) c_w.out))) _).trans (hHeld.2))⟩ (fun hHeld => ?_)
   clear hK K
   refine one_ (i:=9) (N:=none) #[T_,T_,T_,T_,T_,T_,T_,T_,T_,T_] rfl rfl (b_K HT_.out (by kernel_rfl)) (by decide) (fun K hK => ?_)
   have hs30 : w26.cell? ⟨a_0,0,none⟩ = some (.slice none 0 0):=(a_h a_C.out 0).trans rfl
   have hfs30:=a_p a_C.out 0
   have hns30_0:=b_d.out
   have hns30_1:=b_e.out
   have hms30_0:=b_j.out
   have hms30_1:=b_f.out
   refine h_J (w1:=?_) (by rfl) rfl ?_ ?_
   rotate_left
   ·go_simp
    rfl
   refine hK.out _ _ ⟨((cell_far (p:=⟨a_0,_,none⟩) b_d.out _).trans (hHeld.1)),((cell_far (p:=⟨a_0,_,none⟩) (by first|exact Nat.ne_of_lt (Nat.lt_of_lt_of_le (by have:=World.block_lt_of_cell? _ _ a_4;first|rwa [add_block] at this|exact this) c_x.out)|(rw [add_block];exact Nat.ne_of_lt (Nat.lt_of_lt_of_le (by have:=World.block_lt_of_cell? _ _ a_4;first|rwa [add_block] at this|exact this) c_x.out))|(show (Addr.add _ _).block ≠ _;rw [add_block];exact Nat.ne_of_lt (Nat.lt_of_lt_of_le (by have:=World.block_lt_of_cell? _ _ a_4;first|rwa [add_block] at this|exact this) c_x.out))|(dsimp only;exact Nat.ne_of_lt (Nat.lt_of_lt_of_le (by have:=World.block_lt_of_cell? _ _ a_4;first|rwa [add_block] at this|exact this) c_x.out))) _).trans (hHeld.2))⟩ (fun hHeld => ?_)
   clear hK K
   refine c_5 (c_i HT_.out (by kernel_rfl)) ?_
   have l_t:=a_6.out
   have l_z:=a_3.out
   have l_u:=b_e.out
   have l_A:=b_f.out
   have f_N : w26.cell? ⟨a_U,0,none⟩ = some (.slice none 0 0):=(a_h a_z.out 0).trans rfl
   have f_V:=a_p a_z.out 0
   go_upto_region 10 with (first|((with_reducible refine a_D (f:=16) rfl ?_);refine b_n (some 37) rfl rfl Tryd.func16 (by kernel_rfl) rfl #[.agg #[.slice Ao27 t368.length co27]] rfl (by (try simp only [List.map_toArray,List.map_cons,List.map_nil]);first|done|rfl|(simp only [List.length_drop,List.length_take];rfl)) ?_;(with_reducible refine (a_q.calls k1 _ _ t368 t377 _ ?side1 ?side2 A15.out).mono ?_);(case side1 => refine (Kd.a_w (e:=56) (base:=w.heap.size) (ok:=fun k_ => some k_ ≠ (.slice Ao29 t372.length co29 : Value).ownBlock) (n:=t368.length) (c:=co27) ?_).2.2;exact (by (with_reducible repeat (first|apply Kd.a_I|apply Kd.a_J|apply Kd.a_F));exact (Kd.a_X (Kd.a_X (Kd.b_9 (p:=⟨a_0,0,none⟩) (Kd.b_9 (p:=⟨a_U,0,none⟩) (Kd.b_I (Kd.b_I a_S.out a_z.out (by decide)) a_C.out (by decide)) (fun _ hk => hk.1.2) (.slice Ao27 t368.length co27)) (fun _ hk => hk.2) (.slice Ao29 t372.length co29)) (fun _ h_ => h_.1)) (fun _ h_ => h_.1))));(case side2 => exact (Kd.a_w a_S.out).2.1);rintro e w34 ⟨rfl,hb⟩;refine ⟨_,rfl,?_⟩;replace a_S:=a_b.mk (Kd.a_B (by (with_reducible repeat (first|apply Kd.a_I|apply Kd.a_J|apply Kd.a_F));exact (Kd.a_X (Kd.a_X (Kd.b_9 (p:=⟨a_0,0,none⟩) (Kd.b_9 (p:=⟨a_U,0,none⟩) (Kd.b_I (Kd.b_I a_S.out a_z.out (by decide)) a_C.out (by decide)) (fun _ hk => hk.1.2) (.slice Ao27 t368.length co27)) (fun _ hk => hk.2) (.slice Ao29 t372.length co29)) (fun _ h_ => h_.1)) (fun _ h_ => h_.1))) hb);replace a_9:=a_b.mk (Kd.a_B (by (with_reducible repeat (first|apply Kd.a_I|apply Kd.a_J|apply Kd.a_F));exact (Kd.a_X (Kd.a_X (Kd.b_9 (p:=⟨a_0,0,none⟩) (Kd.b_9 (p:=⟨a_U,0,none⟩) (Kd.b_I (Kd.b_I a_9.out a_z.out (by decide)) a_C.out (by decide)) (fun _ hk => hk.1.2) (.slice Ao27 t368.length co27)) (fun _ hk => hk.2) (.slice Ao29 t372.length co29)) (fun _ h_ => h_.1)) (fun _ h_ => h_.1))) hb);replace a_x:=a_b.mk (a_i (g:=a_P) (o:=.cells #[.slice A366_0 ((a_E l0 x23_1).f0).length c366_0] 24 (0,0)) (by (with_reducible repeat (first|refine a_l ?_ _|refine a_j ?_|refine a_k ?_ _));refine b_m ?_ b_d.out _;(with_reducible repeat (first|refine a_l ?_ _|refine a_j ?_|refine a_k ?_ _));refine b_m ?_ a_3.out _;(with_reducible repeat (first|refine a_l ?_ _|refine a_j ?_|refine a_k ?_ _));exact a_x.out) hb);replace a_z:=a_b.mk (a_i (g:=a_U) (o:=.cells #[.slice Ao27 t368.length co27] 24 (0,0)) (by (with_reducible repeat (first|refine a_l ?_ _|refine a_j ?_|refine a_k ?_ _));refine b_m ?_ b_e.out _;(with_reducible repeat (first|refine a_l ?_ _|refine a_j ?_|refine a_k ?_ _));refine b_p (cs:=#[.slice none 0 0]) ?_ 0 _ rfl;(with_reducible repeat (first|refine a_l ?_ _|refine a_j ?_|refine a_k ?_ _));exact a_z.out) hb);replace a_C:=a_b.mk (a_i (g:=a_0) (o:=.cells #[.slice Ao29 t372.length co29] 24 (0,0)) (by (with_reducible repeat (first|refine a_l ?_ _|refine a_j ?_|refine a_k ?_ _));refine b_p (cs:=#[.slice none 0 0]) ?_ 0 _ rfl;(with_reducible repeat (first|refine a_l ?_ _|refine a_j ?_|refine a_k ?_ _));refine b_m ?_ b_f.out _;(with_reducible repeat (first|refine a_l ?_ _|refine a_j ?_|refine a_k ?_ _));exact a_C.out) hb);replace HB:=a_b.mk (a_m (by repeat (first|(with_reducible first|exact HB.out|apply a_f|apply a_c|apply a_e|refine a_d ?_ a_R.out|refine a_d ?_ a_Y.out|refine a_d ?_ a_Z.out)|exact HB.out)) hb);(try clear hb);(try clear hb2);(try clear hk);(try clear hi);have h_k : w34.cell? ⟨a_U,0,none⟩ = some (.slice Ao27 t368.length co27):=(a_h a_z.out 0).trans rfl;have h_r:=a_p a_z.out 0)|((with_reducible refine a_D (f:=28) rfl ?_);refine b_n (some 39) rfl rfl Tryd.func28 (by kernel_rfl) rfl #[.agg #[.slice Ao27 t368.length co27]] rfl (by (try simp only [List.map_toArray,List.map_cons,List.map_nil]);first|done|rfl|(simp only [List.length_drop,List.length_take];rfl)) ?_;(with_reducible refine (b_l.calls _ _ t368 t378 _ ?side1 ?side2 A16.out).mono ?_);(case side1 => repeat (first|exact (Kd.a_w a_S.out).2.2|(with_reducible refine Kd.a_M ?_ _)|(with_reducible refine Kd.a_N ?_ _)|(with_reducible refine Kd.a_2 ?_)));(case side2 => exact (Kd.a_w a_S.out).2.1);rintro e w36 ⟨rfl,hb⟩;refine ⟨_,rfl,?_⟩;replace a_S:=a_b.mk (Kd.a_B (rup_ a_S.out) hb);replace a_9:=a_b.mk (Kd.a_B (rup_ a_9.out) hb);replace a_x:=a_b.mk (a_i (bup_ a_x.out) hb);replace a_z:=a_b.mk (a_i (bup_ a_z.out) hb);replace a_C:=a_b.mk (a_i (bup_ a_C.out) hb);replace HB:=a_b.mk (a_m (by repeat (first|(with_reducible first|exact HB.out|apply a_f|apply a_c|apply a_e|refine a_d ?_ a_R.out|refine a_d ?_ a_Y.out|refine a_d ?_ a_Z.out)|exact HB.out)) hb);(try clear hb);(try clear hb2);(try clear hk);(try clear hi)))
   (try simp only [Act.put,sa_,sb_,sc_])
   go_cut [67] (fun v67 wc => ∃ (kq : Nat) (x67_16 : Bool),v67 = .bool x67_16 ∧ a_b (a_a.j1 kq l0 l1 t377 l0 (l0.length : Int) x23_1 x67_16 t368 = some r) ∧ a_b (kq ≤ k1) ∧ a_b (Kd.R k56 56 wc w.heap.size (fun k_ => some k_ ≠ ((.slice Ao29 t372.length co29) : Value).ownBlock) (.slice Ao27 t368.length co27) t368) ∧ a_b (Kd.R k56 56 wc w.heap.size (fun k_ => some k_ ≠ ((.slice Ao27 t368.length co27) : Value).ownBlock) (.slice Ao29 t372.length co29) t372) ∧ a_b (wc.heap[a_P]? = some (.cells #[(.slice A366_0 ((a_E l0 x23_1).f0).length c366_0)] 24 (0,0))) ∧ a_b (wc.heap[a_U]? = some (.cells #[(.slice Ao27 t368.length co27)] 24 (0,0))) ∧ a_b (wc.heap[a_0]? = some (.cells #[(.slice Ao29 t372.length co29)] 24 (0,0))) ∧ a_b (Below w.heap.size w wc))
   case first =>
    have H:=HC17.out
    clear HC17
    by_cases c37 : ((t378 == 0) != t377) = true
    ·rw [if_pos c37] at H
     have c37b0 : ((t378 == 0) != t377) = true:=c37
     (try (have c37b1 : decide ((t378 == 0) = t377) = false:=by simpa using c37))
     (try (have c37b2 : ((t378 == 0) == t377) = false:=by simpa using c37))
     (try (have c37b3 : ¬ ((t378 == 0) = t377):=by simpa using c37))
     clear c37
     (first|rw [c37b0]|(simp only [a_8,a_7];rw [c37b0])|skip)
     have H':=a_b.mk H
     clear H
     try go_wp2
     replace a_S:=a_b.mk (Kd.a_F a_S.out)
     replace a_9:=a_b.mk (Kd.a_F a_9.out)
     replace a_x:=a_b.mk (a_j a_x.out)
     replace a_z:=a_b.mk (a_j a_z.out)
     replace a_C:=a_b.mk (a_j a_C.out)
     replace HB:=a_b.mk (a_e HB.out)
     refine c_D (n:=28) (S:=fun w' => True) (ds:=[]) Z0_ (by kernel_rfl) rfl rfl trivial (fun hHeld => ?_);refine b_G a_a.g_F a_a.e_C (fun HT_ HW_ => ?_)
     generalize w36.drew = w38 at a_S a_9 a_x a_z a_C HB hHeld ⊢
     refine pt_ 0 (some 40) Z2_ HT_ ?_
     refine pt_ 1 (some 41) Z5_ HT_ ?_
     refine pt_ 2 (some 42) Z8_ HT_ ?_
     refine pt_ 3 (some 43) Z9_ HT_ ?_
     refine pt_ 4 (some 44) Z11_ HT_ ?_
     refine pk_ 5 (some 45) Z16_ HT_ ?_
     refine pk_ 6 (some 46) Z19_ HT_ ?_
     refine pk_ 7 (some 47) Z24_ HT_ ?_
     refine pk_ 8 (some 48) Z27_ HT_ ?_
     refine pk_ 9 (some 49) Z30_ HT_ ?_
     refine pk_ 10 (some 50) Z32_ HT_ ?_
     refine pt_ 11 (some 51) Z34_ HT_ ?_
     refine pt_ 12 (some 52) Z37_ HT_ ?_
     refine pk_ 13 (some 53) Z39_ HT_ ?_
     refine pk_ 14 (some 54) Z41_ HT_ ?_
     refine pk_ 15 (some 55) Z44_ HT_ ?_
     refine pk_ 16 (some 56) Z45_ HT_ ?_
     refine pk_ 17 (some 57) Z46_ HT_ ?_
     refine pk_ 18 (some 58) Z47_ HT_ ?_
     refine pk_ 19 (some 59) Z48_ HT_ ?_
     refine pt_ 20 (some 60) Z49_ HT_ ?_
     refine pt_ 21 (some 61) Z50_ HT_ ?_
     refine pk_ 22 (some 62) Z51_ HT_ ?_
     refine pk_ 23 (some 63) Z52_ HT_ ?_
     refine pk_ 24 (some 64) Z53_ HT_ ?_
     refine pk_ 25 (some 65) Z54_ HT_ ?_
     refine pk_ 26 (some 66) Z55_ HT_ ?_
     refine pt_ 27 (some 67) Z56_ HT_ ?_
     refine c_5 (c_i HT_.out (by kernel_rfl)) ?_
     try go_wp2
     go_meet
     case rel => exact ⟨_,(true),(by first|rfl|(simp;done)|(simp [*];done)),H',⟨by have:=HK1.out;first|omega|exact Nat.le_refl _⟩,⟨by (with_reducible repeat (first|apply Kd.a_I|apply Kd.a_J|apply Kd.a_F));exact a_S.out⟩,⟨by (with_reducible repeat (first|apply Kd.a_I|apply Kd.a_J|apply Kd.a_F));exact a_9.out⟩,⟨by (with_reducible repeat (first|refine a_l ?_ _|refine a_j ?_|refine a_k ?_ _));exact a_x.out⟩,⟨by (with_reducible repeat (first|refine a_l ?_ _|refine a_j ?_|refine a_k ?_ _));exact a_z.out⟩,⟨by (with_reducible repeat (first|refine a_l ?_ _|refine a_j ?_|refine a_k ?_ _));exact a_C.out⟩,⟨by repeat (first|(with_reducible first|exact HB.out|apply a_f|apply a_c|apply a_e|refine a_d ?_ a_R.out|refine a_d ?_ a_Y.out|refine a_d ?_ a_Z.out)|exact HB.out)⟩⟩
    rw [if_neg c37] at H
    have c37b0 : ((t378 == 0) != t377) = false:=by simpa using c37
    (try (have c37b1 : decide ((t378 == 0) = t377) = true:=by simpa using c37))
    (try (have c37b2 : ((t378 == 0) == t377) = true:=by simpa using c37))
    clear c37
    (first|rw [c37b0]|(simp only [a_8,a_7];rw [c37b0])|skip)
    by_cases c39 : t377 = true
    ·subst c39
     have H1 : ((a_H.f k1 t368 t372).bind fun t379 => ((a_o.f k1 t368 t372).bind fun t380 => (if (t379 != t380) = true then (a_a.j1 k1 l0 l1 true l0 (l0.length : Int) x23_1 true t368) else ((a_u.f ((a_E l0 x23_1).f0)).bind fun t381 => ((a_H.f k1 t368 t381).bind fun t384 => (a_a.j1 k1 l0 l1 true l0 (l0.length : Int) x23_1 (!t384) t368)))))) = some r:=by rw [if_pos rfl] at H;exact H
     clear H
     have H:=H1
     clear H1
     replace H:=Option.bind_eq_some_iff.mp H
     obtain ⟨t379,A400,H⟩:=H
     replace H : ((a_o.f k1 t368 t372).bind fun t380 => (if (t379 != t380) = true then (a_a.j1 k1 l0 l1 true l0 (l0.length : Int) x23_1 true t368) else ((a_u.f ((a_E l0 x23_1).f0)).bind fun t381 => ((a_H.f k1 t368 t381).bind fun t384 => (a_a.j1 k1 l0 l1 true l0 (l0.length : Int) x23_1 (!t384) t368))))) = some r:=H
     have A40:=a_b.mk A400
     clear A400
     replace H:=Option.bind_eq_some_iff.mp H
     obtain ⟨t380,A410,H⟩:=H
     replace H : (if (t379 != t380) = true then (a_a.j1 k1 l0 l1 true l0 (l0.length : Int) x23_1 true t368) else ((a_u.f ((a_E l0 x23_1).f0)).bind fun t381 => ((a_H.f k1 t368 t381).bind fun t384 => (a_a.j1 k1 l0 l1 true l0 (l0.length : Int) x23_1 (!t384) t368)))) = some r:=H
     have A41:=a_b.mk A410
     clear A410
     by_cases c42 : (t379 != t380) = true
     ·rw [if_pos c42] at H
      have c42b0 : (t379 != t380) = true:=c42
      (try (have c42b1 : decide (t379 = t380) = false:=by simpa using c42))
      (try (have c42b2 : (t379 == t380) = false:=by simpa using c42))
      (try (have c42b3 : ¬ (t379 = t380):=by simpa using c42))
      clear c42
      have H':=a_b.mk H
      clear H
      try go_wp2
      replace a_S:=a_b.mk (Kd.a_F a_S.out)
      replace a_9:=a_b.mk (Kd.a_F a_9.out)
      replace a_x:=a_b.mk (a_j a_x.out)
      replace a_z:=a_b.mk (a_j a_z.out)
      replace a_C:=a_b.mk (a_j a_C.out)
      replace HB:=a_b.mk (a_e HB.out)
      refine c_D (n:=28) (S:=fun w' => w'.cell? ⟨a_U,0,none⟩ = some (.slice Ao27 t368.length co27) ∧ w'.cell? ⟨a_0,0,none⟩ = some (.slice Ao29 t372.length co29)) (ds:=[]) Z0_ (by kernel_rfl) rfl rfl ⟨(a_h a_z.out 0).trans rfl,(a_h a_C.out 0).trans rfl⟩ (fun hHeld => ?_);refine b_G a_a.g_F a_a.e_C (fun HT_ HW_ => ?_)
      generalize w36.drew = w43 at a_S a_9 a_x a_z a_C HB hHeld ⊢
      refine pt_ 0 (some 40) Z2_ HT_ ?_
      refine pt_ 1 (some 41) Z5_ HT_ ?_
      refine pt_ 2 (some 42) Z8_ HT_ ?_
      refine pt_ 3 (some 43) Z9_ HT_ ?_
      refine pt_ 4 (some 44) Z11_ HT_ ?_
      refine pt_ 5 (some 45) Z16_ HT_ ?_
      refine pt_ 6 (some 46) Z19_ HT_ ?_
      refine pt_ 7 (some 47) Z24_ HT_ ?_
      refine pk_ 8 (some 48) Z27_ HT_ ?_
      refine pk_ 9 (some 49) Z30_ HT_ ?_
      refine pt_ 10 (some 50) Z32_ HT_ ?_
      refine pt_ 11 (some 51) Z34_ HT_ ?_
      refine pt_ 12 (some 52) Z37_ HT_ ?_
      refine b_L (i:=13) (N:=some 53) (v:=?_) (a':=?_) Z39_ rfl rfl (a_1 HT_.out HW_.out (by kernel_rfl)) (fun _ _ _ h => h) (Or.inl ⟨by rfl,?_⟩) hHeld ?_ ?_
      rotate_left
      ·rintro w' ⟨s0,s1⟩
       go_simp
       with_reducible rfl
      rotate_left
      ·simp only [Act.put,sa_,sb_,sc_,a_8,a_7]
       rfl
      refine b_L (i:=14) (N:=some 54) (v:=?_) (a':=?_) Z41_ rfl rfl (a_1 HT_.out HW_.out (by kernel_rfl)) (fun _ _ _ h => h) (Or.inl ⟨by rfl,?_⟩) hHeld ?_ ?_
      rotate_left
      ·rintro w' ⟨s0,s1⟩
       go_simp
       with_reducible rfl
      rotate_left
      ·simp only [Act.put,sa_,sb_,sc_,a_8,a_7]
       rfl
      refine b_L (i:=16) (N:=some 56) (v:=?_) (a':=?_) Z42_ rfl rfl (a_1 HT_.out HW_.out (by kernel_rfl)) (fun _ _ _ h => h) (Or.inl ⟨by rfl,?_⟩) hHeld ?_ ?_
      rotate_left
      ·rintro w' ⟨s0,s1⟩
       go_simp
       with_reducible rfl
      rotate_left
      ·simp only [Act.put,sa_,sb_,sc_,a_8,a_7]
       rfl
      refine b_L (i:=17) (N:=some 57) (v:=?_) (a':=?_) Z43_ rfl rfl (a_1 HT_.out HW_.out (by kernel_rfl)) (fun _ _ _ h => h) (Or.inl ⟨by rfl,?_⟩) hHeld ?_ ?_
      rotate_left
      ·rintro w' ⟨s0,s1⟩
       go_simp
       with_reducible rfl
      rotate_left
      ·simp only [Act.put,sa_,sb_,sc_,a_8,a_7]
       rfl
      refine one_ (i:=15) (N:=some 55) Z46_ rfl rfl (b_K HT_.out (by kernel_rfl)) (by decide) (fun K hK => ?_)
      refine c_C Tryd.func14 (by kernel_rfl) rfl #[.agg #[.slice Ao27 t368.length co27],.agg #[.slice Ao29 t372.length co29]] (by rfl) rfl rfl (by (try simp only [List.map_toArray,List.map_cons,List.map_nil]);first|done|rfl|(simp only [List.length_drop,List.length_take];rfl)) ?_
      with_reducible refine (a_H.calls k1 _ _ t368 _ _ t372 t379 _ ?side1 ?side2 ?side3 ?side4 A40.out).mono ?_
      (case side1 => repeat (first|exact (Kd.a_w a_S.out).2.2|(with_reducible refine Kd.a_M ?_ _)|(with_reducible refine Kd.a_N ?_ _)|(with_reducible refine Kd.a_2 ?_)))
      (case side2 => exact (Kd.a_w a_S.out).2.1)
      (case side3 => repeat (first|exact (Kd.a_w a_9.out).2.2|(with_reducible refine Kd.a_M ?_ _)|(with_reducible refine Kd.a_N ?_ _)|(with_reducible refine Kd.a_2 ?_)))
      (case side4 => exact (Kd.a_w a_9.out).2.1)
      rintro e w44 ⟨rfl,hb⟩
      refine ⟨_,rfl,?_⟩
      replace a_S:=a_b.mk (Kd.a_B (rup_ a_S.out) hb)
      replace a_9:=a_b.mk (Kd.a_B (rup_ a_9.out) hb)
      replace a_x:=a_b.mk (a_i (bup_ a_x.out) hb)
      replace a_z:=a_b.mk (a_i (bup_ a_z.out) hb)
      replace a_C:=a_b.mk (a_i (bup_ a_C.out) hb)
      replace HB:=a_b.mk (a_m (by repeat (first|(with_reducible first|exact HB.out|apply a_f|apply a_c|apply a_e|refine a_d ?_ a_R.out|refine a_d ?_ a_Y.out|refine a_d ?_ a_Z.out)|exact HB.out)) hb)
      (try clear hb)
      (try clear hb2)
      (try clear hk)
      (try clear hi)
      refine hK.out _ _ ⟨(a_h a_z.out 0).trans rfl,(a_h a_C.out 0).trans rfl⟩ (fun hHeld => ?_)
      clear hK K
      refine b_i (a':=?_) ?_ ?_
      rotate_left
      ·show Act.put _ (some 55) _ = _
       simp only [Act.put,sa_,sb_,sc_,a_8,a_7]
       rfl
      refine one_ (i:=18) (N:=some 58) Z47_ rfl rfl (b_K HT_.out (by kernel_rfl)) (by decide) (fun K hK => ?_)
      refine c_C Tryd.func24 (by kernel_rfl) rfl #[.agg #[.slice Ao27 t368.length co27],.agg #[.slice Ao29 t372.length co29]] (by rfl) rfl rfl (by (try simp only [List.map_toArray,List.map_cons,List.map_nil]);first|done|rfl|(simp only [List.length_drop,List.length_take];rfl)) ?_
      with_reducible refine (a_o.calls k1 _ _ t368 _ _ t372 t380 _ ?side1 ?side2 ?side3 ?side4 A41.out).mono ?_
      (case side1 => repeat (first|exact (Kd.a_w a_S.out).2.2|(with_reducible refine Kd.a_M ?_ _)|(with_reducible refine Kd.a_N ?_ _)|(with_reducible refine Kd.a_2 ?_)))
      (case side2 => exact (Kd.a_w a_S.out).2.1)
      (case side3 => repeat (first|exact (Kd.a_w a_9.out).2.2|(with_reducible refine Kd.a_M ?_ _)|(with_reducible refine Kd.a_N ?_ _)|(with_reducible refine Kd.a_2 ?_)))
      (case side4 => exact (Kd.a_w a_9.out).2.1)
      rintro e w45 ⟨rfl,hb⟩
      refine ⟨_,rfl,?_⟩
      replace a_S:=a_b.mk (Kd.a_B (rup_ a_S.out) hb)
      replace a_9:=a_b.mk (Kd.a_B (rup_ a_9.out) hb)
      replace a_x:=a_b.mk (a_i (bup_ a_x.out) hb)
      replace a_z:=a_b.mk (a_i (bup_ a_z.out) hb)
      replace a_C:=a_b.mk (a_i (bup_ a_C.out) hb)
      replace HB:=a_b.mk (a_m (by repeat (first|(with_reducible first|exact HB.out|apply a_f|apply a_c|apply a_e|refine a_d ?_ a_R.out|refine a_d ?_ a_Y.out|refine a_d ?_ a_Z.out)|exact HB.out)) hb)
      (try clear hb)
      (try clear hb2)
      (try clear hk)
      (try clear hi)
      refine hK.out _ _ ⟨(a_h a_z.out 0).trans rfl,(a_h a_C.out 0).trans rfl⟩ (fun hHeld => ?_)
      clear hK K
      refine b_i (a':=?_) ?_ ?_
      rotate_left
      ·show Act.put _ (some 58) _ = _
       simp only [Act.put,sa_,sb_,sc_,a_8,a_7]
       rfl
      refine pt_ 19 (some 59) Z48_ HT_ ?_
      refine pt_ 20 (some 60) Z49_ HT_ ?_
      refine pt_ 21 (some 61) Z50_ HT_ ?_
      refine pk_ 22 (some 62) Z51_ HT_ ?_
      refine pk_ 23 (some 63) Z52_ HT_ ?_
      refine pk_ 24 (some 64) Z53_ HT_ ?_
      refine pk_ 25 (some 65) Z54_ HT_ ?_
      refine pk_ 26 (some 66) Z55_ HT_ ?_
      refine pt_ 27 (some 67) Z56_ HT_ ?_
      refine c_5 (c_i HT_.out (by kernel_rfl)) ?_
      try go_wp2
      go_meet
      case rel => exact ⟨_,(true),(by first|rfl|(simp;done)|(simp [*];done)),H',⟨by have:=HK1.out;first|omega|exact Nat.le_refl _⟩,⟨by (with_reducible repeat (first|apply Kd.a_I|apply Kd.a_J|apply Kd.a_F));exact a_S.out⟩,⟨by (with_reducible repeat (first|apply Kd.a_I|apply Kd.a_J|apply Kd.a_F));exact a_9.out⟩,⟨by (with_reducible repeat (first|refine a_l ?_ _|refine a_j ?_|refine a_k ?_ _));exact a_x.out⟩,⟨by (with_reducible repeat (first|refine a_l ?_ _|refine a_j ?_|refine a_k ?_ _));exact a_z.out⟩,⟨by (with_reducible repeat (first|refine a_l ?_ _|refine a_j ?_|refine a_k ?_ _));exact a_C.out⟩,⟨by repeat (first|(with_reducible first|exact HB.out|apply a_f|apply a_c|apply a_e|refine a_d ?_ a_R.out|refine a_d ?_ a_Y.out|refine a_d ?_ a_Z.out)|exact HB.out)⟩⟩
     rw [if_neg c42] at H
     have c42b0 : (t379 != t380) = false:=by simpa using c42
     (try (have c42b1 : decide (t379 = t380) = true:=by simpa using c42))
     (try (have c42b2 : (t379 == t380) = true:=by simpa using c42))
     clear c42
     replace H:=Option.bind_eq_some_iff.mp H
     obtain ⟨t381,A460,H⟩:=H
     replace H : ((a_H.f k1 t368 t381).bind fun t384 => (a_a.j1 k1 l0 l1 true l0 (l0.length : Int) x23_1 (!t384) t368)) = some r:=H
     have A46:=a_b.mk A460
     clear A460
     replace H:=Option.bind_eq_some_iff.mp H
     obtain ⟨t384,A470,H⟩:=H
     replace H : (a_a.j1 k1 l0 l1 true l0 (l0.length : Int) x23_1 (!t384) t368) = some r:=H
     have A47:=a_b.mk A470
     clear A470
     have H':=a_b.mk H
     clear H
     try go_wp2
     replace a_S:=a_b.mk (Kd.a_F a_S.out)
     replace a_9:=a_b.mk (Kd.a_F a_9.out)
     replace a_x:=a_b.mk (a_j a_x.out)
     replace a_z:=a_b.mk (a_j a_z.out)
     replace a_C:=a_b.mk (a_j a_C.out)
     replace HB:=a_b.mk (a_e HB.out)
     refine c_D (n:=28) (S:=fun w' => w'.cell? ⟨a_U,0,none⟩ = some (.slice Ao27 t368.length co27) ∧ w'.cell? ⟨a_0,0,none⟩ = some (.slice Ao29 t372.length co29) ∧ w'.cell? ⟨a_P,0,none⟩ = some (.slice A366_0 ((a_E l0 x23_1).f0).length c366_0)) (ds:=[]) Z0_ (by kernel_rfl) rfl rfl ⟨(a_h a_z.out 0).trans rfl,(a_h a_C.out 0).trans rfl,(a_h a_x.out 0).trans rfl⟩ (fun hHeld => ?_);refine b_G a_a.g_F a_a.e_C (fun HT_ HW_ => ?_)
     generalize w36.drew = w48 at a_S a_9 a_x a_z a_C HB hHeld ⊢
     refine pt_ 0 (some 40) Z2_ HT_ ?_
     refine pt_ 1 (some 41) Z5_ HT_ ?_
     refine pt_ 2 (some 42) Z8_ HT_ ?_
     refine pt_ 3 (some 43) Z9_ HT_ ?_
     refine pt_ 4 (some 44) Z11_ HT_ ?_
     refine pt_ 5 (some 45) Z16_ HT_ ?_
     refine pt_ 6 (some 46) Z19_ HT_ ?_
     refine pt_ 7 (some 47) Z24_ HT_ ?_
     refine pk_ 8 (some 48) Z27_ HT_ ?_
     refine pk_ 9 (some 49) Z30_ HT_ ?_
     refine pt_ 10 (some 50) Z32_ HT_ ?_
     refine pt_ 11 (some 51) Z34_ HT_ ?_
     refine pt_ 12 (some 52) Z37_ HT_ ?_
     refine b_L (i:=13) (N:=some 53) (v:=?_) (a':=?_) Z39_ rfl rfl (a_1 HT_.out HW_.out (by kernel_rfl)) (fun _ _ _ h => h) (Or.inl ⟨by rfl,?_⟩) hHeld ?_ ?_
     rotate_left
     ·rintro w' ⟨s0,s1,s2⟩
      go_simp
      with_reducible rfl
     rotate_left
     ·simp only [Act.put,sa_,sb_,sc_,a_8,a_7]
      rfl
     refine b_L (i:=14) (N:=some 54) (v:=?_) (a':=?_) Z41_ rfl rfl (a_1 HT_.out HW_.out (by kernel_rfl)) (fun _ _ _ h => h) (Or.inl ⟨by rfl,?_⟩) hHeld ?_ ?_
     rotate_left
     ·rintro w' ⟨s0,s1,s2⟩
      go_simp
      with_reducible rfl
     rotate_left
     ·simp only [Act.put,sa_,sb_,sc_,a_8,a_7]
      rfl
     refine b_L (i:=16) (N:=some 56) (v:=?_) (a':=?_) Z42_ rfl rfl (a_1 HT_.out HW_.out (by kernel_rfl)) (fun _ _ _ h => h) (Or.inl ⟨by rfl,?_⟩) hHeld ?_ ?_
     rotate_left
     ·rintro w' ⟨s0,s1,s2⟩
      go_simp
      with_reducible rfl
     rotate_left
     ·simp only [Act.put,sa_,sb_,sc_,a_8,a_7]
      rfl
     refine b_L (i:=17) (N:=some 57) (v:=?_) (a':=?_) Z43_ rfl rfl (a_1 HT_.out HW_.out (by kernel_rfl)) (fun _ _ _ h => h) (Or.inl ⟨by rfl,?_⟩) hHeld ?_ ?_
     rotate_left
     ·rintro w' ⟨s0,s1,s2⟩
      go_simp
      with_reducible rfl
     rotate_left
     ·simp only [Act.put,sa_,sb_,sc_,a_8,a_7]
      rfl
     refine one_ (i:=15) (N:=some 55) Z46_ rfl rfl (b_K HT_.out (by kernel_rfl)) (by decide) (fun K hK => ?_)
     refine c_C Tryd.func14 (by kernel_rfl) rfl #[.agg #[.slice Ao27 t368.length co27],.agg #[.slice Ao29 t372.length co29]] (by rfl) rfl rfl (by (try simp only [List.map_toArray,List.map_cons,List.map_nil]);first|done|rfl|(simp only [List.length_drop,List.length_take];rfl)) ?_
     with_reducible refine (a_H.calls k1 _ _ t368 _ _ t372 t379 _ ?side1 ?side2 ?side3 ?side4 A40.out).mono ?_
     (case side1 => repeat (first|exact (Kd.a_w a_S.out).2.2|(with_reducible refine Kd.a_M ?_ _)|(with_reducible refine Kd.a_N ?_ _)|(with_reducible refine Kd.a_2 ?_)))
     (case side2 => exact (Kd.a_w a_S.out).2.1)
     (case side3 => repeat (first|exact (Kd.a_w a_9.out).2.2|(with_reducible refine Kd.a_M ?_ _)|(with_reducible refine Kd.a_N ?_ _)|(with_reducible refine Kd.a_2 ?_)))
     (case side4 => exact (Kd.a_w a_9.out).2.1)
     rintro e w49 ⟨rfl,hb⟩
     refine ⟨_,rfl,?_⟩
     replace a_S:=a_b.mk (Kd.a_B (rup_ a_S.out) hb)
     replace a_9:=a_b.mk (Kd.a_B (rup_ a_9.out) hb)
     replace a_x:=a_b.mk (a_i (bup_ a_x.out) hb)
     replace a_z:=a_b.mk (a_i (bup_ a_z.out) hb)
     replace a_C:=a_b.mk (a_i (bup_ a_C.out) hb)
     replace HB:=a_b.mk (a_m (by repeat (first|(with_reducible first|exact HB.out|apply a_f|apply a_c|apply a_e|refine a_d ?_ a_R.out|refine a_d ?_ a_Y.out|refine a_d ?_ a_Z.out)|exact HB.out)) hb)
     (try clear hb)
     (try clear hb2)
     (try clear hk)
     (try clear hi)
     refine hK.out _ _ ⟨(a_h a_z.out 0).trans rfl,(a_h a_C.out 0).trans rfl,(a_h a_x.out 0).trans rfl⟩ (fun hHeld => ?_)
     clear hK K
     refine b_i (a':=?_) ?_ ?_
     rotate_left
     ·show Act.put _ (some 55) _ = _
      simp only [Act.put,sa_,sb_,sc_,a_8,a_7]
      rfl
     refine one_ (i:=18) (N:=some 58) Z47_ rfl rfl (b_K HT_.out (by kernel_rfl)) (by decide) (fun K hK => ?_)
     refine c_C Tryd.func24 (by kernel_rfl) rfl #[.agg #[.slice Ao27 t368.length co27],.agg #[.slice Ao29 t372.length co29]] (by rfl) rfl rfl (by (try simp only [List.map_toArray,List.map_cons,List.map_nil]);first|done|rfl|(simp only [List.length_drop,List.length_take];rfl)) ?_
     with_reducible refine (a_o.calls k1 _ _ t368 _ _ t372 t380 _ ?side1 ?side2 ?side3 ?side4 A41.out).mono ?_
     (case side1 => repeat (first|exact (Kd.a_w a_S.out).2.2|(with_reducible refine Kd.a_M ?_ _)|(with_reducible refine Kd.a_N ?_ _)|(with_reducible refine Kd.a_2 ?_)))
     (case side2 => exact (Kd.a_w a_S.out).2.1)
     (case side3 => repeat (first|exact (Kd.a_w a_9.out).2.2|(with_reducible refine Kd.a_M ?_ _)|(with_reducible refine Kd.a_N ?_ _)|(with_reducible refine Kd.a_2 ?_)))
     (case side4 => exact (Kd.a_w a_9.out).2.1)
     rintro e w50 ⟨rfl,hb⟩
     refine ⟨_,rfl,?_⟩
     replace a_S:=a_b.mk (Kd.a_B (rup_ a_S.out) hb)
     replace a_9:=a_b.mk (Kd.a_B (rup_ a_9.out) hb)
     replace a_x:=a_b.mk (a_i (bup_ a_x.out) hb)
     replace a_z:=a_b.mk (a_i (bup_ a_z.out) hb)
     replace a_C:=a_b.mk (a_i (bup_ a_C.out) hb)
     replace HB:=a_b.mk (a_m (by repeat (first|(with_reducible first|exact HB.out|apply a_f|apply a_c|apply a_e|refine a_d ?_ a_R.out|refine a_d ?_ a_Y.out|refine a_d ?_ a_Z.out)|exact HB.out)) hb)
     (try clear hb)
     (try clear hb2)
     (try clear hk)
     (try clear hi)
     refine hK.out _ _ ⟨(a_h a_z.out 0).trans rfl,(a_h a_C.out 0).trans rfl,(a_h a_x.out 0).trans rfl⟩ (fun hHeld => ?_)
     clear hK K
     refine b_i (a':=?_) ?_ ?_
     rotate_left
     ·show Act.put _ (some 58) _ = _
      simp only [Act.put,sa_,sb_,sc_,a_8,a_7]
      rfl
     refine pt_ 19 (some 59) Z48_ HT_ ?_
     refine pt_ 20 (some 60) Z49_ HT_ ?_
     refine pt_ 21 (some 61) Z50_ HT_ ?_
     refine b_L (i:=22) (N:=some 62) (v:=?_) (a':=?_) Z51_ rfl rfl (a_1 HT_.out HW_.out (by kernel_rfl)) (fun _ _ _ h => h) (Or.inl ⟨by rfl,?_⟩) hHeld ?_ ?_
     rotate_left
     ·rintro w' ⟨s0,s1,s2⟩
      go_simp
      with_reducible rfl
     rotate_left
     ·simp only [Act.put,sa_,sb_,sc_,a_8,a_7]
      rfl
     refine b_L (i:=23) (N:=some 63) (v:=?_) (a':=?_) Z52_ rfl rfl (a_1 HT_.out HW_.out (by kernel_rfl)) (fun _ _ _ h => h) (Or.inl ⟨by rfl,?_⟩) hHeld ?_ ?_
     rotate_left
     ·rintro w' ⟨s0,s1,s2⟩
      go_simp
      with_reducible rfl
     rotate_left
     ·simp only [Act.put,sa_,sb_,sc_,a_8,a_7]
      rfl
     refine one_ (i:=24) (N:=some 64) Z53_ rfl rfl (b_K HT_.out (by kernel_rfl)) (by decide) (fun K hK => ?_)
     refine c_C Tryd.func11 (by kernel_rfl) rfl #[.agg #[.slice A366_0 ((a_E l0 x23_1).f0).length c366_0]] (by rfl) rfl rfl (by (try simp only [List.map_toArray,List.map_cons,List.map_nil]);first|done|rfl|(simp only [List.length_drop,List.length_take];rfl)) ?_
     with_reducible refine (a_u.calls _ _ ((a_E l0 x23_1).f0) t381 _ ?side1 ?side2 A46.out).mono ?_
     (case side1 => repeat (first|exact (Kd.a_5 d_m.out HB.out)|(with_reducible refine Kd.a_M ?_ _)|(with_reducible refine Kd.a_N ?_ _)|(with_reducible refine Kd.a_2 ?_)))
     (case side2 => exact d_l.out)
     rintro e w51 ⟨v382,rfl,ho0,hb⟩
     refine ⟨_,rfl,?_⟩
     have g_L:=a_b.mk (Kd.b_v (Kd.d_N (Kd.d_N ho0 (Kd.R_lt (rup_ a_S.out))) (Kd.R_lt (rup_ a_9.out))) (a_g (by repeat (first|(with_reducible first|exact HB.out|apply a_f|apply a_c|apply a_e|refine a_d ?_ a_R.out|refine a_d ?_ a_Y.out|refine a_d ?_ a_Z.out)|exact HB.out))))
     replace a_S:=a_b.mk (Kd.c_N (rup_ a_S.out) (Kd.d_M ho0) hb)
     replace a_9:=a_b.mk (Kd.c_N (rup_ a_9.out) (Kd.d_M ho0) hb)
     replace a_x:=a_b.mk (a_i (bup_ a_x.out) hb)
     replace a_z:=a_b.mk (a_i (bup_ a_z.out) hb)
     replace a_C:=a_b.mk (a_i (bup_ a_C.out) hb)
     replace HB:=a_b.mk (a_m (by repeat (first|(with_reducible first|exact HB.out|apply a_f|apply a_c|apply a_e|refine a_d ?_ a_R.out|refine a_d ?_ a_Y.out|refine a_d ?_ a_Z.out)|exact HB.out)) hb)
     (try clear hb)
     (try clear hb2)
     (try clear hk)
     (try clear hi)
     (try clear ho0)
     obtain ⟨Ao52,co52,eo52⟩:=Kd.b_5 g_L.out
     (first|subst eo52|(injection eo52 with f1_ f2_ f3_;have f4_:=f1_.symm;have f5_:=f3_.symm;clear f1_ f2_ f3_;subst f4_;subst f5_))
     refine hK.out _ _ ⟨(a_h a_z.out 0).trans rfl,(a_h a_C.out 0).trans rfl,(a_h a_x.out 0).trans rfl⟩ (fun hHeld => ?_)
     clear hK K
     refine b_i (a':=?_) ?_ ?_
     rotate_left
     ·show Act.put _ (some 64) _ = _
      simp only [Act.put,sa_,sb_,sc_,a_8,a_7]
      rfl
     refine one_ (i:=25) (N:=some 65) Z54_ rfl rfl (b_K HT_.out (by kernel_rfl)) (by decide) (fun K hK => ?_)
     refine c_C Tryd.func14 (by kernel_rfl) rfl #[.agg #[.slice Ao27 t368.length co27],.agg #[.slice Ao52 t381.length co52]] (by rfl) rfl rfl (by (try simp only [List.map_toArray,List.map_cons,List.map_nil]);first|done|rfl|(simp only [List.length_drop,List.length_take];rfl)) ?_
     with_reducible refine (a_H.calls k1 _ _ t368 _ _ t381 t384 _ ?side1 ?side2 ?side3 ?side4 A47.out).mono ?_
     (case side1 => repeat (first|exact (Kd.a_w a_S.out).2.2|(with_reducible refine Kd.a_M ?_ _)|(with_reducible refine Kd.a_N ?_ _)|(with_reducible refine Kd.a_2 ?_)))
     (case side2 => exact (Kd.a_w a_S.out).2.1)
     (case side3 => repeat (first|exact (Kd.a_w g_L.out).2.2|(with_reducible refine Kd.a_M ?_ _)|(with_reducible refine Kd.a_N ?_ _)|(with_reducible refine Kd.a_2 ?_)))
     (case side4 => exact (Kd.a_w g_L.out).2.1)
     rintro e w53 ⟨rfl,hb⟩
     refine ⟨_,rfl,?_⟩
     replace a_S:=a_b.mk (Kd.a_B (rup_ a_S.out) hb)
     replace a_9:=a_b.mk (Kd.a_B (rup_ a_9.out) hb)
     replace g_L:=a_b.mk (Kd.a_B (rup_ g_L.out) hb)
     replace a_x:=a_b.mk (a_i (bup_ a_x.out) hb)
     replace a_z:=a_b.mk (a_i (bup_ a_z.out) hb)
     replace a_C:=a_b.mk (a_i (bup_ a_C.out) hb)
     replace HB:=a_b.mk (a_m (by repeat (first|(with_reducible first|exact HB.out|apply a_f|apply a_c|apply a_e|refine a_d ?_ a_R.out|refine a_d ?_ a_Y.out|refine a_d ?_ a_Z.out)|exact HB.out)) hb)
     (try clear hb)
     (try clear hb2)
     (try clear hk)
     (try clear hi)
     refine hK.out _ _ ⟨(a_h a_z.out 0).trans rfl,(a_h a_C.out 0).trans rfl,(a_h a_x.out 0).trans rfl⟩ (fun hHeld => ?_)
     clear hK K
     refine b_i (a':=?_) ?_ ?_
     rotate_left
     ·show Act.put _ (some 65) _ = _
      simp only [Act.put,sa_,sb_,sc_,a_8,a_7]
      rfl
     refine pt_ 26 (some 66) Z55_ HT_ ?_
     refine pt_ 27 (some 67) Z56_ HT_ ?_
     refine c_5 (c_i HT_.out (by kernel_rfl)) ?_
     try go_wp2
     go_meet
     case rel => exact ⟨_,(!t384),(by first|rfl|(simp;done)|(simp [*];done)),H',⟨by have:=HK1.out;first|omega|exact Nat.le_refl _⟩,⟨by (with_reducible repeat (first|apply Kd.a_I|apply Kd.a_J|apply Kd.a_F));exact Kd.a_X a_S.out (fun _ hk => hk.1)⟩,⟨by (with_reducible repeat (first|apply Kd.a_I|apply Kd.a_J|apply Kd.a_F));exact Kd.a_X a_9.out (fun _ hk => hk.1)⟩,⟨by (with_reducible repeat (first|refine a_l ?_ _|refine a_j ?_|refine a_k ?_ _));exact a_x.out⟩,⟨by (with_reducible repeat (first|refine a_l ?_ _|refine a_j ?_|refine a_k ?_ _));exact a_z.out⟩,⟨by (with_reducible repeat (first|refine a_l ?_ _|refine a_j ?_|refine a_k ?_ _));exact a_C.out⟩,⟨by repeat (first|(with_reducible first|exact HB.out|apply a_f|apply a_c|apply a_e|refine a_d ?_ a_R.out|refine a_d ?_ a_Y.out|refine a_d ?_ a_Z.out)|exact HB.out)⟩⟩
    replace c39:=Bool.eq_false_iff.mpr c39
    subst c39
    have H1 : (if t378 = 160 then ((a_H.f k1 t368 t372).bind fun t385 => ((a_o.f k1 t368 t372).bind fun t386 => (if (t385 != t386) = true then (a_a.j1 k1 l0 l1 false l0 (l0.length : Int) x23_1 true t368) else ((a_u.f ((a_E l0 x23_1).f0)).bind fun t387 => ((a_H.f k1 t368 t387).bind fun t390 => (a_a.j1 k1 l0 l1 false l0 (l0.length : Int) x23_1 (!t390) t368)))))) else (a_a.j1 k1 l0 l1 false l0 (l0.length : Int) x23_1 true t368)) = some r:=by rw [if_neg (show ¬ (false = true) by decide)] at H;exact H
    clear H
    have H:=H1
    clear H1
    by_cases c54 : t378 = 160
    rotate_left
    ·rw [if_neg c54] at H
     have c54b0 : (t378 == 160) = false:=beq_eq_false_iff_ne.mpr c54
     have c54b1 : (t378 != 160) = true:=bne_iff_ne.mpr c54
     have H':=a_b.mk H
     clear H
     try go_wp2
     replace a_S:=a_b.mk (Kd.a_F a_S.out)
     replace a_9:=a_b.mk (Kd.a_F a_9.out)
     replace a_x:=a_b.mk (a_j a_x.out)
     replace a_z:=a_b.mk (a_j a_z.out)
     replace a_C:=a_b.mk (a_j a_C.out)
     replace HB:=a_b.mk (a_e HB.out)
     refine c_D (n:=28) (S:=fun w' => True) (ds:=[]) Z0_ (by kernel_rfl) rfl rfl trivial (fun hHeld => ?_);refine b_G a_a.g_F a_a.e_C (fun HT_ HW_ => ?_)
     generalize w36.drew = w69 at a_S a_9 a_x a_z a_C HB hHeld ⊢
     refine pt_ 0 (some 40) Z2_ HT_ ?_
     refine pt_ 1 (some 41) Z5_ HT_ ?_
     refine pt_ 2 (some 42) Z8_ HT_ ?_
     refine pt_ 3 (some 43) Z9_ HT_ ?_
     refine pt_ 4 (some 44) Z11_ HT_ ?_
     refine pt_ 5 (some 45) Z16_ HT_ ?_
     refine pt_ 6 (some 46) Z19_ HT_ ?_
     refine pt_ 7 (some 47) Z24_ HT_ ?_
     refine pt_ 8 (some 48) Z27_ HT_ ?_
     refine pt_ 9 (some 49) Z30_ HT_ ?_
     refine pt_ 10 (some 50) Z32_ HT_ ?_
     refine pt_ 11 (some 51) Z34_ HT_ ?_
     refine pt_ 12 (some 52) Z37_ HT_ ?_
     refine pk_ 13 (some 53) Z39_ HT_ ?_
     refine pk_ 14 (some 54) Z41_ HT_ ?_
     refine pk_ 15 (some 55) Z44_ HT_ ?_
     refine pk_ 16 (some 56) Z45_ HT_ ?_
     refine pk_ 17 (some 57) Z46_ HT_ ?_
     refine pk_ 18 (some 58) Z47_ HT_ ?_
     refine pk_ 19 (some 59) Z48_ HT_ ?_
     refine pt_ 20 (some 60) Z49_ HT_ ?_
     refine pt_ 21 (some 61) Z50_ HT_ ?_
     refine pk_ 22 (some 62) Z51_ HT_ ?_
     refine pk_ 23 (some 63) Z52_ HT_ ?_
     refine pk_ 24 (some 64) Z53_ HT_ ?_
     refine pk_ 25 (some 65) Z54_ HT_ ?_
     refine pk_ 26 (some 66) Z55_ HT_ ?_
     refine pt_ 27 (some 67) Z56_ HT_ ?_
     refine c_5 (c_i HT_.out (by kernel_rfl)) ?_
     try go_wp2
     go_meet
     case rel => exact ⟨_,(true),(by first|rfl|(simp;done)|(simp [*];done)),H',⟨by have:=HK1.out;first|omega|exact Nat.le_refl _⟩,⟨by (with_reducible repeat (first|apply Kd.a_I|apply Kd.a_J|apply Kd.a_F));exact a_S.out⟩,⟨by (with_reducible repeat (first|apply Kd.a_I|apply Kd.a_J|apply Kd.a_F));exact a_9.out⟩,⟨by (with_reducible repeat (first|refine a_l ?_ _|refine a_j ?_|refine a_k ?_ _));exact a_x.out⟩,⟨by (with_reducible repeat (first|refine a_l ?_ _|refine a_j ?_|refine a_k ?_ _));exact a_z.out⟩,⟨by (with_reducible repeat (first|refine a_l ?_ _|refine a_j ?_|refine a_k ?_ _));exact a_C.out⟩,⟨by repeat (first|(with_reducible first|exact HB.out|apply a_f|apply a_c|apply a_e|refine a_d ?_ a_R.out|refine a_d ?_ a_Y.out|refine a_d ?_ a_Z.out)|exact HB.out)⟩⟩
    rw [if_pos c54] at H
    have c54b0 : (t378 == 160) = true:=beq_iff_eq.mpr c54
    have c54b1 : (t378 != 160) = false:=bne_eq_false_iff_eq.mpr c54
    clear c54
    replace H:=Option.bind_eq_some_iff.mp H
    obtain ⟨t385,A550,H⟩:=H
    replace H : ((a_o.f k1 t368 t372).bind fun t386 => (if (t385 != t386) = true then (a_a.j1 k1 l0 l1 false l0 (l0.length : Int) x23_1 true t368) else ((a_u.f ((a_E l0 x23_1).f0)).bind fun t387 => ((a_H.f k1 t368 t387).bind fun t390 => (a_a.j1 k1 l0 l1 false l0 (l0.length : Int) x23_1 (!t390) t368))))) = some r:=H
    have A55:=a_b.mk A550
    clear A550
    replace H:=Option.bind_eq_some_iff.mp H
    obtain ⟨t386,A560,H⟩:=H
    replace H : (if (t385 != t386) = true then (a_a.j1 k1 l0 l1 false l0 (l0.length : Int) x23_1 true t368) else ((a_u.f ((a_E l0 x23_1).f0)).bind fun t387 => ((a_H.f k1 t368 t387).bind fun t390 => (a_a.j1 k1 l0 l1 false l0 (l0.length : Int) x23_1 (!t390) t368)))) = some r:=H
    have A56:=a_b.mk A560
    clear A560
    by_cases c57 : (t385 != t386) = true
    ·rw [if_pos c57] at H
     have c57b0 : (t385 != t386) = true:=c57
     (try (have c57b1 : decide (t385 = t386) = false:=by simpa using c57))
     (try (have c57b2 : (t385 == t386) = false:=by simpa using c57))
     (try (have c57b3 : ¬ (t385 = t386):=by simpa using c57))
     clear c57
     have H':=a_b.mk H
     clear H
     try go_wp2
     replace a_S:=a_b.mk (Kd.a_F a_S.out)
     replace a_9:=a_b.mk (Kd.a_F a_9.out)
     replace a_x:=a_b.mk (a_j a_x.out)
     replace a_z:=a_b.mk (a_j a_z.out)
     replace a_C:=a_b.mk (a_j a_C.out)
     replace HB:=a_b.mk (a_e HB.out)
     refine c_D (n:=28) (S:=fun w' => w'.cell? ⟨a_U,0,none⟩ = some (.slice Ao27 t368.length co27) ∧ w'.cell? ⟨a_0,0,none⟩ = some (.slice Ao29 t372.length co29)) (ds:=[]) Z0_ (by kernel_rfl) rfl rfl ⟨(a_h a_z.out 0).trans rfl,(a_h a_C.out 0).trans rfl⟩ (fun hHeld => ?_);refine b_G a_a.g_F a_a.e_C (fun HT_ HW_ => ?_)
     generalize w36.drew = w58 at a_S a_9 a_x a_z a_C HB hHeld ⊢
     refine pt_ 0 (some 40) Z2_ HT_ ?_
     refine pt_ 1 (some 41) Z5_ HT_ ?_
     refine pt_ 2 (some 42) Z8_ HT_ ?_
     refine pt_ 3 (some 43) Z9_ HT_ ?_
     refine pt_ 4 (some 44) Z11_ HT_ ?_
     refine pt_ 5 (some 45) Z16_ HT_ ?_
     refine pt_ 6 (some 46) Z19_ HT_ ?_
     refine pt_ 7 (some 47) Z24_ HT_ ?_
     refine pt_ 8 (some 48) Z27_ HT_ ?_
     refine pt_ 9 (some 49) Z30_ HT_ ?_
     refine pt_ 10 (some 50) Z32_ HT_ ?_
     refine pt_ 11 (some 51) Z34_ HT_ ?_
     refine pt_ 12 (some 52) Z37_ HT_ ?_
     refine b_L (i:=13) (N:=some 53) (v:=?_) (a':=?_) Z39_ rfl rfl (a_1 HT_.out HW_.out (by kernel_rfl)) (fun _ _ _ h => h) (Or.inl ⟨by rfl,?_⟩) hHeld ?_ ?_
     rotate_left
     ·rintro w' ⟨s0,s1⟩
      go_simp
      with_reducible rfl
     rotate_left
     ·simp only [Act.put,sa_,sb_,sc_,a_8,a_7]
      rfl
     refine b_L (i:=14) (N:=some 54) (v:=?_) (a':=?_) Z41_ rfl rfl (a_1 HT_.out HW_.out (by kernel_rfl)) (fun _ _ _ h => h) (Or.inl ⟨by rfl,?_⟩) hHeld ?_ ?_
     rotate_left
     ·rintro w' ⟨s0,s1⟩
      go_simp
      with_reducible rfl
     rotate_left
     ·simp only [Act.put,sa_,sb_,sc_,a_8,a_7]
      rfl
     refine b_L (i:=16) (N:=some 56) (v:=?_) (a':=?_) Z42_ rfl rfl (a_1 HT_.out HW_.out (by kernel_rfl)) (fun _ _ _ h => h) (Or.inl ⟨by rfl,?_⟩) hHeld ?_ ?_
     rotate_left
     ·rintro w' ⟨s0,s1⟩
      go_simp
      with_reducible rfl
     rotate_left
     ·simp only [Act.put,sa_,sb_,sc_,a_8,a_7]
      rfl
     refine b_L (i:=17) (N:=some 57) (v:=?_) (a':=?_) Z43_ rfl rfl (a_1 HT_.out HW_.out (by kernel_rfl)) (fun _ _ _ h => h) (Or.inl ⟨by rfl,?_⟩) hHeld ?_ ?_
     rotate_left
     ·rintro w' ⟨s0,s1⟩
      go_simp
      with_reducible rfl
     rotate_left
     ·simp only [Act.put,sa_,sb_,sc_,a_8,a_7]
      rfl
     refine one_ (i:=15) (N:=some 55) Z46_ rfl rfl (b_K HT_.out (by kernel_rfl)) (by decide) (fun K hK => ?_)
     refine c_C Tryd.func14 (by kernel_rfl) rfl #[.agg #[.slice Ao27 t368.length co27],.agg #[.slice Ao29 t372.length co29]] (by rfl) rfl rfl (by (try simp only [List.map_toArray,List.map_cons,List.map_nil]);first|done|rfl|(simp only [List.length_drop,List.length_take];rfl)) ?_
     with_reducible refine (a_H.calls k1 _ _ t368 _ _ t372 t385 _ ?side1 ?side2 ?side3 ?side4 A55.out).mono ?_
     (case side1 => repeat (first|exact (Kd.a_w a_S.out).2.2|(with_reducible refine Kd.a_M ?_ _)|(with_reducible refine Kd.a_N ?_ _)|(with_reducible refine Kd.a_2 ?_)))
     (case side2 => exact (Kd.a_w a_S.out).2.1)
     (case side3 => repeat (first|exact (Kd.a_w a_9.out).2.2|(with_reducible refine Kd.a_M ?_ _)|(with_reducible refine Kd.a_N ?_ _)|(with_reducible refine Kd.a_2 ?_)))
     (case side4 => exact (Kd.a_w a_9.out).2.1)
     rintro e w59 ⟨rfl,hb⟩
     refine ⟨_,rfl,?_⟩
     replace a_S:=a_b.mk (Kd.a_B (rup_ a_S.out) hb)
     replace a_9:=a_b.mk (Kd.a_B (rup_ a_9.out) hb)
     replace a_x:=a_b.mk (a_i (bup_ a_x.out) hb)
     replace a_z:=a_b.mk (a_i (bup_ a_z.out) hb)
     replace a_C:=a_b.mk (a_i (bup_ a_C.out) hb)
     replace HB:=a_b.mk (a_m (by repeat (first|(with_reducible first|exact HB.out|apply a_f|apply a_c|apply a_e|refine a_d ?_ a_R.out|refine a_d ?_ a_Y.out|refine a_d ?_ a_Z.out)|exact HB.out)) hb)
     (try clear hb)
     (try clear hb2)
     (try clear hk)
     (try clear hi)
     refine hK.out _ _ ⟨(a_h a_z.out 0).trans rfl,(a_h a_C.out 0).trans rfl⟩ (fun hHeld => ?_)
     clear hK K
     refine b_i (a':=?_) ?_ ?_
     rotate_left
     ·show Act.put _ (some 55) _ = _
      simp only [Act.put,sa_,sb_,sc_,a_8,a_7]
      rfl
     refine one_ (i:=18) (N:=some 58) Z47_ rfl rfl (b_K HT_.out (by kernel_rfl)) (by decide) (fun K hK => ?_)
     refine c_C Tryd.func24 (by kernel_rfl) rfl #[.agg #[.slice Ao27 t368.length co27],.agg #[.slice Ao29 t372.length co29]] (by rfl) rfl rfl (by (try simp only [List.map_toArray,List.map_cons,List.map_nil]);first|done|rfl|(simp only [List.length_drop,List.length_take];rfl)) ?_
     with_reducible refine (a_o.calls k1 _ _ t368 _ _ t372 t386 _ ?side1 ?side2 ?side3 ?side4 A56.out).mono ?_
     (case side1 => repeat (first|exact (Kd.a_w a_S.out).2.2|(with_reducible refine Kd.a_M ?_ _)|(with_reducible refine Kd.a_N ?_ _)|(with_reducible refine Kd.a_2 ?_)))
     (case side2 => exact (Kd.a_w a_S.out).2.1)
     (case side3 => repeat (first|exact (Kd.a_w a_9.out).2.2|(with_reducible refine Kd.a_M ?_ _)|(with_reducible refine Kd.a_N ?_ _)|(with_reducible refine Kd.a_2 ?_)))
     (case side4 => exact (Kd.a_w a_9.out).2.1)
     rintro e w60 ⟨rfl,hb⟩
     refine ⟨_,rfl,?_⟩
     replace a_S:=a_b.mk (Kd.a_B (rup_ a_S.out) hb)
     replace a_9:=a_b.mk (Kd.a_B (rup_ a_9.out) hb)
     replace a_x:=a_b.mk (a_i (bup_ a_x.out) hb)
     replace a_z:=a_b.mk (a_i (bup_ a_z.out) hb)
     replace a_C:=a_b.mk (a_i (bup_ a_C.out) hb)
     replace HB:=a_b.mk (a_m (by repeat (first|(with_reducible first|exact HB.out|apply a_f|apply a_c|apply a_e|refine a_d ?_ a_R.out|refine a_d ?_ a_Y.out|refine a_d ?_ a_Z.out)|exact HB.out)) hb)
     (try clear hb)
     (try clear hb2)
     (try clear hk)
     (try clear hi)
     refine hK.out _ _ ⟨(a_h a_z.out 0).trans rfl,(a_h a_C.out 0).trans rfl⟩ (fun hHeld => ?_)
     clear hK K
     refine b_i (a':=?_) ?_ ?_
     rotate_left
     ·show Act.put _ (some 58) _ = _
      simp only [Act.put,sa_,sb_,sc_,a_8,a_7]
      rfl
     refine pt_ 19 (some 59) Z48_ HT_ ?_
     refine pt_ 20 (some 60) Z49_ HT_ ?_
     refine pt_ 21 (some 61) Z50_ HT_ ?_
     refine pk_ 22 (some 62) Z51_ HT_ ?_
     refine pk_ 23 (some 63) Z52_ HT_ ?_
     refine pk_ 24 (some 64) Z53_ HT_ ?_
     refine pk_ 25 (some 65) Z54_ HT_ ?_
     refine pk_ 26 (some 66) Z55_ HT_ ?_
     refine pt_ 27 (some 67) Z56_ HT_ ?_
     refine c_5 (c_i HT_.out (by kernel_rfl)) ?_
     try go_wp2
     go_meet
     case rel => exact ⟨_,(true),(by first|rfl|(simp;done)|(simp [*];done)),H',⟨by have:=HK1.out;first|omega|exact Nat.le_refl _⟩,⟨by (with_reducible repeat (first|apply Kd.a_I|apply Kd.a_J|apply Kd.a_F));exact a_S.out⟩,⟨by (with_reducible repeat (first|apply Kd.a_I|apply Kd.a_J|apply Kd.a_F));exact a_9.out⟩,⟨by (with_reducible repeat (first|refine a_l ?_ _|refine a_j ?_|refine a_k ?_ _));exact a_x.out⟩,⟨by (with_reducible repeat (first|refine a_l ?_ _|refine a_j ?_|refine a_k ?_ _));exact a_z.out⟩,⟨by (with_reducible repeat (first|refine a_l ?_ _|refine a_j ?_|refine a_k ?_ _));exact a_C.out⟩,⟨by repeat (first|(with_reducible first|exact HB.out|apply a_f|apply a_c|apply a_e|refine a_d ?_ a_R.out|refine a_d ?_ a_Y.out|refine a_d ?_ a_Z.out)|exact HB.out)⟩⟩
    rw [if_neg c57] at H
    have c57b0 : (t385 != t386) = false:=by simpa using c57
    (try (have c57b1 : decide (t385 = t386) = true:=by simpa using c57))
    (try (have c57b2 : (t385 == t386) = true:=by simpa using c57))
    clear c57
    replace H:=Option.bind_eq_some_iff.mp H
    obtain ⟨t387,A610,H⟩:=H
    replace H : ((a_H.f k1 t368 t387).bind fun t390 => (a_a.j1 k1 l0 l1 false l0 (l0.length : Int) x23_1 (!t390) t368)) = some r:=H
    have A61:=a_b.mk A610
    clear A610
    replace H:=Option.bind_eq_some_iff.mp H
    obtain ⟨t390,A620,H⟩:=H
    replace H : (a_a.j1 k1 l0 l1 false l0 (l0.length : Int) x23_1 (!t390) t368) = some r:=H
    have A62:=a_b.mk A620
    clear A620
    have H':=a_b.mk H
    clear H
    try go_wp2
    replace a_S:=a_b.mk (Kd.a_F a_S.out)
    replace a_9:=a_b.mk (Kd.a_F a_9.out)
    replace a_x:=a_b.mk (a_j a_x.out)
    replace a_z:=a_b.mk (a_j a_z.out)
    replace a_C:=a_b.mk (a_j a_C.out)
    replace HB:=a_b.mk (a_e HB.out)
    refine c_D (n:=28) (S:=fun w' => w'.cell? ⟨a_U,0,none⟩ = some (.slice Ao27 t368.length co27) ∧ w'.cell? ⟨a_0,0,none⟩ = some (.slice Ao29 t372.length co29) ∧ w'.cell? ⟨a_P,0,none⟩ = some (.slice A366_0 ((a_E l0 x23_1).f0).length c366_0)) (ds:=[]) Z0_ (by kernel_rfl) rfl rfl ⟨(a_h a_z.out 0).trans rfl,(a_h a_C.out 0).trans rfl,(a_h a_x.out 0).trans rfl⟩ (fun hHeld => ?_);refine b_G a_a.g_F a_a.e_C (fun HT_ HW_ => ?_)
    generalize w36.drew = w63 at a_S a_9 a_x a_z a_C HB hHeld ⊢
    refine pt_ 0 (some 40) Z2_ HT_ ?_
    refine pt_ 1 (some 41) Z5_ HT_ ?_
    refine pt_ 2 (some 42) Z8_ HT_ ?_
    refine pt_ 3 (some 43) Z9_ HT_ ?_
    refine pt_ 4 (some 44) Z11_ HT_ ?_
    refine pt_ 5 (some 45) Z16_ HT_ ?_
    refine pt_ 6 (some 46) Z19_ HT_ ?_
    refine pt_ 7 (some 47) Z24_ HT_ ?_
    refine pt_ 8 (some 48) Z27_ HT_ ?_
    refine pt_ 9 (some 49) Z30_ HT_ ?_
    refine pt_ 10 (some 50) Z32_ HT_ ?_
    refine pt_ 11 (some 51) Z34_ HT_ ?_
    refine pt_ 12 (some 52) Z37_ HT_ ?_
    refine b_L (i:=13) (N:=some 53) (v:=?_) (a':=?_) Z39_ rfl rfl (a_1 HT_.out HW_.out (by kernel_rfl)) (fun _ _ _ h => h) (Or.inl ⟨by rfl,?_⟩) hHeld ?_ ?_
    rotate_left
    ·rintro w' ⟨s0,s1,s2⟩
     go_simp
     with_reducible rfl
    rotate_left
    ·simp only [Act.put,sa_,sb_,sc_,a_8,a_7]
     rfl
    refine b_L (i:=14) (N:=some 54) (v:=?_) (a':=?_) Z41_ rfl rfl (a_1 HT_.out HW_.out (by kernel_rfl)) (fun _ _ _ h => h) (Or.inl ⟨by rfl,?_⟩) hHeld ?_ ?_
    rotate_left
    ·rintro w' ⟨s0,s1,s2⟩
     go_simp
     with_reducible rfl
    rotate_left
    ·simp only [Act.put,sa_,sb_,sc_,a_8,a_7]
     rfl
    refine b_L (i:=16) (N:=some 56) (v:=?_) (a':=?_) Z42_ rfl rfl (a_1 HT_.out HW_.out (by kernel_rfl)) (fun _ _ _ h => h) (Or.inl ⟨by rfl,?_⟩) hHeld ?_ ?_
    rotate_left
    ·rintro w' ⟨s0,s1,s2⟩
     go_simp
     with_reducible rfl
    rotate_left
    ·simp only [Act.put,sa_,sb_,sc_,a_8,a_7]
     rfl
    refine b_L (i:=17) (N:=some 57) (v:=?_) (a':=?_) Z43_ rfl rfl (a_1 HT_.out HW_.out (by kernel_rfl)) (fun _ _ _ h => h) (Or.inl ⟨by rfl,?_⟩) hHeld ?_ ?_
    rotate_left
    ·rintro w' ⟨s0,s1,s2⟩
     go_simp
     with_reducible rfl
    rotate_left
    ·simp only [Act.put,sa_,sb_,sc_,a_8,a_7]
     rfl
    refine one_ (i:=15) (N:=some 55) Z46_ rfl rfl (b_K HT_.out (by kernel_rfl)) (by decide) (fun K hK => ?_)
    refine c_C Tryd.func14 (by kernel_rfl) rfl #[.agg #[.slice Ao27 t368.length co27],.agg #[.slice Ao29 t372.length co29]] (by rfl) rfl rfl (by (try simp only [List.map_toArray,List.map_cons,List.map_nil]);first|done|rfl|(simp only [List.length_drop,List.length_take];rfl)) ?_
    with_reducible refine (a_H.calls k1 _ _ t368 _ _ t372 t385 _ ?side1 ?side2 ?side3 ?side4 A55.out).mono ?_
    (case side1 => repeat (first|exact (Kd.a_w a_S.out).2.2|(with_reducible refine Kd.a_M ?_ _)|(with_reducible refine Kd.a_N ?_ _)|(with_reducible refine Kd.a_2 ?_)))
    (case side2 => exact (Kd.a_w a_S.out).2.1)
    (case side3 => repeat (first|exact (Kd.a_w a_9.out).2.2|(with_reducible refine Kd.a_M ?_ _)|(with_reducible refine Kd.a_N ?_ _)|(with_reducible refine Kd.a_2 ?_)))
    (case side4 => exact (Kd.a_w a_9.out).2.1)
    rintro e w64 ⟨rfl,hb⟩
    refine ⟨_,rfl,?_⟩
    replace a_S:=a_b.mk (Kd.a_B (rup_ a_S.out) hb)
    replace a_9:=a_b.mk (Kd.a_B (rup_ a_9.out) hb)
    replace a_x:=a_b.mk (a_i (bup_ a_x.out) hb)
    replace a_z:=a_b.mk (a_i (bup_ a_z.out) hb)
    replace a_C:=a_b.mk (a_i (bup_ a_C.out) hb)
    replace HB:=a_b.mk (a_m (by repeat (first|(with_reducible first|exact HB.out|apply a_f|apply a_c|apply a_e|refine a_d ?_ a_R.out|refine a_d ?_ a_Y.out|refine a_d ?_ a_Z.out)|exact HB.out)) hb)
    (try clear hb)
    (try clear hb2)
    (try clear hk)
    (try clear hi)
    refine hK.out _ _ ⟨(a_h a_z.out 0).trans rfl,(a_h a_C.out 0).trans rfl,(a_h a_x.out 0).trans rfl⟩ (fun hHeld => ?_)
    clear hK K
    refine b_i (a':=?_) ?_ ?_
    rotate_left
    ·show Act.put _ (some 55) _ = _
     simp only [Act.put,sa_,sb_,sc_,a_8,a_7]
     rfl
    refine one_ (i:=18) (N:=some 58) Z47_ rfl rfl (b_K HT_.out (by kernel_rfl)) (by decide) (fun K hK => ?_)
    refine c_C Tryd.func24 (by kernel_rfl) rfl #[.agg #[.slice Ao27 t368.length co27],.agg #[.slice Ao29 t372.length co29]] (by rfl) rfl rfl (by (try simp only [List.map_toArray,List.map_cons,List.map_nil]);first|done|rfl|(simp only [List.length_drop,List.length_take];rfl)) ?_
    with_reducible refine (a_o.calls k1 _ _ t368 _ _ t372 t386 _ ?side1 ?side2 ?side3 ?side4 A56.out).mono ?_
    (case side1 => repeat (first|exact (Kd.a_w a_S.out).2.2|(with_reducible refine Kd.a_M ?_ _)|(with_reducible refine Kd.a_N ?_ _)|(with_reducible refine Kd.a_2 ?_)))
    (case side2 => exact (Kd.a_w a_S.out).2.1)
    (case side3 => repeat (first|exact (Kd.a_w a_9.out).2.2|(with_reducible refine Kd.a_M ?_ _)|(with_reducible refine Kd.a_N ?_ _)|(with_reducible refine Kd.a_2 ?_)))
    (case side4 => exact (Kd.a_w a_9.out).2.1)
    rintro e w65 ⟨rfl,hb⟩
    refine ⟨_,rfl,?_⟩
    replace a_S:=a_b.mk (Kd.a_B (rup_ a_S.out) hb)
    replace a_9:=a_b.mk (Kd.a_B (rup_ a_9.out) hb)
    replace a_x:=a_b.mk (a_i (bup_ a_x.out) hb)
    replace a_z:=a_b.mk (a_i (bup_ a_z.out) hb)
    replace a_C:=a_b.mk (a_i (bup_ a_C.out) hb)
    replace HB:=a_b.mk (a_m (by repeat (first|(with_reducible first|exact HB.out|apply a_f|apply a_c|apply a_e|refine a_d ?_ a_R.out|refine a_d ?_ a_Y.out|refine a_d ?_ a_Z.out)|exact HB.out)) hb)
    (try clear hb)
    (try clear hb2)
    (try clear hk)
    (try clear hi)
    refine hK.out _ _ ⟨(a_h a_z.out 0).trans rfl,(a_h a_C.out 0).trans rfl,(a_h a_x.out 0).trans rfl⟩ (fun hHeld => ?_)
    clear hK K
    refine b_i (a':=?_) ?_ ?_
    rotate_left
    ·show Act.put _ (some 58) _ = _
     simp only [Act.put,sa_,sb_,sc_,a_8,a_7]
     rfl
    refine pt_ 19 (some 59) Z48_ HT_ ?_
    refine pt_ 20 (some 60) Z49_ HT_ ?_
    refine pt_ 21 (some 61) Z50_ HT_ ?_
    refine b_L (i:=22) (N:=some 62) (v:=?_) (a':=?_) Z51_ rfl rfl (a_1 HT_.out HW_.out (by kernel_rfl)) (fun _ _ _ h => h) (Or.inl ⟨by rfl,?_⟩) hHeld ?_ ?_
    rotate_left
    ·rintro w' ⟨s0,s1,s2⟩
     go_simp
     with_reducible rfl
    rotate_left
    ·simp only [Act.put,sa_,sb_,sc_,a_8,a_7]
     rfl
    refine b_L (i:=23) (N:=some 63) (v:=?_) (a':=?_) Z52_ rfl rfl (a_1 HT_.out HW_.out (by kernel_rfl)) (fun _ _ _ h => h) (Or.inl ⟨by rfl,?_⟩) hHeld ?_ ?_
    rotate_left
    ·rintro w' ⟨s0,s1,s2⟩
     go_simp
     with_reducible rfl
    rotate_left
    ·simp only [Act.put,sa_,sb_,sc_,a_8,a_7]
     rfl
    refine one_ (i:=24) (N:=some 64) Z53_ rfl rfl (b_K HT_.out (by kernel_rfl)) (by decide) (fun K hK => ?_)
    refine c_C Tryd.func11 (by kernel_rfl) rfl #[.agg #[.slice A366_0 ((a_E l0 x23_1).f0).length c366_0]] (by rfl) rfl rfl (by (try simp only [List.map_toArray,List.map_cons,List.map_nil]);first|done|rfl|(simp only [List.length_drop,List.length_take];rfl)) ?_
    with_reducible refine (a_u.calls _ _ ((a_E l0 x23_1).f0) t387 _ ?side1 ?side2 A61.out).mono ?_
    (case side1 => repeat (first|exact (Kd.a_5 d_m.out HB.out)|(with_reducible refine Kd.a_M ?_ _)|(with_reducible refine Kd.a_N ?_ _)|(with_reducible refine Kd.a_2 ?_)))
    (case side2 => exact d_l.out)
    rintro e w66 ⟨v388,rfl,ho0,hb⟩
    refine ⟨_,rfl,?_⟩
    have g_M:=a_b.mk (Kd.b_v (Kd.d_N (Kd.d_N ho0 (Kd.R_lt (rup_ a_S.out))) (Kd.R_lt (rup_ a_9.out))) (a_g (by repeat (first|(with_reducible first|exact HB.out|apply a_f|apply a_c|apply a_e|refine a_d ?_ a_R.out|refine a_d ?_ a_Y.out|refine a_d ?_ a_Z.out)|exact HB.out))))
    replace a_S:=a_b.mk (Kd.c_N (rup_ a_S.out) (Kd.d_M ho0) hb)
    replace a_9:=a_b.mk (Kd.c_N (rup_ a_9.out) (Kd.d_M ho0) hb)
    replace a_x:=a_b.mk (a_i (bup_ a_x.out) hb)
    replace a_z:=a_b.mk (a_i (bup_ a_z.out) hb)
    replace a_C:=a_b.mk (a_i (bup_ a_C.out) hb)
    replace HB:=a_b.mk (a_m (by repeat (first|(with_reducible first|exact HB.out|apply a_f|apply a_c|apply a_e|refine a_d ?_ a_R.out|refine a_d ?_ a_Y.out|refine a_d ?_ a_Z.out)|exact HB.out)) hb)
    (try clear hb)
    (try clear hb2)
    (try clear hk)
    (try clear hi)
    (try clear ho0)
    obtain ⟨Ao67,co67,eo67⟩:=Kd.b_5 g_M.out
    (first|subst eo67|(injection eo67 with f1_ f2_ f3_;have f4_:=f1_.symm;have f5_:=f3_.symm;clear f1_ f2_ f3_;subst f4_;subst f5_))
    refine hK.out _ _ ⟨(a_h a_z.out 0).trans rfl,(a_h a_C.out 0).trans rfl,(a_h a_x.out 0).trans rfl⟩ (fun hHeld => ?_)
    clear hK K
    refine b_i (a':=?_) ?_ ?_
    rotate_left
    ·show Act.put _ (some 64) _ = _
     simp only [Act.put,sa_,sb_,sc_,a_8,a_7]
     rfl
    refine one_ (i:=25) (N:=some 65) Z54_ rfl rfl (b_K HT_.out (by kernel_rfl)) (by decide) (fun K hK => ?_)
    refine c_C Tryd.func14 (by kernel_rfl) rfl #[.agg #[.slice Ao27 t368.length co27],.agg #[.slice Ao67 t387.length co67]] (by rfl) rfl rfl (by (try simp only [List.map_toArray,List.map_cons,List.map_nil]);first|done|rfl|(simp only [List.length_drop,List.length_take];rfl)) ?_
    with_reducible refine (a_H.calls k1 _ _ t368 _ _ t387 t390 _ ?side1 ?side2 ?side3 ?side4 A62.out).mono ?_
    (case side1 => repeat (first|exact (Kd.a_w a_S.out).2.2|(with_reducible refine Kd.a_M ?_ _)|(with_reducible refine Kd.a_N ?_ _)|(with_reducible refine Kd.a_2 ?_)))
    (case side2 => exact (Kd.a_w a_S.out).2.1)
    (case side3 => repeat (first|exact (Kd.a_w g_M.out).2.2|(with_reducible refine Kd.a_M ?_ _)|(with_reducible refine Kd.a_N ?_ _)|(with_reducible refine Kd.a_2 ?_)))
    (case side4 => exact (Kd.a_w g_M.out).2.1)
    rintro e w68 ⟨rfl,hb⟩
    refine ⟨_,rfl,?_⟩
    replace a_S:=a_b.mk (Kd.a_B (rup_ a_S.out) hb)
    replace a_9:=a_b.mk (Kd.a_B (rup_ a_9.out) hb)
    replace g_M:=a_b.mk (Kd.a_B (rup_ g_M.out) hb)
    replace a_x:=a_b.mk (a_i (bup_ a_x.out) hb)
    replace a_z:=a_b.mk (a_i (bup_ a_z.out) hb)
    replace a_C:=a_b.mk (a_i (bup_ a_C.out) hb)
    replace HB:=a_b.mk (a_m (by repeat (first|(with_reducible first|exact HB.out|apply a_f|apply a_c|apply a_e|refine a_d ?_ a_R.out|refine a_d ?_ a_Y.out|refine a_d ?_ a_Z.out)|exact HB.out)) hb)
    (try clear hb)
    (try clear hb2)
    (try clear hk)
    (try clear hi)
    refine hK.out _ _ ⟨(a_h a_z.out 0).trans rfl,(a_h a_C.out 0).trans rfl,(a_h a_x.out 0).trans rfl⟩ (fun hHeld => ?_)
    clear hK K
    refine b_i (a':=?_) ?_ ?_
    rotate_left
    ·show Act.put _ (some 65) _ = _
     simp only [Act.put,sa_,sb_,sc_,a_8,a_7]
     rfl
    refine pt_ 26 (some 66) Z55_ HT_ ?_
    refine pt_ 27 (some 67) Z56_ HT_ ?_
    refine c_5 (c_i HT_.out (by kernel_rfl)) ?_
    try go_wp2
    go_meet
    case rel => exact ⟨_,(!t390),(by first|rfl|(simp;done)|(simp [*];done)),H',⟨by have:=HK1.out;first|omega|exact Nat.le_refl _⟩,⟨by (with_reducible repeat (first|apply Kd.a_I|apply Kd.a_J|apply Kd.a_F));exact Kd.a_X a_S.out (fun _ hk => hk.1)⟩,⟨by (with_reducible repeat (first|apply Kd.a_I|apply Kd.a_J|apply Kd.a_F));exact Kd.a_X a_9.out (fun _ hk => hk.1)⟩,⟨by (with_reducible repeat (first|refine a_l ?_ _|refine a_j ?_|refine a_k ?_ _));exact a_x.out⟩,⟨by (with_reducible repeat (first|refine a_l ?_ _|refine a_j ?_|refine a_k ?_ _));exact a_z.out⟩,⟨by (with_reducible repeat (first|refine a_l ?_ _|refine a_j ?_|refine a_k ?_ _));exact a_C.out⟩,⟨by repeat (first|(with_reducible first|exact HB.out|apply a_f|apply a_c|apply a_e|refine a_d ?_ a_R.out|refine a_d ?_ a_Y.out|refine a_d ?_ a_Z.out)|exact HB.out)⟩⟩
   case rest =>
    clear HC17
    try clear c1
    try clear c2
    try clear p2
    try clear c3
    try clear c5
    try clear c11
    try clear c14
    try clear c24
    try clear c36
    try clear c54
    try clear c54b0
    try clear c54b1
    obtain ⟨kq,x67_16,rfl,HA,HJ16,a_t,a_A,a_x,a_z,a_C,HB⟩:=hcut
    cases kq with
    | zero => exact absurd HA.out (by simp [a_a.j1])
    | succ kj16 =>
     have H:=HA.out
     clear HA
     simp only [a_a.j1] at H
     by_cases c70 : x67_16 = true
     ·subst c70
      have H1 : (some false) = some r:=by rw [if_pos rfl] at H;exact H
      clear H
      have H:=H1
      clear H1
      obtain rfl:=Option.some.inj H
      go_wp2
      go_ret
      exact ⟨by first|rfl|(simp [a_r,a_s] <;> rfl)|(simp [*, a_r,a_s] <;> rfl),by repeat (first|(with_reducible first|exact HB.out|apply a_f|apply a_c|apply a_e|refine a_d ?_ a_R.out|refine a_d ?_ a_Y.out|refine a_d ?_ a_Z.out)|exact HB.out)⟩
     replace c70:=Bool.eq_false_iff.mpr c70
     subst c70
     have H1 : (a_a.l1 kj16 l0 l1 t377 0 l0 (l0.length : Int) x23_1 (t368.length : Int) 0 t368) = some r:=by rw [if_neg (show ¬ (false = true) by decide)] at H;exact H
     clear H
     have H:=H1
     clear H1
     have H':=a_b.mk H
     clear H
     have m_v:=a_6.out
     have m_S:=a_3.out
     have m_w:=b_e.out
     have m_T:=b_f.out
     have e_X : wc.cell? ⟨a_U,0,none⟩ = some (.slice Ao27 t368.length co27):=(a_h a_z.out 0).trans rfl
     have e_Z:=a_p a_z.out 0
     go_wp2
     go_loopg [11,71] kj16 (fun kq v11 v71 w' => ∃ (x11_3 : Int) (x71_3 : Int),v11 = .int .u32 x11_3 ∧ v71 = .int .i64 x71_3 ∧ a_b (a_a.l1 kq l0 l1 t377 x11_3 l0 (l0.length : Int) x23_1 (t368.length : Int) x71_3 t368 = some r) ∧ a_b (kq ≤ kj16) ∧ a_b (Kd.R k56 56 w' w.heap.size (fun k_ => some k_ ≠ ((.slice Ao29 t372.length co29) : Value).ownBlock) (.slice Ao27 t368.length co27) t368) ∧ a_b (Kd.R k56 56 w' w.heap.size (fun k_ => some k_ ≠ ((.slice Ao27 t368.length co27) : Value).ownBlock) (.slice Ao29 t372.length co29) t372) ∧ a_b (w'.heap[a_P]? = some (.cells #[(.slice A366_0 ((a_E l0 x23_1).f0).length c366_0)] 24 (0,0))) ∧ a_b (w'.heap[a_U]? = some (.cells #[(.slice Ao27 t368.length co27)] 24 (0,0))) ∧ a_b (w'.heap[a_0]? = some (.cells #[(.slice Ao29 t372.length co29)] 24 (0,0))) ∧ a_b (Below w.heap.size w w'))
     case atStart => exact ⟨(0),(0),(by first|rfl|(simp;done)|(simp [*];done)),(by first|rfl|(simp;done)|(simp [*];done)),H',⟨Nat.le_refl _⟩,⟨by (with_reducible repeat (first|apply Kd.a_I|apply Kd.a_J|apply Kd.a_F));exact a_t.out⟩,⟨by (with_reducible repeat (first|apply Kd.a_I|apply Kd.a_J|apply Kd.a_F));exact a_A.out⟩,⟨by (with_reducible repeat (first|refine a_l ?_ _|refine a_j ?_|refine a_k ?_ _));exact a_x.out⟩,⟨by (with_reducible repeat (first|refine a_l ?_ _|refine a_j ?_|refine a_k ?_ _));exact a_z.out⟩,⟨by (with_reducible repeat (first|refine a_l ?_ _|refine a_j ?_|refine a_k ?_ _));exact a_C.out⟩,⟨by repeat (first|(with_reducible first|exact HB.out|apply a_f|apply a_c|apply a_e|refine a_d ?_ a_R.out|refine a_d ?_ a_Y.out|refine a_d ?_ a_Z.out)|exact HB.out)⟩⟩
     case round =>
      clear H'
      try clear c1
      try clear c2
      try clear p2
      try clear c3
      try clear c5
      try clear c7
      try clear c11
      try clear c14
      try clear c24
      try clear c36
      try clear c54
      try clear c54b0
      try clear c54b1
      try clear c70
      try clear c71
      try clear c72
      try clear e_X
      try clear e_Z
      try clear p2
      obtain ⟨x11_3,x71_3,rfl,rfl,HA,HK3,a_t,a_A,a_x,a_z,a_C,HB⟩:=hrel
      cases gk with
      | zero => exact absurd HA.out (by simp [a_a.l1])
      | succ k3 =>
       have H:=HA.out
       clear HA
       simp only [a_a.l1] at H
       by_cases c74 : x71_3 < (t368.length : Int)
       ·rw [if_pos c74] at H
        have c74b0 : decide (x71_3 < (t368.length : Int)) = true:=decide_eq_true c74
        clear c74
        by_cases c75 : t377 = true
        rotate_left
        ·replace c75:=Bool.eq_false_iff.mpr c75
         subst c75
         have H1 : (a_a.l1 k3 l0 l1 false x11_3 l0 (l0.length : Int) x23_1 (t368.length : Int) (wrap64 (x71_3 + 1)) t368) = some r:=by rw [if_neg (show ¬ (false = true) by decide)] at H;exact H
         clear H
         have H:=H1
         clear H1
         have H':=a_b.mk H
         clear H
         go_wp2
         go_roundg k3
         case measure => have:=HK1.out;have:=HJ16.out;have:=HK3.out;omega
         case rel => exact ⟨(x11_3),(wrap64 (x71_3 + 1)),(by first|rfl|(simp;done)|(simp [*];done)),(by first|rfl|(simp;done)|(simp [*];done)),H',⟨by have:=HK1.out;have:=HJ16.out;have:=HK3.out;omega⟩,⟨by (with_reducible repeat (first|apply Kd.a_I|apply Kd.a_J|apply Kd.a_F));exact a_t.out⟩,⟨by (with_reducible repeat (first|apply Kd.a_I|apply Kd.a_J|apply Kd.a_F));exact a_A.out⟩,⟨by (with_reducible repeat (first|refine a_l ?_ _|refine a_j ?_|refine a_k ?_ _));exact a_x.out⟩,⟨by (with_reducible repeat (first|refine a_l ?_ _|refine a_j ?_|refine a_k ?_ _));exact a_z.out⟩,⟨by (with_reducible repeat (first|refine a_l ?_ _|refine a_j ?_|refine a_k ?_ _));exact a_C.out⟩,⟨by repeat (first|(with_reducible first|exact HB.out|apply a_f|apply a_c|apply a_e|refine a_d ?_ a_R.out|refine a_d ?_ a_Y.out|refine a_d ?_ a_Z.out)|exact HB.out)⟩⟩
        subst c75
        have H1 : (if 0 ≤ x71_3 then (a_a.l1 k3 l0 l1 true (Go.bits .or .u32 x11_3 (shl .u32 1 x71_3)) l0 (l0.length : Int) x23_1 (t368.length : Int) (wrap64 (x71_3 + 1)) t368) else (none)) = some r:=by rw [if_pos rfl] at H;exact H
        clear H
        have H:=H1
        clear H1
        by_cases c76 : 0 ≤ x71_3
        rotate_left
        ·rw [if_neg c76] at H
         exact absurd H (by simp)
        rw [if_pos c76] at H
        have c76b0:=eq_true c76
        have c76b1 : decide (0 ≤ x71_3) = true:=decide_eq_true c76
        clear c76
        obtain ⟨ji77,hji77⟩ : ∃ j_ : Int,(shl .u32 1 x71_3) = j_:=⟨_,rfl⟩
        replace H : (a_a.l1 k3 l0 l1 true (Go.bits .or .u32 x11_3 (ji77)) l0 (l0.length : Int) x23_1 (t368.length : Int) (wrap64 (x71_3 + 1)) t368) = some r:=by first|(rw [hji77] at H;exact H)|(simp only [hji77] at H ⊢; exact H)
        have hji77_ : (IntKind.u32.wrap (1 * 2 ^ min x71_3.toNat 32)) = ji77:=hji77
        have hji77z : x71_3 ≤ 32 → (IntKind.u32.wrap (1 * 2 ^ x71_3.toNat)) = ji77:=d_B hji77
        have hji77u : (IntKind.u32.wrap (2 ^ min x71_3.toNat 32)) = ji77:=by have h_:=hji77_;rw [Int.one_mul] at h_;exact h_
        have hji77v : x71_3 ≤ 32 → (IntKind.u32.wrap (2 ^ x71_3.toNat)) = ji77:=fun hle_ => by have h_:=hji77z hle_;rw [Int.one_mul] at h_;exact h_
        have H':=a_b.mk H
        clear H
        go_wp2
        go_roundg k3
        case measure => have:=HK1.out;have:=HJ16.out;have:=HK3.out;omega
        case rel => exact ⟨(Go.bits .or .u32 x11_3 (ji77)),(wrap64 (x71_3 + 1)),(by first|rfl|(simp;done)|(simp only [← hji77] <;> (first|rfl|simp))|(simp [*];done)),(by first|rfl|(simp;done)|(simp [*];done)),H',⟨by have:=HK1.out;have:=HJ16.out;have:=HK3.out;omega⟩,⟨by (with_reducible repeat (first|apply Kd.a_I|apply Kd.a_J|apply Kd.a_F));exact a_t.out⟩,⟨by (with_reducible repeat (first|apply Kd.a_I|apply Kd.a_J|apply Kd.a_F));exact a_A.out⟩,⟨by (with_reducible repeat (first|refine a_l ?_ _|refine a_j ?_|refine a_k ?_ _));exact a_x.out⟩,⟨by (with_reducible repeat (first|refine a_l ?_ _|refine a_j ?_|refine a_k ?_ _));exact a_z.out⟩,⟨by (with_reducible repeat (first|refine a_l ?_ _|refine a_j ?_|refine a_k ?_ _));exact a_C.out⟩,⟨by repeat (first|(with_reducible first|exact HB.out|apply a_f|apply a_c|apply a_e|refine a_d ?_ a_R.out|refine a_d ?_ a_Y.out|refine a_d ?_ a_Z.out)|exact HB.out)⟩⟩
       rw [if_neg c74] at H
       have c74b0 : decide (x71_3 < (t368.length : Int)) = false:=decide_eq_false c74
       clear c74
       replace H:=Option.bind_eq_some_iff.mp H
       obtain ⟨t391,A780,H⟩:=H
       replace H : (if t391 = x11_3 then (a_a.l2 k3 l0 l1 t377 l0 (l0.length : Int) x23_1 l1 (l1.length : Int) 0 t368) else (some false)) = some r:=H
       have A78:=a_b.mk A780
       clear A780
       by_cases c79 : t391 = x11_3
       rotate_left
       ·rw [if_neg c79] at H
        have c79b0 : (t391 == x11_3) = false:=beq_eq_false_iff_ne.mpr c79
        have c79b1 : (t391 != x11_3) = true:=bne_iff_ne.mpr c79
        obtain rfl:=Option.some.inj H
        have l_P:=a_6.out
        have l_0:=a_3.out
        have l_Q:=b_e.out
        have l_1:=b_f.out
        have k_b : wr.cell? ⟨a_U,0,none⟩ = some (.slice Ao27 t368.length co27):=(a_h a_z.out 0).trans rfl
        have k_i:=a_p a_z.out 0
        go_wp2_with (first|((with_reducible refine a_D (f:=30) rfl ?_);refine b_n (some 81) rfl rfl Tryd.func30 (by kernel_rfl) rfl #[.agg #[.slice Ao27 t368.length co27]] rfl (by (try simp only [List.map_toArray,List.map_cons,List.map_nil]);first|done|rfl|(simp only [List.length_drop,List.length_take];rfl)) ?_;(with_reducible refine (c_A.calls _ _ t368 t391 _ ?side1 ?side2 A78.out).mono ?_);(case side1 => repeat (first|exact (Kd.a_w a_t.out).2.2|(with_reducible refine Kd.a_M ?_ _)|(with_reducible refine Kd.a_N ?_ _)|(with_reducible refine Kd.a_2 ?_)));(case side2 => exact (Kd.a_w a_t.out).2.1);rintro e w161 ⟨rfl,hb⟩;refine ⟨_,rfl,?_⟩;replace a_t:=a_b.mk (Kd.a_B (rup_ a_t.out) hb);replace a_A:=a_b.mk (Kd.a_B (rup_ a_A.out) hb);replace a_x:=a_b.mk (a_i (bup_ a_x.out) hb);replace a_z:=a_b.mk (a_i (bup_ a_z.out) hb);replace a_C:=a_b.mk (a_i (bup_ a_C.out) hb);replace HB:=a_b.mk (a_m (by repeat (first|(with_reducible first|exact HB.out|apply a_f|apply a_c|apply a_e|refine a_d ?_ a_R.out|refine a_d ?_ a_Y.out|refine a_d ?_ a_Z.out)|exact HB.out)) hb);(try clear hb);(try clear hb2);(try clear hk);(try clear hi)))
        go_ret
        exact ⟨by first|rfl|(simp [a_r,a_s] <;> rfl)|(simp [*, a_r,a_s] <;> rfl),by repeat (first|(with_reducible first|exact HB.out|apply a_f|apply a_c|apply a_e|refine a_d ?_ a_R.out|refine a_d ?_ a_Y.out|refine a_d ?_ a_Z.out)|exact HB.out)⟩
       rw [if_pos c79] at H
       have c79b0 : (t391 == x11_3) = true:=beq_iff_eq.mpr c79
       have c79b1 : (t391 != x11_3) = false:=bne_eq_false_iff_eq.mpr c79
       clear c79
       have H':=a_b.mk H
       clear H
       have m_x:=a_6.out
       have m_U:=a_3.out
       have m_y:=b_e.out
       have m_V:=b_f.out
       have f_O : wr.cell? ⟨a_U,0,none⟩ = some (.slice Ao27 t368.length co27):=(a_h a_z.out 0).trans rfl
       have f_W:=a_p a_z.out 0
       go_wp2_with (first|((with_reducible refine a_D (f:=30) rfl ?_);refine b_n (some 81) rfl rfl Tryd.func30 (by kernel_rfl) rfl #[.agg #[.slice Ao27 t368.length co27]] rfl (by (try simp only [List.map_toArray,List.map_cons,List.map_nil]);first|done|rfl|(simp only [List.length_drop,List.length_take];rfl)) ?_;(with_reducible refine (c_A.calls _ _ t368 t391 _ ?side1 ?side2 A78.out).mono ?_);(case side1 => repeat (first|exact (Kd.a_w a_t.out).2.2|(with_reducible refine Kd.a_M ?_ _)|(with_reducible refine Kd.a_N ?_ _)|(with_reducible refine Kd.a_2 ?_)));(case side2 => exact (Kd.a_w a_t.out).2.1);rintro e w83 ⟨rfl,hb⟩;refine ⟨_,rfl,?_⟩;replace a_t:=a_b.mk (Kd.a_B (rup_ a_t.out) hb);replace a_A:=a_b.mk (Kd.a_B (rup_ a_A.out) hb);replace a_x:=a_b.mk (a_i (bup_ a_x.out) hb);replace a_z:=a_b.mk (a_i (bup_ a_z.out) hb);replace a_C:=a_b.mk (a_i (bup_ a_C.out) hb);replace HB:=a_b.mk (a_m (by repeat (first|(with_reducible first|exact HB.out|apply a_f|apply a_c|apply a_e|refine a_d ?_ a_R.out|refine a_d ?_ a_Y.out|refine a_d ?_ a_Z.out)|exact HB.out)) hb);(try clear hb);(try clear hb2);(try clear hk);(try clear hi)))
       go_loopg [86] k3 (fun kq v86 w' => ∃ (x86_4 : Int),v86 = .int .i64 x86_4 ∧ a_b (a_a.l2 kq l0 l1 t377 l0 (l0.length : Int) x23_1 l1 (l1.length : Int) x86_4 t368 = some r) ∧ a_b (kq ≤ k3) ∧ a_b (Kd.R k56 56 w' w.heap.size (fun k_ => some k_ ≠ ((.slice Ao29 t372.length co29) : Value).ownBlock) (.slice Ao27 t368.length co27) t368) ∧ a_b (Kd.R k56 56 w' w.heap.size (fun k_ => some k_ ≠ ((.slice Ao27 t368.length co27) : Value).ownBlock) (.slice Ao29 t372.length co29) t372) ∧ a_b (w'.heap[a_P]? = some (.cells #[(.slice A366_0 ((a_E l0 x23_1).f0).length c366_0)] 24 (0,0))) ∧ a_b (w'.heap[a_U]? = some (.cells #[(.slice Ao27 t368.length co27)] 24 (0,0))) ∧ a_b (w'.heap[a_0]? = some (.cells #[(.slice Ao29 t372.length co29)] 24 (0,0))) ∧ a_b (Below w.heap.size w w'))
       case atStart => exact ⟨(0),(by first|rfl|(simp;done)|(simp [*];done)),H',⟨Nat.le_refl _⟩,⟨by (with_reducible repeat (first|apply Kd.a_I|apply Kd.a_J|apply Kd.a_F));exact a_t.out⟩,⟨by (with_reducible repeat (first|apply Kd.a_I|apply Kd.a_J|apply Kd.a_F));exact a_A.out⟩,⟨by (with_reducible repeat (first|refine a_l ?_ _|refine a_j ?_|refine a_k ?_ _));exact a_x.out⟩,⟨by (with_reducible repeat (first|refine a_l ?_ _|refine a_j ?_|refine a_k ?_ _));exact a_z.out⟩,⟨by (with_reducible repeat (first|refine a_l ?_ _|refine a_j ?_|refine a_k ?_ _));exact a_C.out⟩,⟨by repeat (first|(with_reducible first|exact HB.out|apply a_f|apply a_c|apply a_e|refine a_d ?_ a_R.out|refine a_d ?_ a_Y.out|refine a_d ?_ a_Z.out)|exact HB.out)⟩⟩
       case round =>
        clear H'
        try clear c1
        try clear c2
        try clear p2
        try clear c3
        try clear c5
        try clear p6
        try clear c7
        try clear c8
        try clear c11
        try clear c14
        try clear c24
        try clear c30
        try clear c36
        try clear c54
        try clear c54b0
        try clear c54b1
        try clear p64
        try clear c70
        try clear c71
        try clear c72
        try clear c74
        try clear c74b0
        try clear c75
        try clear c76
        try clear c76b0
        try clear c76b1
        try clear c79
        try clear c79b0
        try clear c79b1
        try clear c80
        try clear c81
        try clear e_X
        try clear f_O
        try clear e_Z
        try clear f_W
        try clear p2
        obtain ⟨x86_4,rfl,HA,HK4,a_t,a_A,a_x,a_z,a_C,HB⟩:=hrel
        cases gk with
        | zero => exact absurd HA.out (by simp [a_a.l2])
        | succ k4 =>
         have H:=HA.out
         clear HA
         simp only [a_a.l2] at H
         by_cases c84 : x86_4 < (l1.length : Int)
         rotate_left
         ·rw [if_neg c84] at H
          have c84b0 : decide (x86_4 < (l1.length : Int)) = false:=decide_eq_false c84
          clear c84
          have H':=a_b.mk H
          clear H
          go_wp2
          go_roundg k4
          case measure => have:=HK1.out;have:=HJ16.out;have:=HK3.out;have:=HK4.out;omega
          case rel => exact ⟨(wrap64 (x23_1 + 1)),(by first|rfl|(simp;done)|(simp [*];done)),H',⟨by have:=HK1.out;have:=HJ16.out;have:=HK3.out;have:=HK4.out;omega⟩,⟨by repeat (first|(with_reducible first|exact HB.out|apply a_f|apply a_c|apply a_e|refine a_d ?_ a_R.out|refine a_d ?_ a_Y.out|refine a_d ?_ a_Z.out)|exact HB.out)⟩⟩
         rw [if_pos c84] at H
         have c84b0 : decide (x86_4 < (l1.length : Int)) = true:=decide_eq_true c84
         clear c84
         by_cases c85 : 0 ≤ x86_4
         rotate_left
         ·rw [if_neg c85] at H
          exact absurd H (by simp)
         rw [if_pos c85] at H
         have c85b0 : decide (0 ≤ x86_4) = true:=decide_eq_true c85
         clear c85
         by_cases c86 : x86_4 < (l1.length : Int)
         rotate_left
         ·rw [if_neg c86] at H
          exact absurd H (by simp)
         rw [if_pos c86] at H
         have c86b0 : decide (x86_4 < (l1.length : Int)) = true:=decide_eq_true c86
         clear c86
         by_cases c87 : x86_4 = 10
         ·rw [if_pos c87] at H
          have c87b0 : (x86_4 == 10) = true:=beq_iff_eq.mpr c87
          have c87b1 : (x86_4 != 10) = false:=bne_eq_false_iff_eq.mpr c87
          clear c87
          have H':=a_b.mk H
          clear H
          have p392 : 0 ≤ (x86_4 : Int):=of_decide_eq_true (by first|(with_reducible assumption)|assumption)
          have q392 : x86_4 < (l1.length : Int):=of_decide_eq_true (by first|(with_reducible assumption)|assumption)
          obtain ⟨ad392,e392,c_W⟩:=Kd.e_B HR1.out x86_4 p392 q392
          cases e392
          replace c_W:=(HB.out.cell (World.block_lt_of_cell? w _ c_W)).trans c_W
          replace p392:=eq_true p392
          replace q392:=eq_true q392
          go_wp2
          go_roundg k4
          case measure => have:=HK1.out;have:=HJ16.out;have:=HK3.out;have:=HK4.out;omega
          case rel => exact ⟨(wrap64 (x23_1 + 1)),(by first|rfl|(simp;done)|(simp [*];done)),H',⟨by have:=HK1.out;have:=HJ16.out;have:=HK3.out;have:=HK4.out;omega⟩,⟨by repeat (first|(with_reducible first|exact HB.out|apply a_f|apply a_c|apply a_e|refine a_d ?_ a_R.out|refine a_d ?_ a_Y.out|refine a_d ?_ a_Z.out)|exact HB.out)⟩⟩
         rw [if_neg c87] at H
         have c87b0 : (x86_4 == 10) = false:=beq_eq_false_iff_ne.mpr c87
         have c87b1 : (x86_4 != 10) = true:=bne_iff_ne.mpr c87
         have H':=a_b.mk H
         clear H
         have p392 : 0 ≤ (x86_4 : Int):=of_decide_eq_true (by first|(with_reducible assumption)|assumption)
         have q392 : x86_4 < (l1.length : Int):=of_decide_eq_true (by first|(with_reducible assumption)|assumption)
         obtain ⟨ad392,e392,c_W⟩:=Kd.e_B HR1.out x86_4 p392 q392
         cases e392
         replace c_W:=(HB.out.cell (World.block_lt_of_cell? w _ c_W)).trans c_W
         replace p392:=eq_true p392
         replace q392:=eq_true q392
         have m_z:=a_6.out
         have m_W:=a_3.out
         have m_A:=b_e.out
         have m_X:=b_f.out
         have h_l : wr.cell? ⟨a_U,0,none⟩ = some (.slice Ao27 t368.length co27):=(a_h a_z.out 0).trans rfl
         have h_s:=a_p a_z.out 0
         go_wp2
         go_loopg [15,16,96] k4 (fun kq v15 v16 v96 w' => ∃ (x15_5 : Int) (x16_5 : Int) (x96_5 : Int),v15 = .int .u32 x15_5 ∧ v16 = .int .u32 x16_5 ∧ v96 = .int .i64 x96_5 ∧ a_b (a_a.l3 kq l0 l1 t377 (rd l1 x86_4) x15_5 x16_5 l0 (l0.length : Int) x23_1 l1 (l1.length : Int) x86_4 t368 (t368.length : Int) x96_5 t368 = some r) ∧ a_b (kq ≤ k4) ∧ a_b (Kd.R k56 56 w' w.heap.size (fun k_ => some k_ ≠ ((.slice Ao29 t372.length co29) : Value).ownBlock) (.slice Ao27 t368.length co27) t368) ∧ a_b (Kd.R k56 56 w' w.heap.size (fun k_ => some k_ ≠ ((.slice Ao29 t372.length co29) : Value).ownBlock) (.slice Ao27 t368.length co27) t368) ∧ a_b (Kd.R k56 56 w' w.heap.size (fun k_ => some k_ ≠ ((.slice Ao27 t368.length co27) : Value).ownBlock ∧ some k_ ≠ ((.slice Ao27 t368.length co27) : Value).ownBlock) (.slice Ao29 t372.length co29) t372) ∧ a_b (w'.heap[a_P]? = some (.cells #[(.slice A366_0 ((a_E l0 x23_1).f0).length c366_0)] 24 (0,0))) ∧ a_b (w'.heap[a_U]? = some (.cells #[(.slice Ao27 t368.length co27)] 24 (0,0))) ∧ a_b (w'.heap[a_0]? = some (.cells #[(.slice Ao29 t372.length co29)] 24 (0,0))) ∧ a_b (Below w.heap.size w w'))
         case atStart => exact ⟨(0),(0),(0),(by first|rfl|(simp;done)|(simp [*];done)),(by first|rfl|(simp;done)|(simp [*];done)),(by first|rfl|(simp;done)|(simp [*];done)),H',⟨Nat.le_refl _⟩,⟨by (with_reducible repeat (first|apply Kd.a_I|apply Kd.a_J|apply Kd.a_F));exact a_t.out⟩,⟨by (with_reducible repeat (first|apply Kd.a_I|apply Kd.a_J|apply Kd.a_F));exact a_t.out⟩,⟨by (with_reducible repeat (first|apply Kd.a_I|apply Kd.a_J|apply Kd.a_F));exact Kd.a_X a_A.out (fun _ hk => ⟨hk,hk⟩)⟩,⟨by (with_reducible repeat (first|refine a_l ?_ _|refine a_j ?_|refine a_k ?_ _));exact a_x.out⟩,⟨by (with_reducible repeat (first|refine a_l ?_ _|refine a_j ?_|refine a_k ?_ _));exact a_z.out⟩,⟨by (with_reducible repeat (first|refine a_l ?_ _|refine a_j ?_|refine a_k ?_ _));exact a_C.out⟩,⟨by repeat (first|(with_reducible first|exact HB.out|apply a_f|apply a_c|apply a_e|refine a_d ?_ a_R.out|refine a_d ?_ a_Y.out|refine a_d ?_ a_Z.out)|exact HB.out)⟩⟩
         case round =>
          clear H'
          try clear c1
          try clear c2
          try clear p2
          try clear c3
          try clear p3
          try clear q3
          try clear hx3
          try clear c5
          try clear p6
          try clear c7
          try clear c8
          try clear c11
          try clear c14
          try clear c24
          try clear c30
          try clear c36
          try clear p39
          try clear q39
          try clear hx39
          try clear c54
          try clear c54b0
          try clear c54b1
          try clear p64
          try clear c70
          try clear c71
          try clear c72
          try clear c74
          try clear c74b0
          try clear c75
          try clear c76
          try clear c76b0
          try clear c76b1
          try clear c79
          try clear c79b0
          try clear c79b1
          try clear c80
          try clear c81
          try clear c84
          try clear c84b0
          try clear c85
          try clear c85b0
          try clear c86
          try clear c86b0
          try clear c87
          try clear c87b0
          try clear c87b1
          try clear c88
          try clear c89
          try clear e_X
          try clear f_O
          try clear h_l
          try clear e_Z
          try clear f_W
          try clear h_s
          try clear c_W
          try clear p2
          try clear p392
          try clear p6
          try clear p64
          try clear q392
          obtain ⟨x15_5,x16_5,x96_5,rfl,rfl,rfl,HA,HK5,b_t,a_t,a_A,a_x,a_z,a_C,HB⟩:=hrel
          cases gk with
          | zero => exact absurd HA.out (by simp [a_a.l3])
          | succ k5 =>
           have H:=HA.out
           clear HA
           simp only [a_a.l3] at H
           by_cases c91 : x96_5 < (t368.length : Int)
           rotate_left
           ·rw [if_neg c91] at H
            have c91b0 : decide (x96_5 < (t368.length : Int)) = false:=decide_eq_false c91
            clear c91
            replace H:=Option.bind_eq_some_iff.mp H
            obtain ⟨t399,A1380,H⟩:=H
            replace H : (if t399 = x15_5 then ((b_R.f t368 (rd l1 x86_4)).bind fun t400 => (if t400 = x16_5 then (a_a.l2 k5 l0 l1 t377 l0 (l0.length : Int) x23_1 l1 (l1.length : Int) (wrap64 (x86_4 + 1)) t368) else (some false))) else (some false)) = some r:=H
            have A138:=a_b.mk A1380
            clear A1380
            by_cases c139 : t399 = x15_5
            rotate_left
            ·rw [if_neg c139] at H
             have c139b0 : (t399 == x15_5) = false:=beq_eq_false_iff_ne.mpr c139
             have c139b1 : (t399 != x15_5) = true:=bne_iff_ne.mpr c139
             obtain rfl:=Option.some.inj H
             have l_N:=a_6.out
             have l_Y:=a_3.out
             have l_O:=b_e.out
             have l_Z:=b_f.out
             have k_a : wr.cell? ⟨a_U,0,none⟩ = some (.slice Ao27 t368.length co27):=(a_h a_z.out 0).trans rfl
             have k_h:=a_p a_z.out 0
             go_wp2_with (first|((with_reducible refine a_D (f:=29) rfl ?_);refine b_n (some 134) rfl rfl Tryd.func29 (by kernel_rfl) rfl #[.agg #[.slice Ao27 t368.length co27],.int .i64 (rd l1 x86_4)] rfl (by (try simp only [List.map_toArray,List.map_cons,List.map_nil]);first|done|rfl|(simp only [List.length_drop,List.length_take];rfl)) ?_;(with_reducible refine (b_u.calls _ _ t368 (rd l1 x86_4) t399 _ ?side1 ?side2 A138.out).mono ?_);(case side1 => repeat (first|exact (Kd.a_w a_t.out).2.2|(with_reducible refine Kd.a_M ?_ _)|(with_reducible refine Kd.a_N ?_ _)|(with_reducible refine Kd.a_2 ?_)));(case side2 => exact (Kd.a_w a_t.out).2.1);rintro e w157 ⟨rfl,hb⟩;refine ⟨_,rfl,?_⟩;replace b_t:=a_b.mk (Kd.a_B (rup_ b_t.out) hb);replace a_t:=a_b.mk (Kd.a_B (rup_ a_t.out) hb);replace a_A:=a_b.mk (Kd.a_B (rup_ a_A.out) hb);replace a_x:=a_b.mk (a_i (bup_ a_x.out) hb);replace a_z:=a_b.mk (a_i (bup_ a_z.out) hb);replace a_C:=a_b.mk (a_i (bup_ a_C.out) hb);replace HB:=a_b.mk (a_m (by repeat (first|(with_reducible first|exact HB.out|apply a_f|apply a_c|apply a_e|refine a_d ?_ a_R.out|refine a_d ?_ a_Y.out|refine a_d ?_ a_Z.out)|exact HB.out)) hb);(try clear hb);(try clear hb2);(try clear hk);(try clear hi)))
             go_ret
             exact ⟨by first|rfl|(simp [a_r,a_s] <;> rfl)|(simp [*, a_r,a_s] <;> rfl),by repeat (first|(with_reducible first|exact HB.out|apply a_f|apply a_c|apply a_e|refine a_d ?_ a_R.out|refine a_d ?_ a_Y.out|refine a_d ?_ a_Z.out)|exact HB.out)⟩
            rw [if_pos c139] at H
            have c139b0 : (t399 == x15_5) = true:=beq_iff_eq.mpr c139
            have c139b1 : (t399 != x15_5) = false:=bne_eq_false_iff_eq.mpr c139
            clear c139
            replace H:=Option.bind_eq_some_iff.mp H
            obtain ⟨t400,A1400,H⟩:=H
            replace H : (if t400 = x16_5 then (a_a.l2 k5 l0 l1 t377 l0 (l0.length : Int) x23_1 l1 (l1.length : Int) (wrap64 (x86_4 + 1)) t368) else (some false)) = some r:=H
            have A140:=a_b.mk A1400
            clear A1400
            by_cases c141 : t400 = x16_5
            rotate_left
            ·rw [if_neg c141] at H
             have c141b0 : (t400 == x16_5) = false:=beq_eq_false_iff_ne.mpr c141
             have c141b1 : (t400 != x16_5) = true:=bne_iff_ne.mpr c141
             obtain rfl:=Option.some.inj H
             have l_L:=a_6.out
             have l_W:=a_3.out
             have l_M:=b_e.out
             have l_X:=b_f.out
             have j_8 : wr.cell? ⟨a_U,0,none⟩ = some (.slice Ao27 t368.length co27):=(a_h a_z.out 0).trans rfl
             have k_f:=a_p a_z.out 0
             go_wp2_with (first|((with_reducible refine a_D (f:=29) rfl ?_);refine b_n (some 134) rfl rfl Tryd.func29 (by kernel_rfl) rfl #[.agg #[.slice Ao27 t368.length co27],.int .i64 (rd l1 x86_4)] rfl (by (try simp only [List.map_toArray,List.map_cons,List.map_nil]);first|done|rfl|(simp only [List.length_drop,List.length_take];rfl)) ?_;(with_reducible refine (b_u.calls _ _ t368 (rd l1 x86_4) t399 _ ?side1 ?side2 A138.out).mono ?_);(case side1 => repeat (first|exact (Kd.a_w a_t.out).2.2|(with_reducible refine Kd.a_M ?_ _)|(with_reducible refine Kd.a_N ?_ _)|(with_reducible refine Kd.a_2 ?_)));(case side2 => exact (Kd.a_w a_t.out).2.1);rintro e w151 ⟨rfl,hb⟩;refine ⟨_,rfl,?_⟩;replace b_t:=a_b.mk (Kd.a_B (rup_ b_t.out) hb);replace a_t:=a_b.mk (Kd.a_B (rup_ a_t.out) hb);replace a_A:=a_b.mk (Kd.a_B (rup_ a_A.out) hb);replace a_x:=a_b.mk (a_i (bup_ a_x.out) hb);replace a_z:=a_b.mk (a_i (bup_ a_z.out) hb);replace a_C:=a_b.mk (a_i (bup_ a_C.out) hb);replace HB:=a_b.mk (a_m (by repeat (first|(with_reducible first|exact HB.out|apply a_f|apply a_c|apply a_e|refine a_d ?_ a_R.out|refine a_d ?_ a_Y.out|refine a_d ?_ a_Z.out)|exact HB.out)) hb);(try clear hb);(try clear hb2);(try clear hk);(try clear hi);have j_9 : w151.cell? ⟨a_U,0,none⟩ = some (.slice Ao27 t368.length co27):=(a_h a_z.out 0).trans rfl;have k_g:=a_p a_z.out 0)|(go_at_call 34;(with_reducible refine (b_R.calls _ _ t368 (rd l1 x86_4) t400 _ ?side1 ?side2 A140.out).mono ?_);(case side1 => repeat (first|exact (Kd.a_w a_t.out).2.2|(with_reducible refine Kd.a_M ?_ _)|(with_reducible refine Kd.a_N ?_ _)|(with_reducible refine Kd.a_2 ?_)));(case side2 => exact (Kd.a_w a_t.out).2.1);rintro e w153 ⟨rfl,hb⟩;replace b_t:=a_b.mk (Kd.a_B (rup_ b_t.out) hb);replace a_t:=a_b.mk (Kd.a_B (rup_ a_t.out) hb);replace a_A:=a_b.mk (Kd.a_B (rup_ a_A.out) hb);replace a_x:=a_b.mk (a_i (bup_ a_x.out) hb);replace a_z:=a_b.mk (a_i (bup_ a_z.out) hb);replace a_C:=a_b.mk (a_i (bup_ a_C.out) hb);replace HB:=a_b.mk (a_m (by repeat (first|(with_reducible first|exact HB.out|apply a_f|apply a_c|apply a_e|refine a_d ?_ a_R.out|refine a_d ?_ a_Y.out|refine a_d ?_ a_Z.out)|exact HB.out)) hb);(try clear hb);(try clear hb2);(try clear hk);(try clear hi)))
             go_ret
             exact ⟨by first|rfl|(simp [a_r,a_s] <;> rfl)|(simp [*, a_r,a_s] <;> rfl),by repeat (first|(with_reducible first|exact HB.out|apply a_f|apply a_c|apply a_e|refine a_d ?_ a_R.out|refine a_d ?_ a_Y.out|refine a_d ?_ a_Z.out)|exact HB.out)⟩
            rw [if_pos c141] at H
            have c141b0 : (t400 == x16_5) = true:=beq_iff_eq.mpr c141
            have c141b1 : (t400 != x16_5) = false:=bne_eq_false_iff_eq.mpr c141
            clear c141
            have H':=a_b.mk H
            clear H
            have l_J:=a_6.out
            have l_U:=a_3.out
            have l_K:=b_e.out
            have l_V:=b_f.out
            have j_6 : wr.cell? ⟨a_U,0,none⟩ = some (.slice Ao27 t368.length co27):=(a_h a_z.out 0).trans rfl
            have k_d:=a_p a_z.out 0
            go_wp2_with (first|((with_reducible refine a_D (f:=29) rfl ?_);refine b_n (some 134) rfl rfl Tryd.func29 (by kernel_rfl) rfl #[.agg #[.slice Ao27 t368.length co27],.int .i64 (rd l1 x86_4)] rfl (by (try simp only [List.map_toArray,List.map_cons,List.map_nil]);first|done|rfl|(simp only [List.length_drop,List.length_take];rfl)) ?_;(with_reducible refine (b_u.calls _ _ t368 (rd l1 x86_4) t399 _ ?side1 ?side2 A138.out).mono ?_);(case side1 => repeat (first|exact (Kd.a_w a_t.out).2.2|(with_reducible refine Kd.a_M ?_ _)|(with_reducible refine Kd.a_N ?_ _)|(with_reducible refine Kd.a_2 ?_)));(case side2 => exact (Kd.a_w a_t.out).2.1);rintro e w145 ⟨rfl,hb⟩;refine ⟨_,rfl,?_⟩;replace b_t:=a_b.mk (Kd.a_B (rup_ b_t.out) hb);replace a_t:=a_b.mk (Kd.a_B (rup_ a_t.out) hb);replace a_A:=a_b.mk (Kd.a_B (rup_ a_A.out) hb);replace a_x:=a_b.mk (a_i (bup_ a_x.out) hb);replace a_z:=a_b.mk (a_i (bup_ a_z.out) hb);replace a_C:=a_b.mk (a_i (bup_ a_C.out) hb);replace HB:=a_b.mk (a_m (by repeat (first|(with_reducible first|exact HB.out|apply a_f|apply a_c|apply a_e|refine a_d ?_ a_R.out|refine a_d ?_ a_Y.out|refine a_d ?_ a_Z.out)|exact HB.out)) hb);(try clear hb);(try clear hb2);(try clear hk);(try clear hi);have j_7 : w145.cell? ⟨a_U,0,none⟩ = some (.slice Ao27 t368.length co27):=(a_h a_z.out 0).trans rfl;have k_e:=a_p a_z.out 0)|(go_at_call 34;(with_reducible refine (b_R.calls _ _ t368 (rd l1 x86_4) t400 _ ?side1 ?side2 A140.out).mono ?_);(case side1 => repeat (first|exact (Kd.a_w a_t.out).2.2|(with_reducible refine Kd.a_M ?_ _)|(with_reducible refine Kd.a_N ?_ _)|(with_reducible refine Kd.a_2 ?_)));(case side2 => exact (Kd.a_w a_t.out).2.1);rintro e w147 ⟨rfl,hb⟩;replace b_t:=a_b.mk (Kd.a_B (rup_ b_t.out) hb);replace a_t:=a_b.mk (Kd.a_B (rup_ a_t.out) hb);replace a_A:=a_b.mk (Kd.a_B (rup_ a_A.out) hb);replace a_x:=a_b.mk (a_i (bup_ a_x.out) hb);replace a_z:=a_b.mk (a_i (bup_ a_z.out) hb);replace a_C:=a_b.mk (a_i (bup_ a_C.out) hb);replace HB:=a_b.mk (a_m (by repeat (first|(with_reducible first|exact HB.out|apply a_f|apply a_c|apply a_e|refine a_d ?_ a_R.out|refine a_d ?_ a_Y.out|refine a_d ?_ a_Z.out)|exact HB.out)) hb);(try clear hb);(try clear hb2);(try clear hk);(try clear hi)))
            go_roundg k5
            case measure => have:=HK1.out;have:=HJ16.out;have:=HK3.out;have:=HK4.out;have:=HK5.out;omega
            case rel => exact ⟨(wrap64 (x86_4 + 1)),(by first|rfl|(simp;done)|(simp [*];done)),H',⟨by have:=HK1.out;have:=HJ16.out;have:=HK3.out;have:=HK4.out;have:=HK5.out;omega⟩,⟨by (with_reducible repeat (first|apply Kd.a_I|apply Kd.a_J|apply Kd.a_F));exact a_t.out⟩,⟨by (with_reducible repeat (first|apply Kd.a_I|apply Kd.a_J|apply Kd.a_F));exact Kd.a_X a_A.out (fun _ hk => hk.2)⟩,⟨by (with_reducible repeat (first|refine a_l ?_ _|refine a_j ?_|refine a_k ?_ _));exact a_x.out⟩,⟨by (with_reducible repeat (first|refine a_l ?_ _|refine a_j ?_|refine a_k ?_ _));exact a_z.out⟩,⟨by (with_reducible repeat (first|refine a_l ?_ _|refine a_j ?_|refine a_k ?_ _));exact a_C.out⟩,⟨by repeat (first|(with_reducible first|exact HB.out|apply a_f|apply a_c|apply a_e|refine a_d ?_ a_R.out|refine a_d ?_ a_Y.out|refine a_d ?_ a_Z.out)|exact HB.out)⟩⟩
           rw [if_pos c91] at H
           have c91b0 : decide (x96_5 < (t368.length : Int)) = true:=decide_eq_true c91
           clear c91
           by_cases c92 : 0 ≤ x96_5
           rotate_left
           ·rw [if_neg c92] at H
            exact absurd H (by simp)
           rw [if_pos c92] at H
           have c92b0 : decide (0 ≤ x96_5) = true:=decide_eq_true c92
           clear c92
           by_cases c93 : x96_5 < (t368.length : Int)
           rotate_left
           ·rw [if_neg c93] at H
            exact absurd H (by simp)
           rw [if_pos c93] at H
           have c93b0 : decide (x96_5 < (t368.length : Int)) = true:=decide_eq_true c93
           clear c93
           have HC94:=a_b.mk H
           clear H
           have p393 : 0 ≤ (x96_5 : Int):=of_decide_eq_true (by first|(with_reducible assumption)|assumption)
           have q393 : x96_5 < (t368.length : Int):=of_decide_eq_true (by first|(with_reducible assumption)|assumption)
           obtain ⟨ad393,e393,j_i,j_j⟩:=c_h (Kd.a_w b_t.out).2.2 x96_5 p393 q393
           cases e393
           replace p393:=eq_true p393
           replace q393:=eq_true q393
           go_upto_region 29 with (first|((with_reducible refine a_L (N:=18) rfl ?_);refine a_G ?hg (N:=18) ?hd (cs:=#[.int .i64 0,.int .i64 0]) (t:=56) ?hr ?_;(case hd => rfl);(case hg => rfl);(case hr => first|(go_simp;done)|(go_simp;rfl));intro b_P hg w95 hbox hb;have b_r:=a_b.mk (hbox);have m_g:=a_b.mk ((by rw [hg];exact (a_g (by repeat (first|(with_reducible first|exact HB.out|apply a_f|apply a_c|apply a_e|refine a_d ?_ a_R.out|refine a_d ?_ a_Y.out|refine a_d ?_ a_Z.out)|exact HB.out))) : w.heap.size ≤ b_P));have d_d:=a_b.mk ((by rw [hg];exact (a_g (by repeat (first|(with_reducible first|exact HB.out|apply a_f|apply a_c|apply a_e|refine a_d ?_ a_R.out|refine a_d ?_ a_Y.out|refine a_d ?_ a_Z.out)|exact HB.out))) : w.heap.size ≤ b_P));have c_Q:=a_b.mk ((by rw [hg];exact Nat.ne_of_lt (a_K (bup_ a_x.out)) : a_P ≠ b_P));have f_a:=a_b.mk ((by rw [hg];exact Nat.ne_of_gt (a_K (bup_ a_x.out)) : b_P ≠ a_P));have c_R:=a_b.mk ((by rw [hg];exact Nat.ne_of_lt (a_K (bup_ a_z.out)) : a_U ≠ b_P));have f_b:=a_b.mk ((by rw [hg];exact Nat.ne_of_gt (a_K (bup_ a_z.out)) : b_P ≠ a_U));have c_S:=a_b.mk ((by rw [hg];exact Nat.ne_of_lt (a_K (bup_ a_C.out)) : a_0 ≠ b_P));have f_c:=a_b.mk ((by rw [hg];exact Nat.ne_of_gt (a_K (bup_ a_C.out)) : b_P ≠ a_0));replace b_t:=a_b.mk (Kd.a_B (Kd.e_Q (rup_ b_t.out) b_P (Nat.le_of_eq hg.symm)) hb);replace a_t:=a_b.mk (Kd.a_B (Kd.e_Q (rup_ a_t.out) b_P (Nat.le_of_eq hg.symm)) hb);replace a_A:=a_b.mk (Kd.a_B (Kd.e_Q (rup_ a_A.out) b_P (Nat.le_of_eq hg.symm)) hb);replace a_x:=a_b.mk (a_i (bup_ a_x.out) hb);replace a_z:=a_b.mk (a_i (bup_ a_z.out) hb);replace a_C:=a_b.mk (a_i (bup_ a_C.out) hb);replace HB:=a_b.mk (a_m (by repeat (first|(with_reducible first|exact HB.out|apply a_f|apply a_c|apply a_e|refine a_d ?_ a_R.out|refine a_d ?_ a_Y.out|refine a_d ?_ a_Z.out)|exact HB.out)) hb);clear hb hbox hg;have m_B:=f_a.out;have m_Y:=c_Q.out;have m_C:=f_b.out;have m_Z:=c_R.out;have m_D:=f_c.out;have m_0:=c_S.out;have i_Z : w95.cell? ⟨b_P,0,none⟩ = some (.int .i64 0):=(a_h b_r.out 0).trans rfl;have i_0 : w95.cell? ⟨b_P,1,none⟩ = some (.int .i64 0):=(a_h b_r.out 1).trans rfl;have j_b:=a_p b_r.out 0;have j_c:=a_p b_r.out 1))
           (try simp only [Act.put,sa_,sb_,sc_])
           go_cut [107] (fun v107 wc => ∃ (kq : Nat) (x107_93 : Bool),v107 = .bool x107_93 ∧ a_b (a_a.j5 kq l0 l1 t377 (rd l1 x86_4) x15_5 x16_5 x96_5 l0 (l0.length : Int) x23_1 l1 (l1.length : Int) x86_4 t368 (t368.length : Int) x96_5 x107_93 t368 ((a_n t368 x96_5).f0) ((a_n t368 x96_5).f1) = some r) ∧ a_b (kq ≤ k5) ∧ a_b (Kd.R k56 56 wc w.heap.size (fun k_ => some k_ ≠ ((.slice Ao29 t372.length co29) : Value).ownBlock ∧ k_ ≠ b_P) (.slice (some ad393) t368.length co27) t368) ∧ a_b (Kd.R k56 56 wc w.heap.size (fun k_ => some k_ ≠ ((.slice Ao29 t372.length co29) : Value).ownBlock ∧ k_ ≠ b_P) (.slice (some ad393) t368.length co27) t368) ∧ a_b (Kd.R k56 56 wc w.heap.size (fun k_ => some k_ ≠ ((.slice (some ad393) t368.length co27) : Value).ownBlock ∧ some k_ ≠ ((.slice (some ad393) t368.length co27) : Value).ownBlock ∧ k_ ≠ b_P) (.slice Ao29 t372.length co29) t372) ∧ a_b (wc.heap[a_P]? = some (.cells #[(.slice A366_0 ((a_E l0 x23_1).f0).length c366_0)] 24 (0,0))) ∧ a_b (wc.heap[a_U]? = some (.cells #[(.slice (some ad393) t368.length co27)] 24 (0,0))) ∧ a_b (wc.heap[a_0]? = some (.cells #[(.slice Ao29 t372.length co29)] 24 (0,0))) ∧ a_b (wc.heap[b_P]? = some (.cells #[.int .i64 ((a_n t368 x96_5).f0),.int .i64 ((a_n t368 x96_5).f1)] 56 (0,0))) ∧ a_b (Below w.heap.size w wc))
           case first =>
            have H:=HC94.out
            clear HC94
            by_cases c100 : t377 = true
            rotate_left
            ·replace c100:=Bool.eq_false_iff.mpr c100
             subst c100
             have H1 : (a_a.j5 k5 l0 l1 false (rd l1 x86_4) x15_5 x16_5 x96_5 l0 (l0.length : Int) x23_1 l1 (l1.length : Int) x86_4 t368 (t368.length : Int) x96_5 false t368 ((a_n t368 x96_5).f0) ((a_n t368 x96_5).f1)) = some r:=by rw [if_neg (show ¬ (false = true) by decide)] at H;exact H
             clear H
             have H:=H1
             clear H1
             have H':=a_b.mk H
             clear H
             go_wp2
             go_meet
             case rel => exact ⟨_,(false),(by first|rfl|(simp;done)|(simp [*];done)),H',⟨by have:=HK1.out;have:=HJ16.out;have:=HK3.out;have:=HK4.out;have:=HK5.out;first|omega|exact Nat.le_refl _⟩,⟨by (with_reducible repeat (first|apply Kd.a_I|apply Kd.a_J|apply Kd.a_F));exact Kd.a_X (Kd.b_9 (p:=⟨b_P,1,none⟩) (Kd.b_9 (p:=⟨b_P,0,none⟩) (Kd.a_X b_t.out (fun k_ hk => (⟨hk,hk.2⟩ : _ ∧ k_ ≠ b_P))) (fun _ hk => hk.2) (.int .i64 ((a_n t368 x96_5).f0))) (fun _ hk => hk.2) (.int .i64 ((a_n t368 x96_5).f1))) (fun _ hk => ⟨hk.1.1,hk.1.2⟩)⟩,⟨by (with_reducible repeat (first|apply Kd.a_I|apply Kd.a_J|apply Kd.a_F));exact Kd.a_X (Kd.b_9 (p:=⟨b_P,1,none⟩) (Kd.b_9 (p:=⟨b_P,0,none⟩) (Kd.a_X a_t.out (fun k_ hk => (⟨hk,hk.2⟩ : _ ∧ k_ ≠ b_P))) (fun _ hk => hk.2) (.int .i64 ((a_n t368 x96_5).f0))) (fun _ hk => hk.2) (.int .i64 ((a_n t368 x96_5).f1))) (fun _ hk => ⟨hk.1.1,hk.1.2⟩)⟩,⟨by (with_reducible repeat (first|apply Kd.a_I|apply Kd.a_J|apply Kd.a_F));exact Kd.a_X (Kd.b_9 (p:=⟨b_P,1,none⟩) (Kd.b_9 (p:=⟨b_P,0,none⟩) (Kd.a_X a_A.out (fun k_ hk => (⟨hk,hk.2⟩ : _ ∧ k_ ≠ b_P))) (fun _ hk => hk.2) (.int .i64 ((a_n t368 x96_5).f0))) (fun _ hk => hk.2) (.int .i64 ((a_n t368 x96_5).f1))) (fun _ hk => ⟨hk.1.1.1,⟨hk.1.1.2,hk.1.2⟩⟩)⟩,⟨by (with_reducible repeat (first|refine a_l ?_ _|refine a_j ?_|refine a_k ?_ _));refine b_m ?_ c_Q.out _;(with_reducible repeat (first|refine a_l ?_ _|refine a_j ?_|refine a_k ?_ _));refine b_m ?_ c_Q.out _;(with_reducible repeat (first|refine a_l ?_ _|refine a_j ?_|refine a_k ?_ _));exact a_x.out⟩,⟨by (with_reducible repeat (first|refine a_l ?_ _|refine a_j ?_|refine a_k ?_ _));refine b_m ?_ c_R.out _;(with_reducible repeat (first|refine a_l ?_ _|refine a_j ?_|refine a_k ?_ _));refine b_m ?_ c_R.out _;(with_reducible repeat (first|refine a_l ?_ _|refine a_j ?_|refine a_k ?_ _));exact a_z.out⟩,⟨by (with_reducible repeat (first|refine a_l ?_ _|refine a_j ?_|refine a_k ?_ _));refine b_m ?_ c_S.out _;(with_reducible repeat (first|refine a_l ?_ _|refine a_j ?_|refine a_k ?_ _));refine b_m ?_ c_S.out _;(with_reducible repeat (first|refine a_l ?_ _|refine a_j ?_|refine a_k ?_ _));exact a_C.out⟩,⟨by (with_reducible repeat (first|refine a_l ?_ _|refine a_j ?_|refine a_k ?_ _));refine b_p (cs:=#[.int .i64 ((a_n t368 x96_5).f0),.int .i64 0]) ?_ 1 _ rfl;(with_reducible repeat (first|refine a_l ?_ _|refine a_j ?_|refine a_k ?_ _));refine b_p (cs:=#[.int .i64 0,.int .i64 0]) ?_ 0 _ rfl;(with_reducible repeat (first|refine a_l ?_ _|refine a_j ?_|refine a_k ?_ _));exact b_r.out⟩,⟨by repeat (first|(with_reducible first|exact HB.out|apply a_f|apply a_c|apply a_e|refine a_d ?_ a_R.out|refine a_d ?_ a_Y.out|refine a_d ?_ a_Z.out|refine a_d ?_ d_d.out)|exact HB.out)⟩⟩
            subst c100
            have H1 : (a_a.j5 k5 l0 l1 true (rd l1 x86_4) x15_5 x16_5 x96_5 l0 (l0.length : Int) x23_1 l1 (l1.length : Int) x86_4 t368 (t368.length : Int) x96_5 (((a_n t368 x96_5).f0) == (rd l1 x86_4)) t368 ((a_n t368 x96_5).f0) ((a_n t368 x96_5).f1)) = some r:=by rw [if_pos rfl] at H;exact H
            clear H
            have H:=H1
            clear H1
            have H':=a_b.mk H
            clear H
            have l_G:=f_a.out
            have l_R:=c_Q.out
            have l_H:=f_b.out
            have l_S:=c_R.out
            have l_I:=f_c.out
            have l_T:=c_S.out
            have i_d : w95.cell? ⟨b_P,0,none⟩ = some (.int .i64 0):=(a_h b_r.out 0).trans rfl
            have i_e : w95.cell? ⟨b_P,1,none⟩ = some (.int .i64 0):=(a_h b_r.out 1).trans rfl
            have i_f:=a_p b_r.out 0
            have i_g:=a_p b_r.out 1
            go_wp2
            go_meet
            case rel => exact ⟨_,((((a_n t368 x96_5).f0) == (rd l1 x86_4))),(by first|rfl|(simp;done)|(simp [*];done)),H',⟨by have:=HK1.out;have:=HJ16.out;have:=HK3.out;have:=HK4.out;have:=HK5.out;first|omega|exact Nat.le_refl _⟩,⟨by (with_reducible repeat (first|apply Kd.a_I|apply Kd.a_J|apply Kd.a_F));exact Kd.a_X (Kd.b_9 (p:=⟨b_P,1,none⟩) (Kd.b_9 (p:=⟨b_P,0,none⟩) (Kd.a_X b_t.out (fun k_ hk => (⟨hk,hk.2⟩ : _ ∧ k_ ≠ b_P))) (fun _ hk => hk.2) (.int .i64 ((a_n t368 x96_5).f0))) (fun _ hk => hk.2) (.int .i64 ((a_n t368 x96_5).f1))) (fun _ hk => ⟨hk.1.1,hk.1.2⟩)⟩,⟨by (with_reducible repeat (first|apply Kd.a_I|apply Kd.a_J|apply Kd.a_F));exact Kd.a_X (Kd.b_9 (p:=⟨b_P,1,none⟩) (Kd.b_9 (p:=⟨b_P,0,none⟩) (Kd.a_X a_t.out (fun k_ hk => (⟨hk,hk.2⟩ : _ ∧ k_ ≠ b_P))) (fun _ hk => hk.2) (.int .i64 ((a_n t368 x96_5).f0))) (fun _ hk => hk.2) (.int .i64 ((a_n t368 x96_5).f1))) (fun _ hk => ⟨hk.1.1,hk.1.2⟩)⟩,⟨by (with_reducible repeat (first|apply Kd.a_I|apply Kd.a_J|apply Kd.a_F));exact Kd.a_X (Kd.b_9 (p:=⟨b_P,1,none⟩) (Kd.b_9 (p:=⟨b_P,0,none⟩) (Kd.a_X a_A.out (fun k_ hk => (⟨hk,hk.2⟩ : _ ∧ k_ ≠ b_P))) (fun _ hk => hk.2) (.int .i64 ((a_n t368 x96_5).f0))) (fun _ hk => hk.2) (.int .i64 ((a_n t368 x96_5).f1))) (fun _ hk => ⟨hk.1.1.1,⟨hk.1.1.2,hk.1.2⟩⟩)⟩,⟨by (with_reducible repeat (first|refine a_l ?_ _|refine a_j ?_|refine a_k ?_ _));refine b_m ?_ c_Q.out _;(with_reducible repeat (first|refine a_l ?_ _|refine a_j ?_|refine a_k ?_ _));refine b_m ?_ c_Q.out _;(with_reducible repeat (first|refine a_l ?_ _|refine a_j ?_|refine a_k ?_ _));exact a_x.out⟩,⟨by (with_reducible repeat (first|refine a_l ?_ _|refine a_j ?_|refine a_k ?_ _));refine b_m ?_ c_R.out _;(with_reducible repeat (first|refine a_l ?_ _|refine a_j ?_|refine a_k ?_ _));refine b_m ?_ c_R.out _;(with_reducible repeat (first|refine a_l ?_ _|refine a_j ?_|refine a_k ?_ _));exact a_z.out⟩,⟨by (with_reducible repeat (first|refine a_l ?_ _|refine a_j ?_|refine a_k ?_ _));refine b_m ?_ c_S.out _;(with_reducible repeat (first|refine a_l ?_ _|refine a_j ?_|refine a_k ?_ _));refine b_m ?_ c_S.out _;(with_reducible repeat (first|refine a_l ?_ _|refine a_j ?_|refine a_k ?_ _));exact a_C.out⟩,⟨by (with_reducible repeat (first|refine a_l ?_ _|refine a_j ?_|refine a_k ?_ _));refine b_p (cs:=#[.int .i64 ((a_n t368 x96_5).f0),.int .i64 0]) ?_ 1 _ rfl;(with_reducible repeat (first|refine a_l ?_ _|refine a_j ?_|refine a_k ?_ _));refine b_p (cs:=#[.int .i64 0,.int .i64 0]) ?_ 0 _ rfl;(with_reducible repeat (first|refine a_l ?_ _|refine a_j ?_|refine a_k ?_ _));exact b_r.out⟩,⟨by repeat (first|(with_reducible first|exact HB.out|apply a_f|apply a_c|apply a_e|refine a_d ?_ a_R.out|refine a_d ?_ a_Y.out|refine a_d ?_ a_Z.out|refine a_d ?_ d_d.out)|exact HB.out)⟩⟩
           case rest =>
            clear HC94
            try clear c1
            try clear c2
            try clear p2
            try clear c3
            try clear p3
            try clear q3
            try clear hx3
            try clear c5
            try clear p6
            try clear c7
            try clear c8
            try clear c9
            try clear c10
            try clear c11
            try clear c14
            try clear c24
            try clear c30
            try clear c36
            try clear p39
            try clear q39
            try clear hx39
            try clear c54
            try clear c54b0
            try clear c54b1
            try clear p64
            try clear c70
            try clear c71
            try clear c72
            try clear c74
            try clear c74b0
            try clear c75
            try clear c76
            try clear c76b0
            try clear c76b1
            try clear c79
            try clear c79b0
            try clear c79b1
            try clear c80
            try clear c81
            try clear c84
            try clear c84b0
            try clear c85
            try clear c85b0
            try clear c86
            try clear c86b0
            try clear c87
            try clear c87b0
            try clear c87b1
            try clear c88
            try clear c89
            try clear c91
            try clear c91b0
            try clear c92
            try clear c92b0
            try clear c93
            try clear c93b0
            try clear c96
            try clear c97
            try clear c98
            try clear c100
            try clear c101
            try clear c102
            try clear c103
            try clear i_d
            try clear i_e
            try clear e_X
            try clear f_O
            try clear h_l
            try clear i_Z
            try clear i_0
            try clear i_f
            try clear i_g
            try clear e_Z
            try clear f_W
            try clear h_s
            try clear j_b
            try clear j_c
            try clear c_W
            try clear j_i
            try clear j_j
            try clear p2
            try clear p3
            try clear p39
            try clear p392
            try clear p393
            try clear p6
            try clear p64
            try clear q3
            try clear q39
            try clear q392
            try clear q393
            obtain ⟨kq,x107_93,rfl,HA,HJ93,b_t,a_t,a_A,a_x,a_z,a_C,b_r,HB⟩:=hcut
            cases kq with
            | zero => exact absurd HA.out (by simp [a_a.j5])
            | succ kj93 =>
             have H:=HA.out
             clear HA
             simp only [a_a.j5] at H
             by_cases c105 : x107_93 = true
             ·subst c105
              have H1 : (if 0 ≤ x96_5 then (if t377 = true then ((a_T.f t368 (rd l1 x86_4)).bind fun t395 => (if t395 = true then (if 0 ≤ (rd l1 x86_4) then (if (rd l1 x86_4) < (t368.length : Int) then (if (((a_n t368 x96_5).f0) == ((a_n t368 (rd l1 x86_4)).f0) && (((a_n t368 x96_5).f1) == ((a_n t368 (rd l1 x86_4)).f1))) = true then (a_a.l3 kj93 l0 l1 t377 (rd l1 x86_4) (Go.bits .or .u32 x15_5 (shl .u32 1 x96_5)) (Go.bits .or .u32 x16_5 (shl .u32 1 x96_5)) l0 (l0.length : Int) x23_1 l1 (l1.length : Int) x86_4 t368 (t368.length : Int) (wrap64 (x96_5 + 1)) t368) else (a_a.l3 kj93 l0 l1 t377 (rd l1 x86_4) (Go.bits .or .u32 x15_5 (shl .u32 1 x96_5)) x16_5 l0 (l0.length : Int) x23_1 l1 (l1.length : Int) x86_4 t368 (t368.length : Int) (wrap64 (x96_5 + 1)) t368)) else (none)) else (none)) else (a_a.l3 kj93 l0 l1 t377 (rd l1 x86_4) (Go.bits .or .u32 x15_5 (shl .u32 1 x96_5)) x16_5 l0 (l0.length : Int) x23_1 l1 (l1.length : Int) x86_4 t368 (t368.length : Int) (wrap64 (x96_5 + 1)) t368))) else (a_a.l3 kj93 l0 l1 t377 (rd l1 x86_4) (Go.bits .or .u32 x15_5 (shl .u32 1 x96_5)) x16_5 l0 (l0.length : Int) x23_1 l1 (l1.length : Int) x86_4 t368 (t368.length : Int) (wrap64 (x96_5 + 1)) t368)) else (none)) = some r:=by rw [if_pos rfl] at H;exact H
              clear H
              have H:=H1
              clear H1
              by_cases c106 : 0 ≤ x96_5
              rotate_left
              ·rw [if_neg c106] at H
               exact absurd H (by simp)
              rw [if_pos c106] at H
              have c106b0:=eq_true c106
              have c106b1 : decide (0 ≤ x96_5) = true:=decide_eq_true c106
              clear c106
              obtain ⟨ji107,hji107⟩ : ∃ j_ : Int,(shl .u32 1 x96_5) = j_:=⟨_,rfl⟩
              replace H : (if t377 = true then ((a_T.f t368 (rd l1 x86_4)).bind fun t395 => (if t395 = true then (if 0 ≤ (rd l1 x86_4) then (if (rd l1 x86_4) < (t368.length : Int) then (if (((a_n t368 x96_5).f0) == ((a_n t368 (rd l1 x86_4)).f0) && (((a_n t368 x96_5).f1) == ((a_n t368 (rd l1 x86_4)).f1))) = true then (a_a.l3 kj93 l0 l1 t377 (rd l1 x86_4) (Go.bits .or .u32 x15_5 (ji107)) (Go.bits .or .u32 x16_5 (ji107)) l0 (l0.length : Int) x23_1 l1 (l1.length : Int) x86_4 t368 (t368.length : Int) (wrap64 (x96_5 + 1)) t368) else (a_a.l3 kj93 l0 l1 t377 (rd l1 x86_4) (Go.bits .or .u32 x15_5 (ji107)) x16_5 l0 (l0.length : Int) x23_1 l1 (l1.length : Int) x86_4 t368 (t368.length : Int) (wrap64 (x96_5 + 1)) t368)) else (none)) else (none)) else (a_a.l3 kj93 l0 l1 t377 (rd l1 x86_4) (Go.bits .or .u32 x15_5 (ji107)) x16_5 l0 (l0.length : Int) x23_1 l1 (l1.length : Int) x86_4 t368 (t368.length : Int) (wrap64 (x96_5 + 1)) t368))) else (a_a.l3 kj93 l0 l1 t377 (rd l1 x86_4) (Go.bits .or .u32 x15_5 (ji107)) x16_5 l0 (l0.length : Int) x23_1 l1 (l1.length : Int) x86_4 t368 (t368.length : Int) (wrap64 (x96_5 + 1)) t368)) = some r:=by first|(rw [hji107] at H;exact H)|(simp only [hji107] at H ⊢; exact H)
              have hji107_ : (IntKind.u32.wrap (1 * 2 ^ min x96_5.toNat 32)) = ji107:=hji107
              have hji107z : x96_5 ≤ 32 → (IntKind.u32.wrap (1 * 2 ^ x96_5.toNat)) = ji107:=d_B hji107
              have hji107u : (IntKind.u32.wrap (2 ^ min x96_5.toNat 32)) = ji107:=by have h_:=hji107_;rw [Int.one_mul] at h_;exact h_
              have hji107v : x96_5 ≤ 32 → (IntKind.u32.wrap (2 ^ x96_5.toNat)) = ji107:=fun hle_ => by have h_:=hji107z hle_;rw [Int.one_mul] at h_;exact h_
              by_cases c108 : t377 = true
              rotate_left
              ·replace c108:=Bool.eq_false_iff.mpr c108
               subst c108
               have H1 : (a_a.l3 kj93 l0 l1 false (rd l1 x86_4) (Go.bits .or .u32 x15_5 (ji107)) x16_5 l0 (l0.length : Int) x23_1 l1 (l1.length : Int) x86_4 t368 (t368.length : Int) (wrap64 (x96_5 + 1)) t368) = some r:=by rw [if_neg (show ¬ (false = true) by decide)] at H;exact H
               clear H
               have H:=H1
               clear H1
               have H':=a_b.mk H
               clear H
               try go_wp2
               replace b_t:=a_b.mk (Kd.a_F b_t.out)
               replace a_t:=a_b.mk (Kd.a_F a_t.out)
               replace a_A:=a_b.mk (Kd.a_F a_A.out)
               replace a_x:=a_b.mk (a_j a_x.out)
               replace a_z:=a_b.mk (a_j a_z.out)
               replace a_C:=a_b.mk (a_j a_C.out)
               replace b_r:=a_b.mk (a_j b_r.out)
               replace HB:=a_b.mk (a_e HB.out)
               refine c_D (n:=15) (S:=fun w' => True) (ds:=[]) Z1_ (by kernel_rfl) rfl rfl trivial (fun hHeld => ?_);refine b_G a_a.f_y a_a.d_O (fun HT_ HW_ => ?_)
               generalize wc.drew = w122 at b_t a_t a_A a_x a_z a_C b_r HB hHeld ⊢
               refine pt_ 0 (some 112) Z3_ HT_ ?_
               refine pt_ 1 (some 113) Z6_ HT_ ?_
               refine pk_ 2 (some 114) #[T_,T_,T_,F_,F_,F_,F_,F_,F_,F_,F_,F_,F_,F_,F_] HT_ ?_
               refine pk_ 3 (some 115) Z10_ HT_ ?_
               refine pk_ 4 (some 116) Z12_ HT_ ?_
               refine pt_ 5 (some 117) Z17_ HT_ ?_
               refine pt_ 6 (some 118) Z20_ HT_ ?_
               refine pk_ 7 (some 119) Z25_ HT_ ?_
               refine pk_ 8 (some 120) Z28_ HT_ ?_
               refine pk_ 9 (some 121) Z31_ HT_ ?_
               refine pk_ 10 (some 122) Z33_ HT_ ?_
               refine pk_ 11 (some 123) Z35_ HT_ ?_
               refine pk_ 12 (some 124) Z38_ HT_ ?_
               refine pk_ 13 (some 125) Z40_ HT_ ?_
               refine pt_ 14 (some 126) Z57_ HT_ ?_
               refine c_5 (c_i HT_.out (by kernel_rfl)) ?_
               try go_wp2
               go_roundg kj93
               case measure => have:=HK1.out;have:=HJ16.out;have:=HK3.out;have:=HK4.out;have:=HK5.out;have:=HJ93.out;omega
               case rel => exact ⟨(Go.bits .or .u32 x15_5 (ji107)),(x16_5),(wrap64 (x96_5 + 1)),(by first|rfl|(simp;done)|(simp only [← hji107] <;> (first|rfl|simp))|(simp [*];done)),(by first|rfl|(simp;done)|(simp [*];done)),(by first|rfl|(simp;done)|(simp [*];done)),H',⟨by have:=HK1.out;have:=HJ16.out;have:=HK3.out;have:=HK4.out;have:=HK5.out;have:=HJ93.out;omega⟩,⟨by (with_reducible repeat (first|apply Kd.a_I|apply Kd.a_J|apply Kd.a_F));exact Kd.a_X b_t.out (fun _ hk => hk.1)⟩,⟨by (with_reducible repeat (first|apply Kd.a_I|apply Kd.a_J|apply Kd.a_F));exact Kd.a_X a_t.out (fun _ hk => hk.1)⟩,⟨by (with_reducible repeat (first|apply Kd.a_I|apply Kd.a_J|apply Kd.a_F));exact Kd.a_X a_A.out (fun _ hk => ⟨hk.1,hk.2.1⟩)⟩,⟨by (with_reducible repeat (first|refine a_l ?_ _|refine a_j ?_|refine a_k ?_ _));exact a_x.out⟩,⟨by (with_reducible repeat (first|refine a_l ?_ _|refine a_j ?_|refine a_k ?_ _));exact a_z.out⟩,⟨by (with_reducible repeat (first|refine a_l ?_ _|refine a_j ?_|refine a_k ?_ _));exact a_C.out⟩,⟨by repeat (first|(with_reducible first|exact HB.out|apply a_f|apply a_c|apply a_e|refine a_d ?_ a_R.out|refine a_d ?_ a_Y.out|refine a_d ?_ a_Z.out|refine a_d ?_ d_d.out)|exact HB.out)⟩⟩
              subst c108
              have H1 : ((a_T.f t368 (rd l1 x86_4)).bind fun t395 => (if t395 = true then (if 0 ≤ (rd l1 x86_4) then (if (rd l1 x86_4) < (t368.length : Int) then (if (((a_n t368 x96_5).f0) == ((a_n t368 (rd l1 x86_4)).f0) && (((a_n t368 x96_5).f1) == ((a_n t368 (rd l1 x86_4)).f1))) = true then (a_a.l3 kj93 l0 l1 true (rd l1 x86_4) (Go.bits .or .u32 x15_5 (ji107)) (Go.bits .or .u32 x16_5 (ji107)) l0 (l0.length : Int) x23_1 l1 (l1.length : Int) x86_4 t368 (t368.length : Int) (wrap64 (x96_5 + 1)) t368) else (a_a.l3 kj93 l0 l1 true (rd l1 x86_4) (Go.bits .or .u32 x15_5 (ji107)) x16_5 l0 (l0.length : Int) x23_1 l1 (l1.length : Int) x86_4 t368 (t368.length : Int) (wrap64 (x96_5 + 1)) t368)) else (none)) else (none)) else (a_a.l3 kj93 l0 l1 true (rd l1 x86_4) (Go.bits .or .u32 x15_5 (ji107)) x16_5 l0 (l0.length : Int) x23_1 l1 (l1.length : Int) x86_4 t368 (t368.length : Int) (wrap64 (x96_5 + 1)) t368))) = some r:=by rw [if_pos rfl] at H;exact H
              clear H
              have H:=H1
              clear H1
              replace H:=Option.bind_eq_some_iff.mp H
              obtain ⟨t395,A1090,H⟩:=H
              replace H : (if t395 = true then (if 0 ≤ (rd l1 x86_4) then (if (rd l1 x86_4) < (t368.length : Int) then (if (((a_n t368 x96_5).f0) == ((a_n t368 (rd l1 x86_4)).f0) && (((a_n t368 x96_5).f1) == ((a_n t368 (rd l1 x86_4)).f1))) = true then (a_a.l3 kj93 l0 l1 true (rd l1 x86_4) (Go.bits .or .u32 x15_5 (ji107)) (Go.bits .or .u32 x16_5 (ji107)) l0 (l0.length : Int) x23_1 l1 (l1.length : Int) x86_4 t368 (t368.length : Int) (wrap64 (x96_5 + 1)) t368) else (a_a.l3 kj93 l0 l1 true (rd l1 x86_4) (Go.bits .or .u32 x15_5 (ji107)) x16_5 l0 (l0.length : Int) x23_1 l1 (l1.length : Int) x86_4 t368 (t368.length : Int) (wrap64 (x96_5 + 1)) t368)) else (none)) else (none)) else (a_a.l3 kj93 l0 l1 true (rd l1 x86_4) (Go.bits .or .u32 x15_5 (ji107)) x16_5 l0 (l0.length : Int) x23_1 l1 (l1.length : Int) x86_4 t368 (t368.length : Int) (wrap64 (x96_5 + 1)) t368)) = some r:=H
              have A109:=a_b.mk A1090
              clear A1090
              by_cases c110 : t395 = true
              rotate_left
              ·replace c110:=Bool.eq_false_iff.mpr c110
               subst c110
               have H1 : (a_a.l3 kj93 l0 l1 true (rd l1 x86_4) (Go.bits .or .u32 x15_5 (ji107)) x16_5 l0 (l0.length : Int) x23_1 l1 (l1.length : Int) x86_4 t368 (t368.length : Int) (wrap64 (x96_5 + 1)) t368) = some r:=by rw [if_neg (show ¬ (false = true) by decide)] at H;exact H
               clear H
               have H:=H1
               clear H1
               have H':=a_b.mk H
               clear H
               try go_wp2
               replace b_t:=a_b.mk (Kd.a_F b_t.out)
               replace a_t:=a_b.mk (Kd.a_F a_t.out)
               replace a_A:=a_b.mk (Kd.a_F a_A.out)
               replace a_x:=a_b.mk (a_j a_x.out)
               replace a_z:=a_b.mk (a_j a_z.out)
               replace a_C:=a_b.mk (a_j a_C.out)
               replace b_r:=a_b.mk (a_j b_r.out)
               replace HB:=a_b.mk (a_e HB.out)
               refine c_D (n:=15) (S:=fun w' => w'.cell? ⟨a_U,0,none⟩ = some (.slice (some ad393) t368.length co27)) (ds:=[]) Z1_ (by kernel_rfl) rfl rfl ((a_h a_z.out 0).trans rfl) (fun hHeld => ?_);refine b_G a_a.f_y a_a.d_O (fun HT_ HW_ => ?_)
               generalize wc.drew = w120 at b_t a_t a_A a_x a_z a_C b_r HB hHeld ⊢
               refine pt_ 0 (some 112) Z3_ HT_ ?_
               refine pt_ 1 (some 113) Z6_ HT_ ?_
               refine pt_ 3 (some 115) Z7_ HT_ ?_
               refine b_L (i:=2) (N:=some 114) (v:=?_) (a':=?_) Z10_ rfl rfl (a_1 HT_.out HW_.out (by kernel_rfl)) (fun _ _ _ h => h) (Or.inl ⟨by rfl,?_⟩) hHeld ?_ ?_
               rotate_left
               ·intro w' s0
                go_simp
                with_reducible rfl
               rotate_left
               ·simp only [Act.put,sa_,sb_,sc_,a_8,a_7]
                rfl
               refine one_ (i:=4) (N:=some 116) Z12_ rfl rfl (b_K HT_.out (by kernel_rfl)) (by decide) (fun K hK => ?_)
               refine c_C Tryd.func18 (by kernel_rfl) rfl #[.agg #[.slice (some ad393) t368.length co27],.int .i64 (rd l1 x86_4)] (by rfl) rfl rfl (by (try simp only [List.map_toArray,List.map_cons,List.map_nil]);first|done|rfl|(simp only [List.length_drop,List.length_take];rfl)) ?_
               with_reducible refine (a_T.calls _ _ t368 (rd l1 x86_4) false _ ?side1 ?side2 A109.out).mono ?_
               (case side1 => repeat (first|exact (Kd.a_w a_t.out).2.2|(with_reducible refine Kd.a_M ?_ _)|(with_reducible refine Kd.a_N ?_ _)|(with_reducible refine Kd.a_2 ?_)))
               (case side2 => exact (Kd.a_w a_t.out).2.1)
               rintro e w121 ⟨rfl,hb⟩
               refine ⟨_,rfl,?_⟩
               replace b_t:=a_b.mk (Kd.a_B (rup_ b_t.out) hb)
               replace a_t:=a_b.mk (Kd.a_B (rup_ a_t.out) hb)
               replace a_A:=a_b.mk (Kd.a_B (rup_ a_A.out) hb)
               replace a_x:=a_b.mk (a_i (bup_ a_x.out) hb)
               replace a_z:=a_b.mk (a_i (bup_ a_z.out) hb)
               replace a_C:=a_b.mk (a_i (bup_ a_C.out) hb)
               replace b_r:=a_b.mk (a_i (bup_ b_r.out) hb)
               replace HB:=a_b.mk (a_m (by repeat (first|(with_reducible first|exact HB.out|apply a_f|apply a_c|apply a_e|refine a_d ?_ a_R.out|refine a_d ?_ a_Y.out|refine a_d ?_ a_Z.out|refine a_d ?_ d_d.out)|exact HB.out)) hb)
               (try clear hb)
               (try clear hb2)
               (try clear hk)
               (try clear hi)
               refine hK.out _ _ ((a_h a_z.out 0).trans rfl) (fun hHeld => ?_)
               clear hK K
               refine b_i (a':=?_) ?_ ?_
               rotate_left
               ·show Act.put _ (some 116) _ = _
                simp only [Act.put,sa_,sb_,sc_,a_8,a_7]
                rfl
               refine pt_ 5 (some 117) Z17_ HT_ ?_
               refine pt_ 6 (some 118) Z20_ HT_ ?_
               refine pk_ 7 (some 119) Z25_ HT_ ?_
               refine pk_ 8 (some 120) Z28_ HT_ ?_
               refine pk_ 9 (some 121) Z31_ HT_ ?_
               refine pk_ 10 (some 122) Z33_ HT_ ?_
               refine pk_ 11 (some 123) Z35_ HT_ ?_
               refine pk_ 12 (some 124) Z38_ HT_ ?_
               refine pk_ 13 (some 125) Z40_ HT_ ?_
               refine pt_ 14 (some 126) Z57_ HT_ ?_
               refine c_5 (c_i HT_.out (by kernel_rfl)) ?_
               try go_wp2
               go_roundg kj93
               case measure => have:=HK1.out;have:=HJ16.out;have:=HK3.out;have:=HK4.out;have:=HK5.out;have:=HJ93.out;omega
               case rel => exact ⟨(Go.bits .or .u32 x15_5 (ji107)),(x16_5),(wrap64 (x96_5 + 1)),(by first|rfl|(simp;done)|(simp only [← hji107] <;> (first|rfl|simp))|(simp [*];done)),(by first|rfl|(simp;done)|(simp [*];done)),(by first|rfl|(simp;done)|(simp [*];done)),H',⟨by have:=HK1.out;have:=HJ16.out;have:=HK3.out;have:=HK4.out;have:=HK5.out;have:=HJ93.out;omega⟩,⟨by (with_reducible repeat (first|apply Kd.a_I|apply Kd.a_J|apply Kd.a_F));exact Kd.a_X b_t.out (fun _ hk => hk.1)⟩,⟨by (with_reducible repeat (first|apply Kd.a_I|apply Kd.a_J|apply Kd.a_F));exact Kd.a_X a_t.out (fun _ hk => hk.1)⟩,⟨by (with_reducible repeat (first|apply Kd.a_I|apply Kd.a_J|apply Kd.a_F));exact Kd.a_X a_A.out (fun _ hk => ⟨hk.1,hk.2.1⟩)⟩,⟨by (with_reducible repeat (first|refine a_l ?_ _|refine a_j ?_|refine a_k ?_ _));exact a_x.out⟩,⟨by (with_reducible repeat (first|refine a_l ?_ _|refine a_j ?_|refine a_k ?_ _));exact a_z.out⟩,⟨by (with_reducible repeat (first|refine a_l ?_ _|refine a_j ?_|refine a_k ?_ _));exact a_C.out⟩,⟨by repeat (first|(with_reducible first|exact HB.out|apply a_f|apply a_c|apply a_e|refine a_d ?_ a_R.out|refine a_d ?_ a_Y.out|refine a_d ?_ a_Z.out|refine a_d ?_ d_d.out)|exact HB.out)⟩⟩
              subst c110
              have H1 : (if 0 ≤ (rd l1 x86_4) then (if (rd l1 x86_4) < (t368.length : Int) then (if (((a_n t368 x96_5).f0) == ((a_n t368 (rd l1 x86_4)).f0) && (((a_n t368 x96_5).f1) == ((a_n t368 (rd l1 x86_4)).f1))) = true then (a_a.l3 kj93 l0 l1 true (rd l1 x86_4) (Go.bits .or .u32 x15_5 (ji107)) (Go.bits .or .u32 x16_5 (ji107)) l0 (l0.length : Int) x23_1 l1 (l1.length : Int) x86_4 t368 (t368.length : Int) (wrap64 (x96_5 + 1)) t368) else (a_a.l3 kj93 l0 l1 true (rd l1 x86_4) (Go.bits .or .u32 x15_5 (ji107)) x16_5 l0 (l0.length : Int) x23_1 l1 (l1.length : Int) x86_4 t368 (t368.length : Int) (wrap64 (x96_5 + 1)) t368)) else (none)) else (none)) = some r:=by rw [if_pos rfl] at H;exact H
              clear H
              have H:=H1
              clear H1
              by_cases c111 : 0 ≤ (rd l1 x86_4)
              rotate_left
              ·rw [if_neg c111] at H
               exact absurd H (by simp)
              rw [if_pos c111] at H
              have c111b0 : decide (0 ≤ (rd l1 x86_4)) = true:=decide_eq_true c111
              clear c111
              by_cases c112 : (rd l1 x86_4) < (t368.length : Int)
              rotate_left
              ·rw [if_neg c112] at H
               exact absurd H (by simp)
              rw [if_pos c112] at H
              have c112b0 : decide ((rd l1 x86_4) < (t368.length : Int)) = true:=decide_eq_true c112
              clear c112
              by_cases c113 : (((a_n t368 x96_5).f0) == ((a_n t368 (rd l1 x86_4)).f0) && (((a_n t368 x96_5).f1) == ((a_n t368 (rd l1 x86_4)).f1))) = true
              ·rw [if_pos c113] at H
               have c113b0 : (((a_n t368 x96_5).f0) == ((a_n t368 (rd l1 x86_4)).f0) && (((a_n t368 x96_5).f1) == ((a_n t368 (rd l1 x86_4)).f1))) = true:=c113
               (try (have c113b1 : decide (((a_n t368 x96_5).f0) = ((a_n t368 (rd l1 x86_4)).f0) && (((a_n t368 x96_5).f1) == ((a_n t368 (rd l1 x86_4)).f1))) = true:=by simpa using c113))
               (try (have c113b2 : (((a_n t368 x96_5).f0) == ((a_n t368 (rd l1 x86_4)).f0) && (((a_n t368 x96_5).f1) == ((a_n t368 (rd l1 x86_4)).f1))) = true:=by simpa using c113))
               clear c113
               have c114b0:=eq_true (of_decide_eq_true (by first|(with_reducible assumption)|assumption) : 0 ≤ x96_5)
               have c115b0:=True.intro
               have H':=a_b.mk H
               clear H
               try go_wp2
               replace b_t:=a_b.mk (Kd.a_F b_t.out)
               replace a_t:=a_b.mk (Kd.a_F a_t.out)
               replace a_A:=a_b.mk (Kd.a_F a_A.out)
               replace a_x:=a_b.mk (a_j a_x.out)
               replace a_z:=a_b.mk (a_j a_z.out)
               replace a_C:=a_b.mk (a_j a_C.out)
               replace b_r:=a_b.mk (a_j b_r.out)
               replace HB:=a_b.mk (a_e HB.out)
               have p396 : 0 ≤ ((rd l1 x86_4) : Int):=of_decide_eq_true (by first|(with_reducible assumption)|assumption)
               have q396 : (rd l1 x86_4) < (t368.length : Int):=of_decide_eq_true (by first|(with_reducible assumption)|assumption)
               obtain ⟨ad396,e396,e_d,e_e⟩:=c_h (Kd.a_w a_t.out).2.2 (rd l1 x86_4) p396 q396
               obtain rfl : ad393 = ad396:=(by injection e396)
               replace p396:=eq_true p396
               replace q396:=eq_true q396
               refine c_D (n:=15) (S:=fun w' => w'.cell? ⟨a_U,0,none⟩ = some (.slice (some ad393) t368.length co27) ∧ w'.cell? ⟨b_P,0,none⟩ = some (.int .i64 ((a_n t368 x96_5).f0)) ∧ w'.cell? ⟨b_P,1,none⟩ = some (.int .i64 ((a_n t368 x96_5).f1)) ∧ w'.cell? (ad393.add (((rd l1 x86_4)).toNat * 2)) = some (.int .i64 ((a_n t368 (rd l1 x86_4)).f0)) ∧ w'.cell? ⟨(ad393.add (((rd l1 x86_4)).toNat * 2)).block,(ad393.add (((rd l1 x86_4)).toNat * 2)).off + 1,none⟩ = some (.int .i64 ((a_n t368 (rd l1 x86_4)).f1))) (ds:=[]) Z1_ (by kernel_rfl) rfl rfl ⟨(a_h a_z.out 0).trans rfl,(a_h b_r.out 0).trans rfl,(a_h b_r.out 1).trans rfl,e_d,e_e⟩ (fun hHeld => ?_);refine b_G a_a.f_y a_a.d_O (fun HT_ HW_ => ?_)
               generalize wc.drew = w116 at b_t a_t a_A a_x a_z a_C b_r HB e_d e_e hHeld ⊢
               refine pt_ 0 (some 112) Z3_ HT_ ?_
               refine pt_ 1 (some 113) Z6_ HT_ ?_
               refine pt_ 3 (some 115) Z7_ HT_ ?_
               refine b_L (i:=2) (N:=some 114) (v:=?_) (a':=?_) Z10_ rfl rfl (a_1 HT_.out HW_.out (by kernel_rfl)) (fun _ _ _ h => h) (Or.inl ⟨by rfl,?_⟩) hHeld ?_ ?_
               rotate_left
               ·rintro w' ⟨s0,s1,s2,s3,s4⟩
                go_simp
                with_reducible rfl
               rotate_left
               ·simp only [Act.put,sa_,sb_,sc_,a_8,a_7]
                rfl
               refine one_ (i:=4) (N:=some 116) Z12_ rfl rfl (b_K HT_.out (by kernel_rfl)) (by decide) (fun K hK => ?_)
               refine c_C Tryd.func18 (by kernel_rfl) rfl #[.agg #[.slice (some ad393) t368.length co27],.int .i64 (rd l1 x86_4)] (by rfl) rfl rfl (by (try simp only [List.map_toArray,List.map_cons,List.map_nil]);first|done|rfl|(simp only [List.length_drop,List.length_take];rfl)) ?_
               with_reducible refine (a_T.calls _ _ t368 (rd l1 x86_4) true _ ?side1 ?side2 A109.out).mono ?_
               (case side1 => repeat (first|exact (Kd.a_w a_t.out).2.2|(with_reducible refine Kd.a_M ?_ _)|(with_reducible refine Kd.a_N ?_ _)|(with_reducible refine Kd.a_2 ?_)))
               (case side2 => exact (Kd.a_w a_t.out).2.1)
               rintro e w117 ⟨rfl,hb⟩
               have HS3_:=(hb.cell (World.block_lt_of_cell? _ _ (hHeld.2.2.2.1))).trans (hHeld.2.2.2.1)
               have HS4_:=(hb.cell (World.block_lt_of_cell? _ _ (hHeld.2.2.2.2))).trans (hHeld.2.2.2.2)
               refine ⟨_,rfl,?_⟩
               replace b_t:=a_b.mk (Kd.a_B (rup_ b_t.out) hb)
               replace a_t:=a_b.mk (Kd.a_B (rup_ a_t.out) hb)
               replace a_A:=a_b.mk (Kd.a_B (rup_ a_A.out) hb)
               replace a_x:=a_b.mk (a_i (bup_ a_x.out) hb)
               replace a_z:=a_b.mk (a_i (bup_ a_z.out) hb)
               replace a_C:=a_b.mk (a_i (bup_ a_C.out) hb)
               replace b_r:=a_b.mk (a_i (bup_ b_r.out) hb)
               replace HB:=a_b.mk (a_m (by repeat (first|(with_reducible first|exact HB.out|apply a_f|apply a_c|apply a_e|refine a_d ?_ a_R.out|refine a_d ?_ a_Y.out|refine a_d ?_ a_Z.out|refine a_d ?_ d_d.out)|exact HB.out)) hb)
               (try clear hb)
               (try clear hb2)
               (try clear hk)
               (try clear hi)
               refine hK.out _ _ ⟨(a_h a_z.out 0).trans rfl,(a_h b_r.out 0).trans rfl,(a_h b_r.out 1).trans rfl,HS3_,HS4_⟩ (fun hHeld => ?_)
               clear hK K
               refine b_i (a':=?_) ?_ ?_
               rotate_left
               ·show Act.put _ (some 116) _ = _
                simp only [Act.put,sa_,sb_,sc_,a_8,a_7]
                rfl
               refine pt_ 5 (some 117) Z17_ HT_ ?_
               refine pt_ 6 (some 118) Z20_ HT_ ?_
               refine pt_ 8 (some 120) Z22_ HT_ ?_
               refine pt_ 10 (some 122) Z23_ HT_ ?_
               refine b_L (i:=7) (N:=some 119) (v:=?_) (a':=?_) Z29_ rfl rfl (a_1 HT_.out HW_.out (by kernel_rfl)) (fun _ _ _ h => h) (Or.inl ⟨by rfl,?_⟩) hHeld ?_ ?_
               rotate_left
               ·rintro w' ⟨s0,s1,s2,s3,s4⟩
                go_simp
                with_reducible rfl
               rotate_left
               ·simp only [Act.put,sa_,sb_,sc_,a_8,a_7]
                rfl
               refine b_L (i:=9) (N:=some 121) (v:=?_) (a':=?_) Z33_ rfl rfl (a_1 HT_.out HW_.out (by kernel_rfl)) (fun _ _ _ h => h) (Or.inl ⟨by rfl,?_⟩) hHeld ?_ ?_
               rotate_left
               ·rintro w' ⟨s0,s1,s2,s3,s4⟩
                go_simp
                with_reducible rfl
               rotate_left
               ·simp only [Act.put,sa_,sb_,sc_,a_8,a_7]
                rfl
               refine pt_ 11 (some 123) Z35_ HT_ ?_
               refine b_L (i:=12) (N:=some 124) (v:=?_) (a':=?_) Z38_ rfl rfl (a_1 HT_.out HW_.out (by kernel_rfl)) (fun _ _ _ h => h) (Or.inl ⟨by rfl,?_⟩) hHeld ?_ ?_
               rotate_left
               ·rintro w' ⟨s0,s1,s2,s3,s4⟩
                go_simp
                with_reducible rfl
               rotate_left
               ·simp only [Act.put,sa_,sb_,sc_,a_8,a_7]
                rfl
               refine pt_ 13 (some 125) Z40_ HT_ ?_
               refine pt_ 14 (some 126) Z57_ HT_ ?_
               refine c_5 (c_i HT_.out (by kernel_rfl)) ?_
               try go_wp2
               go_roundg kj93
               case measure => have:=HK1.out;have:=HJ16.out;have:=HK3.out;have:=HK4.out;have:=HK5.out;have:=HJ93.out;omega
               case rel => exact ⟨(Go.bits .or .u32 x15_5 (ji107)),(Go.bits .or .u32 x16_5 (ji107)),(wrap64 (x96_5 + 1)),(by first|rfl|(simp;done)|(simp only [← hji107] <;> (first|rfl|simp))|(simp [*];done)),(by first|rfl|(simp;done)|(simp only [← hji107] <;> (first|rfl|simp))|(simp [*];done)),(by first|rfl|(simp;done)|(simp [*];done)),H',⟨by have:=HK1.out;have:=HJ16.out;have:=HK3.out;have:=HK4.out;have:=HK5.out;have:=HJ93.out;omega⟩,⟨by (with_reducible repeat (first|apply Kd.a_I|apply Kd.a_J|apply Kd.a_F));exact Kd.a_X b_t.out (fun _ hk => hk.1)⟩,⟨by (with_reducible repeat (first|apply Kd.a_I|apply Kd.a_J|apply Kd.a_F));exact Kd.a_X a_t.out (fun _ hk => hk.1)⟩,⟨by (with_reducible repeat (first|apply Kd.a_I|apply Kd.a_J|apply Kd.a_F));exact Kd.a_X a_A.out (fun _ hk => ⟨hk.1,hk.2.1⟩)⟩,⟨by (with_reducible repeat (first|refine a_l ?_ _|refine a_j ?_|refine a_k ?_ _));exact a_x.out⟩,⟨by (with_reducible repeat (first|refine a_l ?_ _|refine a_j ?_|refine a_k ?_ _));exact a_z.out⟩,⟨by (with_reducible repeat (first|refine a_l ?_ _|refine a_j ?_|refine a_k ?_ _));exact a_C.out⟩,⟨by repeat (first|(with_reducible first|exact HB.out|apply a_f|apply a_c|apply a_e|refine a_d ?_ a_R.out|refine a_d ?_ a_Y.out|refine a_d ?_ a_Z.out|refine a_d ?_ d_d.out)|exact HB.out)⟩⟩
              rw [if_neg c113] at H
              have c113b0 : (((a_n t368 x96_5).f0) == ((a_n t368 (rd l1 x86_4)).f0) && (((a_n t368 x96_5).f1) == ((a_n t368 (rd l1 x86_4)).f1))) = false:=by simpa using c113
              (try (have c113b1 : decide (((a_n t368 x96_5).f0) = ((a_n t368 (rd l1 x86_4)).f0) && (((a_n t368 x96_5).f1) == ((a_n t368 (rd l1 x86_4)).f1))) = false:=by simpa using c113))
              (try (have c113b2 : (((a_n t368 x96_5).f0) == ((a_n t368 (rd l1 x86_4)).f0) && (((a_n t368 x96_5).f1) == ((a_n t368 (rd l1 x86_4)).f1))) = false:=by simpa using c113))
              (try (have c113b3 : ¬ (((a_n t368 x96_5).f0) = ((a_n t368 (rd l1 x86_4)).f0) && (((a_n t368 x96_5).f1) == ((a_n t368 (rd l1 x86_4)).f1))):=by simpa using c113))
              clear c113
              have H':=a_b.mk H
              clear H
              try go_wp2
              replace b_t:=a_b.mk (Kd.a_F b_t.out)
              replace a_t:=a_b.mk (Kd.a_F a_t.out)
              replace a_A:=a_b.mk (Kd.a_F a_A.out)
              replace a_x:=a_b.mk (a_j a_x.out)
              replace a_z:=a_b.mk (a_j a_z.out)
              replace a_C:=a_b.mk (a_j a_C.out)
              replace b_r:=a_b.mk (a_j b_r.out)
              replace HB:=a_b.mk (a_e HB.out)
              have p396 : 0 ≤ ((rd l1 x86_4) : Int):=of_decide_eq_true (by first|(with_reducible assumption)|assumption)
              have q396 : (rd l1 x86_4) < (t368.length : Int):=of_decide_eq_true (by first|(with_reducible assumption)|assumption)
              obtain ⟨ad396,e396,e_d,e_e⟩:=c_h (Kd.a_w a_t.out).2.2 (rd l1 x86_4) p396 q396
              obtain rfl : ad393 = ad396:=(by injection e396)
              replace p396:=eq_true p396
              replace q396:=eq_true q396
              refine c_D (n:=15) (S:=fun w' => w'.cell? ⟨a_U,0,none⟩ = some (.slice (some ad393) t368.length co27) ∧ w'.cell? ⟨b_P,0,none⟩ = some (.int .i64 ((a_n t368 x96_5).f0)) ∧ w'.cell? ⟨b_P,1,none⟩ = some (.int .i64 ((a_n t368 x96_5).f1)) ∧ w'.cell? (ad393.add (((rd l1 x86_4)).toNat * 2)) = some (.int .i64 ((a_n t368 (rd l1 x86_4)).f0)) ∧ w'.cell? ⟨(ad393.add (((rd l1 x86_4)).toNat * 2)).block,(ad393.add (((rd l1 x86_4)).toNat * 2)).off + 1,none⟩ = some (.int .i64 ((a_n t368 (rd l1 x86_4)).f1))) (ds:=[]) Z1_ (by kernel_rfl) rfl rfl ⟨(a_h a_z.out 0).trans rfl,(a_h b_r.out 0).trans rfl,(a_h b_r.out 1).trans rfl,e_d,e_e⟩ (fun hHeld => ?_);refine b_G a_a.f_y a_a.d_O (fun HT_ HW_ => ?_)
              generalize wc.drew = w118 at b_t a_t a_A a_x a_z a_C b_r HB e_d e_e hHeld ⊢
              refine pt_ 0 (some 112) Z3_ HT_ ?_
              refine pt_ 1 (some 113) Z6_ HT_ ?_
              refine pt_ 3 (some 115) Z7_ HT_ ?_
              refine b_L (i:=2) (N:=some 114) (v:=?_) (a':=?_) Z10_ rfl rfl (a_1 HT_.out HW_.out (by kernel_rfl)) (fun _ _ _ h => h) (Or.inl ⟨by rfl,?_⟩) hHeld ?_ ?_
              rotate_left
              ·rintro w' ⟨s0,s1,s2,s3,s4⟩
               go_simp
               with_reducible rfl
              rotate_left
              ·simp only [Act.put,sa_,sb_,sc_,a_8,a_7]
               rfl
              refine one_ (i:=4) (N:=some 116) Z12_ rfl rfl (b_K HT_.out (by kernel_rfl)) (by decide) (fun K hK => ?_)
              refine c_C Tryd.func18 (by kernel_rfl) rfl #[.agg #[.slice (some ad393) t368.length co27],.int .i64 (rd l1 x86_4)] (by rfl) rfl rfl (by (try simp only [List.map_toArray,List.map_cons,List.map_nil]);first|done|rfl|(simp only [List.length_drop,List.length_take];rfl)) ?_
              with_reducible refine (a_T.calls _ _ t368 (rd l1 x86_4) true _ ?side1 ?side2 A109.out).mono ?_
              (case side1 => repeat (first|exact (Kd.a_w a_t.out).2.2|(with_reducible refine Kd.a_M ?_ _)|(with_reducible refine Kd.a_N ?_ _)|(with_reducible refine Kd.a_2 ?_)))
              (case side2 => exact (Kd.a_w a_t.out).2.1)
              rintro e w119 ⟨rfl,hb⟩
              have HS3_:=(hb.cell (World.block_lt_of_cell? _ _ (hHeld.2.2.2.1))).trans (hHeld.2.2.2.1)
              have HS4_:=(hb.cell (World.block_lt_of_cell? _ _ (hHeld.2.2.2.2))).trans (hHeld.2.2.2.2)
              refine ⟨_,rfl,?_⟩
              replace b_t:=a_b.mk (Kd.a_B (rup_ b_t.out) hb)
              replace a_t:=a_b.mk (Kd.a_B (rup_ a_t.out) hb)
              replace a_A:=a_b.mk (Kd.a_B (rup_ a_A.out) hb)
              replace a_x:=a_b.mk (a_i (bup_ a_x.out) hb)
              replace a_z:=a_b.mk (a_i (bup_ a_z.out) hb)
              replace a_C:=a_b.mk (a_i (bup_ a_C.out) hb)
              replace b_r:=a_b.mk (a_i (bup_ b_r.out) hb)
              replace HB:=a_b.mk (a_m (by repeat (first|(with_reducible first|exact HB.out|apply a_f|apply a_c|apply a_e|refine a_d ?_ a_R.out|refine a_d ?_ a_Y.out|refine a_d ?_ a_Z.out|refine a_d ?_ d_d.out)|exact HB.out)) hb)
              (try clear hb)
              (try clear hb2)
              (try clear hk)
              (try clear hi)
              refine hK.out _ _ ⟨(a_h a_z.out 0).trans rfl,(a_h b_r.out 0).trans rfl,(a_h b_r.out 1).trans rfl,HS3_,HS4_⟩ (fun hHeld => ?_)
              clear hK K
              refine b_i (a':=?_) ?_ ?_
              rotate_left
              ·show Act.put _ (some 116) _ = _
               simp only [Act.put,sa_,sb_,sc_,a_8,a_7]
               rfl
              refine pt_ 5 (some 117) Z17_ HT_ ?_
              refine pt_ 6 (some 118) Z20_ HT_ ?_
              refine pt_ 8 (some 120) Z22_ HT_ ?_
              refine pt_ 10 (some 122) Z23_ HT_ ?_
              refine b_L (i:=7) (N:=some 119) (v:=?_) (a':=?_) Z29_ rfl rfl (a_1 HT_.out HW_.out (by kernel_rfl)) (fun _ _ _ h => h) (Or.inl ⟨by rfl,?_⟩) hHeld ?_ ?_
              rotate_left
              ·rintro w' ⟨s0,s1,s2,s3,s4⟩
               go_simp
               with_reducible rfl
              rotate_left
              ·simp only [Act.put,sa_,sb_,sc_,a_8,a_7]
               rfl
              refine b_L (i:=9) (N:=some 121) (v:=?_) (a':=?_) Z33_ rfl rfl (a_1 HT_.out HW_.out (by kernel_rfl)) (fun _ _ _ h => h) (Or.inl ⟨by rfl,?_⟩) hHeld ?_ ?_
              rotate_left
              ·rintro w' ⟨s0,s1,s2,s3,s4⟩
               go_simp
               with_reducible rfl
              rotate_left
              ·simp only [Act.put,sa_,sb_,sc_,a_8,a_7]
               rfl
              refine pt_ 11 (some 123) Z35_ HT_ ?_
              refine b_L (i:=12) (N:=some 124) (v:=?_) (a':=?_) Z38_ rfl rfl (a_1 HT_.out HW_.out (by kernel_rfl)) (fun _ _ _ h => h) (Or.inl ⟨by rfl,?_⟩) hHeld ?_ ?_
              rotate_left
              ·rintro w' ⟨s0,s1,s2,s3,s4⟩
               go_simp
               with_reducible rfl
              rotate_left
              ·simp only [Act.put,sa_,sb_,sc_,a_8,a_7]
               rfl
              refine pt_ 13 (some 125) Z40_ HT_ ?_
              refine pt_ 14 (some 126) Z57_ HT_ ?_
              refine c_5 (c_i HT_.out (by kernel_rfl)) ?_
              try go_wp2
              go_roundg kj93
              case measure => have:=HK1.out;have:=HJ16.out;have:=HK3.out;have:=HK4.out;have:=HK5.out;have:=HJ93.out;omega
              case rel => exact ⟨(Go.bits .or .u32 x15_5 (ji107)),(x16_5),(wrap64 (x96_5 + 1)),(by first|rfl|(simp;done)|(simp only [← hji107] <;> (first|rfl|simp))|(simp [*];done)),(by first|rfl|(simp;done)|(simp [*];done)),(by first|rfl|(simp;done)|(simp [*];done)),H',⟨by have:=HK1.out;have:=HJ16.out;have:=HK3.out;have:=HK4.out;have:=HK5.out;have:=HJ93.out;omega⟩,⟨by (with_reducible repeat (first|apply Kd.a_I|apply Kd.a_J|apply Kd.a_F));exact Kd.a_X b_t.out (fun _ hk => hk.1)⟩,⟨by (with_reducible repeat (first|apply Kd.a_I|apply Kd.a_J|apply Kd.a_F));exact Kd.a_X a_t.out (fun _ hk => hk.1)⟩,⟨by (with_reducible repeat (first|apply Kd.a_I|apply Kd.a_J|apply Kd.a_F));exact Kd.a_X a_A.out (fun _ hk => ⟨hk.1,hk.2.1⟩)⟩,⟨by (with_reducible repeat (first|refine a_l ?_ _|refine a_j ?_|refine a_k ?_ _));exact a_x.out⟩,⟨by (with_reducible repeat (first|refine a_l ?_ _|refine a_j ?_|refine a_k ?_ _));exact a_z.out⟩,⟨by (with_reducible repeat (first|refine a_l ?_ _|refine a_j ?_|refine a_k ?_ _));exact a_C.out⟩,⟨by repeat (first|(with_reducible first|exact HB.out|apply a_f|apply a_c|apply a_e|refine a_d ?_ a_R.out|refine a_d ?_ a_Y.out|refine a_d ?_ a_Z.out|refine a_d ?_ d_d.out)|exact HB.out)⟩⟩
             replace c105:=Bool.eq_false_iff.mpr c105
             subst c105
             have H1 : (if t377 = true then ((a_T.f t368 (rd l1 x86_4)).bind fun t397 => (if t397 = true then (if 0 ≤ (rd l1 x86_4) then (if (rd l1 x86_4) < (t368.length : Int) then (if (((a_n t368 x96_5).f0) == ((a_n t368 (rd l1 x86_4)).f0) && (((a_n t368 x96_5).f1) == ((a_n t368 (rd l1 x86_4)).f1))) = true then (if 0 ≤ x96_5 then (a_a.l3 kj93 l0 l1 t377 (rd l1 x86_4) x15_5 (Go.bits .or .u32 x16_5 (shl .u32 1 x96_5)) l0 (l0.length : Int) x23_1 l1 (l1.length : Int) x86_4 t368 (t368.length : Int) (wrap64 (x96_5 + 1)) t368) else (none)) else (a_a.l3 kj93 l0 l1 t377 (rd l1 x86_4) x15_5 x16_5 l0 (l0.length : Int) x23_1 l1 (l1.length : Int) x86_4 t368 (t368.length : Int) (wrap64 (x96_5 + 1)) t368)) else (none)) else (none)) else (a_a.l3 kj93 l0 l1 t377 (rd l1 x86_4) x15_5 x16_5 l0 (l0.length : Int) x23_1 l1 (l1.length : Int) x86_4 t368 (t368.length : Int) (wrap64 (x96_5 + 1)) t368))) else (a_a.l3 kj93 l0 l1 t377 (rd l1 x86_4) x15_5 x16_5 l0 (l0.length : Int) x23_1 l1 (l1.length : Int) x86_4 t368 (t368.length : Int) (wrap64 (x96_5 + 1)) t368)) = some r:=by rw [if_neg (show ¬ (false = true) by decide)] at H;exact H
             clear H
             have H:=H1
             clear H1
             by_cases c123 : t377 = true
             rotate_left
             ·replace c123:=Bool.eq_false_iff.mpr c123
              subst c123
              have H1 : (a_a.l3 kj93 l0 l1 false (rd l1 x86_4) x15_5 x16_5 l0 (l0.length : Int) x23_1 l1 (l1.length : Int) x86_4 t368 (t368.length : Int) (wrap64 (x96_5 + 1)) t368) = some r:=by rw [if_neg (show ¬ (false = true) by decide)] at H;exact H
              clear H
              have H:=H1
              clear H1
              have H':=a_b.mk H
              clear H
              try go_wp2
              replace b_t:=a_b.mk (Kd.a_F b_t.out)
              replace a_t:=a_b.mk (Kd.a_F a_t.out)
              replace a_A:=a_b.mk (Kd.a_F a_A.out)
              replace a_x:=a_b.mk (a_j a_x.out)
              replace a_z:=a_b.mk (a_j a_z.out)
              replace a_C:=a_b.mk (a_j a_C.out)
              replace b_r:=a_b.mk (a_j b_r.out)
              replace HB:=a_b.mk (a_e HB.out)
              refine c_D (n:=15) (S:=fun w' => True) (ds:=[]) Z1_ (by kernel_rfl) rfl rfl trivial (fun hHeld => ?_);refine b_G a_a.f_y a_a.d_O (fun HT_ HW_ => ?_)
              generalize wc.drew = w137 at b_t a_t a_A a_x a_z a_C b_r HB hHeld ⊢
              refine pt_ 0 (some 112) Z3_ HT_ ?_
              refine pt_ 1 (some 113) Z6_ HT_ ?_
              refine pk_ 2 (some 114) #[T_,T_,T_,F_,F_,F_,F_,F_,F_,F_,F_,F_,F_,F_,F_] HT_ ?_
              refine pk_ 3 (some 115) Z10_ HT_ ?_
              refine pk_ 4 (some 116) Z12_ HT_ ?_
              refine pt_ 5 (some 117) Z17_ HT_ ?_
              refine pt_ 6 (some 118) Z20_ HT_ ?_
              refine pk_ 7 (some 119) Z25_ HT_ ?_
              refine pk_ 8 (some 120) Z28_ HT_ ?_
              refine pk_ 9 (some 121) Z31_ HT_ ?_
              refine pk_ 10 (some 122) Z33_ HT_ ?_
              refine pk_ 11 (some 123) Z35_ HT_ ?_
              refine pk_ 12 (some 124) Z38_ HT_ ?_
              refine pk_ 13 (some 125) Z40_ HT_ ?_
              refine pt_ 14 (some 126) Z57_ HT_ ?_
              refine c_5 (c_i HT_.out (by kernel_rfl)) ?_
              try go_wp2
              go_roundg kj93
              case measure => have:=HK1.out;have:=HJ16.out;have:=HK3.out;have:=HK4.out;have:=HK5.out;have:=HJ93.out;omega
              case rel => exact ⟨(x15_5),(x16_5),(wrap64 (x96_5 + 1)),(by first|rfl|(simp;done)|(simp [*];done)),(by first|rfl|(simp;done)|(simp [*];done)),(by first|rfl|(simp;done)|(simp [*];done)),H',⟨by have:=HK1.out;have:=HJ16.out;have:=HK3.out;have:=HK4.out;have:=HK5.out;have:=HJ93.out;omega⟩,⟨by (with_reducible repeat (first|apply Kd.a_I|apply Kd.a_J|apply Kd.a_F));exact Kd.a_X b_t.out (fun _ hk => hk.1)⟩,⟨by (with_reducible repeat (first|apply Kd.a_I|apply Kd.a_J|apply Kd.a_F));exact Kd.a_X a_t.out (fun _ hk => hk.1)⟩,⟨by (with_reducible repeat (first|apply Kd.a_I|apply Kd.a_J|apply Kd.a_F));exact Kd.a_X a_A.out (fun _ hk => ⟨hk.1,hk.2.1⟩)⟩,⟨by (with_reducible repeat (first|refine a_l ?_ _|refine a_j ?_|refine a_k ?_ _));exact a_x.out⟩,⟨by (with_reducible repeat (first|refine a_l ?_ _|refine a_j ?_|refine a_k ?_ _));exact a_z.out⟩,⟨by (with_reducible repeat (first|refine a_l ?_ _|refine a_j ?_|refine a_k ?_ _));exact a_C.out⟩,⟨by repeat (first|(with_reducible first|exact HB.out|apply a_f|apply a_c|apply a_e|refine a_d ?_ a_R.out|refine a_d ?_ a_Y.out|refine a_d ?_ a_Z.out|refine a_d ?_ d_d.out)|exact HB.out)⟩⟩
             subst c123
             have H1 : ((a_T.f t368 (rd l1 x86_4)).bind fun t397 => (if t397 = true then (if 0 ≤ (rd l1 x86_4) then (if (rd l1 x86_4) < (t368.length : Int) then (if (((a_n t368 x96_5).f0) == ((a_n t368 (rd l1 x86_4)).f0) && (((a_n t368 x96_5).f1) == ((a_n t368 (rd l1 x86_4)).f1))) = true then (if 0 ≤ x96_5 then (a_a.l3 kj93 l0 l1 true (rd l1 x86_4) x15_5 (Go.bits .or .u32 x16_5 (shl .u32 1 x96_5)) l0 (l0.length : Int) x23_1 l1 (l1.length : Int) x86_4 t368 (t368.length : Int) (wrap64 (x96_5 + 1)) t368) else (none)) else (a_a.l3 kj93 l0 l1 true (rd l1 x86_4) x15_5 x16_5 l0 (l0.length : Int) x23_1 l1 (l1.length : Int) x86_4 t368 (t368.length : Int) (wrap64 (x96_5 + 1)) t368)) else (none)) else (none)) else (a_a.l3 kj93 l0 l1 true (rd l1 x86_4) x15_5 x16_5 l0 (l0.length : Int) x23_1 l1 (l1.length : Int) x86_4 t368 (t368.length : Int) (wrap64 (x96_5 + 1)) t368))) = some r:=by rw [if_pos rfl] at H;exact H
             clear H
             have H:=H1
             clear H1
             replace H:=Option.bind_eq_some_iff.mp H
             obtain ⟨t397,A1240,H⟩:=H
             replace H : (if t397 = true then (if 0 ≤ (rd l1 x86_4) then (if (rd l1 x86_4) < (t368.length : Int) then (if (((a_n t368 x96_5).f0) == ((a_n t368 (rd l1 x86_4)).f0) && (((a_n t368 x96_5).f1) == ((a_n t368 (rd l1 x86_4)).f1))) = true then (if 0 ≤ x96_5 then (a_a.l3 kj93 l0 l1 true (rd l1 x86_4) x15_5 (Go.bits .or .u32 x16_5 (shl .u32 1 x96_5)) l0 (l0.length : Int) x23_1 l1 (l1.length : Int) x86_4 t368 (t368.length : Int) (wrap64 (x96_5 + 1)) t368) else (none)) else (a_a.l3 kj93 l0 l1 true (rd l1 x86_4) x15_5 x16_5 l0 (l0.length : Int) x23_1 l1 (l1.length : Int) x86_4 t368 (t368.length : Int) (wrap64 (x96_5 + 1)) t368)) else (none)) else (none)) else (a_a.l3 kj93 l0 l1 true (rd l1 x86_4) x15_5 x16_5 l0 (l0.length : Int) x23_1 l1 (l1.length : Int) x86_4 t368 (t368.length : Int) (wrap64 (x96_5 + 1)) t368)) = some r:=H
             have A124:=a_b.mk A1240
             clear A1240
             by_cases c125 : t397 = true
             rotate_left
             ·replace c125:=Bool.eq_false_iff.mpr c125
              subst c125
              have H1 : (a_a.l3 kj93 l0 l1 true (rd l1 x86_4) x15_5 x16_5 l0 (l0.length : Int) x23_1 l1 (l1.length : Int) x86_4 t368 (t368.length : Int) (wrap64 (x96_5 + 1)) t368) = some r:=by rw [if_neg (show ¬ (false = true) by decide)] at H;exact H
              clear H
              have H:=H1
              clear H1
              have H':=a_b.mk H
              clear H
              try go_wp2
              replace b_t:=a_b.mk (Kd.a_F b_t.out)
              replace a_t:=a_b.mk (Kd.a_F a_t.out)
              replace a_A:=a_b.mk (Kd.a_F a_A.out)
              replace a_x:=a_b.mk (a_j a_x.out)
              replace a_z:=a_b.mk (a_j a_z.out)
              replace a_C:=a_b.mk (a_j a_C.out)
              replace b_r:=a_b.mk (a_j b_r.out)
              replace HB:=a_b.mk (a_e HB.out)
              refine c_D (n:=15) (S:=fun w' => w'.cell? ⟨a_U,0,none⟩ = some (.slice (some ad393) t368.length co27)) (ds:=[]) Z1_ (by kernel_rfl) rfl rfl ((a_h a_z.out 0).trans rfl) (fun hHeld => ?_);refine b_G a_a.f_y a_a.d_O (fun HT_ HW_ => ?_)
              generalize wc.drew = w135 at b_t a_t a_A a_x a_z a_C b_r HB hHeld ⊢
              refine pt_ 0 (some 112) Z3_ HT_ ?_
              refine pt_ 1 (some 113) Z6_ HT_ ?_
              refine pt_ 3 (some 115) Z7_ HT_ ?_
              refine b_L (i:=2) (N:=some 114) (v:=?_) (a':=?_) Z10_ rfl rfl (a_1 HT_.out HW_.out (by kernel_rfl)) (fun _ _ _ h => h) (Or.inl ⟨by rfl,?_⟩) hHeld ?_ ?_
              rotate_left
              ·intro w' s0
               go_simp
               with_reducible rfl
              rotate_left
              ·simp only [Act.put,sa_,sb_,sc_,a_8,a_7]
               rfl
              refine one_ (i:=4) (N:=some 116) Z12_ rfl rfl (b_K HT_.out (by kernel_rfl)) (by decide) (fun K hK => ?_)
              refine c_C Tryd.func18 (by kernel_rfl) rfl #[.agg #[.slice (some ad393) t368.length co27],.int .i64 (rd l1 x86_4)] (by rfl) rfl rfl (by (try simp only [List.map_toArray,List.map_cons,List.map_nil]);first|done|rfl|(simp only [List.length_drop,List.length_take];rfl)) ?_
              with_reducible refine (a_T.calls _ _ t368 (rd l1 x86_4) false _ ?side1 ?side2 A124.out).mono ?_
              (case side1 => repeat (first|exact (Kd.a_w a_t.out).2.2|(with_reducible refine Kd.a_M ?_ _)|(with_reducible refine Kd.a_N ?_ _)|(with_reducible refine Kd.a_2 ?_)))
              (case side2 => exact (Kd.a_w a_t.out).2.1)
              rintro e w136 ⟨rfl,hb⟩
              refine ⟨_,rfl,?_⟩
              replace b_t:=a_b.mk (Kd.a_B (rup_ b_t.out) hb)
              replace a_t:=a_b.mk (Kd.a_B (rup_ a_t.out) hb)
              replace a_A:=a_b.mk (Kd.a_B (rup_ a_A.out) hb)
              replace a_x:=a_b.mk (a_i (bup_ a_x.out) hb)
              replace a_z:=a_b.mk (a_i (bup_ a_z.out) hb)
              replace a_C:=a_b.mk (a_i (bup_ a_C.out) hb)
              replace b_r:=a_b.mk (a_i (bup_ b_r.out) hb)
              replace HB:=a_b.mk (a_m (by repeat (first|(with_reducible first|exact HB.out|apply a_f|apply a_c|apply a_e|refine a_d ?_ a_R.out|refine a_d ?_ a_Y.out|refine a_d ?_ a_Z.out|refine a_d ?_ d_d.out)|exact HB.out)) hb)
              (try clear hb)
              (try clear hb2)
              (try clear hk)
              (try clear hi)
              refine hK.out _ _ ((a_h a_z.out 0).trans rfl) (fun hHeld => ?_)
              clear hK K
              refine b_i (a':=?_) ?_ ?_
              rotate_left
              ·show Act.put _ (some 116) _ = _
               simp only [Act.put,sa_,sb_,sc_,a_8,a_7]
               rfl
              refine pt_ 5 (some 117) Z17_ HT_ ?_
              refine pt_ 6 (some 118) Z20_ HT_ ?_
              refine pk_ 7 (some 119) Z25_ HT_ ?_
              refine pk_ 8 (some 120) Z28_ HT_ ?_
              refine pk_ 9 (some 121) Z31_ HT_ ?_
              refine pk_ 10 (some 122) Z33_ HT_ ?_
              refine pk_ 11 (some 123) Z35_ HT_ ?_
              refine pk_ 12 (some 124) Z38_ HT_ ?_
              refine pk_ 13 (some 125) Z40_ HT_ ?_
              refine pt_ 14 (some 126) Z57_ HT_ ?_
              refine c_5 (c_i HT_.out (by kernel_rfl)) ?_
              try go_wp2
              go_roundg kj93
              case measure => have:=HK1.out;have:=HJ16.out;have:=HK3.out;have:=HK4.out;have:=HK5.out;have:=HJ93.out;omega
              case rel => exact ⟨(x15_5),(x16_5),(wrap64 (x96_5 + 1)),(by first|rfl|(simp;done)|(simp [*];done)),(by first|rfl|(simp;done)|(simp [*];done)),(by first|rfl|(simp;done)|(simp [*];done)),H',⟨by have:=HK1.out;have:=HJ16.out;have:=HK3.out;have:=HK4.out;have:=HK5.out;have:=HJ93.out;omega⟩,⟨by (with_reducible repeat (first|apply Kd.a_I|apply Kd.a_J|apply Kd.a_F));exact Kd.a_X b_t.out (fun _ hk => hk.1)⟩,⟨by (with_reducible repeat (first|apply Kd.a_I|apply Kd.a_J|apply Kd.a_F));exact Kd.a_X a_t.out (fun _ hk => hk.1)⟩,⟨by (with_reducible repeat (first|apply Kd.a_I|apply Kd.a_J|apply Kd.a_F));exact Kd.a_X a_A.out (fun _ hk => ⟨hk.1,hk.2.1⟩)⟩,⟨by (with_reducible repeat (first|refine a_l ?_ _|refine a_j ?_|refine a_k ?_ _));exact a_x.out⟩,⟨by (with_reducible repeat (first|refine a_l ?_ _|refine a_j ?_|refine a_k ?_ _));exact a_z.out⟩,⟨by (with_reducible repeat (first|refine a_l ?_ _|refine a_j ?_|refine a_k ?_ _));exact a_C.out⟩,⟨by repeat (first|(with_reducible first|exact HB.out|apply a_f|apply a_c|apply a_e|refine a_d ?_ a_R.out|refine a_d ?_ a_Y.out|refine a_d ?_ a_Z.out|refine a_d ?_ d_d.out)|exact HB.out)⟩⟩
             subst c125
             have H1 : (if 0 ≤ (rd l1 x86_4) then (if (rd l1 x86_4) < (t368.length : Int) then (if (((a_n t368 x96_5).f0) == ((a_n t368 (rd l1 x86_4)).f0) && (((a_n t368 x96_5).f1) == ((a_n t368 (rd l1 x86_4)).f1))) = true then (if 0 ≤ x96_5 then (a_a.l3 kj93 l0 l1 true (rd l1 x86_4) x15_5 (Go.bits .or .u32 x16_5 (shl .u32 1 x96_5)) l0 (l0.length : Int) x23_1 l1 (l1.length : Int) x86_4 t368 (t368.length : Int) (wrap64 (x96_5 + 1)) t368) else (none)) else (a_a.l3 kj93 l0 l1 true (rd l1 x86_4) x15_5 x16_5 l0 (l0.length : Int) x23_1 l1 (l1.length : Int) x86_4 t368 (t368.length : Int) (wrap64 (x96_5 + 1)) t368)) else (none)) else (none)) = some r:=by rw [if_pos rfl] at H;exact H
             clear H
             have H:=H1
             clear H1
             by_cases c126 : 0 ≤ (rd l1 x86_4)
             rotate_left
             ·rw [if_neg c126] at H
              exact absurd H (by simp)
             rw [if_pos c126] at H
             have c126b0 : decide (0 ≤ (rd l1 x86_4)) = true:=decide_eq_true c126
             clear c126
             by_cases c127 : (rd l1 x86_4) < (t368.length : Int)
             rotate_left
             ·rw [if_neg c127] at H
              exact absurd H (by simp)
             rw [if_pos c127] at H
             have c127b0 : decide ((rd l1 x86_4) < (t368.length : Int)) = true:=decide_eq_true c127
             clear c127
             by_cases c128 : (((a_n t368 x96_5).f0) == ((a_n t368 (rd l1 x86_4)).f0) && (((a_n t368 x96_5).f1) == ((a_n t368 (rd l1 x86_4)).f1))) = true
             rotate_left
             ·rw [if_neg c128] at H
              have c128b0 : (((a_n t368 x96_5).f0) == ((a_n t368 (rd l1 x86_4)).f0) && (((a_n t368 x96_5).f1) == ((a_n t368 (rd l1 x86_4)).f1))) = false:=by simpa using c128
              (try (have c128b1 : decide (((a_n t368 x96_5).f0) = ((a_n t368 (rd l1 x86_4)).f0) && (((a_n t368 x96_5).f1) == ((a_n t368 (rd l1 x86_4)).f1))) = false:=by simpa using c128))
              (try (have c128b2 : (((a_n t368 x96_5).f0) == ((a_n t368 (rd l1 x86_4)).f0) && (((a_n t368 x96_5).f1) == ((a_n t368 (rd l1 x86_4)).f1))) = false:=by simpa using c128))
              (try (have c128b3 : ¬ (((a_n t368 x96_5).f0) = ((a_n t368 (rd l1 x86_4)).f0) && (((a_n t368 x96_5).f1) == ((a_n t368 (rd l1 x86_4)).f1))):=by simpa using c128))
              clear c128
              have H':=a_b.mk H
              clear H
              try go_wp2
              replace b_t:=a_b.mk (Kd.a_F b_t.out)
              replace a_t:=a_b.mk (Kd.a_F a_t.out)
              replace a_A:=a_b.mk (Kd.a_F a_A.out)
              replace a_x:=a_b.mk (a_j a_x.out)
              replace a_z:=a_b.mk (a_j a_z.out)
              replace a_C:=a_b.mk (a_j a_C.out)
              replace b_r:=a_b.mk (a_j b_r.out)
              replace HB:=a_b.mk (a_e HB.out)
              have p398 : 0 ≤ ((rd l1 x86_4) : Int):=of_decide_eq_true (by first|(with_reducible assumption)|assumption)
              have q398 : (rd l1 x86_4) < (t368.length : Int):=of_decide_eq_true (by first|(with_reducible assumption)|assumption)
              obtain ⟨ad398,e398,e_f,e_g⟩:=c_h (Kd.a_w a_t.out).2.2 (rd l1 x86_4) p398 q398
              obtain rfl : ad393 = ad398:=(by injection e398)
              replace p398:=eq_true p398
              replace q398:=eq_true q398
              refine c_D (n:=15) (S:=fun w' => w'.cell? ⟨a_U,0,none⟩ = some (.slice (some ad393) t368.length co27) ∧ w'.cell? ⟨b_P,0,none⟩ = some (.int .i64 ((a_n t368 x96_5).f0)) ∧ w'.cell? ⟨b_P,1,none⟩ = some (.int .i64 ((a_n t368 x96_5).f1)) ∧ w'.cell? (ad393.add (((rd l1 x86_4)).toNat * 2)) = some (.int .i64 ((a_n t368 (rd l1 x86_4)).f0)) ∧ w'.cell? ⟨(ad393.add (((rd l1 x86_4)).toNat * 2)).block,(ad393.add (((rd l1 x86_4)).toNat * 2)).off + 1,none⟩ = some (.int .i64 ((a_n t368 (rd l1 x86_4)).f1))) (ds:=[]) Z1_ (by kernel_rfl) rfl rfl ⟨(a_h a_z.out 0).trans rfl,(a_h b_r.out 0).trans rfl,(a_h b_r.out 1).trans rfl,e_f,e_g⟩ (fun hHeld => ?_);refine b_G a_a.f_y a_a.d_O (fun HT_ HW_ => ?_)
              generalize wc.drew = w133 at b_t a_t a_A a_x a_z a_C b_r HB e_f e_g hHeld ⊢
              refine pt_ 0 (some 112) Z3_ HT_ ?_
              refine pt_ 1 (some 113) Z6_ HT_ ?_
              refine pt_ 3 (some 115) Z7_ HT_ ?_
              refine b_L (i:=2) (N:=some 114) (v:=?_) (a':=?_) Z10_ rfl rfl (a_1 HT_.out HW_.out (by kernel_rfl)) (fun _ _ _ h => h) (Or.inl ⟨by rfl,?_⟩) hHeld ?_ ?_
              rotate_left
              ·rintro w' ⟨s0,s1,s2,s3,s4⟩
               go_simp
               with_reducible rfl
              rotate_left
              ·simp only [Act.put,sa_,sb_,sc_,a_8,a_7]
               rfl
              refine one_ (i:=4) (N:=some 116) Z12_ rfl rfl (b_K HT_.out (by kernel_rfl)) (by decide) (fun K hK => ?_)
              refine c_C Tryd.func18 (by kernel_rfl) rfl #[.agg #[.slice (some ad393) t368.length co27],.int .i64 (rd l1 x86_4)] (by rfl) rfl rfl (by (try simp only [List.map_toArray,List.map_cons,List.map_nil]);first|done|rfl|(simp only [List.length_drop,List.length_take];rfl)) ?_
              with_reducible refine (a_T.calls _ _ t368 (rd l1 x86_4) true _ ?side1 ?side2 A124.out).mono ?_
              (case side1 => repeat (first|exact (Kd.a_w a_t.out).2.2|(with_reducible refine Kd.a_M ?_ _)|(with_reducible refine Kd.a_N ?_ _)|(with_reducible refine Kd.a_2 ?_)))
              (case side2 => exact (Kd.a_w a_t.out).2.1)
              rintro e w134 ⟨rfl,hb⟩
              have HS3_:=(hb.cell (World.block_lt_of_cell? _ _ (hHeld.2.2.2.1))).trans (hHeld.2.2.2.1)
              have HS4_:=(hb.cell (World.block_lt_of_cell? _ _ (hHeld.2.2.2.2))).trans (hHeld.2.2.2.2)
              refine ⟨_,rfl,?_⟩
              replace b_t:=a_b.mk (Kd.a_B (rup_ b_t.out) hb)
              replace a_t:=a_b.mk (Kd.a_B (rup_ a_t.out) hb)
              replace a_A:=a_b.mk (Kd.a_B (rup_ a_A.out) hb)
              replace a_x:=a_b.mk (a_i (bup_ a_x.out) hb)
              replace a_z:=a_b.mk (a_i (bup_ a_z.out) hb)
              replace a_C:=a_b.mk (a_i (bup_ a_C.out) hb)
              replace b_r:=a_b.mk (a_i (bup_ b_r.out) hb)
              replace HB:=a_b.mk (a_m (by repeat (first|(with_reducible first|exact HB.out|apply a_f|apply a_c|apply a_e|refine a_d ?_ a_R.out|refine a_d ?_ a_Y.out|refine a_d ?_ a_Z.out|refine a_d ?_ d_d.out)|exact HB.out)) hb)
              (try clear hb)
              (try clear hb2)
              (try clear hk)
              (try clear hi)
              refine hK.out _ _ ⟨(a_h a_z.out 0).trans rfl,(a_h b_r.out 0).trans rfl,(a_h b_r.out 1).trans rfl,HS3_,HS4_⟩ (fun hHeld => ?_)
              clear hK K
              refine b_i (a':=?_) ?_ ?_
              rotate_left
              ·show Act.put _ (some 116) _ = _
               simp only [Act.put,sa_,sb_,sc_,a_8,a_7]
               rfl
              refine pt_ 5 (some 117) Z17_ HT_ ?_
              refine pt_ 6 (some 118) Z20_ HT_ ?_
              refine pt_ 8 (some 120) Z22_ HT_ ?_
              refine pt_ 10 (some 122) Z23_ HT_ ?_
              refine b_L (i:=7) (N:=some 119) (v:=?_) (a':=?_) Z29_ rfl rfl (a_1 HT_.out HW_.out (by kernel_rfl)) (fun _ _ _ h => h) (Or.inl ⟨by rfl,?_⟩) hHeld ?_ ?_
              rotate_left
              ·rintro w' ⟨s0,s1,s2,s3,s4⟩
               go_simp
               with_reducible rfl
              rotate_left
              ·simp only [Act.put,sa_,sb_,sc_,a_8,a_7]
               rfl
              refine b_L (i:=9) (N:=some 121) (v:=?_) (a':=?_) Z33_ rfl rfl (a_1 HT_.out HW_.out (by kernel_rfl)) (fun _ _ _ h => h) (Or.inl ⟨by rfl,?_⟩) hHeld ?_ ?_
              rotate_left
              ·rintro w' ⟨s0,s1,s2,s3,s4⟩
               go_simp
               with_reducible rfl
              rotate_left
              ·simp only [Act.put,sa_,sb_,sc_,a_8,a_7]
               rfl
              refine pt_ 11 (some 123) Z35_ HT_ ?_
              refine b_L (i:=12) (N:=some 124) (v:=?_) (a':=?_) Z38_ rfl rfl (a_1 HT_.out HW_.out (by kernel_rfl)) (fun _ _ _ h => h) (Or.inl ⟨by rfl,?_⟩) hHeld ?_ ?_
              rotate_left
              ·rintro w' ⟨s0,s1,s2,s3,s4⟩
               go_simp
               with_reducible rfl
              rotate_left
              ·simp only [Act.put,sa_,sb_,sc_,a_8,a_7]
               rfl
              refine pt_ 13 (some 125) Z40_ HT_ ?_
              refine pt_ 14 (some 126) Z57_ HT_ ?_
              refine c_5 (c_i HT_.out (by kernel_rfl)) ?_
              try go_wp2
              go_roundg kj93
              case measure => have:=HK1.out;have:=HJ16.out;have:=HK3.out;have:=HK4.out;have:=HK5.out;have:=HJ93.out;omega
              case rel => exact ⟨(x15_5),(x16_5),(wrap64 (x96_5 + 1)),(by first|rfl|(simp;done)|(simp [*];done)),(by first|rfl|(simp;done)|(simp [*];done)),(by first|rfl|(simp;done)|(simp [*];done)),H',⟨by have:=HK1.out;have:=HJ16.out;have:=HK3.out;have:=HK4.out;have:=HK5.out;have:=HJ93.out;omega⟩,⟨by (with_reducible repeat (first|apply Kd.a_I|apply Kd.a_J|apply Kd.a_F));exact Kd.a_X b_t.out (fun _ hk => hk.1)⟩,⟨by (with_reducible repeat (first|apply Kd.a_I|apply Kd.a_J|apply Kd.a_F));exact Kd.a_X a_t.out (fun _ hk => hk.1)⟩,⟨by (with_reducible repeat (first|apply Kd.a_I|apply Kd.a_J|apply Kd.a_F));exact Kd.a_X a_A.out (fun _ hk => ⟨hk.1,hk.2.1⟩)⟩,⟨by (with_reducible repeat (first|refine a_l ?_ _|refine a_j ?_|refine a_k ?_ _));exact a_x.out⟩,⟨by (with_reducible repeat (first|refine a_l ?_ _|refine a_j ?_|refine a_k ?_ _));exact a_z.out⟩,⟨by (with_reducible repeat (first|refine a_l ?_ _|refine a_j ?_|refine a_k ?_ _));exact a_C.out⟩,⟨by repeat (first|(with_reducible first|exact HB.out|apply a_f|apply a_c|apply a_e|refine a_d ?_ a_R.out|refine a_d ?_ a_Y.out|refine a_d ?_ a_Z.out|refine a_d ?_ d_d.out)|exact HB.out)⟩⟩
             rw [if_pos c128] at H
             have c128b0 : (((a_n t368 x96_5).f0) == ((a_n t368 (rd l1 x86_4)).f0) && (((a_n t368 x96_5).f1) == ((a_n t368 (rd l1 x86_4)).f1))) = true:=c128
             (try (have c128b1 : decide (((a_n t368 x96_5).f0) = ((a_n t368 (rd l1 x86_4)).f0) && (((a_n t368 x96_5).f1) == ((a_n t368 (rd l1 x86_4)).f1))) = true:=by simpa using c128))
             (try (have c128b2 : (((a_n t368 x96_5).f0) == ((a_n t368 (rd l1 x86_4)).f0) && (((a_n t368 x96_5).f1) == ((a_n t368 (rd l1 x86_4)).f1))) = true:=by simpa using c128))
             clear c128
             by_cases c129 : 0 ≤ x96_5
             rotate_left
             ·rw [if_neg c129] at H
              exact absurd H (by simp)
             rw [if_pos c129] at H
             have c129b0:=eq_true c129
             have c129b1 : decide (0 ≤ x96_5) = true:=decide_eq_true c129
             clear c129
             obtain ⟨ji130,hji130⟩ : ∃ j_ : Int,(shl .u32 1 x96_5) = j_:=⟨_,rfl⟩
             replace H : (a_a.l3 kj93 l0 l1 true (rd l1 x86_4) x15_5 (Go.bits .or .u32 x16_5 (ji130)) l0 (l0.length : Int) x23_1 l1 (l1.length : Int) x86_4 t368 (t368.length : Int) (wrap64 (x96_5 + 1)) t368) = some r:=by first|(rw [hji130] at H;exact H)|(simp only [hji130] at H ⊢; exact H)
             (try rw [hji130] at A124)
             have hji130_ : (IntKind.u32.wrap (1 * 2 ^ min x96_5.toNat 32)) = ji130:=hji130
             have hji130z : x96_5 ≤ 32 → (IntKind.u32.wrap (1 * 2 ^ x96_5.toNat)) = ji130:=d_B hji130
             have hji130u : (IntKind.u32.wrap (2 ^ min x96_5.toNat 32)) = ji130:=by have h_:=hji130_;rw [Int.one_mul] at h_;exact h_
             have hji130v : x96_5 ≤ 32 → (IntKind.u32.wrap (2 ^ x96_5.toNat)) = ji130:=fun hle_ => by have h_:=hji130z hle_;rw [Int.one_mul] at h_;exact h_
             have H':=a_b.mk H
             clear H
             try go_wp2
             replace b_t:=a_b.mk (Kd.a_F b_t.out)
             replace a_t:=a_b.mk (Kd.a_F a_t.out)
             replace a_A:=a_b.mk (Kd.a_F a_A.out)
             replace a_x:=a_b.mk (a_j a_x.out)
             replace a_z:=a_b.mk (a_j a_z.out)
             replace a_C:=a_b.mk (a_j a_C.out)
             replace b_r:=a_b.mk (a_j b_r.out)
             replace HB:=a_b.mk (a_e HB.out)
             have p398 : 0 ≤ ((rd l1 x86_4) : Int):=of_decide_eq_true (by first|(with_reducible assumption)|assumption)
             have q398 : (rd l1 x86_4) < (t368.length : Int):=of_decide_eq_true (by first|(with_reducible assumption)|assumption)
             obtain ⟨ad398,e398,e_f,e_g⟩:=c_h (Kd.a_w a_t.out).2.2 (rd l1 x86_4) p398 q398
             obtain rfl : ad393 = ad398:=(by injection e398)
             replace p398:=eq_true p398
             replace q398:=eq_true q398
             refine c_D (n:=15) (S:=fun w' => w'.cell? ⟨a_U,0,none⟩ = some (.slice (some ad393) t368.length co27) ∧ w'.cell? ⟨b_P,0,none⟩ = some (.int .i64 ((a_n t368 x96_5).f0)) ∧ w'.cell? ⟨b_P,1,none⟩ = some (.int .i64 ((a_n t368 x96_5).f1)) ∧ w'.cell? (ad393.add (((rd l1 x86_4)).toNat * 2)) = some (.int .i64 ((a_n t368 (rd l1 x86_4)).f0)) ∧ w'.cell? ⟨(ad393.add (((rd l1 x86_4)).toNat * 2)).block,(ad393.add (((rd l1 x86_4)).toNat * 2)).off + 1,none⟩ = some (.int .i64 ((a_n t368 (rd l1 x86_4)).f1))) (ds:=[]) Z1_ (by kernel_rfl) rfl rfl ⟨(a_h a_z.out 0).trans rfl,(a_h b_r.out 0).trans rfl,(a_h b_r.out 1).trans rfl,e_f,e_g⟩ (fun hHeld => ?_);refine b_G a_a.f_y a_a.d_O (fun HT_ HW_ => ?_)
             generalize wc.drew = w131 at b_t a_t a_A a_x a_z a_C b_r HB e_f e_g hHeld ⊢
             refine pt_ 0 (some 112) Z3_ HT_ ?_
             refine pt_ 1 (some 113) Z6_ HT_ ?_
             refine pt_ 3 (some 115) Z7_ HT_ ?_
             refine b_L (i:=2) (N:=some 114) (v:=?_) (a':=?_) Z10_ rfl rfl (a_1 HT_.out HW_.out (by kernel_rfl)) (fun _ _ _ h => h) (Or.inl ⟨by rfl,?_⟩) hHeld ?_ ?_
             rotate_left
             ·rintro w' ⟨s0,s1,s2,s3,s4⟩
              go_simp
              with_reducible rfl
             rotate_left
             ·simp only [Act.put,sa_,sb_,sc_,a_8,a_7]
              rfl
             refine one_ (i:=4) (N:=some 116) Z12_ rfl rfl (b_K HT_.out (by kernel_rfl)) (by decide) (fun K hK => ?_)
             refine c_C Tryd.func18 (by kernel_rfl) rfl #[.agg #[.slice (some ad393) t368.length co27],.int .i64 (rd l1 x86_4)] (by rfl) rfl rfl (by (try simp only [List.map_toArray,List.map_cons,List.map_nil]);first|done|rfl|(simp only [List.length_drop,List.length_take];rfl)) ?_
             with_reducible refine (a_T.calls _ _ t368 (rd l1 x86_4) true _ ?side1 ?side2 A124.out).mono ?_
             (case side1 => repeat (first|exact (Kd.a_w a_t.out).2.2|(with_reducible refine Kd.a_M ?_ _)|(with_reducible refine Kd.a_N ?_ _)|(with_reducible refine Kd.a_2 ?_)))
             (case side2 => exact (Kd.a_w a_t.out).2.1)
             rintro e w132 ⟨rfl,hb⟩
             have HS3_:=(hb.cell (World.block_lt_of_cell? _ _ (hHeld.2.2.2.1))).trans (hHeld.2.2.2.1)
             have HS4_:=(hb.cell (World.block_lt_of_cell? _ _ (hHeld.2.2.2.2))).trans (hHeld.2.2.2.2)
             refine ⟨_,rfl,?_⟩
             replace b_t:=a_b.mk (Kd.a_B (rup_ b_t.out) hb)
             replace a_t:=a_b.mk (Kd.a_B (rup_ a_t.out) hb)
             replace a_A:=a_b.mk (Kd.a_B (rup_ a_A.out) hb)
             replace a_x:=a_b.mk (a_i (bup_ a_x.out) hb)
             replace a_z:=a_b.mk (a_i (bup_ a_z.out) hb)
             replace a_C:=a_b.mk (a_i (bup_ a_C.out) hb)
             replace b_r:=a_b.mk (a_i (bup_ b_r.out) hb)
             replace HB:=a_b.mk (a_m (by repeat (first|(with_reducible first|exact HB.out|apply a_f|apply a_c|apply a_e|refine a_d ?_ a_R.out|refine a_d ?_ a_Y.out|refine a_d ?_ a_Z.out|refine a_d ?_ d_d.out)|exact HB.out)) hb)
             (try clear hb)
             (try clear hb2)
             (try clear hk)
             (try clear hi)
             refine hK.out _ _ ⟨(a_h a_z.out 0).trans rfl,(a_h b_r.out 0).trans rfl,(a_h b_r.out 1).trans rfl,HS3_,HS4_⟩ (fun hHeld => ?_)
             clear hK K
             refine b_i (a':=?_) ?_ ?_
             rotate_left
             ·show Act.put _ (some 116) _ = _
              simp only [Act.put,sa_,sb_,sc_,a_8,a_7]
              rfl
             refine pt_ 5 (some 117) Z17_ HT_ ?_
             refine pt_ 6 (some 118) Z20_ HT_ ?_
             refine pt_ 8 (some 120) Z22_ HT_ ?_
             refine pt_ 10 (some 122) Z23_ HT_ ?_
             refine b_L (i:=7) (N:=some 119) (v:=?_) (a':=?_) Z29_ rfl rfl (a_1 HT_.out HW_.out (by kernel_rfl)) (fun _ _ _ h => h) (Or.inl ⟨by rfl,?_⟩) hHeld ?_ ?_
             rotate_left
             ·rintro w' ⟨s0,s1,s2,s3,s4⟩
              go_simp
              with_reducible rfl
             rotate_left
             ·simp only [Act.put,sa_,sb_,sc_,a_8,a_7]
              rfl
             refine b_L (i:=9) (N:=some 121) (v:=?_) (a':=?_) Z33_ rfl rfl (a_1 HT_.out HW_.out (by kernel_rfl)) (fun _ _ _ h => h) (Or.inl ⟨by rfl,?_⟩) hHeld ?_ ?_
             rotate_left
             ·rintro w' ⟨s0,s1,s2,s3,s4⟩
              go_simp
              with_reducible rfl
             rotate_left
             ·simp only [Act.put,sa_,sb_,sc_,a_8,a_7]
              rfl
             refine pt_ 11 (some 123) Z35_ HT_ ?_
             refine b_L (i:=12) (N:=some 124) (v:=?_) (a':=?_) Z38_ rfl rfl (a_1 HT_.out HW_.out (by kernel_rfl)) (fun _ _ _ h => h) (Or.inl ⟨by rfl,?_⟩) hHeld ?_ ?_
             rotate_left
             ·rintro w' ⟨s0,s1,s2,s3,s4⟩
              go_simp
              with_reducible rfl
             rotate_left
             ·simp only [Act.put,sa_,sb_,sc_,a_8,a_7]
              rfl
             refine pt_ 13 (some 125) Z40_ HT_ ?_
             refine pt_ 14 (some 126) Z57_ HT_ ?_
             refine c_5 (c_i HT_.out (by kernel_rfl)) ?_
             try go_wp2
             go_roundg kj93
             case measure => have:=HK1.out;have:=HJ16.out;have:=HK3.out;have:=HK4.out;have:=HK5.out;have:=HJ93.out;omega
             case rel => exact ⟨(x15_5),(Go.bits .or .u32 x16_5 (ji130)),(wrap64 (x96_5 + 1)),(by first|rfl|(simp;done)|(simp [*];done)),(by first|rfl|(simp;done)|(simp only [← hji130] <;> (first|rfl|simp))|(simp [*];done)),(by first|rfl|(simp;done)|(simp [*];done)),H',⟨by have:=HK1.out;have:=HJ16.out;have:=HK3.out;have:=HK4.out;have:=HK5.out;have:=HJ93.out;omega⟩,⟨by (with_reducible repeat (first|apply Kd.a_I|apply Kd.a_J|apply Kd.a_F));exact Kd.a_X b_t.out (fun _ hk => hk.1)⟩,⟨by (with_reducible repeat (first|apply Kd.a_I|apply Kd.a_J|apply Kd.a_F));exact Kd.a_X a_t.out (fun _ hk => hk.1)⟩,⟨by (with_reducible repeat (first|apply Kd.a_I|apply Kd.a_J|apply Kd.a_F));exact Kd.a_X a_A.out (fun _ hk => ⟨hk.1,hk.2.1⟩)⟩,⟨by (with_reducible repeat (first|refine a_l ?_ _|refine a_j ?_|refine a_k ?_ _));exact a_x.out⟩,⟨by (with_reducible repeat (first|refine a_l ?_ _|refine a_j ?_|refine a_k ?_ _));exact a_z.out⟩,⟨by (with_reducible repeat (first|refine a_l ?_ _|refine a_j ?_|refine a_k ?_ _));exact a_C.out⟩,⟨by repeat (first|(with_reducible first|exact HB.out|apply a_f|apply a_c|apply a_e|refine a_d ?_ a_R.out|refine a_d ?_ a_Y.out|refine a_d ?_ a_Z.out|refine a_d ?_ d_d.out)|exact HB.out)⟩⟩
end Go.Proofs.YtcpfcehfgenljaaDoor.Q
end
