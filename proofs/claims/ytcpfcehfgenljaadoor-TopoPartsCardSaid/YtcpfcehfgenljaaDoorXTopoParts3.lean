/- Part 4 of 4 of what the row of TopoParts stands on: contracts over the given program's functions, the plain law, the row; no condition beyond those that each theorem states. -/
import Derived.Test.YtcpfcehfgenljaaDoorXTopoParts2
import Derived.Test.YtcpfcehfgenljaaDoorTie
import Derived.Test.YtcpfcehfgenljaaDoorCards
import Derived.SevenTiedAt
import Derived.LaidMore
import Derived.Lib.LaidTab
section
namespace Go.Proofs.YtcpfcehfgenljaaDoor.Q
open Go.RowKit Go.Proofs.YtcpfcehfgenljaaDoorW.PrintWords Go.Proofs.YtcpfcehfgenljaaDoorW.PrintLast Go.Proofs.YtcpfcehfgenljaaDoorW.PrintMore
set_option linter.unusedVariables false
set_option linter.unusedSimpArgs false
def b_v.f (a0 : Int) : Option (Int):=if 0 ≤ (a0 / 16777216) then (if (a0 / 16777216) < 256 then (if 0 ≤ (Go.bits .and .u32 (a0 / 65536) 255) then (if (Go.bits .and .u32 (a0 / 65536) 255) < 256 then (if 0 ≤ (Go.bits .and .u32 (a0 / 256) 255) then (if (Go.bits .and .u32 (a0 / 256) 255) < 256 then (if 0 ≤ (Go.bits .and .u32 a0 255) then (if (Go.bits .and .u32 a0 255) < 256 then (some (((((((bt (⟨#[0,1,1,2,1,2,2,3,1,2,2,3,2,3,3,4,1,2,2,3,2,3,3,4,2,3,3,4,3,4,4,5,1,2,2,3,2,3,3,4,2,3,3,4,3,4,4,5,2,3,3,4,3,4,4,5,3,4,4,5,4,5,5,6,1,2,2,3,2,3,3,4,2,3,3,4,3,4,4,5,2,3,3,4,3,4,4,5,3,4,4,5,4,5,5,6,2,3,3,4,3,4,4,5,3,4,4,5,4,5,5,6,3,4,4,5,4,5,5,6,4,5,5,6,5,6,6,7,1,2,2,3,2,3,3,4,2,3,3,4,3,4,4,5,2,3,3,4,3,4,4,5,3,4,4,5,4,5,5,6,2,3,3,4,3,4,4,5,3,4,4,5,4,5,5,6,3,4,4,5,4,5,5,6,4,5,5,6,5,6,6,7,2,3,3,4,3,4,4,5,3,4,4,5,4,5,5,6,3,4,4,5,4,5,5,6,4,5,5,6,5,6,6,7,3,4,4,5,4,5,5,6,4,5,5,6,5,6,6,7,4,5,5,6,5,6,6,7,5,6,6,7,6,7,7,8]⟩ : ByteArray) (a0 / 16777216)) + (bt (⟨#[0,1,1,2,1,2,2,3,1,2,2,3,2,3,3,4,1,2,2,3,2,3,3,4,2,3,3,4,3,4,4,5,1,2,2,3,2,3,3,4,2,3,3,4,3,4,4,5,2,3,3,4,3,4,4,5,3,4,4,5,4,5,5,6,1,2,2,3,2,3,3,4,2,3,3,4,3,4,4,5,2,3,3,4,3,4,4,5,3,4,4,5,4,5,5,6,2,3,3,4,3,4,4,5,3,4,4,5,4,5,5,6,3,4,4,5,4,5,5,6,4,5,5,6,5,6,6,7,1,2,2,3,2,3,3,4,2,3,3,4,3,4,4,5,2,3,3,4,3,4,4,5,3,4,4,5,4,5,5,6,2,3,3,4,3,4,4,5,3,4,4,5,4,5,5,6,3,4,4,5,4,5,5,6,4,5,5,6,5,6,6,7,2,3,3,4,3,4,4,5,3,4,4,5,4,5,5,6,3,4,4,5,4,5,5,6,4,5,5,6,5,6,6,7,3,4,4,5,4,5,5,6,4,5,5,6,5,6,6,7,4,5,5,6,5,6,6,7,5,6,6,7,6,7,7,8]⟩ : ByteArray) (Go.bits .and .u32 (a0 / 65536) 255))) % 256) + (bt (⟨#[0,1,1,2,1,2,2,3,1,2,2,3,2,3,3,4,1,2,2,3,2,3,3,4,2,3,3,4,3,4,4,5,1,2,2,3,2,3,3,4,2,3,3,4,3,4,4,5,2,3,3,4,3,4,4,5,3,4,4,5,4,5,5,6,1,2,2,3,2,3,3,4,2,3,3,4,3,4,4,5,2,3,3,4,3,4,4,5,3,4,4,5,4,5,5,6,2,3,3,4,3,4,4,5,3,4,4,5,4,5,5,6,3,4,4,5,4,5,5,6,4,5,5,6,5,6,6,7,1,2,2,3,2,3,3,4,2,3,3,4,3,4,4,5,2,3,3,4,3,4,4,5,3,4,4,5,4,5,5,6,2,3,3,4,3,4,4,5,3,4,4,5,4,5,5,6,3,4,4,5,4,5,5,6,4,5,5,6,5,6,6,7,2,3,3,4,3,4,4,5,3,4,4,5,4,5,5,6,3,4,4,5,4,5,5,6,4,5,5,6,5,6,6,7,3,4,4,5,4,5,5,6,4,5,5,6,5,6,6,7,4,5,5,6,5,6,6,7,5,6,6,7,6,7,7,8]⟩ : ByteArray) (Go.bits .and .u32 (a0 / 256) 255))) % 256) + (bt (⟨#[0,1,1,2,1,2,2,3,1,2,2,3,2,3,3,4,1,2,2,3,2,3,3,4,2,3,3,4,3,4,4,5,1,2,2,3,2,3,3,4,2,3,3,4,3,4,4,5,2,3,3,4,3,4,4,5,3,4,4,5,4,5,5,6,1,2,2,3,2,3,3,4,2,3,3,4,3,4,4,5,2,3,3,4,3,4,4,5,3,4,4,5,4,5,5,6,2,3,3,4,3,4,4,5,3,4,4,5,4,5,5,6,3,4,4,5,4,5,5,6,4,5,5,6,5,6,6,7,1,2,2,3,2,3,3,4,2,3,3,4,3,4,4,5,2,3,3,4,3,4,4,5,3,4,4,5,4,5,5,6,2,3,3,4,3,4,4,5,3,4,4,5,4,5,5,6,3,4,4,5,4,5,5,6,4,5,5,6,5,6,6,7,2,3,3,4,3,4,4,5,3,4,4,5,4,5,5,6,3,4,4,5,4,5,5,6,4,5,5,6,5,6,6,7,3,4,4,5,4,5,5,6,4,5,5,6,5,6,6,7,4,5,5,6,5,6,6,7,5,6,6,7,6,7,7,8]⟩ : ByteArray) (Go.bits .and .u32 a0 255))) % 256)) else (none)) else (none)) else (none)) else (none)) else (none)) else (none)) else (none)) else (none)
set_option maxHeartbeats 8000000 in
set_option maxRecDepth 100000 in
theorem b_v.calls (a0 : Int) (r : Int) (w : World) (h : b_v.f a0 = some r) :
 Calls Tryd.prog 51 #[.int .u32 a0] w fun e w' => e = .returned (.int .i64 r) ∧ a_V w w':=by
 have H : (if 0 ≤ (a0 / 16777216) then (if (a0 / 16777216) < 256 then (if 0 ≤ (Go.bits .and .u32 (a0 / 65536) 255) then (if (Go.bits .and .u32 (a0 / 65536) 255) < 256 then (if 0 ≤ (Go.bits .and .u32 (a0 / 256) 255) then (if (Go.bits .and .u32 (a0 / 256) 255) < 256 then (if 0 ≤ (Go.bits .and .u32 a0 255) then (if (Go.bits .and .u32 a0 255) < 256 then (some (((((((bt (⟨#[0,1,1,2,1,2,2,3,1,2,2,3,2,3,3,4,1,2,2,3,2,3,3,4,2,3,3,4,3,4,4,5,1,2,2,3,2,3,3,4,2,3,3,4,3,4,4,5,2,3,3,4,3,4,4,5,3,4,4,5,4,5,5,6,1,2,2,3,2,3,3,4,2,3,3,4,3,4,4,5,2,3,3,4,3,4,4,5,3,4,4,5,4,5,5,6,2,3,3,4,3,4,4,5,3,4,4,5,4,5,5,6,3,4,4,5,4,5,5,6,4,5,5,6,5,6,6,7,1,2,2,3,2,3,3,4,2,3,3,4,3,4,4,5,2,3,3,4,3,4,4,5,3,4,4,5,4,5,5,6,2,3,3,4,3,4,4,5,3,4,4,5,4,5,5,6,3,4,4,5,4,5,5,6,4,5,5,6,5,6,6,7,2,3,3,4,3,4,4,5,3,4,4,5,4,5,5,6,3,4,4,5,4,5,5,6,4,5,5,6,5,6,6,7,3,4,4,5,4,5,5,6,4,5,5,6,5,6,6,7,4,5,5,6,5,6,6,7,5,6,6,7,6,7,7,8]⟩ : ByteArray) (a0 / 16777216)) + (bt (⟨#[0,1,1,2,1,2,2,3,1,2,2,3,2,3,3,4,1,2,2,3,2,3,3,4,2,3,3,4,3,4,4,5,1,2,2,3,2,3,3,4,2,3,3,4,3,4,4,5,2,3,3,4,3,4,4,5,3,4,4,5,4,5,5,6,1,2,2,3,2,3,3,4,2,3,3,4,3,4,4,5,2,3,3,4,3,4,4,5,3,4,4,5,4,5,5,6,2,3,3,4,3,4,4,5,3,4,4,5,4,5,5,6,3,4,4,5,4,5,5,6,4,5,5,6,5,6,6,7,1,2,2,3,2,3,3,4,2,3,3,4,3,4,4,5,2,3,3,4,3,4,4,5,3,4,4,5,4,5,5,6,2,3,3,4,3,4,4,5,3,4,4,5,4,5,5,6,3,4,4,5,4,5,5,6,4,5,5,6,5,6,6,7,2,3,3,4,3,4,4,5,3,4,4,5,4,5,5,6,3,4,4,5,4,5,5,6,4,5,5,6,5,6,6,7,3,4,4,5,4,5,5,6,4,5,5,6,5,6,6,7,4,5,5,6,5,6,6,7,5,6,6,7,6,7,7,8]⟩ : ByteArray) (Go.bits .and .u32 (a0 / 65536) 255))) % 256) + (bt (⟨#[0,1,1,2,1,2,2,3,1,2,2,3,2,3,3,4,1,2,2,3,2,3,3,4,2,3,3,4,3,4,4,5,1,2,2,3,2,3,3,4,2,3,3,4,3,4,4,5,2,3,3,4,3,4,4,5,3,4,4,5,4,5,5,6,1,2,2,3,2,3,3,4,2,3,3,4,3,4,4,5,2,3,3,4,3,4,4,5,3,4,4,5,4,5,5,6,2,3,3,4,3,4,4,5,3,4,4,5,4,5,5,6,3,4,4,5,4,5,5,6,4,5,5,6,5,6,6,7,1,2,2,3,2,3,3,4,2,3,3,4,3,4,4,5,2,3,3,4,3,4,4,5,3,4,4,5,4,5,5,6,2,3,3,4,3,4,4,5,3,4,4,5,4,5,5,6,3,4,4,5,4,5,5,6,4,5,5,6,5,6,6,7,2,3,3,4,3,4,4,5,3,4,4,5,4,5,5,6,3,4,4,5,4,5,5,6,4,5,5,6,5,6,6,7,3,4,4,5,4,5,5,6,4,5,5,6,5,6,6,7,4,5,5,6,5,6,6,7,5,6,6,7,6,7,7,8]⟩ : ByteArray) (Go.bits .and .u32 (a0 / 256) 255))) % 256) + (bt (⟨#[0,1,1,2,1,2,2,3,1,2,2,3,2,3,3,4,1,2,2,3,2,3,3,4,2,3,3,4,3,4,4,5,1,2,2,3,2,3,3,4,2,3,3,4,3,4,4,5,2,3,3,4,3,4,4,5,3,4,4,5,4,5,5,6,1,2,2,3,2,3,3,4,2,3,3,4,3,4,4,5,2,3,3,4,3,4,4,5,3,4,4,5,4,5,5,6,2,3,3,4,3,4,4,5,3,4,4,5,4,5,5,6,3,4,4,5,4,5,5,6,4,5,5,6,5,6,6,7,1,2,2,3,2,3,3,4,2,3,3,4,3,4,4,5,2,3,3,4,3,4,4,5,3,4,4,5,4,5,5,6,2,3,3,4,3,4,4,5,3,4,4,5,4,5,5,6,3,4,4,5,4,5,5,6,4,5,5,6,5,6,6,7,2,3,3,4,3,4,4,5,3,4,4,5,4,5,5,6,3,4,4,5,4,5,5,6,4,5,5,6,5,6,6,7,3,4,4,5,4,5,5,6,4,5,5,6,5,6,6,7,4,5,5,6,5,6,6,7,5,6,6,7,6,7,7,8]⟩ : ByteArray) (Go.bits .and .u32 a0 255))) % 256)) else (none)) else (none)) else (none)) else (none)) else (none)) else (none)) else (none)) else (none)) = some r:=h
 clear h
 obtain ⟨ji2,hji2⟩ : ∃ j_ : Int,(a0 / 16777216) = j_:=⟨_,rfl⟩
 replace H : (if 0 ≤ (ji2) then (if (ji2) < 256 then (if 0 ≤ (Go.bits .and .u32 (a0 / 65536) 255) then (if (Go.bits .and .u32 (a0 / 65536) 255) < 256 then (if 0 ≤ (Go.bits .and .u32 (a0 / 256) 255) then (if (Go.bits .and .u32 (a0 / 256) 255) < 256 then (if 0 ≤ (Go.bits .and .u32 a0 255) then (if (Go.bits .and .u32 a0 255) < 256 then (some (((((((bt (⟨#[0,1,1,2,1,2,2,3,1,2,2,3,2,3,3,4,1,2,2,3,2,3,3,4,2,3,3,4,3,4,4,5,1,2,2,3,2,3,3,4,2,3,3,4,3,4,4,5,2,3,3,4,3,4,4,5,3,4,4,5,4,5,5,6,1,2,2,3,2,3,3,4,2,3,3,4,3,4,4,5,2,3,3,4,3,4,4,5,3,4,4,5,4,5,5,6,2,3,3,4,3,4,4,5,3,4,4,5,4,5,5,6,3,4,4,5,4,5,5,6,4,5,5,6,5,6,6,7,1,2,2,3,2,3,3,4,2,3,3,4,3,4,4,5,2,3,3,4,3,4,4,5,3,4,4,5,4,5,5,6,2,3,3,4,3,4,4,5,3,4,4,5,4,5,5,6,3,4,4,5,4,5,5,6,4,5,5,6,5,6,6,7,2,3,3,4,3,4,4,5,3,4,4,5,4,5,5,6,3,4,4,5,4,5,5,6,4,5,5,6,5,6,6,7,3,4,4,5,4,5,5,6,4,5,5,6,5,6,6,7,4,5,5,6,5,6,6,7,5,6,6,7,6,7,7,8]⟩ : ByteArray) (ji2)) + (bt (⟨#[0,1,1,2,1,2,2,3,1,2,2,3,2,3,3,4,1,2,2,3,2,3,3,4,2,3,3,4,3,4,4,5,1,2,2,3,2,3,3,4,2,3,3,4,3,4,4,5,2,3,3,4,3,4,4,5,3,4,4,5,4,5,5,6,1,2,2,3,2,3,3,4,2,3,3,4,3,4,4,5,2,3,3,4,3,4,4,5,3,4,4,5,4,5,5,6,2,3,3,4,3,4,4,5,3,4,4,5,4,5,5,6,3,4,4,5,4,5,5,6,4,5,5,6,5,6,6,7,1,2,2,3,2,3,3,4,2,3,3,4,3,4,4,5,2,3,3,4,3,4,4,5,3,4,4,5,4,5,5,6,2,3,3,4,3,4,4,5,3,4,4,5,4,5,5,6,3,4,4,5,4,5,5,6,4,5,5,6,5,6,6,7,2,3,3,4,3,4,4,5,3,4,4,5,4,5,5,6,3,4,4,5,4,5,5,6,4,5,5,6,5,6,6,7,3,4,4,5,4,5,5,6,4,5,5,6,5,6,6,7,4,5,5,6,5,6,6,7,5,6,6,7,6,7,7,8]⟩ : ByteArray) (Go.bits .and .u32 (a0 / 65536) 255))) % 256) + (bt (⟨#[0,1,1,2,1,2,2,3,1,2,2,3,2,3,3,4,1,2,2,3,2,3,3,4,2,3,3,4,3,4,4,5,1,2,2,3,2,3,3,4,2,3,3,4,3,4,4,5,2,3,3,4,3,4,4,5,3,4,4,5,4,5,5,6,1,2,2,3,2,3,3,4,2,3,3,4,3,4,4,5,2,3,3,4,3,4,4,5,3,4,4,5,4,5,5,6,2,3,3,4,3,4,4,5,3,4,4,5,4,5,5,6,3,4,4,5,4,5,5,6,4,5,5,6,5,6,6,7,1,2,2,3,2,3,3,4,2,3,3,4,3,4,4,5,2,3,3,4,3,4,4,5,3,4,4,5,4,5,5,6,2,3,3,4,3,4,4,5,3,4,4,5,4,5,5,6,3,4,4,5,4,5,5,6,4,5,5,6,5,6,6,7,2,3,3,4,3,4,4,5,3,4,4,5,4,5,5,6,3,4,4,5,4,5,5,6,4,5,5,6,5,6,6,7,3,4,4,5,4,5,5,6,4,5,5,6,5,6,6,7,4,5,5,6,5,6,6,7,5,6,6,7,6,7,7,8]⟩ : ByteArray) (Go.bits .and .u32 (a0 / 256) 255))) % 256) + (bt (⟨#[0,1,1,2,1,2,2,3,1,2,2,3,2,3,3,4,1,2,2,3,2,3,3,4,2,3,3,4,3,4,4,5,1,2,2,3,2,3,3,4,2,3,3,4,3,4,4,5,2,3,3,4,3,4,4,5,3,4,4,5,4,5,5,6,1,2,2,3,2,3,3,4,2,3,3,4,3,4,4,5,2,3,3,4,3,4,4,5,3,4,4,5,4,5,5,6,2,3,3,4,3,4,4,5,3,4,4,5,4,5,5,6,3,4,4,5,4,5,5,6,4,5,5,6,5,6,6,7,1,2,2,3,2,3,3,4,2,3,3,4,3,4,4,5,2,3,3,4,3,4,4,5,3,4,4,5,4,5,5,6,2,3,3,4,3,4,4,5,3,4,4,5,4,5,5,6,3,4,4,5,4,5,5,6,4,5,5,6,5,6,6,7,2,3,3,4,3,4,4,5,3,4,4,5,4,5,5,6,3,4,4,5,4,5,5,6,4,5,5,6,5,6,6,7,3,4,4,5,4,5,5,6,4,5,5,6,5,6,6,7,4,5,5,6,5,6,6,7,5,6,6,7,6,7,7,8]⟩ : ByteArray) (Go.bits .and .u32 a0 255))) % 256)) else (none)) else (none)) else (none)) else (none)) else (none)) else (none)) else (none)) else (none)) = some r:=by first|(rw [hji2] at H;exact H)|(simp only [hji2] at H ⊢; exact H)
 by_cases c3 : 0 ≤ (ji2)
 rotate_left
 ·rw [if_neg c3] at H
  exact absurd H (by simp)
 rw [if_pos c3] at H
 have c3b0 : decide (0 ≤ (ji2)) = true:=decide_eq_true c3
 clear c3
 by_cases c4 : (ji2) < 256
 rotate_left
 ·rw [if_neg c4] at H
  exact absurd H (by simp)
 rw [if_pos c4] at H
 have c4b0 : decide ((ji2) < 256) = true:=decide_eq_true c4
 clear c4
 obtain ⟨ji6,hji6⟩ : ∃ j_ : Int,(Go.bits .and .u32 (a0 / 65536) 255) = j_:=⟨_,rfl⟩
 replace H : (if 0 ≤ (ji6) then (if (ji6) < 256 then (if 0 ≤ (Go.bits .and .u32 (a0 / 256) 255) then (if (Go.bits .and .u32 (a0 / 256) 255) < 256 then (if 0 ≤ (Go.bits .and .u32 a0 255) then (if (Go.bits .and .u32 a0 255) < 256 then (some (((((((bt (⟨#[0,1,1,2,1,2,2,3,1,2,2,3,2,3,3,4,1,2,2,3,2,3,3,4,2,3,3,4,3,4,4,5,1,2,2,3,2,3,3,4,2,3,3,4,3,4,4,5,2,3,3,4,3,4,4,5,3,4,4,5,4,5,5,6,1,2,2,3,2,3,3,4,2,3,3,4,3,4,4,5,2,3,3,4,3,4,4,5,3,4,4,5,4,5,5,6,2,3,3,4,3,4,4,5,3,4,4,5,4,5,5,6,3,4,4,5,4,5,5,6,4,5,5,6,5,6,6,7,1,2,2,3,2,3,3,4,2,3,3,4,3,4,4,5,2,3,3,4,3,4,4,5,3,4,4,5,4,5,5,6,2,3,3,4,3,4,4,5,3,4,4,5,4,5,5,6,3,4,4,5,4,5,5,6,4,5,5,6,5,6,6,7,2,3,3,4,3,4,4,5,3,4,4,5,4,5,5,6,3,4,4,5,4,5,5,6,4,5,5,6,5,6,6,7,3,4,4,5,4,5,5,6,4,5,5,6,5,6,6,7,4,5,5,6,5,6,6,7,5,6,6,7,6,7,7,8]⟩ : ByteArray) (ji2)) + (bt (⟨#[0,1,1,2,1,2,2,3,1,2,2,3,2,3,3,4,1,2,2,3,2,3,3,4,2,3,3,4,3,4,4,5,1,2,2,3,2,3,3,4,2,3,3,4,3,4,4,5,2,3,3,4,3,4,4,5,3,4,4,5,4,5,5,6,1,2,2,3,2,3,3,4,2,3,3,4,3,4,4,5,2,3,3,4,3,4,4,5,3,4,4,5,4,5,5,6,2,3,3,4,3,4,4,5,3,4,4,5,4,5,5,6,3,4,4,5,4,5,5,6,4,5,5,6,5,6,6,7,1,2,2,3,2,3,3,4,2,3,3,4,3,4,4,5,2,3,3,4,3,4,4,5,3,4,4,5,4,5,5,6,2,3,3,4,3,4,4,5,3,4,4,5,4,5,5,6,3,4,4,5,4,5,5,6,4,5,5,6,5,6,6,7,2,3,3,4,3,4,4,5,3,4,4,5,4,5,5,6,3,4,4,5,4,5,5,6,4,5,5,6,5,6,6,7,3,4,4,5,4,5,5,6,4,5,5,6,5,6,6,7,4,5,5,6,5,6,6,7,5,6,6,7,6,7,7,8]⟩ : ByteArray) (ji6))) % 256) + (bt (⟨#[0,1,1,2,1,2,2,3,1,2,2,3,2,3,3,4,1,2,2,3,2,3,3,4,2,3,3,4,3,4,4,5,1,2,2,3,2,3,3,4,2,3,3,4,3,4,4,5,2,3,3,4,3,4,4,5,3,4,4,5,4,5,5,6,1,2,2,3,2,3,3,4,2,3,3,4,3,4,4,5,2,3,3,4,3,4,4,5,3,4,4,5,4,5,5,6,2,3,3,4,3,4,4,5,3,4,4,5,4,5,5,6,3,4,4,5,4,5,5,6,4,5,5,6,5,6,6,7,1,2,2,3,2,3,3,4,2,3,3,4,3,4,4,5,2,3,3,4,3,4,4,5,3,4,4,5,4,5,5,6,2,3,3,4,3,4,4,5,3,4,4,5,4,5,5,6,3,4,4,5,4,5,5,6,4,5,5,6,5,6,6,7,2,3,3,4,3,4,4,5,3,4,4,5,4,5,5,6,3,4,4,5,4,5,5,6,4,5,5,6,5,6,6,7,3,4,4,5,4,5,5,6,4,5,5,6,5,6,6,7,4,5,5,6,5,6,6,7,5,6,6,7,6,7,7,8]⟩ : ByteArray) (Go.bits .and .u32 (a0 / 256) 255))) % 256) + (bt (⟨#[0,1,1,2,1,2,2,3,1,2,2,3,2,3,3,4,1,2,2,3,2,3,3,4,2,3,3,4,3,4,4,5,1,2,2,3,2,3,3,4,2,3,3,4,3,4,4,5,2,3,3,4,3,4,4,5,3,4,4,5,4,5,5,6,1,2,2,3,2,3,3,4,2,3,3,4,3,4,4,5,2,3,3,4,3,4,4,5,3,4,4,5,4,5,5,6,2,3,3,4,3,4,4,5,3,4,4,5,4,5,5,6,3,4,4,5,4,5,5,6,4,5,5,6,5,6,6,7,1,2,2,3,2,3,3,4,2,3,3,4,3,4,4,5,2,3,3,4,3,4,4,5,3,4,4,5,4,5,5,6,2,3,3,4,3,4,4,5,3,4,4,5,4,5,5,6,3,4,4,5,4,5,5,6,4,5,5,6,5,6,6,7,2,3,3,4,3,4,4,5,3,4,4,5,4,5,5,6,3,4,4,5,4,5,5,6,4,5,5,6,5,6,6,7,3,4,4,5,4,5,5,6,4,5,5,6,5,6,6,7,4,5,5,6,5,6,6,7,5,6,6,7,6,7,7,8]⟩ : ByteArray) (Go.bits .and .u32 a0 255))) % 256)) else (none)) else (none)) else (none)) else (none)) else (none)) else (none)) = some r:=by first|(rw [hji6] at H;exact H)|(simp only [hji6] at H ⊢; exact H)
 by_cases c7 : 0 ≤ (ji6)
 rotate_left
 ·rw [if_neg c7] at H
  exact absurd H (by simp)
 rw [if_pos c7] at H
 have c7b0 : decide (0 ≤ (ji6)) = true:=decide_eq_true c7
 clear c7
 by_cases c8 : (ji6) < 256
 rotate_left
 ·rw [if_neg c8] at H
  exact absurd H (by simp)
 rw [if_pos c8] at H
 have c8b0 : decide ((ji6) < 256) = true:=decide_eq_true c8
 clear c8
 obtain ⟨ji10,hji10⟩ : ∃ j_ : Int,(Go.bits .and .u32 (a0 / 256) 255) = j_:=⟨_,rfl⟩
 replace H : (if 0 ≤ (ji10) then (if (ji10) < 256 then (if 0 ≤ (Go.bits .and .u32 a0 255) then (if (Go.bits .and .u32 a0 255) < 256 then (some (((((((bt (⟨#[0,1,1,2,1,2,2,3,1,2,2,3,2,3,3,4,1,2,2,3,2,3,3,4,2,3,3,4,3,4,4,5,1,2,2,3,2,3,3,4,2,3,3,4,3,4,4,5,2,3,3,4,3,4,4,5,3,4,4,5,4,5,5,6,1,2,2,3,2,3,3,4,2,3,3,4,3,4,4,5,2,3,3,4,3,4,4,5,3,4,4,5,4,5,5,6,2,3,3,4,3,4,4,5,3,4,4,5,4,5,5,6,3,4,4,5,4,5,5,6,4,5,5,6,5,6,6,7,1,2,2,3,2,3,3,4,2,3,3,4,3,4,4,5,2,3,3,4,3,4,4,5,3,4,4,5,4,5,5,6,2,3,3,4,3,4,4,5,3,4,4,5,4,5,5,6,3,4,4,5,4,5,5,6,4,5,5,6,5,6,6,7,2,3,3,4,3,4,4,5,3,4,4,5,4,5,5,6,3,4,4,5,4,5,5,6,4,5,5,6,5,6,6,7,3,4,4,5,4,5,5,6,4,5,5,6,5,6,6,7,4,5,5,6,5,6,6,7,5,6,6,7,6,7,7,8]⟩ : ByteArray) (ji2)) + (bt (⟨#[0,1,1,2,1,2,2,3,1,2,2,3,2,3,3,4,1,2,2,3,2,3,3,4,2,3,3,4,3,4,4,5,1,2,2,3,2,3,3,4,2,3,3,4,3,4,4,5,2,3,3,4,3,4,4,5,3,4,4,5,4,5,5,6,1,2,2,3,2,3,3,4,2,3,3,4,3,4,4,5,2,3,3,4,3,4,4,5,3,4,4,5,4,5,5,6,2,3,3,4,3,4,4,5,3,4,4,5,4,5,5,6,3,4,4,5,4,5,5,6,4,5,5,6,5,6,6,7,1,2,2,3,2,3,3,4,2,3,3,4,3,4,4,5,2,3,3,4,3,4,4,5,3,4,4,5,4,5,5,6,2,3,3,4,3,4,4,5,3,4,4,5,4,5,5,6,3,4,4,5,4,5,5,6,4,5,5,6,5,6,6,7,2,3,3,4,3,4,4,5,3,4,4,5,4,5,5,6,3,4,4,5,4,5,5,6,4,5,5,6,5,6,6,7,3,4,4,5,4,5,5,6,4,5,5,6,5,6,6,7,4,5,5,6,5,6,6,7,5,6,6,7,6,7,7,8]⟩ : ByteArray) (ji6))) % 256) + (bt (⟨#[0,1,1,2,1,2,2,3,1,2,2,3,2,3,3,4,1,2,2,3,2,3,3,4,2,3,3,4,3,4,4,5,1,2,2,3,2,3,3,4,2,3,3,4,3,4,4,5,2,3,3,4,3,4,4,5,3,4,4,5,4,5,5,6,1,2,2,3,2,3,3,4,2,3,3,4,3,4,4,5,2,3,3,4,3,4,4,5,3,4,4,5,4,5,5,6,2,3,3,4,3,4,4,5,3,4,4,5,4,5,5,6,3,4,4,5,4,5,5,6,4,5,5,6,5,6,6,7,1,2,2,3,2,3,3,4,2,3,3,4,3,4,4,5,2,3,3,4,3,4,4,5,3,4,4,5,4,5,5,6,2,3,3,4,3,4,4,5,3,4,4,5,4,5,5,6,3,4,4,5,4,5,5,6,4,5,5,6,5,6,6,7,2,3,3,4,3,4,4,5,3,4,4,5,4,5,5,6,3,4,4,5,4,5,5,6,4,5,5,6,5,6,6,7,3,4,4,5,4,5,5,6,4,5,5,6,5,6,6,7,4,5,5,6,5,6,6,7,5,6,6,7,6,7,7,8]⟩ : ByteArray) (ji10))) % 256) + (bt (⟨#[0,1,1,2,1,2,2,3,1,2,2,3,2,3,3,4,1,2,2,3,2,3,3,4,2,3,3,4,3,4,4,5,1,2,2,3,2,3,3,4,2,3,3,4,3,4,4,5,2,3,3,4,3,4,4,5,3,4,4,5,4,5,5,6,1,2,2,3,2,3,3,4,2,3,3,4,3,4,4,5,2,3,3,4,3,4,4,5,3,4,4,5,4,5,5,6,2,3,3,4,3,4,4,5,3,4,4,5,4,5,5,6,3,4,4,5,4,5,5,6,4,5,5,6,5,6,6,7,1,2,2,3,2,3,3,4,2,3,3,4,3,4,4,5,2,3,3,4,3,4,4,5,3,4,4,5,4,5,5,6,2,3,3,4,3,4,4,5,3,4,4,5,4,5,5,6,3,4,4,5,4,5,5,6,4,5,5,6,5,6,6,7,2,3,3,4,3,4,4,5,3,4,4,5,4,5,5,6,3,4,4,5,4,5,5,6,4,5,5,6,5,6,6,7,3,4,4,5,4,5,5,6,4,5,5,6,5,6,6,7,4,5,5,6,5,6,6,7,5,6,6,7,6,7,7,8]⟩ : ByteArray) (Go.bits .and .u32 a0 255))) % 256)) else (none)) else (none)) else (none)) else (none)) = some r:=by first|(rw [hji10] at H;exact H)|(simp only [hji10] at H ⊢; exact H)
 by_cases c11 : 0 ≤ (ji10)
 rotate_left
 ·rw [if_neg c11] at H
  exact absurd H (by simp)
 rw [if_pos c11] at H
 have c11b0 : decide (0 ≤ (ji10)) = true:=decide_eq_true c11
 clear c11
 by_cases c12 : (ji10) < 256
 rotate_left
 ·rw [if_neg c12] at H
  exact absurd H (by simp)
 rw [if_pos c12] at H
 have c12b0 : decide ((ji10) < 256) = true:=decide_eq_true c12
 clear c12
 by_cases c14 : 0 ≤ (Go.bits .and .u32 a0 255)
 rotate_left
 ·rw [if_neg c14] at H
  exact absurd H (by simp)
 rw [if_pos c14] at H
 have c14b0 : decide (0 ≤ (Go.bits .and .u32 a0 255)) = true:=decide_eq_true c14
 clear c14
 by_cases c15 : (Go.bits .and .u32 a0 255) < 256
 rotate_left
 ·rw [if_neg c15] at H
  exact absurd H (by simp)
 rw [if_pos c15] at H
 have c15b0 : decide ((Go.bits .and .u32 a0 255) < 256) = true:=decide_eq_true c15
 clear c15
 obtain rfl:=Option.some.inj H
 have p5 : 0 ≤ ((ji2) : Int):=of_decide_eq_true (by first|(with_reducible assumption)|assumption)
 have q5 : (ji2) < (256 : Int):=of_decide_eq_true (by first|(with_reducible assumption)|assumption)
 have hx5:=f_9 (⟨#[0,1,1,2,1,2,2,3,1,2,2,3,2,3,3,4,1,2,2,3,2,3,3,4,2,3,3,4,3,4,4,5,1,2,2,3,2,3,3,4,2,3,3,4,3,4,4,5,2,3,3,4,3,4,4,5,3,4,4,5,4,5,5,6,1,2,2,3,2,3,3,4,2,3,3,4,3,4,4,5,2,3,3,4,3,4,4,5,3,4,4,5,4,5,5,6,2,3,3,4,3,4,4,5,3,4,4,5,4,5,5,6,3,4,4,5,4,5,5,6,4,5,5,6,5,6,6,7,1,2,2,3,2,3,3,4,2,3,3,4,3,4,4,5,2,3,3,4,3,4,4,5,3,4,4,5,4,5,5,6,2,3,3,4,3,4,4,5,3,4,4,5,4,5,5,6,3,4,4,5,4,5,5,6,4,5,5,6,5,6,6,7,2,3,3,4,3,4,4,5,3,4,4,5,4,5,5,6,3,4,4,5,4,5,5,6,4,5,5,6,5,6,6,7,3,4,4,5,4,5,5,6,4,5,5,6,5,6,6,7,4,5,5,6,5,6,6,7,5,6,6,7,6,7,7,8]⟩ : ByteArray) (ji2)
 replace p5:=eq_true p5
 replace q5:=eq_true q5
 have p9 : 0 ≤ ((ji6) : Int):=of_decide_eq_true (by first|(with_reducible assumption)|assumption)
 have q9 : (ji6) < (256 : Int):=of_decide_eq_true (by first|(with_reducible assumption)|assumption)
 have hx9:=f_9 (⟨#[0,1,1,2,1,2,2,3,1,2,2,3,2,3,3,4,1,2,2,3,2,3,3,4,2,3,3,4,3,4,4,5,1,2,2,3,2,3,3,4,2,3,3,4,3,4,4,5,2,3,3,4,3,4,4,5,3,4,4,5,4,5,5,6,1,2,2,3,2,3,3,4,2,3,3,4,3,4,4,5,2,3,3,4,3,4,4,5,3,4,4,5,4,5,5,6,2,3,3,4,3,4,4,5,3,4,4,5,4,5,5,6,3,4,4,5,4,5,5,6,4,5,5,6,5,6,6,7,1,2,2,3,2,3,3,4,2,3,3,4,3,4,4,5,2,3,3,4,3,4,4,5,3,4,4,5,4,5,5,6,2,3,3,4,3,4,4,5,3,4,4,5,4,5,5,6,3,4,4,5,4,5,5,6,4,5,5,6,5,6,6,7,2,3,3,4,3,4,4,5,3,4,4,5,4,5,5,6,3,4,4,5,4,5,5,6,4,5,5,6,5,6,6,7,3,4,4,5,4,5,5,6,4,5,5,6,5,6,6,7,4,5,5,6,5,6,6,7,5,6,6,7,6,7,7,8]⟩ : ByteArray) (ji6)
 replace p9:=eq_true p9
 replace q9:=eq_true q9
 have p13 : 0 ≤ ((ji10) : Int):=of_decide_eq_true (by first|(with_reducible assumption)|assumption)
 have q13 : (ji10) < (256 : Int):=of_decide_eq_true (by first|(with_reducible assumption)|assumption)
 have hx13:=f_9 (⟨#[0,1,1,2,1,2,2,3,1,2,2,3,2,3,3,4,1,2,2,3,2,3,3,4,2,3,3,4,3,4,4,5,1,2,2,3,2,3,3,4,2,3,3,4,3,4,4,5,2,3,3,4,3,4,4,5,3,4,4,5,4,5,5,6,1,2,2,3,2,3,3,4,2,3,3,4,3,4,4,5,2,3,3,4,3,4,4,5,3,4,4,5,4,5,5,6,2,3,3,4,3,4,4,5,3,4,4,5,4,5,5,6,3,4,4,5,4,5,5,6,4,5,5,6,5,6,6,7,1,2,2,3,2,3,3,4,2,3,3,4,3,4,4,5,2,3,3,4,3,4,4,5,3,4,4,5,4,5,5,6,2,3,3,4,3,4,4,5,3,4,4,5,4,5,5,6,3,4,4,5,4,5,5,6,4,5,5,6,5,6,6,7,2,3,3,4,3,4,4,5,3,4,4,5,4,5,5,6,3,4,4,5,4,5,5,6,4,5,5,6,5,6,6,7,3,4,4,5,4,5,5,6,4,5,5,6,5,6,6,7,4,5,5,6,5,6,6,7,5,6,6,7,6,7,7,8]⟩ : ByteArray) (ji10)
 replace p13:=eq_true p13
 replace q13:=eq_true q13
 have p16 : 0 ≤ ((Go.bits .and .u32 a0 255) : Int):=of_decide_eq_true (by first|(with_reducible assumption)|assumption)
 have q16 : (Go.bits .and .u32 a0 255) < (256 : Int):=of_decide_eq_true (by first|(with_reducible assumption)|assumption)
 have hx16:=f_9 (⟨#[0,1,1,2,1,2,2,3,1,2,2,3,2,3,3,4,1,2,2,3,2,3,3,4,2,3,3,4,3,4,4,5,1,2,2,3,2,3,3,4,2,3,3,4,3,4,4,5,2,3,3,4,3,4,4,5,3,4,4,5,4,5,5,6,1,2,2,3,2,3,3,4,2,3,3,4,3,4,4,5,2,3,3,4,3,4,4,5,3,4,4,5,4,5,5,6,2,3,3,4,3,4,4,5,3,4,4,5,4,5,5,6,3,4,4,5,4,5,5,6,4,5,5,6,5,6,6,7,1,2,2,3,2,3,3,4,2,3,3,4,3,4,4,5,2,3,3,4,3,4,4,5,3,4,4,5,4,5,5,6,2,3,3,4,3,4,4,5,3,4,4,5,4,5,5,6,3,4,4,5,4,5,5,6,4,5,5,6,5,6,6,7,2,3,3,4,3,4,4,5,3,4,4,5,4,5,5,6,3,4,4,5,4,5,5,6,4,5,5,6,5,6,6,7,3,4,4,5,4,5,5,6,4,5,5,6,5,6,6,7,4,5,5,6,5,6,6,7,5,6,6,7,6,7,7,8]⟩ : ByteArray) (Go.bits .and .u32 a0 255)
 replace p16:=eq_true p16
 replace q16:=eq_true q16
 go_enter Tryd.func51,Tryd.ntmps51
 go_wp2
 repeat (go_quiet (fail);try go_wp2)
 go_ret
 exact ⟨by first|rfl|(simp;done)|(simp only [← hji2, ← hji6, ← hji10] <;> (first|rfl|simp))|(simp [*];done),by repeat (first|exact a_V.refl _|apply a_V.step)⟩
end Go.Proofs.YtcpfcehfgenljaaDoor.Q
end
section
namespace Go.Proofs.YtcpfcehfgenljaaDoor.Q
open Go.RowKit Go.Proofs.YtcpfcehfgenljaaDoorW.PrintWords Go.Proofs.YtcpfcehfgenljaaDoorW.PrintLast Go.Proofs.YtcpfcehfgenljaaDoorW.PrintMore
set_option linter.unusedVariables false
set_option linter.unusedSimpArgs false
def a_R.f (a0 : Int) : Option (Int):=(b_v.f (Go.bits .and .u32 a0 255)).bind fun t318 => (some t318)
set_option maxHeartbeats 8000000 in
set_option maxRecDepth 100000 in
theorem a_R.calls (a0 : Int) (r : Int) (w : World) (h : a_R.f a0 = some r) :
 Calls Tryd.prog 31 #[.int .u32 a0] w fun e w' => e = .returned (.int .i64 r) ∧ a_V w w':=by
 have H : ((b_v.f (Go.bits .and .u32 a0 255)).bind fun t318 => (some t318)) = some r:=h
 clear h
 replace H:=Option.bind_eq_some_iff.mp H
 obtain ⟨t318,A20,H⟩:=H
 replace H : (some t318) = some r:=H
 have A2:=a_b.mk A20
 clear A20
 obtain rfl:=Option.some.inj H
 go_enter Tryd.func31,Tryd.ntmps31
 go_wp2_with (first|((with_reducible refine a_s (f:=51) rfl ?_);refine a_O (some 5) rfl rfl Tryd.func51 (by kernel_rfl) rfl #[.int .u32 (Go.bits .and .u32 a0 255)] rfl (by (try simp only [List.map_toArray,List.map_cons,List.map_nil]);first|done|rfl|(simp only [List.length_drop,List.length_take];rfl)) ?_;(with_reducible refine (b_v.calls (Go.bits .and .u32 a0 255) t318 _ A2.out).mono ?_);rintro e w' ⟨rfl,⟨nd,rfl⟩⟩;refine ⟨_,rfl,?_⟩))
 go_ret
 exact ⟨by first|rfl|(simp;done)|(simp [*];done),by repeat (first|exact a_V.refl _|apply a_V.step)⟩
end Go.Proofs.YtcpfcehfgenljaaDoor.Q
end
section
namespace Go.Proofs.YtcpfcehfgenljaaDoor.Q
open Go.RowKit Go.Proofs.YtcpfcehfgenljaaDoorW.PrintWords Go.Proofs.YtcpfcehfgenljaaDoorW.PrintLast Go.Proofs.YtcpfcehfgenljaaDoorW.PrintMore
set_option linter.unusedVariables false
set_option linter.unusedSimpArgs false
def b_k.f (a0 : Int) (a1 : Int) : Option (Bool):=(b_o.f a1).bind fun t319 => (some ((Go.bits .and .u32 a0 t319) != 0))
set_option maxHeartbeats 8000000 in
set_option maxRecDepth 100000 in
theorem b_k.calls (a0 : Int) (a1 : Int) (r : Bool) (w : World) (h : b_k.f a0 a1 = some r) :
 Calls Tryd.prog 33 #[.int .u32 a0,.int .i64 a1] w fun e w' => e = .returned (.bool r) ∧ a_V w w':=by
 have H : ((b_o.f a1).bind fun t319 => (some ((Go.bits .and .u32 a0 t319) != 0))) = some r:=h
 clear h
 replace H:=Option.bind_eq_some_iff.mp H
 obtain ⟨t319,A30,H⟩:=H
 replace H : (some ((Go.bits .and .u32 a0 t319) != 0)) = some r:=H
 have A3:=a_b.mk A30
 clear A30
 obtain rfl:=Option.some.inj H
 go_enter Tryd.func33,Tryd.ntmps33
 go_wp2_with (first|((with_reducible refine a_s (f:=52) rfl ?_);refine a_O (some 7) rfl rfl Tryd.func52 (by kernel_rfl) rfl #[.int .i64 a1] rfl (by (try simp only [List.map_toArray,List.map_cons,List.map_nil]);first|done|rfl|(simp only [List.length_drop,List.length_take];rfl)) ?_;(with_reducible refine (b_o.calls a1 t319 _ A3.out).mono ?_);rintro e w' ⟨rfl,⟨nd,rfl⟩⟩;refine ⟨_,rfl,?_⟩))
 go_ret
 exact ⟨by first|rfl|(simp;done)|(simp [*];done),by repeat (first|exact a_V.refl _|apply a_V.step)⟩
end Go.Proofs.YtcpfcehfgenljaaDoor.Q
end
section
namespace Go.Proofs.YtcpfcehfgenljaaDoor.Q
open Go.RowKit Go.Proofs.YtcpfcehfgenljaaDoorW.PrintWords Go.Proofs.YtcpfcehfgenljaaDoorW.PrintLast Go.Proofs.YtcpfcehfgenljaaDoorW.PrintMore
set_option linter.unusedVariables false
set_option linter.unusedSimpArgs false
mutual
def a_a.l0 : Nat → Int → Int → Int → Int → List (S56) → Option (Bool)
 | 0,_,_,_,_,_ => none
 | k + 1,x1,x2,x8,x27,x326000 => if x27 < 4 then ((a_0.f x326000 x27).bind fun t327 => (if (Go.bits .and .u32 x8 t327) = 0 then (a_a.l0 k x1 x2 (Go.bits .or .u32 x8 t327) (wrap64 (x27 + 1)) x326000) else (some false))) else ((b_f.f x326000).bind fun t328 => (if x8 = t328 then ((a_R.f x8).bind fun t329 => (a_a.j1 k x1 x2 (t329 != (x326000.length : Int)) x326000)) else (a_a.j1 k x1 x2 true x326000)))
def a_a.j1 : Nat → Int → Int → Bool → List (S56) → Option (Bool)
 | 0,_,_,_,_ => none
 | k + 1,x1,x2,x52,x326000 => if x52 = true then (some false) else ((a_W.f x326000 x1 x2).bind fun bt330 => (if bt330.2 = 0 then ((a_x.f k bt330.1).bind fun bt334 => (if bt334.2 = 0 then ((b_f.f x326000).bind fun t336 => (if bt334.1 = (Go.bits .and .u32 x2 t336) then ((a_R.f bt334.1).bind fun t337 => (if (bt330.1.length : Int) = t337 then ((b_k.f x2 x1).bind fun t338 => (if t338 = true then (if 0 < (bt330.1.length : Int) then (a_a.j2 k x1 bt330.1 ((rd bt330.1 0) != x1) x326000) else (none)) else (a_a.j2 k x1 bt330.1 false x326000))) else (a_a.j2 k x1 bt330.1 true x326000))) else (a_a.j2 k x1 bt330.1 true x326000))) else (a_a.j2 k x1 bt330.1 true x326000))) else (some true)))
def a_a.j2 : Nat → Int → List Int → Bool → List (S56) → Option (Bool)
 | 0,_,_,_,_ => none
 | k + 1,x1,x11,x95,x326000 => if x95 = true then (some false) else (a_a.l1 k x1 (-1) x11 (x11.length : Int) 0 x326000)
def a_a.l1 : Nat → Int → Int → List Int → Int → Int → List (S56) → Option (Bool)
 | 0,_,_,_,_,_,_ => none
 | k + 1,x1,x15,x96,x97,x98,x326000 => if x98 < x97 then (if 0 ≤ x98 then (if x98 < (x96.length : Int) then ((a_C.f k x326000 x1 (rd x96 x98)).bind fun bt341 => (if bt341.2 = 0 then (if bt341.1 < x15 then (some false) else (a_a.l1 k x1 bt341.1 x96 x97 (wrap64 (x98 + 1)) x326000)) else (some false))) else (none)) else (none)) else (some true)
end
def a_a.f (k : Nat) (l0_0 : List (S56)) (a1 : Int) (a2 : Int) : Option (Bool):=(a_t.f k).bind fun t321 => (if t321 = true then ((a_E.f l0_0).bind fun t322 => ((a_H.f t322).bind fun t326 => (if t326 = 0 then (a_a.l0 k a1 a2 0 0 t322) else (some true)))) else (some false))
theorem a_a.c_i : ∀ k,(∀ y0 y1 y2 y3 y4,LeO (a_a.l0 k y0 y1 y2 y3 y4) (a_a.l0 (k + 1) y0 y1 y2 y3 y4)) ∧ (∀ y0 y1 y2 y3,LeO (a_a.j1 k y0 y1 y2 y3) (a_a.j1 (k + 1) y0 y1 y2 y3)) ∧ (∀ y0 y1 y2 y3,LeO (a_a.j2 k y0 y1 y2 y3) (a_a.j2 (k + 1) y0 y1 y2 y3)) ∧ (∀ y0 y1 y2 y3 y4 y5,LeO (a_a.l1 k y0 y1 y2 y3 y4 y5) (a_a.l1 (k + 1) y0 y1 y2 y3 y4 y5))
 | 0 => ⟨fun _ _ _ _ _ r h => by simp [a_a.l0] at h,fun _ _ _ _ r h => by simp [a_a.j1] at h,fun _ _ _ _ r h => by simp [a_a.j2] at h,fun _ _ _ _ _ _ r h => by simp [a_a.l1] at h⟩
 | k + 1 => by
  obtain ⟨ih0,ih1,ih2,ih3⟩:=a_a.c_i k
  refine ⟨?_,?_,?_,?_⟩
  ·intro y0 y1 y2 y3 y4
   unfold a_a.l0
   repeat' first
   | (with_reducible exact ih0 _ _ _ _ _)
   | (with_reducible exact ih1 _ _ _ _)
   | (with_reducible exact ih2 _ _ _ _)
   | (with_reducible exact ih3 _ _ _ _ _ _)
   | (with_reducible exact a_x.mono _ _)
   | (with_reducible exact a_t.mono _)
   | (with_reducible exact a_C.mono _ _ _ _)
   | (with_reducible exact LeO.refl _)
   | (with_reducible exact LeO.none _)
   | (with_reducible refine LeO.ite ?_ ?_)
   | (with_reducible refine LeO.bind ?_ (fun _ => ?_))
   | exact ih0 _ _ _ _ _
   | exact ih1 _ _ _ _
   | exact ih2 _ _ _ _
   | exact ih3 _ _ _ _ _ _
   | exact a_x.mono _ _
   | exact a_t.mono _
   | exact a_C.mono _ _ _ _
   | exact LeO.none _
   | refine LeO.ite ?_ ?_
   | refine LeO.bind ?_ (fun _ => ?_)
  ·intro y0 y1 y2 y3
   unfold a_a.j1
   repeat' first
   | (with_reducible exact ih0 _ _ _ _ _)
   | (with_reducible exact ih1 _ _ _ _)
   | (with_reducible exact ih2 _ _ _ _)
   | (with_reducible exact ih3 _ _ _ _ _ _)
   | (with_reducible exact a_x.mono _ _)
   | (with_reducible exact a_t.mono _)
   | (with_reducible exact a_C.mono _ _ _ _)
   | (with_reducible exact LeO.refl _)
   | (with_reducible exact LeO.none _)
   | (with_reducible refine LeO.ite ?_ ?_)
   | (with_reducible refine LeO.bind ?_ (fun _ => ?_))
   | exact ih0 _ _ _ _ _
   | exact ih1 _ _ _ _
   | exact ih2 _ _ _ _
   | exact ih3 _ _ _ _ _ _
   | exact a_x.mono _ _
   | exact a_t.mono _
   | exact a_C.mono _ _ _ _
   | exact LeO.none _
   | refine LeO.ite ?_ ?_
   | refine LeO.bind ?_ (fun _ => ?_)
  ·intro y0 y1 y2 y3
   unfold a_a.j2
   repeat' first
   | (with_reducible exact ih0 _ _ _ _ _)
   | (with_reducible exact ih1 _ _ _ _)
   | (with_reducible exact ih2 _ _ _ _)
   | (with_reducible exact ih3 _ _ _ _ _ _)
   | (with_reducible exact a_x.mono _ _)
   | (with_reducible exact a_t.mono _)
   | (with_reducible exact a_C.mono _ _ _ _)
   | (with_reducible exact LeO.refl _)
   | (with_reducible exact LeO.none _)
   | (with_reducible refine LeO.ite ?_ ?_)
   | (with_reducible refine LeO.bind ?_ (fun _ => ?_))
   | exact ih0 _ _ _ _ _
   | exact ih1 _ _ _ _
   | exact ih2 _ _ _ _
   | exact ih3 _ _ _ _ _ _
   | exact a_x.mono _ _
   | exact a_t.mono _
   | exact a_C.mono _ _ _ _
   | exact LeO.none _
   | refine LeO.ite ?_ ?_
   | refine LeO.bind ?_ (fun _ => ?_)
  ·intro y0 y1 y2 y3 y4 y5
   unfold a_a.l1
   repeat' first
   | (with_reducible exact ih0 _ _ _ _ _)
   | (with_reducible exact ih1 _ _ _ _)
   | (with_reducible exact ih2 _ _ _ _)
   | (with_reducible exact ih3 _ _ _ _ _ _)
   | (with_reducible exact a_x.mono _ _)
   | (with_reducible exact a_t.mono _)
   | (with_reducible exact a_C.mono _ _ _ _)
   | (with_reducible exact LeO.refl _)
   | (with_reducible exact LeO.none _)
   | (with_reducible refine LeO.ite ?_ ?_)
   | (with_reducible refine LeO.bind ?_ (fun _ => ?_))
   | exact ih0 _ _ _ _ _
   | exact ih1 _ _ _ _
   | exact ih2 _ _ _ _
   | exact ih3 _ _ _ _ _ _
   | exact a_x.mono _ _
   | exact a_t.mono _
   | exact a_C.mono _ _ _ _
   | exact LeO.none _
   | refine LeO.ite ?_ ?_
   | refine LeO.bind ?_ (fun _ => ?_)
theorem a_a.mono : ∀ a0 a1 a2 k,LeO (a_a.f k a0 a1 a2) (a_a.f (k + 1) a0 a1 a2):=by
 intro a0 a1 a2 k
 obtain ⟨ih0,ih1,ih2,ih3⟩:=a_a.c_i k
 unfold a_a.f
 repeat' first
  | (with_reducible exact ih0 _ _ _ _ _)
  | (with_reducible exact ih1 _ _ _ _)
  | (with_reducible exact ih2 _ _ _ _)
  | (with_reducible exact ih3 _ _ _ _ _ _)
  | (with_reducible exact a_x.mono _ _)
  | (with_reducible exact a_t.mono _)
  | (with_reducible exact a_C.mono _ _ _ _)
  | (with_reducible exact LeO.refl _)
  | (with_reducible exact LeO.none _)
  | (with_reducible refine LeO.ite ?_ ?_)
  | (with_reducible refine LeO.bind ?_ (fun _ => ?_))
  | exact ih0 _ _ _ _ _
  | exact ih1 _ _ _ _
  | exact ih2 _ _ _ _
  | exact ih3 _ _ _ _ _ _
  | exact a_x.mono _ _
  | exact a_t.mono _
  | exact a_C.mono _ _ _ _
  | exact LeO.none _
  | refine LeO.ite ?_ ?_
  | refine LeO.bind ?_ (fun _ => ?_)
def a_a.T15 : Bool × List (List Nat × List Nat):=(true,[([],[]),([],[]),([1],[1]),([0,2],[0,2]),([3,2],[3]),([4],[4]),([5,4,4],[4,5]),([4],[4]),([7,4],[4,7]),([8,4],[4,8]),([6,9,4],[4,6,9]),([4,10],[4,10])])
def a_a.B15 : List Nat:=[0,0,2,7,15,31,63,31,159,415,1023,2047]
theorem a_a.h_H : rtab .any (opsOf Tryd.f6 15) = a_a.T15:=by kernel_rfl
theorem a_a.g_w : c_y a_a.T15.2 a_a.B15 = true:=by kernel_rfl
set_option maxHeartbeats 8000000 in
set_option maxRecDepth 100000 in
theorem a_a.calls (k : Nat) (A0_0 : Option Addr) (c0_0 : Nat) (l0_0 : List (S56)) (a1 : Int) (a2 : Int) (r : Bool) (w : World) (hr0_0 : Kd.C k56 w A0_0 l0_0.length l0_0) (hc0_0 : l0_0.length ≤ c0_0) (ht : b_p w) (h : a_a.f k l0_0 a1 a2 = some r) :
 Calls Tryd.prog 6 #[.agg #[.slice A0_0 l0_0.length c0_0],.int .i64 a1,.int .u32 a2] w fun e w' => e = .returned (.bool r) ∧ Below w.heap.size w w':=by
 have hu24:=Tryd.underlying24
 have HTAB_:=a_b.mk ht
 clear ht
 have b_M:=a_b.mk hr0_0
 have b_S:=a_b.mk hc0_0
 clear hr0_0 hc0_0
 have HB:=a_b.mk (Below.refl w.heap.size w)
 have H : ((a_t.f k).bind fun t321 => (if t321 = true then ((a_E.f l0_0).bind fun t322 => ((a_H.f t322).bind fun t326 => (if t326 = 0 then (a_a.l0 k a1 a2 0 0 t322) else (some true)))) else (some false))) = some r:=h
 clear h
 replace H:=Option.bind_eq_some_iff.mp H
 obtain ⟨t321,A40,H⟩:=H
 replace H : (if t321 = true then ((a_E.f l0_0).bind fun t322 => ((a_H.f t322).bind fun t326 => (if t326 = 0 then (a_a.l0 k a1 a2 0 0 t322) else (some true)))) else (some false)) = some r:=H
 have A4:=a_b.mk A40
 clear A40
 by_cases c5 : t321 = true
 rotate_left
 ·replace c5:=Bool.eq_false_iff.mpr c5
  subst c5
  have H1 : (some false) = some r:=by rw [if_neg (show ¬ (false = true) by decide)] at H;exact H
  clear H
  have H:=H1
  clear H1
  obtain rfl:=Option.some.inj H
  go_enter Tryd.func6,Tryd.ntmps6
  go_wp2_with (first|((with_reducible refine a_D (N:=3) rfl ?_);(try (refine a_U (by rfl) ?_;dsimp only));refine a_A ?hg (N:=3) ?hd (cs:=#[.slice A0_0 l0_0.length c0_0]) (t:=24) ?hr ?_;(case hd => rfl);(case hg => rfl);(case hr => first|(go_simp;done)|(go_simp;rfl));intro b_7 hg w92 hbox hb;have a_P:=a_b.mk (hbox);have h_h:=a_b.mk ((by rw [hg];exact (a_g (lup_ HB.out)) : w.heap.size ≤ b_7));have a_Y:=a_b.mk ((by rw [hg];exact (a_g (lup_ HB.out)) : w.heap.size ≤ b_7));replace HB:=a_b.mk (a_h (lup_ HB.out) hb);clear hb hbox hg)|((with_reducible refine a_s (f:=10) rfl ?_);refine a_O (some 20) rfl rfl Tryd.func10 (by kernel_rfl) rfl #[] rfl (by (try simp only [List.map_toArray,List.map_cons,List.map_nil]);first|done|rfl|(simp only [List.length_drop,List.length_take];rfl)) ?_;(with_reducible refine (a_t.calls k  false _ ?side1 A4.out).mono ?_);(case side1 => exact b_p.below HTAB_.out (by repeat (first|(with_reducible first|exact HB.out|apply a_e|apply a_c|apply a_f|refine a_d ?_ a_Y.out)|exact HB.out)));rintro e w93 ⟨rfl,hb⟩;refine ⟨_,rfl,?_⟩;replace a_P:=a_b.mk (a_k (bup_ a_P.out) hb);replace HB:=a_b.mk (a_h (by repeat (first|(with_reducible first|exact HB.out|apply a_e|apply a_c|apply a_f|refine a_d ?_ a_Y.out)|exact HB.out)) hb);(try clear hb);(try clear hb2);(try clear hk);(try clear hi)))
  go_ret
  exact ⟨by first|rfl|(simp [a_p,a_q] <;> rfl)|(simp [*, a_p,a_q] <;> rfl),by repeat (first|(with_reducible first|exact HB.out|apply a_e|apply a_c|apply a_f|refine a_d ?_ a_Y.out)|exact HB.out)⟩
 subst c5
 have H1 : ((a_E.f l0_0).bind fun t322 => ((a_H.f t322).bind fun t326 => (if t326 = 0 then (a_a.l0 k a1 a2 0 0 t322) else (some true)))) = some r:=by rw [if_pos rfl] at H;exact H
 clear H
 have H:=H1
 clear H1
 replace H:=Option.bind_eq_some_iff.mp H
 obtain ⟨t322,A60,H⟩:=H
 replace H : ((a_H.f t322).bind fun t326 => (if t326 = 0 then (a_a.l0 k a1 a2 0 0 t322) else (some true))) = some r:=H
 have A6:=a_b.mk A60
 clear A60
 replace H:=Option.bind_eq_some_iff.mp H
 obtain ⟨t326,A70,H⟩:=H
 replace H : (if t326 = 0 then (a_a.l0 k a1 a2 0 0 t322) else (some true)) = some r:=H
 have A7:=a_b.mk A70
 clear A70
 by_cases c8 : t326 = 0
 rotate_left
 ·rw [if_neg c8] at H
  have c8b0 : (t326 == 0) = false:=beq_eq_false_iff_ne.mpr c8
  have c8b1 : (t326 != 0) = true:=bne_iff_ne.mpr c8
  obtain rfl:=Option.some.inj H
  go_enter Tryd.func6,Tryd.ntmps6
  go_wp2_with (first|((with_reducible refine a_D (N:=3) rfl ?_);(try (refine a_U (by rfl) ?_;dsimp only));refine a_A ?hg (N:=3) ?hd (cs:=#[.slice A0_0 l0_0.length c0_0]) (t:=24) ?hr ?_;(case hd => rfl);(case hg => rfl);(case hr => first|(go_simp;done)|(go_simp;rfl));intro b_7 hg w83 hbox hb;have a_P:=a_b.mk (hbox);have h_h:=a_b.mk ((by rw [hg];exact (a_g (lup_ HB.out)) : w.heap.size ≤ b_7));have a_Y:=a_b.mk ((by rw [hg];exact (a_g (lup_ HB.out)) : w.heap.size ≤ b_7));replace HB:=a_b.mk (a_h (lup_ HB.out) hb);clear hb hbox hg)|((with_reducible refine a_s (f:=10) rfl ?_);refine a_O (some 20) rfl rfl Tryd.func10 (by kernel_rfl) rfl #[] rfl (by (try simp only [List.map_toArray,List.map_cons,List.map_nil]);first|done|rfl|(simp only [List.length_drop,List.length_take];rfl)) ?_;(with_reducible refine (a_t.calls k  true _ ?side1 A4.out).mono ?_);(case side1 => exact b_p.below HTAB_.out (by repeat (first|(with_reducible first|exact HB.out|apply a_e|apply a_c|apply a_f|refine a_d ?_ a_Y.out)|exact HB.out)));rintro e w84 ⟨rfl,hb⟩;refine ⟨_,rfl,?_⟩;replace a_P:=a_b.mk (a_k (bup_ a_P.out) hb);replace HB:=a_b.mk (a_h (by repeat (first|(with_reducible first|exact HB.out|apply a_e|apply a_c|apply a_f|refine a_d ?_ a_Y.out)|exact HB.out)) hb);(try clear hb);(try clear hb2);(try clear hk);(try clear hi);have i_I : w84.cell? ⟨b_7,0,none⟩ = some (.slice A0_0 l0_0.length c0_0):=(a_l a_P.out 0).trans rfl;have j_f:=a_i a_P.out 0)|((with_reducible refine a_s (f:=11) rfl ?_);refine a_O (some 23) rfl rfl Tryd.func11 (by kernel_rfl) rfl #[.agg #[.slice A0_0 l0_0.length c0_0]] rfl (by (try simp only [List.map_toArray,List.map_cons,List.map_nil]);first|done|rfl|(simp only [List.length_drop,List.length_take];rfl)) ?_;(with_reducible refine (a_E.calls _ _ l0_0 t322 _ ?side1 ?side2 A6.out).mono ?_);(case side1 => repeat (first|exact (Kd.a_N b_M.out HB.out)|(with_reducible refine Kd.a_I ?_ _)|(with_reducible refine Kd.a_J ?_ _)|(with_reducible refine Kd.a_X ?_)));(case side2 => exact b_S.out);rintro e w86 ⟨v323,rfl,ho0,hb⟩;refine ⟨_,rfl,?_⟩;have c_n:=a_b.mk (Kd.b_i ho0 (a_g (by repeat (first|(with_reducible first|exact HB.out|apply a_e|apply a_c|apply a_f|refine a_d ?_ a_Y.out)|exact HB.out))));replace a_P:=a_b.mk (a_k (bup_ a_P.out) hb);replace HB:=a_b.mk (a_h (by repeat (first|(with_reducible first|exact HB.out|apply a_e|apply a_c|apply a_f|refine a_d ?_ a_Y.out)|exact HB.out)) hb);(try clear hb);(try clear hb2);(try clear hk);(try clear hi);(try clear ho0))|((with_reducible refine a_D (N:=7) rfl ?_);(try (refine a_U (by rfl) ?_;dsimp only));refine a_A ?hg (N:=7) ?hd (cs:=#[.slice none 0 0]) (t:=24) ?hr ?_;(case hd => rfl);(case hg => rfl);(case hr => first|(go_simp;done)|(go_simp;rfl));intro b_G hg w87 hbox hb;have a_F:=a_b.mk (hbox);have h_R:=a_b.mk ((by rw [hg];exact (a_g (by repeat (first|(with_reducible first|exact HB.out|apply a_e|apply a_c|apply a_f|refine a_d ?_ a_Y.out)|exact HB.out))) : w.heap.size ≤ b_G));have b_s:=a_b.mk ((by rw [hg];exact (a_g (by repeat (first|(with_reducible first|exact HB.out|apply a_e|apply a_c|apply a_f|refine a_d ?_ a_Y.out)|exact HB.out))) : w.heap.size ≤ b_G));have b_b:=a_b.mk ((by rw [hg];exact Nat.ne_of_lt (a_1 (bup_ a_P.out)) : b_7 ≠ b_G));have b_l:=a_b.mk ((by rw [hg];exact Nat.ne_of_gt (a_1 (bup_ a_P.out)) : b_G ≠ b_7));replace c_n:=a_b.mk (Kd.a_B (rup_ c_n.out) hb);replace a_P:=a_b.mk (a_k (bup_ a_P.out) hb);replace HB:=a_b.mk (a_h (by repeat (first|(with_reducible first|exact HB.out|apply a_e|apply a_c|apply a_f|refine a_d ?_ a_Y.out)|exact HB.out)) hb);clear hb hbox hg;obtain ⟨Ao88,co88,eo88⟩:=Kd.b_E c_n.out;subst eo88;have j_7:=b_l.out;have k_y:=b_b.out;have i_J : w87.cell? ⟨b_G,0,none⟩ = some (.slice none 0 0):=(a_l a_F.out 0).trans rfl;have j_g:=a_i a_F.out 0)|((with_reducible refine a_s (f:=28) rfl ?_);refine a_O (some 25) rfl rfl Tryd.func28 (by kernel_rfl) rfl #[.agg #[.slice Ao88 t322.length co88]] rfl (by (try simp only [List.map_toArray,List.map_cons,List.map_nil]);first|done|rfl|(simp only [List.length_drop,List.length_take];rfl)) ?_;(with_reducible refine (a_H.calls _ _ t322 t326 _ ?side1 ?side2 A7.out).mono ?_);(case side1 => refine (Kd.a_v (e:=56) (base:=w.heap.size) (ok:=fun k_ => True) (n:=t322.length) (c:=co88) ?_).2.2;exact (by (with_reducible repeat (first|apply Kd.a_K|apply Kd.a_L|apply Kd.a_T));exact (Kd.b_u (Kd.b_1 (p:=⟨b_G,0,none⟩) (Kd.b_j c_n.out a_F.out (by decide)) (fun _ hk => hk.2) (.slice Ao88 t322.length co88)) (fun _ h_ => h_.1))));(case side2 => exact (Kd.a_v c_n.out).2.1);rintro e w91 ⟨rfl,hb⟩;refine ⟨_,rfl,?_⟩;replace c_n:=a_b.mk (Kd.a_B (by (with_reducible repeat (first|apply Kd.a_K|apply Kd.a_L|apply Kd.a_T));exact (Kd.b_u (Kd.b_1 (p:=⟨b_G,0,none⟩) (Kd.b_j c_n.out a_F.out (by decide)) (fun _ hk => hk.2) (.slice Ao88 t322.length co88)) (fun _ h_ => h_.1))) hb);replace a_P:=a_b.mk (a_k (g:=b_7) (o:=.cells #[.slice A0_0 l0_0.length c0_0] 24 (0,0)) (by (with_reducible repeat (first|refine a_m ?_ _|refine a_o ?_|refine a_j ?_ _));refine b_t ?_ b_b.out _;(with_reducible repeat (first|refine a_m ?_ _|refine a_o ?_|refine a_j ?_ _));exact a_P.out) hb);replace a_F:=a_b.mk (a_k (g:=b_G) (o:=.cells #[.slice Ao88 t322.length co88] 24 (0,0)) (by (with_reducible repeat (first|refine a_m ?_ _|refine a_o ?_|refine a_j ?_ _));refine b_d (cs:=#[.slice none 0 0]) ?_ 0 _ rfl;(with_reducible repeat (first|refine a_m ?_ _|refine a_o ?_|refine a_j ?_ _));exact a_F.out) hb);replace HB:=a_b.mk (a_h (by repeat (first|(with_reducible first|exact HB.out|apply a_e|apply a_c|apply a_f|refine a_d ?_ a_Y.out|refine a_d ?_ b_s.out)|exact HB.out)) hb);(try clear hb);(try clear hb2);(try clear hk);(try clear hi)))
  go_ret
  exact ⟨by first|rfl|(simp [a_p,a_q] <;> rfl)|(simp [*, a_p,a_q] <;> rfl),by repeat (first|(with_reducible first|exact HB.out|apply a_e|apply a_c|apply a_f|refine a_d ?_ a_Y.out|refine a_d ?_ b_s.out)|exact HB.out)⟩
 rw [if_pos c8] at H
 have c8b0 : (t326 == 0) = true:=beq_iff_eq.mpr c8
 have c8b1 : (t326 != 0) = false:=bne_eq_false_iff_eq.mpr c8
 clear c8
 have H':=a_b.mk H
 clear H
 go_enter Tryd.func6,Tryd.ntmps6
 go_wp2_with (first|((with_reducible refine a_D (N:=3) rfl ?_);(try (refine a_U (by rfl) ?_;dsimp only));refine a_A ?hg (N:=3) ?hd (cs:=#[.slice A0_0 l0_0.length c0_0]) (t:=24) ?hr ?_;(case hd => rfl);(case hg => rfl);(case hr => first|(go_simp;done)|(go_simp;rfl));intro b_7 hg w9 hbox hb;have a_P:=a_b.mk (hbox);have h_h:=a_b.mk ((by rw [hg];exact (a_g (lup_ HB.out)) : w.heap.size ≤ b_7));have a_Y:=a_b.mk ((by rw [hg];exact (a_g (lup_ HB.out)) : w.heap.size ≤ b_7));replace HB:=a_b.mk (a_h (lup_ HB.out) hb);clear hb hbox hg)|((with_reducible refine a_s (f:=10) rfl ?_);refine a_O (some 20) rfl rfl Tryd.func10 (by kernel_rfl) rfl #[] rfl (by (try simp only [List.map_toArray,List.map_cons,List.map_nil]);first|done|rfl|(simp only [List.length_drop,List.length_take];rfl)) ?_;(with_reducible refine (a_t.calls k  true _ ?side1 A4.out).mono ?_);(case side1 => exact b_p.below HTAB_.out (by repeat (first|(with_reducible first|exact HB.out|apply a_e|apply a_c|apply a_f|refine a_d ?_ a_Y.out)|exact HB.out)));rintro e w10 ⟨rfl,hb⟩;refine ⟨_,rfl,?_⟩;replace a_P:=a_b.mk (a_k (bup_ a_P.out) hb);replace HB:=a_b.mk (a_h (by repeat (first|(with_reducible first|exact HB.out|apply a_e|apply a_c|apply a_f|refine a_d ?_ a_Y.out)|exact HB.out)) hb);(try clear hb);(try clear hb2);(try clear hk);(try clear hi);have c_N : w10.cell? ⟨b_7,0,none⟩ = some (.slice A0_0 l0_0.length c0_0):=(a_l a_P.out 0).trans rfl;have c_O:=a_i a_P.out 0)|((with_reducible refine a_s (f:=11) rfl ?_);refine a_O (some 23) rfl rfl Tryd.func11 (by kernel_rfl) rfl #[.agg #[.slice A0_0 l0_0.length c0_0]] rfl (by (try simp only [List.map_toArray,List.map_cons,List.map_nil]);first|done|rfl|(simp only [List.length_drop,List.length_take];rfl)) ?_;(with_reducible refine (a_E.calls _ _ l0_0 t322 _ ?side1 ?side2 A6.out).mono ?_);(case side1 => repeat (first|exact (Kd.a_N b_M.out HB.out)|(with_reducible refine Kd.a_I ?_ _)|(with_reducible refine Kd.a_J ?_ _)|(with_reducible refine Kd.a_X ?_)));(case side2 => exact b_S.out);rintro e w12 ⟨v323,rfl,ho0,hb⟩;refine ⟨_,rfl,?_⟩;have c_n:=a_b.mk (Kd.b_i ho0 (a_g (by repeat (first|(with_reducible first|exact HB.out|apply a_e|apply a_c|apply a_f|refine a_d ?_ a_Y.out)|exact HB.out))));replace a_P:=a_b.mk (a_k (bup_ a_P.out) hb);replace HB:=a_b.mk (a_h (by repeat (first|(with_reducible first|exact HB.out|apply a_e|apply a_c|apply a_f|refine a_d ?_ a_Y.out)|exact HB.out)) hb);(try clear hb);(try clear hb2);(try clear hk);(try clear hi);(try clear ho0))|((with_reducible refine a_D (N:=7) rfl ?_);(try (refine a_U (by rfl) ?_;dsimp only));refine a_A ?hg (N:=7) ?hd (cs:=#[.slice none 0 0]) (t:=24) ?hr ?_;(case hd => rfl);(case hg => rfl);(case hr => first|(go_simp;done)|(go_simp;rfl));intro b_G hg w13 hbox hb;have a_F:=a_b.mk (hbox);have h_R:=a_b.mk ((by rw [hg];exact (a_g (by repeat (first|(with_reducible first|exact HB.out|apply a_e|apply a_c|apply a_f|refine a_d ?_ a_Y.out)|exact HB.out))) : w.heap.size ≤ b_G));have b_s:=a_b.mk ((by rw [hg];exact (a_g (by repeat (first|(with_reducible first|exact HB.out|apply a_e|apply a_c|apply a_f|refine a_d ?_ a_Y.out)|exact HB.out))) : w.heap.size ≤ b_G));have b_b:=a_b.mk ((by rw [hg];exact Nat.ne_of_lt (a_1 (bup_ a_P.out)) : b_7 ≠ b_G));have b_l:=a_b.mk ((by rw [hg];exact Nat.ne_of_gt (a_1 (bup_ a_P.out)) : b_G ≠ b_7));replace c_n:=a_b.mk (Kd.a_B (rup_ c_n.out) hb);replace a_P:=a_b.mk (a_k (bup_ a_P.out) hb);replace HB:=a_b.mk (a_h (by repeat (first|(with_reducible first|exact HB.out|apply a_e|apply a_c|apply a_f|refine a_d ?_ a_Y.out)|exact HB.out)) hb);clear hb hbox hg;obtain ⟨Ao14,co14,eo14⟩:=Kd.b_E c_n.out;subst eo14;have j_J:=b_l.out;have j_9:=b_b.out;have c_w : w13.cell? ⟨b_G,0,none⟩ = some (.slice none 0 0):=(a_l a_F.out 0).trans rfl;have c_x:=a_i a_F.out 0)|((with_reducible refine a_s (f:=28) rfl ?_);refine a_O (some 25) rfl rfl Tryd.func28 (by kernel_rfl) rfl #[.agg #[.slice Ao14 t322.length co14]] rfl (by (try simp only [List.map_toArray,List.map_cons,List.map_nil]);first|done|rfl|(simp only [List.length_drop,List.length_take];rfl)) ?_;(with_reducible refine (a_H.calls _ _ t322 t326 _ ?side1 ?side2 A7.out).mono ?_);(case side1 => refine (Kd.a_v (e:=56) (base:=w.heap.size) (ok:=fun k_ => True) (n:=t322.length) (c:=co14) ?_).2.2;exact (by (with_reducible repeat (first|apply Kd.a_K|apply Kd.a_L|apply Kd.a_T));exact (Kd.b_u (Kd.b_1 (p:=⟨b_G,0,none⟩) (Kd.b_j c_n.out a_F.out (by decide)) (fun _ hk => hk.2) (.slice Ao14 t322.length co14)) (fun _ h_ => h_.1))));(case side2 => exact (Kd.a_v c_n.out).2.1);rintro e w17 ⟨rfl,hb⟩;refine ⟨_,rfl,?_⟩;replace c_n:=a_b.mk (Kd.a_B (by (with_reducible repeat (first|apply Kd.a_K|apply Kd.a_L|apply Kd.a_T));exact (Kd.b_u (Kd.b_1 (p:=⟨b_G,0,none⟩) (Kd.b_j c_n.out a_F.out (by decide)) (fun _ hk => hk.2) (.slice Ao14 t322.length co14)) (fun _ h_ => h_.1))) hb);replace a_P:=a_b.mk (a_k (g:=b_7) (o:=.cells #[.slice A0_0 l0_0.length c0_0] 24 (0,0)) (by (with_reducible repeat (first|refine a_m ?_ _|refine a_o ?_|refine a_j ?_ _));refine b_t ?_ b_b.out _;(with_reducible repeat (first|refine a_m ?_ _|refine a_o ?_|refine a_j ?_ _));exact a_P.out) hb);replace a_F:=a_b.mk (a_k (g:=b_G) (o:=.cells #[.slice Ao14 t322.length co14] 24 (0,0)) (by (with_reducible repeat (first|refine a_m ?_ _|refine a_o ?_|refine a_j ?_ _));refine b_d (cs:=#[.slice none 0 0]) ?_ 0 _ rfl;(with_reducible repeat (first|refine a_m ?_ _|refine a_o ?_|refine a_j ?_ _));exact a_F.out) hb);replace HB:=a_b.mk (a_h (by repeat (first|(with_reducible first|exact HB.out|apply a_e|apply a_c|apply a_f|refine a_d ?_ a_Y.out|refine a_d ?_ b_s.out)|exact HB.out)) hb);(try clear hb);(try clear hb2);(try clear hk);(try clear hi)))
 go_loopg [8,27] k (fun kq v8 v27 w' => ∃ (x8_1 : Int) (x27_1 : Int),v8 = .int .u32 x8_1 ∧ v27 = .int .i64 x27_1 ∧ a_b (a_a.l0 kq a1 a2 x8_1 x27_1 t322 = some r) ∧ a_b (kq ≤ k) ∧ a_b (Kd.R k56 56 w' w.heap.size (fun _ => True) (.slice Ao14 t322.length co14) t322) ∧ a_b (w'.heap[b_7]? = some (.cells #[(.slice A0_0 l0_0.length c0_0)] 24 (0,0))) ∧ a_b (w'.heap[b_G]? = some (.cells #[(.slice Ao14 t322.length co14)] 24 (0,0))) ∧ a_b (Below w.heap.size w w'))
 case atStart => exact ⟨(0),(0),(by first|rfl|(simp;done)|(simp [*];done)),(by first|rfl|(simp;done)|(simp [*];done)),H',⟨Nat.le_refl _⟩,⟨by (with_reducible repeat (first|apply Kd.a_K|apply Kd.a_L|apply Kd.a_T));exact c_n.out⟩,⟨by (with_reducible repeat (first|refine a_m ?_ _|refine a_o ?_|refine a_j ?_ _));exact a_P.out⟩,⟨by (with_reducible repeat (first|refine a_m ?_ _|refine a_o ?_|refine a_j ?_ _));exact a_F.out⟩,⟨by repeat (first|(with_reducible first|exact HB.out|apply a_e|apply a_c|apply a_f|refine a_d ?_ a_Y.out|refine a_d ?_ b_s.out)|exact HB.out)⟩⟩
 case round =>
  clear H'
  try clear c1
  try clear c2
  try clear p2
  try clear c5
  try clear c6
  try clear c8
  try clear c8b0
  try clear c8b1
  try clear c10
  try clear c11
  try clear c15
  try clear c_N
  try clear c_w
  try clear c_O
  try clear c_x
  obtain ⟨x8_1,x27_1,rfl,rfl,HA,HK1,a_r,a_P,a_F,HB⟩:=hrel
  cases gk with
  | zero => exact absurd HA.out (by simp [a_a.l0])
  | succ k1 =>
   have H:=HA.out
   clear HA
   simp only [a_a.l0] at H
   by_cases c18 : x27_1 < 4
   ·rw [if_pos c18] at H
    have c18b0 : decide (x27_1 < 4) = true:=decide_eq_true c18
    clear c18
    replace H:=Option.bind_eq_some_iff.mp H
    obtain ⟨t327,A190,H⟩:=H
    replace H : (if (Go.bits .and .u32 x8_1 t327) = 0 then (a_a.l0 k1 a1 a2 (Go.bits .or .u32 x8_1 t327) (wrap64 (x27_1 + 1)) t322) else (some false)) = some r:=H
    have A19:=a_b.mk A190
    clear A190
    by_cases c20 : (Go.bits .and .u32 x8_1 t327) = 0
    rotate_left
    ·rw [if_neg c20] at H
     have c20b0 : ((Go.bits .and .u32 x8_1 t327) == 0) = false:=beq_eq_false_iff_ne.mpr c20
     have c20b1 : ((Go.bits .and .u32 x8_1 t327) != 0) = true:=bne_iff_ne.mpr c20
     obtain rfl:=Option.some.inj H
     have j_M:=b_l.out
     have k_d:=b_b.out
     have d_e : wr.cell? ⟨b_G,0,none⟩ = some (.slice Ao14 t322.length co14):=(a_l a_F.out 0).trans rfl
     have d_g:=a_i a_F.out 0
     go_wp2_with (first|((with_reducible refine a_s (f:=29) rfl ?_);refine a_O (some 32) rfl rfl Tryd.func29 (by kernel_rfl) rfl #[.agg #[.slice Ao14 t322.length co14],.int .i64 x27_1] rfl (by (try simp only [List.map_toArray,List.map_cons,List.map_nil]);first|done|rfl|(simp only [List.length_drop,List.length_take];rfl)) ?_;(with_reducible refine (a_0.calls _ _ t322 x27_1 t327 _ ?side1 ?side2 A19.out).mono ?_);(case side1 => repeat (first|exact (Kd.a_v a_r.out).2.2|(with_reducible refine Kd.a_I ?_ _)|(with_reducible refine Kd.a_J ?_ _)|(with_reducible refine Kd.a_X ?_)));(case side2 => exact (Kd.a_v a_r.out).2.1);rintro e w26 ⟨rfl,hb⟩;refine ⟨_,rfl,?_⟩;replace a_r:=a_b.mk (Kd.a_B (rup_ a_r.out) hb);replace a_P:=a_b.mk (a_k (bup_ a_P.out) hb);replace a_F:=a_b.mk (a_k (bup_ a_F.out) hb);replace HB:=a_b.mk (a_h (by repeat (first|(with_reducible first|exact HB.out|apply a_e|apply a_c|apply a_f|refine a_d ?_ a_Y.out|refine a_d ?_ b_s.out)|exact HB.out)) hb);(try clear hb);(try clear hb2);(try clear hk);(try clear hi)))
     go_ret
     exact ⟨by first|rfl|(simp [a_p,a_q] <;> rfl)|(simp [*, a_p,a_q] <;> rfl),by repeat (first|(with_reducible first|exact HB.out|apply a_e|apply a_c|apply a_f|refine a_d ?_ a_Y.out|refine a_d ?_ b_s.out)|exact HB.out)⟩
    rw [if_pos c20] at H
    have c20b0 : ((Go.bits .and .u32 x8_1 t327) == 0) = true:=beq_iff_eq.mpr c20
    have c20b1 : ((Go.bits .and .u32 x8_1 t327) != 0) = false:=bne_eq_false_iff_eq.mpr c20
    clear c20
    have H':=a_b.mk H
    clear H
    have j_h:=b_l.out
    have j_j:=b_b.out
    have d_d : wr.cell? ⟨b_G,0,none⟩ = some (.slice Ao14 t322.length co14):=(a_l a_F.out 0).trans rfl
    have d_f:=a_i a_F.out 0
    go_wp2_with (first|((with_reducible refine a_s (f:=29) rfl ?_);refine a_O (some 32) rfl rfl Tryd.func29 (by kernel_rfl) rfl #[.agg #[.slice Ao14 t322.length co14],.int .i64 x27_1] rfl (by (try simp only [List.map_toArray,List.map_cons,List.map_nil]);first|done|rfl|(simp only [List.length_drop,List.length_take];rfl)) ?_;(with_reducible refine (a_0.calls _ _ t322 x27_1 t327 _ ?side1 ?side2 A19.out).mono ?_);(case side1 => repeat (first|exact (Kd.a_v a_r.out).2.2|(with_reducible refine Kd.a_I ?_ _)|(with_reducible refine Kd.a_J ?_ _)|(with_reducible refine Kd.a_X ?_)));(case side2 => exact (Kd.a_v a_r.out).2.1);rintro e w23 ⟨rfl,hb⟩;refine ⟨_,rfl,?_⟩;replace a_r:=a_b.mk (Kd.a_B (rup_ a_r.out) hb);replace a_P:=a_b.mk (a_k (bup_ a_P.out) hb);replace a_F:=a_b.mk (a_k (bup_ a_F.out) hb);replace HB:=a_b.mk (a_h (by repeat (first|(with_reducible first|exact HB.out|apply a_e|apply a_c|apply a_f|refine a_d ?_ a_Y.out|refine a_d ?_ b_s.out)|exact HB.out)) hb);(try clear hb);(try clear hb2);(try clear hk);(try clear hi)))
    go_roundg k1
    case measure => have:=HK1.out;omega
    case rel => exact ⟨(Go.bits .or .u32 x8_1 t327),(wrap64 (x27_1 + 1)),(by first|rfl|(simp;done)|(simp [*];done)),(by first|rfl|(simp;done)|(simp [*];done)),H',⟨by have:=HK1.out;omega⟩,⟨by (with_reducible repeat (first|apply Kd.a_K|apply Kd.a_L|apply Kd.a_T));exact a_r.out⟩,⟨by (with_reducible repeat (first|refine a_m ?_ _|refine a_o ?_|refine a_j ?_ _));exact a_P.out⟩,⟨by (with_reducible repeat (first|refine a_m ?_ _|refine a_o ?_|refine a_j ?_ _));exact a_F.out⟩,⟨by repeat (first|(with_reducible first|exact HB.out|apply a_e|apply a_c|apply a_f|refine a_d ?_ a_Y.out|refine a_d ?_ b_s.out)|exact HB.out)⟩⟩
   rw [if_neg c18] at H
   have c18b0 : decide (x27_1 < 4) = false:=decide_eq_false c18
   clear c18
   have HC27:=a_b.mk H
   clear H
   go_upto_region 15 with (fail)
   go_cut [52] (fun v52 wc => ∃ (kq : Nat) (x52_26 : Bool),v52 = .bool x52_26 ∧ a_b (a_a.j1 kq a1 a2 x52_26 t322 = some r) ∧ a_b (kq ≤ k1) ∧ a_b (Kd.R k56 56 wc w.heap.size (fun _ => True) (.slice Ao14 t322.length co14) t322) ∧ a_b (wc.heap[b_7]? = some (.cells #[(.slice A0_0 l0_0.length c0_0)] 24 (0,0))) ∧ a_b (wc.heap[b_G]? = some (.cells #[(.slice Ao14 t322.length co14)] 24 (0,0))) ∧ a_b (Below w.heap.size w wc))
   case first =>
    have H:=HC27.out
    clear HC27
    replace H:=Option.bind_eq_some_iff.mp H
    obtain ⟨t328,A280,H⟩:=H
    replace H : (if x8_1 = t328 then ((a_R.f x8_1).bind fun t329 => (a_a.j1 k1 a1 a2 (t329 != (t322.length : Int)) t322)) else (a_a.j1 k1 a1 a2 true t322)) = some r:=H
    have A28:=a_b.mk A280
    clear A280
    by_cases c29 : x8_1 = t328
    rotate_left
    ·rw [if_neg c29] at H
     have c29b0 : (x8_1 == t328) = false:=beq_eq_false_iff_ne.mpr c29
     have c29b1 : (x8_1 != t328) = true:=bne_iff_ne.mpr c29
     (first|rw [c29b0]|(simp only [b_Q,b_P];rw [c29b0])|skip)
     have H':=a_b.mk H
     clear H
     try go_wp2
     replace a_r:=a_b.mk (Kd.a_T a_r.out)
     replace a_P:=a_b.mk (a_o a_P.out)
     replace a_F:=a_b.mk (a_o a_F.out)
     replace HB:=a_b.mk (a_f HB.out)
     refine e_O (n:=12) (S:=fun w' => w'.cell? ⟨b_G,0,none⟩ = some (.slice Ao14 t322.length co14)) (ds:=[]) #[F_,F_,F_,F_,F_,F_,F_,F_,F_,F_,F_,F_] (by kernel_rfl) rfl rfl ((a_l a_F.out 0).trans rfl) (fun hHeld => ?_);refine c_G a_a.h_H a_a.g_w (fun HT_ HW_ => ?_)
     generalize wr.drew = w33 at a_r a_P a_F HB hHeld ⊢
     refine pt_ 0 (some 41) #[T_,F_,F_,F_,F_,F_,F_,F_,F_,F_,F_,F_] HT_ ?_
     refine d_x (i:=1) (N:=some 42) (v:=?_) (a':=?_) #[T_,T_,F_,F_,F_,F_,F_,F_,F_,F_,F_,F_] rfl rfl (b_4 HT_.out HW_.out (by kernel_rfl)) (fun _ _ _ h => h) (Or.inl ⟨by rfl,?_⟩) hHeld ?_ ?_
     rotate_left
     ·intro w' s0
      go_simp
      with_reducible rfl
     rotate_left
     ·simp only [Act.put,sa_,sb_,sc_,b_Q,b_P]
      rfl
     refine one_ (i:=2) (N:=some 43) #[T_,T_,T_,F_,F_,F_,F_,F_,F_,F_,F_,F_] rfl rfl (c_q HT_.out (by kernel_rfl)) (by decide) (fun K hK => ?_)
     refine g_M Tryd.func30 (by kernel_rfl) rfl #[.agg #[.slice Ao14 t322.length co14]] (by rfl) rfl rfl (by (try simp only [List.map_toArray,List.map_cons,List.map_nil]);first|done|rfl|(simp only [List.length_drop,List.length_take];rfl)) ?_
     with_reducible refine (b_f.calls _ _ t322 t328 _ ?side1 ?side2 A28.out).mono ?_
     (case side1 => repeat (first|exact (Kd.a_v a_r.out).2.2|(with_reducible refine Kd.a_I ?_ _)|(with_reducible refine Kd.a_J ?_ _)|(with_reducible refine Kd.a_X ?_)))
     (case side2 => exact (Kd.a_v a_r.out).2.1)
     rintro e w34 ⟨rfl,hb⟩
     refine ⟨_,rfl,?_⟩
     replace a_r:=a_b.mk (Kd.a_B (rup_ a_r.out) hb)
     replace a_P:=a_b.mk (a_k (bup_ a_P.out) hb)
     replace a_F:=a_b.mk (a_k (bup_ a_F.out) hb)
     replace HB:=a_b.mk (a_h (by repeat (first|(with_reducible first|exact HB.out|apply a_e|apply a_c|apply a_f|refine a_d ?_ a_Y.out|refine a_d ?_ b_s.out)|exact HB.out)) hb)
     (try clear hb)
     (try clear hb2)
     (try clear hk)
     (try clear hi)
     refine hK.out _ _ ((a_l a_F.out 0).trans rfl) (fun hHeld => ?_)
     clear hK K
     refine c_4 (a':=?_) ?_ ?_
     rotate_left
     ·show Act.put _ (some 43) _ = _
      simp only [Act.put,sa_,sb_,sc_,b_Q,b_P]
      rfl
     refine pt_ 3 (some 44) #[T_,T_,T_,T_,F_,F_,F_,F_,F_,F_,F_,F_] HT_ ?_
     refine pt_ 4 (some 45) #[T_,T_,T_,T_,T_,F_,F_,F_,F_,F_,F_,F_] HT_ ?_
     refine pk_ 5 (some 46) #[T_,T_,T_,T_,T_,T_,F_,F_,F_,F_,F_,F_] HT_ ?_
     refine pk_ 6 (some 47) #[T_,T_,T_,T_,T_,T_,T_,F_,F_,F_,F_,F_] HT_ ?_
     refine pk_ 7 (some 48) #[T_,T_,T_,T_,T_,T_,T_,T_,F_,F_,F_,F_] HT_ ?_
     refine pk_ 8 (some 49) #[T_,T_,T_,T_,T_,T_,T_,T_,T_,F_,F_,F_] HT_ ?_
     refine pk_ 9 (some 50) #[T_,T_,T_,T_,T_,T_,T_,T_,T_,T_,F_,F_] HT_ ?_
     refine pk_ 10 (some 51) #[T_,T_,T_,T_,T_,T_,T_,T_,T_,T_,T_,F_] HT_ ?_
     refine pt_ 11 (some 52) #[T_,T_,T_,T_,T_,T_,T_,T_,T_,T_,T_,T_] HT_ ?_
     refine g_a (d_S HT_.out (by kernel_rfl)) ?_
     try go_wp2
     go_meet
     case rel => exact ⟨_,(true),(by first|rfl|(simp;done)|(simp [*];done)),H',⟨by have:=HK1.out;first|omega|exact Nat.le_refl _⟩,⟨by (with_reducible repeat (first|apply Kd.a_K|apply Kd.a_L|apply Kd.a_T));exact a_r.out⟩,⟨by (with_reducible repeat (first|refine a_m ?_ _|refine a_o ?_|refine a_j ?_ _));exact a_P.out⟩,⟨by (with_reducible repeat (first|refine a_m ?_ _|refine a_o ?_|refine a_j ?_ _));exact a_F.out⟩,⟨by repeat (first|(with_reducible first|exact HB.out|apply a_e|apply a_c|apply a_f|refine a_d ?_ a_Y.out|refine a_d ?_ b_s.out)|exact HB.out)⟩⟩
    rw [if_pos c29] at H
    have c29b0 : (x8_1 == t328) = true:=beq_iff_eq.mpr c29
    have c29b1 : (x8_1 != t328) = false:=bne_eq_false_iff_eq.mpr c29
    clear c29
    (first|rw [c29b0]|(simp only [b_Q,b_P];rw [c29b0])|skip)
    replace H:=Option.bind_eq_some_iff.mp H
    obtain ⟨t329,A300,H⟩:=H
    replace H : (a_a.j1 k1 a1 a2 (t329 != (t322.length : Int)) t322) = some r:=H
    have A30:=a_b.mk A300
    clear A300
    have H':=a_b.mk H
    clear H
    try go_wp2
    replace a_r:=a_b.mk (Kd.a_T a_r.out)
    replace a_P:=a_b.mk (a_o a_P.out)
    replace a_F:=a_b.mk (a_o a_F.out)
    replace HB:=a_b.mk (a_f HB.out)
    refine e_O (n:=12) (S:=fun w' => w'.cell? ⟨b_G,0,none⟩ = some (.slice Ao14 t322.length co14)) (ds:=[]) #[F_,F_,F_,F_,F_,F_,F_,F_,F_,F_,F_,F_] (by kernel_rfl) rfl rfl ((a_l a_F.out 0).trans rfl) (fun hHeld => ?_);refine c_G a_a.h_H a_a.g_w (fun HT_ HW_ => ?_)
    generalize wr.drew = w31 at a_r a_P a_F HB hHeld ⊢
    refine pt_ 0 (some 41) #[T_,F_,F_,F_,F_,F_,F_,F_,F_,F_,F_,F_] HT_ ?_
    refine d_x (i:=1) (N:=some 42) (v:=?_) (a':=?_) #[T_,T_,F_,F_,F_,F_,F_,F_,F_,F_,F_,F_] rfl rfl (b_4 HT_.out HW_.out (by kernel_rfl)) (fun _ _ _ h => h) (Or.inl ⟨by rfl,?_⟩) hHeld ?_ ?_
    rotate_left
    ·intro w' s0
     go_simp
     with_reducible rfl
    rotate_left
    ·simp only [Act.put,sa_,sb_,sc_,b_Q,b_P]
     rfl
    refine one_ (i:=2) (N:=some 43) #[T_,T_,T_,F_,F_,F_,F_,F_,F_,F_,F_,F_] rfl rfl (c_q HT_.out (by kernel_rfl)) (by decide) (fun K hK => ?_)
    refine g_M Tryd.func30 (by kernel_rfl) rfl #[.agg #[.slice Ao14 t322.length co14]] (by rfl) rfl rfl (by (try simp only [List.map_toArray,List.map_cons,List.map_nil]);first|done|rfl|(simp only [List.length_drop,List.length_take];rfl)) ?_
    with_reducible refine (b_f.calls _ _ t322 t328 _ ?side1 ?side2 A28.out).mono ?_
    (case side1 => repeat (first|exact (Kd.a_v a_r.out).2.2|(with_reducible refine Kd.a_I ?_ _)|(with_reducible refine Kd.a_J ?_ _)|(with_reducible refine Kd.a_X ?_)))
    (case side2 => exact (Kd.a_v a_r.out).2.1)
    rintro e w32 ⟨rfl,hb⟩
    refine ⟨_,rfl,?_⟩
    replace a_r:=a_b.mk (Kd.a_B (rup_ a_r.out) hb)
    replace a_P:=a_b.mk (a_k (bup_ a_P.out) hb)
    replace a_F:=a_b.mk (a_k (bup_ a_F.out) hb)
    replace HB:=a_b.mk (a_h (by repeat (first|(with_reducible first|exact HB.out|apply a_e|apply a_c|apply a_f|refine a_d ?_ a_Y.out|refine a_d ?_ b_s.out)|exact HB.out)) hb)
    (try clear hb)
    (try clear hb2)
    (try clear hk)
    (try clear hi)
    refine hK.out _ _ ((a_l a_F.out 0).trans rfl) (fun hHeld => ?_)
    clear hK K
    refine c_4 (a':=?_) ?_ ?_
    rotate_left
    ·show Act.put _ (some 43) _ = _
     simp only [Act.put,sa_,sb_,sc_,b_Q,b_P]
     rfl
    refine pt_ 3 (some 44) #[T_,T_,T_,T_,F_,F_,F_,F_,F_,F_,F_,F_] HT_ ?_
    refine pt_ 4 (some 45) #[T_,T_,T_,T_,T_,F_,F_,F_,F_,F_,F_,F_] HT_ ?_
    refine pt_ 5 (some 46) #[T_,T_,T_,T_,T_,T_,F_,F_,F_,F_,F_,F_] HT_ ?_
    refine pt_ 7 (some 48) #[T_,T_,T_,T_,T_,T_,F_,T_,F_,F_,F_,F_] HT_ ?_
    refine d_x (i:=8) (N:=some 49) (v:=?_) (a':=?_) #[T_,T_,T_,T_,T_,T_,F_,T_,T_,F_,F_,F_] rfl rfl (b_4 HT_.out HW_.out (by kernel_rfl)) (fun _ _ _ h => h) (Or.inl ⟨by rfl,?_⟩) hHeld ?_ ?_
    rotate_left
    ·intro w' s0
     go_simp
     with_reducible rfl
    rotate_left
    ·simp only [Act.put,sa_,sb_,sc_,b_Q,b_P]
     rfl
    refine pt_ 9 (some 50) #[T_,T_,T_,T_,T_,T_,F_,T_,T_,T_,F_,F_] HT_ ?_
    refine one_ (i:=6) (N:=some 47) #[T_,T_,T_,T_,T_,T_,T_,T_,T_,T_,F_,F_] rfl rfl (c_q HT_.out (by kernel_rfl)) (by decide) (fun K hK => ?_)
    refine g_M Tryd.func31 (by kernel_rfl) rfl #[.int .u32 x8_1] (by rfl) rfl rfl (by (try simp only [List.map_toArray,List.map_cons,List.map_nil]);first|done|rfl|(simp only [List.length_drop,List.length_take];rfl)) ?_
    with_reducible refine (a_R.calls x8_1 t329 _ A30.out).mono ?_
    rintro e w' ⟨rfl,⟨nd,rfl⟩⟩
    refine ⟨_,rfl,?_⟩
    refine hK.out _ _ ((a_l a_F.out 0).trans rfl) (fun hHeld => ?_)
    clear hK K
    refine c_4 (a':=?_) ?_ ?_
    rotate_left
    ·show Act.put _ (some 47) _ = _
     simp only [Act.put,sa_,sb_,sc_,b_Q,b_P]
     rfl
    refine pt_ 10 (some 51) #[T_,T_,T_,T_,T_,T_,T_,T_,T_,T_,T_,F_] HT_ ?_
    refine pt_ 11 (some 52) #[T_,T_,T_,T_,T_,T_,T_,T_,T_,T_,T_,T_] HT_ ?_
    refine g_a (d_S HT_.out (by kernel_rfl)) ?_
    try go_wp2
    go_meet
    case rel => exact ⟨_,((t329 != (t322.length : Int))),(by first|rfl|(simp;done)|(simp [*];done)),H',⟨by have:=HK1.out;first|omega|exact Nat.le_refl _⟩,⟨by (with_reducible repeat (first|apply Kd.a_K|apply Kd.a_L|apply Kd.a_T));exact a_r.out⟩,⟨by (with_reducible repeat (first|refine a_m ?_ _|refine a_o ?_|refine a_j ?_ _));exact a_P.out⟩,⟨by (with_reducible repeat (first|refine a_m ?_ _|refine a_o ?_|refine a_j ?_ _));exact a_F.out⟩,⟨by repeat (first|(with_reducible first|exact HB.out|apply a_e|apply a_c|apply a_f|refine a_d ?_ a_Y.out|refine a_d ?_ b_s.out)|exact HB.out)⟩⟩
   case rest =>
    clear HC27
    try clear c1
    try clear c2
    try clear p2
    try clear c3
    try clear c5
    try clear c6
    try clear p6
    try clear c8
    try clear c8b0
    try clear c8b1
    try clear c10
    try clear c11
    try clear c15
    try clear c18
    try clear c18b0
    try clear c20
    try clear c20b0
    try clear c20b1
    try clear c21
    try clear c24
    try clear c28
    try clear c29
    try clear c29b0
    try clear c29b1
    try clear c30
    try clear c31
    try clear c_N
    try clear c_w
    try clear d_d
    try clear d_e
    try clear c_O
    try clear c_x
    try clear d_f
    try clear d_g
    try clear p2
    obtain ⟨kq,x52_26,rfl,HA,HJ26,a_r,a_P,a_F,HB⟩:=hcut
    cases kq with
    | zero => exact absurd HA.out (by simp [a_a.j1])
    | succ kj26 =>
     have H:=HA.out
     clear HA
     simp only [a_a.j1] at H
     by_cases c35 : x52_26 = true
     ·subst c35
      have H1 : (some false) = some r:=by rw [if_pos rfl] at H;exact H
      clear H
      have H:=H1
      clear H1
      obtain rfl:=Option.some.inj H
      go_wp2
      go_ret
      exact ⟨by first|rfl|(simp [a_p,a_q] <;> rfl)|(simp [*, a_p,a_q] <;> rfl),by repeat (first|(with_reducible first|exact HB.out|apply a_e|apply a_c|apply a_f|refine a_d ?_ a_Y.out|refine a_d ?_ b_s.out)|exact HB.out)⟩
     replace c35:=Bool.eq_false_iff.mpr c35
     subst c35
     have H1 : ((a_W.f t322 a1 a2).bind fun bt330 => (if bt330.2 = 0 then ((a_x.f kj26 bt330.1).bind fun bt334 => (if bt334.2 = 0 then ((b_f.f t322).bind fun t336 => (if bt334.1 = (Go.bits .and .u32 a2 t336) then ((a_R.f bt334.1).bind fun t337 => (if (bt330.1.length : Int) = t337 then ((b_k.f a2 a1).bind fun t338 => (if t338 = true then (if 0 < (bt330.1.length : Int) then (a_a.j2 kj26 a1 bt330.1 ((rd bt330.1 0) != a1) t322) else (none)) else (a_a.j2 kj26 a1 bt330.1 false t322))) else (a_a.j2 kj26 a1 bt330.1 true t322))) else (a_a.j2 kj26 a1 bt330.1 true t322))) else (a_a.j2 kj26 a1 bt330.1 true t322))) else (some true))) = some r:=by rw [if_neg (show ¬ (false = true) by decide)] at H;exact H
     clear H
     have H:=H1
     clear H1
     replace H:=Option.bind_eq_some_iff.mp H
     obtain ⟨⟨t330,t333⟩,A360,H⟩:=H
     replace H : (if t333 = 0 then ((a_x.f kj26 t330).bind fun bt334 => (if bt334.2 = 0 then ((b_f.f t322).bind fun t336 => (if bt334.1 = (Go.bits .and .u32 a2 t336) then ((a_R.f bt334.1).bind fun t337 => (if (t330.length : Int) = t337 then ((b_k.f a2 a1).bind fun t338 => (if t338 = true then (if 0 < (t330.length : Int) then (a_a.j2 kj26 a1 t330 ((rd t330 0) != a1) t322) else (none)) else (a_a.j2 kj26 a1 t330 false t322))) else (a_a.j2 kj26 a1 t330 true t322))) else (a_a.j2 kj26 a1 t330 true t322))) else (a_a.j2 kj26 a1 t330 true t322))) else (some true)) = some r:=H
     have A36:=a_b.mk A360
     clear A360
     by_cases c37 : t333 = 0
     rotate_left
     ·rw [if_neg c37] at H
      have c37b0 : (t333 == 0) = false:=beq_eq_false_iff_ne.mpr c37
      have c37b1 : (t333 != 0) = true:=bne_iff_ne.mpr c37
      obtain rfl:=Option.some.inj H
      have j_6:=b_l.out
      have k_x:=b_b.out
      have i_H : wc.cell? ⟨b_G,0,none⟩ = some (.slice Ao14 t322.length co14):=(a_l a_F.out 0).trans rfl
      have j_e:=a_i a_F.out 0
      go_wp2_with (first|((with_reducible refine a_s (f:=20) rfl ?_);refine a_O (some 57) rfl rfl Tryd.func20 (by kernel_rfl) rfl #[.agg #[.slice Ao14 t322.length co14],.int .i64 a1,.int .u32 a2] rfl (by (try simp only [List.map_toArray,List.map_cons,List.map_nil]);first|done|rfl|(simp only [List.length_drop,List.length_take];rfl)) ?_;(with_reducible refine (a_W.calls _ _ t322 a1 a2 t330 t333 _ ?side1 ?side2 ?side3 A36.out).mono ?_);(case side1 => repeat (first|exact (Kd.a_v a_r.out).2.2|(with_reducible refine Kd.a_I ?_ _)|(with_reducible refine Kd.a_J ?_ _)|(with_reducible refine Kd.a_X ?_)));(case side2 => exact (Kd.a_v a_r.out).2.1);(case side3 => exact b_p.below HTAB_.out (by repeat (first|(with_reducible first|exact HB.out|apply a_e|apply a_c|apply a_f|refine a_d ?_ a_Y.out|refine a_d ?_ b_s.out)|exact HB.out)));rintro e w82 ⟨v331,rfl,ho0,hb⟩;refine ⟨_,rfl,?_⟩;have c_e:=a_b.mk (Kd.b_i ho0 (a_g (by repeat (first|(with_reducible first|exact HB.out|apply a_e|apply a_c|apply a_f|refine a_d ?_ a_Y.out|refine a_d ?_ b_s.out)|exact HB.out))));replace a_r:=a_b.mk (Kd.a_B (rup_ a_r.out) hb);replace a_P:=a_b.mk (a_k (bup_ a_P.out) hb);replace a_F:=a_b.mk (a_k (bup_ a_F.out) hb);replace HB:=a_b.mk (a_h (by repeat (first|(with_reducible first|exact HB.out|apply a_e|apply a_c|apply a_f|refine a_d ?_ a_Y.out|refine a_d ?_ b_s.out)|exact HB.out)) hb);(try clear hb);(try clear hb2);(try clear hk);(try clear hi);(try clear ho0)))
      go_ret
      exact ⟨by first|rfl|(simp [a_p,a_q] <;> rfl)|(simp [*, a_p,a_q] <;> rfl),by repeat (first|(with_reducible first|exact HB.out|apply a_e|apply a_c|apply a_f|refine a_d ?_ a_Y.out|refine a_d ?_ b_s.out)|exact HB.out)⟩
     rw [if_pos c37] at H
     have c37b0 : (t333 == 0) = true:=beq_iff_eq.mpr c37
     have c37b1 : (t333 != 0) = false:=bne_eq_false_iff_eq.mpr c37
     clear c37
     replace H:=Option.bind_eq_some_iff.mp H
     obtain ⟨⟨t334,t335⟩,A380,H⟩:=H
     replace H : (if t335 = 0 then ((b_f.f t322).bind fun t336 => (if t334 = (Go.bits .and .u32 a2 t336) then ((a_R.f t334).bind fun t337 => (if (t330.length : Int) = t337 then ((b_k.f a2 a1).bind fun t338 => (if t338 = true then (if 0 < (t330.length : Int) then (a_a.j2 kj26 a1 t330 ((rd t330 0) != a1) t322) else (none)) else (a_a.j2 kj26 a1 t330 false t322))) else (a_a.j2 kj26 a1 t330 true t322))) else (a_a.j2 kj26 a1 t330 true t322))) else (a_a.j2 kj26 a1 t330 true t322)) = some r:=H
     have A38:=a_b.mk A380
     clear A380
     have HC39:=a_b.mk H
     clear H
     have j_i:=b_l.out
     have j_k:=b_b.out
     have d_V : wc.cell? ⟨b_G,0,none⟩ = some (.slice Ao14 t322.length co14):=(a_l a_F.out 0).trans rfl
     have d_W:=a_i a_F.out 0
     go_upto_region 21 with (first|((with_reducible refine a_s (f:=20) rfl ?_);refine a_O (some 57) rfl rfl Tryd.func20 (by kernel_rfl) rfl #[.agg #[.slice Ao14 t322.length co14],.int .i64 a1,.int .u32 a2] rfl (by (try simp only [List.map_toArray,List.map_cons,List.map_nil]);first|done|rfl|(simp only [List.length_drop,List.length_take];rfl)) ?_;(with_reducible refine (a_W.calls _ _ t322 a1 a2 t330 t333 _ ?side1 ?side2 ?side3 A36.out).mono ?_);(case side1 => repeat (first|exact (Kd.a_v a_r.out).2.2|(with_reducible refine Kd.a_I ?_ _)|(with_reducible refine Kd.a_J ?_ _)|(with_reducible refine Kd.a_X ?_)));(case side2 => exact (Kd.a_v a_r.out).2.1);(case side3 => exact b_p.below HTAB_.out (by repeat (first|(with_reducible first|exact HB.out|apply a_e|apply a_c|apply a_f|refine a_d ?_ a_Y.out|refine a_d ?_ b_s.out)|exact HB.out)));rintro e w42 ⟨v331,rfl,ho0,hb⟩;refine ⟨_,rfl,?_⟩;have c_e:=a_b.mk (Kd.b_i ho0 (a_g (by repeat (first|(with_reducible first|exact HB.out|apply a_e|apply a_c|apply a_f|refine a_d ?_ a_Y.out|refine a_d ?_ b_s.out)|exact HB.out))));replace a_r:=a_b.mk (Kd.a_B (rup_ a_r.out) hb);replace a_P:=a_b.mk (a_k (bup_ a_P.out) hb);replace a_F:=a_b.mk (a_k (bup_ a_F.out) hb);replace HB:=a_b.mk (a_h (by repeat (first|(with_reducible first|exact HB.out|apply a_e|apply a_c|apply a_f|refine a_d ?_ a_Y.out|refine a_d ?_ b_s.out)|exact HB.out)) hb);(try clear hb);(try clear hb2);(try clear hk);(try clear hi);(try clear ho0);obtain ⟨Ao43,co43,eo43⟩:=Kd.b_E c_e.out;subst eo43)|((with_reducible refine a_s (f:=32) rfl ?_);refine a_O (some 64) rfl rfl Tryd.func32 (by kernel_rfl) rfl #[.slice Ao43 t330.length co43] rfl (by (try simp only [List.map_toArray,List.map_cons,List.map_nil]);first|done|rfl|(simp only [List.length_drop,List.length_take];rfl)) ?_;(with_reducible refine (a_x.calls kj26 _ _ t330 t334 t335 _ ?side1 ?side2 A38.out).mono ?_);(case side1 => repeat (first|exact (Kd.a_v c_e.out).2.2|(with_reducible refine Kd.a_I ?_ _)|(with_reducible refine Kd.a_J ?_ _)|(with_reducible refine Kd.a_X ?_)));(case side2 => exact (Kd.a_v c_e.out).2.1);rintro e w' ⟨rfl,⟨nd,rfl⟩⟩;refine ⟨_,rfl,?_⟩))
     (try simp only [Act.put,sa_,sb_,sc_])
     go_cut [95] (fun v95 wc => ∃ (kq : Nat) (x95_38 : Bool),v95 = .bool x95_38 ∧ a_b (a_a.j2 kq a1 t330 x95_38 t322 = some r) ∧ a_b (kq ≤ kj26) ∧ a_b (Kd.R (Kd.int .i64) 3 wc w.heap.size (fun _ => True) (.slice Ao43 t330.length co43) t330) ∧ a_b (Kd.R k56 56 wc w.heap.size (fun _ => True) (.slice Ao14 t322.length co14) t322) ∧ a_b (wc.heap[b_7]? = some (.cells #[(.slice A0_0 l0_0.length c0_0)] 24 (0,0))) ∧ a_b (wc.heap[b_G]? = some (.cells #[(.slice Ao14 t322.length co14)] 24 (0,0))) ∧ a_b (Below w.heap.size w wc))
     case first =>
      have H:=HC39.out
      clear HC39
      by_cases c44 : t335 = 0
      rotate_left
      ·rw [if_neg c44] at H
       have c44b0 : (t335 == 0) = false:=beq_eq_false_iff_ne.mpr c44
       have c44b1 : (t335 != 0) = true:=bne_iff_ne.mpr c44
       (first|rw [c44b0]|(simp only [b_Q,b_P];rw [c44b0])|skip)
       have H':=a_b.mk H
       clear H
       go_wp2
       go_meet
       case rel => exact ⟨_,(true),(by first|rfl|(simp;done)|(simp [*];done)),H',⟨by have:=HK1.out;have:=HJ26.out;first|omega|exact Nat.le_refl _⟩,⟨by (with_reducible repeat (first|apply Kd.a_K|apply Kd.a_L|apply Kd.a_T));exact c_e.out⟩,⟨by (with_reducible repeat (first|apply Kd.a_K|apply Kd.a_L|apply Kd.a_T));exact a_r.out⟩,⟨by (with_reducible repeat (first|refine a_m ?_ _|refine a_o ?_|refine a_j ?_ _));exact a_P.out⟩,⟨by (with_reducible repeat (first|refine a_m ?_ _|refine a_o ?_|refine a_j ?_ _));exact a_F.out⟩,⟨by repeat (first|(with_reducible first|exact HB.out|apply a_e|apply a_c|apply a_f|refine a_d ?_ a_Y.out|refine a_d ?_ b_s.out)|exact HB.out)⟩⟩
      rw [if_pos c44] at H
      have c44b0 : (t335 == 0) = true:=beq_iff_eq.mpr c44
      have c44b1 : (t335 != 0) = false:=bne_eq_false_iff_eq.mpr c44
      clear c44
      (first|rw [c44b0]|(simp only [b_Q,b_P];rw [c44b0])|skip)
      replace H:=Option.bind_eq_some_iff.mp H
      obtain ⟨t336,A450,H⟩:=H
      replace H : (if t334 = (Go.bits .and .u32 a2 t336) then ((a_R.f t334).bind fun t337 => (if (t330.length : Int) = t337 then ((b_k.f a2 a1).bind fun t338 => (if t338 = true then (if 0 < (t330.length : Int) then (a_a.j2 kj26 a1 t330 ((rd t330 0) != a1) t322) else (none)) else (a_a.j2 kj26 a1 t330 false t322))) else (a_a.j2 kj26 a1 t330 true t322))) else (a_a.j2 kj26 a1 t330 true t322)) = some r:=H
      have A45:=a_b.mk A450
      clear A450
      by_cases c46 : t334 = (Go.bits .and .u32 a2 t336)
      rotate_left
      ·rw [if_neg c46] at H
       have c46b0 : (t334 == (Go.bits .and .u32 a2 t336)) = false:=beq_eq_false_iff_ne.mpr c46
       have c46b1 : (t334 != (Go.bits .and .u32 a2 t336)) = true:=bne_iff_ne.mpr c46
       have H':=a_b.mk H
       clear H
       have j_2:=b_l.out
       have k_t:=b_b.out
       have e_y : w42.cell? ⟨b_G,0,none⟩ = some (.slice Ao14 t322.length co14):=(a_l a_F.out 0).trans rfl
       have e_z:=a_i a_F.out 0
       go_wp2_with (first|(go_at_call 30;(with_reducible refine (b_f.calls _ _ t322 t336 _ ?side1 ?side2 A45.out).mono ?_);(case side1 => repeat (first|exact (Kd.a_v a_r.out).2.2|(with_reducible refine Kd.a_I ?_ _)|(with_reducible refine Kd.a_J ?_ _)|(with_reducible refine Kd.a_X ?_)));(case side2 => exact (Kd.a_v a_r.out).2.1);rintro e w63 ⟨rfl,hb⟩;replace a_r:=a_b.mk (Kd.a_B (rup_ a_r.out) hb);replace c_e:=a_b.mk (Kd.a_B (rup_ c_e.out) hb);replace a_P:=a_b.mk (a_k (bup_ a_P.out) hb);replace a_F:=a_b.mk (a_k (bup_ a_F.out) hb);replace HB:=a_b.mk (a_h (by repeat (first|(with_reducible first|exact HB.out|apply a_e|apply a_c|apply a_f|refine a_d ?_ a_Y.out|refine a_d ?_ b_s.out)|exact HB.out)) hb);(try clear hb);(try clear hb2);(try clear hk);(try clear hi)))
       go_meet
       case rel => exact ⟨_,(true),(by first|rfl|(simp;done)|(simp [*];done)),H',⟨by have:=HK1.out;have:=HJ26.out;first|omega|exact Nat.le_refl _⟩,⟨by (with_reducible repeat (first|apply Kd.a_K|apply Kd.a_L|apply Kd.a_T));exact c_e.out⟩,⟨by (with_reducible repeat (first|apply Kd.a_K|apply Kd.a_L|apply Kd.a_T));exact a_r.out⟩,⟨by (with_reducible repeat (first|refine a_m ?_ _|refine a_o ?_|refine a_j ?_ _));exact a_P.out⟩,⟨by (with_reducible repeat (first|refine a_m ?_ _|refine a_o ?_|refine a_j ?_ _));exact a_F.out⟩,⟨by repeat (first|(with_reducible first|exact HB.out|apply a_e|apply a_c|apply a_f|refine a_d ?_ a_Y.out|refine a_d ?_ b_s.out)|exact HB.out)⟩⟩
      rw [if_pos c46] at H
      have c46b0 : (t334 == (Go.bits .and .u32 a2 t336)) = true:=beq_iff_eq.mpr c46
      have c46b1 : (t334 != (Go.bits .and .u32 a2 t336)) = false:=bne_eq_false_iff_eq.mpr c46
      clear c46
      replace H:=Option.bind_eq_some_iff.mp H
      obtain ⟨t337,A470,H⟩:=H
      replace H : (if (t330.length : Int) = t337 then ((b_k.f a2 a1).bind fun t338 => (if t338 = true then (if 0 < (t330.length : Int) then (a_a.j2 kj26 a1 t330 ((rd t330 0) != a1) t322) else (none)) else (a_a.j2 kj26 a1 t330 false t322))) else (a_a.j2 kj26 a1 t330 true t322)) = some r:=H
      have A47:=a_b.mk A470
      clear A470
      by_cases c48 : (t330.length : Int) = t337
      rotate_left
      ·rw [if_neg c48] at H
       have c48b0 : ((t330.length : Int) == t337) = false:=beq_eq_false_iff_ne.mpr c48
       have c48b1 : ((t330.length : Int) != t337) = true:=bne_iff_ne.mpr c48
       have H':=a_b.mk H
       clear H
       have j_1:=b_l.out
       have k_s:=b_b.out
       have f_D : w42.cell? ⟨b_G,0,none⟩ = some (.slice Ao14 t322.length co14):=(a_l a_F.out 0).trans rfl
       have f_K:=a_i a_F.out 0
       go_wp2_with (first|(go_at_call 30;(with_reducible refine (b_f.calls _ _ t322 t336 _ ?side1 ?side2 A45.out).mono ?_);(case side1 => repeat (first|exact (Kd.a_v a_r.out).2.2|(with_reducible refine Kd.a_I ?_ _)|(with_reducible refine Kd.a_J ?_ _)|(with_reducible refine Kd.a_X ?_)));(case side2 => exact (Kd.a_v a_r.out).2.1);rintro e w60 ⟨rfl,hb⟩;replace a_r:=a_b.mk (Kd.a_B (rup_ a_r.out) hb);replace c_e:=a_b.mk (Kd.a_B (rup_ c_e.out) hb);replace a_P:=a_b.mk (a_k (bup_ a_P.out) hb);replace a_F:=a_b.mk (a_k (bup_ a_F.out) hb);replace HB:=a_b.mk (a_h (by repeat (first|(with_reducible first|exact HB.out|apply a_e|apply a_c|apply a_f|refine a_d ?_ a_Y.out|refine a_d ?_ b_s.out)|exact HB.out)) hb);(try clear hb);(try clear hb2);(try clear hk);(try clear hi))|(go_at_call 31;(with_reducible refine (a_R.calls t334 t337 _ A47.out).mono ?_);rintro e w' ⟨rfl,⟨nd,rfl⟩⟩))
       go_meet
       case rel => exact ⟨_,(true),(by first|rfl|(simp;done)|(simp [*];done)),H',⟨by have:=HK1.out;have:=HJ26.out;first|omega|exact Nat.le_refl _⟩,⟨by (with_reducible repeat (first|apply Kd.a_K|apply Kd.a_L|apply Kd.a_T));exact c_e.out⟩,⟨by (with_reducible repeat (first|apply Kd.a_K|apply Kd.a_L|apply Kd.a_T));exact a_r.out⟩,⟨by (with_reducible repeat (first|refine a_m ?_ _|refine a_o ?_|refine a_j ?_ _));exact a_P.out⟩,⟨by (with_reducible repeat (first|refine a_m ?_ _|refine a_o ?_|refine a_j ?_ _));exact a_F.out⟩,⟨by repeat (first|(with_reducible first|exact HB.out|apply a_e|apply a_c|apply a_f|refine a_d ?_ a_Y.out|refine a_d ?_ b_s.out)|exact HB.out)⟩⟩
      rw [if_pos c48] at H
      have c48b0 : ((t330.length : Int) == t337) = true:=beq_iff_eq.mpr c48
      have c48b1 : ((t330.length : Int) != t337) = false:=bne_eq_false_iff_eq.mpr c48
      clear c48
      replace H:=Option.bind_eq_some_iff.mp H
      obtain ⟨t338,A490,H⟩:=H
      replace H : (if t338 = true then (if 0 < (t330.length : Int) then (a_a.j2 kj26 a1 t330 ((rd t330 0) != a1) t322) else (none)) else (a_a.j2 kj26 a1 t330 false t322)) = some r:=H
      have A49:=a_b.mk A490
      clear A490
      by_cases c50 : t338 = true
      rotate_left
      ·replace c50:=Bool.eq_false_iff.mpr c50
       subst c50
       have H1 : (a_a.j2 kj26 a1 t330 false t322) = some r:=by rw [if_neg (show ¬ (false = true) by decide)] at H;exact H
       clear H
       have H:=H1
       clear H1
       have H':=a_b.mk H
       clear H
       have j_0:=b_l.out
       have k_r:=b_b.out
       have f_C : w42.cell? ⟨b_G,0,none⟩ = some (.slice Ao14 t322.length co14):=(a_l a_F.out 0).trans rfl
       have f_J:=a_i a_F.out 0
       go_wp2_with (first|(go_at_call 30;(with_reducible refine (b_f.calls _ _ t322 t336 _ ?side1 ?side2 A45.out).mono ?_);(case side1 => repeat (first|exact (Kd.a_v a_r.out).2.2|(with_reducible refine Kd.a_I ?_ _)|(with_reducible refine Kd.a_J ?_ _)|(with_reducible refine Kd.a_X ?_)));(case side2 => exact (Kd.a_v a_r.out).2.1);rintro e w57 ⟨rfl,hb⟩;replace a_r:=a_b.mk (Kd.a_B (rup_ a_r.out) hb);replace c_e:=a_b.mk (Kd.a_B (rup_ c_e.out) hb);replace a_P:=a_b.mk (a_k (bup_ a_P.out) hb);replace a_F:=a_b.mk (a_k (bup_ a_F.out) hb);replace HB:=a_b.mk (a_h (by repeat (first|(with_reducible first|exact HB.out|apply a_e|apply a_c|apply a_f|refine a_d ?_ a_Y.out|refine a_d ?_ b_s.out)|exact HB.out)) hb);(try clear hb);(try clear hb2);(try clear hk);(try clear hi))|(go_at_call 31;(with_reducible refine (a_R.calls t334 t337 _ A47.out).mono ?_);rintro e w' ⟨rfl,⟨nd,rfl⟩⟩)|(go_at_call 33;(with_reducible refine (b_k.calls a2 a1 false _ A49.out).mono ?_);rintro e w' ⟨rfl,⟨nd,rfl⟩⟩))
       go_meet
       case rel => exact ⟨_,(false),(by first|rfl|(simp;done)|(simp [*];done)),H',⟨by have:=HK1.out;have:=HJ26.out;first|omega|exact Nat.le_refl _⟩,⟨by (with_reducible repeat (first|apply Kd.a_K|apply Kd.a_L|apply Kd.a_T));exact c_e.out⟩,⟨by (with_reducible repeat (first|apply Kd.a_K|apply Kd.a_L|apply Kd.a_T));exact a_r.out⟩,⟨by (with_reducible repeat (first|refine a_m ?_ _|refine a_o ?_|refine a_j ?_ _));exact a_P.out⟩,⟨by (with_reducible repeat (first|refine a_m ?_ _|refine a_o ?_|refine a_j ?_ _));exact a_F.out⟩,⟨by repeat (first|(with_reducible first|exact HB.out|apply a_e|apply a_c|apply a_f|refine a_d ?_ a_Y.out|refine a_d ?_ b_s.out)|exact HB.out)⟩⟩
      subst c50
      have H1 : (if 0 < (t330.length : Int) then (a_a.j2 kj26 a1 t330 ((rd t330 0) != a1) t322) else (none)) = some r:=by rw [if_pos rfl] at H;exact H
      clear H
      have H:=H1
      clear H1
      by_cases c51 : 0 < (t330.length : Int)
      rotate_left
      ·rw [if_neg c51] at H
       exact absurd H (by simp)
      rw [if_pos c51] at H
      have c51b0 : decide (0 < (t330.length : Int)) = true:=decide_eq_true c51
      have c51b1 : decide (0 < t330.length) = true:=decide_eq_true (by omega)
      clear c51
      have H':=a_b.mk H
      clear H
      have j_Z:=b_l.out
      have k_q:=b_b.out
      have f_B : w42.cell? ⟨b_G,0,none⟩ = some (.slice Ao14 t322.length co14):=(a_l a_F.out 0).trans rfl
      have f_I:=a_i a_F.out 0
      go_wp2_with (first|(go_at_call 30;(with_reducible refine (b_f.calls _ _ t322 t336 _ ?side1 ?side2 A45.out).mono ?_);(case side1 => repeat (first|exact (Kd.a_v a_r.out).2.2|(with_reducible refine Kd.a_I ?_ _)|(with_reducible refine Kd.a_J ?_ _)|(with_reducible refine Kd.a_X ?_)));(case side2 => exact (Kd.a_v a_r.out).2.1);rintro e w54 ⟨rfl,hb⟩;replace a_r:=a_b.mk (Kd.a_B (rup_ a_r.out) hb);replace c_e:=a_b.mk (Kd.a_B (rup_ c_e.out) hb);replace a_P:=a_b.mk (a_k (bup_ a_P.out) hb);replace a_F:=a_b.mk (a_k (bup_ a_F.out) hb);replace HB:=a_b.mk (a_h (by repeat (first|(with_reducible first|exact HB.out|apply a_e|apply a_c|apply a_f|refine a_d ?_ a_Y.out|refine a_d ?_ b_s.out)|exact HB.out)) hb);(try clear hb);(try clear hb2);(try clear hk);(try clear hi))|(go_at_call 31;(with_reducible refine (a_R.calls t334 t337 _ A47.out).mono ?_);rintro e w' ⟨rfl,⟨nd,rfl⟩⟩)|(go_at_call 33;(with_reducible refine (b_k.calls a2 a1 true _ A49.out).mono ?_);rintro e w' ⟨rfl,⟨nd,rfl⟩⟩;have p339 : 0 ≤ (0 : Int):=(by omega);have q339 : 0 < (t330.length : Int):=of_decide_eq_true (by first|(with_reducible assumption)|assumption);obtain ⟨ad339,e339,d_X⟩:=Kd.c_X (Kd.a_v c_e.out).2.2 0 p339 q339;cases e339;have qi339 : (0 < t330.length) = True:=eq_true (by omega);(try rw [show ((0 : Int)).toNat = 0 from rfl] at d_X);(try rw [Addr.add_zero'] at d_X);replace p339:=eq_true p339;replace q339:=eq_true q339))
      go_meet
      case rel => exact ⟨_,(((rd t330 0) != a1)),(by first|rfl|(simp;done)|(simp [*];done)),H',⟨by have:=HK1.out;have:=HJ26.out;first|omega|exact Nat.le_refl _⟩,⟨by (with_reducible repeat (first|apply Kd.a_K|apply Kd.a_L|apply Kd.a_T));exact c_e.out⟩,⟨by (with_reducible repeat (first|apply Kd.a_K|apply Kd.a_L|apply Kd.a_T));exact a_r.out⟩,⟨by (with_reducible repeat (first|refine a_m ?_ _|refine a_o ?_|refine a_j ?_ _));exact a_P.out⟩,⟨by (with_reducible repeat (first|refine a_m ?_ _|refine a_o ?_|refine a_j ?_ _));exact a_F.out⟩,⟨by repeat (first|(with_reducible first|exact HB.out|apply a_e|apply a_c|apply a_f|refine a_d ?_ a_Y.out|refine a_d ?_ b_s.out)|exact HB.out)⟩⟩
     case rest =>
      clear HC39
      try clear c1
      try clear c2
      try clear p2
      try clear c3
      try clear p3
      try clear q3
      try clear hx3
      try clear qi3
      try clear c4
      try clear c5
      try clear c6
      try clear p6
      try clear c8
      try clear c8b0
      try clear c8b1
      try clear c10
      try clear c11
      try clear c15
      try clear c18
      try clear c18b0
      try clear c20
      try clear c20b0
      try clear c20b1
      try clear c21
      try clear c24
      try clear c28
      try clear c29
      try clear c29b0
      try clear c29b1
      try clear c30
      try clear c31
      try clear c32
      try clear p33
      try clear q33
      try clear hx33
      try clear qi33
      try clear c35
      try clear c37
      try clear c37b0
      try clear c37b1
      try clear c40
      try clear c44
      try clear c44b0
      try clear c44b1
      try clear c46
      try clear c46b0
      try clear c46b1
      try clear c48
      try clear c48b0
      try clear c48b1
      try clear c50
      try clear c51
      try clear c51b0
      try clear c51b1
      try clear c52
      try clear c55
      try clear c58
      try clear c61
      try clear c_N
      try clear c_w
      try clear d_d
      try clear d_e
      try clear d_V
      try clear f_B
      try clear f_C
      try clear f_D
      try clear e_y
      try clear c_O
      try clear c_x
      try clear d_f
      try clear d_g
      try clear d_W
      try clear f_I
      try clear f_J
      try clear f_K
      try clear e_z
      try clear d_X
      try clear p2
      try clear p339
      try clear p6
      try clear q339
      obtain ⟨kq,x95_38,rfl,HA,HJ38,h_T,a_r,a_P,a_F,HB⟩:=hcut
      cases kq with
      | zero => exact absurd HA.out (by simp [a_a.j2])
      | succ kj38 =>
       have H:=HA.out
       clear HA
       simp only [a_a.j2] at H
       by_cases c64 : x95_38 = true
       ·subst c64
        have H1 : (some false) = some r:=by rw [if_pos rfl] at H;exact H
        clear H
        have H:=H1
        clear H1
        obtain rfl:=Option.some.inj H
        go_wp2
        go_ret
        exact ⟨by first|rfl|(simp [a_p,a_q] <;> rfl)|(simp [*, a_p,a_q] <;> rfl),by repeat (first|(with_reducible first|exact HB.out|apply a_e|apply a_c|apply a_f|refine a_d ?_ a_Y.out|refine a_d ?_ b_s.out)|exact HB.out)⟩
       replace c64:=Bool.eq_false_iff.mpr c64
       subst c64
       have H1 : (a_a.l1 kj38 a1 (-1) t330 (t330.length : Int) 0 t322) = some r:=by rw [if_neg (show ¬ (false = true) by decide)] at H;exact H
       clear H
       have H:=H1
       clear H1
       have H':=a_b.mk H
       clear H
       go_wp2
       go_loopg [15,98] kj38 (fun kq v15 v98 w' => ∃ (x15_4 : Int) (x98_4 : Int),v15 = .int .i64 x15_4 ∧ v98 = .int .i64 x98_4 ∧ a_b (a_a.l1 kq a1 x15_4 t330 (t330.length : Int) x98_4 t322 = some r) ∧ a_b (kq ≤ kj38) ∧ a_b (Kd.R (Kd.int .i64) 3 w' w.heap.size (fun _ => True) (.slice Ao43 t330.length co43) t330) ∧ a_b (Kd.R k56 56 w' w.heap.size (fun _ => True) (.slice Ao14 t322.length co14) t322) ∧ a_b (w'.heap[b_7]? = some (.cells #[(.slice A0_0 l0_0.length c0_0)] 24 (0,0))) ∧ a_b (w'.heap[b_G]? = some (.cells #[(.slice Ao14 t322.length co14)] 24 (0,0))) ∧ a_b (Below w.heap.size w w'))
       case atStart => exact ⟨((-1)),(0),(by first|rfl|(simp;done)|(simp [*];done)),(by first|rfl|(simp;done)|(simp [*];done)),H',⟨Nat.le_refl _⟩,⟨by (with_reducible repeat (first|apply Kd.a_K|apply Kd.a_L|apply Kd.a_T));exact h_T.out⟩,⟨by (with_reducible repeat (first|apply Kd.a_K|apply Kd.a_L|apply Kd.a_T));exact a_r.out⟩,⟨by (with_reducible repeat (first|refine a_m ?_ _|refine a_o ?_|refine a_j ?_ _));exact a_P.out⟩,⟨by (with_reducible repeat (first|refine a_m ?_ _|refine a_o ?_|refine a_j ?_ _));exact a_F.out⟩,⟨by repeat (first|(with_reducible first|exact HB.out|apply a_e|apply a_c|apply a_f|refine a_d ?_ a_Y.out|refine a_d ?_ b_s.out)|exact HB.out)⟩⟩
       case round =>
        clear H'
        try clear c1
        try clear c2
        try clear p2
        try clear c3
        try clear p3
        try clear q3
        try clear hx3
        try clear qi3
        try clear c4
        try clear c5
        try clear c6
        try clear p6
        try clear c8
        try clear c8b0
        try clear c8b1
        try clear c10
        try clear c11
        try clear c15
        try clear c18
        try clear c18b0
        try clear c20
        try clear c20b0
        try clear c20b1
        try clear c21
        try clear c24
        try clear c28
        try clear c29
        try clear c29b0
        try clear c29b1
        try clear c30
        try clear c31
        try clear c32
        try clear p33
        try clear q33
        try clear hx33
        try clear qi33
        try clear c35
        try clear c37
        try clear c37b0
        try clear c37b1
        try clear c40
        try clear c44
        try clear c44b0
        try clear c44b1
        try clear c46
        try clear c46b0
        try clear c46b1
        try clear c48
        try clear c48b0
        try clear c48b1
        try clear c50
        try clear c51
        try clear c51b0
        try clear c51b1
        try clear c52
        try clear c55
        try clear c58
        try clear c61
        try clear c64
        try clear c_N
        try clear c_w
        try clear d_d
        try clear d_e
        try clear d_V
        try clear f_B
        try clear f_C
        try clear f_D
        try clear e_y
        try clear c_O
        try clear c_x
        try clear d_f
        try clear d_g
        try clear d_W
        try clear f_I
        try clear f_J
        try clear f_K
        try clear e_z
        try clear d_X
        try clear p2
        try clear p3
        try clear p33
        try clear p339
        try clear p6
        try clear q3
        try clear q33
        try clear q339
        obtain ⟨x15_4,x98_4,rfl,rfl,HA,HK4,d_q,a_r,a_P,a_F,HB⟩:=hrel
        cases gk with
        | zero => exact absurd HA.out (by simp [a_a.l1])
        | succ k4 =>
         have H:=HA.out
         clear HA
         simp only [a_a.l1] at H
         by_cases c65 : x98_4 < (t330.length : Int)
         rotate_left
         ·rw [if_neg c65] at H
          have c65b0 : decide (x98_4 < (t330.length : Int)) = false:=decide_eq_false c65
          clear c65
          obtain rfl:=Option.some.inj H
          go_wp2
          go_ret
          exact ⟨by first|rfl|(simp [a_p,a_q] <;> rfl)|(simp [*, a_p,a_q] <;> rfl),by repeat (first|(with_reducible first|exact HB.out|apply a_e|apply a_c|apply a_f|refine a_d ?_ a_Y.out|refine a_d ?_ b_s.out)|exact HB.out)⟩
         rw [if_pos c65] at H
         have c65b0 : decide (x98_4 < (t330.length : Int)) = true:=decide_eq_true c65
         clear c65
         by_cases c66 : 0 ≤ x98_4
         rotate_left
         ·rw [if_neg c66] at H
          exact absurd H (by simp)
         rw [if_pos c66] at H
         have c66b0 : decide (0 ≤ x98_4) = true:=decide_eq_true c66
         clear c66
         by_cases c67 : x98_4 < (t330.length : Int)
         rotate_left
         ·rw [if_neg c67] at H
          exact absurd H (by simp)
         rw [if_pos c67] at H
         have c67b0 : decide (x98_4 < (t330.length : Int)) = true:=decide_eq_true c67
         clear c67
         replace H:=Option.bind_eq_some_iff.mp H
         obtain ⟨⟨t341,t342⟩,A680,H⟩:=H
         replace H : (if t342 = 0 then (if t341 < x15_4 then (some false) else (a_a.l1 k4 a1 t341 t330 (t330.length : Int) (wrap64 (x98_4 + 1)) t322)) else (some false)) = some r:=H
         have A68:=a_b.mk A680
         clear A680
         by_cases c69 : t342 = 0
         rotate_left
         ·rw [if_neg c69] at H
          have c69b0 : (t342 == 0) = false:=beq_eq_false_iff_ne.mpr c69
          have c69b1 : (t342 != 0) = true:=bne_iff_ne.mpr c69
          obtain rfl:=Option.some.inj H
          have p340 : 0 ≤ (x98_4 : Int):=of_decide_eq_true (by first|(with_reducible assumption)|assumption)
          have q340 : x98_4 < (t330.length : Int):=of_decide_eq_true (by first|(with_reducible assumption)|assumption)
          obtain ⟨ad340,e340,f_L⟩:=Kd.c_X (Kd.a_v d_q.out).2.2 x98_4 p340 q340
          cases e340
          replace p340:=eq_true p340
          replace q340:=eq_true q340
          have j_5:=b_l.out
          have k_w:=b_b.out
          have i_G : wr.cell? ⟨b_G,0,none⟩ = some (.slice Ao14 t322.length co14):=(a_l a_F.out 0).trans rfl
          have j_d:=a_i a_F.out 0
          go_wp2_with (first|((with_reducible refine a_s (f:=17) rfl ?_);refine a_O (some 106) rfl rfl Tryd.func17 (by kernel_rfl) rfl #[.agg #[.slice Ao14 t322.length co14],.int .i64 a1,.int .i64 (rd t330 x98_4)] rfl (by (try simp only [List.map_toArray,List.map_cons,List.map_nil]);first|done|rfl|(simp only [List.length_drop,List.length_take];rfl)) ?_;(with_reducible refine (a_C.calls k4 _ _ t322 a1 (rd t330 x98_4) t341 t342 _ ?side1 ?side2 A68.out).mono ?_);(case side1 => repeat (first|exact (Kd.a_v a_r.out).2.2|(with_reducible refine Kd.a_I ?_ _)|(with_reducible refine Kd.a_J ?_ _)|(with_reducible refine Kd.a_X ?_)));(case side2 => exact (Kd.a_v a_r.out).2.1);rintro e w79 ⟨rfl,hb⟩;refine ⟨_,rfl,?_⟩;replace d_q:=a_b.mk (Kd.a_B (rup_ d_q.out) hb);replace a_r:=a_b.mk (Kd.a_B (rup_ a_r.out) hb);replace a_P:=a_b.mk (a_k (bup_ a_P.out) hb);replace a_F:=a_b.mk (a_k (bup_ a_F.out) hb);replace HB:=a_b.mk (a_h (by repeat (first|(with_reducible first|exact HB.out|apply a_e|apply a_c|apply a_f|refine a_d ?_ a_Y.out|refine a_d ?_ b_s.out)|exact HB.out)) hb);(try clear hb);(try clear hb2);(try clear hk);(try clear hi)))
          go_ret
          exact ⟨by first|rfl|(simp [a_p,a_q] <;> rfl)|(simp [*, a_p,a_q] <;> rfl),by repeat (first|(with_reducible first|exact HB.out|apply a_e|apply a_c|apply a_f|refine a_d ?_ a_Y.out|refine a_d ?_ b_s.out)|exact HB.out)⟩
         rw [if_pos c69] at H
         have c69b0 : (t342 == 0) = true:=beq_iff_eq.mpr c69
         have c69b1 : (t342 != 0) = false:=bne_eq_false_iff_eq.mpr c69
         clear c69
         by_cases c70 : t341 < x15_4
         ·rw [if_pos c70] at H
          have c70b0 : decide (t341 < x15_4) = true:=decide_eq_true c70
          clear c70
          obtain rfl:=Option.some.inj H
          have p340 : 0 ≤ (x98_4 : Int):=of_decide_eq_true (by first|(with_reducible assumption)|assumption)
          have q340 : x98_4 < (t330.length : Int):=of_decide_eq_true (by first|(with_reducible assumption)|assumption)
          obtain ⟨ad340,e340,f_L⟩:=Kd.c_X (Kd.a_v d_q.out).2.2 x98_4 p340 q340
          cases e340
          replace p340:=eq_true p340
          replace q340:=eq_true q340
          have j_3:=b_l.out
          have k_u:=b_b.out
          have i_E : wr.cell? ⟨b_G,0,none⟩ = some (.slice Ao14 t322.length co14):=(a_l a_F.out 0).trans rfl
          have j_b:=a_i a_F.out 0
          go_wp2_with (first|((with_reducible refine a_s (f:=17) rfl ?_);refine a_O (some 106) rfl rfl Tryd.func17 (by kernel_rfl) rfl #[.agg #[.slice Ao14 t322.length co14],.int .i64 a1,.int .i64 (rd t330 x98_4)] rfl (by (try simp only [List.map_toArray,List.map_cons,List.map_nil]);first|done|rfl|(simp only [List.length_drop,List.length_take];rfl)) ?_;(with_reducible refine (a_C.calls k4 _ _ t322 a1 (rd t330 x98_4) t341 t342 _ ?side1 ?side2 A68.out).mono ?_);(case side1 => repeat (first|exact (Kd.a_v a_r.out).2.2|(with_reducible refine Kd.a_I ?_ _)|(with_reducible refine Kd.a_J ?_ _)|(with_reducible refine Kd.a_X ?_)));(case side2 => exact (Kd.a_v a_r.out).2.1);rintro e w73 ⟨rfl,hb⟩;refine ⟨_,rfl,?_⟩;replace d_q:=a_b.mk (Kd.a_B (rup_ d_q.out) hb);replace a_r:=a_b.mk (Kd.a_B (rup_ a_r.out) hb);replace a_P:=a_b.mk (a_k (bup_ a_P.out) hb);replace a_F:=a_b.mk (a_k (bup_ a_F.out) hb);replace HB:=a_b.mk (a_h (by repeat (first|(with_reducible first|exact HB.out|apply a_e|apply a_c|apply a_f|refine a_d ?_ a_Y.out|refine a_d ?_ b_s.out)|exact HB.out)) hb);(try clear hb);(try clear hb2);(try clear hk);(try clear hi)))
          go_ret
          exact ⟨by first|rfl|(simp [a_p,a_q] <;> rfl)|(simp [*, a_p,a_q] <;> rfl),by repeat (first|(with_reducible first|exact HB.out|apply a_e|apply a_c|apply a_f|refine a_d ?_ a_Y.out|refine a_d ?_ b_s.out)|exact HB.out)⟩
         rw [if_neg c70] at H
         have c70b0 : decide (t341 < x15_4) = false:=decide_eq_false c70
         clear c70
         have H':=a_b.mk H
         clear H
         have p340 : 0 ≤ (x98_4 : Int):=of_decide_eq_true (by first|(with_reducible assumption)|assumption)
         have q340 : x98_4 < (t330.length : Int):=of_decide_eq_true (by first|(with_reducible assumption)|assumption)
         obtain ⟨ad340,e340,f_L⟩:=Kd.c_X (Kd.a_v d_q.out).2.2 x98_4 p340 q340
         cases e340
         replace p340:=eq_true p340
         replace q340:=eq_true q340
         have j_4:=b_l.out
         have k_v:=b_b.out
         have i_F : wr.cell? ⟨b_G,0,none⟩ = some (.slice Ao14 t322.length co14):=(a_l a_F.out 0).trans rfl
         have j_c:=a_i a_F.out 0
         go_wp2_with (first|((with_reducible refine a_s (f:=17) rfl ?_);refine a_O (some 106) rfl rfl Tryd.func17 (by kernel_rfl) rfl #[.agg #[.slice Ao14 t322.length co14],.int .i64 a1,.int .i64 (rd t330 x98_4)] rfl (by (try simp only [List.map_toArray,List.map_cons,List.map_nil]);first|done|rfl|(simp only [List.length_drop,List.length_take];rfl)) ?_;(with_reducible refine (a_C.calls k4 _ _ t322 a1 (rd t330 x98_4) t341 t342 _ ?side1 ?side2 A68.out).mono ?_);(case side1 => repeat (first|exact (Kd.a_v a_r.out).2.2|(with_reducible refine Kd.a_I ?_ _)|(with_reducible refine Kd.a_J ?_ _)|(with_reducible refine Kd.a_X ?_)));(case side2 => exact (Kd.a_v a_r.out).2.1);rintro e w76 ⟨rfl,hb⟩;refine ⟨_,rfl,?_⟩;replace d_q:=a_b.mk (Kd.a_B (rup_ d_q.out) hb);replace a_r:=a_b.mk (Kd.a_B (rup_ a_r.out) hb);replace a_P:=a_b.mk (a_k (bup_ a_P.out) hb);replace a_F:=a_b.mk (a_k (bup_ a_F.out) hb);replace HB:=a_b.mk (a_h (by repeat (first|(with_reducible first|exact HB.out|apply a_e|apply a_c|apply a_f|refine a_d ?_ a_Y.out|refine a_d ?_ b_s.out)|exact HB.out)) hb);(try clear hb);(try clear hb2);(try clear hk);(try clear hi)))
         go_roundg k4
         case measure => have:=HK1.out;have:=HJ26.out;have:=HJ38.out;have:=HK4.out;omega
         case rel => exact ⟨(t341),(wrap64 (x98_4 + 1)),(by first|rfl|(simp;done)|(simp [*];done)),(by first|rfl|(simp;done)|(simp [*];done)),H',⟨by have:=HK1.out;have:=HJ26.out;have:=HJ38.out;have:=HK4.out;omega⟩,⟨by (with_reducible repeat (first|apply Kd.a_K|apply Kd.a_L|apply Kd.a_T));exact d_q.out⟩,⟨by (with_reducible repeat (first|apply Kd.a_K|apply Kd.a_L|apply Kd.a_T));exact a_r.out⟩,⟨by (with_reducible repeat (first|refine a_m ?_ _|refine a_o ?_|refine a_j ?_ _));exact a_P.out⟩,⟨by (with_reducible repeat (first|refine a_m ?_ _|refine a_o ?_|refine a_j ?_ _));exact a_F.out⟩,⟨by repeat (first|(with_reducible first|exact HB.out|apply a_e|apply a_c|apply a_f|refine a_d ?_ a_Y.out|refine a_d ?_ b_s.out)|exact HB.out)⟩⟩
end Go.Proofs.YtcpfcehfgenljaaDoor.Q
end
section
namespace Go.Proofs.YtcpfcehfgenljaaDoor.Pure
open Go.RowKit Go.Proofs.YtcpfcehfgenljaaDoor.Q Go.Proofs.YtcpfcehfgenljaaDoorW.PrintWords Go.Proofs.YtcpfcehfgenljaaDoorW.PrintLast Go.Proofs.YtcpfcehfgenljaaDoorW.PrintMore
set_option linter.unusedVariables false
set_option linter.unusedSimpArgs false
theorem e_P (n : Nat) (h : n < 9223372036854775807) : wrap64 ((n : Int) + 1) = ((n + 1 : Nat) : Int):=by unfold wrap64;omega
theorem j_n {α : Type} {l pre suf : List α} {x : α} (h : l = pre ++ x :: suf) : pre.length < l.length:=by subst h;simp
theorem g_5 {α : Type} {l pre suf : List α} {x : α} (h : l = pre ++ x :: suf) : l = (pre ++ [x]) ++ suf:=by simp [h]
theorem g_6 {α : Type} {pre : List α} {x : α} (h : pre.length < 1000000000) : wrap64 ((pre.length : Int) + 1) = ((pre ++ [x]).length : Int):=by rw [e_P pre.length (by omega)];simp
theorem h_F {α : Type} {l pre : List α} (h : l = pre ++ []) : pre.length = l.length:=by subst h;simp
theorem g_q : Ev (fun k => a_t.f k) true:=Ev.of a_t.mono (k:=100) (by kernel_rfl)
theorem g_7 (l : List S56) : a_E.f l = some (l.take 9):=by
 have h : mn (l.length : Int) 9 = ((min l.length 9 : Nat) : Int):=by unfold mn;split <;> omega
 unfold a_E.f
 rw [h,if_pos (by omega),if_pos (by omega),Int.toNat_natCast]
 unfold a_S.f
 have e : l.take (min l.length 9) = l.take 9:=by rw [List.take_eq_take_iff];omega
 have hl : (l.take 9).length ≤ 9:=by rw [List.length_take];omega
 rw [e]
 simp only [Option.bind_some,List.nil_append,List.length_nil]
 rw [if_pos (by omega)]
 rfl
theorem f_Q (l : List S56) : okT l = (decide (1 ≤ l.length) && decide (l.length ≤ 8) && !l.any e_o):=rfl
theorem e_H {l : List S56} (h : okT l = true) : ∀ x ∈ l,0 ≤ x.f0 ∧ x.f0 < 4 ∧ 0 ≤ x.f1 ∧ x.f1 < 8:=by
 intro x hx
 rw [f_Q] at h
 simp only [Bool.and_eq_true,Bool.not_eq_true',decide_eq_true_eq,List.any_eq_false] at h
 have:=h.2 x hx
 unfold e_o at this
 simp at this
 omega
theorem c_V {l : List S56} (h : okT l = true) : 1 ≤ l.length ∧ l.length ≤ 8:=by
 rw [f_Q] at h
 simp only [Bool.and_eq_true,decide_eq_true_eq] at h
 exact h.1
theorem h_e (l : List S56) (a b : Int) : Ev (fun k => a_C.f k l a b) (if okT l = true then (if 0 ≤ a ∧ a < (l.length : Int) then (if 0 ≤ b ∧ b < (l.length : Int) then (dN l a b,0) else (0,2)) else (0,2)) else (0,160)):=by
 unfold a_C.f
 simp only [b_W,Option.bind_some,f_Y]
 cases h : okT l
 ·exact Ev.now _
 simp only [if_true]
 by_cases ha : 0 ≤ a ∧ a < (l.length : Int)
 rotate_left
 ·simp only [decide_eq_false ha,if_neg ha]
  exact Ev.now _
 by_cases hb : 0 ≤ b ∧ b < (l.length : Int)
 ·simp only [decide_eq_true ha,decide_eq_true hb,if_pos ha,if_pos hb,if_true]
  exact Ev.bind (Ev.of (a_w.mono _ _ _) (f_t l a b ha.1 ha.2 hb.1 hb.2)) (Ev.now _)
 simp only [decide_eq_true ha,decide_eq_false hb,if_pos ha,if_neg hb,if_true]
 exact Ev.now _
end Go.Proofs.YtcpfcehfgenljaaDoor.Pure
end
section
namespace Go.Proofs.YtcpfcehfgenljaaDoor.Pure
open Go.RowKit Go.Proofs.YtcpfcehfgenljaaDoor.Q Go.Proofs.YtcpfcehfgenljaaDoorW.PrintWords Go.Proofs.YtcpfcehfgenljaaDoorW.PrintLast Go.Proofs.YtcpfcehfgenljaaDoorW.PrintMore
set_option linter.unusedVariables false
set_option linter.unusedSimpArgs false
theorem b_Y (p : S56 → Bool) (l : List S56) (i : Nat) : (setN p l).testBit i = (okT l && (decide (i < l.length) && p (a_u l (i : Int)))):=by
 unfold setN
 cases h : okT l
 ·simp
 simp only [if_true,Bool.true_and]
 unfold maskN
 rw [d_U,Nat.zero_testBit,Bool.false_or,Bool.eq_iff_iff,decide_eq_true_eq]
 unfold c_m
 rw [List.mem_filter,List.mem_range,Bool.and_eq_true,decide_eq_true_eq]
theorem c_K {a b : Nat} (h : ∀ i,a.testBit i = b.testBit i) : a = b:=Nat.eq_of_testBit_eq h
theorem h_V (m i : Nat) (hm : m < 256) : b_k.f (m : Int) (i : Int) = some (m.testBit i):=by
 unfold b_k.f
 by_cases hi : i < 8
 ·rw [h_t i hi,Option.bind_some]
  have h1 : ∀ (a : Fin 256) (b : Fin 8),(Go.bits .and .u32 (a.val : Int) ((2 ^ b.val : Nat) : Int) != 0) = a.val.testBit b.val:=by decide +kernel
  rw [h1 ⟨m,hm⟩ ⟨i,hi⟩]
 have hz : m.testBit i = false:=Nat.testBit_lt_two_pow (Nat.lt_of_lt_of_le (show m < 2 ^ 8 by omega) (Nat.pow_le_pow_right (by decide) (by omega)))
 have hb : b_o.f (i : Int) = some 0:=by unfold b_o.f;rw [if_neg (by omega),if_pos (by omega)]
 rw [hb,Option.bind_some,hz]
 have h1 : ∀ (a : Fin 256),(Go.bits .and .u32 (a.val : Int) 0 != 0) = false:=by decide +kernel
 rw [h1 ⟨m,hm⟩]
theorem h_b (l : List S56) (hl : l.length ≤ 1000000) : b_f.f l = some ((setN (fun _ => true) l : Nat) : Int):=by
 unfold b_f.f b_r.f
 rw [if_pos hl];rfl
theorem f_5 (l : List S56) (hl : l.length ≤ 1000000) (a : Int) : a_0.f l a = some ((setN (fun s => s.f0 == a) l : Nat) : Int):=by
 unfold a_0.f b_e.f
 rw [if_pos hl];rfl
theorem f_s (l : List S56) (a b : Int) : dN l a b = 0 ↔ a = b:=by
 unfold dN
 split
 ·simp_all
 split
 ·simp_all
 split <;> simp_all
end Go.Proofs.YtcpfcehfgenljaaDoor.Pure
end
section
namespace Go.Proofs.YtcpfcehfgenljaaDoor.Pure
open Go.RowKit Go.Proofs.YtcpfcehfgenljaaDoor.Q Go.Proofs.YtcpfcehfgenljaaDoorW.PrintWords Go.Proofs.YtcpfcehfgenljaaDoorW.PrintLast Go.Proofs.YtcpfcehfgenljaaDoorW.PrintMore
set_option linter.unusedVariables false
set_option linter.unusedSimpArgs false
theorem d_F (A B : List Int) (x : Int) : rd (A ++ x :: B) (A.length : Int) = x:=by simp [rd]
theorem f_W (A B : List Int) (y x : Int) : d_w (A ++ y :: x :: B) A.length = A ++ x :: y :: B:=by
 have h1:=d_F A (x :: B) y
 have h2 : rd (A ++ y :: x :: B) ((A.length + 1 : Nat) : Int) = x:=by
  have:=d_F (A ++ [y]) B x
  simpa using this
 unfold d_w
 rw [h1,h2]
 simp
theorem g_f (key : Int → Int) (A B : List Int) (x : Int) (h : ∀ y ∈ A,key y ≤ key x) : c_T (fun a b => key a - key b) A.length (A ++ x :: B) = A ++ x :: B:=by
 rcases List.eq_nil_or_concat A with rfl | ⟨A',y,rfl⟩
 ·rfl
 have hy:=h y (by simp)
 have e : (A' ++ [y]).length = A'.length + 1:=by simp
 have r1 : rd ((A' ++ [y]) ++ x :: B) ((A'.length + 1 : Nat) : Int) = x:=by
  have:=d_F (A' ++ [y]) B x
  rwa [e] at this
 have r2 : rd ((A' ++ [y]) ++ x :: B) (A'.length : Int) = y:=by
  have:=d_F A' (x :: B) y
  simpa using this
 rw [List.concat_eq_append,e,c_T,r1,r2,if_neg (by omega)]
theorem c_B (key : Int → Int) (x : Int) : ∀ (n : Nat) (A H B : List Int),H.length = n → (∀ y ∈ A,key y ≤ key x) → (∀ y ∈ H,key x < key y) → c_T (fun a b => key a - key b) (A ++ H).length ((A ++ H) ++ x :: B) = A ++ x :: (H ++ B)
 | 0,A,H,B,hn,hA,hH => by
  obtain rfl:=List.length_eq_zero_iff.1 hn
  simpa using g_f key A B x hA
 | n + 1,A,H,B,hn,hA,hH => by
  rcases List.eq_nil_or_concat H with rfl | ⟨H',y,rfl⟩
  ·simp at hn
  ·rw [List.concat_eq_append] at *
   have hy:=hH y (by simp)
   have e : (A ++ (H' ++ [y])).length = (A ++ H').length + 1:=by simp;omega
   have el : (A ++ (H' ++ [y])) ++ x :: B = (A ++ H') ++ y :: x :: B:=by simp
   have r1 : rd ((A ++ H') ++ y :: x :: B) (((A ++ H').length + 1 : Nat) : Int) = x:=by
    have:=d_F ((A ++ H') ++ [y]) B x
    rw [List.length_append,List.length_singleton] at this
    simpa using this
   have r2 : rd ((A ++ H') ++ y :: x :: B) ((A ++ H').length : Int) = y:=d_F (A ++ H') (x :: B) y
   have ih:=c_B key x n A H' (y :: B) (by simp at hn;omega) hA (fun z hz => hH z (by simp [hz]))
   rw [e,el,c_T,r1,r2,if_pos (by omega),f_W,ih]
   simp
def b_2 (key : Int → Int) (p : List Int) : List Int:=p.filter (fun x => key x == 0) ++ (p.filter (fun x => key x == 1) ++ (p.filter (fun x => key x == 2) ++ p.filter (fun x => key x == 3)))
theorem c_L (key : Int → Int) (hk : ∀ x,0 ≤ key x ∧ key x ≤ 3) : ∀ p : List Int,(b_2 key p).length = p.length
 | [] => rfl
 | x :: p => by
  have ih:=c_L key hk p
  unfold b_2 at *
  have:=hk x
  have hx : key x = 0 ∨ key x = 1 ∨ key x = 2 ∨ key x = 3:=by omega
  simp only [List.length_append] at ih ⊢
  rcases hx with h|h|h|h <;> simp [List.filter_cons,h] <;> omega
theorem d_T {key : Int → Int} {p : List Int} {d y : Int} (h : y ∈ p.filter (fun x => key x == d)) : key y = d:=by simpa using (List.mem_filter.1 h).2
theorem e_V (key : Int → Int) (hk : ∀ x,0 ≤ key x ∧ key x ≤ 3) (p rest : List Int) (x : Int) : c_T (fun a b => key a - key b) p.length (b_2 key p ++ x :: rest) = b_2 key (p ++ [x]) ++ rest:=by
 have hl:=c_L key hk p
 have:=hk x
 have hx : key x = 0 ∨ key x = 1 ∨ key x = 2 ∨ key x = 3:=by omega
 rw [← hl]
 unfold b_2
 simp only [List.filter_append]
 generalize h0 : p.filter (fun x => key x == 0) = p0
 generalize h1 : p.filter (fun x => key x == 1) = p1
 generalize h2 : p.filter (fun x => key x == 2) = p2
 generalize h3 : p.filter (fun x => key x == 3) = p3
 have k0 : ∀ y ∈ p0,key y = 0:=fun y hy => by rw [← h0] at hy;exact d_T hy
 have k1 : ∀ y ∈ p1,key y = 1:=fun y hy => by rw [← h1] at hy;exact d_T hy
 have k2 : ∀ y ∈ p2,key y = 2:=fun y hy => by rw [← h2] at hy;exact d_T hy
 have k3 : ∀ y ∈ p3,key y = 3:=fun y hy => by rw [← h3] at hy;exact d_T hy
 rcases hx with h|h|h|h
 ·rw [c_B key x _ p0 (p1 ++ (p2 ++ p3)) rest rfl (fun y hy => by rw [k0 y hy];omega) (fun y hy => by
   simp only [List.mem_append] at hy
   rcases hy with hy|hy|hy
   ·rw [k1 y hy];omega
   ·rw [k2 y hy];omega
   rw [k3 y hy];omega)]
  simp [List.filter_cons,h]
 ·have:=c_B key x _ (p0 ++ p1) (p2 ++ p3) rest rfl (fun y hy => by
   simp only [List.mem_append] at hy
   rcases hy with hy|hy
   ·rw [k0 y hy];omega
   ·rw [k1 y hy];omega) (fun y hy => by
   simp only [List.mem_append] at hy
   rcases hy with hy|hy
   ·rw [k2 y hy];omega
   rw [k3 y hy];omega)
  rw [show p0 ++ (p1 ++ (p2 ++ p3)) = (p0 ++ p1) ++ (p2 ++ p3) by simp,this]
  simp [List.filter_cons,h]
 ·have:=c_B key x _ (p0 ++ (p1 ++ p2)) p3 rest rfl (fun y hy => by
   simp only [List.mem_append] at hy
   rcases hy with hy|hy|hy
   ·rw [k0 y hy];omega
   ·rw [k1 y hy];omega
   rw [k2 y hy];omega) (fun y hy => by rw [k3 y hy];omega)
  rw [show p0 ++ (p1 ++ (p2 ++ p3)) = (p0 ++ (p1 ++ p2)) ++ p3 by simp,this]
  simp [List.filter_cons,h]
 have:=c_B key x _ (p0 ++ (p1 ++ (p2 ++ p3))) [] rest rfl (fun y hy => by
  simp only [List.mem_append] at hy
  rcases hy with hy|hy|hy|hy
  ·rw [k0 y hy];omega
  ·rw [k1 y hy];omega
  ·rw [k2 y hy];omega
  rw [k3 y hy];omega) (fun y hy => by cases hy)
 rw [List.append_nil] at this
 rw [this]
 simp [List.filter_cons,h]
theorem d_B (key : Int → Int) (hk : ∀ x,0 ≤ key x ∧ key x ≤ 3) : ∀ (rest p : List Int),b_3 (fun a b => key a - key b) rest.length p.length (b_2 key p ++ rest) = b_2 key (p ++ rest)
 | [],p => by simp [b_3]
 | x :: rest,p => by
  have ih:=d_B key hk rest (p ++ [x])
  rw [List.length_append,List.length_singleton] at ih
  rw [List.length_cons,b_3,e_V key hk,ih]
  simp
theorem e_v (key : Int → Int) (hk : ∀ x,0 ≤ key x ∧ key x ≤ 3) (L : List Int) : b_3 (fun a b => key a - key b) (L.length - 1) 1 L = b_2 key L:=by
 cases L with
 | nil => rfl
 | cons x L =>
  have:=d_B key hk L [x]
  have hb : b_2 key [x] = [x]:=by
   have:=hk x
   have hx : key x = 0 ∨ key x = 1 ∨ key x = 2 ∨ key x = 3:=by omega
   unfold b_2
   rcases hx with h|h|h|h <;> simp [List.filter_cons,h]
  rw [hb] at this
  simpa using this
theorem f_T : ∀ n : Fin 9,(List.range 8).filter (fun i => decide (i < n.val)) = List.range n.val:=by decide
def base (l : List S56) (m : Nat) : List Int:=((List.range l.length).filter fun i => m.testBit i).map fun i : Nat => (i : Int)
theorem e_2 {l : List S56} (h : okT l = true) (m : Nat) : d_j l m = base l m:=by
 have hl:=c_V h
 unfold d_j base c_p
 congr 1
 rw [← f_T ⟨l.length,by omega⟩,List.filter_filter]
 apply List.filter_congr
 intro i hi
 have hi8 : i < 8:=by simpa using hi
 have h255 : (255 : Nat).testBit i = true:=by
  have : i = 0 ∨ i = 1 ∨ i = 2 ∨ i = 3 ∨ i = 4 ∨ i = 5 ∨ i = 6 ∨ i = 7:=by omega
  rcases this with rfl|rfl|rfl|rfl|rfl|rfl|rfl|rfl <;> decide
 rw [Nat.testBit_and,Nat.testBit_and,h255,b_Y,h]
 simp
theorem e_i {l : List S56} (h : okT l = true) (cpu : Int) (m : Nat) : g_k l cpu m = b_2 (dN l cpu) (base l m):=by
 unfold g_k
 rw [e_2 h,e_v (dN l cpu) (fun x => b_9 l cpu x)]
end Go.Proofs.YtcpfcehfgenljaaDoor.Pure
end
section
namespace Go.Proofs.YtcpfcehfgenljaaDoor.Pure
open Go.RowKit Go.Proofs.YtcpfcehfgenljaaDoor.Q Go.Proofs.YtcpfcehfgenljaaDoorW.PrintWords Go.Proofs.YtcpfcehfgenljaaDoorW.PrintLast Go.Proofs.YtcpfcehfgenljaaDoorW.PrintMore
set_option linter.unusedVariables false
set_option linter.unusedSimpArgs false
theorem wraps_u32 (n : Int) (h₀ : 0 ≤ n) (h₁ : n < 2 ^ 32) : IntKind.u32.wrap n = n:=by rw [IntKind.wrap_u32];omega
theorem h_z {a : Int} (h0 : 0 ≤ a) (h1 : a < 4294967296) : decide (Go.bits .andNot .u32 a 255 = 0) = decide (a < 256):=by
 obtain ⟨n,rfl⟩:=Int.eq_ofNat_of_zero_le h0
 have hn : n < 2 ^ 32:=by omega
 have e : Go.bits .andNot .u32 (n : Int) 255 = (((BitVec.ofNat 32 n &&& ~~~BitVec.ofNat 32 255).toNat : Nat) : Int):=by
  have h : Go.bits .andNot .u32 (n : Int) 255 = IntKind.u32.wrap (((BitVec.ofNat 32 n &&& ~~~BitVec.ofNat 32 255).toNat : Nat) : Int):=by
   simp only [Go.bits,BitVec.ofInt_natCast]
   rfl
  rw [h]
  exact wraps_u32 _ (Int.natCast_nonneg _) (by have:=BitVec.isLt (BitVec.ofNat 32 n &&& ~~~BitVec.ofNat 32 255);exact_mod_cast this)
 have tb : ∀ i,(BitVec.ofNat 32 n &&& ~~~BitVec.ofNat 32 255).toNat.testBit i = (n.testBit i && !(255 : Nat).testBit i):=fun i => by
  rw [BitVec.testBit_toNat,BitVec.getLsbD_and,BitVec.getLsbD_not,BitVec.getLsbD_ofNat,BitVec.getLsbD_ofNat]
  by_cases h : i < 32
  ·simp [h]
  have : n.testBit i = false:=Nat.testBit_lt_two_pow (Nat.lt_of_lt_of_le hn (Nat.pow_le_pow_right (by decide) (by omega)))
  simp [h,this]
 rw [e]
 by_cases c : n < 256
 rotate_left
 ·have hz : ¬ (BitVec.ofNat 32 n &&& ~~~BitVec.ofNat 32 255).toNat = 0:=fun h0 => c (by
   have : n < 2 ^ 8:=Nat.lt_pow_two_of_testBit n fun i hi => by
    have t:=tb i
    rw [h0,Nat.zero_testBit] at t
    have : (255 : Nat).testBit i = false:=Nat.testBit_lt_two_pow (Nat.lt_of_lt_of_le (by decide : 255 < 2 ^ 8) (Nat.pow_le_pow_right (by decide) hi))
    rw [this] at t
    simpa using t.symm
   simpa using this)
  rw [decide_eq_false (by omega),decide_eq_false (by omega)]
 have hz : (BitVec.ofNat 32 n &&& ~~~BitVec.ofNat 32 255).toNat = 0:=by
  apply Nat.eq_of_testBit_eq
  intro i
  rw [tb,Nat.zero_testBit]
  by_cases h : i < 8
  ·have : (255 : Nat).testBit i = true:=by
    have : i = 0 ∨ i = 1 ∨ i = 2 ∨ i = 3 ∨ i = 4 ∨ i = 5 ∨ i = 6 ∨ i = 7:=by omega
    rcases this with rfl|rfl|rfl|rfl|rfl|rfl|rfl|rfl <;> decide
   rw [this];simp
  have : n.testBit i = false:=Nat.testBit_lt_two_pow (Nat.lt_of_lt_of_le c (Nat.pow_le_pow_right (n:=2) (i:=8) (by decide) (by omega)))
  rw [this];rfl
 rw [hz,decide_eq_true (show ((0 : Nat) : Int) = 0 from rfl),decide_eq_true (by omega)]
theorem h_m (l : List S56) (hl : l.length ≤ 1000000) (a : Int) (s : Nat) (hs : (s : Int) < 4294967296) : a_W.f l a (s : Int) = some (if okT l = true then (if 0 ≤ a ∧ a < (l.length : Int) then (if s < 256 then (b_2 (dN l a) (base l s),0) else ([],140)) else ([],2)) else ([],160)):=by
 unfold a_W.f
 rw [if_pos ⟨hl,by omega,hs⟩]
 congr 1
 cases h : okT l
 ·rfl
 simp only [if_true]
 have hm:=h_z (a:=(s : Int)) (by omega) hs
 by_cases c : s < 256
 ·have h0 : Go.bits .andNot .u32 (s : Int) 255 = 0:=by
   rw [decide_eq_true (show (s : Int) < 256 by omega)] at hm
   exact of_decide_eq_true hm
  rw [if_pos h0,if_pos c,Int.toNat_natCast,e_i h]
 have h0 : ¬ Go.bits .andNot .u32 (s : Int) 255 = 0:=by
  rw [decide_eq_false (show ¬ (s : Int) < 256 by omega)] at hm
  exact of_decide_eq_false hm
 rw [if_neg h0,if_neg c]
end Go.Proofs.YtcpfcehfgenljaaDoor.Pure
end
section
namespace Go.Proofs.YtcpfcehfgenljaaDoor.Pure
open Go.RowKit Go.Proofs.YtcpfcehfgenljaaDoor.Q Go.Proofs.YtcpfcehfgenljaaDoorW.PrintWords Go.Proofs.YtcpfcehfgenljaaDoorW.PrintLast Go.Proofs.YtcpfcehfgenljaaDoorW.PrintMore
set_option linter.unusedVariables false
set_option linter.unusedSimpArgs false
theorem or_n {a b : Nat} (ha : a < 2 ^ 32) (hb : b < 2 ^ 32) : Go.bits .or .u32 (a : Int) (b : Int) = ((a ||| b : Nat) : Int):=(bits_nat .u32 32 (by decide) wraps_u32 a b ha hb).2
def pc (s : Nat) : Nat:=(s.testBit 0).toNat + (s.testBit 1).toNat + (s.testBit 2).toNat + (s.testBit 3).toNat + (s.testBit 4).toNat + (s.testBit 5).toNat + (s.testBit 6).toNat + (s.testBit 7).toNat
theorem e_9 (s : Nat) (hs : s < 256) : a_R.f (s : Int) = some ((pc s : Nat) : Int):=by
 have key : ∀ s : Fin 256,a_R.f ((s.val : Nat) : Int) = some ((pc s.val : Nat) : Int):=by decide +kernel
 exact key ⟨s,hs⟩
theorem h_E : ∀ (m : Fin 256) (n : Fin 9),((List.range n.val).filter fun i => m.val.testBit i).length = pc (m.val &&& (2 ^ n.val - 1)):=by decide +kernel
theorem g_i (N c : Nat) : (2 ^ N - 1).testBit c = decide (c < N):=Nat.testBit_two_pow_sub_one ..
theorem e_F {l : List S56} (h : okT l = true) : setN (fun _ => true) l = 2 ^ l.length - 1:=by
 apply c_K
 intro j
 rw [b_Y,h,g_i]
 simp
theorem h_D {l : List S56} (h : okT l = true) : pc (setN (fun _ => true) l) = l.length:=by
 have hl:=c_V h
 have key : ∀ n : Fin 9,pc (2 ^ n.val - 1) = n.val:=by decide +kernel
 rw [e_F h]
 exact key ⟨l.length,by omega⟩
def lowN (l : List S56) (i : Nat) : Nat:=setN (fun s => decide (s.f0 < (i : Int))) l
theorem e_K (l : List S56) (h : okT l = true) (cpu a2 : Int) (hR : Ev (fun k => a_a.j1 k cpu a2 false l) true) : ∀ n i : Nat,i + n = 4 → Ev (fun k => a_a.l0 k cpu a2 ((lowN l i : Nat) : Int) (i : Int) l) true
 | 0,i,hi => by
  have hl:=c_V h
  have hs:=e_H h
  obtain rfl : i = 4:=by omega
  have e : lowN l 4 = setN (fun _ => true) l:=by
   apply c_K
   intro j
   unfold lowN
   rw [b_Y,b_Y,h]
   by_cases hj : j < l.length
   ·have : a_u l (j : Int) ∈ l:=by unfold a_u;simp [hj]
    have:=hs _ this
    rw [decide_eq_true (show (a_u l (j : Int)).f0 < ((4 : Nat) : Int) by omega)]
   ·simp [hj]
  refine Ev.step (fun k => ?_) hR
  rw [a_a.l0,if_neg (by omega),h_b l (by omega),Option.bind_some,e,if_pos rfl,e_9 _ (d_m _ _),Option.bind_some,h_D h,bne_self_eq_false]
 | n + 1,i,hi => by
  have hl:=c_V h
  have ih:=e_K l h cpu a2 hR n (i + 1) (by omega)
  have b1 : lowN l i < 256:=d_m _ _
  have b2:=d_m (fun s => s.f0 == (i : Int)) l
  have e1 : lowN l i &&& setN (fun s => s.f0 == (i : Int)) l = 0:=by
   apply c_K
   intro j
   unfold lowN
   rw [Nat.testBit_and,b_Y,b_Y,h,Nat.zero_testBit]
   by_cases hj : (a_u l (j : Int)).f0 = (i : Int)
   ·rw [hj];simp
   ·have : ((a_u l (j : Int)).f0 == (i : Int)) = false:=by simpa using hj
    rw [this];simp
  have e2 : lowN l i ||| setN (fun s => s.f0 == (i : Int)) l = lowN l (i + 1):=by
   apply c_K
   intro j
   unfold lowN
   rw [Nat.testBit_or,b_Y,b_Y,b_Y,h,Bool.true_and,Bool.true_and,Bool.true_and, ← Bool.and_or_distrib_left]
   congr 1
   rw [Bool.eq_iff_iff,Bool.or_eq_true,decide_eq_true_eq,decide_eq_true_eq,beq_iff_eq]
   omega
  have z : Go.bits .and .u32 ((lowN l i : Nat) : Int) ((setN (fun s => s.f0 == (i : Int)) l : Nat) : Int) = 0:=by
   rw [bits_and_u32_nat _ _ (by omega) (by omega),e1];rfl
  refine Ev.step (fun k => ?_) ih
  rw [a_a.l0,if_pos (by omega),f_5 l (by omega),Option.bind_some,if_pos z,or_n (by omega) (by omega),e2,e_P i (by omega)]
def c_o (l : List S56) (m : Nat) : List Nat:=(List.range l.length).filter fun i => m.testBit i
def keyN (l : List S56) (cpu : Int) (d : Int) (i : Nat) : Bool:=dN l cpu (i : Int) == d
def bktN (l : List S56) (cpu : Int) (m : Nat) : List Nat:=(c_o l m).filter (keyN l cpu 0) ++ ((c_o l m).filter (keyN l cpu 1) ++ ((c_o l m).filter (keyN l cpu 2) ++ (c_o l m).filter (keyN l cpu 3)))
theorem f_l (l : List S56) (cpu : Int) (m : Nat) : b_2 (dN l cpu) (base l m) = (bktN l cpu m).map fun i : Nat => (i : Int):=by
 unfold b_2 base bktN c_o
 simp only [List.filter_map,List.map_append]
 rfl
theorem f_m {l : List S56} {cpu : Int} {m i : Nat} : i ∈ bktN l cpu m ↔ i < l.length ∧ m.testBit i = true:=by
 have hr:=b_9 l cpu (i : Int)
 have hb : i ∈ c_o l m ↔ i < l.length ∧ m.testBit i = true:=by unfold c_o;simp
 unfold bktN
 simp only [List.mem_append,List.mem_filter,hb,keyN,beq_iff_eq]
 constructor
 ·rintro (h|h|h|h) <;> exact h.1
 intro h
 have : dN l cpu (i : Int) = 0 ∨ dN l cpu (i : Int) = 1 ∨ dN l cpu (i : Int) = 2 ∨ dN l cpu (i : Int) = 3:=by omega
 rcases this with e|e|e|e
 ·exact .inl ⟨h,e⟩
 ·exact .inr (.inl ⟨h,e⟩)
 ·exact .inr (.inr (.inl ⟨h,e⟩))
 exact .inr (.inr (.inr ⟨h,e⟩))
theorem f_k (l : List S56) (cpu : Int) (m : Nat) : (bktN l cpu m).length = (c_o l m).length:=by
 have h:=c_L (dN l cpu) (fun x => b_9 l cpu x) (base l m)
 rw [f_l,List.length_map] at h
 rw [h]
 unfold base c_o
 rw [List.length_map]
theorem f_7 {l : List S56} (h : okT l = true) (cpu : Int) (m : Nat) : maskN (bktN l cpu m) = m &&& setN (fun _ => true) l:=by
 apply c_K
 intro j
 unfold maskN
 rw [d_U,Nat.zero_testBit,Bool.false_or,Nat.testBit_and,b_Y,h,Bool.eq_iff_iff,decide_eq_true_eq,f_m]
 simp [and_comm]
theorem d_9 {l : List S56} (h : okT l = true) (cpu : Int) (m : Nat) (hm : m < 256) : (bktN l cpu m).length = pc (m &&& setN (fun _ => true) l):=by
 have hl:=c_V h
 rw [f_k,e_F h]
 exact h_E ⟨m,hm⟩ ⟨l.length,by omega⟩
theorem f_8 (l : List S56) (cpu : Int) (m : Nat) : (bktN l cpu m).Pairwise fun (a b : Nat) => dN l cpu (a : Int) ≤ dN l cpu (b : Int):=by
 have hk : ∀ d, ∀ x ∈ (c_o l m).filter (keyN l cpu d),dN l cpu (x : Int) = d:=fun d x hx => by
  have:=(List.mem_filter.1 hx).2
  simpa [keyN] using this
 have one : ∀ d,((c_o l m).filter (keyN l cpu d)).Pairwise fun (a b : Nat) => dN l cpu (a : Int) ≤ dN l cpu (b : Int):=fun d => List.Pairwise.imp_of_mem (S:=fun (a b : Nat) => dN l cpu (a : Int) ≤ dN l cpu (b : Int)) (R:=fun (_ _ : Nat) => True) (fun {a b} ha hb _ => by rw [hk d a ha,hk d b hb];exact Int.le_refl _) (List.pairwise_of_forall (fun _ _ => trivial))
 unfold bktN
 rw [List.pairwise_append,List.pairwise_append,List.pairwise_append]
 refine ⟨one 0,⟨one 1,⟨one 2,one 3,?_⟩,?_⟩,?_⟩
 ·intro a ha b hb
  rw [hk 2 a ha,hk 3 b hb];decide
 ·intro a ha b hb
  rw [hk 1 a ha]
  rcases List.mem_append.1 hb with hb|hb
  ·rw [hk 2 b hb];decide
  rw [hk 3 b hb];decide
 intro a ha b hb
 rw [hk 0 a ha]
 exact (b_9 l cpu (b : Int)).1
theorem f_6 {l : List S56} {cpu : Nat} {m : Nat} (hc : cpu < l.length) (hm : m.testBit cpu = true) : ∃ r,bktN l (cpu : Int) m = cpu :: r:=by
 have hmem : cpu ∈ (c_o l m).filter (keyN l (cpu : Int) 0):=by
  rw [List.mem_filter]
  refine ⟨by unfold c_o;simp [hc,hm],?_⟩
  unfold keyN
  rw [beq_iff_eq,f_s]
 unfold bktN
 cases hF : (c_o l m).filter (keyN l (cpu : Int) 0) with
 | nil => rw [hF] at hmem;cases hmem
 | cons y r =>
  have hy : y ∈ (c_o l m).filter (keyN l (cpu : Int) 0):=by rw [hF];simp
  have:=(List.mem_filter.1 hy).2
  unfold keyN at this
  rw [beq_iff_eq,f_s] at this
  obtain rfl : cpu = y:=by omega
  exact ⟨_,rfl⟩
theorem e_L {l : List S56} (h : okT l = true) (cpu : Nat) (hc : cpu < l.length) (L : List Nat) (hL : ∀ x ∈ L,x < l.length) (hl8 : L.length ≤ 100) (hp : L.Pairwise fun (a b : Nat) => dN l (cpu : Int) (a : Int) ≤ dN l (cpu : Int) (b : Int)) :
 ∀ (suf pre : List Nat) (last : Int),L = pre ++ suf → (∀ x ∈ suf,last ≤ dN l (cpu : Int) (x : Int)) → Ev (fun k => a_a.l1 k (cpu : Int) last (L.map fun i : Nat => (i : Int)) (L.length : Int) (pre.length : Int) l) true
 | [],pre,last,e,hs => by
  have:=h_F e
  refine Ev.step (f:=fun _ => some true) (fun k => ?_) (Ev.now _)
  rw [a_a.l1,if_neg (by omega)]
 | x :: suf,pre,last,e,hs => by
  have hlt:=j_n e
  have hx:=hL x (by rw [e];simp)
  have hrd : rd (L.map fun i : Nat => (i : Int)) (pre.length : Int) = (x : Int):=by rw [e];unfold rd;simp
  have hp2 : ∀ y ∈ suf,dN l (cpu : Int) (x : Int) ≤ dN l (cpu : Int) (y : Int):=by
   rw [e,List.pairwise_append] at hp
   exact (List.pairwise_cons.1 hp.2.1).1
  have ih:=e_L h cpu hc L hL hl8 hp suf (pre ++ [x]) (dN l (cpu : Int) (x : Int)) (g_5 e) hp2
  have hd:=h_e l (cpu : Int) (x : Int)
  rw [h,if_pos rfl,if_pos ⟨by omega,by omega⟩,if_pos ⟨by omega,by omega⟩] at hd
  refine Ev.step (fun k => by rw [a_a.l1,if_pos (by omega),if_pos (by omega),if_pos (by rw [List.length_map];omega),hrd,g_6 (x:=x) (by omega)]) ?_
  refine Ev.bind hd ?_
  have:=hs x (by simp)
  simp only [if_true,if_neg (show ¬ dN l (cpu : Int) (x : Int) < last by omega)]
  exact ih
theorem g_n (l : List S56) (h : okT l = true) (cpu : Int) (m : Nat) (hm32 : (m : Int) < 4294967296) : Ev (fun k => a_a.j1 k cpu (m : Int) false l) true:=by
 have hl:=c_V h
 refine Ev.step (fun k => by rw [a_a.j1,if_neg (by decide),h_m l (by omega) cpu m hm32,Option.bind_some]) ?_
 rw [h,if_pos rfl]
 by_cases hc : 0 ≤ cpu ∧ cpu < (l.length : Int)
 rotate_left
 ·rw [if_neg hc]
  exact Ev.now _
 rw [if_pos hc]
 by_cases hm : m < 256
 rotate_left
 ·rw [if_neg hm]
  exact Ev.now _
 rw [if_pos hm]
 obtain ⟨c,rfl⟩ : ∃ c : Nat,cpu = (c : Int):=⟨cpu.toNat,by omega⟩
 have hcl : c < l.length:=by omega
 have hin : ∀ x ∈ bktN l (c : Int) m,x < l.length:=fun x hx => (f_m.1 hx).1
 have hbl : (bktN l (c : Int) m).length ≤ 8:=by
  rw [f_k];unfold c_o
  exact Nat.le_trans (List.length_filter_le _ _) (by simp;omega)
 simp only [f_l,if_true]
 refine Ev.bind (Ev.of (a_x.mono _) (of_f (bktN l (c : Int) m) hbl (fun x hx => by have:=hin x hx;omega))) ?_
 have hlt:=d_m (fun _ => true) l
 have hand : m &&& setN (fun _ => true) l < 256:=Nat.lt_of_le_of_lt Nat.and_le_left hm
 simp only [if_true,h_b l (by omega),Option.bind_some,bits_and_u32_nat m _ (by omega : m < 2 ^ 32) (by omega : setN (fun _ => true) l < 2 ^ 32),f_7 h,e_9 _ hand,List.length_map,d_9 h (c : Int) m hm,h_V m c hm]
 have fin : Ev (fun k => a_a.j2 k (c : Int) ((bktN l (c : Int) m).map fun i : Nat => (i : Int)) false l) true:=by
  have:=e_L h c hcl (bktN l (c : Int) m) hin (by omega) (f_8 l (c : Int) m) (bktN l (c : Int) m) [] (-1) rfl (fun x _ => by have:=(b_9 l (c : Int) (x : Int)).1;omega)
  refine Ev.step (fun k => ?_) this
  rw [a_a.j2,if_neg (by decide),List.length_map]
  rfl
 cases hb : m.testBit c
 ·simp only [Bool.false_eq_true,if_false]
  exact fin
 obtain ⟨r,hr⟩:=f_6 hcl hb
 have hpos : (0 : Int) < ((pc (m &&& setN (fun _ => true) l) : Nat) : Int):=by
  rw [← d_9 h (c : Int) m hm,hr,List.length_cons];omega
 have hrd : rd ((bktN l (c : Int) m).map fun i : Nat => (i : Int)) 0 = (c : Int):=by rw [hr];rfl
 simp only [if_true,if_pos hpos,hrd,bne_self_eq_false]
 exact fin
theorem d_8 (l : List S56) (cpu a2 : Int) (h1 : wf24 ⟨l⟩) (h2 : (Lit.int .i64 cpu).wf = true) (h3 : (Lit.int .u32 a2).wf = true) : ∃ k,a_a.f k l cpu a2 = some true:=by
 have hb:=bounds_u32 h3
 obtain ⟨m,rfl⟩ : ∃ m : Nat,a2 = (m : Int):=⟨a2.toNat,by omega⟩
 refine Ev.rounds (g:=fun k => a_a.f k l cpu (m : Int)) (Ev.bind g_q ?_)
 simp only [if_true,g_7,Option.bind_some,b_W]
 generalize l.take 9 = t
 cases h : okT t
 ·exact Ev.now _
 have h0 : lowN t 0 = 0:=by
  apply c_K
  intro j
  unfold lowN
  rw [b_Y,h,Nat.zero_testBit]
  by_cases hj : j < t.length
  ·have : a_u t (j : Int) ∈ t:=by unfold a_u;simp [hj]
   have:=e_H h _ this
   rw [decide_eq_false (show ¬ (a_u t (j : Int)).f0 < ((0 : Nat) : Int) by omega)];simp
  simp [hj]
 have:=e_K t h cpu (m : Int) (g_n t h cpu m (by omega)) 4 0 rfl
 rw [h0] at this
 simp only [if_true]
 exact this
end Go.Proofs.YtcpfcehfgenljaaDoor.Pure
end
section
namespace Go.Proofs.YtcpfcehfgenljaaDoor.topoParts
open Go.ChangeShapes Go.WideShapes Go.ChangeAt Go.RowKit Go.Proofs.YtcpfcehfgenljaaDoor.Q
open Go.Proofs.YtcpfcehfgenljaaDoorW.PrintWords Go.Proofs.YtcpfcehfgenljaaDoorW.PrintLast Go.Proofs.YtcpfcehfgenljaaDoorW.PrintMore
set_option linter.unusedVariables false
set_option linter.unusedSimpArgs false
theorem h_I {W : World} (h : laidMetH Tryd.prog Rows.topoPartsRow.laid W) : b_p W:=by
 rw [MakeChecks.laidMetH_plain _ _ _ (by kernel_rfl)] at h
 have h' : laidMet Tryd.prog [("math/bits.deBruijn32tab", Lib.tabData .u8 (Lib.deBruijn32tab.map fun n : Nat => (n : Int)))] W := h
 have ht:=Lib.tabIs_of_head (g:=0) (by kernel_rfl) (by kernel_rfl) Tryd.underlying97 Tryd.underlying5 (by kernel_rfl) (by kernel_rfl) h'
 intro j hj
 have hc:=ht.cell (g:=0) (by kernel_rfl) j (by simpa using hj)
 rw [hc]
 simp only [List.getD_eq_getElem?_getD,List.getElem?_map]
 rw [List.getElem?_eq_getElem hj]
 rfl
theorem g_b (os : Os) (args : Array Value) : laidMetH Tryd.prog Rows.topoPartsRow.laid ((World.doorLaid Tryd.prog 14 os).forCall (fun _ _ => 0) ⟨#[],args,[]⟩).memory :=
 laidMetH_of_parts3 (fuel:=8) (laidMet_of_run' 8 (by kernel_rfl) (by kernel_rfl)) (by kernel_rfl) (by kernel_rfl)
set_option maxRecDepth 100000 in
theorem lifted (os : Os) (started : os.Started) (H : Type) (enc : TypeId × Value → H) :
 ReturnsInHanded {} Tryd.checked os 6 .any (fun w args => (Rows.topoPartsSpec.pre enc Tryd.prog Tryd.f6 [] false w args ∧ laidMetH Tryd.prog Rows.topoPartsRow.laid w) ∧ sizedMet enc Tryd.prog Tryd.f6 (OpenSpec.ofChange Rows.topoPartsSpec) false w args) (Rows.topoPartsSpec.post enc Tryd.prog Tryd.f6 false true false false):=by
 refine returnsInHanded_of_change_and (C:=Tryd.checked) (X:=fun w _ => laidMetH Tryd.prog Rows.topoPartsRow.laid w) (fun _ _ _ hh h => h.of_heap hh) own started (by kernel_rfl) Tryd.func6
  (ChangeSpec.witness_shaped (enc:=enc) (C:=Tryd.checked) (os:=os) (X:=fun w _ => laidMetH Tryd.prog Rows.topoPartsRow.laid w) false (World.doorLaid Tryd.prog 14 os) #[.agg #[.slice none 0 0],.int .i64 0,.int .u32 0] 8 rfl (World.shaped_of_RefB (by kernel_rfl) (by kernel_rfl)) (by kernel_rfl) (by kernel_rfl) (by kernel_rfl) (g_b os _)) ?_
 intro W base args ds gs before hval0 hW hcnd hsz0 hL _
 have hT:=h_I hL
 have hval : ∀ (j : Nat) t v,Tryd.f6.params[j]? = some t → args[j]? = some v → Value.okWide Tryd.prog W .any base t v:=hval0
 have hW':=hW
 obtain ⟨p,q,hA0,hV,rfl,hfz,hnd⟩:=hW
 have hA : DataW.TrodAll enc Tryd.prog W 0 (fun _ => true) true Tryd.f6.params.toList args.toList ds p:=hA0
 rw [Tryd.params6] at hA hval
 obtain ⟨v0,vs0,d0,ds0,p0,q0,hargs,rfl,rfl,h0,r0⟩:=trodAll_cons hA
 obtain ⟨v1,vs1,d1,ds1,p1,q1,rfl,rfl,rfl,h1,r1⟩:=trodAll_cons r0
 obtain ⟨v2,vs2,d2,ds2,p2,q2,rfl,rfl,rfl,h2,r2⟩:=trodAll_cons r1
 obtain ⟨rfl,rfl,rfl⟩:=trodAll_nil r2
 obtain rfl : args = #[v0,v1,v2]:=by cases args;simp_all
 obtain ⟨rfl,rfl⟩:=trodVars_none hV
 have k0:=h0
 have lt0 : ∀ x ∈ p0,x.block < W.heap.size:=by obtain ⟨m,hm⟩:=k0;exact DataW.trod_lt m _ _ _ hm
 obtain ⟨cs0,rfl,hz0⟩:=okWide_struct Tryd.underlying24 (hval 0 24 v0 rfl rfl)
 obtain ⟨fuel0,hf0⟩:=h0
 obtain ⟨x0,hK0,wf0_⟩:=op24.open_ hf0
 obtain ⟨A0_0,c0_0,he0,hc0_0,hr0_0⟩:=g_g hK0
 have hq0:=toList_eq he0
 simp only [Value.cells] at hq0
 subst hq0
 obtain ⟨a1,rfl,rfl,rfl,w1⟩:=open_int Tryd.underlying3 (hval 1 3 v1 rfl rfl) h1
 obtain ⟨a2,rfl,rfl,rfl,w2⟩:=open_int Tryd.underlying45 (hval 2 45 v2 rfl rfl) h2
 obtain ⟨K,hK⟩:=Pure.d_8 x0.f0 a1 a2 wf0_ w1 w2
 refine (a_a.calls _ _ _ _ _ _ _ _ hr0_0 hc0_0 hT hK).mono fun e W' ⟨he,bel⟩ => ?_
 subst he
 exact ⟨_,rfl,_,_,_,[],_,[],hW',trodAll_mk1 (shut_bool Tryd.underlying4 _),(trodAll_cons_mk (Below.trod laidOut (by kernel_rfl) (of_decide_eq_true (by kernel_rfl)) k0 bel lt0) (trodAll_cons_mk (shut_int Tryd.underlying3 w1) (trodAll_cons_mk (shut_int Tryd.underlying45 w2) trodAll_mk0))),rfl,bel.frame _,fun h => by cases h⟩
theorem over : Rows.topoPartsRow.holds Tryd.pinned (OpenSpec.ofChange Rows.topoPartsSpec) :=
 OpenClaim.holds_of_wide 6 Tryd.f6 rfl rfl rfl rfl rfl rfl rfl ⟨rfl,rfl,rfl,rfl,rfl⟩ rfl rfl rfl rfl rfl (by kernel_rfl) Tryd.func6 (by kernel_rfl)
  (of_decide_eq_true (by kernel_rfl)) (by unfold Func.isWrapper;first|(rw [if_pos (by decide +kernel)];kernel_rfl)|(rw [if_neg (by decide +kernel)];exact ⟨rfl,rfl⟩))
  (fun os started H enc _ => lifted os started H enc)
theorem i_a : Rows.TopoPartsCardSaid :=
 Claim7.holds_tied_plain_at .later [] [.data] true (true, "6dbd2b49adb5acd0b183bc1951f3d41c819263b5044b5d85a2e1d0af7c9bdaaa") false
  over (fun _ h => by cases h) (by kernel_rfl) (fun _ h => by cases h) topoParts_row_tie rfl ⟨rfl,rfl⟩ (by kernel_rfl) rfl
  (fun f fn hf hfn => by
   obtain rfl : f = 6 := Option.some.inj ((show Tryd.prog.funcNamed "mainsheet/mainsheetlaw06.TopoParts" = some 6 by kernel_rfl).symm.trans hf) |>.symm
   obtain rfl : fn = Tryd.f6:=(Option.some.inj (Tryd.func6.symm.trans hfn)).symm
   exact ⟨by kernel_rfl,fun j t ht => by
    rw [Tryd.params6] at ht
    rcases j with _|_|_|j
    ·obtain rfl : 24 = t:=by simpa using ht
     exact (show Tryd.prog.wantsStandIn 24 = false by kernel_rfl)
    ·obtain rfl : 3 = t:=by simpa using ht
     exact (show Tryd.prog.wantsStandIn 3 = false by kernel_rfl)
    ·obtain rfl : 45 = t:=by simpa using ht
     exact (show Tryd.prog.wantsStandIn 45 = false by kernel_rfl)
    ·simp at ht⟩)
  (by kernel_rfl)
theorem proved : Rows.TopoPartsCardSaid:=i_a
#print axioms proved
end Go.Proofs.YtcpfcehfgenljaaDoor.topoParts
namespace Go.Proofs.YtcpfcehfgenljaaDoor
theorem topoParts_holds : Rows.TopoPartsCardSaid:=topoParts.proved
end Go.Proofs.YtcpfcehfgenljaaDoor
end
