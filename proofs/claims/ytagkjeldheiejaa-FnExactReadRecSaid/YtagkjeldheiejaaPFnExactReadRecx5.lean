-- Written for this claim by a program of mine (a turned copy of the kit's print): functions as plain Lean, and their contracts. Lean checks it.
import Derived.Test.YtagkjeldheiejaaPFnExactReadRecx0
import Derived.Test.YtagkjeldheiejaaPFnExactReadRecx2
import Derived.Test.YtagkjeldheiejaaPFnExactReadRecx4
import Derived.Test.YtagkjeldheiejaaVFnExactReadRec1
namespace Go.Proofs.Ytagkjeldheiejaa.PFnExactReadRec
open Go.RowKit Go.Proofs.YtagkjeldheiejaaW.PrintWords Go.Proofs.YtagkjeldheiejaaW.PrintLast Go.Proofs.YtagkjeldheiejaaW.PrintMore
attribute [local go_sem] max2_int min2_int max_two min_two max_three min_three max_four min_four   -- for this text's walks alone
set_option linter.unusedVariables false
set_option linter.unusedSimpArgs false

/-! ### spec_RecOk: function 27 -/
def spec_RecOk.f (k : Nat) (a0_0 : Int) (a0_1 : Int) (a0_2 : Int) (a0_3 : Int) (a0_4 : Int) (a0_5 : ByteArray) (a0_6 : ByteArray) (a0_7 : ByteArray) : Option (Bool) := (spec_l01In.f a0_0 1 5).bind fun t123 => (if t123 = true then ((spec_l01In.f a0_1 1 9999).bind fun t124 => (if t124 = true then (if a0_0 = 3 then (if a0_0 = 1 then ((spec_WordOk.f k a0_5).bind fun t125 => (if t125 = true then ((spec_WordOk.f k a0_6).bind fun t126 => (if t126 = true then ((spec_l01In.f a0_3 1 10000).bind fun t127 => (if t127 = true then ((spec_l01In.f a0_2 1 9999).bind fun t128 => (if t128 = true then ((spec_l01In.f a0_4 0 7).bind fun t129 => (if t129 = true then (some (decide ((a0_7.size : Int) ≤ 100))) else (some false))) else (some false))) else (some false))) else (some false))) else (some false))) else (if a0_5.toList = ([] : List UInt8) then (if a0_6.toList = ([] : List UInt8) then (if a0_3 = 0 then ((spec_l01In.f a0_2 1 9999).bind fun t130 => (if t130 = true then ((spec_l01In.f a0_4 0 7).bind fun t131 => (if t131 = true then (some (decide ((a0_7.size : Int) ≤ 100))) else (some false))) else (some false))) else (some false)) else (some false)) else (some false))) else (if a0_0 = 4 then (if a0_0 = 1 then ((spec_WordOk.f k a0_5).bind fun t132 => (if t132 = true then ((spec_WordOk.f k a0_6).bind fun t133 => (if t133 = true then ((spec_l01In.f a0_3 1 10000).bind fun t134 => (if t134 = true then ((spec_l01In.f a0_2 1 9999).bind fun t135 => (if t135 = true then ((spec_l01In.f a0_4 0 7).bind fun t136 => (if t136 = true then (some (a0_7.toList == ([] : List UInt8))) else (some false))) else (some false))) else (some false))) else (some false))) else (some false))) else (if a0_5.toList = ([] : List UInt8) then (if a0_6.toList = ([] : List UInt8) then (if a0_3 = 0 then ((spec_l01In.f a0_2 1 9999).bind fun t137 => (if t137 = true then ((spec_l01In.f a0_4 0 7).bind fun t138 => (if t138 = true then (some (a0_7.toList == ([] : List UInt8))) else (some false))) else (some false))) else (some false)) else (some false)) else (some false))) else (if a0_0 = 1 then ((spec_WordOk.f k a0_5).bind fun t139 => (if t139 = true then ((spec_WordOk.f k a0_6).bind fun t140 => (if t140 = true then ((spec_l01In.f a0_3 1 10000).bind fun t141 => (if t141 = true then (if a0_0 = 5 then ((spec_l01In.f a0_2 1 9999).bind fun t142 => (if t142 = true then (if a0_4 = 0 then (some (a0_7.toList == ([] : List UInt8))) else (some false)) else (some false))) else (if a0_2 = 0 then (if a0_4 = 0 then (some (a0_7.toList == ([] : List UInt8))) else (some false)) else (some false))) else (some false))) else (some false))) else (some false))) else (if a0_5.toList = ([] : List UInt8) then (if a0_6.toList = ([] : List UInt8) then (if a0_3 = 0 then (if a0_0 = 5 then ((spec_l01In.f a0_2 1 9999).bind fun t143 => (if t143 = true then (if a0_4 = 0 then (some (a0_7.toList == ([] : List UInt8))) else (some false)) else (some false))) else (if a0_2 = 0 then (if a0_4 = 0 then (some (a0_7.toList == ([] : List UInt8))) else (some false)) else (some false))) else (some false)) else (some false)) else (some false))))) else (some false))) else (some false))
theorem spec_RecOk.mono : ∀ a0 a1 a2 a3 a4 a5 a6 a7 k, LeO (spec_RecOk.f k a0 a1 a2 a3 a4 a5 a6 a7) (spec_RecOk.f (k + 1) a0 a1 a2 a3 a4 a5 a6 a7) := by
 intro a0 a1 a2 a3 a4 a5 a6 a7 k
 unfold spec_RecOk.f
 repeat' first
   | (with_reducible exact spec_WordOk.mono _ _)
   | (with_reducible exact LeO.refl _)
   | (with_reducible exact LeO.none _)
   | (with_reducible refine LeO.ite ?_ ?_)
   | (with_reducible refine LeO.bind ?_ (fun _ => ?_))
   | exact spec_WordOk.mono _ _
   | exact LeO.none _
   | refine LeO.ite ?_ ?_
   | refine LeO.bind ?_ (fun _ => ?_)
set_option maxHeartbeats 8000000 in
set_option maxRecDepth 100000 in
theorem spec_RecOk.calls (k : Nat) (a0_0 : Int) (a0_1 : Int) (a0_2 : Int) (a0_3 : Int) (a0_4 : Int) (a0_5 : ByteArray) (a0_6 : ByteArray) (a0_7 : ByteArray) (r : Bool) (w : World) (h : spec_RecOk.f k a0_0 a0_1 a0_2 a0_3 a0_4 a0_5 a0_6 a0_7 = some r) :
  Calls Try.prog 27 #[.agg #[.int .i64 a0_0, .int .i64 a0_1, .int .i64 a0_2, .int .i64 a0_3, .int .i64 a0_4, .string a0_5, .string a0_6, .string a0_7]] w fun e w' => e = .returned (.bool r) ∧ Below w.heap.size w w' := by
 have hu23 := Try.underlying23
 have HB := ak (Below.refl w.heap.size w)
 have H : ((spec_l01In.f a0_0 1 5).bind fun t123 => (if t123 = true then ((spec_l01In.f a0_1 1 9999).bind fun t124 => (if t124 = true then (if a0_0 = 3 then (if a0_0 = 1 then ((spec_WordOk.f k a0_5).bind fun t125 => (if t125 = true then ((spec_WordOk.f k a0_6).bind fun t126 => (if t126 = true then ((spec_l01In.f a0_3 1 10000).bind fun t127 => (if t127 = true then ((spec_l01In.f a0_2 1 9999).bind fun t128 => (if t128 = true then ((spec_l01In.f a0_4 0 7).bind fun t129 => (if t129 = true then (some (decide ((a0_7.size : Int) ≤ 100))) else (some false))) else (some false))) else (some false))) else (some false))) else (some false))) else (if a0_5.toList = ([] : List UInt8) then (if a0_6.toList = ([] : List UInt8) then (if a0_3 = 0 then ((spec_l01In.f a0_2 1 9999).bind fun t130 => (if t130 = true then ((spec_l01In.f a0_4 0 7).bind fun t131 => (if t131 = true then (some (decide ((a0_7.size : Int) ≤ 100))) else (some false))) else (some false))) else (some false)) else (some false)) else (some false))) else (if a0_0 = 4 then (if a0_0 = 1 then ((spec_WordOk.f k a0_5).bind fun t132 => (if t132 = true then ((spec_WordOk.f k a0_6).bind fun t133 => (if t133 = true then ((spec_l01In.f a0_3 1 10000).bind fun t134 => (if t134 = true then ((spec_l01In.f a0_2 1 9999).bind fun t135 => (if t135 = true then ((spec_l01In.f a0_4 0 7).bind fun t136 => (if t136 = true then (some (a0_7.toList == ([] : List UInt8))) else (some false))) else (some false))) else (some false))) else (some false))) else (some false))) else (if a0_5.toList = ([] : List UInt8) then (if a0_6.toList = ([] : List UInt8) then (if a0_3 = 0 then ((spec_l01In.f a0_2 1 9999).bind fun t137 => (if t137 = true then ((spec_l01In.f a0_4 0 7).bind fun t138 => (if t138 = true then (some (a0_7.toList == ([] : List UInt8))) else (some false))) else (some false))) else (some false)) else (some false)) else (some false))) else (if a0_0 = 1 then ((spec_WordOk.f k a0_5).bind fun t139 => (if t139 = true then ((spec_WordOk.f k a0_6).bind fun t140 => (if t140 = true then ((spec_l01In.f a0_3 1 10000).bind fun t141 => (if t141 = true then (if a0_0 = 5 then ((spec_l01In.f a0_2 1 9999).bind fun t142 => (if t142 = true then (if a0_4 = 0 then (some (a0_7.toList == ([] : List UInt8))) else (some false)) else (some false))) else (if a0_2 = 0 then (if a0_4 = 0 then (some (a0_7.toList == ([] : List UInt8))) else (some false)) else (some false))) else (some false))) else (some false))) else (some false))) else (if a0_5.toList = ([] : List UInt8) then (if a0_6.toList = ([] : List UInt8) then (if a0_3 = 0 then (if a0_0 = 5 then ((spec_l01In.f a0_2 1 9999).bind fun t143 => (if t143 = true then (if a0_4 = 0 then (some (a0_7.toList == ([] : List UInt8))) else (some false)) else (some false))) else (if a0_2 = 0 then (if a0_4 = 0 then (some (a0_7.toList == ([] : List UInt8))) else (some false)) else (some false))) else (some false)) else (some false)) else (some false))))) else (some false))) else (some false))) = some r := h
 clear h
 replace H := Option.bind_eq_some_iff.mp H
 obtain ⟨t123, A20, H⟩ := H
 replace H : (if t123 = true then ((spec_l01In.f a0_1 1 9999).bind fun t124 => (if t124 = true then (if a0_0 = 3 then (if a0_0 = 1 then ((spec_WordOk.f k a0_5).bind fun t125 => (if t125 = true then ((spec_WordOk.f k a0_6).bind fun t126 => (if t126 = true then ((spec_l01In.f a0_3 1 10000).bind fun t127 => (if t127 = true then ((spec_l01In.f a0_2 1 9999).bind fun t128 => (if t128 = true then ((spec_l01In.f a0_4 0 7).bind fun t129 => (if t129 = true then (some (decide ((a0_7.size : Int) ≤ 100))) else (some false))) else (some false))) else (some false))) else (some false))) else (some false))) else (if a0_5.toList = ([] : List UInt8) then (if a0_6.toList = ([] : List UInt8) then (if a0_3 = 0 then ((spec_l01In.f a0_2 1 9999).bind fun t130 => (if t130 = true then ((spec_l01In.f a0_4 0 7).bind fun t131 => (if t131 = true then (some (decide ((a0_7.size : Int) ≤ 100))) else (some false))) else (some false))) else (some false)) else (some false)) else (some false))) else (if a0_0 = 4 then (if a0_0 = 1 then ((spec_WordOk.f k a0_5).bind fun t132 => (if t132 = true then ((spec_WordOk.f k a0_6).bind fun t133 => (if t133 = true then ((spec_l01In.f a0_3 1 10000).bind fun t134 => (if t134 = true then ((spec_l01In.f a0_2 1 9999).bind fun t135 => (if t135 = true then ((spec_l01In.f a0_4 0 7).bind fun t136 => (if t136 = true then (some (a0_7.toList == ([] : List UInt8))) else (some false))) else (some false))) else (some false))) else (some false))) else (some false))) else (if a0_5.toList = ([] : List UInt8) then (if a0_6.toList = ([] : List UInt8) then (if a0_3 = 0 then ((spec_l01In.f a0_2 1 9999).bind fun t137 => (if t137 = true then ((spec_l01In.f a0_4 0 7).bind fun t138 => (if t138 = true then (some (a0_7.toList == ([] : List UInt8))) else (some false))) else (some false))) else (some false)) else (some false)) else (some false))) else (if a0_0 = 1 then ((spec_WordOk.f k a0_5).bind fun t139 => (if t139 = true then ((spec_WordOk.f k a0_6).bind fun t140 => (if t140 = true then ((spec_l01In.f a0_3 1 10000).bind fun t141 => (if t141 = true then (if a0_0 = 5 then ((spec_l01In.f a0_2 1 9999).bind fun t142 => (if t142 = true then (if a0_4 = 0 then (some (a0_7.toList == ([] : List UInt8))) else (some false)) else (some false))) else (if a0_2 = 0 then (if a0_4 = 0 then (some (a0_7.toList == ([] : List UInt8))) else (some false)) else (some false))) else (some false))) else (some false))) else (some false))) else (if a0_5.toList = ([] : List UInt8) then (if a0_6.toList = ([] : List UInt8) then (if a0_3 = 0 then (if a0_0 = 5 then ((spec_l01In.f a0_2 1 9999).bind fun t143 => (if t143 = true then (if a0_4 = 0 then (some (a0_7.toList == ([] : List UInt8))) else (some false)) else (some false))) else (if a0_2 = 0 then (if a0_4 = 0 then (some (a0_7.toList == ([] : List UInt8))) else (some false)) else (some false))) else (some false)) else (some false)) else (some false))))) else (some false))) else (some false)) = some r := H
 have A2 := Aside0.mk A20
 clear A20
 by_cases c3 : t123 = true
 ·subst c3
  have H1 : ((spec_l01In.f a0_1 1 9999).bind fun t124 => (if t124 = true then (if a0_0 = 3 then (if a0_0 = 1 then ((spec_WordOk.f k a0_5).bind fun t125 => (if t125 = true then ((spec_WordOk.f k a0_6).bind fun t126 => (if t126 = true then ((spec_l01In.f a0_3 1 10000).bind fun t127 => (if t127 = true then ((spec_l01In.f a0_2 1 9999).bind fun t128 => (if t128 = true then ((spec_l01In.f a0_4 0 7).bind fun t129 => (if t129 = true then (some (decide ((a0_7.size : Int) ≤ 100))) else (some false))) else (some false))) else (some false))) else (some false))) else (some false))) else (if a0_5.toList = ([] : List UInt8) then (if a0_6.toList = ([] : List UInt8) then (if a0_3 = 0 then ((spec_l01In.f a0_2 1 9999).bind fun t130 => (if t130 = true then ((spec_l01In.f a0_4 0 7).bind fun t131 => (if t131 = true then (some (decide ((a0_7.size : Int) ≤ 100))) else (some false))) else (some false))) else (some false)) else (some false)) else (some false))) else (if a0_0 = 4 then (if a0_0 = 1 then ((spec_WordOk.f k a0_5).bind fun t132 => (if t132 = true then ((spec_WordOk.f k a0_6).bind fun t133 => (if t133 = true then ((spec_l01In.f a0_3 1 10000).bind fun t134 => (if t134 = true then ((spec_l01In.f a0_2 1 9999).bind fun t135 => (if t135 = true then ((spec_l01In.f a0_4 0 7).bind fun t136 => (if t136 = true then (some (a0_7.toList == ([] : List UInt8))) else (some false))) else (some false))) else (some false))) else (some false))) else (some false))) else (if a0_5.toList = ([] : List UInt8) then (if a0_6.toList = ([] : List UInt8) then (if a0_3 = 0 then ((spec_l01In.f a0_2 1 9999).bind fun t137 => (if t137 = true then ((spec_l01In.f a0_4 0 7).bind fun t138 => (if t138 = true then (some (a0_7.toList == ([] : List UInt8))) else (some false))) else (some false))) else (some false)) else (some false)) else (some false))) else (if a0_0 = 1 then ((spec_WordOk.f k a0_5).bind fun t139 => (if t139 = true then ((spec_WordOk.f k a0_6).bind fun t140 => (if t140 = true then ((spec_l01In.f a0_3 1 10000).bind fun t141 => (if t141 = true then (if a0_0 = 5 then ((spec_l01In.f a0_2 1 9999).bind fun t142 => (if t142 = true then (if a0_4 = 0 then (some (a0_7.toList == ([] : List UInt8))) else (some false)) else (some false))) else (if a0_2 = 0 then (if a0_4 = 0 then (some (a0_7.toList == ([] : List UInt8))) else (some false)) else (some false))) else (some false))) else (some false))) else (some false))) else (if a0_5.toList = ([] : List UInt8) then (if a0_6.toList = ([] : List UInt8) then (if a0_3 = 0 then (if a0_0 = 5 then ((spec_l01In.f a0_2 1 9999).bind fun t143 => (if t143 = true then (if a0_4 = 0 then (some (a0_7.toList == ([] : List UInt8))) else (some false)) else (some false))) else (if a0_2 = 0 then (if a0_4 = 0 then (some (a0_7.toList == ([] : List UInt8))) else (some false)) else (some false))) else (some false)) else (some false)) else (some false))))) else (some false))) = some r := by rw [if_pos rfl] at H; exact H
  clear H
  have H := H1
  clear H1
  replace H := Option.bind_eq_some_iff.mp H
  obtain ⟨t124, A40, H⟩ := H
  replace H : (if t124 = true then (if a0_0 = 3 then (if a0_0 = 1 then ((spec_WordOk.f k a0_5).bind fun t125 => (if t125 = true then ((spec_WordOk.f k a0_6).bind fun t126 => (if t126 = true then ((spec_l01In.f a0_3 1 10000).bind fun t127 => (if t127 = true then ((spec_l01In.f a0_2 1 9999).bind fun t128 => (if t128 = true then ((spec_l01In.f a0_4 0 7).bind fun t129 => (if t129 = true then (some (decide ((a0_7.size : Int) ≤ 100))) else (some false))) else (some false))) else (some false))) else (some false))) else (some false))) else (if a0_5.toList = ([] : List UInt8) then (if a0_6.toList = ([] : List UInt8) then (if a0_3 = 0 then ((spec_l01In.f a0_2 1 9999).bind fun t130 => (if t130 = true then ((spec_l01In.f a0_4 0 7).bind fun t131 => (if t131 = true then (some (decide ((a0_7.size : Int) ≤ 100))) else (some false))) else (some false))) else (some false)) else (some false)) else (some false))) else (if a0_0 = 4 then (if a0_0 = 1 then ((spec_WordOk.f k a0_5).bind fun t132 => (if t132 = true then ((spec_WordOk.f k a0_6).bind fun t133 => (if t133 = true then ((spec_l01In.f a0_3 1 10000).bind fun t134 => (if t134 = true then ((spec_l01In.f a0_2 1 9999).bind fun t135 => (if t135 = true then ((spec_l01In.f a0_4 0 7).bind fun t136 => (if t136 = true then (some (a0_7.toList == ([] : List UInt8))) else (some false))) else (some false))) else (some false))) else (some false))) else (some false))) else (if a0_5.toList = ([] : List UInt8) then (if a0_6.toList = ([] : List UInt8) then (if a0_3 = 0 then ((spec_l01In.f a0_2 1 9999).bind fun t137 => (if t137 = true then ((spec_l01In.f a0_4 0 7).bind fun t138 => (if t138 = true then (some (a0_7.toList == ([] : List UInt8))) else (some false))) else (some false))) else (some false)) else (some false)) else (some false))) else (if a0_0 = 1 then ((spec_WordOk.f k a0_5).bind fun t139 => (if t139 = true then ((spec_WordOk.f k a0_6).bind fun t140 => (if t140 = true then ((spec_l01In.f a0_3 1 10000).bind fun t141 => (if t141 = true then (if a0_0 = 5 then ((spec_l01In.f a0_2 1 9999).bind fun t142 => (if t142 = true then (if a0_4 = 0 then (some (a0_7.toList == ([] : List UInt8))) else (some false)) else (some false))) else (if a0_2 = 0 then (if a0_4 = 0 then (some (a0_7.toList == ([] : List UInt8))) else (some false)) else (some false))) else (some false))) else (some false))) else (some false))) else (if a0_5.toList = ([] : List UInt8) then (if a0_6.toList = ([] : List UInt8) then (if a0_3 = 0 then (if a0_0 = 5 then ((spec_l01In.f a0_2 1 9999).bind fun t143 => (if t143 = true then (if a0_4 = 0 then (some (a0_7.toList == ([] : List UInt8))) else (some false)) else (some false))) else (if a0_2 = 0 then (if a0_4 = 0 then (some (a0_7.toList == ([] : List UInt8))) else (some false)) else (some false))) else (some false)) else (some false)) else (some false))))) else (some false)) = some r := H
  have A4 := Aside0.mk A40
  clear A40
  by_cases c5 : t124 = true
  ·subst c5
   have H1 : (if a0_0 = 3 then (if a0_0 = 1 then ((spec_WordOk.f k a0_5).bind fun t125 => (if t125 = true then ((spec_WordOk.f k a0_6).bind fun t126 => (if t126 = true then ((spec_l01In.f a0_3 1 10000).bind fun t127 => (if t127 = true then ((spec_l01In.f a0_2 1 9999).bind fun t128 => (if t128 = true then ((spec_l01In.f a0_4 0 7).bind fun t129 => (if t129 = true then (some (decide ((a0_7.size : Int) ≤ 100))) else (some false))) else (some false))) else (some false))) else (some false))) else (some false))) else (if a0_5.toList = ([] : List UInt8) then (if a0_6.toList = ([] : List UInt8) then (if a0_3 = 0 then ((spec_l01In.f a0_2 1 9999).bind fun t130 => (if t130 = true then ((spec_l01In.f a0_4 0 7).bind fun t131 => (if t131 = true then (some (decide ((a0_7.size : Int) ≤ 100))) else (some false))) else (some false))) else (some false)) else (some false)) else (some false))) else (if a0_0 = 4 then (if a0_0 = 1 then ((spec_WordOk.f k a0_5).bind fun t132 => (if t132 = true then ((spec_WordOk.f k a0_6).bind fun t133 => (if t133 = true then ((spec_l01In.f a0_3 1 10000).bind fun t134 => (if t134 = true then ((spec_l01In.f a0_2 1 9999).bind fun t135 => (if t135 = true then ((spec_l01In.f a0_4 0 7).bind fun t136 => (if t136 = true then (some (a0_7.toList == ([] : List UInt8))) else (some false))) else (some false))) else (some false))) else (some false))) else (some false))) else (if a0_5.toList = ([] : List UInt8) then (if a0_6.toList = ([] : List UInt8) then (if a0_3 = 0 then ((spec_l01In.f a0_2 1 9999).bind fun t137 => (if t137 = true then ((spec_l01In.f a0_4 0 7).bind fun t138 => (if t138 = true then (some (a0_7.toList == ([] : List UInt8))) else (some false))) else (some false))) else (some false)) else (some false)) else (some false))) else (if a0_0 = 1 then ((spec_WordOk.f k a0_5).bind fun t139 => (if t139 = true then ((spec_WordOk.f k a0_6).bind fun t140 => (if t140 = true then ((spec_l01In.f a0_3 1 10000).bind fun t141 => (if t141 = true then (if a0_0 = 5 then ((spec_l01In.f a0_2 1 9999).bind fun t142 => (if t142 = true then (if a0_4 = 0 then (some (a0_7.toList == ([] : List UInt8))) else (some false)) else (some false))) else (if a0_2 = 0 then (if a0_4 = 0 then (some (a0_7.toList == ([] : List UInt8))) else (some false)) else (some false))) else (some false))) else (some false))) else (some false))) else (if a0_5.toList = ([] : List UInt8) then (if a0_6.toList = ([] : List UInt8) then (if a0_3 = 0 then (if a0_0 = 5 then ((spec_l01In.f a0_2 1 9999).bind fun t143 => (if t143 = true then (if a0_4 = 0 then (some (a0_7.toList == ([] : List UInt8))) else (some false)) else (some false))) else (if a0_2 = 0 then (if a0_4 = 0 then (some (a0_7.toList == ([] : List UInt8))) else (some false)) else (some false))) else (some false)) else (some false)) else (some false))))) = some r := by rw [if_pos rfl] at H; exact H
   clear H
   have H := H1
   clear H1
   by_cases c6 : a0_0 = 3
   ·rw [if_pos c6] at H
    have c6b0 : (a0_0 == 3) = true := beq_iff_eq.mpr c6
    have c6b1 : (a0_0 != 3) = false := bne_eq_false_iff_eq.mpr c6
    clear c6
    by_cases c7 : a0_0 = 1
    ·rw [if_pos c7] at H
     have c7b0 : (a0_0 == 1) = true := beq_iff_eq.mpr c7
     have c7b1 : (a0_0 != 1) = false := bne_eq_false_iff_eq.mpr c7
     clear c7
     replace H := Option.bind_eq_some_iff.mp H
     obtain ⟨t125, A80, H⟩ := H
     replace H : (if t125 = true then ((spec_WordOk.f k a0_6).bind fun t126 => (if t126 = true then ((spec_l01In.f a0_3 1 10000).bind fun t127 => (if t127 = true then ((spec_l01In.f a0_2 1 9999).bind fun t128 => (if t128 = true then ((spec_l01In.f a0_4 0 7).bind fun t129 => (if t129 = true then (some (decide ((a0_7.size : Int) ≤ 100))) else (some false))) else (some false))) else (some false))) else (some false))) else (some false)) = some r := H
     have A8 := Aside0.mk A80
     clear A80
     by_cases c9 : t125 = true
     ·subst c9
      have H1 : ((spec_WordOk.f k a0_6).bind fun t126 => (if t126 = true then ((spec_l01In.f a0_3 1 10000).bind fun t127 => (if t127 = true then ((spec_l01In.f a0_2 1 9999).bind fun t128 => (if t128 = true then ((spec_l01In.f a0_4 0 7).bind fun t129 => (if t129 = true then (some (decide ((a0_7.size : Int) ≤ 100))) else (some false))) else (some false))) else (some false))) else (some false))) = some r := by rw [if_pos rfl] at H; exact H
      clear H
      have H := H1
      clear H1
      replace H := Option.bind_eq_some_iff.mp H
      obtain ⟨t126, A100, H⟩ := H
      replace H : (if t126 = true then ((spec_l01In.f a0_3 1 10000).bind fun t127 => (if t127 = true then ((spec_l01In.f a0_2 1 9999).bind fun t128 => (if t128 = true then ((spec_l01In.f a0_4 0 7).bind fun t129 => (if t129 = true then (some (decide ((a0_7.size : Int) ≤ 100))) else (some false))) else (some false))) else (some false))) else (some false)) = some r := H
      have A10 := Aside0.mk A100
      clear A100
      by_cases c11 : t126 = true
      ·subst c11
       have H1 : ((spec_l01In.f a0_3 1 10000).bind fun t127 => (if t127 = true then ((spec_l01In.f a0_2 1 9999).bind fun t128 => (if t128 = true then ((spec_l01In.f a0_4 0 7).bind fun t129 => (if t129 = true then (some (decide ((a0_7.size : Int) ≤ 100))) else (some false))) else (some false))) else (some false))) = some r := by rw [if_pos rfl] at H; exact H
       clear H
       have H := H1
       clear H1
       replace H := Option.bind_eq_some_iff.mp H
       obtain ⟨t127, A120, H⟩ := H
       replace H : (if t127 = true then ((spec_l01In.f a0_2 1 9999).bind fun t128 => (if t128 = true then ((spec_l01In.f a0_4 0 7).bind fun t129 => (if t129 = true then (some (decide ((a0_7.size : Int) ≤ 100))) else (some false))) else (some false))) else (some false)) = some r := H
       have A12 := Aside0.mk A120
       clear A120
       by_cases c13 : t127 = true
       ·subst c13
        have H1 : ((spec_l01In.f a0_2 1 9999).bind fun t128 => (if t128 = true then ((spec_l01In.f a0_4 0 7).bind fun t129 => (if t129 = true then (some (decide ((a0_7.size : Int) ≤ 100))) else (some false))) else (some false))) = some r := by rw [if_pos rfl] at H; exact H
        clear H
        have H := H1
        clear H1
        replace H := Option.bind_eq_some_iff.mp H
        obtain ⟨t128, A140, H⟩ := H
        replace H : (if t128 = true then ((spec_l01In.f a0_4 0 7).bind fun t129 => (if t129 = true then (some (decide ((a0_7.size : Int) ≤ 100))) else (some false))) else (some false)) = some r := H
        have A14 := Aside0.mk A140
        clear A140
        by_cases c15 : t128 = true
        ·subst c15
         have H1 : ((spec_l01In.f a0_4 0 7).bind fun t129 => (if t129 = true then (some (decide ((a0_7.size : Int) ≤ 100))) else (some false))) = some r := by rw [if_pos rfl] at H; exact H
         clear H
         have H := H1
         clear H1
         replace H := Option.bind_eq_some_iff.mp H
         obtain ⟨t129, A160, H⟩ := H
         replace H : (if t129 = true then (some (decide ((a0_7.size : Int) ≤ 100))) else (some false)) = some r := H
         have A16 := Aside0.mk A160
         clear A160
         by_cases c17 : t129 = true
         ·subst c17
          have H1 : (some (decide ((a0_7.size : Int) ≤ 100))) = some r := by rw [if_pos rfl] at H; exact H
          clear H
          have H := H1
          clear H1
          obtain rfl := Option.some.inj H
          go_enter Try.func27, Try.ntmps27
          go_wp2_with (first | ((with_reducible refine gate_dst (N := 1) rfl ?_); refine bx 1 #[.int .i64 a0_0, .int .i64 a0_1, .int .i64 a0_2, .int .i64 a0_3, .int .i64 a0_4, .string a0_5, .string a0_6, .string a0_7] 23 ?_; intro gb122 hg w18 hbox hb; replace BK122 := ak (hbox); replace GW122 := ak (bz hg (lG HB)); replace GE122 := ak (bz hg (lG HB)); replace HB := lB HB hb; clear hb hbox hg; have hcz19_0 : w18.cell? ⟨gb122, 0, none⟩ = some (.int .i64 a0_0) := bc BK122 0; have hcz19_1 : w18.cell? ⟨gb122, 1, none⟩ = some (.int .i64 a0_1) := bc BK122 1; have hcz19_2 : w18.cell? ⟨gb122, 2, none⟩ = some (.int .i64 a0_2) := bc BK122 2; have hcz19_3 : w18.cell? ⟨gb122, 3, none⟩ = some (.int .i64 a0_3) := bc BK122 3; have hcz19_4 : w18.cell? ⟨gb122, 4, none⟩ = some (.int .i64 a0_4) := bc BK122 4; have hcz19_5 : w18.cell? ⟨gb122, 5, none⟩ = some (.string a0_5) := bc BK122 5; have hcz19_6 : w18.cell? ⟨gb122, 6, none⟩ = some (.string a0_6) := bc BK122 6; have hcz19_7 : w18.cell? ⟨gb122, 7, none⟩ = some (.string a0_7) := bc BK122 7; have hfz19_0 := blk_frozen BK122.out 0; have hfz19_1 := blk_frozen BK122.out 1; have hfz19_2 := blk_frozen BK122.out 2; have hfz19_3 := blk_frozen BK122.out 3; have hfz19_4 := blk_frozen BK122.out 4; have hfz19_5 := blk_frozen BK122.out 5; have hfz19_6 := blk_frozen BK122.out 6; have hfz19_7 := blk_frozen BK122.out 7) | ((with_reducible refine gate_callee (f := 61) rfl ?_); refine gl (some 8) Try.func61 #[.int .i64 a0_0, .int .i64 1, .int .i64 5] ?_; (with_reducible refine (spec_l01In.calls a0_0 1 5 true _ A2.out).mono ?_); rintro e w' ⟨rfl, ⟨nd, rfl⟩⟩; refine ⟨_, rfl, ?_⟩) | (go_at_call 61; (with_reducible refine (spec_l01In.calls a0_1 1 9999 true _ A4.out).mono ?_); rintro e w' ⟨rfl, ⟨nd, rfl⟩⟩) | (go_at_call 32; (with_reducible refine (spec_WordOk.calls k a0_5 true _ A8.out).mono ?_); rintro e w' ⟨rfl, ⟨nd, rfl⟩⟩) | (go_at_call 32; (with_reducible refine (spec_WordOk.calls k a0_6 true _ A10.out).mono ?_); rintro e w' ⟨rfl, ⟨nd, rfl⟩⟩) | (go_at_call 61; (with_reducible refine (spec_l01In.calls a0_3 1 10000 true _ A12.out).mono ?_); rintro e w' ⟨rfl, ⟨nd, rfl⟩⟩) | (go_at_call 61; (with_reducible refine (spec_l01In.calls a0_2 1 9999 true _ A14.out).mono ?_); rintro e w' ⟨rfl, ⟨nd, rfl⟩⟩) | (go_at_call 61; (with_reducible refine (spec_l01In.calls a0_4 0 7 true _ A16.out).mono ?_); rintro e w' ⟨rfl, ⟨nd, rfl⟩⟩))
          go_ret
          exact ⟨ew, by exact lT HB (gC GE122 gN)⟩
         ·replace c17 := Bool.eq_false_iff.mpr c17
          subst c17
          have H1 : (some false) = some r := by rw [if_neg (show ¬ (false = true) by decide)] at H; exact H
          clear H
          have H := H1
          clear H1
          obtain rfl := Option.some.inj H
          go_enter Try.func27, Try.ntmps27
          go_wp2_with (first | ((with_reducible refine gate_dst (N := 1) rfl ?_); refine bx 1 #[.int .i64 a0_0, .int .i64 a0_1, .int .i64 a0_2, .int .i64 a0_3, .int .i64 a0_4, .string a0_5, .string a0_6, .string a0_7] 23 ?_; intro gb122 hg w20 hbox hb; replace BK122 := ak (hbox); replace GW122 := ak (bz hg (lG HB)); replace GE122 := ak (bz hg (lG HB)); replace HB := lB HB hb; clear hb hbox hg; have hcz21_0 : w20.cell? ⟨gb122, 0, none⟩ = some (.int .i64 a0_0) := bc BK122 0; have hcz21_1 : w20.cell? ⟨gb122, 1, none⟩ = some (.int .i64 a0_1) := bc BK122 1; have hcz21_2 : w20.cell? ⟨gb122, 2, none⟩ = some (.int .i64 a0_2) := bc BK122 2; have hcz21_3 : w20.cell? ⟨gb122, 3, none⟩ = some (.int .i64 a0_3) := bc BK122 3; have hcz21_4 : w20.cell? ⟨gb122, 4, none⟩ = some (.int .i64 a0_4) := bc BK122 4; have hcz21_5 : w20.cell? ⟨gb122, 5, none⟩ = some (.string a0_5) := bc BK122 5; have hcz21_6 : w20.cell? ⟨gb122, 6, none⟩ = some (.string a0_6) := bc BK122 6; have hcz21_7 : w20.cell? ⟨gb122, 7, none⟩ = some (.string a0_7) := bc BK122 7; have hfz21_0 := blk_frozen BK122.out 0; have hfz21_1 := blk_frozen BK122.out 1; have hfz21_2 := blk_frozen BK122.out 2; have hfz21_3 := blk_frozen BK122.out 3; have hfz21_4 := blk_frozen BK122.out 4; have hfz21_5 := blk_frozen BK122.out 5; have hfz21_6 := blk_frozen BK122.out 6; have hfz21_7 := blk_frozen BK122.out 7) | ((with_reducible refine gate_callee (f := 61) rfl ?_); refine gl (some 8) Try.func61 #[.int .i64 a0_0, .int .i64 1, .int .i64 5] ?_; (with_reducible refine (spec_l01In.calls a0_0 1 5 true _ A2.out).mono ?_); rintro e w' ⟨rfl, ⟨nd, rfl⟩⟩; refine ⟨_, rfl, ?_⟩) | (go_at_call 61; (with_reducible refine (spec_l01In.calls a0_1 1 9999 true _ A4.out).mono ?_); rintro e w' ⟨rfl, ⟨nd, rfl⟩⟩) | (go_at_call 32; (with_reducible refine (spec_WordOk.calls k a0_5 true _ A8.out).mono ?_); rintro e w' ⟨rfl, ⟨nd, rfl⟩⟩) | (go_at_call 32; (with_reducible refine (spec_WordOk.calls k a0_6 true _ A10.out).mono ?_); rintro e w' ⟨rfl, ⟨nd, rfl⟩⟩) | (go_at_call 61; (with_reducible refine (spec_l01In.calls a0_3 1 10000 true _ A12.out).mono ?_); rintro e w' ⟨rfl, ⟨nd, rfl⟩⟩) | (go_at_call 61; (with_reducible refine (spec_l01In.calls a0_2 1 9999 true _ A14.out).mono ?_); rintro e w' ⟨rfl, ⟨nd, rfl⟩⟩) | (go_at_call 61; (with_reducible refine (spec_l01In.calls a0_4 0 7 false _ A16.out).mono ?_); rintro e w' ⟨rfl, ⟨nd, rfl⟩⟩))
          go_ret
          exact ⟨ew, by exact lT HB (gC GE122 gN)⟩
        ·replace c15 := Bool.eq_false_iff.mpr c15
         subst c15
         have H1 : (some false) = some r := by rw [if_neg (show ¬ (false = true) by decide)] at H; exact H
         clear H
         have H := H1
         clear H1
         obtain rfl := Option.some.inj H
         go_enter Try.func27, Try.ntmps27
         go_wp2_with (first | ((with_reducible refine gate_dst (N := 1) rfl ?_); refine bx 1 #[.int .i64 a0_0, .int .i64 a0_1, .int .i64 a0_2, .int .i64 a0_3, .int .i64 a0_4, .string a0_5, .string a0_6, .string a0_7] 23 ?_; intro gb122 hg w22 hbox hb; replace BK122 := ak (hbox); replace GW122 := ak (bz hg (lG HB)); replace GE122 := ak (bz hg (lG HB)); replace HB := lB HB hb; clear hb hbox hg; have hcz23_0 : w22.cell? ⟨gb122, 0, none⟩ = some (.int .i64 a0_0) := bc BK122 0; have hcz23_1 : w22.cell? ⟨gb122, 1, none⟩ = some (.int .i64 a0_1) := bc BK122 1; have hcz23_2 : w22.cell? ⟨gb122, 2, none⟩ = some (.int .i64 a0_2) := bc BK122 2; have hcz23_3 : w22.cell? ⟨gb122, 3, none⟩ = some (.int .i64 a0_3) := bc BK122 3; have hcz23_4 : w22.cell? ⟨gb122, 4, none⟩ = some (.int .i64 a0_4) := bc BK122 4; have hcz23_5 : w22.cell? ⟨gb122, 5, none⟩ = some (.string a0_5) := bc BK122 5; have hcz23_6 : w22.cell? ⟨gb122, 6, none⟩ = some (.string a0_6) := bc BK122 6; have hcz23_7 : w22.cell? ⟨gb122, 7, none⟩ = some (.string a0_7) := bc BK122 7; have hfz23_0 := blk_frozen BK122.out 0; have hfz23_1 := blk_frozen BK122.out 1; have hfz23_2 := blk_frozen BK122.out 2; have hfz23_3 := blk_frozen BK122.out 3; have hfz23_4 := blk_frozen BK122.out 4; have hfz23_5 := blk_frozen BK122.out 5; have hfz23_6 := blk_frozen BK122.out 6; have hfz23_7 := blk_frozen BK122.out 7) | ((with_reducible refine gate_callee (f := 61) rfl ?_); refine gl (some 8) Try.func61 #[.int .i64 a0_0, .int .i64 1, .int .i64 5] ?_; (with_reducible refine (spec_l01In.calls a0_0 1 5 true _ A2.out).mono ?_); rintro e w' ⟨rfl, ⟨nd, rfl⟩⟩; refine ⟨_, rfl, ?_⟩) | (go_at_call 61; (with_reducible refine (spec_l01In.calls a0_1 1 9999 true _ A4.out).mono ?_); rintro e w' ⟨rfl, ⟨nd, rfl⟩⟩) | (go_at_call 32; (with_reducible refine (spec_WordOk.calls k a0_5 true _ A8.out).mono ?_); rintro e w' ⟨rfl, ⟨nd, rfl⟩⟩) | (go_at_call 32; (with_reducible refine (spec_WordOk.calls k a0_6 true _ A10.out).mono ?_); rintro e w' ⟨rfl, ⟨nd, rfl⟩⟩) | (go_at_call 61; (with_reducible refine (spec_l01In.calls a0_3 1 10000 true _ A12.out).mono ?_); rintro e w' ⟨rfl, ⟨nd, rfl⟩⟩) | (go_at_call 61; (with_reducible refine (spec_l01In.calls a0_2 1 9999 false _ A14.out).mono ?_); rintro e w' ⟨rfl, ⟨nd, rfl⟩⟩))
         go_ret
         exact ⟨ew, by exact lT HB (gC GE122 gN)⟩
       ·replace c13 := Bool.eq_false_iff.mpr c13
        subst c13
        have H1 : (some false) = some r := by rw [if_neg (show ¬ (false = true) by decide)] at H; exact H
        clear H
        have H := H1
        clear H1
        obtain rfl := Option.some.inj H
        go_enter Try.func27, Try.ntmps27
        go_wp2_with (first | ((with_reducible refine gate_dst (N := 1) rfl ?_); refine bx 1 #[.int .i64 a0_0, .int .i64 a0_1, .int .i64 a0_2, .int .i64 a0_3, .int .i64 a0_4, .string a0_5, .string a0_6, .string a0_7] 23 ?_; intro gb122 hg w24 hbox hb; replace BK122 := ak (hbox); replace GW122 := ak (bz hg (lG HB)); replace GE122 := ak (bz hg (lG HB)); replace HB := lB HB hb; clear hb hbox hg; have hcz25_0 : w24.cell? ⟨gb122, 0, none⟩ = some (.int .i64 a0_0) := bc BK122 0; have hcz25_1 : w24.cell? ⟨gb122, 1, none⟩ = some (.int .i64 a0_1) := bc BK122 1; have hcz25_2 : w24.cell? ⟨gb122, 2, none⟩ = some (.int .i64 a0_2) := bc BK122 2; have hcz25_3 : w24.cell? ⟨gb122, 3, none⟩ = some (.int .i64 a0_3) := bc BK122 3; have hcz25_4 : w24.cell? ⟨gb122, 4, none⟩ = some (.int .i64 a0_4) := bc BK122 4; have hcz25_5 : w24.cell? ⟨gb122, 5, none⟩ = some (.string a0_5) := bc BK122 5; have hcz25_6 : w24.cell? ⟨gb122, 6, none⟩ = some (.string a0_6) := bc BK122 6; have hcz25_7 : w24.cell? ⟨gb122, 7, none⟩ = some (.string a0_7) := bc BK122 7; have hfz25_0 := blk_frozen BK122.out 0; have hfz25_1 := blk_frozen BK122.out 1; have hfz25_2 := blk_frozen BK122.out 2; have hfz25_3 := blk_frozen BK122.out 3; have hfz25_4 := blk_frozen BK122.out 4; have hfz25_5 := blk_frozen BK122.out 5; have hfz25_6 := blk_frozen BK122.out 6; have hfz25_7 := blk_frozen BK122.out 7) | ((with_reducible refine gate_callee (f := 61) rfl ?_); refine gl (some 8) Try.func61 #[.int .i64 a0_0, .int .i64 1, .int .i64 5] ?_; (with_reducible refine (spec_l01In.calls a0_0 1 5 true _ A2.out).mono ?_); rintro e w' ⟨rfl, ⟨nd, rfl⟩⟩; refine ⟨_, rfl, ?_⟩) | (go_at_call 61; (with_reducible refine (spec_l01In.calls a0_1 1 9999 true _ A4.out).mono ?_); rintro e w' ⟨rfl, ⟨nd, rfl⟩⟩) | (go_at_call 32; (with_reducible refine (spec_WordOk.calls k a0_5 true _ A8.out).mono ?_); rintro e w' ⟨rfl, ⟨nd, rfl⟩⟩) | (go_at_call 32; (with_reducible refine (spec_WordOk.calls k a0_6 true _ A10.out).mono ?_); rintro e w' ⟨rfl, ⟨nd, rfl⟩⟩) | (go_at_call 61; (with_reducible refine (spec_l01In.calls a0_3 1 10000 false _ A12.out).mono ?_); rintro e w' ⟨rfl, ⟨nd, rfl⟩⟩))
        go_ret
        exact ⟨ew, by exact lT HB (gC GE122 gN)⟩
      ·replace c11 := Bool.eq_false_iff.mpr c11
       subst c11
       have H1 : (some false) = some r := by rw [if_neg (show ¬ (false = true) by decide)] at H; exact H
       clear H
       have H := H1
       clear H1
       obtain rfl := Option.some.inj H
       go_enter Try.func27, Try.ntmps27
       go_wp2_with (first | ((with_reducible refine gate_dst (N := 1) rfl ?_); refine bx 1 #[.int .i64 a0_0, .int .i64 a0_1, .int .i64 a0_2, .int .i64 a0_3, .int .i64 a0_4, .string a0_5, .string a0_6, .string a0_7] 23 ?_; intro gb122 hg w26 hbox hb; replace BK122 := ak (hbox); replace GW122 := ak (bz hg (lG HB)); replace GE122 := ak (bz hg (lG HB)); replace HB := lB HB hb; clear hb hbox hg; have hcz27_0 : w26.cell? ⟨gb122, 0, none⟩ = some (.int .i64 a0_0) := bc BK122 0; have hcz27_1 : w26.cell? ⟨gb122, 1, none⟩ = some (.int .i64 a0_1) := bc BK122 1; have hcz27_2 : w26.cell? ⟨gb122, 2, none⟩ = some (.int .i64 a0_2) := bc BK122 2; have hcz27_3 : w26.cell? ⟨gb122, 3, none⟩ = some (.int .i64 a0_3) := bc BK122 3; have hcz27_4 : w26.cell? ⟨gb122, 4, none⟩ = some (.int .i64 a0_4) := bc BK122 4; have hcz27_5 : w26.cell? ⟨gb122, 5, none⟩ = some (.string a0_5) := bc BK122 5; have hcz27_6 : w26.cell? ⟨gb122, 6, none⟩ = some (.string a0_6) := bc BK122 6; have hcz27_7 : w26.cell? ⟨gb122, 7, none⟩ = some (.string a0_7) := bc BK122 7; have hfz27_0 := blk_frozen BK122.out 0; have hfz27_1 := blk_frozen BK122.out 1; have hfz27_2 := blk_frozen BK122.out 2; have hfz27_3 := blk_frozen BK122.out 3; have hfz27_4 := blk_frozen BK122.out 4; have hfz27_5 := blk_frozen BK122.out 5; have hfz27_6 := blk_frozen BK122.out 6; have hfz27_7 := blk_frozen BK122.out 7) | ((with_reducible refine gate_callee (f := 61) rfl ?_); refine gl (some 8) Try.func61 #[.int .i64 a0_0, .int .i64 1, .int .i64 5] ?_; (with_reducible refine (spec_l01In.calls a0_0 1 5 true _ A2.out).mono ?_); rintro e w' ⟨rfl, ⟨nd, rfl⟩⟩; refine ⟨_, rfl, ?_⟩) | (go_at_call 61; (with_reducible refine (spec_l01In.calls a0_1 1 9999 true _ A4.out).mono ?_); rintro e w' ⟨rfl, ⟨nd, rfl⟩⟩) | (go_at_call 32; (with_reducible refine (spec_WordOk.calls k a0_5 true _ A8.out).mono ?_); rintro e w' ⟨rfl, ⟨nd, rfl⟩⟩) | (go_at_call 32; (with_reducible refine (spec_WordOk.calls k a0_6 false _ A10.out).mono ?_); rintro e w' ⟨rfl, ⟨nd, rfl⟩⟩))
       go_ret
       exact ⟨ew, by exact lT HB (gC GE122 gN)⟩
     ·replace c9 := Bool.eq_false_iff.mpr c9
      subst c9
      have H1 : (some false) = some r := by rw [if_neg (show ¬ (false = true) by decide)] at H; exact H
      clear H
      have H := H1
      clear H1
      obtain rfl := Option.some.inj H
      go_enter Try.func27, Try.ntmps27
      go_wp2_with (first | ((with_reducible refine gate_dst (N := 1) rfl ?_); refine bx 1 #[.int .i64 a0_0, .int .i64 a0_1, .int .i64 a0_2, .int .i64 a0_3, .int .i64 a0_4, .string a0_5, .string a0_6, .string a0_7] 23 ?_; intro gb122 hg w28 hbox hb; replace BK122 := ak (hbox); replace GW122 := ak (bz hg (lG HB)); replace GE122 := ak (bz hg (lG HB)); replace HB := lB HB hb; clear hb hbox hg; have hcz29_0 : w28.cell? ⟨gb122, 0, none⟩ = some (.int .i64 a0_0) := bc BK122 0; have hcz29_1 : w28.cell? ⟨gb122, 1, none⟩ = some (.int .i64 a0_1) := bc BK122 1; have hcz29_2 : w28.cell? ⟨gb122, 2, none⟩ = some (.int .i64 a0_2) := bc BK122 2; have hcz29_3 : w28.cell? ⟨gb122, 3, none⟩ = some (.int .i64 a0_3) := bc BK122 3; have hcz29_4 : w28.cell? ⟨gb122, 4, none⟩ = some (.int .i64 a0_4) := bc BK122 4; have hcz29_5 : w28.cell? ⟨gb122, 5, none⟩ = some (.string a0_5) := bc BK122 5; have hcz29_6 : w28.cell? ⟨gb122, 6, none⟩ = some (.string a0_6) := bc BK122 6; have hcz29_7 : w28.cell? ⟨gb122, 7, none⟩ = some (.string a0_7) := bc BK122 7; have hfz29_0 := blk_frozen BK122.out 0; have hfz29_1 := blk_frozen BK122.out 1; have hfz29_2 := blk_frozen BK122.out 2; have hfz29_3 := blk_frozen BK122.out 3; have hfz29_4 := blk_frozen BK122.out 4; have hfz29_5 := blk_frozen BK122.out 5; have hfz29_6 := blk_frozen BK122.out 6; have hfz29_7 := blk_frozen BK122.out 7) | ((with_reducible refine gate_callee (f := 61) rfl ?_); refine gl (some 8) Try.func61 #[.int .i64 a0_0, .int .i64 1, .int .i64 5] ?_; (with_reducible refine (spec_l01In.calls a0_0 1 5 true _ A2.out).mono ?_); rintro e w' ⟨rfl, ⟨nd, rfl⟩⟩; refine ⟨_, rfl, ?_⟩) | (go_at_call 61; (with_reducible refine (spec_l01In.calls a0_1 1 9999 true _ A4.out).mono ?_); rintro e w' ⟨rfl, ⟨nd, rfl⟩⟩) | (go_at_call 32; (with_reducible refine (spec_WordOk.calls k a0_5 false _ A8.out).mono ?_); rintro e w' ⟨rfl, ⟨nd, rfl⟩⟩))
      go_ret
      exact ⟨ew, by exact lT HB (gC GE122 gN)⟩
    ·rw [if_neg c7] at H
     have c7b0 : (a0_0 == 1) = false := beq_eq_false_iff_ne.mpr c7
     have c7b1 : (a0_0 != 1) = true := bne_iff_ne.mpr c7
     by_cases c30 : a0_5.toList = ([] : List UInt8)
     ·rw [if_pos c30] at H
      have c30b0 : (a0_5.toList == ([] : List UInt8)) = true := beq_iff_eq.mpr c30
      have c30b1 : (a0_5.toList != ([] : List UInt8)) = false := bne_eq_false_iff_eq.mpr c30
      clear c30
      by_cases c31 : a0_6.toList = ([] : List UInt8)
      ·rw [if_pos c31] at H
       have c31b0 : (a0_6.toList == ([] : List UInt8)) = true := beq_iff_eq.mpr c31
       have c31b1 : (a0_6.toList != ([] : List UInt8)) = false := bne_eq_false_iff_eq.mpr c31
       clear c31
       by_cases c32 : a0_3 = 0
       ·rw [if_pos c32] at H
        have c32b0 : (a0_3 == 0) = true := beq_iff_eq.mpr c32
        have c32b1 : (a0_3 != 0) = false := bne_eq_false_iff_eq.mpr c32
        clear c32
        replace H := Option.bind_eq_some_iff.mp H
        obtain ⟨t130, A330, H⟩ := H
        replace H : (if t130 = true then ((spec_l01In.f a0_4 0 7).bind fun t131 => (if t131 = true then (some (decide ((a0_7.size : Int) ≤ 100))) else (some false))) else (some false)) = some r := H
        have A33 := Aside0.mk A330
        clear A330
        by_cases c34 : t130 = true
        ·subst c34
         have H1 : ((spec_l01In.f a0_4 0 7).bind fun t131 => (if t131 = true then (some (decide ((a0_7.size : Int) ≤ 100))) else (some false))) = some r := by rw [if_pos rfl] at H; exact H
         clear H
         have H := H1
         clear H1
         replace H := Option.bind_eq_some_iff.mp H
         obtain ⟨t131, A350, H⟩ := H
         replace H : (if t131 = true then (some (decide ((a0_7.size : Int) ≤ 100))) else (some false)) = some r := H
         have A35 := Aside0.mk A350
         clear A350
         by_cases c36 : t131 = true
         ·subst c36
          have H1 : (some (decide ((a0_7.size : Int) ≤ 100))) = some r := by rw [if_pos rfl] at H; exact H
          clear H
          have H := H1
          clear H1
          obtain rfl := Option.some.inj H
          go_enter Try.func27, Try.ntmps27
          go_wp2_with (first | ((with_reducible refine gate_dst (N := 1) rfl ?_); refine bx 1 #[.int .i64 a0_0, .int .i64 a0_1, .int .i64 a0_2, .int .i64 a0_3, .int .i64 a0_4, .string a0_5, .string a0_6, .string a0_7] 23 ?_; intro gb122 hg w37 hbox hb; replace BK122 := ak (hbox); replace GW122 := ak (bz hg (lG HB)); replace GE122 := ak (bz hg (lG HB)); replace HB := lB HB hb; clear hb hbox hg; have hcz38_0 : w37.cell? ⟨gb122, 0, none⟩ = some (.int .i64 a0_0) := bc BK122 0; have hcz38_1 : w37.cell? ⟨gb122, 1, none⟩ = some (.int .i64 a0_1) := bc BK122 1; have hcz38_2 : w37.cell? ⟨gb122, 2, none⟩ = some (.int .i64 a0_2) := bc BK122 2; have hcz38_3 : w37.cell? ⟨gb122, 3, none⟩ = some (.int .i64 a0_3) := bc BK122 3; have hcz38_4 : w37.cell? ⟨gb122, 4, none⟩ = some (.int .i64 a0_4) := bc BK122 4; have hcz38_5 : w37.cell? ⟨gb122, 5, none⟩ = some (.string a0_5) := bc BK122 5; have hcz38_6 : w37.cell? ⟨gb122, 6, none⟩ = some (.string a0_6) := bc BK122 6; have hcz38_7 : w37.cell? ⟨gb122, 7, none⟩ = some (.string a0_7) := bc BK122 7; have hfz38_0 := blk_frozen BK122.out 0; have hfz38_1 := blk_frozen BK122.out 1; have hfz38_2 := blk_frozen BK122.out 2; have hfz38_3 := blk_frozen BK122.out 3; have hfz38_4 := blk_frozen BK122.out 4; have hfz38_5 := blk_frozen BK122.out 5; have hfz38_6 := blk_frozen BK122.out 6; have hfz38_7 := blk_frozen BK122.out 7) | ((with_reducible refine gate_callee (f := 61) rfl ?_); refine gl (some 8) Try.func61 #[.int .i64 a0_0, .int .i64 1, .int .i64 5] ?_; (with_reducible refine (spec_l01In.calls a0_0 1 5 true _ A2.out).mono ?_); rintro e w' ⟨rfl, ⟨nd, rfl⟩⟩; refine ⟨_, rfl, ?_⟩) | (go_at_call 61; (with_reducible refine (spec_l01In.calls a0_1 1 9999 true _ A4.out).mono ?_); rintro e w' ⟨rfl, ⟨nd, rfl⟩⟩) | (go_at_call 61; (with_reducible refine (spec_l01In.calls a0_2 1 9999 true _ A33.out).mono ?_); rintro e w' ⟨rfl, ⟨nd, rfl⟩⟩) | (go_at_call 61; (with_reducible refine (spec_l01In.calls a0_4 0 7 true _ A35.out).mono ?_); rintro e w' ⟨rfl, ⟨nd, rfl⟩⟩))
          go_ret
          exact ⟨ew, by exact lT HB (gC GE122 gN)⟩
         ·replace c36 := Bool.eq_false_iff.mpr c36
          subst c36
          have H1 : (some false) = some r := by rw [if_neg (show ¬ (false = true) by decide)] at H; exact H
          clear H
          have H := H1
          clear H1
          obtain rfl := Option.some.inj H
          go_enter Try.func27, Try.ntmps27
          go_wp2_with (first | ((with_reducible refine gate_dst (N := 1) rfl ?_); refine bx 1 #[.int .i64 a0_0, .int .i64 a0_1, .int .i64 a0_2, .int .i64 a0_3, .int .i64 a0_4, .string a0_5, .string a0_6, .string a0_7] 23 ?_; intro gb122 hg w39 hbox hb; replace BK122 := ak (hbox); replace GW122 := ak (bz hg (lG HB)); replace GE122 := ak (bz hg (lG HB)); replace HB := lB HB hb; clear hb hbox hg; have hcz40_0 : w39.cell? ⟨gb122, 0, none⟩ = some (.int .i64 a0_0) := bc BK122 0; have hcz40_1 : w39.cell? ⟨gb122, 1, none⟩ = some (.int .i64 a0_1) := bc BK122 1; have hcz40_2 : w39.cell? ⟨gb122, 2, none⟩ = some (.int .i64 a0_2) := bc BK122 2; have hcz40_3 : w39.cell? ⟨gb122, 3, none⟩ = some (.int .i64 a0_3) := bc BK122 3; have hcz40_4 : w39.cell? ⟨gb122, 4, none⟩ = some (.int .i64 a0_4) := bc BK122 4; have hcz40_5 : w39.cell? ⟨gb122, 5, none⟩ = some (.string a0_5) := bc BK122 5; have hcz40_6 : w39.cell? ⟨gb122, 6, none⟩ = some (.string a0_6) := bc BK122 6; have hcz40_7 : w39.cell? ⟨gb122, 7, none⟩ = some (.string a0_7) := bc BK122 7; have hfz40_0 := blk_frozen BK122.out 0; have hfz40_1 := blk_frozen BK122.out 1; have hfz40_2 := blk_frozen BK122.out 2; have hfz40_3 := blk_frozen BK122.out 3; have hfz40_4 := blk_frozen BK122.out 4; have hfz40_5 := blk_frozen BK122.out 5; have hfz40_6 := blk_frozen BK122.out 6; have hfz40_7 := blk_frozen BK122.out 7) | ((with_reducible refine gate_callee (f := 61) rfl ?_); refine gl (some 8) Try.func61 #[.int .i64 a0_0, .int .i64 1, .int .i64 5] ?_; (with_reducible refine (spec_l01In.calls a0_0 1 5 true _ A2.out).mono ?_); rintro e w' ⟨rfl, ⟨nd, rfl⟩⟩; refine ⟨_, rfl, ?_⟩) | (go_at_call 61; (with_reducible refine (spec_l01In.calls a0_1 1 9999 true _ A4.out).mono ?_); rintro e w' ⟨rfl, ⟨nd, rfl⟩⟩) | (go_at_call 61; (with_reducible refine (spec_l01In.calls a0_2 1 9999 true _ A33.out).mono ?_); rintro e w' ⟨rfl, ⟨nd, rfl⟩⟩) | (go_at_call 61; (with_reducible refine (spec_l01In.calls a0_4 0 7 false _ A35.out).mono ?_); rintro e w' ⟨rfl, ⟨nd, rfl⟩⟩))
          go_ret
          exact ⟨ew, by exact lT HB (gC GE122 gN)⟩
        ·replace c34 := Bool.eq_false_iff.mpr c34
         subst c34
         have H1 : (some false) = some r := by rw [if_neg (show ¬ (false = true) by decide)] at H; exact H
         clear H
         have H := H1
         clear H1
         obtain rfl := Option.some.inj H
         go_enter Try.func27, Try.ntmps27
         go_wp2_with (first | ((with_reducible refine gate_dst (N := 1) rfl ?_); refine bx 1 #[.int .i64 a0_0, .int .i64 a0_1, .int .i64 a0_2, .int .i64 a0_3, .int .i64 a0_4, .string a0_5, .string a0_6, .string a0_7] 23 ?_; intro gb122 hg w41 hbox hb; replace BK122 := ak (hbox); replace GW122 := ak (bz hg (lG HB)); replace GE122 := ak (bz hg (lG HB)); replace HB := lB HB hb; clear hb hbox hg; have hcz42_0 : w41.cell? ⟨gb122, 0, none⟩ = some (.int .i64 a0_0) := bc BK122 0; have hcz42_1 : w41.cell? ⟨gb122, 1, none⟩ = some (.int .i64 a0_1) := bc BK122 1; have hcz42_2 : w41.cell? ⟨gb122, 2, none⟩ = some (.int .i64 a0_2) := bc BK122 2; have hcz42_3 : w41.cell? ⟨gb122, 3, none⟩ = some (.int .i64 a0_3) := bc BK122 3; have hcz42_4 : w41.cell? ⟨gb122, 4, none⟩ = some (.int .i64 a0_4) := bc BK122 4; have hcz42_5 : w41.cell? ⟨gb122, 5, none⟩ = some (.string a0_5) := bc BK122 5; have hcz42_6 : w41.cell? ⟨gb122, 6, none⟩ = some (.string a0_6) := bc BK122 6; have hcz42_7 : w41.cell? ⟨gb122, 7, none⟩ = some (.string a0_7) := bc BK122 7; have hfz42_0 := blk_frozen BK122.out 0; have hfz42_1 := blk_frozen BK122.out 1; have hfz42_2 := blk_frozen BK122.out 2; have hfz42_3 := blk_frozen BK122.out 3; have hfz42_4 := blk_frozen BK122.out 4; have hfz42_5 := blk_frozen BK122.out 5; have hfz42_6 := blk_frozen BK122.out 6; have hfz42_7 := blk_frozen BK122.out 7) | ((with_reducible refine gate_callee (f := 61) rfl ?_); refine gl (some 8) Try.func61 #[.int .i64 a0_0, .int .i64 1, .int .i64 5] ?_; (with_reducible refine (spec_l01In.calls a0_0 1 5 true _ A2.out).mono ?_); rintro e w' ⟨rfl, ⟨nd, rfl⟩⟩; refine ⟨_, rfl, ?_⟩) | (go_at_call 61; (with_reducible refine (spec_l01In.calls a0_1 1 9999 true _ A4.out).mono ?_); rintro e w' ⟨rfl, ⟨nd, rfl⟩⟩) | (go_at_call 61; (with_reducible refine (spec_l01In.calls a0_2 1 9999 false _ A33.out).mono ?_); rintro e w' ⟨rfl, ⟨nd, rfl⟩⟩))
         go_ret
         exact ⟨ew, by exact lT HB (gC GE122 gN)⟩
       ·rw [if_neg c32] at H
        have c32b0 : (a0_3 == 0) = false := beq_eq_false_iff_ne.mpr c32
        have c32b1 : (a0_3 != 0) = true := bne_iff_ne.mpr c32
        obtain rfl := Option.some.inj H
        go_enter Try.func27, Try.ntmps27
        go_wp2_with (first | ((with_reducible refine gate_dst (N := 1) rfl ?_); refine bx 1 #[.int .i64 a0_0, .int .i64 a0_1, .int .i64 a0_2, .int .i64 a0_3, .int .i64 a0_4, .string a0_5, .string a0_6, .string a0_7] 23 ?_; intro gb122 hg w43 hbox hb; replace BK122 := ak (hbox); replace GW122 := ak (bz hg (lG HB)); replace GE122 := ak (bz hg (lG HB)); replace HB := lB HB hb; clear hb hbox hg; have hcz44_0 : w43.cell? ⟨gb122, 0, none⟩ = some (.int .i64 a0_0) := bc BK122 0; have hcz44_1 : w43.cell? ⟨gb122, 1, none⟩ = some (.int .i64 a0_1) := bc BK122 1; have hcz44_2 : w43.cell? ⟨gb122, 2, none⟩ = some (.int .i64 a0_2) := bc BK122 2; have hcz44_3 : w43.cell? ⟨gb122, 3, none⟩ = some (.int .i64 a0_3) := bc BK122 3; have hcz44_4 : w43.cell? ⟨gb122, 4, none⟩ = some (.int .i64 a0_4) := bc BK122 4; have hcz44_5 : w43.cell? ⟨gb122, 5, none⟩ = some (.string a0_5) := bc BK122 5; have hcz44_6 : w43.cell? ⟨gb122, 6, none⟩ = some (.string a0_6) := bc BK122 6; have hcz44_7 : w43.cell? ⟨gb122, 7, none⟩ = some (.string a0_7) := bc BK122 7; have hfz44_0 := blk_frozen BK122.out 0; have hfz44_1 := blk_frozen BK122.out 1; have hfz44_2 := blk_frozen BK122.out 2; have hfz44_3 := blk_frozen BK122.out 3; have hfz44_4 := blk_frozen BK122.out 4; have hfz44_5 := blk_frozen BK122.out 5; have hfz44_6 := blk_frozen BK122.out 6; have hfz44_7 := blk_frozen BK122.out 7) | ((with_reducible refine gate_callee (f := 61) rfl ?_); refine gl (some 8) Try.func61 #[.int .i64 a0_0, .int .i64 1, .int .i64 5] ?_; (with_reducible refine (spec_l01In.calls a0_0 1 5 true _ A2.out).mono ?_); rintro e w' ⟨rfl, ⟨nd, rfl⟩⟩; refine ⟨_, rfl, ?_⟩) | (go_at_call 61; (with_reducible refine (spec_l01In.calls a0_1 1 9999 true _ A4.out).mono ?_); rintro e w' ⟨rfl, ⟨nd, rfl⟩⟩))
        go_ret
        exact ⟨ew, by exact lT HB (gC GE122 gN)⟩
      ·rw [if_neg c31] at H
       have c31b0 : (a0_6.toList == ([] : List UInt8)) = false := beq_eq_false_iff_ne.mpr c31
       have c31b1 : (a0_6.toList != ([] : List UInt8)) = true := bne_iff_ne.mpr c31
       obtain rfl := Option.some.inj H
       go_enter Try.func27, Try.ntmps27
       go_wp2_with (first | ((with_reducible refine gate_dst (N := 1) rfl ?_); refine bx 1 #[.int .i64 a0_0, .int .i64 a0_1, .int .i64 a0_2, .int .i64 a0_3, .int .i64 a0_4, .string a0_5, .string a0_6, .string a0_7] 23 ?_; intro gb122 hg w45 hbox hb; replace BK122 := ak (hbox); replace GW122 := ak (bz hg (lG HB)); replace GE122 := ak (bz hg (lG HB)); replace HB := lB HB hb; clear hb hbox hg; have hcz46_0 : w45.cell? ⟨gb122, 0, none⟩ = some (.int .i64 a0_0) := bc BK122 0; have hcz46_1 : w45.cell? ⟨gb122, 1, none⟩ = some (.int .i64 a0_1) := bc BK122 1; have hcz46_2 : w45.cell? ⟨gb122, 2, none⟩ = some (.int .i64 a0_2) := bc BK122 2; have hcz46_3 : w45.cell? ⟨gb122, 3, none⟩ = some (.int .i64 a0_3) := bc BK122 3; have hcz46_4 : w45.cell? ⟨gb122, 4, none⟩ = some (.int .i64 a0_4) := bc BK122 4; have hcz46_5 : w45.cell? ⟨gb122, 5, none⟩ = some (.string a0_5) := bc BK122 5; have hcz46_6 : w45.cell? ⟨gb122, 6, none⟩ = some (.string a0_6) := bc BK122 6; have hcz46_7 : w45.cell? ⟨gb122, 7, none⟩ = some (.string a0_7) := bc BK122 7; have hfz46_0 := blk_frozen BK122.out 0; have hfz46_1 := blk_frozen BK122.out 1; have hfz46_2 := blk_frozen BK122.out 2; have hfz46_3 := blk_frozen BK122.out 3; have hfz46_4 := blk_frozen BK122.out 4; have hfz46_5 := blk_frozen BK122.out 5; have hfz46_6 := blk_frozen BK122.out 6; have hfz46_7 := blk_frozen BK122.out 7) | ((with_reducible refine gate_callee (f := 61) rfl ?_); refine gl (some 8) Try.func61 #[.int .i64 a0_0, .int .i64 1, .int .i64 5] ?_; (with_reducible refine (spec_l01In.calls a0_0 1 5 true _ A2.out).mono ?_); rintro e w' ⟨rfl, ⟨nd, rfl⟩⟩; refine ⟨_, rfl, ?_⟩) | (go_at_call 61; (with_reducible refine (spec_l01In.calls a0_1 1 9999 true _ A4.out).mono ?_); rintro e w' ⟨rfl, ⟨nd, rfl⟩⟩))
       go_ret
       exact ⟨ew, by exact lT HB (gC GE122 gN)⟩
     ·rw [if_neg c30] at H
      have c30b0 : (a0_5.toList == ([] : List UInt8)) = false := beq_eq_false_iff_ne.mpr c30
      have c30b1 : (a0_5.toList != ([] : List UInt8)) = true := bne_iff_ne.mpr c30
      obtain rfl := Option.some.inj H
      go_enter Try.func27, Try.ntmps27
      go_wp2_with (first | ((with_reducible refine gate_dst (N := 1) rfl ?_); refine bx 1 #[.int .i64 a0_0, .int .i64 a0_1, .int .i64 a0_2, .int .i64 a0_3, .int .i64 a0_4, .string a0_5, .string a0_6, .string a0_7] 23 ?_; intro gb122 hg w47 hbox hb; replace BK122 := ak (hbox); replace GW122 := ak (bz hg (lG HB)); replace GE122 := ak (bz hg (lG HB)); replace HB := lB HB hb; clear hb hbox hg; have hcz48_0 : w47.cell? ⟨gb122, 0, none⟩ = some (.int .i64 a0_0) := bc BK122 0; have hcz48_1 : w47.cell? ⟨gb122, 1, none⟩ = some (.int .i64 a0_1) := bc BK122 1; have hcz48_2 : w47.cell? ⟨gb122, 2, none⟩ = some (.int .i64 a0_2) := bc BK122 2; have hcz48_3 : w47.cell? ⟨gb122, 3, none⟩ = some (.int .i64 a0_3) := bc BK122 3; have hcz48_4 : w47.cell? ⟨gb122, 4, none⟩ = some (.int .i64 a0_4) := bc BK122 4; have hcz48_5 : w47.cell? ⟨gb122, 5, none⟩ = some (.string a0_5) := bc BK122 5; have hcz48_6 : w47.cell? ⟨gb122, 6, none⟩ = some (.string a0_6) := bc BK122 6; have hcz48_7 : w47.cell? ⟨gb122, 7, none⟩ = some (.string a0_7) := bc BK122 7; have hfz48_0 := blk_frozen BK122.out 0; have hfz48_1 := blk_frozen BK122.out 1; have hfz48_2 := blk_frozen BK122.out 2; have hfz48_3 := blk_frozen BK122.out 3; have hfz48_4 := blk_frozen BK122.out 4; have hfz48_5 := blk_frozen BK122.out 5; have hfz48_6 := blk_frozen BK122.out 6; have hfz48_7 := blk_frozen BK122.out 7) | ((with_reducible refine gate_callee (f := 61) rfl ?_); refine gl (some 8) Try.func61 #[.int .i64 a0_0, .int .i64 1, .int .i64 5] ?_; (with_reducible refine (spec_l01In.calls a0_0 1 5 true _ A2.out).mono ?_); rintro e w' ⟨rfl, ⟨nd, rfl⟩⟩; refine ⟨_, rfl, ?_⟩) | (go_at_call 61; (with_reducible refine (spec_l01In.calls a0_1 1 9999 true _ A4.out).mono ?_); rintro e w' ⟨rfl, ⟨nd, rfl⟩⟩))
      go_ret
      exact ⟨ew, by exact lT HB (gC GE122 gN)⟩
   ·rw [if_neg c6] at H
    have c6b0 : (a0_0 == 3) = false := beq_eq_false_iff_ne.mpr c6
    have c6b1 : (a0_0 != 3) = true := bne_iff_ne.mpr c6
    by_cases c49 : a0_0 = 4
    ·rw [if_pos c49] at H
     have c49b0 : (a0_0 == 4) = true := beq_iff_eq.mpr c49
     have c49b1 : (a0_0 != 4) = false := bne_eq_false_iff_eq.mpr c49
     clear c49
     by_cases c50 : a0_0 = 1
     ·rw [if_pos c50] at H
      have c50b0 : (a0_0 == 1) = true := beq_iff_eq.mpr c50
      have c50b1 : (a0_0 != 1) = false := bne_eq_false_iff_eq.mpr c50
      clear c50
      replace H := Option.bind_eq_some_iff.mp H
      obtain ⟨t132, A510, H⟩ := H
      replace H : (if t132 = true then ((spec_WordOk.f k a0_6).bind fun t133 => (if t133 = true then ((spec_l01In.f a0_3 1 10000).bind fun t134 => (if t134 = true then ((spec_l01In.f a0_2 1 9999).bind fun t135 => (if t135 = true then ((spec_l01In.f a0_4 0 7).bind fun t136 => (if t136 = true then (some (a0_7.toList == ([] : List UInt8))) else (some false))) else (some false))) else (some false))) else (some false))) else (some false)) = some r := H
      have A51 := Aside0.mk A510
      clear A510
      by_cases c52 : t132 = true
      ·subst c52
       have H1 : ((spec_WordOk.f k a0_6).bind fun t133 => (if t133 = true then ((spec_l01In.f a0_3 1 10000).bind fun t134 => (if t134 = true then ((spec_l01In.f a0_2 1 9999).bind fun t135 => (if t135 = true then ((spec_l01In.f a0_4 0 7).bind fun t136 => (if t136 = true then (some (a0_7.toList == ([] : List UInt8))) else (some false))) else (some false))) else (some false))) else (some false))) = some r := by rw [if_pos rfl] at H; exact H
       clear H
       have H := H1
       clear H1
       replace H := Option.bind_eq_some_iff.mp H
       obtain ⟨t133, A530, H⟩ := H
       replace H : (if t133 = true then ((spec_l01In.f a0_3 1 10000).bind fun t134 => (if t134 = true then ((spec_l01In.f a0_2 1 9999).bind fun t135 => (if t135 = true then ((spec_l01In.f a0_4 0 7).bind fun t136 => (if t136 = true then (some (a0_7.toList == ([] : List UInt8))) else (some false))) else (some false))) else (some false))) else (some false)) = some r := H
       have A53 := Aside0.mk A530
       clear A530
       by_cases c54 : t133 = true
       ·subst c54
        have H1 : ((spec_l01In.f a0_3 1 10000).bind fun t134 => (if t134 = true then ((spec_l01In.f a0_2 1 9999).bind fun t135 => (if t135 = true then ((spec_l01In.f a0_4 0 7).bind fun t136 => (if t136 = true then (some (a0_7.toList == ([] : List UInt8))) else (some false))) else (some false))) else (some false))) = some r := by rw [if_pos rfl] at H; exact H
        clear H
        have H := H1
        clear H1
        replace H := Option.bind_eq_some_iff.mp H
        obtain ⟨t134, A550, H⟩ := H
        replace H : (if t134 = true then ((spec_l01In.f a0_2 1 9999).bind fun t135 => (if t135 = true then ((spec_l01In.f a0_4 0 7).bind fun t136 => (if t136 = true then (some (a0_7.toList == ([] : List UInt8))) else (some false))) else (some false))) else (some false)) = some r := H
        have A55 := Aside0.mk A550
        clear A550
        by_cases c56 : t134 = true
        ·subst c56
         have H1 : ((spec_l01In.f a0_2 1 9999).bind fun t135 => (if t135 = true then ((spec_l01In.f a0_4 0 7).bind fun t136 => (if t136 = true then (some (a0_7.toList == ([] : List UInt8))) else (some false))) else (some false))) = some r := by rw [if_pos rfl] at H; exact H
         clear H
         have H := H1
         clear H1
         replace H := Option.bind_eq_some_iff.mp H
         obtain ⟨t135, A570, H⟩ := H
         replace H : (if t135 = true then ((spec_l01In.f a0_4 0 7).bind fun t136 => (if t136 = true then (some (a0_7.toList == ([] : List UInt8))) else (some false))) else (some false)) = some r := H
         have A57 := Aside0.mk A570
         clear A570
         by_cases c58 : t135 = true
         ·subst c58
          have H1 : ((spec_l01In.f a0_4 0 7).bind fun t136 => (if t136 = true then (some (a0_7.toList == ([] : List UInt8))) else (some false))) = some r := by rw [if_pos rfl] at H; exact H
          clear H
          have H := H1
          clear H1
          replace H := Option.bind_eq_some_iff.mp H
          obtain ⟨t136, A590, H⟩ := H
          replace H : (if t136 = true then (some (a0_7.toList == ([] : List UInt8))) else (some false)) = some r := H
          have A59 := Aside0.mk A590
          clear A590
          by_cases c60 : t136 = true
          ·subst c60
           have H1 : (some (a0_7.toList == ([] : List UInt8))) = some r := by rw [if_pos rfl] at H; exact H
           clear H
           have H := H1
           clear H1
           obtain rfl := Option.some.inj H
           go_enter Try.func27, Try.ntmps27
           go_wp2_with (first | ((with_reducible refine gate_dst (N := 1) rfl ?_); refine bx 1 #[.int .i64 a0_0, .int .i64 a0_1, .int .i64 a0_2, .int .i64 a0_3, .int .i64 a0_4, .string a0_5, .string a0_6, .string a0_7] 23 ?_; intro gb122 hg w61 hbox hb; replace BK122 := ak (hbox); replace GW122 := ak (bz hg (lG HB)); replace GE122 := ak (bz hg (lG HB)); replace HB := lB HB hb; clear hb hbox hg; have hcz62_0 : w61.cell? ⟨gb122, 0, none⟩ = some (.int .i64 a0_0) := bc BK122 0; have hcz62_1 : w61.cell? ⟨gb122, 1, none⟩ = some (.int .i64 a0_1) := bc BK122 1; have hcz62_2 : w61.cell? ⟨gb122, 2, none⟩ = some (.int .i64 a0_2) := bc BK122 2; have hcz62_3 : w61.cell? ⟨gb122, 3, none⟩ = some (.int .i64 a0_3) := bc BK122 3; have hcz62_4 : w61.cell? ⟨gb122, 4, none⟩ = some (.int .i64 a0_4) := bc BK122 4; have hcz62_5 : w61.cell? ⟨gb122, 5, none⟩ = some (.string a0_5) := bc BK122 5; have hcz62_6 : w61.cell? ⟨gb122, 6, none⟩ = some (.string a0_6) := bc BK122 6; have hcz62_7 : w61.cell? ⟨gb122, 7, none⟩ = some (.string a0_7) := bc BK122 7; have hfz62_0 := blk_frozen BK122.out 0; have hfz62_1 := blk_frozen BK122.out 1; have hfz62_2 := blk_frozen BK122.out 2; have hfz62_3 := blk_frozen BK122.out 3; have hfz62_4 := blk_frozen BK122.out 4; have hfz62_5 := blk_frozen BK122.out 5; have hfz62_6 := blk_frozen BK122.out 6; have hfz62_7 := blk_frozen BK122.out 7) | ((with_reducible refine gate_callee (f := 61) rfl ?_); refine gl (some 8) Try.func61 #[.int .i64 a0_0, .int .i64 1, .int .i64 5] ?_; (with_reducible refine (spec_l01In.calls a0_0 1 5 true _ A2.out).mono ?_); rintro e w' ⟨rfl, ⟨nd, rfl⟩⟩; refine ⟨_, rfl, ?_⟩) | (go_at_call 61; (with_reducible refine (spec_l01In.calls a0_1 1 9999 true _ A4.out).mono ?_); rintro e w' ⟨rfl, ⟨nd, rfl⟩⟩) | (go_at_call 32; (with_reducible refine (spec_WordOk.calls k a0_5 true _ A51.out).mono ?_); rintro e w' ⟨rfl, ⟨nd, rfl⟩⟩) | (go_at_call 32; (with_reducible refine (spec_WordOk.calls k a0_6 true _ A53.out).mono ?_); rintro e w' ⟨rfl, ⟨nd, rfl⟩⟩) | (go_at_call 61; (with_reducible refine (spec_l01In.calls a0_3 1 10000 true _ A55.out).mono ?_); rintro e w' ⟨rfl, ⟨nd, rfl⟩⟩) | (go_at_call 61; (with_reducible refine (spec_l01In.calls a0_2 1 9999 true _ A57.out).mono ?_); rintro e w' ⟨rfl, ⟨nd, rfl⟩⟩) | (go_at_call 61; (with_reducible refine (spec_l01In.calls a0_4 0 7 true _ A59.out).mono ?_); rintro e w' ⟨rfl, ⟨nd, rfl⟩⟩))
           go_ret
           exact ⟨ew, by exact lT HB (gC GE122 gN)⟩
          ·replace c60 := Bool.eq_false_iff.mpr c60
           subst c60
           have H1 : (some false) = some r := by rw [if_neg (show ¬ (false = true) by decide)] at H; exact H
           clear H
           have H := H1
           clear H1
           obtain rfl := Option.some.inj H
           go_enter Try.func27, Try.ntmps27
           go_wp2_with (first | ((with_reducible refine gate_dst (N := 1) rfl ?_); refine bx 1 #[.int .i64 a0_0, .int .i64 a0_1, .int .i64 a0_2, .int .i64 a0_3, .int .i64 a0_4, .string a0_5, .string a0_6, .string a0_7] 23 ?_; intro gb122 hg w63 hbox hb; replace BK122 := ak (hbox); replace GW122 := ak (bz hg (lG HB)); replace GE122 := ak (bz hg (lG HB)); replace HB := lB HB hb; clear hb hbox hg; have hcz64_0 : w63.cell? ⟨gb122, 0, none⟩ = some (.int .i64 a0_0) := bc BK122 0; have hcz64_1 : w63.cell? ⟨gb122, 1, none⟩ = some (.int .i64 a0_1) := bc BK122 1; have hcz64_2 : w63.cell? ⟨gb122, 2, none⟩ = some (.int .i64 a0_2) := bc BK122 2; have hcz64_3 : w63.cell? ⟨gb122, 3, none⟩ = some (.int .i64 a0_3) := bc BK122 3; have hcz64_4 : w63.cell? ⟨gb122, 4, none⟩ = some (.int .i64 a0_4) := bc BK122 4; have hcz64_5 : w63.cell? ⟨gb122, 5, none⟩ = some (.string a0_5) := bc BK122 5; have hcz64_6 : w63.cell? ⟨gb122, 6, none⟩ = some (.string a0_6) := bc BK122 6; have hcz64_7 : w63.cell? ⟨gb122, 7, none⟩ = some (.string a0_7) := bc BK122 7; have hfz64_0 := blk_frozen BK122.out 0; have hfz64_1 := blk_frozen BK122.out 1; have hfz64_2 := blk_frozen BK122.out 2; have hfz64_3 := blk_frozen BK122.out 3; have hfz64_4 := blk_frozen BK122.out 4; have hfz64_5 := blk_frozen BK122.out 5; have hfz64_6 := blk_frozen BK122.out 6; have hfz64_7 := blk_frozen BK122.out 7) | ((with_reducible refine gate_callee (f := 61) rfl ?_); refine gl (some 8) Try.func61 #[.int .i64 a0_0, .int .i64 1, .int .i64 5] ?_; (with_reducible refine (spec_l01In.calls a0_0 1 5 true _ A2.out).mono ?_); rintro e w' ⟨rfl, ⟨nd, rfl⟩⟩; refine ⟨_, rfl, ?_⟩) | (go_at_call 61; (with_reducible refine (spec_l01In.calls a0_1 1 9999 true _ A4.out).mono ?_); rintro e w' ⟨rfl, ⟨nd, rfl⟩⟩) | (go_at_call 32; (with_reducible refine (spec_WordOk.calls k a0_5 true _ A51.out).mono ?_); rintro e w' ⟨rfl, ⟨nd, rfl⟩⟩) | (go_at_call 32; (with_reducible refine (spec_WordOk.calls k a0_6 true _ A53.out).mono ?_); rintro e w' ⟨rfl, ⟨nd, rfl⟩⟩) | (go_at_call 61; (with_reducible refine (spec_l01In.calls a0_3 1 10000 true _ A55.out).mono ?_); rintro e w' ⟨rfl, ⟨nd, rfl⟩⟩) | (go_at_call 61; (with_reducible refine (spec_l01In.calls a0_2 1 9999 true _ A57.out).mono ?_); rintro e w' ⟨rfl, ⟨nd, rfl⟩⟩) | (go_at_call 61; (with_reducible refine (spec_l01In.calls a0_4 0 7 false _ A59.out).mono ?_); rintro e w' ⟨rfl, ⟨nd, rfl⟩⟩))
           go_ret
           exact ⟨ew, by exact lT HB (gC GE122 gN)⟩
         ·replace c58 := Bool.eq_false_iff.mpr c58
          subst c58
          have H1 : (some false) = some r := by rw [if_neg (show ¬ (false = true) by decide)] at H; exact H
          clear H
          have H := H1
          clear H1
          obtain rfl := Option.some.inj H
          go_enter Try.func27, Try.ntmps27
          go_wp2_with (first | ((with_reducible refine gate_dst (N := 1) rfl ?_); refine bx 1 #[.int .i64 a0_0, .int .i64 a0_1, .int .i64 a0_2, .int .i64 a0_3, .int .i64 a0_4, .string a0_5, .string a0_6, .string a0_7] 23 ?_; intro gb122 hg w65 hbox hb; replace BK122 := ak (hbox); replace GW122 := ak (bz hg (lG HB)); replace GE122 := ak (bz hg (lG HB)); replace HB := lB HB hb; clear hb hbox hg; have hcz66_0 : w65.cell? ⟨gb122, 0, none⟩ = some (.int .i64 a0_0) := bc BK122 0; have hcz66_1 : w65.cell? ⟨gb122, 1, none⟩ = some (.int .i64 a0_1) := bc BK122 1; have hcz66_2 : w65.cell? ⟨gb122, 2, none⟩ = some (.int .i64 a0_2) := bc BK122 2; have hcz66_3 : w65.cell? ⟨gb122, 3, none⟩ = some (.int .i64 a0_3) := bc BK122 3; have hcz66_4 : w65.cell? ⟨gb122, 4, none⟩ = some (.int .i64 a0_4) := bc BK122 4; have hcz66_5 : w65.cell? ⟨gb122, 5, none⟩ = some (.string a0_5) := bc BK122 5; have hcz66_6 : w65.cell? ⟨gb122, 6, none⟩ = some (.string a0_6) := bc BK122 6; have hcz66_7 : w65.cell? ⟨gb122, 7, none⟩ = some (.string a0_7) := bc BK122 7; have hfz66_0 := blk_frozen BK122.out 0; have hfz66_1 := blk_frozen BK122.out 1; have hfz66_2 := blk_frozen BK122.out 2; have hfz66_3 := blk_frozen BK122.out 3; have hfz66_4 := blk_frozen BK122.out 4; have hfz66_5 := blk_frozen BK122.out 5; have hfz66_6 := blk_frozen BK122.out 6; have hfz66_7 := blk_frozen BK122.out 7) | ((with_reducible refine gate_callee (f := 61) rfl ?_); refine gl (some 8) Try.func61 #[.int .i64 a0_0, .int .i64 1, .int .i64 5] ?_; (with_reducible refine (spec_l01In.calls a0_0 1 5 true _ A2.out).mono ?_); rintro e w' ⟨rfl, ⟨nd, rfl⟩⟩; refine ⟨_, rfl, ?_⟩) | (go_at_call 61; (with_reducible refine (spec_l01In.calls a0_1 1 9999 true _ A4.out).mono ?_); rintro e w' ⟨rfl, ⟨nd, rfl⟩⟩) | (go_at_call 32; (with_reducible refine (spec_WordOk.calls k a0_5 true _ A51.out).mono ?_); rintro e w' ⟨rfl, ⟨nd, rfl⟩⟩) | (go_at_call 32; (with_reducible refine (spec_WordOk.calls k a0_6 true _ A53.out).mono ?_); rintro e w' ⟨rfl, ⟨nd, rfl⟩⟩) | (go_at_call 61; (with_reducible refine (spec_l01In.calls a0_3 1 10000 true _ A55.out).mono ?_); rintro e w' ⟨rfl, ⟨nd, rfl⟩⟩) | (go_at_call 61; (with_reducible refine (spec_l01In.calls a0_2 1 9999 false _ A57.out).mono ?_); rintro e w' ⟨rfl, ⟨nd, rfl⟩⟩))
          go_ret
          exact ⟨ew, by exact lT HB (gC GE122 gN)⟩
        ·replace c56 := Bool.eq_false_iff.mpr c56
         subst c56
         have H1 : (some false) = some r := by rw [if_neg (show ¬ (false = true) by decide)] at H; exact H
         clear H
         have H := H1
         clear H1
         obtain rfl := Option.some.inj H
         go_enter Try.func27, Try.ntmps27
         go_wp2_with (first | ((with_reducible refine gate_dst (N := 1) rfl ?_); refine bx 1 #[.int .i64 a0_0, .int .i64 a0_1, .int .i64 a0_2, .int .i64 a0_3, .int .i64 a0_4, .string a0_5, .string a0_6, .string a0_7] 23 ?_; intro gb122 hg w67 hbox hb; replace BK122 := ak (hbox); replace GW122 := ak (bz hg (lG HB)); replace GE122 := ak (bz hg (lG HB)); replace HB := lB HB hb; clear hb hbox hg; have hcz68_0 : w67.cell? ⟨gb122, 0, none⟩ = some (.int .i64 a0_0) := bc BK122 0; have hcz68_1 : w67.cell? ⟨gb122, 1, none⟩ = some (.int .i64 a0_1) := bc BK122 1; have hcz68_2 : w67.cell? ⟨gb122, 2, none⟩ = some (.int .i64 a0_2) := bc BK122 2; have hcz68_3 : w67.cell? ⟨gb122, 3, none⟩ = some (.int .i64 a0_3) := bc BK122 3; have hcz68_4 : w67.cell? ⟨gb122, 4, none⟩ = some (.int .i64 a0_4) := bc BK122 4; have hcz68_5 : w67.cell? ⟨gb122, 5, none⟩ = some (.string a0_5) := bc BK122 5; have hcz68_6 : w67.cell? ⟨gb122, 6, none⟩ = some (.string a0_6) := bc BK122 6; have hcz68_7 : w67.cell? ⟨gb122, 7, none⟩ = some (.string a0_7) := bc BK122 7; have hfz68_0 := blk_frozen BK122.out 0; have hfz68_1 := blk_frozen BK122.out 1; have hfz68_2 := blk_frozen BK122.out 2; have hfz68_3 := blk_frozen BK122.out 3; have hfz68_4 := blk_frozen BK122.out 4; have hfz68_5 := blk_frozen BK122.out 5; have hfz68_6 := blk_frozen BK122.out 6; have hfz68_7 := blk_frozen BK122.out 7) | ((with_reducible refine gate_callee (f := 61) rfl ?_); refine gl (some 8) Try.func61 #[.int .i64 a0_0, .int .i64 1, .int .i64 5] ?_; (with_reducible refine (spec_l01In.calls a0_0 1 5 true _ A2.out).mono ?_); rintro e w' ⟨rfl, ⟨nd, rfl⟩⟩; refine ⟨_, rfl, ?_⟩) | (go_at_call 61; (with_reducible refine (spec_l01In.calls a0_1 1 9999 true _ A4.out).mono ?_); rintro e w' ⟨rfl, ⟨nd, rfl⟩⟩) | (go_at_call 32; (with_reducible refine (spec_WordOk.calls k a0_5 true _ A51.out).mono ?_); rintro e w' ⟨rfl, ⟨nd, rfl⟩⟩) | (go_at_call 32; (with_reducible refine (spec_WordOk.calls k a0_6 true _ A53.out).mono ?_); rintro e w' ⟨rfl, ⟨nd, rfl⟩⟩) | (go_at_call 61; (with_reducible refine (spec_l01In.calls a0_3 1 10000 false _ A55.out).mono ?_); rintro e w' ⟨rfl, ⟨nd, rfl⟩⟩))
         go_ret
         exact ⟨ew, by exact lT HB (gC GE122 gN)⟩
       ·replace c54 := Bool.eq_false_iff.mpr c54
        subst c54
        have H1 : (some false) = some r := by rw [if_neg (show ¬ (false = true) by decide)] at H; exact H
        clear H
        have H := H1
        clear H1
        obtain rfl := Option.some.inj H
        go_enter Try.func27, Try.ntmps27
        go_wp2_with (first | ((with_reducible refine gate_dst (N := 1) rfl ?_); refine bx 1 #[.int .i64 a0_0, .int .i64 a0_1, .int .i64 a0_2, .int .i64 a0_3, .int .i64 a0_4, .string a0_5, .string a0_6, .string a0_7] 23 ?_; intro gb122 hg w69 hbox hb; replace BK122 := ak (hbox); replace GW122 := ak (bz hg (lG HB)); replace GE122 := ak (bz hg (lG HB)); replace HB := lB HB hb; clear hb hbox hg; have hcz70_0 : w69.cell? ⟨gb122, 0, none⟩ = some (.int .i64 a0_0) := bc BK122 0; have hcz70_1 : w69.cell? ⟨gb122, 1, none⟩ = some (.int .i64 a0_1) := bc BK122 1; have hcz70_2 : w69.cell? ⟨gb122, 2, none⟩ = some (.int .i64 a0_2) := bc BK122 2; have hcz70_3 : w69.cell? ⟨gb122, 3, none⟩ = some (.int .i64 a0_3) := bc BK122 3; have hcz70_4 : w69.cell? ⟨gb122, 4, none⟩ = some (.int .i64 a0_4) := bc BK122 4; have hcz70_5 : w69.cell? ⟨gb122, 5, none⟩ = some (.string a0_5) := bc BK122 5; have hcz70_6 : w69.cell? ⟨gb122, 6, none⟩ = some (.string a0_6) := bc BK122 6; have hcz70_7 : w69.cell? ⟨gb122, 7, none⟩ = some (.string a0_7) := bc BK122 7; have hfz70_0 := blk_frozen BK122.out 0; have hfz70_1 := blk_frozen BK122.out 1; have hfz70_2 := blk_frozen BK122.out 2; have hfz70_3 := blk_frozen BK122.out 3; have hfz70_4 := blk_frozen BK122.out 4; have hfz70_5 := blk_frozen BK122.out 5; have hfz70_6 := blk_frozen BK122.out 6; have hfz70_7 := blk_frozen BK122.out 7) | ((with_reducible refine gate_callee (f := 61) rfl ?_); refine gl (some 8) Try.func61 #[.int .i64 a0_0, .int .i64 1, .int .i64 5] ?_; (with_reducible refine (spec_l01In.calls a0_0 1 5 true _ A2.out).mono ?_); rintro e w' ⟨rfl, ⟨nd, rfl⟩⟩; refine ⟨_, rfl, ?_⟩) | (go_at_call 61; (with_reducible refine (spec_l01In.calls a0_1 1 9999 true _ A4.out).mono ?_); rintro e w' ⟨rfl, ⟨nd, rfl⟩⟩) | (go_at_call 32; (with_reducible refine (spec_WordOk.calls k a0_5 true _ A51.out).mono ?_); rintro e w' ⟨rfl, ⟨nd, rfl⟩⟩) | (go_at_call 32; (with_reducible refine (spec_WordOk.calls k a0_6 false _ A53.out).mono ?_); rintro e w' ⟨rfl, ⟨nd, rfl⟩⟩))
        go_ret
        exact ⟨ew, by exact lT HB (gC GE122 gN)⟩
      ·replace c52 := Bool.eq_false_iff.mpr c52
       subst c52
       have H1 : (some false) = some r := by rw [if_neg (show ¬ (false = true) by decide)] at H; exact H
       clear H
       have H := H1
       clear H1
       obtain rfl := Option.some.inj H
       go_enter Try.func27, Try.ntmps27
       go_wp2_with (first | ((with_reducible refine gate_dst (N := 1) rfl ?_); refine bx 1 #[.int .i64 a0_0, .int .i64 a0_1, .int .i64 a0_2, .int .i64 a0_3, .int .i64 a0_4, .string a0_5, .string a0_6, .string a0_7] 23 ?_; intro gb122 hg w71 hbox hb; replace BK122 := ak (hbox); replace GW122 := ak (bz hg (lG HB)); replace GE122 := ak (bz hg (lG HB)); replace HB := lB HB hb; clear hb hbox hg; have hcz72_0 : w71.cell? ⟨gb122, 0, none⟩ = some (.int .i64 a0_0) := bc BK122 0; have hcz72_1 : w71.cell? ⟨gb122, 1, none⟩ = some (.int .i64 a0_1) := bc BK122 1; have hcz72_2 : w71.cell? ⟨gb122, 2, none⟩ = some (.int .i64 a0_2) := bc BK122 2; have hcz72_3 : w71.cell? ⟨gb122, 3, none⟩ = some (.int .i64 a0_3) := bc BK122 3; have hcz72_4 : w71.cell? ⟨gb122, 4, none⟩ = some (.int .i64 a0_4) := bc BK122 4; have hcz72_5 : w71.cell? ⟨gb122, 5, none⟩ = some (.string a0_5) := bc BK122 5; have hcz72_6 : w71.cell? ⟨gb122, 6, none⟩ = some (.string a0_6) := bc BK122 6; have hcz72_7 : w71.cell? ⟨gb122, 7, none⟩ = some (.string a0_7) := bc BK122 7; have hfz72_0 := blk_frozen BK122.out 0; have hfz72_1 := blk_frozen BK122.out 1; have hfz72_2 := blk_frozen BK122.out 2; have hfz72_3 := blk_frozen BK122.out 3; have hfz72_4 := blk_frozen BK122.out 4; have hfz72_5 := blk_frozen BK122.out 5; have hfz72_6 := blk_frozen BK122.out 6; have hfz72_7 := blk_frozen BK122.out 7) | ((with_reducible refine gate_callee (f := 61) rfl ?_); refine gl (some 8) Try.func61 #[.int .i64 a0_0, .int .i64 1, .int .i64 5] ?_; (with_reducible refine (spec_l01In.calls a0_0 1 5 true _ A2.out).mono ?_); rintro e w' ⟨rfl, ⟨nd, rfl⟩⟩; refine ⟨_, rfl, ?_⟩) | (go_at_call 61; (with_reducible refine (spec_l01In.calls a0_1 1 9999 true _ A4.out).mono ?_); rintro e w' ⟨rfl, ⟨nd, rfl⟩⟩) | (go_at_call 32; (with_reducible refine (spec_WordOk.calls k a0_5 false _ A51.out).mono ?_); rintro e w' ⟨rfl, ⟨nd, rfl⟩⟩))
       go_ret
       exact ⟨ew, by exact lT HB (gC GE122 gN)⟩
     ·rw [if_neg c50] at H
      have c50b0 : (a0_0 == 1) = false := beq_eq_false_iff_ne.mpr c50
      have c50b1 : (a0_0 != 1) = true := bne_iff_ne.mpr c50
      by_cases c73 : a0_5.toList = ([] : List UInt8)
      ·rw [if_pos c73] at H
       have c73b0 : (a0_5.toList == ([] : List UInt8)) = true := beq_iff_eq.mpr c73
       have c73b1 : (a0_5.toList != ([] : List UInt8)) = false := bne_eq_false_iff_eq.mpr c73
       clear c73
       by_cases c74 : a0_6.toList = ([] : List UInt8)
       ·rw [if_pos c74] at H
        have c74b0 : (a0_6.toList == ([] : List UInt8)) = true := beq_iff_eq.mpr c74
        have c74b1 : (a0_6.toList != ([] : List UInt8)) = false := bne_eq_false_iff_eq.mpr c74
        clear c74
        by_cases c75 : a0_3 = 0
        ·rw [if_pos c75] at H
         have c75b0 : (a0_3 == 0) = true := beq_iff_eq.mpr c75
         have c75b1 : (a0_3 != 0) = false := bne_eq_false_iff_eq.mpr c75
         clear c75
         replace H := Option.bind_eq_some_iff.mp H
         obtain ⟨t137, A760, H⟩ := H
         replace H : (if t137 = true then ((spec_l01In.f a0_4 0 7).bind fun t138 => (if t138 = true then (some (a0_7.toList == ([] : List UInt8))) else (some false))) else (some false)) = some r := H
         have A76 := Aside0.mk A760
         clear A760
         by_cases c77 : t137 = true
         ·subst c77
          have H1 : ((spec_l01In.f a0_4 0 7).bind fun t138 => (if t138 = true then (some (a0_7.toList == ([] : List UInt8))) else (some false))) = some r := by rw [if_pos rfl] at H; exact H
          clear H
          have H := H1
          clear H1
          replace H := Option.bind_eq_some_iff.mp H
          obtain ⟨t138, A780, H⟩ := H
          replace H : (if t138 = true then (some (a0_7.toList == ([] : List UInt8))) else (some false)) = some r := H
          have A78 := Aside0.mk A780
          clear A780
          by_cases c79 : t138 = true
          ·subst c79
           have H1 : (some (a0_7.toList == ([] : List UInt8))) = some r := by rw [if_pos rfl] at H; exact H
           clear H
           have H := H1
           clear H1
           obtain rfl := Option.some.inj H
           go_enter Try.func27, Try.ntmps27
           go_wp2_with (first | ((with_reducible refine gate_dst (N := 1) rfl ?_); refine bx 1 #[.int .i64 a0_0, .int .i64 a0_1, .int .i64 a0_2, .int .i64 a0_3, .int .i64 a0_4, .string a0_5, .string a0_6, .string a0_7] 23 ?_; intro gb122 hg w80 hbox hb; replace BK122 := ak (hbox); replace GW122 := ak (bz hg (lG HB)); replace GE122 := ak (bz hg (lG HB)); replace HB := lB HB hb; clear hb hbox hg; have hcz81_0 : w80.cell? ⟨gb122, 0, none⟩ = some (.int .i64 a0_0) := bc BK122 0; have hcz81_1 : w80.cell? ⟨gb122, 1, none⟩ = some (.int .i64 a0_1) := bc BK122 1; have hcz81_2 : w80.cell? ⟨gb122, 2, none⟩ = some (.int .i64 a0_2) := bc BK122 2; have hcz81_3 : w80.cell? ⟨gb122, 3, none⟩ = some (.int .i64 a0_3) := bc BK122 3; have hcz81_4 : w80.cell? ⟨gb122, 4, none⟩ = some (.int .i64 a0_4) := bc BK122 4; have hcz81_5 : w80.cell? ⟨gb122, 5, none⟩ = some (.string a0_5) := bc BK122 5; have hcz81_6 : w80.cell? ⟨gb122, 6, none⟩ = some (.string a0_6) := bc BK122 6; have hcz81_7 : w80.cell? ⟨gb122, 7, none⟩ = some (.string a0_7) := bc BK122 7; have hfz81_0 := blk_frozen BK122.out 0; have hfz81_1 := blk_frozen BK122.out 1; have hfz81_2 := blk_frozen BK122.out 2; have hfz81_3 := blk_frozen BK122.out 3; have hfz81_4 := blk_frozen BK122.out 4; have hfz81_5 := blk_frozen BK122.out 5; have hfz81_6 := blk_frozen BK122.out 6; have hfz81_7 := blk_frozen BK122.out 7) | ((with_reducible refine gate_callee (f := 61) rfl ?_); refine gl (some 8) Try.func61 #[.int .i64 a0_0, .int .i64 1, .int .i64 5] ?_; (with_reducible refine (spec_l01In.calls a0_0 1 5 true _ A2.out).mono ?_); rintro e w' ⟨rfl, ⟨nd, rfl⟩⟩; refine ⟨_, rfl, ?_⟩) | (go_at_call 61; (with_reducible refine (spec_l01In.calls a0_1 1 9999 true _ A4.out).mono ?_); rintro e w' ⟨rfl, ⟨nd, rfl⟩⟩) | (go_at_call 61; (with_reducible refine (spec_l01In.calls a0_2 1 9999 true _ A76.out).mono ?_); rintro e w' ⟨rfl, ⟨nd, rfl⟩⟩) | (go_at_call 61; (with_reducible refine (spec_l01In.calls a0_4 0 7 true _ A78.out).mono ?_); rintro e w' ⟨rfl, ⟨nd, rfl⟩⟩))
           go_ret
           exact ⟨ew, by exact lT HB (gC GE122 gN)⟩
          ·replace c79 := Bool.eq_false_iff.mpr c79
           subst c79
           have H1 : (some false) = some r := by rw [if_neg (show ¬ (false = true) by decide)] at H; exact H
           clear H
           have H := H1
           clear H1
           obtain rfl := Option.some.inj H
           go_enter Try.func27, Try.ntmps27
           go_wp2_with (first | ((with_reducible refine gate_dst (N := 1) rfl ?_); refine bx 1 #[.int .i64 a0_0, .int .i64 a0_1, .int .i64 a0_2, .int .i64 a0_3, .int .i64 a0_4, .string a0_5, .string a0_6, .string a0_7] 23 ?_; intro gb122 hg w82 hbox hb; replace BK122 := ak (hbox); replace GW122 := ak (bz hg (lG HB)); replace GE122 := ak (bz hg (lG HB)); replace HB := lB HB hb; clear hb hbox hg; have hcz83_0 : w82.cell? ⟨gb122, 0, none⟩ = some (.int .i64 a0_0) := bc BK122 0; have hcz83_1 : w82.cell? ⟨gb122, 1, none⟩ = some (.int .i64 a0_1) := bc BK122 1; have hcz83_2 : w82.cell? ⟨gb122, 2, none⟩ = some (.int .i64 a0_2) := bc BK122 2; have hcz83_3 : w82.cell? ⟨gb122, 3, none⟩ = some (.int .i64 a0_3) := bc BK122 3; have hcz83_4 : w82.cell? ⟨gb122, 4, none⟩ = some (.int .i64 a0_4) := bc BK122 4; have hcz83_5 : w82.cell? ⟨gb122, 5, none⟩ = some (.string a0_5) := bc BK122 5; have hcz83_6 : w82.cell? ⟨gb122, 6, none⟩ = some (.string a0_6) := bc BK122 6; have hcz83_7 : w82.cell? ⟨gb122, 7, none⟩ = some (.string a0_7) := bc BK122 7; have hfz83_0 := blk_frozen BK122.out 0; have hfz83_1 := blk_frozen BK122.out 1; have hfz83_2 := blk_frozen BK122.out 2; have hfz83_3 := blk_frozen BK122.out 3; have hfz83_4 := blk_frozen BK122.out 4; have hfz83_5 := blk_frozen BK122.out 5; have hfz83_6 := blk_frozen BK122.out 6; have hfz83_7 := blk_frozen BK122.out 7) | ((with_reducible refine gate_callee (f := 61) rfl ?_); refine gl (some 8) Try.func61 #[.int .i64 a0_0, .int .i64 1, .int .i64 5] ?_; (with_reducible refine (spec_l01In.calls a0_0 1 5 true _ A2.out).mono ?_); rintro e w' ⟨rfl, ⟨nd, rfl⟩⟩; refine ⟨_, rfl, ?_⟩) | (go_at_call 61; (with_reducible refine (spec_l01In.calls a0_1 1 9999 true _ A4.out).mono ?_); rintro e w' ⟨rfl, ⟨nd, rfl⟩⟩) | (go_at_call 61; (with_reducible refine (spec_l01In.calls a0_2 1 9999 true _ A76.out).mono ?_); rintro e w' ⟨rfl, ⟨nd, rfl⟩⟩) | (go_at_call 61; (with_reducible refine (spec_l01In.calls a0_4 0 7 false _ A78.out).mono ?_); rintro e w' ⟨rfl, ⟨nd, rfl⟩⟩))
           go_ret
           exact ⟨ew, by exact lT HB (gC GE122 gN)⟩
         ·replace c77 := Bool.eq_false_iff.mpr c77
          subst c77
          have H1 : (some false) = some r := by rw [if_neg (show ¬ (false = true) by decide)] at H; exact H
          clear H
          have H := H1
          clear H1
          obtain rfl := Option.some.inj H
          go_enter Try.func27, Try.ntmps27
          go_wp2_with (first | ((with_reducible refine gate_dst (N := 1) rfl ?_); refine bx 1 #[.int .i64 a0_0, .int .i64 a0_1, .int .i64 a0_2, .int .i64 a0_3, .int .i64 a0_4, .string a0_5, .string a0_6, .string a0_7] 23 ?_; intro gb122 hg w84 hbox hb; replace BK122 := ak (hbox); replace GW122 := ak (bz hg (lG HB)); replace GE122 := ak (bz hg (lG HB)); replace HB := lB HB hb; clear hb hbox hg; have hcz85_0 : w84.cell? ⟨gb122, 0, none⟩ = some (.int .i64 a0_0) := bc BK122 0; have hcz85_1 : w84.cell? ⟨gb122, 1, none⟩ = some (.int .i64 a0_1) := bc BK122 1; have hcz85_2 : w84.cell? ⟨gb122, 2, none⟩ = some (.int .i64 a0_2) := bc BK122 2; have hcz85_3 : w84.cell? ⟨gb122, 3, none⟩ = some (.int .i64 a0_3) := bc BK122 3; have hcz85_4 : w84.cell? ⟨gb122, 4, none⟩ = some (.int .i64 a0_4) := bc BK122 4; have hcz85_5 : w84.cell? ⟨gb122, 5, none⟩ = some (.string a0_5) := bc BK122 5; have hcz85_6 : w84.cell? ⟨gb122, 6, none⟩ = some (.string a0_6) := bc BK122 6; have hcz85_7 : w84.cell? ⟨gb122, 7, none⟩ = some (.string a0_7) := bc BK122 7; have hfz85_0 := blk_frozen BK122.out 0; have hfz85_1 := blk_frozen BK122.out 1; have hfz85_2 := blk_frozen BK122.out 2; have hfz85_3 := blk_frozen BK122.out 3; have hfz85_4 := blk_frozen BK122.out 4; have hfz85_5 := blk_frozen BK122.out 5; have hfz85_6 := blk_frozen BK122.out 6; have hfz85_7 := blk_frozen BK122.out 7) | ((with_reducible refine gate_callee (f := 61) rfl ?_); refine gl (some 8) Try.func61 #[.int .i64 a0_0, .int .i64 1, .int .i64 5] ?_; (with_reducible refine (spec_l01In.calls a0_0 1 5 true _ A2.out).mono ?_); rintro e w' ⟨rfl, ⟨nd, rfl⟩⟩; refine ⟨_, rfl, ?_⟩) | (go_at_call 61; (with_reducible refine (spec_l01In.calls a0_1 1 9999 true _ A4.out).mono ?_); rintro e w' ⟨rfl, ⟨nd, rfl⟩⟩) | (go_at_call 61; (with_reducible refine (spec_l01In.calls a0_2 1 9999 false _ A76.out).mono ?_); rintro e w' ⟨rfl, ⟨nd, rfl⟩⟩))
          go_ret
          exact ⟨ew, by exact lT HB (gC GE122 gN)⟩
        ·rw [if_neg c75] at H
         have c75b0 : (a0_3 == 0) = false := beq_eq_false_iff_ne.mpr c75
         have c75b1 : (a0_3 != 0) = true := bne_iff_ne.mpr c75
         obtain rfl := Option.some.inj H
         go_enter Try.func27, Try.ntmps27
         go_wp2_with (first | ((with_reducible refine gate_dst (N := 1) rfl ?_); refine bx 1 #[.int .i64 a0_0, .int .i64 a0_1, .int .i64 a0_2, .int .i64 a0_3, .int .i64 a0_4, .string a0_5, .string a0_6, .string a0_7] 23 ?_; intro gb122 hg w86 hbox hb; replace BK122 := ak (hbox); replace GW122 := ak (bz hg (lG HB)); replace GE122 := ak (bz hg (lG HB)); replace HB := lB HB hb; clear hb hbox hg; have hcz87_0 : w86.cell? ⟨gb122, 0, none⟩ = some (.int .i64 a0_0) := bc BK122 0; have hcz87_1 : w86.cell? ⟨gb122, 1, none⟩ = some (.int .i64 a0_1) := bc BK122 1; have hcz87_2 : w86.cell? ⟨gb122, 2, none⟩ = some (.int .i64 a0_2) := bc BK122 2; have hcz87_3 : w86.cell? ⟨gb122, 3, none⟩ = some (.int .i64 a0_3) := bc BK122 3; have hcz87_4 : w86.cell? ⟨gb122, 4, none⟩ = some (.int .i64 a0_4) := bc BK122 4; have hcz87_5 : w86.cell? ⟨gb122, 5, none⟩ = some (.string a0_5) := bc BK122 5; have hcz87_6 : w86.cell? ⟨gb122, 6, none⟩ = some (.string a0_6) := bc BK122 6; have hcz87_7 : w86.cell? ⟨gb122, 7, none⟩ = some (.string a0_7) := bc BK122 7; have hfz87_0 := blk_frozen BK122.out 0; have hfz87_1 := blk_frozen BK122.out 1; have hfz87_2 := blk_frozen BK122.out 2; have hfz87_3 := blk_frozen BK122.out 3; have hfz87_4 := blk_frozen BK122.out 4; have hfz87_5 := blk_frozen BK122.out 5; have hfz87_6 := blk_frozen BK122.out 6; have hfz87_7 := blk_frozen BK122.out 7) | ((with_reducible refine gate_callee (f := 61) rfl ?_); refine gl (some 8) Try.func61 #[.int .i64 a0_0, .int .i64 1, .int .i64 5] ?_; (with_reducible refine (spec_l01In.calls a0_0 1 5 true _ A2.out).mono ?_); rintro e w' ⟨rfl, ⟨nd, rfl⟩⟩; refine ⟨_, rfl, ?_⟩) | (go_at_call 61; (with_reducible refine (spec_l01In.calls a0_1 1 9999 true _ A4.out).mono ?_); rintro e w' ⟨rfl, ⟨nd, rfl⟩⟩))
         go_ret
         exact ⟨ew, by exact lT HB (gC GE122 gN)⟩
       ·rw [if_neg c74] at H
        have c74b0 : (a0_6.toList == ([] : List UInt8)) = false := beq_eq_false_iff_ne.mpr c74
        have c74b1 : (a0_6.toList != ([] : List UInt8)) = true := bne_iff_ne.mpr c74
        obtain rfl := Option.some.inj H
        go_enter Try.func27, Try.ntmps27
        go_wp2_with (first | ((with_reducible refine gate_dst (N := 1) rfl ?_); refine bx 1 #[.int .i64 a0_0, .int .i64 a0_1, .int .i64 a0_2, .int .i64 a0_3, .int .i64 a0_4, .string a0_5, .string a0_6, .string a0_7] 23 ?_; intro gb122 hg w88 hbox hb; replace BK122 := ak (hbox); replace GW122 := ak (bz hg (lG HB)); replace GE122 := ak (bz hg (lG HB)); replace HB := lB HB hb; clear hb hbox hg; have hcz89_0 : w88.cell? ⟨gb122, 0, none⟩ = some (.int .i64 a0_0) := bc BK122 0; have hcz89_1 : w88.cell? ⟨gb122, 1, none⟩ = some (.int .i64 a0_1) := bc BK122 1; have hcz89_2 : w88.cell? ⟨gb122, 2, none⟩ = some (.int .i64 a0_2) := bc BK122 2; have hcz89_3 : w88.cell? ⟨gb122, 3, none⟩ = some (.int .i64 a0_3) := bc BK122 3; have hcz89_4 : w88.cell? ⟨gb122, 4, none⟩ = some (.int .i64 a0_4) := bc BK122 4; have hcz89_5 : w88.cell? ⟨gb122, 5, none⟩ = some (.string a0_5) := bc BK122 5; have hcz89_6 : w88.cell? ⟨gb122, 6, none⟩ = some (.string a0_6) := bc BK122 6; have hcz89_7 : w88.cell? ⟨gb122, 7, none⟩ = some (.string a0_7) := bc BK122 7; have hfz89_0 := blk_frozen BK122.out 0; have hfz89_1 := blk_frozen BK122.out 1; have hfz89_2 := blk_frozen BK122.out 2; have hfz89_3 := blk_frozen BK122.out 3; have hfz89_4 := blk_frozen BK122.out 4; have hfz89_5 := blk_frozen BK122.out 5; have hfz89_6 := blk_frozen BK122.out 6; have hfz89_7 := blk_frozen BK122.out 7) | ((with_reducible refine gate_callee (f := 61) rfl ?_); refine gl (some 8) Try.func61 #[.int .i64 a0_0, .int .i64 1, .int .i64 5] ?_; (with_reducible refine (spec_l01In.calls a0_0 1 5 true _ A2.out).mono ?_); rintro e w' ⟨rfl, ⟨nd, rfl⟩⟩; refine ⟨_, rfl, ?_⟩) | (go_at_call 61; (with_reducible refine (spec_l01In.calls a0_1 1 9999 true _ A4.out).mono ?_); rintro e w' ⟨rfl, ⟨nd, rfl⟩⟩))
        go_ret
        exact ⟨ew, by exact lT HB (gC GE122 gN)⟩
      ·rw [if_neg c73] at H
       have c73b0 : (a0_5.toList == ([] : List UInt8)) = false := beq_eq_false_iff_ne.mpr c73
       have c73b1 : (a0_5.toList != ([] : List UInt8)) = true := bne_iff_ne.mpr c73
       obtain rfl := Option.some.inj H
       go_enter Try.func27, Try.ntmps27
       go_wp2_with (first | ((with_reducible refine gate_dst (N := 1) rfl ?_); refine bx 1 #[.int .i64 a0_0, .int .i64 a0_1, .int .i64 a0_2, .int .i64 a0_3, .int .i64 a0_4, .string a0_5, .string a0_6, .string a0_7] 23 ?_; intro gb122 hg w90 hbox hb; replace BK122 := ak (hbox); replace GW122 := ak (bz hg (lG HB)); replace GE122 := ak (bz hg (lG HB)); replace HB := lB HB hb; clear hb hbox hg; have hcz91_0 : w90.cell? ⟨gb122, 0, none⟩ = some (.int .i64 a0_0) := bc BK122 0; have hcz91_1 : w90.cell? ⟨gb122, 1, none⟩ = some (.int .i64 a0_1) := bc BK122 1; have hcz91_2 : w90.cell? ⟨gb122, 2, none⟩ = some (.int .i64 a0_2) := bc BK122 2; have hcz91_3 : w90.cell? ⟨gb122, 3, none⟩ = some (.int .i64 a0_3) := bc BK122 3; have hcz91_4 : w90.cell? ⟨gb122, 4, none⟩ = some (.int .i64 a0_4) := bc BK122 4; have hcz91_5 : w90.cell? ⟨gb122, 5, none⟩ = some (.string a0_5) := bc BK122 5; have hcz91_6 : w90.cell? ⟨gb122, 6, none⟩ = some (.string a0_6) := bc BK122 6; have hcz91_7 : w90.cell? ⟨gb122, 7, none⟩ = some (.string a0_7) := bc BK122 7; have hfz91_0 := blk_frozen BK122.out 0; have hfz91_1 := blk_frozen BK122.out 1; have hfz91_2 := blk_frozen BK122.out 2; have hfz91_3 := blk_frozen BK122.out 3; have hfz91_4 := blk_frozen BK122.out 4; have hfz91_5 := blk_frozen BK122.out 5; have hfz91_6 := blk_frozen BK122.out 6; have hfz91_7 := blk_frozen BK122.out 7) | ((with_reducible refine gate_callee (f := 61) rfl ?_); refine gl (some 8) Try.func61 #[.int .i64 a0_0, .int .i64 1, .int .i64 5] ?_; (with_reducible refine (spec_l01In.calls a0_0 1 5 true _ A2.out).mono ?_); rintro e w' ⟨rfl, ⟨nd, rfl⟩⟩; refine ⟨_, rfl, ?_⟩) | (go_at_call 61; (with_reducible refine (spec_l01In.calls a0_1 1 9999 true _ A4.out).mono ?_); rintro e w' ⟨rfl, ⟨nd, rfl⟩⟩))
       go_ret
       exact ⟨ew, by exact lT HB (gC GE122 gN)⟩
    ·rw [if_neg c49] at H
     have c49b0 : (a0_0 == 4) = false := beq_eq_false_iff_ne.mpr c49
     have c49b1 : (a0_0 != 4) = true := bne_iff_ne.mpr c49
     by_cases c92 : a0_0 = 1
     ·rw [if_pos c92] at H
      have c92b0 : (a0_0 == 1) = true := beq_iff_eq.mpr c92
      have c92b1 : (a0_0 != 1) = false := bne_eq_false_iff_eq.mpr c92
      clear c92
      replace H := Option.bind_eq_some_iff.mp H
      obtain ⟨t139, A930, H⟩ := H
      replace H : (if t139 = true then ((spec_WordOk.f k a0_6).bind fun t140 => (if t140 = true then ((spec_l01In.f a0_3 1 10000).bind fun t141 => (if t141 = true then (if a0_0 = 5 then ((spec_l01In.f a0_2 1 9999).bind fun t142 => (if t142 = true then (if a0_4 = 0 then (some (a0_7.toList == ([] : List UInt8))) else (some false)) else (some false))) else (if a0_2 = 0 then (if a0_4 = 0 then (some (a0_7.toList == ([] : List UInt8))) else (some false)) else (some false))) else (some false))) else (some false))) else (some false)) = some r := H
      have A93 := Aside0.mk A930
      clear A930
      by_cases c94 : t139 = true
      ·subst c94
       have H1 : ((spec_WordOk.f k a0_6).bind fun t140 => (if t140 = true then ((spec_l01In.f a0_3 1 10000).bind fun t141 => (if t141 = true then (if a0_0 = 5 then ((spec_l01In.f a0_2 1 9999).bind fun t142 => (if t142 = true then (if a0_4 = 0 then (some (a0_7.toList == ([] : List UInt8))) else (some false)) else (some false))) else (if a0_2 = 0 then (if a0_4 = 0 then (some (a0_7.toList == ([] : List UInt8))) else (some false)) else (some false))) else (some false))) else (some false))) = some r := by rw [if_pos rfl] at H; exact H
       clear H
       have H := H1
       clear H1
       replace H := Option.bind_eq_some_iff.mp H
       obtain ⟨t140, A950, H⟩ := H
       replace H : (if t140 = true then ((spec_l01In.f a0_3 1 10000).bind fun t141 => (if t141 = true then (if a0_0 = 5 then ((spec_l01In.f a0_2 1 9999).bind fun t142 => (if t142 = true then (if a0_4 = 0 then (some (a0_7.toList == ([] : List UInt8))) else (some false)) else (some false))) else (if a0_2 = 0 then (if a0_4 = 0 then (some (a0_7.toList == ([] : List UInt8))) else (some false)) else (some false))) else (some false))) else (some false)) = some r := H
       have A95 := Aside0.mk A950
       clear A950
       by_cases c96 : t140 = true
       ·subst c96
        have H1 : ((spec_l01In.f a0_3 1 10000).bind fun t141 => (if t141 = true then (if a0_0 = 5 then ((spec_l01In.f a0_2 1 9999).bind fun t142 => (if t142 = true then (if a0_4 = 0 then (some (a0_7.toList == ([] : List UInt8))) else (some false)) else (some false))) else (if a0_2 = 0 then (if a0_4 = 0 then (some (a0_7.toList == ([] : List UInt8))) else (some false)) else (some false))) else (some false))) = some r := by rw [if_pos rfl] at H; exact H
        clear H
        have H := H1
        clear H1
        replace H := Option.bind_eq_some_iff.mp H
        obtain ⟨t141, A970, H⟩ := H
        replace H : (if t141 = true then (if a0_0 = 5 then ((spec_l01In.f a0_2 1 9999).bind fun t142 => (if t142 = true then (if a0_4 = 0 then (some (a0_7.toList == ([] : List UInt8))) else (some false)) else (some false))) else (if a0_2 = 0 then (if a0_4 = 0 then (some (a0_7.toList == ([] : List UInt8))) else (some false)) else (some false))) else (some false)) = some r := H
        have A97 := Aside0.mk A970
        clear A970
        by_cases c98 : t141 = true
        ·subst c98
         have H1 : (if a0_0 = 5 then ((spec_l01In.f a0_2 1 9999).bind fun t142 => (if t142 = true then (if a0_4 = 0 then (some (a0_7.toList == ([] : List UInt8))) else (some false)) else (some false))) else (if a0_2 = 0 then (if a0_4 = 0 then (some (a0_7.toList == ([] : List UInt8))) else (some false)) else (some false))) = some r := by rw [if_pos rfl] at H; exact H
         clear H
         have H := H1
         clear H1
         by_cases c99 : a0_0 = 5
         ·rw [if_pos c99] at H
          have c99b0 : (a0_0 == 5) = true := beq_iff_eq.mpr c99
          have c99b1 : (a0_0 != 5) = false := bne_eq_false_iff_eq.mpr c99
          clear c99
          replace H := Option.bind_eq_some_iff.mp H
          obtain ⟨t142, A1000, H⟩ := H
          replace H : (if t142 = true then (if a0_4 = 0 then (some (a0_7.toList == ([] : List UInt8))) else (some false)) else (some false)) = some r := H
          have A100 := Aside0.mk A1000
          clear A1000
          by_cases c101 : t142 = true
          ·subst c101
           have H1 : (if a0_4 = 0 then (some (a0_7.toList == ([] : List UInt8))) else (some false)) = some r := by rw [if_pos rfl] at H; exact H
           clear H
           have H := H1
           clear H1
           by_cases c102 : a0_4 = 0
           ·rw [if_pos c102] at H
            have c102b0 : (a0_4 == 0) = true := beq_iff_eq.mpr c102
            have c102b1 : (a0_4 != 0) = false := bne_eq_false_iff_eq.mpr c102
            clear c102
            obtain rfl := Option.some.inj H
            go_enter Try.func27, Try.ntmps27
            go_wp2_with (first | ((with_reducible refine gate_dst (N := 1) rfl ?_); refine bx 1 #[.int .i64 a0_0, .int .i64 a0_1, .int .i64 a0_2, .int .i64 a0_3, .int .i64 a0_4, .string a0_5, .string a0_6, .string a0_7] 23 ?_; intro gb122 hg w103 hbox hb; replace BK122 := ak (hbox); replace GW122 := ak (bz hg (lG HB)); replace GE122 := ak (bz hg (lG HB)); replace HB := lB HB hb; clear hb hbox hg; have hcz104_0 : w103.cell? ⟨gb122, 0, none⟩ = some (.int .i64 a0_0) := bc BK122 0; have hcz104_1 : w103.cell? ⟨gb122, 1, none⟩ = some (.int .i64 a0_1) := bc BK122 1; have hcz104_2 : w103.cell? ⟨gb122, 2, none⟩ = some (.int .i64 a0_2) := bc BK122 2; have hcz104_3 : w103.cell? ⟨gb122, 3, none⟩ = some (.int .i64 a0_3) := bc BK122 3; have hcz104_4 : w103.cell? ⟨gb122, 4, none⟩ = some (.int .i64 a0_4) := bc BK122 4; have hcz104_5 : w103.cell? ⟨gb122, 5, none⟩ = some (.string a0_5) := bc BK122 5; have hcz104_6 : w103.cell? ⟨gb122, 6, none⟩ = some (.string a0_6) := bc BK122 6; have hcz104_7 : w103.cell? ⟨gb122, 7, none⟩ = some (.string a0_7) := bc BK122 7; have hfz104_0 := blk_frozen BK122.out 0; have hfz104_1 := blk_frozen BK122.out 1; have hfz104_2 := blk_frozen BK122.out 2; have hfz104_3 := blk_frozen BK122.out 3; have hfz104_4 := blk_frozen BK122.out 4; have hfz104_5 := blk_frozen BK122.out 5; have hfz104_6 := blk_frozen BK122.out 6; have hfz104_7 := blk_frozen BK122.out 7) | ((with_reducible refine gate_callee (f := 61) rfl ?_); refine gl (some 8) Try.func61 #[.int .i64 a0_0, .int .i64 1, .int .i64 5] ?_; (with_reducible refine (spec_l01In.calls a0_0 1 5 true _ A2.out).mono ?_); rintro e w' ⟨rfl, ⟨nd, rfl⟩⟩; refine ⟨_, rfl, ?_⟩) | (go_at_call 61; (with_reducible refine (spec_l01In.calls a0_1 1 9999 true _ A4.out).mono ?_); rintro e w' ⟨rfl, ⟨nd, rfl⟩⟩) | (go_at_call 32; (with_reducible refine (spec_WordOk.calls k a0_5 true _ A93.out).mono ?_); rintro e w' ⟨rfl, ⟨nd, rfl⟩⟩) | (go_at_call 32; (with_reducible refine (spec_WordOk.calls k a0_6 true _ A95.out).mono ?_); rintro e w' ⟨rfl, ⟨nd, rfl⟩⟩) | (go_at_call 61; (with_reducible refine (spec_l01In.calls a0_3 1 10000 true _ A97.out).mono ?_); rintro e w' ⟨rfl, ⟨nd, rfl⟩⟩) | (go_at_call 61; (with_reducible refine (spec_l01In.calls a0_2 1 9999 true _ A100.out).mono ?_); rintro e w' ⟨rfl, ⟨nd, rfl⟩⟩))
            go_ret
            exact ⟨ew, by exact lT HB (gC GE122 gN)⟩
           ·rw [if_neg c102] at H
            have c102b0 : (a0_4 == 0) = false := beq_eq_false_iff_ne.mpr c102
            have c102b1 : (a0_4 != 0) = true := bne_iff_ne.mpr c102
            obtain rfl := Option.some.inj H
            go_enter Try.func27, Try.ntmps27
            go_wp2_with (first | ((with_reducible refine gate_dst (N := 1) rfl ?_); refine bx 1 #[.int .i64 a0_0, .int .i64 a0_1, .int .i64 a0_2, .int .i64 a0_3, .int .i64 a0_4, .string a0_5, .string a0_6, .string a0_7] 23 ?_; intro gb122 hg w105 hbox hb; replace BK122 := ak (hbox); replace GW122 := ak (bz hg (lG HB)); replace GE122 := ak (bz hg (lG HB)); replace HB := lB HB hb; clear hb hbox hg; have hcz106_0 : w105.cell? ⟨gb122, 0, none⟩ = some (.int .i64 a0_0) := bc BK122 0; have hcz106_1 : w105.cell? ⟨gb122, 1, none⟩ = some (.int .i64 a0_1) := bc BK122 1; have hcz106_2 : w105.cell? ⟨gb122, 2, none⟩ = some (.int .i64 a0_2) := bc BK122 2; have hcz106_3 : w105.cell? ⟨gb122, 3, none⟩ = some (.int .i64 a0_3) := bc BK122 3; have hcz106_4 : w105.cell? ⟨gb122, 4, none⟩ = some (.int .i64 a0_4) := bc BK122 4; have hcz106_5 : w105.cell? ⟨gb122, 5, none⟩ = some (.string a0_5) := bc BK122 5; have hcz106_6 : w105.cell? ⟨gb122, 6, none⟩ = some (.string a0_6) := bc BK122 6; have hcz106_7 : w105.cell? ⟨gb122, 7, none⟩ = some (.string a0_7) := bc BK122 7; have hfz106_0 := blk_frozen BK122.out 0; have hfz106_1 := blk_frozen BK122.out 1; have hfz106_2 := blk_frozen BK122.out 2; have hfz106_3 := blk_frozen BK122.out 3; have hfz106_4 := blk_frozen BK122.out 4; have hfz106_5 := blk_frozen BK122.out 5; have hfz106_6 := blk_frozen BK122.out 6; have hfz106_7 := blk_frozen BK122.out 7) | ((with_reducible refine gate_callee (f := 61) rfl ?_); refine gl (some 8) Try.func61 #[.int .i64 a0_0, .int .i64 1, .int .i64 5] ?_; (with_reducible refine (spec_l01In.calls a0_0 1 5 true _ A2.out).mono ?_); rintro e w' ⟨rfl, ⟨nd, rfl⟩⟩; refine ⟨_, rfl, ?_⟩) | (go_at_call 61; (with_reducible refine (spec_l01In.calls a0_1 1 9999 true _ A4.out).mono ?_); rintro e w' ⟨rfl, ⟨nd, rfl⟩⟩) | (go_at_call 32; (with_reducible refine (spec_WordOk.calls k a0_5 true _ A93.out).mono ?_); rintro e w' ⟨rfl, ⟨nd, rfl⟩⟩) | (go_at_call 32; (with_reducible refine (spec_WordOk.calls k a0_6 true _ A95.out).mono ?_); rintro e w' ⟨rfl, ⟨nd, rfl⟩⟩) | (go_at_call 61; (with_reducible refine (spec_l01In.calls a0_3 1 10000 true _ A97.out).mono ?_); rintro e w' ⟨rfl, ⟨nd, rfl⟩⟩) | (go_at_call 61; (with_reducible refine (spec_l01In.calls a0_2 1 9999 true _ A100.out).mono ?_); rintro e w' ⟨rfl, ⟨nd, rfl⟩⟩))
            go_ret
            exact ⟨ew, by exact lT HB (gC GE122 gN)⟩
          ·replace c101 := Bool.eq_false_iff.mpr c101
           subst c101
           have H1 : (some false) = some r := by rw [if_neg (show ¬ (false = true) by decide)] at H; exact H
           clear H
           have H := H1
           clear H1
           obtain rfl := Option.some.inj H
           go_enter Try.func27, Try.ntmps27
           go_wp2_with (first | ((with_reducible refine gate_dst (N := 1) rfl ?_); refine bx 1 #[.int .i64 a0_0, .int .i64 a0_1, .int .i64 a0_2, .int .i64 a0_3, .int .i64 a0_4, .string a0_5, .string a0_6, .string a0_7] 23 ?_; intro gb122 hg w107 hbox hb; replace BK122 := ak (hbox); replace GW122 := ak (bz hg (lG HB)); replace GE122 := ak (bz hg (lG HB)); replace HB := lB HB hb; clear hb hbox hg; have hcz108_0 : w107.cell? ⟨gb122, 0, none⟩ = some (.int .i64 a0_0) := bc BK122 0; have hcz108_1 : w107.cell? ⟨gb122, 1, none⟩ = some (.int .i64 a0_1) := bc BK122 1; have hcz108_2 : w107.cell? ⟨gb122, 2, none⟩ = some (.int .i64 a0_2) := bc BK122 2; have hcz108_3 : w107.cell? ⟨gb122, 3, none⟩ = some (.int .i64 a0_3) := bc BK122 3; have hcz108_4 : w107.cell? ⟨gb122, 4, none⟩ = some (.int .i64 a0_4) := bc BK122 4; have hcz108_5 : w107.cell? ⟨gb122, 5, none⟩ = some (.string a0_5) := bc BK122 5; have hcz108_6 : w107.cell? ⟨gb122, 6, none⟩ = some (.string a0_6) := bc BK122 6; have hcz108_7 : w107.cell? ⟨gb122, 7, none⟩ = some (.string a0_7) := bc BK122 7; have hfz108_0 := blk_frozen BK122.out 0; have hfz108_1 := blk_frozen BK122.out 1; have hfz108_2 := blk_frozen BK122.out 2; have hfz108_3 := blk_frozen BK122.out 3; have hfz108_4 := blk_frozen BK122.out 4; have hfz108_5 := blk_frozen BK122.out 5; have hfz108_6 := blk_frozen BK122.out 6; have hfz108_7 := blk_frozen BK122.out 7) | ((with_reducible refine gate_callee (f := 61) rfl ?_); refine gl (some 8) Try.func61 #[.int .i64 a0_0, .int .i64 1, .int .i64 5] ?_; (with_reducible refine (spec_l01In.calls a0_0 1 5 true _ A2.out).mono ?_); rintro e w' ⟨rfl, ⟨nd, rfl⟩⟩; refine ⟨_, rfl, ?_⟩) | (go_at_call 61; (with_reducible refine (spec_l01In.calls a0_1 1 9999 true _ A4.out).mono ?_); rintro e w' ⟨rfl, ⟨nd, rfl⟩⟩) | (go_at_call 32; (with_reducible refine (spec_WordOk.calls k a0_5 true _ A93.out).mono ?_); rintro e w' ⟨rfl, ⟨nd, rfl⟩⟩) | (go_at_call 32; (with_reducible refine (spec_WordOk.calls k a0_6 true _ A95.out).mono ?_); rintro e w' ⟨rfl, ⟨nd, rfl⟩⟩) | (go_at_call 61; (with_reducible refine (spec_l01In.calls a0_3 1 10000 true _ A97.out).mono ?_); rintro e w' ⟨rfl, ⟨nd, rfl⟩⟩) | (go_at_call 61; (with_reducible refine (spec_l01In.calls a0_2 1 9999 false _ A100.out).mono ?_); rintro e w' ⟨rfl, ⟨nd, rfl⟩⟩))
           go_ret
           exact ⟨ew, by exact lT HB (gC GE122 gN)⟩
         ·rw [if_neg c99] at H
          have c99b0 : (a0_0 == 5) = false := beq_eq_false_iff_ne.mpr c99
          have c99b1 : (a0_0 != 5) = true := bne_iff_ne.mpr c99
          by_cases c109 : a0_2 = 0
          ·rw [if_pos c109] at H
           have c109b0 : (a0_2 == 0) = true := beq_iff_eq.mpr c109
           have c109b1 : (a0_2 != 0) = false := bne_eq_false_iff_eq.mpr c109
           clear c109
           by_cases c110 : a0_4 = 0
           ·rw [if_pos c110] at H
            have c110b0 : (a0_4 == 0) = true := beq_iff_eq.mpr c110
            have c110b1 : (a0_4 != 0) = false := bne_eq_false_iff_eq.mpr c110
            clear c110
            obtain rfl := Option.some.inj H
            go_enter Try.func27, Try.ntmps27
            go_wp2_with (first | ((with_reducible refine gate_dst (N := 1) rfl ?_); refine bx 1 #[.int .i64 a0_0, .int .i64 a0_1, .int .i64 a0_2, .int .i64 a0_3, .int .i64 a0_4, .string a0_5, .string a0_6, .string a0_7] 23 ?_; intro gb122 hg w111 hbox hb; replace BK122 := ak (hbox); replace GW122 := ak (bz hg (lG HB)); replace GE122 := ak (bz hg (lG HB)); replace HB := lB HB hb; clear hb hbox hg; have hcz112_0 : w111.cell? ⟨gb122, 0, none⟩ = some (.int .i64 a0_0) := bc BK122 0; have hcz112_1 : w111.cell? ⟨gb122, 1, none⟩ = some (.int .i64 a0_1) := bc BK122 1; have hcz112_2 : w111.cell? ⟨gb122, 2, none⟩ = some (.int .i64 a0_2) := bc BK122 2; have hcz112_3 : w111.cell? ⟨gb122, 3, none⟩ = some (.int .i64 a0_3) := bc BK122 3; have hcz112_4 : w111.cell? ⟨gb122, 4, none⟩ = some (.int .i64 a0_4) := bc BK122 4; have hcz112_5 : w111.cell? ⟨gb122, 5, none⟩ = some (.string a0_5) := bc BK122 5; have hcz112_6 : w111.cell? ⟨gb122, 6, none⟩ = some (.string a0_6) := bc BK122 6; have hcz112_7 : w111.cell? ⟨gb122, 7, none⟩ = some (.string a0_7) := bc BK122 7; have hfz112_0 := blk_frozen BK122.out 0; have hfz112_1 := blk_frozen BK122.out 1; have hfz112_2 := blk_frozen BK122.out 2; have hfz112_3 := blk_frozen BK122.out 3; have hfz112_4 := blk_frozen BK122.out 4; have hfz112_5 := blk_frozen BK122.out 5; have hfz112_6 := blk_frozen BK122.out 6; have hfz112_7 := blk_frozen BK122.out 7) | ((with_reducible refine gate_callee (f := 61) rfl ?_); refine gl (some 8) Try.func61 #[.int .i64 a0_0, .int .i64 1, .int .i64 5] ?_; (with_reducible refine (spec_l01In.calls a0_0 1 5 true _ A2.out).mono ?_); rintro e w' ⟨rfl, ⟨nd, rfl⟩⟩; refine ⟨_, rfl, ?_⟩) | (go_at_call 61; (with_reducible refine (spec_l01In.calls a0_1 1 9999 true _ A4.out).mono ?_); rintro e w' ⟨rfl, ⟨nd, rfl⟩⟩) | (go_at_call 32; (with_reducible refine (spec_WordOk.calls k a0_5 true _ A93.out).mono ?_); rintro e w' ⟨rfl, ⟨nd, rfl⟩⟩) | (go_at_call 32; (with_reducible refine (spec_WordOk.calls k a0_6 true _ A95.out).mono ?_); rintro e w' ⟨rfl, ⟨nd, rfl⟩⟩) | (go_at_call 61; (with_reducible refine (spec_l01In.calls a0_3 1 10000 true _ A97.out).mono ?_); rintro e w' ⟨rfl, ⟨nd, rfl⟩⟩))
            go_ret
            exact ⟨ew, by exact lT HB (gC GE122 gN)⟩
           ·rw [if_neg c110] at H
            have c110b0 : (a0_4 == 0) = false := beq_eq_false_iff_ne.mpr c110
            have c110b1 : (a0_4 != 0) = true := bne_iff_ne.mpr c110
            obtain rfl := Option.some.inj H
            go_enter Try.func27, Try.ntmps27
            go_wp2_with (first | ((with_reducible refine gate_dst (N := 1) rfl ?_); refine bx 1 #[.int .i64 a0_0, .int .i64 a0_1, .int .i64 a0_2, .int .i64 a0_3, .int .i64 a0_4, .string a0_5, .string a0_6, .string a0_7] 23 ?_; intro gb122 hg w113 hbox hb; replace BK122 := ak (hbox); replace GW122 := ak (bz hg (lG HB)); replace GE122 := ak (bz hg (lG HB)); replace HB := lB HB hb; clear hb hbox hg; have hcz114_0 : w113.cell? ⟨gb122, 0, none⟩ = some (.int .i64 a0_0) := bc BK122 0; have hcz114_1 : w113.cell? ⟨gb122, 1, none⟩ = some (.int .i64 a0_1) := bc BK122 1; have hcz114_2 : w113.cell? ⟨gb122, 2, none⟩ = some (.int .i64 a0_2) := bc BK122 2; have hcz114_3 : w113.cell? ⟨gb122, 3, none⟩ = some (.int .i64 a0_3) := bc BK122 3; have hcz114_4 : w113.cell? ⟨gb122, 4, none⟩ = some (.int .i64 a0_4) := bc BK122 4; have hcz114_5 : w113.cell? ⟨gb122, 5, none⟩ = some (.string a0_5) := bc BK122 5; have hcz114_6 : w113.cell? ⟨gb122, 6, none⟩ = some (.string a0_6) := bc BK122 6; have hcz114_7 : w113.cell? ⟨gb122, 7, none⟩ = some (.string a0_7) := bc BK122 7; have hfz114_0 := blk_frozen BK122.out 0; have hfz114_1 := blk_frozen BK122.out 1; have hfz114_2 := blk_frozen BK122.out 2; have hfz114_3 := blk_frozen BK122.out 3; have hfz114_4 := blk_frozen BK122.out 4; have hfz114_5 := blk_frozen BK122.out 5; have hfz114_6 := blk_frozen BK122.out 6; have hfz114_7 := blk_frozen BK122.out 7) | ((with_reducible refine gate_callee (f := 61) rfl ?_); refine gl (some 8) Try.func61 #[.int .i64 a0_0, .int .i64 1, .int .i64 5] ?_; (with_reducible refine (spec_l01In.calls a0_0 1 5 true _ A2.out).mono ?_); rintro e w' ⟨rfl, ⟨nd, rfl⟩⟩; refine ⟨_, rfl, ?_⟩) | (go_at_call 61; (with_reducible refine (spec_l01In.calls a0_1 1 9999 true _ A4.out).mono ?_); rintro e w' ⟨rfl, ⟨nd, rfl⟩⟩) | (go_at_call 32; (with_reducible refine (spec_WordOk.calls k a0_5 true _ A93.out).mono ?_); rintro e w' ⟨rfl, ⟨nd, rfl⟩⟩) | (go_at_call 32; (with_reducible refine (spec_WordOk.calls k a0_6 true _ A95.out).mono ?_); rintro e w' ⟨rfl, ⟨nd, rfl⟩⟩) | (go_at_call 61; (with_reducible refine (spec_l01In.calls a0_3 1 10000 true _ A97.out).mono ?_); rintro e w' ⟨rfl, ⟨nd, rfl⟩⟩))
            go_ret
            exact ⟨ew, by exact lT HB (gC GE122 gN)⟩
          ·rw [if_neg c109] at H
           have c109b0 : (a0_2 == 0) = false := beq_eq_false_iff_ne.mpr c109
           have c109b1 : (a0_2 != 0) = true := bne_iff_ne.mpr c109
           obtain rfl := Option.some.inj H
           go_enter Try.func27, Try.ntmps27
           go_wp2_with (first | ((with_reducible refine gate_dst (N := 1) rfl ?_); refine bx 1 #[.int .i64 a0_0, .int .i64 a0_1, .int .i64 a0_2, .int .i64 a0_3, .int .i64 a0_4, .string a0_5, .string a0_6, .string a0_7] 23 ?_; intro gb122 hg w115 hbox hb; replace BK122 := ak (hbox); replace GW122 := ak (bz hg (lG HB)); replace GE122 := ak (bz hg (lG HB)); replace HB := lB HB hb; clear hb hbox hg; have hcz116_0 : w115.cell? ⟨gb122, 0, none⟩ = some (.int .i64 a0_0) := bc BK122 0; have hcz116_1 : w115.cell? ⟨gb122, 1, none⟩ = some (.int .i64 a0_1) := bc BK122 1; have hcz116_2 : w115.cell? ⟨gb122, 2, none⟩ = some (.int .i64 a0_2) := bc BK122 2; have hcz116_3 : w115.cell? ⟨gb122, 3, none⟩ = some (.int .i64 a0_3) := bc BK122 3; have hcz116_4 : w115.cell? ⟨gb122, 4, none⟩ = some (.int .i64 a0_4) := bc BK122 4; have hcz116_5 : w115.cell? ⟨gb122, 5, none⟩ = some (.string a0_5) := bc BK122 5; have hcz116_6 : w115.cell? ⟨gb122, 6, none⟩ = some (.string a0_6) := bc BK122 6; have hcz116_7 : w115.cell? ⟨gb122, 7, none⟩ = some (.string a0_7) := bc BK122 7; have hfz116_0 := blk_frozen BK122.out 0; have hfz116_1 := blk_frozen BK122.out 1; have hfz116_2 := blk_frozen BK122.out 2; have hfz116_3 := blk_frozen BK122.out 3; have hfz116_4 := blk_frozen BK122.out 4; have hfz116_5 := blk_frozen BK122.out 5; have hfz116_6 := blk_frozen BK122.out 6; have hfz116_7 := blk_frozen BK122.out 7) | ((with_reducible refine gate_callee (f := 61) rfl ?_); refine gl (some 8) Try.func61 #[.int .i64 a0_0, .int .i64 1, .int .i64 5] ?_; (with_reducible refine (spec_l01In.calls a0_0 1 5 true _ A2.out).mono ?_); rintro e w' ⟨rfl, ⟨nd, rfl⟩⟩; refine ⟨_, rfl, ?_⟩) | (go_at_call 61; (with_reducible refine (spec_l01In.calls a0_1 1 9999 true _ A4.out).mono ?_); rintro e w' ⟨rfl, ⟨nd, rfl⟩⟩) | (go_at_call 32; (with_reducible refine (spec_WordOk.calls k a0_5 true _ A93.out).mono ?_); rintro e w' ⟨rfl, ⟨nd, rfl⟩⟩) | (go_at_call 32; (with_reducible refine (spec_WordOk.calls k a0_6 true _ A95.out).mono ?_); rintro e w' ⟨rfl, ⟨nd, rfl⟩⟩) | (go_at_call 61; (with_reducible refine (spec_l01In.calls a0_3 1 10000 true _ A97.out).mono ?_); rintro e w' ⟨rfl, ⟨nd, rfl⟩⟩))
           go_ret
           exact ⟨ew, by exact lT HB (gC GE122 gN)⟩
        ·replace c98 := Bool.eq_false_iff.mpr c98
         subst c98
         have H1 : (some false) = some r := by rw [if_neg (show ¬ (false = true) by decide)] at H; exact H
         clear H
         have H := H1
         clear H1
         obtain rfl := Option.some.inj H
         go_enter Try.func27, Try.ntmps27
         go_wp2_with (first | ((with_reducible refine gate_dst (N := 1) rfl ?_); refine bx 1 #[.int .i64 a0_0, .int .i64 a0_1, .int .i64 a0_2, .int .i64 a0_3, .int .i64 a0_4, .string a0_5, .string a0_6, .string a0_7] 23 ?_; intro gb122 hg w117 hbox hb; replace BK122 := ak (hbox); replace GW122 := ak (bz hg (lG HB)); replace GE122 := ak (bz hg (lG HB)); replace HB := lB HB hb; clear hb hbox hg; have hcz118_0 : w117.cell? ⟨gb122, 0, none⟩ = some (.int .i64 a0_0) := bc BK122 0; have hcz118_1 : w117.cell? ⟨gb122, 1, none⟩ = some (.int .i64 a0_1) := bc BK122 1; have hcz118_2 : w117.cell? ⟨gb122, 2, none⟩ = some (.int .i64 a0_2) := bc BK122 2; have hcz118_3 : w117.cell? ⟨gb122, 3, none⟩ = some (.int .i64 a0_3) := bc BK122 3; have hcz118_4 : w117.cell? ⟨gb122, 4, none⟩ = some (.int .i64 a0_4) := bc BK122 4; have hcz118_5 : w117.cell? ⟨gb122, 5, none⟩ = some (.string a0_5) := bc BK122 5; have hcz118_6 : w117.cell? ⟨gb122, 6, none⟩ = some (.string a0_6) := bc BK122 6; have hcz118_7 : w117.cell? ⟨gb122, 7, none⟩ = some (.string a0_7) := bc BK122 7; have hfz118_0 := blk_frozen BK122.out 0; have hfz118_1 := blk_frozen BK122.out 1; have hfz118_2 := blk_frozen BK122.out 2; have hfz118_3 := blk_frozen BK122.out 3; have hfz118_4 := blk_frozen BK122.out 4; have hfz118_5 := blk_frozen BK122.out 5; have hfz118_6 := blk_frozen BK122.out 6; have hfz118_7 := blk_frozen BK122.out 7) | ((with_reducible refine gate_callee (f := 61) rfl ?_); refine gl (some 8) Try.func61 #[.int .i64 a0_0, .int .i64 1, .int .i64 5] ?_; (with_reducible refine (spec_l01In.calls a0_0 1 5 true _ A2.out).mono ?_); rintro e w' ⟨rfl, ⟨nd, rfl⟩⟩; refine ⟨_, rfl, ?_⟩) | (go_at_call 61; (with_reducible refine (spec_l01In.calls a0_1 1 9999 true _ A4.out).mono ?_); rintro e w' ⟨rfl, ⟨nd, rfl⟩⟩) | (go_at_call 32; (with_reducible refine (spec_WordOk.calls k a0_5 true _ A93.out).mono ?_); rintro e w' ⟨rfl, ⟨nd, rfl⟩⟩) | (go_at_call 32; (with_reducible refine (spec_WordOk.calls k a0_6 true _ A95.out).mono ?_); rintro e w' ⟨rfl, ⟨nd, rfl⟩⟩) | (go_at_call 61; (with_reducible refine (spec_l01In.calls a0_3 1 10000 false _ A97.out).mono ?_); rintro e w' ⟨rfl, ⟨nd, rfl⟩⟩))
         go_ret
         exact ⟨ew, by exact lT HB (gC GE122 gN)⟩
       ·replace c96 := Bool.eq_false_iff.mpr c96
        subst c96
        have H1 : (some false) = some r := by rw [if_neg (show ¬ (false = true) by decide)] at H; exact H
        clear H
        have H := H1
        clear H1
        obtain rfl := Option.some.inj H
        go_enter Try.func27, Try.ntmps27
        go_wp2_with (first | ((with_reducible refine gate_dst (N := 1) rfl ?_); refine bx 1 #[.int .i64 a0_0, .int .i64 a0_1, .int .i64 a0_2, .int .i64 a0_3, .int .i64 a0_4, .string a0_5, .string a0_6, .string a0_7] 23 ?_; intro gb122 hg w119 hbox hb; replace BK122 := ak (hbox); replace GW122 := ak (bz hg (lG HB)); replace GE122 := ak (bz hg (lG HB)); replace HB := lB HB hb; clear hb hbox hg; have hcz120_0 : w119.cell? ⟨gb122, 0, none⟩ = some (.int .i64 a0_0) := bc BK122 0; have hcz120_1 : w119.cell? ⟨gb122, 1, none⟩ = some (.int .i64 a0_1) := bc BK122 1; have hcz120_2 : w119.cell? ⟨gb122, 2, none⟩ = some (.int .i64 a0_2) := bc BK122 2; have hcz120_3 : w119.cell? ⟨gb122, 3, none⟩ = some (.int .i64 a0_3) := bc BK122 3; have hcz120_4 : w119.cell? ⟨gb122, 4, none⟩ = some (.int .i64 a0_4) := bc BK122 4; have hcz120_5 : w119.cell? ⟨gb122, 5, none⟩ = some (.string a0_5) := bc BK122 5; have hcz120_6 : w119.cell? ⟨gb122, 6, none⟩ = some (.string a0_6) := bc BK122 6; have hcz120_7 : w119.cell? ⟨gb122, 7, none⟩ = some (.string a0_7) := bc BK122 7; have hfz120_0 := blk_frozen BK122.out 0; have hfz120_1 := blk_frozen BK122.out 1; have hfz120_2 := blk_frozen BK122.out 2; have hfz120_3 := blk_frozen BK122.out 3; have hfz120_4 := blk_frozen BK122.out 4; have hfz120_5 := blk_frozen BK122.out 5; have hfz120_6 := blk_frozen BK122.out 6; have hfz120_7 := blk_frozen BK122.out 7) | ((with_reducible refine gate_callee (f := 61) rfl ?_); refine gl (some 8) Try.func61 #[.int .i64 a0_0, .int .i64 1, .int .i64 5] ?_; (with_reducible refine (spec_l01In.calls a0_0 1 5 true _ A2.out).mono ?_); rintro e w' ⟨rfl, ⟨nd, rfl⟩⟩; refine ⟨_, rfl, ?_⟩) | (go_at_call 61; (with_reducible refine (spec_l01In.calls a0_1 1 9999 true _ A4.out).mono ?_); rintro e w' ⟨rfl, ⟨nd, rfl⟩⟩) | (go_at_call 32; (with_reducible refine (spec_WordOk.calls k a0_5 true _ A93.out).mono ?_); rintro e w' ⟨rfl, ⟨nd, rfl⟩⟩) | (go_at_call 32; (with_reducible refine (spec_WordOk.calls k a0_6 false _ A95.out).mono ?_); rintro e w' ⟨rfl, ⟨nd, rfl⟩⟩))
        go_ret
        exact ⟨ew, by exact lT HB (gC GE122 gN)⟩
      ·replace c94 := Bool.eq_false_iff.mpr c94
       subst c94
       have H1 : (some false) = some r := by rw [if_neg (show ¬ (false = true) by decide)] at H; exact H
       clear H
       have H := H1
       clear H1
       obtain rfl := Option.some.inj H
       go_enter Try.func27, Try.ntmps27
       go_wp2_with (first | ((with_reducible refine gate_dst (N := 1) rfl ?_); refine bx 1 #[.int .i64 a0_0, .int .i64 a0_1, .int .i64 a0_2, .int .i64 a0_3, .int .i64 a0_4, .string a0_5, .string a0_6, .string a0_7] 23 ?_; intro gb122 hg w121 hbox hb; replace BK122 := ak (hbox); replace GW122 := ak (bz hg (lG HB)); replace GE122 := ak (bz hg (lG HB)); replace HB := lB HB hb; clear hb hbox hg; have hcz122_0 : w121.cell? ⟨gb122, 0, none⟩ = some (.int .i64 a0_0) := bc BK122 0; have hcz122_1 : w121.cell? ⟨gb122, 1, none⟩ = some (.int .i64 a0_1) := bc BK122 1; have hcz122_2 : w121.cell? ⟨gb122, 2, none⟩ = some (.int .i64 a0_2) := bc BK122 2; have hcz122_3 : w121.cell? ⟨gb122, 3, none⟩ = some (.int .i64 a0_3) := bc BK122 3; have hcz122_4 : w121.cell? ⟨gb122, 4, none⟩ = some (.int .i64 a0_4) := bc BK122 4; have hcz122_5 : w121.cell? ⟨gb122, 5, none⟩ = some (.string a0_5) := bc BK122 5; have hcz122_6 : w121.cell? ⟨gb122, 6, none⟩ = some (.string a0_6) := bc BK122 6; have hcz122_7 : w121.cell? ⟨gb122, 7, none⟩ = some (.string a0_7) := bc BK122 7; have hfz122_0 := blk_frozen BK122.out 0; have hfz122_1 := blk_frozen BK122.out 1; have hfz122_2 := blk_frozen BK122.out 2; have hfz122_3 := blk_frozen BK122.out 3; have hfz122_4 := blk_frozen BK122.out 4; have hfz122_5 := blk_frozen BK122.out 5; have hfz122_6 := blk_frozen BK122.out 6; have hfz122_7 := blk_frozen BK122.out 7) | ((with_reducible refine gate_callee (f := 61) rfl ?_); refine gl (some 8) Try.func61 #[.int .i64 a0_0, .int .i64 1, .int .i64 5] ?_; (with_reducible refine (spec_l01In.calls a0_0 1 5 true _ A2.out).mono ?_); rintro e w' ⟨rfl, ⟨nd, rfl⟩⟩; refine ⟨_, rfl, ?_⟩) | (go_at_call 61; (with_reducible refine (spec_l01In.calls a0_1 1 9999 true _ A4.out).mono ?_); rintro e w' ⟨rfl, ⟨nd, rfl⟩⟩) | (go_at_call 32; (with_reducible refine (spec_WordOk.calls k a0_5 false _ A93.out).mono ?_); rintro e w' ⟨rfl, ⟨nd, rfl⟩⟩))
       go_ret
       exact ⟨ew, by exact lT HB (gC GE122 gN)⟩
     ·rw [if_neg c92] at H
      have c92b0 : (a0_0 == 1) = false := beq_eq_false_iff_ne.mpr c92
      have c92b1 : (a0_0 != 1) = true := bne_iff_ne.mpr c92
      by_cases c123 : a0_5.toList = ([] : List UInt8)
      ·rw [if_pos c123] at H
       have c123b0 : (a0_5.toList == ([] : List UInt8)) = true := beq_iff_eq.mpr c123
       have c123b1 : (a0_5.toList != ([] : List UInt8)) = false := bne_eq_false_iff_eq.mpr c123
       clear c123
       by_cases c124 : a0_6.toList = ([] : List UInt8)
       ·rw [if_pos c124] at H
        have c124b0 : (a0_6.toList == ([] : List UInt8)) = true := beq_iff_eq.mpr c124
        have c124b1 : (a0_6.toList != ([] : List UInt8)) = false := bne_eq_false_iff_eq.mpr c124
        clear c124
        by_cases c125 : a0_3 = 0
        ·rw [if_pos c125] at H
         have c125b0 : (a0_3 == 0) = true := beq_iff_eq.mpr c125
         have c125b1 : (a0_3 != 0) = false := bne_eq_false_iff_eq.mpr c125
         clear c125
         by_cases c126 : a0_0 = 5
         ·rw [if_pos c126] at H
          have c126b0 : (a0_0 == 5) = true := beq_iff_eq.mpr c126
          have c126b1 : (a0_0 != 5) = false := bne_eq_false_iff_eq.mpr c126
          clear c126
          replace H := Option.bind_eq_some_iff.mp H
          obtain ⟨t143, A1270, H⟩ := H
          replace H : (if t143 = true then (if a0_4 = 0 then (some (a0_7.toList == ([] : List UInt8))) else (some false)) else (some false)) = some r := H
          have A127 := Aside0.mk A1270
          clear A1270
          by_cases c128 : t143 = true
          ·subst c128
           have H1 : (if a0_4 = 0 then (some (a0_7.toList == ([] : List UInt8))) else (some false)) = some r := by rw [if_pos rfl] at H; exact H
           clear H
           have H := H1
           clear H1
           by_cases c129 : a0_4 = 0
           ·rw [if_pos c129] at H
            have c129b0 : (a0_4 == 0) = true := beq_iff_eq.mpr c129
            have c129b1 : (a0_4 != 0) = false := bne_eq_false_iff_eq.mpr c129
            clear c129
            obtain rfl := Option.some.inj H
            go_enter Try.func27, Try.ntmps27
            go_wp2_with (first | ((with_reducible refine gate_dst (N := 1) rfl ?_); refine bx 1 #[.int .i64 a0_0, .int .i64 a0_1, .int .i64 a0_2, .int .i64 a0_3, .int .i64 a0_4, .string a0_5, .string a0_6, .string a0_7] 23 ?_; intro gb122 hg w130 hbox hb; replace BK122 := ak (hbox); replace GW122 := ak (bz hg (lG HB)); replace GE122 := ak (bz hg (lG HB)); replace HB := lB HB hb; clear hb hbox hg; have hcz131_0 : w130.cell? ⟨gb122, 0, none⟩ = some (.int .i64 a0_0) := bc BK122 0; have hcz131_1 : w130.cell? ⟨gb122, 1, none⟩ = some (.int .i64 a0_1) := bc BK122 1; have hcz131_2 : w130.cell? ⟨gb122, 2, none⟩ = some (.int .i64 a0_2) := bc BK122 2; have hcz131_3 : w130.cell? ⟨gb122, 3, none⟩ = some (.int .i64 a0_3) := bc BK122 3; have hcz131_4 : w130.cell? ⟨gb122, 4, none⟩ = some (.int .i64 a0_4) := bc BK122 4; have hcz131_5 : w130.cell? ⟨gb122, 5, none⟩ = some (.string a0_5) := bc BK122 5; have hcz131_6 : w130.cell? ⟨gb122, 6, none⟩ = some (.string a0_6) := bc BK122 6; have hcz131_7 : w130.cell? ⟨gb122, 7, none⟩ = some (.string a0_7) := bc BK122 7; have hfz131_0 := blk_frozen BK122.out 0; have hfz131_1 := blk_frozen BK122.out 1; have hfz131_2 := blk_frozen BK122.out 2; have hfz131_3 := blk_frozen BK122.out 3; have hfz131_4 := blk_frozen BK122.out 4; have hfz131_5 := blk_frozen BK122.out 5; have hfz131_6 := blk_frozen BK122.out 6; have hfz131_7 := blk_frozen BK122.out 7) | ((with_reducible refine gate_callee (f := 61) rfl ?_); refine gl (some 8) Try.func61 #[.int .i64 a0_0, .int .i64 1, .int .i64 5] ?_; (with_reducible refine (spec_l01In.calls a0_0 1 5 true _ A2.out).mono ?_); rintro e w' ⟨rfl, ⟨nd, rfl⟩⟩; refine ⟨_, rfl, ?_⟩) | (go_at_call 61; (with_reducible refine (spec_l01In.calls a0_1 1 9999 true _ A4.out).mono ?_); rintro e w' ⟨rfl, ⟨nd, rfl⟩⟩) | (go_at_call 61; (with_reducible refine (spec_l01In.calls a0_2 1 9999 true _ A127.out).mono ?_); rintro e w' ⟨rfl, ⟨nd, rfl⟩⟩))
            go_ret
            exact ⟨ew, by exact lT HB (gC GE122 gN)⟩
           ·rw [if_neg c129] at H
            have c129b0 : (a0_4 == 0) = false := beq_eq_false_iff_ne.mpr c129
            have c129b1 : (a0_4 != 0) = true := bne_iff_ne.mpr c129
            obtain rfl := Option.some.inj H
            go_enter Try.func27, Try.ntmps27
            go_wp2_with (first | ((with_reducible refine gate_dst (N := 1) rfl ?_); refine bx 1 #[.int .i64 a0_0, .int .i64 a0_1, .int .i64 a0_2, .int .i64 a0_3, .int .i64 a0_4, .string a0_5, .string a0_6, .string a0_7] 23 ?_; intro gb122 hg w132 hbox hb; replace BK122 := ak (hbox); replace GW122 := ak (bz hg (lG HB)); replace GE122 := ak (bz hg (lG HB)); replace HB := lB HB hb; clear hb hbox hg; have hcz133_0 : w132.cell? ⟨gb122, 0, none⟩ = some (.int .i64 a0_0) := bc BK122 0; have hcz133_1 : w132.cell? ⟨gb122, 1, none⟩ = some (.int .i64 a0_1) := bc BK122 1; have hcz133_2 : w132.cell? ⟨gb122, 2, none⟩ = some (.int .i64 a0_2) := bc BK122 2; have hcz133_3 : w132.cell? ⟨gb122, 3, none⟩ = some (.int .i64 a0_3) := bc BK122 3; have hcz133_4 : w132.cell? ⟨gb122, 4, none⟩ = some (.int .i64 a0_4) := bc BK122 4; have hcz133_5 : w132.cell? ⟨gb122, 5, none⟩ = some (.string a0_5) := bc BK122 5; have hcz133_6 : w132.cell? ⟨gb122, 6, none⟩ = some (.string a0_6) := bc BK122 6; have hcz133_7 : w132.cell? ⟨gb122, 7, none⟩ = some (.string a0_7) := bc BK122 7; have hfz133_0 := blk_frozen BK122.out 0; have hfz133_1 := blk_frozen BK122.out 1; have hfz133_2 := blk_frozen BK122.out 2; have hfz133_3 := blk_frozen BK122.out 3; have hfz133_4 := blk_frozen BK122.out 4; have hfz133_5 := blk_frozen BK122.out 5; have hfz133_6 := blk_frozen BK122.out 6; have hfz133_7 := blk_frozen BK122.out 7) | ((with_reducible refine gate_callee (f := 61) rfl ?_); refine gl (some 8) Try.func61 #[.int .i64 a0_0, .int .i64 1, .int .i64 5] ?_; (with_reducible refine (spec_l01In.calls a0_0 1 5 true _ A2.out).mono ?_); rintro e w' ⟨rfl, ⟨nd, rfl⟩⟩; refine ⟨_, rfl, ?_⟩) | (go_at_call 61; (with_reducible refine (spec_l01In.calls a0_1 1 9999 true _ A4.out).mono ?_); rintro e w' ⟨rfl, ⟨nd, rfl⟩⟩) | (go_at_call 61; (with_reducible refine (spec_l01In.calls a0_2 1 9999 true _ A127.out).mono ?_); rintro e w' ⟨rfl, ⟨nd, rfl⟩⟩))
            go_ret
            exact ⟨ew, by exact lT HB (gC GE122 gN)⟩
          ·replace c128 := Bool.eq_false_iff.mpr c128
           subst c128
           have H1 : (some false) = some r := by rw [if_neg (show ¬ (false = true) by decide)] at H; exact H
           clear H
           have H := H1
           clear H1
           obtain rfl := Option.some.inj H
           go_enter Try.func27, Try.ntmps27
           go_wp2_with (first | ((with_reducible refine gate_dst (N := 1) rfl ?_); refine bx 1 #[.int .i64 a0_0, .int .i64 a0_1, .int .i64 a0_2, .int .i64 a0_3, .int .i64 a0_4, .string a0_5, .string a0_6, .string a0_7] 23 ?_; intro gb122 hg w134 hbox hb; replace BK122 := ak (hbox); replace GW122 := ak (bz hg (lG HB)); replace GE122 := ak (bz hg (lG HB)); replace HB := lB HB hb; clear hb hbox hg; have hcz135_0 : w134.cell? ⟨gb122, 0, none⟩ = some (.int .i64 a0_0) := bc BK122 0; have hcz135_1 : w134.cell? ⟨gb122, 1, none⟩ = some (.int .i64 a0_1) := bc BK122 1; have hcz135_2 : w134.cell? ⟨gb122, 2, none⟩ = some (.int .i64 a0_2) := bc BK122 2; have hcz135_3 : w134.cell? ⟨gb122, 3, none⟩ = some (.int .i64 a0_3) := bc BK122 3; have hcz135_4 : w134.cell? ⟨gb122, 4, none⟩ = some (.int .i64 a0_4) := bc BK122 4; have hcz135_5 : w134.cell? ⟨gb122, 5, none⟩ = some (.string a0_5) := bc BK122 5; have hcz135_6 : w134.cell? ⟨gb122, 6, none⟩ = some (.string a0_6) := bc BK122 6; have hcz135_7 : w134.cell? ⟨gb122, 7, none⟩ = some (.string a0_7) := bc BK122 7; have hfz135_0 := blk_frozen BK122.out 0; have hfz135_1 := blk_frozen BK122.out 1; have hfz135_2 := blk_frozen BK122.out 2; have hfz135_3 := blk_frozen BK122.out 3; have hfz135_4 := blk_frozen BK122.out 4; have hfz135_5 := blk_frozen BK122.out 5; have hfz135_6 := blk_frozen BK122.out 6; have hfz135_7 := blk_frozen BK122.out 7) | ((with_reducible refine gate_callee (f := 61) rfl ?_); refine gl (some 8) Try.func61 #[.int .i64 a0_0, .int .i64 1, .int .i64 5] ?_; (with_reducible refine (spec_l01In.calls a0_0 1 5 true _ A2.out).mono ?_); rintro e w' ⟨rfl, ⟨nd, rfl⟩⟩; refine ⟨_, rfl, ?_⟩) | (go_at_call 61; (with_reducible refine (spec_l01In.calls a0_1 1 9999 true _ A4.out).mono ?_); rintro e w' ⟨rfl, ⟨nd, rfl⟩⟩) | (go_at_call 61; (with_reducible refine (spec_l01In.calls a0_2 1 9999 false _ A127.out).mono ?_); rintro e w' ⟨rfl, ⟨nd, rfl⟩⟩))
           go_ret
           exact ⟨ew, by exact lT HB (gC GE122 gN)⟩
         ·rw [if_neg c126] at H
          have c126b0 : (a0_0 == 5) = false := beq_eq_false_iff_ne.mpr c126
          have c126b1 : (a0_0 != 5) = true := bne_iff_ne.mpr c126
          by_cases c136 : a0_2 = 0
          ·rw [if_pos c136] at H
           have c136b0 : (a0_2 == 0) = true := beq_iff_eq.mpr c136
           have c136b1 : (a0_2 != 0) = false := bne_eq_false_iff_eq.mpr c136
           clear c136
           by_cases c137 : a0_4 = 0
           ·rw [if_pos c137] at H
            have c137b0 : (a0_4 == 0) = true := beq_iff_eq.mpr c137
            have c137b1 : (a0_4 != 0) = false := bne_eq_false_iff_eq.mpr c137
            clear c137
            obtain rfl := Option.some.inj H
            go_enter Try.func27, Try.ntmps27
            go_wp2_with (first | ((with_reducible refine gate_dst (N := 1) rfl ?_); refine bx 1 #[.int .i64 a0_0, .int .i64 a0_1, .int .i64 a0_2, .int .i64 a0_3, .int .i64 a0_4, .string a0_5, .string a0_6, .string a0_7] 23 ?_; intro gb122 hg w138 hbox hb; replace BK122 := ak (hbox); replace GW122 := ak (bz hg (lG HB)); replace GE122 := ak (bz hg (lG HB)); replace HB := lB HB hb; clear hb hbox hg; have hcz139_0 : w138.cell? ⟨gb122, 0, none⟩ = some (.int .i64 a0_0) := bc BK122 0; have hcz139_1 : w138.cell? ⟨gb122, 1, none⟩ = some (.int .i64 a0_1) := bc BK122 1; have hcz139_2 : w138.cell? ⟨gb122, 2, none⟩ = some (.int .i64 a0_2) := bc BK122 2; have hcz139_3 : w138.cell? ⟨gb122, 3, none⟩ = some (.int .i64 a0_3) := bc BK122 3; have hcz139_4 : w138.cell? ⟨gb122, 4, none⟩ = some (.int .i64 a0_4) := bc BK122 4; have hcz139_5 : w138.cell? ⟨gb122, 5, none⟩ = some (.string a0_5) := bc BK122 5; have hcz139_6 : w138.cell? ⟨gb122, 6, none⟩ = some (.string a0_6) := bc BK122 6; have hcz139_7 : w138.cell? ⟨gb122, 7, none⟩ = some (.string a0_7) := bc BK122 7; have hfz139_0 := blk_frozen BK122.out 0; have hfz139_1 := blk_frozen BK122.out 1; have hfz139_2 := blk_frozen BK122.out 2; have hfz139_3 := blk_frozen BK122.out 3; have hfz139_4 := blk_frozen BK122.out 4; have hfz139_5 := blk_frozen BK122.out 5; have hfz139_6 := blk_frozen BK122.out 6; have hfz139_7 := blk_frozen BK122.out 7) | ((with_reducible refine gate_callee (f := 61) rfl ?_); refine gl (some 8) Try.func61 #[.int .i64 a0_0, .int .i64 1, .int .i64 5] ?_; (with_reducible refine (spec_l01In.calls a0_0 1 5 true _ A2.out).mono ?_); rintro e w' ⟨rfl, ⟨nd, rfl⟩⟩; refine ⟨_, rfl, ?_⟩) | (go_at_call 61; (with_reducible refine (spec_l01In.calls a0_1 1 9999 true _ A4.out).mono ?_); rintro e w' ⟨rfl, ⟨nd, rfl⟩⟩))
            go_ret
            exact ⟨ew, by exact lT HB (gC GE122 gN)⟩
           ·rw [if_neg c137] at H
            have c137b0 : (a0_4 == 0) = false := beq_eq_false_iff_ne.mpr c137
            have c137b1 : (a0_4 != 0) = true := bne_iff_ne.mpr c137
            obtain rfl := Option.some.inj H
            go_enter Try.func27, Try.ntmps27
            go_wp2_with (first | ((with_reducible refine gate_dst (N := 1) rfl ?_); refine bx 1 #[.int .i64 a0_0, .int .i64 a0_1, .int .i64 a0_2, .int .i64 a0_3, .int .i64 a0_4, .string a0_5, .string a0_6, .string a0_7] 23 ?_; intro gb122 hg w140 hbox hb; replace BK122 := ak (hbox); replace GW122 := ak (bz hg (lG HB)); replace GE122 := ak (bz hg (lG HB)); replace HB := lB HB hb; clear hb hbox hg; have hcz141_0 : w140.cell? ⟨gb122, 0, none⟩ = some (.int .i64 a0_0) := bc BK122 0; have hcz141_1 : w140.cell? ⟨gb122, 1, none⟩ = some (.int .i64 a0_1) := bc BK122 1; have hcz141_2 : w140.cell? ⟨gb122, 2, none⟩ = some (.int .i64 a0_2) := bc BK122 2; have hcz141_3 : w140.cell? ⟨gb122, 3, none⟩ = some (.int .i64 a0_3) := bc BK122 3; have hcz141_4 : w140.cell? ⟨gb122, 4, none⟩ = some (.int .i64 a0_4) := bc BK122 4; have hcz141_5 : w140.cell? ⟨gb122, 5, none⟩ = some (.string a0_5) := bc BK122 5; have hcz141_6 : w140.cell? ⟨gb122, 6, none⟩ = some (.string a0_6) := bc BK122 6; have hcz141_7 : w140.cell? ⟨gb122, 7, none⟩ = some (.string a0_7) := bc BK122 7; have hfz141_0 := blk_frozen BK122.out 0; have hfz141_1 := blk_frozen BK122.out 1; have hfz141_2 := blk_frozen BK122.out 2; have hfz141_3 := blk_frozen BK122.out 3; have hfz141_4 := blk_frozen BK122.out 4; have hfz141_5 := blk_frozen BK122.out 5; have hfz141_6 := blk_frozen BK122.out 6; have hfz141_7 := blk_frozen BK122.out 7) | ((with_reducible refine gate_callee (f := 61) rfl ?_); refine gl (some 8) Try.func61 #[.int .i64 a0_0, .int .i64 1, .int .i64 5] ?_; (with_reducible refine (spec_l01In.calls a0_0 1 5 true _ A2.out).mono ?_); rintro e w' ⟨rfl, ⟨nd, rfl⟩⟩; refine ⟨_, rfl, ?_⟩) | (go_at_call 61; (with_reducible refine (spec_l01In.calls a0_1 1 9999 true _ A4.out).mono ?_); rintro e w' ⟨rfl, ⟨nd, rfl⟩⟩))
            go_ret
            exact ⟨ew, by exact lT HB (gC GE122 gN)⟩
          ·rw [if_neg c136] at H
           have c136b0 : (a0_2 == 0) = false := beq_eq_false_iff_ne.mpr c136
           have c136b1 : (a0_2 != 0) = true := bne_iff_ne.mpr c136
           obtain rfl := Option.some.inj H
           go_enter Try.func27, Try.ntmps27
           go_wp2_with (first | ((with_reducible refine gate_dst (N := 1) rfl ?_); refine bx 1 #[.int .i64 a0_0, .int .i64 a0_1, .int .i64 a0_2, .int .i64 a0_3, .int .i64 a0_4, .string a0_5, .string a0_6, .string a0_7] 23 ?_; intro gb122 hg w142 hbox hb; replace BK122 := ak (hbox); replace GW122 := ak (bz hg (lG HB)); replace GE122 := ak (bz hg (lG HB)); replace HB := lB HB hb; clear hb hbox hg; have hcz143_0 : w142.cell? ⟨gb122, 0, none⟩ = some (.int .i64 a0_0) := bc BK122 0; have hcz143_1 : w142.cell? ⟨gb122, 1, none⟩ = some (.int .i64 a0_1) := bc BK122 1; have hcz143_2 : w142.cell? ⟨gb122, 2, none⟩ = some (.int .i64 a0_2) := bc BK122 2; have hcz143_3 : w142.cell? ⟨gb122, 3, none⟩ = some (.int .i64 a0_3) := bc BK122 3; have hcz143_4 : w142.cell? ⟨gb122, 4, none⟩ = some (.int .i64 a0_4) := bc BK122 4; have hcz143_5 : w142.cell? ⟨gb122, 5, none⟩ = some (.string a0_5) := bc BK122 5; have hcz143_6 : w142.cell? ⟨gb122, 6, none⟩ = some (.string a0_6) := bc BK122 6; have hcz143_7 : w142.cell? ⟨gb122, 7, none⟩ = some (.string a0_7) := bc BK122 7; have hfz143_0 := blk_frozen BK122.out 0; have hfz143_1 := blk_frozen BK122.out 1; have hfz143_2 := blk_frozen BK122.out 2; have hfz143_3 := blk_frozen BK122.out 3; have hfz143_4 := blk_frozen BK122.out 4; have hfz143_5 := blk_frozen BK122.out 5; have hfz143_6 := blk_frozen BK122.out 6; have hfz143_7 := blk_frozen BK122.out 7) | ((with_reducible refine gate_callee (f := 61) rfl ?_); refine gl (some 8) Try.func61 #[.int .i64 a0_0, .int .i64 1, .int .i64 5] ?_; (with_reducible refine (spec_l01In.calls a0_0 1 5 true _ A2.out).mono ?_); rintro e w' ⟨rfl, ⟨nd, rfl⟩⟩; refine ⟨_, rfl, ?_⟩) | (go_at_call 61; (with_reducible refine (spec_l01In.calls a0_1 1 9999 true _ A4.out).mono ?_); rintro e w' ⟨rfl, ⟨nd, rfl⟩⟩))
           go_ret
           exact ⟨ew, by exact lT HB (gC GE122 gN)⟩
        ·rw [if_neg c125] at H
         have c125b0 : (a0_3 == 0) = false := beq_eq_false_iff_ne.mpr c125
         have c125b1 : (a0_3 != 0) = true := bne_iff_ne.mpr c125
         obtain rfl := Option.some.inj H
         go_enter Try.func27, Try.ntmps27
         go_wp2_with (first | ((with_reducible refine gate_dst (N := 1) rfl ?_); refine bx 1 #[.int .i64 a0_0, .int .i64 a0_1, .int .i64 a0_2, .int .i64 a0_3, .int .i64 a0_4, .string a0_5, .string a0_6, .string a0_7] 23 ?_; intro gb122 hg w144 hbox hb; replace BK122 := ak (hbox); replace GW122 := ak (bz hg (lG HB)); replace GE122 := ak (bz hg (lG HB)); replace HB := lB HB hb; clear hb hbox hg; have hcz145_0 : w144.cell? ⟨gb122, 0, none⟩ = some (.int .i64 a0_0) := bc BK122 0; have hcz145_1 : w144.cell? ⟨gb122, 1, none⟩ = some (.int .i64 a0_1) := bc BK122 1; have hcz145_2 : w144.cell? ⟨gb122, 2, none⟩ = some (.int .i64 a0_2) := bc BK122 2; have hcz145_3 : w144.cell? ⟨gb122, 3, none⟩ = some (.int .i64 a0_3) := bc BK122 3; have hcz145_4 : w144.cell? ⟨gb122, 4, none⟩ = some (.int .i64 a0_4) := bc BK122 4; have hcz145_5 : w144.cell? ⟨gb122, 5, none⟩ = some (.string a0_5) := bc BK122 5; have hcz145_6 : w144.cell? ⟨gb122, 6, none⟩ = some (.string a0_6) := bc BK122 6; have hcz145_7 : w144.cell? ⟨gb122, 7, none⟩ = some (.string a0_7) := bc BK122 7; have hfz145_0 := blk_frozen BK122.out 0; have hfz145_1 := blk_frozen BK122.out 1; have hfz145_2 := blk_frozen BK122.out 2; have hfz145_3 := blk_frozen BK122.out 3; have hfz145_4 := blk_frozen BK122.out 4; have hfz145_5 := blk_frozen BK122.out 5; have hfz145_6 := blk_frozen BK122.out 6; have hfz145_7 := blk_frozen BK122.out 7) | ((with_reducible refine gate_callee (f := 61) rfl ?_); refine gl (some 8) Try.func61 #[.int .i64 a0_0, .int .i64 1, .int .i64 5] ?_; (with_reducible refine (spec_l01In.calls a0_0 1 5 true _ A2.out).mono ?_); rintro e w' ⟨rfl, ⟨nd, rfl⟩⟩; refine ⟨_, rfl, ?_⟩) | (go_at_call 61; (with_reducible refine (spec_l01In.calls a0_1 1 9999 true _ A4.out).mono ?_); rintro e w' ⟨rfl, ⟨nd, rfl⟩⟩))
         go_ret
         exact ⟨ew, by exact lT HB (gC GE122 gN)⟩
       ·rw [if_neg c124] at H
        have c124b0 : (a0_6.toList == ([] : List UInt8)) = false := beq_eq_false_iff_ne.mpr c124
        have c124b1 : (a0_6.toList != ([] : List UInt8)) = true := bne_iff_ne.mpr c124
        obtain rfl := Option.some.inj H
        go_enter Try.func27, Try.ntmps27
        go_wp2_with (first | ((with_reducible refine gate_dst (N := 1) rfl ?_); refine bx 1 #[.int .i64 a0_0, .int .i64 a0_1, .int .i64 a0_2, .int .i64 a0_3, .int .i64 a0_4, .string a0_5, .string a0_6, .string a0_7] 23 ?_; intro gb122 hg w146 hbox hb; replace BK122 := ak (hbox); replace GW122 := ak (bz hg (lG HB)); replace GE122 := ak (bz hg (lG HB)); replace HB := lB HB hb; clear hb hbox hg; have hcz147_0 : w146.cell? ⟨gb122, 0, none⟩ = some (.int .i64 a0_0) := bc BK122 0; have hcz147_1 : w146.cell? ⟨gb122, 1, none⟩ = some (.int .i64 a0_1) := bc BK122 1; have hcz147_2 : w146.cell? ⟨gb122, 2, none⟩ = some (.int .i64 a0_2) := bc BK122 2; have hcz147_3 : w146.cell? ⟨gb122, 3, none⟩ = some (.int .i64 a0_3) := bc BK122 3; have hcz147_4 : w146.cell? ⟨gb122, 4, none⟩ = some (.int .i64 a0_4) := bc BK122 4; have hcz147_5 : w146.cell? ⟨gb122, 5, none⟩ = some (.string a0_5) := bc BK122 5; have hcz147_6 : w146.cell? ⟨gb122, 6, none⟩ = some (.string a0_6) := bc BK122 6; have hcz147_7 : w146.cell? ⟨gb122, 7, none⟩ = some (.string a0_7) := bc BK122 7; have hfz147_0 := blk_frozen BK122.out 0; have hfz147_1 := blk_frozen BK122.out 1; have hfz147_2 := blk_frozen BK122.out 2; have hfz147_3 := blk_frozen BK122.out 3; have hfz147_4 := blk_frozen BK122.out 4; have hfz147_5 := blk_frozen BK122.out 5; have hfz147_6 := blk_frozen BK122.out 6; have hfz147_7 := blk_frozen BK122.out 7) | ((with_reducible refine gate_callee (f := 61) rfl ?_); refine gl (some 8) Try.func61 #[.int .i64 a0_0, .int .i64 1, .int .i64 5] ?_; (with_reducible refine (spec_l01In.calls a0_0 1 5 true _ A2.out).mono ?_); rintro e w' ⟨rfl, ⟨nd, rfl⟩⟩; refine ⟨_, rfl, ?_⟩) | (go_at_call 61; (with_reducible refine (spec_l01In.calls a0_1 1 9999 true _ A4.out).mono ?_); rintro e w' ⟨rfl, ⟨nd, rfl⟩⟩))
        go_ret
        exact ⟨ew, by exact lT HB (gC GE122 gN)⟩
      ·rw [if_neg c123] at H
       have c123b0 : (a0_5.toList == ([] : List UInt8)) = false := beq_eq_false_iff_ne.mpr c123
       have c123b1 : (a0_5.toList != ([] : List UInt8)) = true := bne_iff_ne.mpr c123
       obtain rfl := Option.some.inj H
       go_enter Try.func27, Try.ntmps27
       go_wp2_with (first | ((with_reducible refine gate_dst (N := 1) rfl ?_); refine bx 1 #[.int .i64 a0_0, .int .i64 a0_1, .int .i64 a0_2, .int .i64 a0_3, .int .i64 a0_4, .string a0_5, .string a0_6, .string a0_7] 23 ?_; intro gb122 hg w148 hbox hb; replace BK122 := ak (hbox); replace GW122 := ak (bz hg (lG HB)); replace GE122 := ak (bz hg (lG HB)); replace HB := lB HB hb; clear hb hbox hg; have hcz149_0 : w148.cell? ⟨gb122, 0, none⟩ = some (.int .i64 a0_0) := bc BK122 0; have hcz149_1 : w148.cell? ⟨gb122, 1, none⟩ = some (.int .i64 a0_1) := bc BK122 1; have hcz149_2 : w148.cell? ⟨gb122, 2, none⟩ = some (.int .i64 a0_2) := bc BK122 2; have hcz149_3 : w148.cell? ⟨gb122, 3, none⟩ = some (.int .i64 a0_3) := bc BK122 3; have hcz149_4 : w148.cell? ⟨gb122, 4, none⟩ = some (.int .i64 a0_4) := bc BK122 4; have hcz149_5 : w148.cell? ⟨gb122, 5, none⟩ = some (.string a0_5) := bc BK122 5; have hcz149_6 : w148.cell? ⟨gb122, 6, none⟩ = some (.string a0_6) := bc BK122 6; have hcz149_7 : w148.cell? ⟨gb122, 7, none⟩ = some (.string a0_7) := bc BK122 7; have hfz149_0 := blk_frozen BK122.out 0; have hfz149_1 := blk_frozen BK122.out 1; have hfz149_2 := blk_frozen BK122.out 2; have hfz149_3 := blk_frozen BK122.out 3; have hfz149_4 := blk_frozen BK122.out 4; have hfz149_5 := blk_frozen BK122.out 5; have hfz149_6 := blk_frozen BK122.out 6; have hfz149_7 := blk_frozen BK122.out 7) | ((with_reducible refine gate_callee (f := 61) rfl ?_); refine gl (some 8) Try.func61 #[.int .i64 a0_0, .int .i64 1, .int .i64 5] ?_; (with_reducible refine (spec_l01In.calls a0_0 1 5 true _ A2.out).mono ?_); rintro e w' ⟨rfl, ⟨nd, rfl⟩⟩; refine ⟨_, rfl, ?_⟩) | (go_at_call 61; (with_reducible refine (spec_l01In.calls a0_1 1 9999 true _ A4.out).mono ?_); rintro e w' ⟨rfl, ⟨nd, rfl⟩⟩))
       go_ret
       exact ⟨ew, by exact lT HB (gC GE122 gN)⟩
  ·replace c5 := Bool.eq_false_iff.mpr c5
   subst c5
   have H1 : (some false) = some r := by rw [if_neg (show ¬ (false = true) by decide)] at H; exact H
   clear H
   have H := H1
   clear H1
   obtain rfl := Option.some.inj H
   go_enter Try.func27, Try.ntmps27
   go_wp2_with (first | ((with_reducible refine gate_dst (N := 1) rfl ?_); refine bx 1 #[.int .i64 a0_0, .int .i64 a0_1, .int .i64 a0_2, .int .i64 a0_3, .int .i64 a0_4, .string a0_5, .string a0_6, .string a0_7] 23 ?_; intro gb122 hg w150 hbox hb; replace BK122 := ak (hbox); replace GW122 := ak (bz hg (lG HB)); replace GE122 := ak (bz hg (lG HB)); replace HB := lB HB hb; clear hb hbox hg; have hcz151_0 : w150.cell? ⟨gb122, 0, none⟩ = some (.int .i64 a0_0) := bc BK122 0; have hcz151_1 : w150.cell? ⟨gb122, 1, none⟩ = some (.int .i64 a0_1) := bc BK122 1; have hcz151_2 : w150.cell? ⟨gb122, 2, none⟩ = some (.int .i64 a0_2) := bc BK122 2; have hcz151_3 : w150.cell? ⟨gb122, 3, none⟩ = some (.int .i64 a0_3) := bc BK122 3; have hcz151_4 : w150.cell? ⟨gb122, 4, none⟩ = some (.int .i64 a0_4) := bc BK122 4; have hcz151_5 : w150.cell? ⟨gb122, 5, none⟩ = some (.string a0_5) := bc BK122 5; have hcz151_6 : w150.cell? ⟨gb122, 6, none⟩ = some (.string a0_6) := bc BK122 6; have hcz151_7 : w150.cell? ⟨gb122, 7, none⟩ = some (.string a0_7) := bc BK122 7; have hfz151_0 := blk_frozen BK122.out 0; have hfz151_1 := blk_frozen BK122.out 1; have hfz151_2 := blk_frozen BK122.out 2; have hfz151_3 := blk_frozen BK122.out 3; have hfz151_4 := blk_frozen BK122.out 4; have hfz151_5 := blk_frozen BK122.out 5; have hfz151_6 := blk_frozen BK122.out 6; have hfz151_7 := blk_frozen BK122.out 7) | ((with_reducible refine gate_callee (f := 61) rfl ?_); refine gl (some 8) Try.func61 #[.int .i64 a0_0, .int .i64 1, .int .i64 5] ?_; (with_reducible refine (spec_l01In.calls a0_0 1 5 true _ A2.out).mono ?_); rintro e w' ⟨rfl, ⟨nd, rfl⟩⟩; refine ⟨_, rfl, ?_⟩) | (go_at_call 61; (with_reducible refine (spec_l01In.calls a0_1 1 9999 false _ A4.out).mono ?_); rintro e w' ⟨rfl, ⟨nd, rfl⟩⟩))
   go_ret
   exact ⟨ew, by exact lT HB (gC GE122 gN)⟩
 ·replace c3 := Bool.eq_false_iff.mpr c3
  subst c3
  have H1 : (some false) = some r := by rw [if_neg (show ¬ (false = true) by decide)] at H; exact H
  clear H
  have H := H1
  clear H1
  obtain rfl := Option.some.inj H
  go_enter Try.func27, Try.ntmps27
  go_wp2_with (first | ((with_reducible refine gate_dst (N := 1) rfl ?_); refine bx 1 #[.int .i64 a0_0, .int .i64 a0_1, .int .i64 a0_2, .int .i64 a0_3, .int .i64 a0_4, .string a0_5, .string a0_6, .string a0_7] 23 ?_; intro gb122 hg w152 hbox hb; replace BK122 := ak (hbox); replace GW122 := ak (bz hg (lG HB)); replace GE122 := ak (bz hg (lG HB)); replace HB := lB HB hb; clear hb hbox hg; have hcz153_0 : w152.cell? ⟨gb122, 0, none⟩ = some (.int .i64 a0_0) := bc BK122 0; have hcz153_1 : w152.cell? ⟨gb122, 1, none⟩ = some (.int .i64 a0_1) := bc BK122 1; have hcz153_2 : w152.cell? ⟨gb122, 2, none⟩ = some (.int .i64 a0_2) := bc BK122 2; have hcz153_3 : w152.cell? ⟨gb122, 3, none⟩ = some (.int .i64 a0_3) := bc BK122 3; have hcz153_4 : w152.cell? ⟨gb122, 4, none⟩ = some (.int .i64 a0_4) := bc BK122 4; have hcz153_5 : w152.cell? ⟨gb122, 5, none⟩ = some (.string a0_5) := bc BK122 5; have hcz153_6 : w152.cell? ⟨gb122, 6, none⟩ = some (.string a0_6) := bc BK122 6; have hcz153_7 : w152.cell? ⟨gb122, 7, none⟩ = some (.string a0_7) := bc BK122 7; have hfz153_0 := blk_frozen BK122.out 0; have hfz153_1 := blk_frozen BK122.out 1; have hfz153_2 := blk_frozen BK122.out 2; have hfz153_3 := blk_frozen BK122.out 3; have hfz153_4 := blk_frozen BK122.out 4; have hfz153_5 := blk_frozen BK122.out 5; have hfz153_6 := blk_frozen BK122.out 6; have hfz153_7 := blk_frozen BK122.out 7) | ((with_reducible refine gate_callee (f := 61) rfl ?_); refine gl (some 8) Try.func61 #[.int .i64 a0_0, .int .i64 1, .int .i64 5] ?_; (with_reducible refine (spec_l01In.calls a0_0 1 5 false _ A2.out).mono ?_); rintro e w' ⟨rfl, ⟨nd, rfl⟩⟩; refine ⟨_, rfl, ?_⟩))
  go_ret
  exact ⟨ew, by exact lT HB (gC GE122 gN)⟩

/-! ### spec_l06Short: function 95 -/
def spec_l06Short.f (k : Nat) (a0 : ByteArray) : Option (ByteArray) := (spec_l01Var.f k (a0.size : Int)).bind fun t144 => (if t144.size + a0.size ≤ 9223372036854775807 then (some (t144 ++ a0)) else (none))
theorem spec_l06Short.mono : ∀ a0 k, LeO (spec_l06Short.f k a0) (spec_l06Short.f (k + 1) a0) := by
 intro a0 k
 unfold spec_l06Short.f
 repeat' first
   | (with_reducible exact spec_l01Var.mono _ _)
   | (with_reducible exact LeO.refl _)
   | (with_reducible exact LeO.none _)
   | (with_reducible refine LeO.ite ?_ ?_)
   | (with_reducible refine LeO.bind ?_ (fun _ => ?_))
   | exact spec_l01Var.mono _ _
   | exact LeO.none _
   | refine LeO.ite ?_ ?_
   | refine LeO.bind ?_ (fun _ => ?_)
set_option maxHeartbeats 8000000 in
set_option maxRecDepth 100000 in
theorem spec_l06Short.calls (k : Nat) (a0 : ByteArray) (r : ByteArray) (w : World) (h : spec_l06Short.f k a0 = some r) :
  Calls Try.prog 95 #[.string a0] w fun e w' => e = .returned (.string r) ∧ Below w.heap.size w w' := by
 have HB := ak (Below.refl w.heap.size w)
 have H : ((spec_l01Var.f k (a0.size : Int)).bind fun t144 => (if t144.size + a0.size ≤ 9223372036854775807 then (some (t144 ++ a0)) else (none))) = some r := h
 clear h
 replace H := Option.bind_eq_some_iff.mp H
 obtain ⟨t144, A20, H⟩ := H
 replace H : (if t144.size + a0.size ≤ 9223372036854775807 then (some (t144 ++ a0)) else (none)) = some r := H
 have A2 := Aside0.mk A20
 clear A20
 by_cases c3 : t144.size + a0.size ≤ 9223372036854775807
 ·rw [if_pos c3] at H
  have c3b0 := eq_true c3
  have c3b1 : decide (t144.size + a0.size ≤ 9223372036854775807) = true := decide_eq_true c3
  try have c3b2 : (9223372036854775807 < t144.size + a0.size) = False := eq_false (Nat.not_lt.2 c3)
  obtain rfl := Option.some.inj H
  go_enter Try.func95, Try.ntmps95
  go_wp2_with (first | ((with_reducible refine gate_callee (f := 94) rfl ?_); refine gl (some 5) Try.func94 #[.int .i64 (a0.size : Int)] ?_; (with_reducible refine (spec_l01Var.calls k (a0.size : Int) t144 _ A2.out).mono ?_); rintro e w4 ⟨rfl, hb⟩; refine ⟨_, rfl, ?_⟩; replace HB := lB HB hb; (try clear hb); (try clear hk)))
  go_ret
  exact ⟨ew, by exact lG HB⟩
 ·rw [if_neg c3] at H
  exact absurd H (by simp)

end Go.Proofs.Ytagkjeldheiejaa.PFnExactReadRec
