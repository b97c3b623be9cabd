-- Written for this claim by a program of mine (a turned copy of the kit's print): functions as plain Lean, and their contracts. Lean checks it.
import Derived.Test.YtagkjeldheiejaaPFnRecordsx0
import Derived.Test.YtagkjeldheiejaaPFnRecordsx3
import Derived.Test.YtagkjeldheiejaaPFnRecordsx5
import Derived.Test.YtagkjeldheiejaaVFnRecords1
namespace Go.Proofs.Ytagkjeldheiejaa.PFnRecords
open Go.RowKit Go.Proofs.YtagkjeldheiejaaW.PrintWords Go.Proofs.YtagkjeldheiejaaW.PrintLast Go.Proofs.YtagkjeldheiejaaW.PrintMore
attribute [local go_sem] max2_int min2_int max_two min_two max_three min_three max_four min_four   -- for this text's walks alone
set_option linter.unusedVariables false
set_option linter.unusedSimpArgs false

/-! ### spec_RecOk: function 27 -/
def spec_RecOk.f (k : Nat) (a0_0 : Int) (a0_1 : Int) (a0_2 : Int) (a0_3 : Int) (a0_4 : Int) (a0_5 : ByteArray) (a0_6 : ByteArray) (a0_7 : ByteArray) : Option (Bool) := (spec_l01In.f a0_0 1 5).bind fun t123 => (if t123 = true then ((spec_l01In.f a0_1 1 9999).bind fun t124 => (if t124 = true then (if a0_0 = 3 then (if a0_0 = 1 then ((spec_WordOk.f k a0_5).bind fun t125 => (if t125 = true then ((spec_WordOk.f k a0_6).bind fun t126 => (if t126 = true then ((spec_l01In.f a0_3 1 10000).bind fun t127 => (if t127 = true then ((spec_l01In.f a0_2 1 9999).bind fun t128 => (if t128 = true then ((spec_l01In.f a0_4 0 7).bind fun t129 => (if t129 = true then (some (decide ((a0_7.size : Int) ≤ 100))) else (some false))) else (some false))) else (some false))) else (some false))) else (some false))) else (if a0_5.toList = ([] : List UInt8) then (if a0_6.toList = ([] : List UInt8) then (if a0_3 = 0 then ((spec_l01In.f a0_2 1 9999).bind fun t130 => (if t130 = true then ((spec_l01In.f a0_4 0 7).bind fun t131 => (if t131 = true then (some (decide ((a0_7.size : Int) ≤ 100))) else (some false))) else (some false))) else (some false)) else (some false)) else (some false))) else (if a0_0 = 4 then (if a0_0 = 1 then ((spec_WordOk.f k a0_5).bind fun t132 => (if t132 = true then ((spec_WordOk.f k a0_6).bind fun t133 => (if t133 = true then ((spec_l01In.f a0_3 1 10000).bind fun t134 => (if t134 = true then ((spec_l01In.f a0_2 1 9999).bind fun t135 => (if t135 = true then ((spec_l01In.f a0_4 0 7).bind fun t136 => (if t136 = true then (some (a0_7.toList == ([] : List UInt8))) else (some false))) else (some false))) else (some false))) else (some false))) else (some false))) else (if a0_5.toList = ([] : List UInt8) then (if a0_6.toList = ([] : List UInt8) then (if a0_3 = 0 then ((spec_l01In.f a0_2 1 9999).bind fun t137 => (if t137 = true then ((spec_l01In.f a0_4 0 7).bind fun t138 => (if t138 = true then (some (a0_7.toList == ([] : List UInt8))) else (some false))) else (some false))) else (some false)) else (some false)) else (some false))) else (if a0_0 = 1 then ((spec_WordOk.f k a0_5).bind fun t139 => (if t139 = true then ((spec_WordOk.f k a0_6).bind fun t140 => (if t140 = true then ((spec_l01In.f a0_3 1 10000).bind fun t141 => (if t141 = true then (if a0_0 = 5 then ((spec_l01In.f a0_2 1 9999).bind fun t142 => (if t142 = true then (if a0_4 = 0 then (some (a0_7.toList == ([] : List UInt8))) else (some false)) else (some false))) else (if a0_2 = 0 then (if a0_4 = 0 then (some (a0_7.toList == ([] : List UInt8))) else (some false)) else (some false))) else (some false))) else (some false))) else (some false))) else (if a0_5.toList = ([] : List UInt8) then (if a0_6.toList = ([] : List UInt8) then (if a0_3 = 0 then (if a0_0 = 5 then ((spec_l01In.f a0_2 1 9999).bind fun t143 => (if t143 = true then (if a0_4 = 0 then (some (a0_7.toList == ([] : List UInt8))) else (some false)) else (some false))) else (if a0_2 = 0 then (if a0_4 = 0 then (some (a0_7.toList == ([] : List UInt8))) else (some false)) else (some false))) else (some false)) else (some false)) else (some false))))) else (some false))) else (some false))
theorem spec_RecOk.mono : ∀ a0 a1 a2 a3 a4 a5 a6 a7 k, LeO (spec_RecOk.f k a0 a1 a2 a3 a4 a5 a6 a7) (spec_RecOk.f (k + 1) a0 a1 a2 a3 a4 a5 a6 a7) := by
 intro a0 a1 a2 a3 a4 a5 a6 a7 k
 unfold spec_RecOk.f
 repeat' first
   | (with_reducible exact spec_WordOk.mono _ _)
   | (with_reducible exact LeO.refl _)
   | (with_reducible exact LeO.none _)
   | (with_reducible refine LeO.ite ?_ ?_)
   | (with_reducible refine LeO.bind ?_ (fun _ => ?_))
   | exact spec_WordOk.mono _ _
   | exact LeO.none _
   | refine LeO.ite ?_ ?_
   | refine LeO.bind ?_ (fun _ => ?_)
set_option maxHeartbeats 8000000 in
set_option maxRecDepth 100000 in
theorem spec_RecOk.calls (k : Nat) (a0_0 : Int) (a0_1 : Int) (a0_2 : Int) (a0_3 : Int) (a0_4 : Int) (a0_5 : ByteArray) (a0_6 : ByteArray) (a0_7 : ByteArray) (r : Bool) (w : World) (h : spec_RecOk.f k a0_0 a0_1 a0_2 a0_3 a0_4 a0_5 a0_6 a0_7 = some r) :
  Calls Try.prog 27 #[.agg #[.int .i64 a0_0, .int .i64 a0_1, .int .i64 a0_2, .int .i64 a0_3, .int .i64 a0_4, .string a0_5, .string a0_6, .string a0_7]] w fun e w' => e = .returned (.bool r) ∧ Below w.heap.size w w' := by
 have hu23 := Try.underlying23
 have HB := ak (Below.refl w.heap.size w)
 have H : ((spec_l01In.f a0_0 1 5).bind fun t123 => (if t123 = true then ((spec_l01In.f a0_1 1 9999).bind fun t124 => (if t124 = true then (if a0_0 = 3 then (if a0_0 = 1 then ((spec_WordOk.f k a0_5).bind fun t125 => (if t125 = true then ((spec_WordOk.f k a0_6).bind fun t126 => (if t126 = true then ((spec_l01In.f a0_3 1 10000).bind fun t127 => (if t127 = true then ((spec_l01In.f a0_2 1 9999).bind fun t128 => (if t128 = true then ((spec_l01In.f a0_4 0 7).bind fun t129 => (if t129 = true then (some (decide ((a0_7.size : Int) ≤ 100))) else (some false))) else (some false))) else (some false))) else (some false))) else (some false))) else (if a0_5.toList = ([] : List UInt8) then (if a0_6.toList = ([] : List UInt8) then (if a0_3 = 0 then ((spec_l01In.f a0_2 1 9999).bind fun t130 => (if t130 = true then ((spec_l01In.f a0_4 0 7).bind fun t131 => (if t131 = true then (some (decide ((a0_7.size : Int) ≤ 100))) else (some false))) else (some false))) else (some false)) else (some false)) else (some false))) else (if a0_0 = 4 then (if a0_0 = 1 then ((spec_WordOk.f k a0_5).bind fun t132 => (if t132 = true then ((spec_WordOk.f k a0_6).bind fun t133 => (if t133 = true then ((spec_l01In.f a0_3 1 10000).bind fun t134 => (if t134 = true then ((spec_l01In.f a0_2 1 9999).bind fun t135 => (if t135 = true then ((spec_l01In.f a0_4 0 7).bind fun t136 => (if t136 = true then (some (a0_7.toList == ([] : List UInt8))) else (some false))) else (some false))) else (some false))) else (some false))) else (some false))) else (if a0_5.toList = ([] : List UInt8) then (if a0_6.toList = ([] : List UInt8) then (if a0_3 = 0 then ((spec_l01In.f a0_2 1 9999).bind fun t137 => (if t137 = true then ((spec_l01In.f a0_4 0 7).bind fun t138 => (if t138 = true then (some (a0_7.toList == ([] : List UInt8))) else (some false))) else (some false))) else (some false)) else (some false)) else (some false))) else (if a0_0 = 1 then ((spec_WordOk.f k a0_5).bind fun t139 => (if t139 = true then ((spec_WordOk.f k a0_6).bind fun t140 => (if t140 = true then ((spec_l01In.f a0_3 1 10000).bind fun t141 => (if t141 = true then (if a0_0 = 5 then ((spec_l01In.f a0_2 1 9999).bind fun t142 => (if t142 = true then (if a0_4 = 0 then (some (a0_7.toList == ([] : List UInt8))) else (some false)) else (some false))) else (if a0_2 = 0 then (if a0_4 = 0 then (some (a0_7.toList == ([] : List UInt8))) else (some false)) else (some false))) else (some false))) else (some false))) else (some false))) else (if a0_5.toList = ([] : List UInt8) then (if a0_6.toList = ([] : List UInt8) then (if a0_3 = 0 then (if a0_0 = 5 then ((spec_l01In.f a0_2 1 9999).bind fun t143 => (if t143 = true then (if a0_4 = 0 then (some (a0_7.toList == ([] : List UInt8))) else (some false)) else (some false))) else (if a0_2 = 0 then (if a0_4 = 0 then (some (a0_7.toList == ([] : List UInt8))) else (some false)) else (some false))) else (some false)) else (some false)) else (some false))))) else (some false))) else (some false))) = some r := h
 clear h
 replace H := Option.bind_eq_some_iff.mp H
 obtain ⟨t123, A20, H⟩ := H
 replace H : (if t123 = true then ((spec_l01In.f a0_1 1 9999).bind fun t124 => (if t124 = true then (if a0_0 = 3 then (if a0_0 = 1 then ((spec_WordOk.f k a0_5).bind fun t125 => (if t125 = true then ((spec_WordOk.f k a0_6).bind fun t126 => (if t126 = true then ((spec_l01In.f a0_3 1 10000).bind fun t127 => (if t127 = true then ((spec_l01In.f a0_2 1 9999).bind fun t128 => (if t128 = true then ((spec_l01In.f a0_4 0 7).bind fun t129 => (if t129 = true then (some (decide ((a0_7.size : Int) ≤ 100))) else (some false))) else (some false))) else (some false))) else (some false))) else (some false))) else (if a0_5.toList = ([] : List UInt8) then (if a0_6.toList = ([] : List UInt8) then (if a0_3 = 0 then ((spec_l01In.f a0_2 1 9999).bind fun t130 => (if t130 = true then ((spec_l01In.f a0_4 0 7).bind fun t131 => (if t131 = true then (some (decide ((a0_7.size : Int) ≤ 100))) else (some false))) else (some false))) else (some false)) else (some false)) else (some false))) else (if a0_0 = 4 then (if a0_0 = 1 then ((spec_WordOk.f k a0_5).bind fun t132 => (if t132 = true then ((spec_WordOk.f k a0_6).bind fun t133 => (if t133 = true then ((spec_l01In.f a0_3 1 10000).bind fun t134 => (if t134 = true then ((spec_l01In.f a0_2 1 9999).bind fun t135 => (if t135 = true then ((spec_l01In.f a0_4 0 7).bind fun t136 => (if t136 = true then (some (a0_7.toList == ([] : List UInt8))) else (some false))) else (some false))) else (some false))) else (some false))) else (some false))) else (if a0_5.toList = ([] : List UInt8) then (if a0_6.toList = ([] : List UInt8) then (if a0_3 = 0 then ((spec_l01In.f a0_2 1 9999).bind fun t137 => (if t137 = true then ((spec_l01In.f a0_4 0 7).bind fun t138 => (if t138 = true then (some (a0_7.toList == ([] : List UInt8))) else (some false))) else (some false))) else (some false)) else (some false)) else (some false))) else (if a0_0 = 1 then ((spec_WordOk.f k a0_5).bind fun t139 => (if t139 = true then ((spec_WordOk.f k a0_6).bind fun t140 => (if t140 = true then ((spec_l01In.f a0_3 1 10000).bind fun t141 => (if t141 = true then (if a0_0 = 5 then ((spec_l01In.f a0_2 1 9999).bind fun t142 => (if t142 = true then (if a0_4 = 0 then (some (a0_7.toList == ([] : List UInt8))) else (some false)) else (some false))) else (if a0_2 = 0 then (if a0_4 = 0 then (some (a0_7.toList == ([] : List UInt8))) else (some false)) else (some false))) else (some false))) else (some false))) else (some false))) else (if a0_5.toList = ([] : List UInt8) then (if a0_6.toList = ([] : List UInt8) then (if a0_3 = 0 then (if a0_0 = 5 then ((spec_l01In.f a0_2 1 9999).bind fun t143 => (if t143 = true then (if a0_4 = 0 then (some (a0_7.toList == ([] : List UInt8))) else (some false)) else (some false))) else (if a0_2 = 0 then (if a0_4 = 0 then (some (a0_7.toList == ([] : List UInt8))) else (some false)) else (some false))) else (some false)) else (some false)) else (some false))))) else (some false))) else (some false)) = some r := H
 have A2 := Aside0.mk A20
 clear A20
 by_cases c3 : t123 = true
 ·subst c3
  have H1 : ((spec_l01In.f a0_1 1 9999).bind fun t124 => (if t124 = true then (if a0_0 = 3 then (if a0_0 = 1 then ((spec_WordOk.f k a0_5).bind fun t125 => (if t125 = true then ((spec_WordOk.f k a0_6).bind fun t126 => (if t126 = true then ((spec_l01In.f a0_3 1 10000).bind fun t127 => (if t127 = true then ((spec_l01In.f a0_2 1 9999).bind fun t128 => (if t128 = true then ((spec_l01In.f a0_4 0 7).bind fun t129 => (if t129 = true then (some (decide ((a0_7.size : Int) ≤ 100))) else (some false))) else (some false))) else (some false))) else (some false))) else (some false))) else (if a0_5.toList = ([] : List UInt8) then (if a0_6.toList = ([] : List UInt8) then (if a0_3 = 0 then ((spec_l01In.f a0_2 1 9999).bind fun t130 => (if t130 = true then ((spec_l01In.f a0_4 0 7).bind fun t131 => (if t131 = true then (some (decide ((a0_7.size : Int) ≤ 100))) else (some false))) else (some false))) else (some false)) else (some false)) else (some false))) else (if a0_0 = 4 then (if a0_0 = 1 then ((spec_WordOk.f k a0_5).bind fun t132 => (if t132 = true then ((spec_WordOk.f k a0_6).bind fun t133 => (if t133 = true then ((spec_l01In.f a0_3 1 10000).bind fun t134 => (if t134 = true then ((spec_l01In.f a0_2 1 9999).bind fun t135 => (if t135 = true then ((spec_l01In.f a0_4 0 7).bind fun t136 => (if t136 = true then (some (a0_7.toList == ([] : List UInt8))) else (some false))) else (some false))) else (some false))) else (some false))) else (some false))) else (if a0_5.toList = ([] : List UInt8) then (if a0_6.toList = ([] : List UInt8) then (if a0_3 = 0 then ((spec_l01In.f a0_2 1 9999).bind fun t137 => (if t137 = true then ((spec_l01In.f a0_4 0 7).bind fun t138 => (if t138 = true then (some (a0_7.toList == ([] : List UInt8))) else (some false))) else (some false))) else (some false)) else (some false)) else (some false))) else (if a0_0 = 1 then ((spec_WordOk.f k a0_5).bind fun t139 => (if t139 = true then ((spec_WordOk.f k a0_6).bind fun t140 => (if t140 = true then ((spec_l01In.f a0_3 1 10000).bind fun t141 => (if t141 = true then (if a0_0 = 5 then ((spec_l01In.f a0_2 1 9999).bind fun t142 => (if t142 = true then (if a0_4 = 0 then (some (a0_7.toList == ([] : List UInt8))) else (some false)) else (some false))) else (if a0_2 = 0 then (if a0_4 = 0 then (some (a0_7.toList == ([] : List UInt8))) else (some false)) else (some false))) else (some false))) else (some false))) else (some false))) else (if a0_5.toList = ([] : List UInt8) then (if a0_6.toList = ([] : List UInt8) then (if a0_3 = 0 then (if a0_0 = 5 then ((spec_l01In.f a0_2 1 9999).bind fun t143 => (if t143 = true then (if a0_4 = 0 then (some (a0_7.toList == ([] : List UInt8))) else (some false)) else (some false))) else (if a0_2 = 0 then (if a0_4 = 0 then (some (a0_7.toList == ([] : List UInt8))) else (some false)) else (some false))) else (some false)) else (some false)) else (some false))))) else (some false))) = some r := by rw [if_pos rfl] at H; exact H
  clear H
  have H := H1
  clear H1
  replace H := Option.bind_eq_some_iff.mp H
  obtain ⟨t124, A40, H⟩ := H
  replace H : (if t124 = true then (if a0_0 = 3 then (if a0_0 = 1 then ((spec_WordOk.f k a0_5).bind fun t125 => (if t125 = true then ((spec_WordOk.f k a0_6).bind fun t126 => (if t126 = true then ((spec_l01In.f a0_3 1 10000).bind fun t127 => (if t127 = true then ((spec_l01In.f a0_2 1 9999).bind fun t128 => (if t128 = true then ((spec_l01In.f a0_4 0 7).bind fun t129 => (if t129 = true then (some (decide ((a0_7.size : Int) ≤ 100))) else (some false))) else (some false))) else (some false))) else (some false))) else (some false))) else (if a0_5.toList = ([] : List UInt8) then (if a0_6.toList = ([] : List UInt8) then (if a0_3 = 0 then ((spec_l01In.f a0_2 1 9999).bind fun t130 => (if t130 = true then ((spec_l01In.f a0_4 0 7).bind fun t131 => (if t131 = true then (some (decide ((a0_7.size : Int) ≤ 100))) else (some false))) else (some false))) else (some false)) else (some false)) else (some false))) else (if a0_0 = 4 then (if a0_0 = 1 then ((spec_WordOk.f k a0_5).bind fun t132 => (if t132 = true then ((spec_WordOk.f k a0_6).bind fun t133 => (if t133 = true then ((spec_l01In.f a0_3 1 10000).bind fun t134 => (if t134 = true then ((spec_l01In.f a0_2 1 9999).bind fun t135 => (if t135 = true then ((spec_l01In.f a0_4 0 7).bind fun t136 => (if t136 = true then (some (a0_7.toList == ([] : List UInt8))) else (some false))) else (some false))) else (some false))) else (some false))) else (some false))) else (if a0_5.toList = ([] : List UInt8) then (if a0_6.toList = ([] : List UInt8) then (if a0_3 = 0 then ((spec_l01In.f a0_2 1 9999).bind fun t137 => (if t137 = true then ((spec_l01In.f a0_4 0 7).bind fun t138 => (if t138 = true then (some (a0_7.toList == ([] : List UInt8))) else (some false))) else (some false))) else (some false)) else (some false)) else (some false))) else (if a0_0 = 1 then ((spec_WordOk.f k a0_5).bind fun t139 => (if t139 = true then ((spec_WordOk.f k a0_6).bind fun t140 => (if t140 = true then ((spec_l01In.f a0_3 1 10000).bind fun t141 => (if t141 = true then (if a0_0 = 5 then ((spec_l01In.f a0_2 1 9999).bind fun t142 => (if t142 = true then (if a0_4 = 0 then (some (a0_7.toList == ([] : List UInt8))) else (some false)) else (some false))) else (if a0_2 = 0 then (if a0_4 = 0 then (some (a0_7.toList == ([] : List UInt8))) else (some false)) else (some false))) else (some false))) else (some false))) else (some false))) else (if a0_5.toList = ([] : List UInt8) then (if a0_6.toList = ([] : List UInt8) then (if a0_3 = 0 then (if a0_0 = 5 then ((spec_l01In.f a0_2 1 9999).bind fun t143 => (if t143 = true then (if a0_4 = 0 then (some (a0_7.toList == ([] : List UInt8))) else (some false)) else (some false))) else (if a0_2 = 0 then (if a0_4 = 0 then (some (a0_7.toList == ([] : List UInt8))) else (some false)) else (some false))) else (some false)) else (some false)) else (some false))))) else (some false)) = some r := H
  have A4 := Aside0.mk A40
  clear A40
  by_cases c5 : t124 = true
  ·subst c5
   have H1 : (if a0_0 = 3 then (if a0_0 = 1 then ((spec_WordOk.f k a0_5).bind fun t125 => (if t125 = true then ((spec_WordOk.f k a0_6).bind fun t126 => (if t126 = true then ((spec_l01In.f a0_3 1 10000).bind fun t127 => (if t127 = true then ((spec_l01In.f a0_2 1 9999).bind fun t128 => (if t128 = true then ((spec_l01In.f a0_4 0 7).bind fun t129 => (if t129 = true then (some (decide ((a0_7.size : Int) ≤ 100))) else (some false))) else (some false))) else (some false))) else (some false))) else (some false))) else (if a0_5.toList = ([] : List UInt8) then (if a0_6.toList = ([] : List UInt8) then (if a0_3 = 0 then ((spec_l01In.f a0_2 1 9999).bind fun t130 => (if t130 = true then ((spec_l01In.f a0_4 0 7).bind fun t131 => (if t131 = true then (some (decide ((a0_7.size : Int) ≤ 100))) else (some false))) else (some false))) else (some false)) else (some false)) else (some false))) else (if a0_0 = 4 then (if a0_0 = 1 then ((spec_WordOk.f k a0_5).bind fun t132 => (if t132 = true then ((spec_WordOk.f k a0_6).bind fun t133 => (if t133 = true then ((spec_l01In.f a0_3 1 10000).bind fun t134 => (if t134 = true then ((spec_l01In.f a0_2 1 9999).bind fun t135 => (if t135 = true then ((spec_l01In.f a0_4 0 7).bind fun t136 => (if t136 = true then (some (a0_7.toList == ([] : List UInt8))) else (some false))) else (some false))) else (some false))) else (some false))) else (some false))) else (if a0_5.toList = ([] : List UInt8) then (if a0_6.toList = ([] : List UInt8) then (if a0_3 = 0 then ((spec_l01In.f a0_2 1 9999).bind fun t137 => (if t137 = true then ((spec_l01In.f a0_4 0 7).bind fun t138 => (if t138 = true then (some (a0_7.toList == ([] : List UInt8))) else (some false))) else (some false))) else (some false)) else (some false)) else (some false))) else (if a0_0 = 1 then ((spec_WordOk.f k a0_5).bind fun t139 => (if t139 = true then ((spec_WordOk.f k a0_6).bind fun t140 => (if t140 = true then ((spec_l01In.f a0_3 1 10000).bind fun t141 => (if t141 = true then (if a0_0 = 5 then ((spec_l01In.f a0_2 1 9999).bind fun t142 => (if t142 = true then (if a0_4 = 0 then (some (a0_7.toList == ([] : List UInt8))) else (some false)) else (some false))) else (if a0_2 = 0 then (if a0_4 = 0 then (some (a0_7.toList == ([] : List UInt8))) else (some false)) else (some false))) else (some false))) else (some false))) else (some false))) else (if a0_5.toList = ([] : List UInt8) then (if a0_6.toList = ([] : List UInt8) then (if a0_3 = 0 then (if a0_0 = 5 then ((spec_l01In.f a0_2 1 9999).bind fun t143 => (if t143 = true then (if a0_4 = 0 then (some (a0_7.toList == ([] : List UInt8))) else (some false)) else (some false))) else (if a0_2 = 0 then (if a0_4 = 0 then (some (a0_7.toList == ([] : List UInt8))) else (some false)) else (some false))) else (some false)) else (some false)) else (some false))))) = some r := by rw [if_pos rfl] at H; exact H
   clear H
   have H := H1
   clear H1
   by_cases c6 : a0_0 = 3
   ·rw [if_pos c6] at H
    have c6b0 : (a0_0 == 3) = true := beq_iff_eq.mpr c6
    have c6b1 : (a0_0 != 3) = false := bne_eq_false_iff_eq.mpr c6
    clear c6
    by_cases c7 : a0_0 = 1
    ·rw [if_pos c7] at H
     have c7b0 : (a0_0 == 1) = true := beq_iff_eq.mpr c7
     have c7b1 : (a0_0 != 1) = false := bne_eq_false_iff_eq.mpr c7
     clear c7
     replace H := Option.bind_eq_some_iff.mp H
     obtain ⟨t125, A80, H⟩ := H
     replace H : (if t125 = true then ((spec_WordOk.f k a0_6).bind fun t126 => (if t126 = true then ((spec_l01In.f a0_3 1 10000).bind fun t127 => (if t127 = true then ((spec_l01In.f a0_2 1 9999).bind fun t128 => (if t128 = true then ((spec_l01In.f a0_4 0 7).bind fun t129 => (if t129 = true then (some (decide ((a0_7.size : Int) ≤ 100))) else (some false))) else (some false))) else (some false))) else (some false))) else (some false)) = some r := H
     have A8 := Aside0.mk A80
     clear A80
     by_cases c9 : t125 = true
     ·subst c9
      have H1 : ((spec_WordOk.f k a0_6).bind fun t126 => (if t126 = true then ((spec_l01In.f a0_3 1 10000).bind fun t127 => (if t127 = true then ((spec_l01In.f a0_2 1 9999).bind fun t128 => (if t128 = true then ((spec_l01In.f a0_4 0 7).bind fun t129 => (if t129 = true then (some (decide ((a0_7.size : Int) ≤ 100))) else (some false))) else (some false))) else (some false))) else (some false))) = some r := by rw [if_pos rfl] at H; exact H
      clear H
      have H := H1
      clear H1
      replace H := Option.bind_eq_some_iff.mp H
      obtain ⟨t126, A100, H⟩ := H
      replace H : (if t126 = true then ((spec_l01In.f a0_3 1 10000).bind fun t127 => (if t127 = true then ((spec_l01In.f a0_2 1 9999).bind fun t128 => (if t128 = true then ((spec_l01In.f a0_4 0 7).bind fun t129 => (if t129 = true then (some (decide ((a0_7.size : Int) ≤ 100))) else (some false))) else (some false))) else (some false))) else (some false)) = some r := H
      have A10 := Aside0.mk A100
      clear A100
      by_cases c11 : t126 = true
      ·subst c11
       have H1 : ((spec_l01In.f a0_3 1 10000).bind fun t127 => (if t127 = true then ((spec_l01In.f a0_2 1 9999).bind fun t128 => (if t128 = true then ((spec_l01In.f a0_4 0 7).bind fun t129 => (if t129 = true then (some (decide ((a0_7.size : Int) ≤ 100))) else (some false))) else (some false))) else (some false))) = some r := by rw [if_pos rfl] at H; exact H
       clear H
       have H := H1
       clear H1
       replace H := Option.bind_eq_some_iff.mp H
       obtain ⟨t127, A120, H⟩ := H
       replace H : (if t127 = true then ((spec_l01In.f a0_2 1 9999).bind fun t128 => (if t128 = true then ((spec_l01In.f a0_4 0 7).bind fun t129 => (if t129 = true then (some (decide ((a0_7.size : Int) ≤ 100))) else (some false))) else (some false))) else (some false)) = some r := H
       have A12 := Aside0.mk A120
       clear A120
       by_cases c13 : t127 = true
       ·subst c13
        have H1 : ((spec_l01In.f a0_2 1 9999).bind fun t128 => (if t128 = true then ((spec_l01In.f a0_4 0 7).bind fun t129 => (if t129 = true then (some (decide ((a0_7.size : Int) ≤ 100))) else (some false))) else (some false))) = some r := by rw [if_pos rfl] at H; exact H
        clear H
        have H := H1
        clear H1
        replace H := Option.bind_eq_some_iff.mp H
        obtain ⟨t128, A140, H⟩ := H
        replace H : (if t128 = true then ((spec_l01In.f a0_4 0 7).bind fun t129 => (if t129 = true then (some (decide ((a0_7.size : Int) ≤ 100))) else (some false))) else (some false)) = some r := H
        have A14 := Aside0.mk A140
        clear A140
        by_cases c15 : t128 = true
        ·subst c15
         have H1 : ((spec_l01In.f a0_4 0 7).bind fun t129 => (if t129 = true then (some (decide ((a0_7.size : Int) ≤ 100))) else (some false))) = some r := by rw [if_pos rfl] at H; exact H
         clear H
         have H := H1
         clear H1
         replace H := Option.bind_eq_some_iff.mp H
         obtain ⟨t129, A160, H⟩ := H
         replace H : (if t129 = true then (some (decide ((a0_7.size : Int) ≤ 100))) else (some false)) = some r := H
         have A16 := Aside0.mk A160
         clear A160
         by_cases c17 : t129 = true
         ·subst c17
          have H1 : (some (decide ((a0_7.size : Int) ≤ 100))) = some r := by rw [if_pos rfl] at H; exact H
          clear H
          have H := H1
          clear H1
          obtain rfl := Option.some.inj H
          go_enter Try.func27, Try.ntmps27
          go_wp2_with (first | ((with_reducible refine gate_dst (N := 1) rfl ?_); refine bx 1 #[.int .i64 a0_0, .int .i64 a0_1, .int .i64 a0_2, .int .i64 a0_3, .int .i64 a0_4, .string a0_5, .string a0_6, .string a0_7] 23 ?_; intro gb122 hg w18 hbox hb; replace BK122 := ak (hbox); replace GW122 := ak (bz hg (lG HB)); replace GE122 := ak (bz hg (lG HB)); replace HB := lB HB hb; clear hb hbox hg; obtain ⟨hcz19_0, hcz19_1, hcz19_2, hcz19_3, hcz19_4, hcz19_5, hcz19_6, hcz19_7, hfz19_0, hfz19_1, hfz19_2, hfz19_3, hfz19_4, hfz19_5, hfz19_6, hfz19_7⟩ := bC8 BK122) | ((with_reducible refine gate_callee (f := 61) rfl ?_); refine gl (some 8) Try.func61 #[.int .i64 a0_0, .int .i64 1, .int .i64 5] ?_; (with_reducible refine (spec_l01In.calls a0_0 1 5 true _ A2.out).mono ?_); rintro e w' ⟨rfl, ⟨nd, rfl⟩⟩; refine ⟨_, rfl, ?_⟩) | (go_at_call 61; (with_reducible refine (spec_l01In.calls a0_1 1 9999 true _ A4.out).mono ?_); rintro e w' ⟨rfl, ⟨nd, rfl⟩⟩) | (go_at_call 32; (with_reducible refine (spec_WordOk.calls k a0_5 true _ A8.out).mono ?_); rintro e w' ⟨rfl, ⟨nd, rfl⟩⟩) | (go_at_call 32; (with_reducible refine (spec_WordOk.calls k a0_6 true _ A10.out).mono ?_); rintro e w' ⟨rfl, ⟨nd, rfl⟩⟩) | (go_at_call 61; (with_reducible refine (spec_l01In.calls a0_3 1 10000 true _ A12.out).mono ?_); rintro e w' ⟨rfl, ⟨nd, rfl⟩⟩) | (go_at_call 61; (with_reducible refine (spec_l01In.calls a0_2 1 9999 true _ A14.out).mono ?_); rintro e w' ⟨rfl, ⟨nd, rfl⟩⟩) | (go_at_call 61; (with_reducible refine (spec_l01In.calls a0_4 0 7 true _ A16.out).mono ?_); rintro e w' ⟨rfl, ⟨nd, rfl⟩⟩))
          go_ret
          exact ⟨ew, by exact lT HB (gC GE122 gN)⟩
         ·replace c17 := Bool.eq_false_iff.mpr c17
          subst c17
          have H1 : (some false) = some r := by rw [if_neg (show ¬ (false = true) by decide)] at H; exact H
          clear H
          have H := H1
          clear H1
          obtain rfl := Option.some.inj H
          go_enter Try.func27, Try.ntmps27
          go_wp2_with (first | ((with_reducible refine gate_dst (N := 1) rfl ?_); refine bx 1 #[.int .i64 a0_0, .int .i64 a0_1, .int .i64 a0_2, .int .i64 a0_3, .int .i64 a0_4, .string a0_5, .string a0_6, .string a0_7] 23 ?_; intro gb122 hg w20 hbox hb; replace BK122 := ak (hbox); replace GW122 := ak (bz hg (lG HB)); replace GE122 := ak (bz hg (lG HB)); replace HB := lB HB hb; clear hb hbox hg; obtain ⟨hcz21_0, hcz21_1, hcz21_2, hcz21_3, hcz21_4, hcz21_5, hcz21_6, hcz21_7, hfz21_0, hfz21_1, hfz21_2, hfz21_3, hfz21_4, hfz21_5, hfz21_6, hfz21_7⟩ := bC8 BK122) | ((with_reducible refine gate_callee (f := 61) rfl ?_); refine gl (some 8) Try.func61 #[.int .i64 a0_0, .int .i64 1, .int .i64 5] ?_; (with_reducible refine (spec_l01In.calls a0_0 1 5 true _ A2.out).mono ?_); rintro e w' ⟨rfl, ⟨nd, rfl⟩⟩; refine ⟨_, rfl, ?_⟩) | (go_at_call 61; (with_reducible refine (spec_l01In.calls a0_1 1 9999 true _ A4.out).mono ?_); rintro e w' ⟨rfl, ⟨nd, rfl⟩⟩) | (go_at_call 32; (with_reducible refine (spec_WordOk.calls k a0_5 true _ A8.out).mono ?_); rintro e w' ⟨rfl, ⟨nd, rfl⟩⟩) | (go_at_call 32; (with_reducible refine (spec_WordOk.calls k a0_6 true _ A10.out).mono ?_); rintro e w' ⟨rfl, ⟨nd, rfl⟩⟩) | (go_at_call 61; (with_reducible refine (spec_l01In.calls a0_3 1 10000 true _ A12.out).mono ?_); rintro e w' ⟨rfl, ⟨nd, rfl⟩⟩) | (go_at_call 61; (with_reducible refine (spec_l01In.calls a0_2 1 9999 true _ A14.out).mono ?_); rintro e w' ⟨rfl, ⟨nd, rfl⟩⟩) | (go_at_call 61; (with_reducible refine (spec_l01In.calls a0_4 0 7 false _ A16.out).mono ?_); rintro e w' ⟨rfl, ⟨nd, rfl⟩⟩))
          go_ret
          exact ⟨ew, by exact lT HB (gC GE122 gN)⟩
        ·replace c15 := Bool.eq_false_iff.mpr c15
         subst c15
         have H1 : (some false) = some r := by rw [if_neg (show ¬ (false = true) by decide)] at H; exact H
         clear H
         have H := H1
         clear H1
         obtain rfl := Option.some.inj H
         go_enter Try.func27, Try.ntmps27
         go_wp2_with (first | ((with_reducible refine gate_dst (N := 1) rfl ?_); refine bx 1 #[.int .i64 a0_0, .int .i64 a0_1, .int .i64 a0_2, .int .i64 a0_3, .int .i64 a0_4, .string a0_5, .string a0_6, .string a0_7] 23 ?_; intro gb122 hg w22 hbox hb; replace BK122 := ak (hbox); replace GW122 := ak (bz hg (lG HB)); replace GE122 := ak (bz hg (lG HB)); replace HB := lB HB hb; clear hb hbox hg; obtain ⟨hcz23_0, hcz23_1, hcz23_2, hcz23_3, hcz23_4, hcz23_5, hcz23_6, hcz23_7, hfz23_0, hfz23_1, hfz23_2, hfz23_3, hfz23_4, hfz23_5, hfz23_6, hfz23_7⟩ := bC8 BK122) | ((with_reducible refine gate_callee (f := 61) rfl ?_); refine gl (some 8) Try.func61 #[.int .i64 a0_0, .int .i64 1, .int .i64 5] ?_; (with_reducible refine (spec_l01In.calls a0_0 1 5 true _ A2.out).mono ?_); rintro e w' ⟨rfl, ⟨nd, rfl⟩⟩; refine ⟨_, rfl, ?_⟩) | (go_at_call 61; (with_reducible refine (spec_l01In.calls a0_1 1 9999 true _ A4.out).mono ?_); rintro e w' ⟨rfl, ⟨nd, rfl⟩⟩) | (go_at_call 32; (with_reducible refine (spec_WordOk.calls k a0_5 true _ A8.out).mono ?_); rintro e w' ⟨rfl, ⟨nd, rfl⟩⟩) | (go_at_call 32; (with_reducible refine (spec_WordOk.calls k a0_6 true _ A10.out).mono ?_); rintro e w' ⟨rfl, ⟨nd, rfl⟩⟩) | (go_at_call 61; (with_reducible refine (spec_l01In.calls a0_3 1 10000 true _ A12.out).mono ?_); rintro e w' ⟨rfl, ⟨nd, rfl⟩⟩) | (go_at_call 61; (with_reducible refine (spec_l01In.calls a0_2 1 9999 false _ A14.out).mono ?_); rintro e w' ⟨rfl, ⟨nd, rfl⟩⟩))
         go_ret
         exact ⟨ew, by exact lT HB (gC GE122 gN)⟩
       ·replace c13 := Bool.eq_false_iff.mpr c13
        subst c13
        have H1 : (some false) = some r := by rw [if_neg (show ¬ (false = true) by decide)] at H; exact H
        clear H
        have H := H1
        clear H1
        obtain rfl := Option.some.inj H
        go_enter Try.func27, Try.ntmps27
        go_wp2_with (first | ((with_reducible refine gate_dst (N := 1) rfl ?_); refine bx 1 #[.int .i64 a0_0, .int .i64 a0_1, .int .i64 a0_2, .int .i64 a0_3, .int .i64 a0_4, .string a0_5, .string a0_6, .string a0_7] 23 ?_; intro gb122 hg w24 hbox hb; replace BK122 := ak (hbox); replace GW122 := ak (bz hg (lG HB)); replace GE122 := ak (bz hg (lG HB)); replace HB := lB HB hb; clear hb hbox hg; obtain ⟨hcz25_0, hcz25_1, hcz25_2, hcz25_3, hcz25_4, hcz25_5, hcz25_6, hcz25_7, hfz25_0, hfz25_1, hfz25_2, hfz25_3, hfz25_4, hfz25_5, hfz25_6, hfz25_7⟩ := bC8 BK122) | ((with_reducible refine gate_callee (f := 61) rfl ?_); refine gl (some 8) Try.func61 #[.int .i64 a0_0, .int .i64 1, .int .i64 5] ?_; (with_reducible refine (spec_l01In.calls a0_0 1 5 true _ A2.out).mono ?_); rintro e w' ⟨rfl, ⟨nd, rfl⟩⟩; refine ⟨_, rfl, ?_⟩) | (go_at_call 61; (with_reducible refine (spec_l01In.calls a0_1 1 9999 true _ A4.out).mono ?_); rintro e w' ⟨rfl, ⟨nd, rfl⟩⟩) | (go_at_call 32; (with_reducible refine (spec_WordOk.calls k a0_5 true _ A8.out).mono ?_); rintro e w' ⟨rfl, ⟨nd, rfl⟩⟩) | (go_at_call 32; (with_reducible refine (spec_WordOk.calls k a0_6 true _ A10.out).mono ?_); rintro e w' ⟨rfl, ⟨nd, rfl⟩⟩) | (go_at_call 61; (with_reducible refine (spec_l01In.calls a0_3 1 10000 false _ A12.out).mono ?_); rintro e w' ⟨rfl, ⟨nd, rfl⟩⟩))
        go_ret
        exact ⟨ew, by exact lT HB (gC GE122 gN)⟩
      ·replace c11 := Bool.eq_false_iff.mpr c11
       subst c11
       have H1 : (some false) = some r := by rw [if_neg (show ¬ (false = true) by decide)] at H; exact H
       clear H
       have H := H1
       clear H1
       obtain rfl := Option.some.inj H
       go_enter Try.func27, Try.ntmps27
       go_wp2_with (first | ((with_reducible refine gate_dst (N := 1) rfl ?_); refine bx 1 #[.int .i64 a0_0, .int .i64 a0_1, .int .i64 a0_2, .int .i64 a0_3, .int .i64 a0_4, .string a0_5, .string a0_6, .string a0_7] 23 ?_; intro gb122 hg w26 hbox hb; replace BK122 := ak (hbox); replace GW122 := ak (bz hg (lG HB)); replace GE122 := ak (bz hg (lG HB)); replace HB := lB HB hb; clear hb hbox hg; obtain ⟨hcz27_0, hcz27_1, hcz27_2, hcz27_3, hcz27_4, hcz27_5, hcz27_6, hcz27_7, hfz27_0, hfz27_1, hfz27_2, hfz27_3, hfz27_4, hfz27_5, hfz27_6, hfz27_7⟩ := bC8 BK122) | ((with_reducible refine gate_callee (f := 61) rfl ?_); refine gl (some 8) Try.func61 #[.int .i64 a0_0, .int .i64 1, .int .i64 5] ?_; (with_reducible refine (spec_l01In.calls a0_0 1 5 true _ A2.out).mono ?_); rintro e w' ⟨rfl, ⟨nd, rfl⟩⟩; refine ⟨_, rfl, ?_⟩) | (go_at_call 61; (with_reducible refine (spec_l01In.calls a0_1 1 9999 true _ A4.out).mono ?_); rintro e w' ⟨rfl, ⟨nd, rfl⟩⟩) | (go_at_call 32; (with_reducible refine (spec_WordOk.calls k a0_5 true _ A8.out).mono ?_); rintro e w' ⟨rfl, ⟨nd, rfl⟩⟩) | (go_at_call 32; (with_reducible refine (spec_WordOk.calls k a0_6 false _ A10.out).mono ?_); rintro e w' ⟨rfl, ⟨nd, rfl⟩⟩))
       go_ret
       exact ⟨ew, by exact lT HB (gC GE122 gN)⟩
     ·replace c9 := Bool.eq_false_iff.mpr c9
      subst c9
      have H1 : (some false) = some r := by rw [if_neg (show ¬ (false = true) by decide)] at H; exact H
      clear H
      have H := H1
      clear H1
      obtain rfl := Option.some.inj H
      go_enter Try.func27, Try.ntmps27
      go_wp2_with (first | ((with_reducible refine gate_dst (N := 1) rfl ?_); refine bx 1 #[.int .i64 a0_0, .int .i64 a0_1, .int .i64 a0_2, .int .i64 a0_3, .int .i64 a0_4, .string a0_5, .string a0_6, .string a0_7] 23 ?_; intro gb122 hg w28 hbox hb; replace BK122 := ak (hbox); replace GW122 := ak (bz hg (lG HB)); replace GE122 := ak (bz hg (lG HB)); replace HB := lB HB hb; clear hb hbox hg; obtain ⟨hcz29_0, hcz29_1, hcz29_2, hcz29_3, hcz29_4, hcz29_5, hcz29_6, hcz29_7, hfz29_0, hfz29_1, hfz29_2, hfz29_3, hfz29_4, hfz29_5, hfz29_6, hfz29_7⟩ := bC8 BK122) | ((with_reducible refine gate_callee (f := 61) rfl ?_); refine gl (some 8) Try.func61 #[.int .i64 a0_0, .int .i64 1, .int .i64 5] ?_; (with_reducible refine (spec_l01In.calls a0_0 1 5 true _ A2.out).mono ?_); rintro e w' ⟨rfl, ⟨nd, rfl⟩⟩; refine ⟨_, rfl, ?_⟩) | (go_at_call 61; (with_reducible refine (spec_l01In.calls a0_1 1 9999 true _ A4.out).mono ?_); rintro e w' ⟨rfl, ⟨nd, rfl⟩⟩) | (go_at_call 32; (with_reducible refine (spec_WordOk.calls k a0_5 false _ A8.out).mono ?_); rintro e w' ⟨rfl, ⟨nd, rfl⟩⟩))
      go_ret
      exact ⟨ew, by exact lT HB (gC GE122 gN)⟩
    ·rw [if_neg c7] at H
     have c7b0 : (a0_0 == 1) = false := beq_eq_false_iff_ne.mpr c7
     have c7b1 : (a0_0 != 1) = true := bne_iff_ne.mpr c7
     by_cases c30 : a0_5.toList = ([] : List UInt8)
     ·rw [if_pos c30] at H
      have c30b0 : (a0_5.toList == ([] : List UInt8)) = true := beq_iff_eq.mpr c30
      have c30b1 : (a0_5.toList != ([] : List UInt8)) = false := bne_eq_false_iff_eq.mpr c30
      clear c30
      by_cases c31 : a0_6.toList = ([] : List UInt8)
      ·rw [if_pos c31] at H
       have c31b0 : (a0_6.toList == ([] : List UInt8)) = true := beq_iff_eq.mpr c31
       have c31b1 : (a0_6.toList != ([] : List UInt8)) = false := bne_eq_false_iff_eq.mpr c31
       clear c31
       by_cases c32 : a0_3 = 0
       ·rw [if_pos c32] at H
        have c32b0 : (a0_3 == 0) = true := beq_iff_eq.mpr c32
        have c32b1 : (a0_3 != 0) = false := bne_eq_false_iff_eq.mpr c32
        clear c32
        replace H := Option.bind_eq_some_iff.mp H
        obtain ⟨t130, A330, H⟩ := H
        replace H : (if t130 = true then ((spec_l01In.f a0_4 0 7).bind fun t131 => (if t131 = true then (some (decide ((a0_7.size : Int) ≤ 100))) else (some false))) else (some false)) = some r := H
        have A33 := Aside0.mk A330
        clear A330
        by_cases c34 : t130 = true
        ·subst c34
         have H1 : ((spec_l01In.f a0_4 0 7).bind fun t131 => (if t131 = true then (some (decide ((a0_7.size : Int) ≤ 100))) else (some false))) = some r := by rw [if_pos rfl] at H; exact H
         clear H
         have H := H1
         clear H1
         replace H := Option.bind_eq_some_iff.mp H
         obtain ⟨t131, A350, H⟩ := H
         replace H : (if t131 = true then (some (decide ((a0_7.size : Int) ≤ 100))) else (some false)) = some r := H
         have A35 := Aside0.mk A350
         clear A350
         by_cases c36 : t131 = true
         ·subst c36
          have H1 : (some (decide ((a0_7.size : Int) ≤ 100))) = some r := by rw [if_pos rfl] at H; exact H
          clear H
          have H := H1
          clear H1
          obtain rfl := Option.some.inj H
          go_enter Try.func27, Try.ntmps27
          go_wp2_with (first | ((with_reducible refine gate_dst (N := 1) rfl ?_); refine bx 1 #[.int .i64 a0_0, .int .i64 a0_1, .int .i64 a0_2, .int .i64 a0_3, .int .i64 a0_4, .string a0_5, .string a0_6, .string a0_7] 23 ?_; intro gb122 hg w37 hbox hb; replace BK122 := ak (hbox); replace GW122 := ak (bz hg (lG HB)); replace GE122 := ak (bz hg (lG HB)); replace HB := lB HB hb; clear hb hbox hg; obtain ⟨hcz38_0, hcz38_1, hcz38_2, hcz38_3, hcz38_4, hcz38_5, hcz38_6, hcz38_7, hfz38_0, hfz38_1, hfz38_2, hfz38_3, hfz38_4, hfz38_5, hfz38_6, hfz38_7⟩ := bC8 BK122) | ((with_reducible refine gate_callee (f := 61) rfl ?_); refine gl (some 8) Try.func61 #[.int .i64 a0_0, .int .i64 1, .int .i64 5] ?_; (with_reducible refine (spec_l01In.calls a0_0 1 5 true _ A2.out).mono ?_); rintro e w' ⟨rfl, ⟨nd, rfl⟩⟩; refine ⟨_, rfl, ?_⟩) | (go_at_call 61; (with_reducible refine (spec_l01In.calls a0_1 1 9999 true _ A4.out).mono ?_); rintro e w' ⟨rfl, ⟨nd, rfl⟩⟩) | (go_at_call 61; (with_reducible refine (spec_l01In.calls a0_2 1 9999 true _ A33.out).mono ?_); rintro e w' ⟨rfl, ⟨nd, rfl⟩⟩) | (go_at_call 61; (with_reducible refine (spec_l01In.calls a0_4 0 7 true _ A35.out).mono ?_); rintro e w' ⟨rfl, ⟨nd, rfl⟩⟩))
          go_ret
          exact ⟨ew, by exact lT HB (gC GE122 gN)⟩
         ·replace c36 := Bool.eq_false_iff.mpr c36
          subst c36
          have H1 : (some false) = some r := by rw [if_neg (show ¬ (false = true) by decide)] at H; exact H
          clear H
          have H := H1
          clear H1
          obtain rfl := Option.some.inj H
          go_enter Try.func27, Try.ntmps27
          go_wp2_with (first | ((with_reducible refine gate_dst (N := 1) rfl ?_); refine bx 1 #[.int .i64 a0_0, .int .i64 a0_1, .int .i64 a0_2, .int .i64 a0_3, .int .i64 a0_4, .string a0_5, .string a0_6, .string a0_7] 23 ?_; intro gb122 hg w39 hbox hb; replace BK122 := ak (hbox); replace GW122 := ak (bz hg (lG HB)); replace GE122 := ak (bz hg (lG HB)); replace HB := lB HB hb; clear hb hbox hg; obtain ⟨hcz40_0, hcz40_1, hcz40_2, hcz40_3, hcz40_4, hcz40_5, hcz40_6, hcz40_7, hfz40_0, hfz40_1, hfz40_2, hfz40_3, hfz40_4, hfz40_5, hfz40_6, hfz40_7⟩ := bC8 BK122) | ((with_reducible refine gate_callee (f := 61) rfl ?_); refine gl (some 8) Try.func61 #[.int .i64 a0_0, .int .i64 1, .int .i64 5] ?_; (with_reducible refine (spec_l01In.calls a0_0 1 5 true _ A2.out).mono ?_); rintro e w' ⟨rfl, ⟨nd, rfl⟩⟩; refine ⟨_, rfl, ?_⟩) | (go_at_call 61; (with_reducible refine (spec_l01In.calls a0_1 1 9999 true _ A4.out).mono ?_); rintro e w' ⟨rfl, ⟨nd, rfl⟩⟩) | (go_at_call 61; (with_reducible refine (spec_l01In.calls a0_2 1 9999 true _ A33.out).mono ?_); rintro e w' ⟨rfl, ⟨nd, rfl⟩⟩) | (go_at_call 61; (with_reducible refine (spec_l01In.calls a0_4 0 7 false _ A35.out).mono ?_); rintro e w' ⟨rfl, ⟨nd, rfl⟩⟩))
          go_ret
          exact ⟨ew, by exact lT HB (gC GE122 gN)⟩
        ·replace c34 := Bool.eq_false_iff.mpr c34
         subst c34
         have H1 : (some false) = some r := by rw [if_neg (show ¬ (false = true) by decide)] at H; exact H
         clear H
         have H := H1
         clear H1
         obtain rfl := Option.some.inj H
         go_enter Try.func27, Try.ntmps27
         go_wp2_with (first | ((with_reducible refine gate_dst (N := 1) rfl ?_); refine bx 1 #[.int .i64 a0_0, .int .i64 a0_1, .int .i64 a0_2, .int .i64 a0_3, .int .i64 a0_4, .string a0_5, .string a0_6, .string a0_7] 23 ?_; intro gb122 hg w41 hbox hb; replace BK122 := ak (hbox); replace GW122 := ak (bz hg (lG HB)); replace GE122 := ak (bz hg (lG HB)); replace HB := lB HB hb; clear hb hbox hg; obtain ⟨hcz42_0, hcz42_1, hcz42_2, hcz42_3, hcz42_4, hcz42_5, hcz42_6, hcz42_7, hfz42_0, hfz42_1, hfz42_2, hfz42_3, hfz42_4, hfz42_5, hfz42_6, hfz42_7⟩ := bC8 BK122) | ((with_reducible refine gate_callee (f := 61) rfl ?_); refine gl (some 8) Try.func61 #[.int .i64 a0_0, .int .i64 1, .int .i64 5] ?_; (with_reducible refine (spec_l01In.calls a0_0 1 5 true _ A2.out).mono ?_); rintro e w' ⟨rfl, ⟨nd, rfl⟩⟩; refine ⟨_, rfl, ?_⟩) | (go_at_call 61; (with_reducible refine (spec_l01In.calls a0_1 1 9999 true _ A4.out).mono ?_); rintro e w' ⟨rfl, ⟨nd, rfl⟩⟩) | (go_at_call 61; (with_reducible refine (spec_l01In.calls a0_2 1 9999 false _ A33.out).mono ?_); rintro e w' ⟨rfl, ⟨nd, rfl⟩⟩))
         go_ret
         exact ⟨ew, by exact lT HB (gC GE122 gN)⟩
       ·rw [if_neg c32] at H
        have c32b0 : (a0_3 == 0) = false := beq_eq_false_iff_ne.mpr c32
        have c32b1 : (a0_3 != 0) = true := bne_iff_ne.mpr c32
        obtain rfl := Option.some.inj H
        go_enter Try.func27, Try.ntmps27
        go_wp2_with (first | ((with_reducible refine gate_dst (N := 1) rfl ?_); refine bx 1 #[.int .i64 a0_0, .int .i64 a0_1, .int .i64 a0_2, .int .i64 a0_3, .int .i64 a0_4, .string a0_5, .string a0_6, .string a0_7] 23 ?_; intro gb122 hg w43 hbox hb; replace BK122 := ak (hbox); replace GW122 := ak (bz hg (lG HB)); replace GE122 := ak (bz hg (lG HB)); replace HB := lB HB hb; clear hb hbox hg; obtain ⟨hcz44_0, hcz44_1, hcz44_2, hcz44_3, hcz44_4, hcz44_5, hcz44_6, hcz44_7, hfz44_0, hfz44_1, hfz44_2, hfz44_3, hfz44_4, hfz44_5, hfz44_6, hfz44_7⟩ := bC8 BK122) | ((with_reducible refine gate_callee (f := 61) rfl ?_); refine gl (some 8) Try.func61 #[.int .i64 a0_0, .int .i64 1, .int .i64 5] ?_; (with_reducible refine (spec_l01In.calls a0_0 1 5 true _ A2.out).mono ?_); rintro e w' ⟨rfl, ⟨nd, rfl⟩⟩; refine ⟨_, rfl, ?_⟩) | (go_at_call 61; (with_reducible refine (spec_l01In.calls a0_1 1 9999 true _ A4.out).mono ?_); rintro e w' ⟨rfl, ⟨nd, rfl⟩⟩))
        go_ret
        exact ⟨ew, by exact lT HB (gC GE122 gN)⟩
      ·rw [if_neg c31] at H
       have c31b0 : (a0_6.toList == ([] : List UInt8)) = false := beq_eq_false_iff_ne.mpr c31
       have c31b1 : (a0_6.toList != ([] : List UInt8)) = true := bne_iff_ne.mpr c31
       obtain rfl := Option.some.inj H
       go_enter Try.func27, Try.ntmps27
       go_wp2_with (first | ((with_reducible refine gate_dst (N := 1) rfl ?_); refine bx 1 #[.int .i64 a0_0, .int .i64 a0_1, .int .i64 a0_2, .int .i64 a0_3, .int .i64 a0_4, .string a0_5, .string a0_6, .string a0_7] 23 ?_; intro gb122 hg w45 hbox hb; replace BK122 := ak (hbox); replace GW122 := ak (bz hg (lG HB)); replace GE122 := ak (bz hg (lG HB)); replace HB := lB HB hb; clear hb hbox hg; obtain ⟨hcz46_0, hcz46_1, hcz46_2, hcz46_3, hcz46_4, hcz46_5, hcz46_6, hcz46_7, hfz46_0, hfz46_1, hfz46_2, hfz46_3, hfz46_4, hfz46_5, hfz46_6, hfz46_7⟩ := bC8 BK122) | ((with_reducible refine gate_callee (f := 61) rfl ?_); refine gl (some 8) Try.func61 #[.int .i64 a0_0, .int .i64 1, .int .i64 5] ?_; (with_reducible refine (spec_l01In.calls a0_0 1 5 true _ A2.out).mono ?_); rintro e w' ⟨rfl, ⟨nd, rfl⟩⟩; refine ⟨_, rfl, ?_⟩) | (go_at_call 61; (with_reducible refine (spec_l01In.calls a0_1 1 9999 true _ A4.out).mono ?_); rintro e w' ⟨rfl, ⟨nd, rfl⟩⟩))
       go_ret
       exact ⟨ew, by exact lT HB (gC GE122 gN)⟩
     ·rw [if_neg c30] at H
      have c30b0 : (a0_5.toList == ([] : List UInt8)) = false := beq_eq_false_iff_ne.mpr c30
      have c30b1 : (a0_5.toList != ([] : List UInt8)) = true := bne_iff_ne.mpr c30
      obtain rfl := Option.some.inj H
      go_enter Try.func27, Try.ntmps27
      go_wp2_with (first | ((with_reducible refine gate_dst (N := 1) rfl ?_); refine bx 1 #[.int .i64 a0_0, .int .i64 a0_1, .int .i64 a0_2, .int .i64 a0_3, .int .i64 a0_4, .string a0_5, .string a0_6, .string a0_7] 23 ?_; intro gb122 hg w47 hbox hb; replace BK122 := ak (hbox); replace GW122 := ak (bz hg (lG HB)); replace GE122 := ak (bz hg (lG HB)); replace HB := lB HB hb; clear hb hbox hg; obtain ⟨hcz48_0, hcz48_1, hcz48_2, hcz48_3, hcz48_4, hcz48_5, hcz48_6, hcz48_7, hfz48_0, hfz48_1, hfz48_2, hfz48_3, hfz48_4, hfz48_5, hfz48_6, hfz48_7⟩ := bC8 BK122) | ((with_reducible refine gate_callee (f := 61) rfl ?_); refine gl (some 8) Try.func61 #[.int .i64 a0_0, .int .i64 1, .int .i64 5] ?_; (with_reducible refine (spec_l01In.calls a0_0 1 5 true _ A2.out).mono ?_); rintro e w' ⟨rfl, ⟨nd, rfl⟩⟩; refine ⟨_, rfl, ?_⟩) | (go_at_call 61; (with_reducible refine (spec_l01In.calls a0_1 1 9999 true _ A4.out).mono ?_); rintro e w' ⟨rfl, ⟨nd, rfl⟩⟩))
      go_ret
      exact ⟨ew, by exact lT HB (gC GE122 gN)⟩
   ·rw [if_neg c6] at H
    have c6b0 : (a0_0 == 3) = false := beq_eq_false_iff_ne.mpr c6
    have c6b1 : (a0_0 != 3) = true := bne_iff_ne.mpr c6
    by_cases c49 : a0_0 = 4
    ·rw [if_pos c49] at H
     have c49b0 : (a0_0 == 4) = true := beq_iff_eq.mpr c49
     have c49b1 : (a0_0 != 4) = false := bne_eq_false_iff_eq.mpr c49
     clear c49
     by_cases c50 : a0_0 = 1
     ·rw [if_pos c50] at H
      have c50b0 : (a0_0 == 1) = true := beq_iff_eq.mpr c50
      have c50b1 : (a0_0 != 1) = false := bne_eq_false_iff_eq.mpr c50
      clear c50
      replace H := Option.bind_eq_some_iff.mp H
      obtain ⟨t132, A510, H⟩ := H
      replace H : (if t132 = true then ((spec_WordOk.f k a0_6).bind fun t133 => (if t133 = true then ((spec_l01In.f a0_3 1 10000).bind fun t134 => (if t134 = true then ((spec_l01In.f a0_2 1 9999).bind fun t135 => (if t135 = true then ((spec_l01In.f a0_4 0 7).bind fun t136 => (if t136 = true then (some (a0_7.toList == ([] : List UInt8))) else (some false))) else (some false))) else (some false))) else (some false))) else (some false)) = some r := H
      have A51 := Aside0.mk A510
      clear A510
      by_cases c52 : t132 = true
      ·subst c52
       have H1 : ((spec_WordOk.f k a0_6).bind fun t133 => (if t133 = true then ((spec_l01In.f a0_3 1 10000).bind fun t134 => (if t134 = true then ((spec_l01In.f a0_2 1 9999).bind fun t135 => (if t135 = true then ((spec_l01In.f a0_4 0 7).bind fun t136 => (if t136 = true then (some (a0_7.toList == ([] : List UInt8))) else (some false))) else (some false))) else (some false))) else (some false))) = some r := by rw [if_pos rfl] at H; exact H
       clear H
       have H := H1
       clear H1
       replace H := Option.bind_eq_some_iff.mp H
       obtain ⟨t133, A530, H⟩ := H
       replace H : (if t133 = true then ((spec_l01In.f a0_3 1 10000).bind fun t134 => (if t134 = true then ((spec_l01In.f a0_2 1 9999).bind fun t135 => (if t135 = true then ((spec_l01In.f a0_4 0 7).bind fun t136 => (if t136 = true then (some (a0_7.toList == ([] : List UInt8))) else (some false))) else (some false))) else (some false))) else (some false)) = some r := H
       have A53 := Aside0.mk A530
       clear A530
       by_cases c54 : t133 = true
       ·subst c54
        have H1 : ((spec_l01In.f a0_3 1 10000).bind fun t134 => (if t134 = true then ((spec_l01In.f a0_2 1 9999).bind fun t135 => (if t135 = true then ((spec_l01In.f a0_4 0 7).bind fun t136 => (if t136 = true then (some (a0_7.toList == ([] : List UInt8))) else (some false))) else (some false))) else (some false))) = some r := by rw [if_pos rfl] at H; exact H
        clear H
        have H := H1
        clear H1
        replace H := Option.bind_eq_some_iff.mp H
        obtain ⟨t134, A550, H⟩ := H
        replace H : (if t134 = true then ((spec_l01In.f a0_2 1 9999).bind fun t135 => (if t135 = true then ((spec_l01In.f a0_4 0 7).bind fun t136 => (if t136 = true then (some (a0_7.toList == ([] : List UInt8))) else (some false))) else (some false))) else (some false)) = some r := H
        have A55 := Aside0.mk A550
        clear A550
        by_cases c56 : t134 = true
        ·subst c56
         have H1 : ((spec_l01In.f a0_2 1 9999).bind fun t135 => (if t135 = true then ((spec_l01In.f a0_4 0 7).bind fun t136 => (if t136 = true then (some (a0_7.toList == ([] : List UInt8))) else (some false))) else (some false))) = some r := by rw [if_pos rfl] at H; exact H
         clear H
         have H := H1
         clear H1
         replace H := Option.bind_eq_some_iff.mp H
         obtain ⟨t135, A570, H⟩ := H
         replace H : (if t135 = true then ((spec_l01In.f a0_4 0 7).bind fun t136 => (if t136 = true then (some (a0_7.toList == ([] : List UInt8))) else (some false))) else (some false)) = some r := H
         have A57 := Aside0.mk A570
         clear A570
         by_cases c58 : t135 = true
         ·subst c58
          have H1 : ((spec_l01In.f a0_4 0 7).bind fun t136 => (if t136 = true then (some (a0_7.toList == ([] : List UInt8))) else (some false))) = some r := by rw [if_pos rfl] at H; exact H
          clear H
          have H := H1
          clear H1
          replace H := Option.bind_eq_some_iff.mp H
          obtain ⟨t136, A590, H⟩ := H
          replace H : (if t136 = true then (some (a0_7.toList == ([] : List UInt8))) else (some false)) = some r := H
          have A59 := Aside0.mk A590
          clear A590
          by_cases c60 : t136 = true
          ·subst c60
           have H1 : (some (a0_7.toList == ([] : List UInt8))) = some r := by rw [if_pos rfl] at H; exact H
           clear H
           have H := H1
           clear H1
           obtain rfl := Option.some.inj H
           go_enter Try.func27, Try.ntmps27
           go_wp2_with (first | ((with_reducible refine gate_dst (N := 1) rfl ?_); refine bx 1 #[.int .i64 a0_0, .int .i64 a0_1, .int .i64 a0_2, .int .i64 a0_3, .int .i64 a0_4, .string a0_5, .string a0_6, .string a0_7] 23 ?_; intro gb122 hg w61 hbox hb; replace BK122 := ak (hbox); replace GW122 := ak (bz hg (lG HB)); replace GE122 := ak (bz hg (lG HB)); replace HB := lB HB hb; clear hb hbox hg; obtain ⟨hcz62_0, hcz62_1, hcz62_2, hcz62_3, hcz62_4, hcz62_5, hcz62_6, hcz62_7, hfz62_0, hfz62_1, hfz62_2, hfz62_3, hfz62_4, hfz62_5, hfz62_6, hfz62_7⟩ := bC8 BK122) | ((with_reducible refine gate_callee (f := 61) rfl ?_); refine gl (some 8) Try.func61 #[.int .i64 a0_0, .int .i64 1, .int .i64 5] ?_; (with_reducible refine (spec_l01In.calls a0_0 1 5 true _ A2.out).mono ?_); rintro e w' ⟨rfl, ⟨nd, rfl⟩⟩; refine ⟨_, rfl, ?_⟩) | (go_at_call 61; (with_reducible refine (spec_l01In.calls a0_1 1 9999 true _ A4.out).mono ?_); rintro e w' ⟨rfl, ⟨nd, rfl⟩⟩) | (go_at_call 32; (with_reducible refine (spec_WordOk.calls k a0_5 true _ A51.out).mono ?_); rintro e w' ⟨rfl, ⟨nd, rfl⟩⟩) | (go_at_call 32; (with_reducible refine (spec_WordOk.calls k a0_6 true _ A53.out).mono ?_); rintro e w' ⟨rfl, ⟨nd, rfl⟩⟩) | (go_at_call 61; (with_reducible refine (spec_l01In.calls a0_3 1 10000 true _ A55.out).mono ?_); rintro e w' ⟨rfl, ⟨nd, rfl⟩⟩) | (go_at_call 61; (with_reducible refine (spec_l01In.calls a0_2 1 9999 true _ A57.out).mono ?_); rintro e w' ⟨rfl, ⟨nd, rfl⟩⟩) | (go_at_call 61; (with_reducible refine (spec_l01In.calls a0_4 0 7 true _ A59.out).mono ?_); rintro e w' ⟨rfl, ⟨nd, rfl⟩⟩))
           go_ret
           exact ⟨ew, by exact lT HB (gC GE122 gN)⟩
          ·replace c60 := Bool.eq_false_iff.mpr c60
           subst c60
           have H1 : (some false) = some r := by rw [if_neg (show ¬ (false = true) by decide)] at H; exact H
           clear H
           have H := H1
           clear H1
           obtain rfl := Option.some.inj H
           go_enter Try.func27, Try.ntmps27
           go_wp2_with (first | ((with_reducible refine gate_dst (N := 1) rfl ?_); refine bx 1 #[.int .i64 a0_0, .int .i64 a0_1, .int .i64 a0_2, .int .i64 a0_3, .int .i64 a0_4, .string a0_5, .string a0_6, .string a0_7] 23 ?_; intro gb122 hg w63 hbox hb; replace BK122 := ak (hbox); replace GW122 := ak (bz hg (lG HB)); replace GE122 := ak (bz hg (lG HB)); replace HB := lB HB hb; clear hb hbox hg; obtain ⟨hcz64_0, hcz64_1, hcz64_2, hcz64_3, hcz64_4, hcz64_5, hcz64_6, hcz64_7, hfz64_0, hfz64_1, hfz64_2, hfz64_3, hfz64_4, hfz64_5, hfz64_6, hfz64_7⟩ := bC8 BK122) | ((with_reducible refine gate_callee (f := 61) rfl ?_); refine gl (some 8) Try.func61 #[.int .i64 a0_0, .int .i64 1, .int .i64 5] ?_; (with_reducible refine (spec_l01In.calls a0_0 1 5 true _ A2.out).mono ?_); rintro e w' ⟨rfl, ⟨nd, rfl⟩⟩; refine ⟨_, rfl, ?_⟩) | (go_at_call 61; (with_reducible refine (spec_l01In.calls a0_1 1 9999 true _ A4.out).mono ?_); rintro e w' ⟨rfl, ⟨nd, rfl⟩⟩) | (go_at_call 32; (with_reducible refine (spec_WordOk.calls k a0_5 true _ A51.out).mono ?_); rintro e w' ⟨rfl, ⟨nd, rfl⟩⟩) | (go_at_call 32; (with_reducible refine (spec_WordOk.calls k a0_6 true _ A53.out).mono ?_); rintro e w' ⟨rfl, ⟨nd, rfl⟩⟩) | (go_at_call 61; (with_reducible refine (spec_l01In.calls a0_3 1 10000 true _ A55.out).mono ?_); rintro e w' ⟨rfl, ⟨nd, rfl⟩⟩) | (go_at_call 61; (with_reducible refine (spec_l01In.calls a0_2 1 9999 true _ A57.out).mono ?_); rintro e w' ⟨rfl, ⟨nd, rfl⟩⟩) | (go_at_call 61; (with_reducible refine (spec_l01In.calls a0_4 0 7 false _ A59.out).mono ?_); rintro e w' ⟨rfl, ⟨nd, rfl⟩⟩))
           go_ret
           exact ⟨ew, by exact lT HB (gC GE122 gN)⟩
         ·replace c58 := Bool.eq_false_iff.mpr c58
          subst c58
          have H1 : (some false) = some r := by rw [if_neg (show ¬ (false = true) by decide)] at H; exact H
          clear H
          have H := H1
          clear H1
          obtain rfl := Option.some.inj H
          go_enter Try.func27, Try.ntmps27
          go_wp2_with (first | ((with_reducible refine gate_dst (N := 1) rfl ?_); refine bx 1 #[.int .i64 a0_0, .int .i64 a0_1, .int .i64 a0_2, .int .i64 a0_3, .int .i64 a0_4, .string a0_5, .string a0_6, .string a0_7] 23 ?_; intro gb122 hg w65 hbox hb; replace BK122 := ak (hbox); replace GW122 := ak (bz hg (lG HB)); replace GE122 := ak (bz hg (lG HB)); replace HB := lB HB hb; clear hb hbox hg; obtain ⟨hcz66_0, hcz66_1, hcz66_2, hcz66_3, hcz66_4, hcz66_5, hcz66_6, hcz66_7, hfz66_0, hfz66_1, hfz66_2, hfz66_3, hfz66_4, hfz66_5, hfz66_6, hfz66_7⟩ := bC8 BK122) | ((with_reducible refine gate_callee (f := 61) rfl ?_); refine gl (some 8) Try.func61 #[.int .i64 a0_0, .int .i64 1, .int .i64 5] ?_; (with_reducible refine (spec_l01In.calls a0_0 1 5 true _ A2.out).mono ?_); rintro e w' ⟨rfl, ⟨nd, rfl⟩⟩; refine ⟨_, rfl, ?_⟩) | (go_at_call 61; (with_reducible refine (spec_l01In.calls a0_1 1 9999 true _ A4.out).mono ?_); rintro e w' ⟨rfl, ⟨nd, rfl⟩⟩) | (go_at_call 32; (with_reducible refine (spec_WordOk.calls k a0_5 true _ A51.out).mono ?_); rintro e w' ⟨rfl, ⟨nd, rfl⟩⟩) | (go_at_call 32; (with_reducible refine (spec_WordOk.calls k a0_6 true _ A53.out).mono ?_); rintro e w' ⟨rfl, ⟨nd, rfl⟩⟩) | (go_at_call 61; (with_reducible refine (spec_l01In.calls a0_3 1 10000 true _ A55.out).mono ?_); rintro e w' ⟨rfl, ⟨nd, rfl⟩⟩) | (go_at_call 61; (with_reducible refine (spec_l01In.calls a0_2 1 9999 false _ A57.out).mono ?_); rintro e w' ⟨rfl, ⟨nd, rfl⟩⟩))
          go_ret
          exact ⟨ew, by exact lT HB (gC GE122 gN)⟩
        ·replace c56 := Bool.eq_false_iff.mpr c56
         subst c56
         have H1 : (some false) = some r := by rw [if_neg (show ¬ (false = true) by decide)] at H; exact H
         clear H
         have H := H1
         clear H1
         obtain rfl := Option.some.inj H
         go_enter Try.func27, Try.ntmps27
         go_wp2_with (first | ((with_reducible refine gate_dst (N := 1) rfl ?_); refine bx 1 #[.int .i64 a0_0, .int .i64 a0_1, .int .i64 a0_2, .int .i64 a0_3, .int .i64 a0_4, .string a0_5, .string a0_6, .string a0_7] 23 ?_; intro gb122 hg w67 hbox hb; replace BK122 := ak (hbox); replace GW122 := ak (bz hg (lG HB)); replace GE122 := ak (bz hg (lG HB)); replace HB := lB HB hb; clear hb hbox hg; obtain ⟨hcz68_0, hcz68_1, hcz68_2, hcz68_3, hcz68_4, hcz68_5, hcz68_6, hcz68_7, hfz68_0, hfz68_1, hfz68_2, hfz68_3, hfz68_4, hfz68_5, hfz68_6, hfz68_7⟩ := bC8 BK122) | ((with_reducible refine gate_callee (f := 61) rfl ?_); refine gl (some 8) Try.func61 #[.int .i64 a0_0, .int .i64 1, .int .i64 5] ?_; (with_reducible refine (spec_l01In.calls a0_0 1 5 true _ A2.out).mono ?_); rintro e w' ⟨rfl, ⟨nd, rfl⟩⟩; refine ⟨_, rfl, ?_⟩) | (go_at_call 61; (with_reducible refine (spec_l01In.calls a0_1 1 9999 true _ A4.out).mono ?_); rintro e w' ⟨rfl, ⟨nd, rfl⟩⟩) | (go_at_call 32; (with_reducible refine (spec_WordOk.calls k a0_5 true _ A51.out).mono ?_); rintro e w' ⟨rfl, ⟨nd, rfl⟩⟩) | (go_at_call 32; (with_reducible refine (spec_WordOk.calls k a0_6 true _ A53.out).mono ?_); rintro e w' ⟨rfl, ⟨nd, rfl⟩⟩) | (go_at_call 61; (with_reducible refine (spec_l01In.calls a0_3 1 10000 false _ A55.out).mono ?_); rintro e w' ⟨rfl, ⟨nd, rfl⟩⟩))
         go_ret
         exact ⟨ew, by exact lT HB (gC GE122 gN)⟩
       ·replace c54 := Bool.eq_false_iff.mpr c54
        subst c54
        have H1 : (some false) = some r := by rw [if_neg (show ¬ (false = true) by decide)] at H; exact H
        clear H
        have H := H1
        clear H1
        obtain rfl := Option.some.inj H
        go_enter Try.func27, Try.ntmps27
        go_wp2_with (first | ((with_reducible refine gate_dst (N := 1) rfl ?_); refine bx 1 #[.int .i64 a0_0, .int .i64 a0_1, .int .i64 a0_2, .int .i64 a0_3, .int .i64 a0_4, .string a0_5, .string a0_6, .string a0_7] 23 ?_; intro gb122 hg w69 hbox hb; replace BK122 := ak (hbox); replace GW122 := ak (bz hg (lG HB)); replace GE122 := ak (bz hg (lG HB)); replace HB := lB HB hb; clear hb hbox hg; obtain ⟨hcz70_0, hcz70_1, hcz70_2, hcz70_3, hcz70_4, hcz70_5, hcz70_6, hcz70_7, hfz70_0, hfz70_1, hfz70_2, hfz70_3, hfz70_4, hfz70_5, hfz70_6, hfz70_7⟩ := bC8 BK122) | ((with_reducible refine gate_callee (f := 61) rfl ?_); refine gl (some 8) Try.func61 #[.int .i64 a0_0, .int .i64 1, .int .i64 5] ?_; (with_reducible refine (spec_l01In.calls a0_0 1 5 true _ A2.out).mono ?_); rintro e w' ⟨rfl, ⟨nd, rfl⟩⟩; refine ⟨_, rfl, ?_⟩) | (go_at_call 61; (with_reducible refine (spec_l01In.calls a0_1 1 9999 true _ A4.out).mono ?_); rintro e w' ⟨rfl, ⟨nd, rfl⟩⟩) | (go_at_call 32; (with_reducible refine (spec_WordOk.calls k a0_5 true _ A51.out).mono ?_); rintro e w' ⟨rfl, ⟨nd, rfl⟩⟩) | (go_at_call 32; (with_reducible refine (spec_WordOk.calls k a0_6 false _ A53.out).mono ?_); rintro e w' ⟨rfl, ⟨nd, rfl⟩⟩))
        go_ret
        exact ⟨ew, by exact lT HB (gC GE122 gN)⟩
      ·replace c52 := Bool.eq_false_iff.mpr c52
       subst c52
       have H1 : (some false) = some r := by rw [if_neg (show ¬ (false = true) by decide)] at H; exact H
       clear H
       have H := H1
       clear H1
       obtain rfl := Option.some.inj H
       go_enter Try.func27, Try.ntmps27
       go_wp2_with (first | ((with_reducible refine gate_dst (N := 1) rfl ?_); refine bx 1 #[.int .i64 a0_0, .int .i64 a0_1, .int .i64 a0_2, .int .i64 a0_3, .int .i64 a0_4, .string a0_5, .string a0_6, .string a0_7] 23 ?_; intro gb122 hg w71 hbox hb; replace BK122 := ak (hbox); replace GW122 := ak (bz hg (lG HB)); replace GE122 := ak (bz hg (lG HB)); replace HB := lB HB hb; clear hb hbox hg; obtain ⟨hcz72_0, hcz72_1, hcz72_2, hcz72_3, hcz72_4, hcz72_5, hcz72_6, hcz72_7, hfz72_0, hfz72_1, hfz72_2, hfz72_3, hfz72_4, hfz72_5, hfz72_6, hfz72_7⟩ := bC8 BK122) | ((with_reducible refine gate_callee (f := 61) rfl ?_); refine gl (some 8) Try.func61 #[.int .i64 a0_0, .int .i64 1, .int .i64 5] ?_; (with_reducible refine (spec_l01In.calls a0_0 1 5 true _ A2.out).mono ?_); rintro e w' ⟨rfl, ⟨nd, rfl⟩⟩; refine ⟨_, rfl, ?_⟩) | (go_at_call 61; (with_reducible refine (spec_l01In.calls a0_1 1 9999 true _ A4.out).mono ?_); rintro e w' ⟨rfl, ⟨nd, rfl⟩⟩) | (go_at_call 32; (with_reducible refine (spec_WordOk.calls k a0_5 false _ A51.out).mono ?_); rintro e w' ⟨rfl, ⟨nd, rfl⟩⟩))
       go_ret
       exact ⟨ew, by exact lT HB (gC GE122 gN)⟩
     ·rw [if_neg c50] at H
      have c50b0 : (a0_0 == 1) = false := beq_eq_false_iff_ne.mpr c50
      have c50b1 : (a0_0 != 1) = true := bne_iff_ne.mpr c50
      by_cases c73 : a0_5.toList = ([] : List UInt8)
      ·rw [if_pos c73] at H
       have c73b0 : (a0_5.toList == ([] : List UInt8)) = true := beq_iff_eq.mpr c73
       have c73b1 : (a0_5.toList != ([] : List UInt8)) = false := bne_eq_false_iff_eq.mpr c73
       clear c73
       by_cases c74 : a0_6.toList = ([] : List UInt8)
       ·rw [if_pos c74] at H
        have c74b0 : (a0_6.toList == ([] : List UInt8)) = true := beq_iff_eq.mpr c74
        have c74b1 : (a0_6.toList != ([] : List UInt8)) = false := bne_eq_false_iff_eq.mpr c74
        clear c74
        by_cases c75 : a0_3 = 0
        ·rw [if_pos c75] at H
         have c75b0 : (a0_3 == 0) = true := beq_iff_eq.mpr c75
         have c75b1 : (a0_3 != 0) = false := bne_eq_false_iff_eq.mpr c75
         clear c75
         replace H := Option.bind_eq_some_iff.mp H
         obtain ⟨t137, A760, H⟩ := H
         replace H : (if t137 = true then ((spec_l01In.f a0_4 0 7).bind fun t138 => (if t138 = true then (some (a0_7.toList == ([] : List UInt8))) else (some false))) else (some false)) = some r := H
         have A76 := Aside0.mk A760
         clear A760
         by_cases c77 : t137 = true
         ·subst c77
          have H1 : ((spec_l01In.f a0_4 0 7).bind fun t138 => (if t138 = true then (some (a0_7.toList == ([] : List UInt8))) else (some false))) = some r := by rw [if_pos rfl] at H; exact H
          clear H
          have H := H1
          clear H1
          replace H := Option.bind_eq_some_iff.mp H
          obtain ⟨t138, A780, H⟩ := H
          replace H : (if t138 = true then (some (a0_7.toList == ([] : List UInt8))) else (some false)) = some r := H
          have A78 := Aside0.mk A780
          clear A780
          by_cases c79 : t138 = true
          ·subst c79
           have H1 : (some (a0_7.toList == ([] : List UInt8))) = some r := by rw [if_pos rfl] at H; exact H
           clear H
           have H := H1
           clear H1
           obtain rfl := Option.some.inj H
           go_enter Try.func27, Try.ntmps27
           go_wp2_with (first | ((with_reducible refine gate_dst (N := 1) rfl ?_); refine bx 1 #[.int .i64 a0_0, .int .i64 a0_1, .int .i64 a0_2, .int .i64 a0_3, .int .i64 a0_4, .string a0_5, .string a0_6, .string a0_7] 23 ?_; intro gb122 hg w80 hbox hb; replace BK122 := ak (hbox); replace GW122 := ak (bz hg (lG HB)); replace GE122 := ak (bz hg (lG HB)); replace HB := lB HB hb; clear hb hbox hg; obtain ⟨hcz81_0, hcz81_1, hcz81_2, hcz81_3, hcz81_4, hcz81_5, hcz81_6, hcz81_7, hfz81_0, hfz81_1, hfz81_2, hfz81_3, hfz81_4, hfz81_5, hfz81_6, hfz81_7⟩ := bC8 BK122) | ((with_reducible refine gate_callee (f := 61) rfl ?_); refine gl (some 8) Try.func61 #[.int .i64 a0_0, .int .i64 1, .int .i64 5] ?_; (with_reducible refine (spec_l01In.calls a0_0 1 5 true _ A2.out).mono ?_); rintro e w' ⟨rfl, ⟨nd, rfl⟩⟩; refine ⟨_, rfl, ?_⟩) | (go_at_call 61; (with_reducible refine (spec_l01In.calls a0_1 1 9999 true _ A4.out).mono ?_); rintro e w' ⟨rfl, ⟨nd, rfl⟩⟩) | (go_at_call 61; (with_reducible refine (spec_l01In.calls a0_2 1 9999 true _ A76.out).mono ?_); rintro e w' ⟨rfl, ⟨nd, rfl⟩⟩) | (go_at_call 61; (with_reducible refine (spec_l01In.calls a0_4 0 7 true _ A78.out).mono ?_); rintro e w' ⟨rfl, ⟨nd, rfl⟩⟩))
           go_ret
           exact ⟨ew, by exact lT HB (gC GE122 gN)⟩
          ·replace c79 := Bool.eq_false_iff.mpr c79
           subst c79
           have H1 : (some false) = some r := by rw [if_neg (show ¬ (false = true) by decide)] at H; exact H
           clear H
           have H := H1
           clear H1
           obtain rfl := Option.some.inj H
           go_enter Try.func27, Try.ntmps27
           go_wp2_with (first | ((with_reducible refine gate_dst (N := 1) rfl ?_); refine bx 1 #[.int .i64 a0_0, .int .i64 a0_1, .int .i64 a0_2, .int .i64 a0_3, .int .i64 a0_4, .string a0_5, .string a0_6, .string a0_7] 23 ?_; intro gb122 hg w82 hbox hb; replace BK122 := ak (hbox); replace GW122 := ak (bz hg (lG HB)); replace GE122 := ak (bz hg (lG HB)); replace HB := lB HB hb; clear hb hbox hg; obtain ⟨hcz83_0, hcz83_1, hcz83_2, hcz83_3, hcz83_4, hcz83_5, hcz83_6, hcz83_7, hfz83_0, hfz83_1, hfz83_2, hfz83_3, hfz83_4, hfz83_5, hfz83_6, hfz83_7⟩ := bC8 BK122) | ((with_reducible refine gate_callee (f := 61) rfl ?_); refine gl (some 8) Try.func61 #[.int .i64 a0_0, .int .i64 1, .int .i64 5] ?_; (with_reducible refine (spec_l01In.calls a0_0 1 5 true _ A2.out).mono ?_); rintro e w' ⟨rfl, ⟨nd, rfl⟩⟩; refine ⟨_, rfl, ?_⟩) | (go_at_call 61; (with_reducible refine (spec_l01In.calls a0_1 1 9999 true _ A4.out).mono ?_); rintro e w' ⟨rfl, ⟨nd, rfl⟩⟩) | (go_at_call 61; (with_reducible refine (spec_l01In.calls a0_2 1 9999 true _ A76.out).mono ?_); rintro e w' ⟨rfl, ⟨nd, rfl⟩⟩) | (go_at_call 61; (with_reducible refine (spec_l01In.calls a0_4 0 7 false _ A78.out).mono ?_); rintro e w' ⟨rfl, ⟨nd, rfl⟩⟩))
           go_ret
           exact ⟨ew, by exact lT HB (gC GE122 gN)⟩
         ·replace c77 := Bool.eq_false_iff.mpr c77
          subst c77
          have H1 : (some false) = some r := by rw [if_neg (show ¬ (false = true) by decide)] at H; exact H
          clear H
          have H := H1
          clear H1
          obtain rfl := Option.some.inj H
          go_enter Try.func27, Try.ntmps27
          go_wp2_with (first | ((with_reducible refine gate_dst (N := 1) rfl ?_); refine bx 1 #[.int .i64 a0_0, .int .i64 a0_1, .int .i64 a0_2, .int .i64 a0_3, .int .i64 a0_4, .string a0_5, .string a0_6, .string a0_7] 23 ?_; intro gb122 hg w84 hbox hb; replace BK122 := ak (hbox); replace GW122 := ak (bz hg (lG HB)); replace GE122 := ak (bz hg (lG HB)); replace HB := lB HB hb; clear hb hbox hg; obtain ⟨hcz85_0, hcz85_1, hcz85_2, hcz85_3, hcz85_4, hcz85_5, hcz85_6, hcz85_7, hfz85_0, hfz85_1, hfz85_2, hfz85_3, hfz85_4, hfz85_5, hfz85_6, hfz85_7⟩ := bC8 BK122) | ((with_reducible refine gate_callee (f := 61) rfl ?_); refine gl (some 8) Try.func61 #[.int .i64 a0_0, .int .i64 1, .int .i64 5] ?_; (with_reducible refine (spec_l01In.calls a0_0 1 5 true _ A2.out).mono ?_); rintro e w' ⟨rfl, ⟨nd, rfl⟩⟩; refine ⟨_, rfl, ?_⟩) | (go_at_call 61; (with_reducible refine (spec_l01In.calls a0_1 1 9999 true _ A4.out).mono ?_); rintro e w' ⟨rfl, ⟨nd, rfl⟩⟩) | (go_at_call 61; (with_reducible refine (spec_l01In.calls a0_2 1 9999 false _ A76.out).mono ?_); rintro e w' ⟨rfl, ⟨nd, rfl⟩⟩))
          go_ret
          exact ⟨ew, by exact lT HB (gC GE122 gN)⟩
        ·rw [if_neg c75] at H
         have c75b0 : (a0_3 == 0) = false := beq_eq_false_iff_ne.mpr c75
         have c75b1 : (a0_3 != 0) = true := bne_iff_ne.mpr c75
         obtain rfl := Option.some.inj H
         go_enter Try.func27, Try.ntmps27
         go_wp2_with (first | ((with_reducible refine gate_dst (N := 1) rfl ?_); refine bx 1 #[.int .i64 a0_0, .int .i64 a0_1, .int .i64 a0_2, .int .i64 a0_3, .int .i64 a0_4, .string a0_5, .string a0_6, .string a0_7] 23 ?_; intro gb122 hg w86 hbox hb; replace BK122 := ak (hbox); replace GW122 := ak (bz hg (lG HB)); replace GE122 := ak (bz hg (lG HB)); replace HB := lB HB hb; clear hb hbox hg; obtain ⟨hcz87_0, hcz87_1, hcz87_2, hcz87_3, hcz87_4, hcz87_5, hcz87_6, hcz87_7, hfz87_0, hfz87_1, hfz87_2, hfz87_3, hfz87_4, hfz87_5, hfz87_6, hfz87_7⟩ := bC8 BK122) | ((with_reducible refine gate_callee (f := 61) rfl ?_); refine gl (some 8) Try.func61 #[.int .i64 a0_0, .int .i64 1, .int .i64 5] ?_; (with_reducible refine (spec_l01In.calls a0_0 1 5 true _ A2.out).mono ?_); rintro e w' ⟨rfl, ⟨nd, rfl⟩⟩; refine ⟨_, rfl, ?_⟩) | (go_at_call 61; (with_reducible refine (spec_l01In.calls a0_1 1 9999 true _ A4.out).mono ?_); rintro e w' ⟨rfl, ⟨nd, rfl⟩⟩))
         go_ret
         exact ⟨ew, by exact lT HB (gC GE122 gN)⟩
       ·rw [if_neg c74] at H
        have c74b0 : (a0_6.toList == ([] : List UInt8)) = false := beq_eq_false_iff_ne.mpr c74
        have c74b1 : (a0_6.toList != ([] : List UInt8)) = true := bne_iff_ne.mpr c74
        obtain rfl := Option.some.inj H
        go_enter Try.func27, Try.ntmps27
        go_wp2_with (first | ((with_reducible refine gate_dst (N := 1) rfl ?_); refine bx 1 #[.int .i64 a0_0, .int .i64 a0_1, .int .i64 a0_2, .int .i64 a0_3, .int .i64 a0_4, .string a0_5, .string a0_6, .string a0_7] 23 ?_; intro gb122 hg w88 hbox hb; replace BK122 := ak (hbox); replace GW122 := ak (bz hg (lG HB)); replace GE122 := ak (bz hg (lG HB)); replace HB := lB HB hb; clear hb hbox hg; obtain ⟨hcz89_0, hcz89_1, hcz89_2, hcz89_3, hcz89_4, hcz89_5, hcz89_6, hcz89_7, hfz89_0, hfz89_1, hfz89_2, hfz89_3, hfz89_4, hfz89_5, hfz89_6, hfz89_7⟩ := bC8 BK122) | ((with_reducible refine gate_callee (f := 61) rfl ?_); refine gl (some 8) Try.func61 #[.int .i64 a0_0, .int .i64 1, .int .i64 5] ?_; (with_reducible refine (spec_l01In.calls a0_0 1 5 true _ A2.out).mono ?_); rintro e w' ⟨rfl, ⟨nd, rfl⟩⟩; refine ⟨_, rfl, ?_⟩) | (go_at_call 61; (with_reducible refine (spec_l01In.calls a0_1 1 9999 true _ A4.out).mono ?_); rintro e w' ⟨rfl, ⟨nd, rfl⟩⟩))
        go_ret
        exact ⟨ew, by exact lT HB (gC GE122 gN)⟩
      ·rw [if_neg c73] at H
       have c73b0 : (a0_5.toList == ([] : List UInt8)) = false := beq_eq_false_iff_ne.mpr c73
       have c73b1 : (a0_5.toList != ([] : List UInt8)) = true := bne_iff_ne.mpr c73
       obtain rfl := Option.some.inj H
       go_enter Try.func27, Try.ntmps27
       go_wp2_with (first | ((with_reducible refine gate_dst (N := 1) rfl ?_); refine bx 1 #[.int .i64 a0_0, .int .i64 a0_1, .int .i64 a0_2, .int .i64 a0_3, .int .i64 a0_4, .string a0_5, .string a0_6, .string a0_7] 23 ?_; intro gb122 hg w90 hbox hb; replace BK122 := ak (hbox); replace GW122 := ak (bz hg (lG HB)); replace GE122 := ak (bz hg (lG HB)); replace HB := lB HB hb; clear hb hbox hg; obtain ⟨hcz91_0, hcz91_1, hcz91_2, hcz91_3, hcz91_4, hcz91_5, hcz91_6, hcz91_7, hfz91_0, hfz91_1, hfz91_2, hfz91_3, hfz91_4, hfz91_5, hfz91_6, hfz91_7⟩ := bC8 BK122) | ((with_reducible refine gate_callee (f := 61) rfl ?_); refine gl (some 8) Try.func61 #[.int .i64 a0_0, .int .i64 1, .int .i64 5] ?_; (with_reducible refine (spec_l01In.calls a0_0 1 5 true _ A2.out).mono ?_); rintro e w' ⟨rfl, ⟨nd, rfl⟩⟩; refine ⟨_, rfl, ?_⟩) | (go_at_call 61; (with_reducible refine (spec_l01In.calls a0_1 1 9999 true _ A4.out).mono ?_); rintro e w' ⟨rfl, ⟨nd, rfl⟩⟩))
       go_ret
       exact ⟨ew, by exact lT HB (gC GE122 gN)⟩
    ·rw [if_neg c49] at H
     have c49b0 : (a0_0 == 4) = false := beq_eq_false_iff_ne.mpr c49
     have c49b1 : (a0_0 != 4) = true := bne_iff_ne.mpr c49
     by_cases c92 : a0_0 = 1
     ·rw [if_pos c92] at H
      have c92b0 : (a0_0 == 1) = true := beq_iff_eq.mpr c92
      have c92b1 : (a0_0 != 1) = false := bne_eq_false_iff_eq.mpr c92
      clear c92
      replace H := Option.bind_eq_some_iff.mp H
      obtain ⟨t139, A930, H⟩ := H
      replace H : (if t139 = true then ((spec_WordOk.f k a0_6).bind fun t140 => (if t140 = true then ((spec_l01In.f a0_3 1 10000).bind fun t141 => (if t141 = true then (if a0_0 = 5 then ((spec_l01In.f a0_2 1 9999).bind fun t142 => (if t142 = true then (if a0_4 = 0 then (some (a0_7.toList == ([] : List UInt8))) else (some false)) else (some false))) else (if a0_2 = 0 then (if a0_4 = 0 then (some (a0_7.toList == ([] : List UInt8))) else (some false)) else (some false))) else (some false))) else (some false))) else (some false)) = some r := H
      have A93 := Aside0.mk A930
      clear A930
      by_cases c94 : t139 = true
      ·subst c94
       have H1 : ((spec_WordOk.f k a0_6).bind fun t140 => (if t140 = true then ((spec_l01In.f a0_3 1 10000).bind fun t141 => (if t141 = true then (if a0_0 = 5 then ((spec_l01In.f a0_2 1 9999).bind fun t142 => (if t142 = true then (if a0_4 = 0 then (some (a0_7.toList == ([] : List UInt8))) else (some false)) else (some false))) else (if a0_2 = 0 then (if a0_4 = 0 then (some (a0_7.toList == ([] : List UInt8))) else (some false)) else (some false))) else (some false))) else (some false))) = some r := by rw [if_pos rfl] at H; exact H
       clear H
       have H := H1
       clear H1
       replace H := Option.bind_eq_some_iff.mp H
       obtain ⟨t140, A950, H⟩ := H
       replace H : (if t140 = true then ((spec_l01In.f a0_3 1 10000).bind fun t141 => (if t141 = true then (if a0_0 = 5 then ((spec_l01In.f a0_2 1 9999).bind fun t142 => (if t142 = true then (if a0_4 = 0 then (some (a0_7.toList == ([] : List UInt8))) else (some false)) else (some false))) else (if a0_2 = 0 then (if a0_4 = 0 then (some (a0_7.toList == ([] : List UInt8))) else (some false)) else (some false))) else (some false))) else (some false)) = some r := H
       have A95 := Aside0.mk A950
       clear A950
       by_cases c96 : t140 = true
       ·subst c96
        have H1 : ((spec_l01In.f a0_3 1 10000).bind fun t141 => (if t141 = true then (if a0_0 = 5 then ((spec_l01In.f a0_2 1 9999).bind fun t142 => (if t142 = true then (if a0_4 = 0 then (some (a0_7.toList == ([] : List UInt8))) else (some false)) else (some false))) else (if a0_2 = 0 then (if a0_4 = 0 then (some (a0_7.toList == ([] : List UInt8))) else (some false)) else (some false))) else (some false))) = some r := by rw [if_pos rfl] at H; exact H
        clear H
        have H := H1
        clear H1
        replace H := Option.bind_eq_some_iff.mp H
        obtain ⟨t141, A970, H⟩ := H
        replace H : (if t141 = true then (if a0_0 = 5 then ((spec_l01In.f a0_2 1 9999).bind fun t142 => (if t142 = true then (if a0_4 = 0 then (some (a0_7.toList == ([] : List UInt8))) else (some false)) else (some false))) else (if a0_2 = 0 then (if a0_4 = 0 then (some (a0_7.toList == ([] : List UInt8))) else (some false)) else (some false))) else (some false)) = some r := H
        have A97 := Aside0.mk A970
        clear A970
        by_cases c98 : t141 = true
        ·subst c98
         have H1 : (if a0_0 = 5 then ((spec_l01In.f a0_2 1 9999).bind fun t142 => (if t142 = true then (if a0_4 = 0 then (some (a0_7.toList == ([] : List UInt8))) else (some false)) else (some false))) else (if a0_2 = 0 then (if a0_4 = 0 then (some (a0_7.toList == ([] : List UInt8))) else (some false)) else (some false))) = some r := by rw [if_pos rfl] at H; exact H
         clear H
         have H := H1
         clear H1
         by_cases c99 : a0_0 = 5
         ·rw [if_pos c99] at H
          have c99b0 : (a0_0 == 5) = true := beq_iff_eq.mpr c99
          have c99b1 : (a0_0 != 5) = false := bne_eq_false_iff_eq.mpr c99
          clear c99
          replace H := Option.bind_eq_some_iff.mp H
          obtain ⟨t142, A1000, H⟩ := H
          replace H : (if t142 = true then (if a0_4 = 0 then (some (a0_7.toList == ([] : List UInt8))) else (some false)) else (some false)) = some r := H
          have A100 := Aside0.mk A1000
          clear A1000
          by_cases c101 : t142 = true
          ·subst c101
           have H1 : (if a0_4 = 0 then (some (a0_7.toList == ([] : List UInt8))) else (some false)) = some r := by rw [if_pos rfl] at H; exact H
           clear H
           have H := H1
           clear H1
           by_cases c102 : a0_4 = 0
           ·rw [if_pos c102] at H
            have c102b0 : (a0_4 == 0) = true := beq_iff_eq.mpr c102
            have c102b1 : (a0_4 != 0) = false := bne_eq_false_iff_eq.mpr c102
            clear c102
            obtain rfl := Option.some.inj H
            go_enter Try.func27, Try.ntmps27
            go_wp2_with (first | ((with_reducible refine gate_dst (N := 1) rfl ?_); refine bx 1 #[.int .i64 a0_0, .int .i64 a0_1, .int .i64 a0_2, .int .i64 a0_3, .int .i64 a0_4, .string a0_5, .string a0_6, .string a0_7] 23 ?_; intro gb122 hg w103 hbox hb; replace BK122 := ak (hbox); replace GW122 := ak (bz hg (lG HB)); replace GE122 := ak (bz hg (lG HB)); replace HB := lB HB hb; clear hb hbox hg; obtain ⟨hcz104_0, hcz104_1, hcz104_2, hcz104_3, hcz104_4, hcz104_5, hcz104_6, hcz104_7, hfz104_0, hfz104_1, hfz104_2, hfz104_3, hfz104_4, hfz104_5, hfz104_6, hfz104_7⟩ := bC8 BK122) | ((with_reducible refine gate_callee (f := 61) rfl ?_); refine gl (some 8) Try.func61 #[.int .i64 a0_0, .int .i64 1, .int .i64 5] ?_; (with_reducible refine (spec_l01In.calls a0_0 1 5 true _ A2.out).mono ?_); rintro e w' ⟨rfl, ⟨nd, rfl⟩⟩; refine ⟨_, rfl, ?_⟩) | (go_at_call 61; (with_reducible refine (spec_l01In.calls a0_1 1 9999 true _ A4.out).mono ?_); rintro e w' ⟨rfl, ⟨nd, rfl⟩⟩) | (go_at_call 32; (with_reducible refine (spec_WordOk.calls k a0_5 true _ A93.out).mono ?_); rintro e w' ⟨rfl, ⟨nd, rfl⟩⟩) | (go_at_call 32; (with_reducible refine (spec_WordOk.calls k a0_6 true _ A95.out).mono ?_); rintro e w' ⟨rfl, ⟨nd, rfl⟩⟩) | (go_at_call 61; (with_reducible refine (spec_l01In.calls a0_3 1 10000 true _ A97.out).mono ?_); rintro e w' ⟨rfl, ⟨nd, rfl⟩⟩) | (go_at_call 61; (with_reducible refine (spec_l01In.calls a0_2 1 9999 true _ A100.out).mono ?_); rintro e w' ⟨rfl, ⟨nd, rfl⟩⟩))
            go_ret
            exact ⟨ew, by exact lT HB (gC GE122 gN)⟩
           ·rw [if_neg c102] at H
            have c102b0 : (a0_4 == 0) = false := beq_eq_false_iff_ne.mpr c102
            have c102b1 : (a0_4 != 0) = true := bne_iff_ne.mpr c102
            obtain rfl := Option.some.inj H
            go_enter Try.func27, Try.ntmps27
            go_wp2_with (first | ((with_reducible refine gate_dst (N := 1) rfl ?_); refine bx 1 #[.int .i64 a0_0, .int .i64 a0_1, .int .i64 a0_2, .int .i64 a0_3, .int .i64 a0_4, .string a0_5, .string a0_6, .string a0_7] 23 ?_; intro gb122 hg w105 hbox hb; replace BK122 := ak (hbox); replace GW122 := ak (bz hg (lG HB)); replace GE122 := ak (bz hg (lG HB)); replace HB := lB HB hb; clear hb hbox hg; obtain ⟨hcz106_0, hcz106_1, hcz106_2, hcz106_3, hcz106_4, hcz106_5, hcz106_6, hcz106_7, hfz106_0, hfz106_1, hfz106_2, hfz106_3, hfz106_4, hfz106_5, hfz106_6, hfz106_7⟩ := bC8 BK122) | ((with_reducible refine gate_callee (f := 61) rfl ?_); refine gl (some 8) Try.func61 #[.int .i64 a0_0, .int .i64 1, .int .i64 5] ?_; (with_reducible refine (spec_l01In.calls a0_0 1 5 true _ A2.out).mono ?_); rintro e w' ⟨rfl, ⟨nd, rfl⟩⟩; refine ⟨_, rfl, ?_⟩) | (go_at_call 61; (with_reducible refine (spec_l01In.calls a0_1 1 9999 true _ A4.out).mono ?_); rintro e w' ⟨rfl, ⟨nd, rfl⟩⟩) | (go_at_call 32; (with_reducible refine (spec_WordOk.calls k a0_5 true _ A93.out).mono ?_); rintro e w' ⟨rfl, ⟨nd, rfl⟩⟩) | (go_at_call 32; (with_reducible refine (spec_WordOk.calls k a0_6 true _ A95.out).mono ?_); rintro e w' ⟨rfl, ⟨nd, rfl⟩⟩) | (go_at_call 61; (with_reducible refine (spec_l01In.calls a0_3 1 10000 true _ A97.out).mono ?_); rintro e w' ⟨rfl, ⟨nd, rfl⟩⟩) | (go_at_call 61; (with_reducible refine (spec_l01In.calls a0_2 1 9999 true _ A100.out).mono ?_); rintro e w' ⟨rfl, ⟨nd, rfl⟩⟩))
            go_ret
            exact ⟨ew, by exact lT HB (gC GE122 gN)⟩
          ·replace c101 := Bool.eq_false_iff.mpr c101
           subst c101
           have H1 : (some false) = some r := by rw [if_neg (show ¬ (false = true) by decide)] at H; exact H
           clear H
           have H := H1
           clear H1
           obtain rfl := Option.some.inj H
           go_enter Try.func27, Try.ntmps27
           go_wp2_with (first | ((with_reducible refine gate_dst (N := 1) rfl ?_); refine bx 1 #[.int .i64 a0_0, .int .i64 a0_1, .int .i64 a0_2, .int .i64 a0_3, .int .i64 a0_4, .string a0_5, .string a0_6, .string a0_7] 23 ?_; intro gb122 hg w107 hbox hb; replace BK122 := ak (hbox); replace GW122 := ak (bz hg (lG HB)); replace GE122 := ak (bz hg (lG HB)); replace HB := lB HB hb; clear hb hbox hg; obtain ⟨hcz108_0, hcz108_1, hcz108_2, hcz108_3, hcz108_4, hcz108_5, hcz108_6, hcz108_7, hfz108_0, hfz108_1, hfz108_2, hfz108_3, hfz108_4, hfz108_5, hfz108_6, hfz108_7⟩ := bC8 BK122) | ((with_reducible refine gate_callee (f := 61) rfl ?_); refine gl (some 8) Try.func61 #[.int .i64 a0_0, .int .i64 1, .int .i64 5] ?_; (with_reducible refine (spec_l01In.calls a0_0 1 5 true _ A2.out).mono ?_); rintro e w' ⟨rfl, ⟨nd, rfl⟩⟩; refine ⟨_, rfl, ?_⟩) | (go_at_call 61; (with_reducible refine (spec_l01In.calls a0_1 1 9999 true _ A4.out).mono ?_); rintro e w' ⟨rfl, ⟨nd, rfl⟩⟩) | (go_at_call 32; (with_reducible refine (spec_WordOk.calls k a0_5 true _ A93.out).mono ?_); rintro e w' ⟨rfl, ⟨nd, rfl⟩⟩) | (go_at_call 32; (with_reducible refine (spec_WordOk.calls k a0_6 true _ A95.out).mono ?_); rintro e w' ⟨rfl, ⟨nd, rfl⟩⟩) | (go_at_call 61; (with_reducible refine (spec_l01In.calls a0_3 1 10000 true _ A97.out).mono ?_); rintro e w' ⟨rfl, ⟨nd, rfl⟩⟩) | (go_at_call 61; (with_reducible refine (spec_l01In.calls a0_2 1 9999 false _ A100.out).mono ?_); rintro e w' ⟨rfl, ⟨nd, rfl⟩⟩))
           go_ret
           exact ⟨ew, by exact lT HB (gC GE122 gN)⟩
         ·rw [if_neg c99] at H
          have c99b0 : (a0_0 == 5) = false := beq_eq_false_iff_ne.mpr c99
          have c99b1 : (a0_0 != 5) = true := bne_iff_ne.mpr c99
          by_cases c109 : a0_2 = 0
          ·rw [if_pos c109] at H
           have c109b0 : (a0_2 == 0) = true := beq_iff_eq.mpr c109
           have c109b1 : (a0_2 != 0) = false := bne_eq_false_iff_eq.mpr c109
           clear c109
           by_cases c110 : a0_4 = 0
           ·rw [if_pos c110] at H
            have c110b0 : (a0_4 == 0) = true := beq_iff_eq.mpr c110
            have c110b1 : (a0_4 != 0) = false := bne_eq_false_iff_eq.mpr c110
            clear c110
            obtain rfl := Option.some.inj H
            go_enter Try.func27, Try.ntmps27
            go_wp2_with (first | ((with_reducible refine gate_dst (N := 1) rfl ?_); refine bx 1 #[.int .i64 a0_0, .int .i64 a0_1, .int .i64 a0_2, .int .i64 a0_3, .int .i64 a0_4, .string a0_5, .string a0_6, .string a0_7] 23 ?_; intro gb122 hg w111 hbox hb; replace BK122 := ak (hbox); replace GW122 := ak (bz hg (lG HB)); replace GE122 := ak (bz hg (lG HB)); replace HB := lB HB hb; clear hb hbox hg; obtain ⟨hcz112_0, hcz112_1, hcz112_2, hcz112_3, hcz112_4, hcz112_5, hcz112_6, hcz112_7, hfz112_0, hfz112_1, hfz112_2, hfz112_3, hfz112_4, hfz112_5, hfz112_6, hfz112_7⟩ := bC8 BK122) | ((with_reducible refine gate_callee (f := 61) rfl ?_); refine gl (some 8) Try.func61 #[.int .i64 a0_0, .int .i64 1, .int .i64 5] ?_; (with_reducible refine (spec_l01In.calls a0_0 1 5 true _ A2.out).mono ?_); rintro e w' ⟨rfl, ⟨nd, rfl⟩⟩; refine ⟨_, rfl, ?_⟩) | (go_at_call 61; (with_reducible refine (spec_l01In.calls a0_1 1 9999 true _ A4.out).mono ?_); rintro e w' ⟨rfl, ⟨nd, rfl⟩⟩) | (go_at_call 32; (with_reducible refine (spec_WordOk.calls k a0_5 true _ A93.out).mono ?_); rintro e w' ⟨rfl, ⟨nd, rfl⟩⟩) | (go_at_call 32; (with_reducible refine (spec_WordOk.calls k a0_6 true _ A95.out).mono ?_); rintro e w' ⟨rfl, ⟨nd, rfl⟩⟩) | (go_at_call 61; (with_reducible refine (spec_l01In.calls a0_3 1 10000 true _ A97.out).mono ?_); rintro e w' ⟨rfl, ⟨nd, rfl⟩⟩))
            go_ret
            exact ⟨ew, by exact lT HB (gC GE122 gN)⟩
           ·rw [if_neg c110] at H
            have c110b0 : (a0_4 == 0) = false := beq_eq_false_iff_ne.mpr c110
            have c110b1 : (a0_4 != 0) = true := bne_iff_ne.mpr c110
            obtain rfl := Option.some.inj H
            go_enter Try.func27, Try.ntmps27
            go_wp2_with (first | ((with_reducible refine gate_dst (N := 1) rfl ?_); refine bx 1 #[.int .i64 a0_0, .int .i64 a0_1, .int .i64 a0_2, .int .i64 a0_3, .int .i64 a0_4, .string a0_5, .string a0_6, .string a0_7] 23 ?_; intro gb122 hg w113 hbox hb; replace BK122 := ak (hbox); replace GW122 := ak (bz hg (lG HB)); replace GE122 := ak (bz hg (lG HB)); replace HB := lB HB hb; clear hb hbox hg; obtain ⟨hcz114_0, hcz114_1, hcz114_2, hcz114_3, hcz114_4, hcz114_5, hcz114_6, hcz114_7, hfz114_0, hfz114_1, hfz114_2, hfz114_3, hfz114_4, hfz114_5, hfz114_6, hfz114_7⟩ := bC8 BK122) | ((with_reducible refine gate_callee (f := 61) rfl ?_); refine gl (some 8) Try.func61 #[.int .i64 a0_0, .int .i64 1, .int .i64 5] ?_; (with_reducible refine (spec_l01In.calls a0_0 1 5 true _ A2.out).mono ?_); rintro e w' ⟨rfl, ⟨nd, rfl⟩⟩; refine ⟨_, rfl, ?_⟩) | (go_at_call 61; (with_reducible refine (spec_l01In.calls a0_1 1 9999 true _ A4.out).mono ?_); rintro e w' ⟨rfl, ⟨nd, rfl⟩⟩) | (go_at_call 32; (with_reducible refine (spec_WordOk.calls k a0_5 true _ A93.out).mono ?_); rintro e w' ⟨rfl, ⟨nd, rfl⟩⟩) | (go_at_call 32; (with_reducible refine (spec_WordOk.calls k a0_6 true _ A95.out).mono ?_); rintro e w' ⟨rfl, ⟨nd, rfl⟩⟩) | (go_at_call 61; (with_reducible refine (spec_l01In.calls a0_3 1 10000 true _ A97.out).mono ?_); rintro e w' ⟨rfl, ⟨nd, rfl⟩⟩))
            go_ret
            exact ⟨ew, by exact lT HB (gC GE122 gN)⟩
          ·rw [if_neg c109] at H
           have c109b0 : (a0_2 == 0) = false := beq_eq_false_iff_ne.mpr c109
           have c109b1 : (a0_2 != 0) = true := bne_iff_ne.mpr c109
           obtain rfl := Option.some.inj H
           go_enter Try.func27, Try.ntmps27
           go_wp2_with (first | ((with_reducible refine gate_dst (N := 1) rfl ?_); refine bx 1 #[.int .i64 a0_0, .int .i64 a0_1, .int .i64 a0_2, .int .i64 a0_3, .int .i64 a0_4, .string a0_5, .string a0_6, .string a0_7] 23 ?_; intro gb122 hg w115 hbox hb; replace BK122 := ak (hbox); replace GW122 := ak (bz hg (lG HB)); replace GE122 := ak (bz hg (lG HB)); replace HB := lB HB hb; clear hb hbox hg; obtain ⟨hcz116_0, hcz116_1, hcz116_2, hcz116_3, hcz116_4, hcz116_5, hcz116_6, hcz116_7, hfz116_0, hfz116_1, hfz116_2, hfz116_3, hfz116_4, hfz116_5, hfz116_6, hfz116_7⟩ := bC8 BK122) | ((with_reducible refine gate_callee (f := 61) rfl ?_); refine gl (some 8) Try.func61 #[.int .i64 a0_0, .int .i64 1, .int .i64 5] ?_; (with_reducible refine (spec_l01In.calls a0_0 1 5 true _ A2.out).mono ?_); rintro e w' ⟨rfl, ⟨nd, rfl⟩⟩; refine ⟨_, rfl, ?_⟩) | (go_at_call 61; (with_reducible refine (spec_l01In.calls a0_1 1 9999 true _ A4.out).mono ?_); rintro e w' ⟨rfl, ⟨nd, rfl⟩⟩) | (go_at_call 32; (with_reducible refine (spec_WordOk.calls k a0_5 true _ A93.out).mono ?_); rintro e w' ⟨rfl, ⟨nd, rfl⟩⟩) | (go_at_call 32; (with_reducible refine (spec_WordOk.calls k a0_6 true _ A95.out).mono ?_); rintro e w' ⟨rfl, ⟨nd, rfl⟩⟩) | (go_at_call 61; (with_reducible refine (spec_l01In.calls a0_3 1 10000 true _ A97.out).mono ?_); rintro e w' ⟨rfl, ⟨nd, rfl⟩⟩))
           go_ret
           exact ⟨ew, by exact lT HB (gC GE122 gN)⟩
        ·replace c98 := Bool.eq_false_iff.mpr c98
         subst c98
         have H1 : (some false) = some r := by rw [if_neg (show ¬ (false = true) by decide)] at H; exact H
         clear H
         have H := H1
         clear H1
         obtain rfl := Option.some.inj H
         go_enter Try.func27, Try.ntmps27
         go_wp2_with (first | ((with_reducible refine gate_dst (N := 1) rfl ?_); refine bx 1 #[.int .i64 a0_0, .int .i64 a0_1, .int .i64 a0_2, .int .i64 a0_3, .int .i64 a0_4, .string a0_5, .string a0_6, .string a0_7] 23 ?_; intro gb122 hg w117 hbox hb; replace BK122 := ak (hbox); replace GW122 := ak (bz hg (lG HB)); replace GE122 := ak (bz hg (lG HB)); replace HB := lB HB hb; clear hb hbox hg; obtain ⟨hcz118_0, hcz118_1, hcz118_2, hcz118_3, hcz118_4, hcz118_5, hcz118_6, hcz118_7, hfz118_0, hfz118_1, hfz118_2, hfz118_3, hfz118_4, hfz118_5, hfz118_6, hfz118_7⟩ := bC8 BK122) | ((with_reducible refine gate_callee (f := 61) rfl ?_); refine gl (some 8) Try.func61 #[.int .i64 a0_0, .int .i64 1, .int .i64 5] ?_; (with_reducible refine (spec_l01In.calls a0_0 1 5 true _ A2.out).mono ?_); rintro e w' ⟨rfl, ⟨nd, rfl⟩⟩; refine ⟨_, rfl, ?_⟩) | (go_at_call 61; (with_reducible refine (spec_l01In.calls a0_1 1 9999 true _ A4.out).mono ?_); rintro e w' ⟨rfl, ⟨nd, rfl⟩⟩) | (go_at_call 32; (with_reducible refine (spec_WordOk.calls k a0_5 true _ A93.out).mono ?_); rintro e w' ⟨rfl, ⟨nd, rfl⟩⟩) | (go_at_call 32; (with_reducible refine (spec_WordOk.calls k a0_6 true _ A95.out).mono ?_); rintro e w' ⟨rfl, ⟨nd, rfl⟩⟩) | (go_at_call 61; (with_reducible refine (spec_l01In.calls a0_3 1 10000 false _ A97.out).mono ?_); rintro e w' ⟨rfl, ⟨nd, rfl⟩⟩))
         go_ret
         exact ⟨ew, by exact lT HB (gC GE122 gN)⟩
       ·replace c96 := Bool.eq_false_iff.mpr c96
        subst c96
        have H1 : (some false) = some r := by rw [if_neg (show ¬ (false = true) by decide)] at H; exact H
        clear H
        have H := H1
        clear H1
        obtain rfl := Option.some.inj H
        go_enter Try.func27, Try.ntmps27
        go_wp2_with (first | ((with_reducible refine gate_dst (N := 1) rfl ?_); refine bx 1 #[.int .i64 a0_0, .int .i64 a0_1, .int .i64 a0_2, .int .i64 a0_3, .int .i64 a0_4, .string a0_5, .string a0_6, .string a0_7] 23 ?_; intro gb122 hg w119 hbox hb; replace BK122 := ak (hbox); replace GW122 := ak (bz hg (lG HB)); replace GE122 := ak (bz hg (lG HB)); replace HB := lB HB hb; clear hb hbox hg; obtain ⟨hcz120_0, hcz120_1, hcz120_2, hcz120_3, hcz120_4, hcz120_5, hcz120_6, hcz120_7, hfz120_0, hfz120_1, hfz120_2, hfz120_3, hfz120_4, hfz120_5, hfz120_6, hfz120_7⟩ := bC8 BK122) | ((with_reducible refine gate_callee (f := 61) rfl ?_); refine gl (some 8) Try.func61 #[.int .i64 a0_0, .int .i64 1, .int .i64 5] ?_; (with_reducible refine (spec_l01In.calls a0_0 1 5 true _ A2.out).mono ?_); rintro e w' ⟨rfl, ⟨nd, rfl⟩⟩; refine ⟨_, rfl, ?_⟩) | (go_at_call 61; (with_reducible refine (spec_l01In.calls a0_1 1 9999 true _ A4.out).mono ?_); rintro e w' ⟨rfl, ⟨nd, rfl⟩⟩) | (go_at_call 32; (with_reducible refine (spec_WordOk.calls k a0_5 true _ A93.out).mono ?_); rintro e w' ⟨rfl, ⟨nd, rfl⟩⟩) | (go_at_call 32; (with_reducible refine (spec_WordOk.calls k a0_6 false _ A95.out).mono ?_); rintro e w' ⟨rfl, ⟨nd, rfl⟩⟩))
        go_ret
        exact ⟨ew, by exact lT HB (gC GE122 gN)⟩
      ·replace c94 := Bool.eq_false_iff.mpr c94
       subst c94
       have H1 : (some false) = some r := by rw [if_neg (show ¬ (false = true) by decide)] at H; exact H
       clear H
       have H := H1
       clear H1
       obtain rfl := Option.some.inj H
       go_enter Try.func27, Try.ntmps27
       go_wp2_with (first | ((with_reducible refine gate_dst (N := 1) rfl ?_); refine bx 1 #[.int .i64 a0_0, .int .i64 a0_1, .int .i64 a0_2, .int .i64 a0_3, .int .i64 a0_4, .string a0_5, .string a0_6, .string a0_7] 23 ?_; intro gb122 hg w121 hbox hb; replace BK122 := ak (hbox); replace GW122 := ak (bz hg (lG HB)); replace GE122 := ak (bz hg (lG HB)); replace HB := lB HB hb; clear hb hbox hg; obtain ⟨hcz122_0, hcz122_1, hcz122_2, hcz122_3, hcz122_4, hcz122_5, hcz122_6, hcz122_7, hfz122_0, hfz122_1, hfz122_2, hfz122_3, hfz122_4, hfz122_5, hfz122_6, hfz122_7⟩ := bC8 BK122) | ((with_reducible refine gate_callee (f := 61) rfl ?_); refine gl (some 8) Try.func61 #[.int .i64 a0_0, .int .i64 1, .int .i64 5] ?_; (with_reducible refine (spec_l01In.calls a0_0 1 5 true _ A2.out).mono ?_); rintro e w' ⟨rfl, ⟨nd, rfl⟩⟩; refine ⟨_, rfl, ?_⟩) | (go_at_call 61; (with_reducible refine (spec_l01In.calls a0_1 1 9999 true _ A4.out).mono ?_); rintro e w' ⟨rfl, ⟨nd, rfl⟩⟩) | (go_at_call 32; (with_reducible refine (spec_WordOk.calls k a0_5 false _ A93.out).mono ?_); rintro e w' ⟨rfl, ⟨nd, rfl⟩⟩))
       go_ret
       exact ⟨ew, by exact lT HB (gC GE122 gN)⟩
     ·rw [if_neg c92] at H
      have c92b0 : (a0_0 == 1) = false := beq_eq_false_iff_ne.mpr c92
      have c92b1 : (a0_0 != 1) = true := bne_iff_ne.mpr c92
      by_cases c123 : a0_5.toList = ([] : List UInt8)
      ·rw [if_pos c123] at H
       have c123b0 : (a0_5.toList == ([] : List UInt8)) = true := beq_iff_eq.mpr c123
       have c123b1 : (a0_5.toList != ([] : List UInt8)) = false := bne_eq_false_iff_eq.mpr c123
       clear c123
       by_cases c124 : a0_6.toList = ([] : List UInt8)
       ·rw [if_pos c124] at H
        have c124b0 : (a0_6.toList == ([] : List UInt8)) = true := beq_iff_eq.mpr c124
        have c124b1 : (a0_6.toList != ([] : List UInt8)) = false := bne_eq_false_iff_eq.mpr c124
        clear c124
        by_cases c125 : a0_3 = 0
        ·rw [if_pos c125] at H
         have c125b0 : (a0_3 == 0) = true := beq_iff_eq.mpr c125
         have c125b1 : (a0_3 != 0) = false := bne_eq_false_iff_eq.mpr c125
         clear c125
         by_cases c126 : a0_0 = 5
         ·rw [if_pos c126] at H
          have c126b0 : (a0_0 == 5) = true := beq_iff_eq.mpr c126
          have c126b1 : (a0_0 != 5) = false := bne_eq_false_iff_eq.mpr c126
          clear c126
          replace H := Option.bind_eq_some_iff.mp H
          obtain ⟨t143, A1270, H⟩ := H
          replace H : (if t143 = true then (if a0_4 = 0 then (some (a0_7.toList == ([] : List UInt8))) else (some false)) else (some false)) = some r := H
          have A127 := Aside0.mk A1270
          clear A1270
          by_cases c128 : t143 = true
          ·subst c128
           have H1 : (if a0_4 = 0 then (some (a0_7.toList == ([] : List UInt8))) else (some false)) = some r := by rw [if_pos rfl] at H; exact H
           clear H
           have H := H1
           clear H1
           by_cases c129 : a0_4 = 0
           ·rw [if_pos c129] at H
            have c129b0 : (a0_4 == 0) = true := beq_iff_eq.mpr c129
            have c129b1 : (a0_4 != 0) = false := bne_eq_false_iff_eq.mpr c129
            clear c129
            obtain rfl := Option.some.inj H
            go_enter Try.func27, Try.ntmps27
            go_wp2_with (first | ((with_reducible refine gate_dst (N := 1) rfl ?_); refine bx 1 #[.int .i64 a0_0, .int .i64 a0_1, .int .i64 a0_2, .int .i64 a0_3, .int .i64 a0_4, .string a0_5, .string a0_6, .string a0_7] 23 ?_; intro gb122 hg w130 hbox hb; replace BK122 := ak (hbox); replace GW122 := ak (bz hg (lG HB)); replace GE122 := ak (bz hg (lG HB)); replace HB := lB HB hb; clear hb hbox hg; obtain ⟨hcz131_0, hcz131_1, hcz131_2, hcz131_3, hcz131_4, hcz131_5, hcz131_6, hcz131_7, hfz131_0, hfz131_1, hfz131_2, hfz131_3, hfz131_4, hfz131_5, hfz131_6, hfz131_7⟩ := bC8 BK122) | ((with_reducible refine gate_callee (f := 61) rfl ?_); refine gl (some 8) Try.func61 #[.int .i64 a0_0, .int .i64 1, .int .i64 5] ?_; (with_reducible refine (spec_l01In.calls a0_0 1 5 true _ A2.out).mono ?_); rintro e w' ⟨rfl, ⟨nd, rfl⟩⟩; refine ⟨_, rfl, ?_⟩) | (go_at_call 61; (with_reducible refine (spec_l01In.calls a0_1 1 9999 true _ A4.out).mono ?_); rintro e w' ⟨rfl, ⟨nd, rfl⟩⟩) | (go_at_call 61; (with_reducible refine (spec_l01In.calls a0_2 1 9999 true _ A127.out).mono ?_); rintro e w' ⟨rfl, ⟨nd, rfl⟩⟩))
            go_ret
            exact ⟨ew, by exact lT HB (gC GE122 gN)⟩
           ·rw [if_neg c129] at H
            have c129b0 : (a0_4 == 0) = false := beq_eq_false_iff_ne.mpr c129
            have c129b1 : (a0_4 != 0) = true := bne_iff_ne.mpr c129
            obtain rfl := Option.some.inj H
            go_enter Try.func27, Try.ntmps27
            go_wp2_with (first | ((with_reducible refine gate_dst (N := 1) rfl ?_); refine bx 1 #[.int .i64 a0_0, .int .i64 a0_1, .int .i64 a0_2, .int .i64 a0_3, .int .i64 a0_4, .string a0_5, .string a0_6, .string a0_7] 23 ?_; intro gb122 hg w132 hbox hb; replace BK122 := ak (hbox); replace GW122 := ak (bz hg (lG HB)); replace GE122 := ak (bz hg (lG HB)); replace HB := lB HB hb; clear hb hbox hg; obtain ⟨hcz133_0, hcz133_1, hcz133_2, hcz133_3, hcz133_4, hcz133_5, hcz133_6, hcz133_7, hfz133_0, hfz133_1, hfz133_2, hfz133_3, hfz133_4, hfz133_5, hfz133_6, hfz133_7⟩ := bC8 BK122) | ((with_reducible refine gate_callee (f := 61) rfl ?_); refine gl (some 8) Try.func61 #[.int .i64 a0_0, .int .i64 1, .int .i64 5] ?_; (with_reducible refine (spec_l01In.calls a0_0 1 5 true _ A2.out).mono ?_); rintro e w' ⟨rfl, ⟨nd, rfl⟩⟩; refine ⟨_, rfl, ?_⟩) | (go_at_call 61; (with_reducible refine (spec_l01In.calls a0_1 1 9999 true _ A4.out).mono ?_); rintro e w' ⟨rfl, ⟨nd, rfl⟩⟩) | (go_at_call 61; (with_reducible refine (spec_l01In.calls a0_2 1 9999 true _ A127.out).mono ?_); rintro e w' ⟨rfl, ⟨nd, rfl⟩⟩))
            go_ret
            exact ⟨ew, by exact lT HB (gC GE122 gN)⟩
          ·replace c128 := Bool.eq_false_iff.mpr c128
           subst c128
           have H1 : (some false) = some r := by rw [if_neg (show ¬ (false = true) by decide)] at H; exact H
           clear H
           have H := H1
           clear H1
           obtain rfl := Option.some.inj H
           go_enter Try.func27, Try.ntmps27
           go_wp2_with (first | ((with_reducible refine gate_dst (N := 1) rfl ?_); refine bx 1 #[.int .i64 a0_0, .int .i64 a0_1, .int .i64 a0_2, .int .i64 a0_3, .int .i64 a0_4, .string a0_5, .string a0_6, .string a0_7] 23 ?_; intro gb122 hg w134 hbox hb; replace BK122 := ak (hbox); replace GW122 := ak (bz hg (lG HB)); replace GE122 := ak (bz hg (lG HB)); replace HB := lB HB hb; clear hb hbox hg; obtain ⟨hcz135_0, hcz135_1, hcz135_2, hcz135_3, hcz135_4, hcz135_5, hcz135_6, hcz135_7, hfz135_0, hfz135_1, hfz135_2, hfz135_3, hfz135_4, hfz135_5, hfz135_6, hfz135_7⟩ := bC8 BK122) | ((with_reducible refine gate_callee (f := 61) rfl ?_); refine gl (some 8) Try.func61 #[.int .i64 a0_0, .int .i64 1, .int .i64 5] ?_; (with_reducible refine (spec_l01In.calls a0_0 1 5 true _ A2.out).mono ?_); rintro e w' ⟨rfl, ⟨nd, rfl⟩⟩; refine ⟨_, rfl, ?_⟩) | (go_at_call 61; (with_reducible refine (spec_l01In.calls a0_1 1 9999 true _ A4.out).mono ?_); rintro e w' ⟨rfl, ⟨nd, rfl⟩⟩) | (go_at_call 61; (with_reducible refine (spec_l01In.calls a0_2 1 9999 false _ A127.out).mono ?_); rintro e w' ⟨rfl, ⟨nd, rfl⟩⟩))
           go_ret
           exact ⟨ew, by exact lT HB (gC GE122 gN)⟩
         ·rw [if_neg c126] at H
          have c126b0 : (a0_0 == 5) = false := beq_eq_false_iff_ne.mpr c126
          have c126b1 : (a0_0 != 5) = true := bne_iff_ne.mpr c126
          by_cases c136 : a0_2 = 0
          ·rw [if_pos c136] at H
           have c136b0 : (a0_2 == 0) = true := beq_iff_eq.mpr c136
           have c136b1 : (a0_2 != 0) = false := bne_eq_false_iff_eq.mpr c136
           clear c136
           by_cases c137 : a0_4 = 0
           ·rw [if_pos c137] at H
            have c137b0 : (a0_4 == 0) = true := beq_iff_eq.mpr c137
            have c137b1 : (a0_4 != 0) = false := bne_eq_false_iff_eq.mpr c137
            clear c137
            obtain rfl := Option.some.inj H
            go_enter Try.func27, Try.ntmps27
            go_wp2_with (first | ((with_reducible refine gate_dst (N := 1) rfl ?_); refine bx 1 #[.int .i64 a0_0, .int .i64 a0_1, .int .i64 a0_2, .int .i64 a0_3, .int .i64 a0_4, .string a0_5, .string a0_6, .string a0_7] 23 ?_; intro gb122 hg w138 hbox hb; replace BK122 := ak (hbox); replace GW122 := ak (bz hg (lG HB)); replace GE122 := ak (bz hg (lG HB)); replace HB := lB HB hb; clear hb hbox hg; obtain ⟨hcz139_0, hcz139_1, hcz139_2, hcz139_3, hcz139_4, hcz139_5, hcz139_6, hcz139_7, hfz139_0, hfz139_1, hfz139_2, hfz139_3, hfz139_4, hfz139_5, hfz139_6, hfz139_7⟩ := bC8 BK122) | ((with_reducible refine gate_callee (f := 61) rfl ?_); refine gl (some 8) Try.func61 #[.int .i64 a0_0, .int .i64 1, .int .i64 5] ?_; (with_reducible refine (spec_l01In.calls a0_0 1 5 true _ A2.out).mono ?_); rintro e w' ⟨rfl, ⟨nd, rfl⟩⟩; refine ⟨_, rfl, ?_⟩) | (go_at_call 61; (with_reducible refine (spec_l01In.calls a0_1 1 9999 true _ A4.out).mono ?_); rintro e w' ⟨rfl, ⟨nd, rfl⟩⟩))
            go_ret
            exact ⟨ew, by exact lT HB (gC GE122 gN)⟩
           ·rw [if_neg c137] at H
            have c137b0 : (a0_4 == 0) = false := beq_eq_false_iff_ne.mpr c137
            have c137b1 : (a0_4 != 0) = true := bne_iff_ne.mpr c137
            obtain rfl := Option.some.inj H
            go_enter Try.func27, Try.ntmps27
            go_wp2_with (first | ((with_reducible refine gate_dst (N := 1) rfl ?_); refine bx 1 #[.int .i64 a0_0, .int .i64 a0_1, .int .i64 a0_2, .int .i64 a0_3, .int .i64 a0_4, .string a0_5, .string a0_6, .string a0_7] 23 ?_; intro gb122 hg w140 hbox hb; replace BK122 := ak (hbox); replace GW122 := ak (bz hg (lG HB)); replace GE122 := ak (bz hg (lG HB)); replace HB := lB HB hb; clear hb hbox hg; obtain ⟨hcz141_0, hcz141_1, hcz141_2, hcz141_3, hcz141_4, hcz141_5, hcz141_6, hcz141_7, hfz141_0, hfz141_1, hfz141_2, hfz141_3, hfz141_4, hfz141_5, hfz141_6, hfz141_7⟩ := bC8 BK122) | ((with_reducible refine gate_callee (f := 61) rfl ?_); refine gl (some 8) Try.func61 #[.int .i64 a0_0, .int .i64 1, .int .i64 5] ?_; (with_reducible refine (spec_l01In.calls a0_0 1 5 true _ A2.out).mono ?_); rintro e w' ⟨rfl, ⟨nd, rfl⟩⟩; refine ⟨_, rfl, ?_⟩) | (go_at_call 61; (with_reducible refine (spec_l01In.calls a0_1 1 9999 true _ A4.out).mono ?_); rintro e w' ⟨rfl, ⟨nd, rfl⟩⟩))
            go_ret
            exact ⟨ew, by exact lT HB (gC GE122 gN)⟩
          ·rw [if_neg c136] at H
           have c136b0 : (a0_2 == 0) = false := beq_eq_false_iff_ne.mpr c136
           have c136b1 : (a0_2 != 0) = true := bne_iff_ne.mpr c136
           obtain rfl := Option.some.inj H
           go_enter Try.func27, Try.ntmps27
           go_wp2_with (first | ((with_reducible refine gate_dst (N := 1) rfl ?_); refine bx 1 #[.int .i64 a0_0, .int .i64 a0_1, .int .i64 a0_2, .int .i64 a0_3, .int .i64 a0_4, .string a0_5, .string a0_6, .string a0_7] 23 ?_; intro gb122 hg w142 hbox hb; replace BK122 := ak (hbox); replace GW122 := ak (bz hg (lG HB)); replace GE122 := ak (bz hg (lG HB)); replace HB := lB HB hb; clear hb hbox hg; obtain ⟨hcz143_0, hcz143_1, hcz143_2, hcz143_3, hcz143_4, hcz143_5, hcz143_6, hcz143_7, hfz143_0, hfz143_1, hfz143_2, hfz143_3, hfz143_4, hfz143_5, hfz143_6, hfz143_7⟩ := bC8 BK122) | ((with_reducible refine gate_callee (f := 61) rfl ?_); refine gl (some 8) Try.func61 #[.int .i64 a0_0, .int .i64 1, .int .i64 5] ?_; (with_reducible refine (spec_l01In.calls a0_0 1 5 true _ A2.out).mono ?_); rintro e w' ⟨rfl, ⟨nd, rfl⟩⟩; refine ⟨_, rfl, ?_⟩) | (go_at_call 61; (with_reducible refine (spec_l01In.calls a0_1 1 9999 true _ A4.out).mono ?_); rintro e w' ⟨rfl, ⟨nd, rfl⟩⟩))
           go_ret
           exact ⟨ew, by exact lT HB (gC GE122 gN)⟩
        ·rw [if_neg c125] at H
         have c125b0 : (a0_3 == 0) = false := beq_eq_false_iff_ne.mpr c125
         have c125b1 : (a0_3 != 0) = true := bne_iff_ne.mpr c125
         obtain rfl := Option.some.inj H
         go_enter Try.func27, Try.ntmps27
         go_wp2_with (first | ((with_reducible refine gate_dst (N := 1) rfl ?_); refine bx 1 #[.int .i64 a0_0, .int .i64 a0_1, .int .i64 a0_2, .int .i64 a0_3, .int .i64 a0_4, .string a0_5, .string a0_6, .string a0_7] 23 ?_; intro gb122 hg w144 hbox hb; replace BK122 := ak (hbox); replace GW122 := ak (bz hg (lG HB)); replace GE122 := ak (bz hg (lG HB)); replace HB := lB HB hb; clear hb hbox hg; obtain ⟨hcz145_0, hcz145_1, hcz145_2, hcz145_3, hcz145_4, hcz145_5, hcz145_6, hcz145_7, hfz145_0, hfz145_1, hfz145_2, hfz145_3, hfz145_4, hfz145_5, hfz145_6, hfz145_7⟩ := bC8 BK122) | ((with_reducible refine gate_callee (f := 61) rfl ?_); refine gl (some 8) Try.func61 #[.int .i64 a0_0, .int .i64 1, .int .i64 5] ?_; (with_reducible refine (spec_l01In.calls a0_0 1 5 true _ A2.out).mono ?_); rintro e w' ⟨rfl, ⟨nd, rfl⟩⟩; refine ⟨_, rfl, ?_⟩) | (go_at_call 61; (with_reducible refine (spec_l01In.calls a0_1 1 9999 true _ A4.out).mono ?_); rintro e w' ⟨rfl, ⟨nd, rfl⟩⟩))
         go_ret
         exact ⟨ew, by exact lT HB (gC GE122 gN)⟩
       ·rw [if_neg c124] at H
        have c124b0 : (a0_6.toList == ([] : List UInt8)) = false := beq_eq_false_iff_ne.mpr c124
        have c124b1 : (a0_6.toList != ([] : List UInt8)) = true := bne_iff_ne.mpr c124
        obtain rfl := Option.some.inj H
        go_enter Try.func27, Try.ntmps27
        go_wp2_with (first | ((with_reducible refine gate_dst (N := 1) rfl ?_); refine bx 1 #[.int .i64 a0_0, .int .i64 a0_1, .int .i64 a0_2, .int .i64 a0_3, .int .i64 a0_4, .string a0_5, .string a0_6, .string a0_7] 23 ?_; intro gb122 hg w146 hbox hb; replace BK122 := ak (hbox); replace GW122 := ak (bz hg (lG HB)); replace GE122 := ak (bz hg (lG HB)); replace HB := lB HB hb; clear hb hbox hg; obtain ⟨hcz147_0, hcz147_1, hcz147_2, hcz147_3, hcz147_4, hcz147_5, hcz147_6, hcz147_7, hfz147_0, hfz147_1, hfz147_2, hfz147_3, hfz147_4, hfz147_5, hfz147_6, hfz147_7⟩ := bC8 BK122) | ((with_reducible refine gate_callee (f := 61) rfl ?_); refine gl (some 8) Try.func61 #[.int .i64 a0_0, .int .i64 1, .int .i64 5] ?_; (with_reducible refine (spec_l01In.calls a0_0 1 5 true _ A2.out).mono ?_); rintro e w' ⟨rfl, ⟨nd, rfl⟩⟩; refine ⟨_, rfl, ?_⟩) | (go_at_call 61; (with_reducible refine (spec_l01In.calls a0_1 1 9999 true _ A4.out).mono ?_); rintro e w' ⟨rfl, ⟨nd, rfl⟩⟩))
        go_ret
        exact ⟨ew, by exact lT HB (gC GE122 gN)⟩
      ·rw [if_neg c123] at H
       have c123b0 : (a0_5.toList == ([] : List UInt8)) = false := beq_eq_false_iff_ne.mpr c123
       have c123b1 : (a0_5.toList != ([] : List UInt8)) = true := bne_iff_ne.mpr c123
       obtain rfl := Option.some.inj H
       go_enter Try.func27, Try.ntmps27
       go_wp2_with (first | ((with_reducible refine gate_dst (N := 1) rfl ?_); refine bx 1 #[.int .i64 a0_0, .int .i64 a0_1, .int .i64 a0_2, .int .i64 a0_3, .int .i64 a0_4, .string a0_5, .string a0_6, .string a0_7] 23 ?_; intro gb122 hg w148 hbox hb; replace BK122 := ak (hbox); replace GW122 := ak (bz hg (lG HB)); replace GE122 := ak (bz hg (lG HB)); replace HB := lB HB hb; clear hb hbox hg; obtain ⟨hcz149_0, hcz149_1, hcz149_2, hcz149_3, hcz149_4, hcz149_5, hcz149_6, hcz149_7, hfz149_0, hfz149_1, hfz149_2, hfz149_3, hfz149_4, hfz149_5, hfz149_6, hfz149_7⟩ := bC8 BK122) | ((with_reducible refine gate_callee (f := 61) rfl ?_); refine gl (some 8) Try.func61 #[.int .i64 a0_0, .int .i64 1, .int .i64 5] ?_; (with_reducible refine (spec_l01In.calls a0_0 1 5 true _ A2.out).mono ?_); rintro e w' ⟨rfl, ⟨nd, rfl⟩⟩; refine ⟨_, rfl, ?_⟩) | (go_at_call 61; (with_reducible refine (spec_l01In.calls a0_1 1 9999 true _ A4.out).mono ?_); rintro e w' ⟨rfl, ⟨nd, rfl⟩⟩))
       go_ret
       exact ⟨ew, by exact lT HB (gC GE122 gN)⟩
  ·replace c5 := Bool.eq_false_iff.mpr c5
   subst c5
   have H1 : (some false) = some r := by rw [if_neg (show ¬ (false = true) by decide)] at H; exact H
   clear H
   have H := H1
   clear H1
   obtain rfl := Option.some.inj H
   go_enter Try.func27, Try.ntmps27
   go_wp2_with (first | ((with_reducible refine gate_dst (N := 1) rfl ?_); refine bx 1 #[.int .i64 a0_0, .int .i64 a0_1, .int .i64 a0_2, .int .i64 a0_3, .int .i64 a0_4, .string a0_5, .string a0_6, .string a0_7] 23 ?_; intro gb122 hg w150 hbox hb; replace BK122 := ak (hbox); replace GW122 := ak (bz hg (lG HB)); replace GE122 := ak (bz hg (lG HB)); replace HB := lB HB hb; clear hb hbox hg; obtain ⟨hcz151_0, hcz151_1, hcz151_2, hcz151_3, hcz151_4, hcz151_5, hcz151_6, hcz151_7, hfz151_0, hfz151_1, hfz151_2, hfz151_3, hfz151_4, hfz151_5, hfz151_6, hfz151_7⟩ := bC8 BK122) | ((with_reducible refine gate_callee (f := 61) rfl ?_); refine gl (some 8) Try.func61 #[.int .i64 a0_0, .int .i64 1, .int .i64 5] ?_; (with_reducible refine (spec_l01In.calls a0_0 1 5 true _ A2.out).mono ?_); rintro e w' ⟨rfl, ⟨nd, rfl⟩⟩; refine ⟨_, rfl, ?_⟩) | (go_at_call 61; (with_reducible refine (spec_l01In.calls a0_1 1 9999 false _ A4.out).mono ?_); rintro e w' ⟨rfl, ⟨nd, rfl⟩⟩))
   go_ret
   exact ⟨ew, by exact lT HB (gC GE122 gN)⟩
 ·replace c3 := Bool.eq_false_iff.mpr c3
  subst c3
  have H1 : (some false) = some r := by rw [if_neg (show ¬ (false = true) by decide)] at H; exact H
  clear H
  have H := H1
  clear H1
  obtain rfl := Option.some.inj H
  go_enter Try.func27, Try.ntmps27
  go_wp2_with (first | ((with_reducible refine gate_dst (N := 1) rfl ?_); refine bx 1 #[.int .i64 a0_0, .int .i64 a0_1, .int .i64 a0_2, .int .i64 a0_3, .int .i64 a0_4, .string a0_5, .string a0_6, .string a0_7] 23 ?_; intro gb122 hg w152 hbox hb; replace BK122 := ak (hbox); replace GW122 := ak (bz hg (lG HB)); replace GE122 := ak (bz hg (lG HB)); replace HB := lB HB hb; clear hb hbox hg; obtain ⟨hcz153_0, hcz153_1, hcz153_2, hcz153_3, hcz153_4, hcz153_5, hcz153_6, hcz153_7, hfz153_0, hfz153_1, hfz153_2, hfz153_3, hfz153_4, hfz153_5, hfz153_6, hfz153_7⟩ := bC8 BK122) | ((with_reducible refine gate_callee (f := 61) rfl ?_); refine gl (some 8) Try.func61 #[.int .i64 a0_0, .int .i64 1, .int .i64 5] ?_; (with_reducible refine (spec_l01In.calls a0_0 1 5 false _ A2.out).mono ?_); rintro e w' ⟨rfl, ⟨nd, rfl⟩⟩; refine ⟨_, rfl, ?_⟩))
  go_ret
  exact ⟨ew, by exact lT HB (gC GE122 gN)⟩

/-! ### spec_l06Short: function 95 -/
def spec_l06Short.f (k : Nat) (a0 : ByteArray) : Option (ByteArray) := (spec_l01Var.f k (a0.size : Int)).bind fun t144 => (if t144.size + a0.size ≤ 9223372036854775807 then (some (t144 ++ a0)) else (none))
theorem spec_l06Short.mono : ∀ a0 k, LeO (spec_l06Short.f k a0) (spec_l06Short.f (k + 1) a0) := by
 intro a0 k
 unfold spec_l06Short.f
 repeat' first
   | (with_reducible exact spec_l01Var.mono _ _)
   | (with_reducible exact LeO.refl _)
   | (with_reducible exact LeO.none _)
   | (with_reducible refine LeO.ite ?_ ?_)
   | (with_reducible refine LeO.bind ?_ (fun _ => ?_))
   | exact spec_l01Var.mono _ _
   | exact LeO.none _
   | refine LeO.ite ?_ ?_
   | refine LeO.bind ?_ (fun _ => ?_)
set_option maxHeartbeats 8000000 in
set_option maxRecDepth 100000 in
theorem spec_l06Short.calls (k : Nat) (a0 : ByteArray) (r : ByteArray) (w : World) (h : spec_l06Short.f k a0 = some r) :
  Calls Try.prog 95 #[.string a0] w fun e w' => e = .returned (.string r) ∧ Below w.heap.size w w' := by
 have HB := ak (Below.refl w.heap.size w)
 have H : ((spec_l01Var.f k (a0.size : Int)).bind fun t144 => (if t144.size + a0.size ≤ 9223372036854775807 then (some (t144 ++ a0)) else (none))) = some r := h
 clear h
 replace H := Option.bind_eq_some_iff.mp H
 obtain ⟨t144, A20, H⟩ := H
 replace H : (if t144.size + a0.size ≤ 9223372036854775807 then (some (t144 ++ a0)) else (none)) = some r := H
 have A2 := Aside0.mk A20
 clear A20
 by_cases c3 : t144.size + a0.size ≤ 9223372036854775807
 ·rw [if_pos c3] at H
  have c3b0 := eq_true c3
  have c3b1 : decide (t144.size + a0.size ≤ 9223372036854775807) = true := decide_eq_true c3
  try have c3b2 : (9223372036854775807 < t144.size + a0.size) = False := eq_false (Nat.not_lt.2 c3)
  obtain rfl := Option.some.inj H
  go_enter Try.func95, Try.ntmps95
  go_wp2_with (first | ((with_reducible refine gate_callee (f := 94) rfl ?_); refine gl (some 5) Try.func94 #[.int .i64 (a0.size : Int)] ?_; (with_reducible refine (spec_l01Var.calls k (a0.size : Int) t144 _ A2.out).mono ?_); rintro e w4 ⟨rfl, hb⟩; refine ⟨_, rfl, ?_⟩; replace HB := lB HB hb; (try clear hb); (try clear hk)))
  go_ret
  exact ⟨ew, by exact lG HB⟩
 ·rw [if_neg c3] at H
  exact absurd H (by simp)

end Go.Proofs.Ytagkjeldheiejaa.PFnRecords
