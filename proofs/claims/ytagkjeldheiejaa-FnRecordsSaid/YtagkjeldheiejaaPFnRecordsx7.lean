-- Written for this claim by a program of mine (a turned copy of the kit's print): functions as plain Lean, and their contracts. Lean checks it.
import Derived.Test.YtagkjeldheiejaaPFnRecordsx0
import Derived.Test.YtagkjeldheiejaaPFnRecordsx3
import Derived.Test.YtagkjeldheiejaaPFnRecordsx6
import Derived.Test.YtagkjeldheiejaaVFnRecords1
namespace Go.Proofs.Ytagkjeldheiejaa.PFnRecords
open Go.RowKit Go.Proofs.YtagkjeldheiejaaW.PrintWords Go.Proofs.YtagkjeldheiejaaW.PrintLast Go.Proofs.YtagkjeldheiejaaW.PrintMore
attribute [local go_sem] max2_int min2_int max_two min_two max_three min_three max_four min_four   -- for this text's walks alone
set_option linter.unusedVariables false
set_option linter.unusedSimpArgs false

/-! ### spec_RecText: function 55 -/
def spec_RecText.f (k : Nat) (a0_0 : Int) (a0_1 : Int) (a0_2 : Int) (a0_3 : Int) (a0_4 : Int) (a0_5 : ByteArray) (a0_6 : ByteArray) (a0_7 : ByteArray) : Option (ByteArray × Bool) := (spec_RecOk.f k a0_0 a0_1 a0_2 a0_3 a0_4 a0_5 a0_6 a0_7).bind fun t146 => (if t146 = true then ((some (([(a0_0) % 256] : List Int) : List Int)).bind fun y147 => ((spec_l01Var.f k a0_1).bind fun t150 => (if (strOfNums y147).size + t150.size ≤ 9223372036854775807 then ((spec_l01Var.f k a0_2).bind fun t151 => (if (strOfNums y147).size + t150.size + t151.size ≤ 9223372036854775807 then ((spec_l01Var.f k a0_3).bind fun t152 => (if (strOfNums y147).size + t150.size + t151.size + t152.size ≤ 9223372036854775807 then ((spec_l01Var.f k a0_4).bind fun t153 => (if (strOfNums y147).size + t150.size + t151.size + t152.size + t153.size ≤ 9223372036854775807 then ((spec_l06Short.f k a0_5).bind fun t154 => (if (strOfNums y147).size + t150.size + t151.size + t152.size + t153.size + t154.size ≤ 9223372036854775807 then ((spec_l06Short.f k a0_6).bind fun t155 => (if (strOfNums y147).size + t150.size + t151.size + t152.size + t153.size + t154.size + t155.size ≤ 9223372036854775807 then ((spec_l06Short.f k a0_7).bind fun t156 => (if (strOfNums y147).size + t150.size + t151.size + t152.size + t153.size + t154.size + t155.size + t156.size ≤ 9223372036854775807 then (some ((((((((strOfNums y147) ++ t150) ++ t151) ++ t152) ++ t153) ++ t154) ++ t155) ++ t156, true)) else (none))) else (none))) else (none))) else (none))) else (none))) else (none))) else (none)))) else (some ((⟨#[]⟩ : ByteArray), false)))
theorem spec_RecText.mono : ∀ a0 a1 a2 a3 a4 a5 a6 a7 k, LeO (spec_RecText.f k a0 a1 a2 a3 a4 a5 a6 a7) (spec_RecText.f (k + 1) a0 a1 a2 a3 a4 a5 a6 a7) := by
 intro a0 a1 a2 a3 a4 a5 a6 a7 k
 unfold spec_RecText.f
 repeat' first
   | (with_reducible exact spec_RecOk.mono _ _ _ _ _ _ _ _ _)
   | (with_reducible exact spec_l01Var.mono _ _)
   | (with_reducible exact spec_l06Short.mono _ _)
   | (with_reducible exact LeO.refl _)
   | (with_reducible exact LeO.none _)
   | (with_reducible refine LeO.ite ?_ ?_)
   | (with_reducible refine LeO.bind ?_ (fun _ => ?_))
   | exact spec_RecOk.mono _ _ _ _ _ _ _ _ _
   | exact spec_l01Var.mono _ _
   | exact spec_l06Short.mono _ _
   | exact LeO.none _
   | refine LeO.ite ?_ ?_
   | refine LeO.bind ?_ (fun _ => ?_)
def spec_RecText.T3 : Bool × List (List Nat × List Nat) := (true, [([], []), ([0], [0]), ([1], [1]), ([2], [2]), ([3], [3]), ([], []), ([5], [5]), ([6], [6]), ([4, 7], [4, 7]), ([], []), ([9], [9]), ([10, 7], [10]), ([8, 11], [8, 11]), ([], []), ([13], [13]), ([14, 11], [14]), ([12, 15], [12, 15]), ([], []), ([17], [17]), ([18, 15], [18]), ([16, 19], [16, 19]), ([], []), ([21], [21]), ([22, 19], [22]), ([20, 23], [20, 23]), ([], []), ([25], [25]), ([26, 23], [26]), ([24, 27], [24, 27]), ([], []), ([29], [29]), ([30, 27], [30]), ([28, 31], [28, 31]), ([32, 31, 0, 1, 2, 3, 4, 5, 6, 7, 8, 9, 10, 11, 12, 13, 14, 15, 16, 17, 18, 19, 20, 21, 22, 23, 24, 25, 26, 27, 28, 29, 30, 31, 32], [32]), ([33, 0, 1, 2, 3, 4, 5, 6, 7, 8, 9, 10, 11, 12, 13, 14, 15, 16, 17, 18, 19, 20, 21, 22, 23, 24, 25, 26, 27, 28, 29, 30, 31, 32, 33], [])])
def spec_RecText.B3 : List Nat := [0, 1, 3, 7, 15, 0, 32, 96, 255, 0, 512, 1760, 4095, 0, 8192, 28384, 65535, 0, 131072, 454368, 1048575, 0, 2097152, 7270112, 16777215, 0, 33554432, 116322016, 268435455, 0, 536870912, 1861152480, 4294967295, 8589934591, 17179869183]
theorem spec_RecText.tab3 : rtab .any (opsOf Try.f55 3) = spec_RecText.T3 := by kernel_rfl
theorem spec_RecText.bits3 : waitsOk spec_RecText.T3.2 spec_RecText.B3 = true := by kernel_rfl
set_option maxHeartbeats 8000000 in
set_option maxRecDepth 100000 in
theorem spec_RecText.calls (k : Nat) (a0_0 : Int) (a0_1 : Int) (a0_2 : Int) (a0_3 : Int) (a0_4 : Int) (a0_5 : ByteArray) (a0_6 : ByteArray) (a0_7 : ByteArray) (r1 : ByteArray) (r2 : Bool) (w : World) (h : spec_RecText.f k a0_0 a0_1 a0_2 a0_3 a0_4 a0_5 a0_6 a0_7 = some (r1, r2)) :
  Calls Try.prog 55 #[.agg #[.int .i64 a0_0, .int .i64 a0_1, .int .i64 a0_2, .int .i64 a0_3, .int .i64 a0_4, .string a0_5, .string a0_6, .string a0_7]] w fun e w' => e = .returned (.tuple #[.string r1, .bool r2]) ∧ Below w.heap.size w w' := by
 have hu23 := Try.underlying23
 have HB := ak (Below.refl w.heap.size w)
 have H : ((spec_RecOk.f k a0_0 a0_1 a0_2 a0_3 a0_4 a0_5 a0_6 a0_7).bind fun t146 => (if t146 = true then ((some (([(a0_0) % 256] : List Int) : List Int)).bind fun y147 => ((spec_l01Var.f k a0_1).bind fun t150 => (if (strOfNums y147).size + t150.size ≤ 9223372036854775807 then ((spec_l01Var.f k a0_2).bind fun t151 => (if (strOfNums y147).size + t150.size + t151.size ≤ 9223372036854775807 then ((spec_l01Var.f k a0_3).bind fun t152 => (if (strOfNums y147).size + t150.size + t151.size + t152.size ≤ 9223372036854775807 then ((spec_l01Var.f k a0_4).bind fun t153 => (if (strOfNums y147).size + t150.size + t151.size + t152.size + t153.size ≤ 9223372036854775807 then ((spec_l06Short.f k a0_5).bind fun t154 => (if (strOfNums y147).size + t150.size + t151.size + t152.size + t153.size + t154.size ≤ 9223372036854775807 then ((spec_l06Short.f k a0_6).bind fun t155 => (if (strOfNums y147).size + t150.size + t151.size + t152.size + t153.size + t154.size + t155.size ≤ 9223372036854775807 then ((spec_l06Short.f k a0_7).bind fun t156 => (if (strOfNums y147).size + t150.size + t151.size + t152.size + t153.size + t154.size + t155.size + t156.size ≤ 9223372036854775807 then (some ((((((((strOfNums y147) ++ t150) ++ t151) ++ t152) ++ t153) ++ t154) ++ t155) ++ t156, true)) else (none))) else (none))) else (none))) else (none))) else (none))) else (none))) else (none)))) else (some ((⟨#[]⟩ : ByteArray), false)))) = some (r1, r2) := h
 clear h
 replace H := Option.bind_eq_some_iff.mp H
 obtain ⟨t146, A20, H⟩ := H
 replace H : (if t146 = true then ((some (([(a0_0) % 256] : List Int) : List Int)).bind fun y147 => ((spec_l01Var.f k a0_1).bind fun t150 => (if (strOfNums y147).size + t150.size ≤ 9223372036854775807 then ((spec_l01Var.f k a0_2).bind fun t151 => (if (strOfNums y147).size + t150.size + t151.size ≤ 9223372036854775807 then ((spec_l01Var.f k a0_3).bind fun t152 => (if (strOfNums y147).size + t150.size + t151.size + t152.size ≤ 9223372036854775807 then ((spec_l01Var.f k a0_4).bind fun t153 => (if (strOfNums y147).size + t150.size + t151.size + t152.size + t153.size ≤ 9223372036854775807 then ((spec_l06Short.f k a0_5).bind fun t154 => (if (strOfNums y147).size + t150.size + t151.size + t152.size + t153.size + t154.size ≤ 9223372036854775807 then ((spec_l06Short.f k a0_6).bind fun t155 => (if (strOfNums y147).size + t150.size + t151.size + t152.size + t153.size + t154.size + t155.size ≤ 9223372036854775807 then ((spec_l06Short.f k a0_7).bind fun t156 => (if (strOfNums y147).size + t150.size + t151.size + t152.size + t153.size + t154.size + t155.size + t156.size ≤ 9223372036854775807 then (some ((((((((strOfNums y147) ++ t150) ++ t151) ++ t152) ++ t153) ++ t154) ++ t155) ++ t156, true)) else (none))) else (none))) else (none))) else (none))) else (none))) else (none))) else (none)))) else (some ((⟨#[]⟩ : ByteArray), false))) = some (r1, r2) := H
 have A2 := Aside0.mk A20
 clear A20
 by_cases c3 : t146 = true
 ·subst c3
  have H1 : ((some (([(a0_0) % 256] : List Int) : List Int)).bind fun y147 => ((spec_l01Var.f k a0_1).bind fun t150 => (if (strOfNums y147).size + t150.size ≤ 9223372036854775807 then ((spec_l01Var.f k a0_2).bind fun t151 => (if (strOfNums y147).size + t150.size + t151.size ≤ 9223372036854775807 then ((spec_l01Var.f k a0_3).bind fun t152 => (if (strOfNums y147).size + t150.size + t151.size + t152.size ≤ 9223372036854775807 then ((spec_l01Var.f k a0_4).bind fun t153 => (if (strOfNums y147).size + t150.size + t151.size + t152.size + t153.size ≤ 9223372036854775807 then ((spec_l06Short.f k a0_5).bind fun t154 => (if (strOfNums y147).size + t150.size + t151.size + t152.size + t153.size + t154.size ≤ 9223372036854775807 then ((spec_l06Short.f k a0_6).bind fun t155 => (if (strOfNums y147).size + t150.size + t151.size + t152.size + t153.size + t154.size + t155.size ≤ 9223372036854775807 then ((spec_l06Short.f k a0_7).bind fun t156 => (if (strOfNums y147).size + t150.size + t151.size + t152.size + t153.size + t154.size + t155.size + t156.size ≤ 9223372036854775807 then (some ((((((((strOfNums y147) ++ t150) ++ t151) ++ t152) ++ t153) ++ t154) ++ t155) ++ t156, true)) else (none))) else (none))) else (none))) else (none))) else (none))) else (none))) else (none)))) = some (r1, r2) := by rw [if_pos rfl] at H; exact H
  clear H
  have H := H1
  clear H1
  obtain ⟨y147, hy147⟩ : ∃ y_ : List Int, y_ = (([(a0_0) % 256] : List Int)) := ⟨_, rfl⟩
  replace H : ((spec_l01Var.f k a0_1).bind fun t150 => (if (strOfNums y147).size + t150.size ≤ 9223372036854775807 then ((spec_l01Var.f k a0_2).bind fun t151 => (if (strOfNums y147).size + t150.size + t151.size ≤ 9223372036854775807 then ((spec_l01Var.f k a0_3).bind fun t152 => (if (strOfNums y147).size + t150.size + t151.size + t152.size ≤ 9223372036854775807 then ((spec_l01Var.f k a0_4).bind fun t153 => (if (strOfNums y147).size + t150.size + t151.size + t152.size + t153.size ≤ 9223372036854775807 then ((spec_l06Short.f k a0_5).bind fun t154 => (if (strOfNums y147).size + t150.size + t151.size + t152.size + t153.size + t154.size ≤ 9223372036854775807 then ((spec_l06Short.f k a0_6).bind fun t155 => (if (strOfNums y147).size + t150.size + t151.size + t152.size + t153.size + t154.size + t155.size ≤ 9223372036854775807 then ((spec_l06Short.f k a0_7).bind fun t156 => (if (strOfNums y147).size + t150.size + t151.size + t152.size + t153.size + t154.size + t155.size + t156.size ≤ 9223372036854775807 then (some ((((((((strOfNums y147) ++ t150) ++ t151) ++ t152) ++ t153) ++ t154) ++ t155) ++ t156, true)) else (none))) else (none))) else (none))) else (none))) else (none))) else (none))) else (none))) = some (r1, r2) := by first | (rw [hy147]; with_reducible exact H) | (have H2_ := (Option.bind_some _ _).symm.trans H; rw [hy147]; with_reducible exact H2_) | (have H2_ := (Option.bind_some _ _).symm.trans H; with_reducible exact H2_) | with_reducible exact H | (rw [hy147]; exact H) | exact H
  have Ny147 := Aside0.mk hy147
  clear hy147
  replace H := Option.bind_eq_some_iff.mp H
  obtain ⟨t150, A40, H⟩ := H
  replace H : (if (strOfNums y147).size + t150.size ≤ 9223372036854775807 then ((spec_l01Var.f k a0_2).bind fun t151 => (if (strOfNums y147).size + t150.size + t151.size ≤ 9223372036854775807 then ((spec_l01Var.f k a0_3).bind fun t152 => (if (strOfNums y147).size + t150.size + t151.size + t152.size ≤ 9223372036854775807 then ((spec_l01Var.f k a0_4).bind fun t153 => (if (strOfNums y147).size + t150.size + t151.size + t152.size + t153.size ≤ 9223372036854775807 then ((spec_l06Short.f k a0_5).bind fun t154 => (if (strOfNums y147).size + t150.size + t151.size + t152.size + t153.size + t154.size ≤ 9223372036854775807 then ((spec_l06Short.f k a0_6).bind fun t155 => (if (strOfNums y147).size + t150.size + t151.size + t152.size + t153.size + t154.size + t155.size ≤ 9223372036854775807 then ((spec_l06Short.f k a0_7).bind fun t156 => (if (strOfNums y147).size + t150.size + t151.size + t152.size + t153.size + t154.size + t155.size + t156.size ≤ 9223372036854775807 then (some ((((((((strOfNums y147) ++ t150) ++ t151) ++ t152) ++ t153) ++ t154) ++ t155) ++ t156, true)) else (none))) else (none))) else (none))) else (none))) else (none))) else (none))) else (none)) = some (r1, r2) := H
  have A4 := Aside0.mk A40
  clear A40
  by_cases c5 : (strOfNums y147).size + t150.size ≤ 9223372036854775807
  ·rw [if_pos c5] at H
   have c5b0 := eq_true c5
   have c5b1 : decide ((strOfNums y147).size + t150.size ≤ 9223372036854775807) = true := decide_eq_true c5
   try have c5b2 : (9223372036854775807 < (strOfNums y147).size + t150.size) = False := eq_false (Nat.not_lt.2 c5)
   replace H := Option.bind_eq_some_iff.mp H
   obtain ⟨t151, A60, H⟩ := H
   replace H : (if (strOfNums y147).size + t150.size + t151.size ≤ 9223372036854775807 then ((spec_l01Var.f k a0_3).bind fun t152 => (if (strOfNums y147).size + t150.size + t151.size + t152.size ≤ 9223372036854775807 then ((spec_l01Var.f k a0_4).bind fun t153 => (if (strOfNums y147).size + t150.size + t151.size + t152.size + t153.size ≤ 9223372036854775807 then ((spec_l06Short.f k a0_5).bind fun t154 => (if (strOfNums y147).size + t150.size + t151.size + t152.size + t153.size + t154.size ≤ 9223372036854775807 then ((spec_l06Short.f k a0_6).bind fun t155 => (if (strOfNums y147).size + t150.size + t151.size + t152.size + t153.size + t154.size + t155.size ≤ 9223372036854775807 then ((spec_l06Short.f k a0_7).bind fun t156 => (if (strOfNums y147).size + t150.size + t151.size + t152.size + t153.size + t154.size + t155.size + t156.size ≤ 9223372036854775807 then (some ((((((((strOfNums y147) ++ t150) ++ t151) ++ t152) ++ t153) ++ t154) ++ t155) ++ t156, true)) else (none))) else (none))) else (none))) else (none))) else (none))) else (none)) = some (r1, r2) := H
   have A6 := Aside0.mk A60
   clear A60
   by_cases c7 : (strOfNums y147).size + t150.size + t151.size ≤ 9223372036854775807
   ·rw [if_pos c7] at H
    have c7b0 := eq_true c7
    have c7b1 : decide ((strOfNums y147).size + t150.size + t151.size ≤ 9223372036854775807) = true := decide_eq_true c7
    try have c7b2 : (9223372036854775807 < (strOfNums y147).size + t150.size + t151.size) = False := eq_false (Nat.not_lt.2 c7)
    replace H := Option.bind_eq_some_iff.mp H
    obtain ⟨t152, A80, H⟩ := H
    replace H : (if (strOfNums y147).size + t150.size + t151.size + t152.size ≤ 9223372036854775807 then ((spec_l01Var.f k a0_4).bind fun t153 => (if (strOfNums y147).size + t150.size + t151.size + t152.size + t153.size ≤ 9223372036854775807 then ((spec_l06Short.f k a0_5).bind fun t154 => (if (strOfNums y147).size + t150.size + t151.size + t152.size + t153.size + t154.size ≤ 9223372036854775807 then ((spec_l06Short.f k a0_6).bind fun t155 => (if (strOfNums y147).size + t150.size + t151.size + t152.size + t153.size + t154.size + t155.size ≤ 9223372036854775807 then ((spec_l06Short.f k a0_7).bind fun t156 => (if (strOfNums y147).size + t150.size + t151.size + t152.size + t153.size + t154.size + t155.size + t156.size ≤ 9223372036854775807 then (some ((((((((strOfNums y147) ++ t150) ++ t151) ++ t152) ++ t153) ++ t154) ++ t155) ++ t156, true)) else (none))) else (none))) else (none))) else (none))) else (none)) = some (r1, r2) := H
    have A8 := Aside0.mk A80
    clear A80
    by_cases c9 : (strOfNums y147).size + t150.size + t151.size + t152.size ≤ 9223372036854775807
    ·rw [if_pos c9] at H
     have c9b0 := eq_true c9
     have c9b1 : decide ((strOfNums y147).size + t150.size + t151.size + t152.size ≤ 9223372036854775807) = true := decide_eq_true c9
     try have c9b2 : (9223372036854775807 < (strOfNums y147).size + t150.size + t151.size + t152.size) = False := eq_false (Nat.not_lt.2 c9)
     replace H := Option.bind_eq_some_iff.mp H
     obtain ⟨t153, A100, H⟩ := H
     replace H : (if (strOfNums y147).size + t150.size + t151.size + t152.size + t153.size ≤ 9223372036854775807 then ((spec_l06Short.f k a0_5).bind fun t154 => (if (strOfNums y147).size + t150.size + t151.size + t152.size + t153.size + t154.size ≤ 9223372036854775807 then ((spec_l06Short.f k a0_6).bind fun t155 => (if (strOfNums y147).size + t150.size + t151.size + t152.size + t153.size + t154.size + t155.size ≤ 9223372036854775807 then ((spec_l06Short.f k a0_7).bind fun t156 => (if (strOfNums y147).size + t150.size + t151.size + t152.size + t153.size + t154.size + t155.size + t156.size ≤ 9223372036854775807 then (some ((((((((strOfNums y147) ++ t150) ++ t151) ++ t152) ++ t153) ++ t154) ++ t155) ++ t156, true)) else (none))) else (none))) else (none))) else (none)) = some (r1, r2) := H
     have A10 := Aside0.mk A100
     clear A100
     by_cases c11 : (strOfNums y147).size + t150.size + t151.size + t152.size + t153.size ≤ 9223372036854775807
     ·rw [if_pos c11] at H
      have c11b0 := eq_true c11
      have c11b1 : decide ((strOfNums y147).size + t150.size + t151.size + t152.size + t153.size ≤ 9223372036854775807) = true := decide_eq_true c11
      try have c11b2 : (9223372036854775807 < (strOfNums y147).size + t150.size + t151.size + t152.size + t153.size) = False := eq_false (Nat.not_lt.2 c11)
      replace H := Option.bind_eq_some_iff.mp H
      obtain ⟨t154, A120, H⟩ := H
      replace H : (if (strOfNums y147).size + t150.size + t151.size + t152.size + t153.size + t154.size ≤ 9223372036854775807 then ((spec_l06Short.f k a0_6).bind fun t155 => (if (strOfNums y147).size + t150.size + t151.size + t152.size + t153.size + t154.size + t155.size ≤ 9223372036854775807 then ((spec_l06Short.f k a0_7).bind fun t156 => (if (strOfNums y147).size + t150.size + t151.size + t152.size + t153.size + t154.size + t155.size + t156.size ≤ 9223372036854775807 then (some ((((((((strOfNums y147) ++ t150) ++ t151) ++ t152) ++ t153) ++ t154) ++ t155) ++ t156, true)) else (none))) else (none))) else (none)) = some (r1, r2) := H
      have A12 := Aside0.mk A120
      clear A120
      by_cases c13 : (strOfNums y147).size + t150.size + t151.size + t152.size + t153.size + t154.size ≤ 9223372036854775807
      ·rw [if_pos c13] at H
       have c13b0 := eq_true c13
       have c13b1 : decide ((strOfNums y147).size + t150.size + t151.size + t152.size + t153.size + t154.size ≤ 9223372036854775807) = true := decide_eq_true c13
       try have c13b2 : (9223372036854775807 < (strOfNums y147).size + t150.size + t151.size + t152.size + t153.size + t154.size) = False := eq_false (Nat.not_lt.2 c13)
       replace H := Option.bind_eq_some_iff.mp H
       obtain ⟨t155, A140, H⟩ := H
       replace H : (if (strOfNums y147).size + t150.size + t151.size + t152.size + t153.size + t154.size + t155.size ≤ 9223372036854775807 then ((spec_l06Short.f k a0_7).bind fun t156 => (if (strOfNums y147).size + t150.size + t151.size + t152.size + t153.size + t154.size + t155.size + t156.size ≤ 9223372036854775807 then (some ((((((((strOfNums y147) ++ t150) ++ t151) ++ t152) ++ t153) ++ t154) ++ t155) ++ t156, true)) else (none))) else (none)) = some (r1, r2) := H
       have A14 := Aside0.mk A140
       clear A140
       by_cases c15 : (strOfNums y147).size + t150.size + t151.size + t152.size + t153.size + t154.size + t155.size ≤ 9223372036854775807
       ·rw [if_pos c15] at H
        have c15b0 := eq_true c15
        have c15b1 : decide ((strOfNums y147).size + t150.size + t151.size + t152.size + t153.size + t154.size + t155.size ≤ 9223372036854775807) = true := decide_eq_true c15
        try have c15b2 : (9223372036854775807 < (strOfNums y147).size + t150.size + t151.size + t152.size + t153.size + t154.size + t155.size) = False := eq_false (Nat.not_lt.2 c15)
        replace H := Option.bind_eq_some_iff.mp H
        obtain ⟨t156, A160, H⟩ := H
        replace H : (if (strOfNums y147).size + t150.size + t151.size + t152.size + t153.size + t154.size + t155.size + t156.size ≤ 9223372036854775807 then (some ((((((((strOfNums y147) ++ t150) ++ t151) ++ t152) ++ t153) ++ t154) ++ t155) ++ t156, true)) else (none)) = some (r1, r2) := H
        have A16 := Aside0.mk A160
        clear A160
        by_cases c17 : (strOfNums y147).size + t150.size + t151.size + t152.size + t153.size + t154.size + t155.size + t156.size ≤ 9223372036854775807
        ·rw [if_pos c17] at H
         have c17b0 := eq_true c17
         have c17b1 : decide ((strOfNums y147).size + t150.size + t151.size + t152.size + t153.size + t154.size + t155.size + t156.size ≤ 9223372036854775807) = true := decide_eq_true c17
         try have c17b2 : (9223372036854775807 < (strOfNums y147).size + t150.size + t151.size + t152.size + t153.size + t154.size + t155.size + t156.size) = False := eq_false (Nat.not_lt.2 c17)
         simp only [Option.some.injEq, Prod.mk.injEq] at H
         obtain ⟨rfl, rfl⟩ := H
         go_enter Try.func55, Try.ntmps55
         try go_wp2_with (first | ((with_reducible refine gate_dst (N := 1) rfl ?_); refine bx 1 #[.int .i64 a0_0, .int .i64 a0_1, .int .i64 a0_2, .int .i64 a0_3, .int .i64 a0_4, .string a0_5, .string a0_6, .string a0_7] 23 ?_; intro gb145 hg w18 hbox hb; replace BK145 := ak (hbox); replace GW145 := ak (bz hg (lG HB)); replace GE145 := ak (bz hg (lG HB)); replace HB := lB HB hb; clear hb hbox hg; obtain ⟨hcz19_0, hcz19_1, hcz19_2, hcz19_3, hcz19_4, hcz19_5, hcz19_6, hcz19_7, hfz19_0, hfz19_1, hfz19_2, hfz19_3, hfz19_4, hfz19_5, hfz19_6, hfz19_7⟩ := bC8 BK145) | ((with_reducible refine gate_callee (f := 27) rfl ?_); refine gl (some 5) Try.func27 #[.agg #[.int .i64 a0_0, .int .i64 a0_1, .int .i64 a0_2, .int .i64 a0_3, .int .i64 a0_4, .string a0_5, .string a0_6, .string a0_7]] ?_; (with_reducible refine (spec_RecOk.calls k a0_0 a0_1 a0_2 a0_3 a0_4 a0_5 a0_6 a0_7 true _ A2.out).mono ?_); rintro e w20 ⟨rfl, hb⟩; refine ⟨_, rfl, ?_⟩; replace BK145 := bB BK145 hb; replace HB := ak (below_step (lT HB (gC GE145 gN)) hb); (try clear hb); (try clear hk)))
         replace BK145 := ak (blk_drew BK145.out)
         replace HB := ak (below_drew1 HB.out)
         refine start_ (n := 35) (S := fun w' => w'.cell? ⟨gb145, 0, none⟩ = some (.int .i64 a0_0) ∧ w'.cell? ⟨gb145, 1, none⟩ = some (.int .i64 a0_1) ∧ w'.cell? ⟨gb145, 2, none⟩ = some (.int .i64 a0_2) ∧ w'.cell? ⟨gb145, 3, none⟩ = some (.int .i64 a0_3) ∧ w'.cell? ⟨gb145, 4, none⟩ = some (.int .i64 a0_4) ∧ w'.cell? ⟨gb145, 5, none⟩ = some (.string a0_5) ∧ w'.cell? ⟨gb145, 6, none⟩ = some (.string a0_6) ∧ w'.cell? ⟨gb145, 7, none⟩ = some (.string a0_7)) (ds := []) #[f_,f_,f_,f_,f_,f_,f_,f_,f_,f_,f_,f_,f_,f_,f_,f_,f_,f_,f_,f_,f_,f_,f_,f_,f_,f_,f_,f_,f_,f_,f_,f_,f_,f_,f_] (by kernel_rfl) rfl rfl ⟨bc BK145 0, bc BK145 1, bc BK145 2, bc BK145 3, bc BK145 4, bc BK145 5, bc BK145 6, bc BK145 7⟩ (fun hHeld => ?_); refine with_tabW spec_RecText.tab3 spec_RecText.bits3 (fun HT_ HW_ => ?_)
         generalize w20.drew = w21 at BK145 HB hHeld ⊢
         refine pu 0 7 (fb 35 1) HT_ ?_
         refine pu 5 12 (fb 35 33) HT_ ?_
         refine pu 9 16 (fb 35 545) HT_ ?_
         refine pu 13 20 (fb 35 8737) HT_ ?_
         refine pu 17 24 (fb 35 139809) HT_ ?_
         refine pu 21 28 (fb 35 2236961) HT_ ?_
         refine pu 25 32 (fb 35 35791393) HT_ ?_
         refine pu 29 36 (fb 35 572662305) HT_ ?_
         refine tk 1 8 (fb 35 572662307) HT_ HW_ hHeld ?_
         refine pu 2 9 (fb 35 572662311) HT_ ?_
         refine tk 6 13 (fb 35 572662375) HT_ HW_ hHeld ?_
         refine tk 10 17 (fb 35 572663399) HT_ HW_ hHeld ?_
         refine tk 14 21 (fb 35 572679783) HT_ HW_ hHeld ?_
         refine tk 18 25 (fb 35 572941927) HT_ HW_ hHeld ?_
         refine tk 22 29 (fb 35 577136231) HT_ HW_ hHeld ?_
         refine tk 26 33 (fb 35 644245095) HT_ HW_ hHeld ?_
         refine tk 30 37 (fb 35 1717986919) HT_ HW_ hHeld ?_
         refine join_ (σ := Value) 3 #[t_,t_,t_,t_,t_,t_,t_,t_,t_,t_,t_,t_,t_,t_,t_,t_,t_,t_,t_,t_,t_,t_,t_,t_,t_,t_,t_,t_,t_,t_,t_,t_,f_,f_,f_] (fun s_ => [(10, s_), (11, .string (strOfNums y147)), (14, .string t150), (18, .string t151), (22, .string t152), (26, .string t153), (30, .string t154), (34, .string t155), (38, .string t156), (15, .string ((strOfNums y147) ++ t150)), (19, .string (((strOfNums y147) ++ t150) ++ t151)), (23, .string ((((strOfNums y147) ++ t150) ++ t151) ++ t152)), (27, .string (((((strOfNums y147) ++ t150) ++ t151) ++ t152) ++ t153)), (31, .string ((((((strOfNums y147) ++ t150) ++ t151) ++ t152) ++ t153) ++ t154)), (35, .string (((((((strOfNums y147) ++ t150) ++ t151) ++ t152) ++ t153) ++ t154) ++ t155))]) (fun s_ w' => (w'.cell? ⟨gb145, 0, none⟩ = some (.int .i64 a0_0) ∧ w'.cell? ⟨gb145, 1, none⟩ = some (.int .i64 a0_1) ∧ w'.cell? ⟨gb145, 2, none⟩ = some (.int .i64 a0_2) ∧ w'.cell? ⟨gb145, 3, none⟩ = some (.int .i64 a0_3) ∧ w'.cell? ⟨gb145, 4, none⟩ = some (.int .i64 a0_4) ∧ w'.cell? ⟨gb145, 5, none⟩ = some (.string a0_5) ∧ w'.cell? ⟨gb145, 6, none⟩ = some (.string a0_6) ∧ w'.cell? ⟨gb145, 7, none⟩ = some (.string a0_7)) ∧ (Kd.R (Kd.int .u8) 5 w' w.heap.size (fun _ => True) s_ y147) ∧ (w'.heap[gb145]? = some (.cells #[.int .i64 a0_0, .int .i64 a0_1, .int .i64 a0_2, .int .i64 a0_3, .int .i64 a0_4, .string a0_5, .string a0_6, .string a0_7] 23 (0, 0))) ∧ (Below w.heap.size w w')) ?_ ?_
         rotate_left
         ·intro hJ3_4_7_11_15_19_23_27_31
          refine join_ (σ := Value) 4 #[t_,t_,t_,t_,t_,t_,t_,t_,t_,t_,t_,t_,t_,t_,t_,t_,t_,t_,t_,t_,t_,t_,t_,t_,t_,t_,t_,t_,t_,t_,t_,f_,f_,f_,f_] (fun s_ => [(10, s_), (11, .string (strOfNums y147)), (14, .string t150), (18, .string t151), (22, .string t152), (26, .string t153), (30, .string t154), (34, .string t155), (15, .string ((strOfNums y147) ++ t150)), (19, .string (((strOfNums y147) ++ t150) ++ t151)), (23, .string ((((strOfNums y147) ++ t150) ++ t151) ++ t152)), (27, .string (((((strOfNums y147) ++ t150) ++ t151) ++ t152) ++ t153)), (31, .string ((((((strOfNums y147) ++ t150) ++ t151) ++ t152) ++ t153) ++ t154)), (35, .string (((((((strOfNums y147) ++ t150) ++ t151) ++ t152) ++ t153) ++ t154) ++ t155))]) (fun s_ w' => (w'.cell? ⟨gb145, 0, none⟩ = some (.int .i64 a0_0) ∧ w'.cell? ⟨gb145, 1, none⟩ = some (.int .i64 a0_1) ∧ w'.cell? ⟨gb145, 2, none⟩ = some (.int .i64 a0_2) ∧ w'.cell? ⟨gb145, 3, none⟩ = some (.int .i64 a0_3) ∧ w'.cell? ⟨gb145, 4, none⟩ = some (.int .i64 a0_4) ∧ w'.cell? ⟨gb145, 5, none⟩ = some (.string a0_5) ∧ w'.cell? ⟨gb145, 6, none⟩ = some (.string a0_6) ∧ w'.cell? ⟨gb145, 7, none⟩ = some (.string a0_7)) ∧ (Kd.R (Kd.int .u8) 5 w' w.heap.size (fun _ => True) s_ y147) ∧ (w'.heap[gb145]? = some (.cells #[.int .i64 a0_0, .int .i64 a0_1, .int .i64 a0_2, .int .i64 a0_3, .int .i64 a0_4, .string a0_5, .string a0_6, .string a0_7] 23 (0, 0))) ∧ (Below w.heap.size w w')) ?_ ?_
          rotate_left
          ·intro hJ3_4_7_11_15_19_23_27
           refine join_ (σ := Value) 10 #[t_,t_,t_,t_,f_,t_,t_,t_,f_,t_,t_,t_,f_,t_,t_,t_,f_,t_,t_,t_,f_,t_,t_,t_,f_,t_,t_,t_,f_,t_,t_,t_,f_,f_,f_] (fun s_ => [(10, s_), (14, .string t150), (18, .string t151), (22, .string t152), (26, .string t153), (30, .string t154), (34, .string t155), (38, .string t156)]) (fun s_ w' => (w'.cell? ⟨gb145, 0, none⟩ = some (.int .i64 a0_0) ∧ w'.cell? ⟨gb145, 1, none⟩ = some (.int .i64 a0_1) ∧ w'.cell? ⟨gb145, 2, none⟩ = some (.int .i64 a0_2) ∧ w'.cell? ⟨gb145, 3, none⟩ = some (.int .i64 a0_3) ∧ w'.cell? ⟨gb145, 4, none⟩ = some (.int .i64 a0_4) ∧ w'.cell? ⟨gb145, 5, none⟩ = some (.string a0_5) ∧ w'.cell? ⟨gb145, 6, none⟩ = some (.string a0_6) ∧ w'.cell? ⟨gb145, 7, none⟩ = some (.string a0_7)) ∧ (Kd.R (Kd.int .u8) 5 w' w.heap.size (fun _ => True) s_ y147) ∧ (w'.heap[gb145]? = some (.cells #[.int .i64 a0_0, .int .i64 a0_1, .int .i64 a0_2, .int .i64 a0_3, .int .i64 a0_4, .string a0_5, .string a0_6, .string a0_7] 23 (0, 0))) ∧ (Below w.heap.size w w')) ?_ ?_
           rotate_left
           ·intro hJ3_7_11_15_19_23_27_31
            refine join_ (σ := Value) 6 #[t_,t_,t_,t_,t_,t_,t_,t_,t_,t_,t_,t_,t_,t_,t_,t_,t_,t_,t_,t_,t_,t_,t_,t_,t_,t_,t_,f_,f_,t_,t_,f_,f_,f_,f_] (fun s_ => [(10, s_), (11, .string (strOfNums y147)), (14, .string t150), (18, .string t151), (22, .string t152), (26, .string t153), (30, .string t154), (15, .string ((strOfNums y147) ++ t150)), (19, .string (((strOfNums y147) ++ t150) ++ t151)), (23, .string ((((strOfNums y147) ++ t150) ++ t151) ++ t152)), (27, .string (((((strOfNums y147) ++ t150) ++ t151) ++ t152) ++ t153)), (31, .string ((((((strOfNums y147) ++ t150) ++ t151) ++ t152) ++ t153) ++ t154))]) (fun s_ w' => (w'.cell? ⟨gb145, 0, none⟩ = some (.int .i64 a0_0) ∧ w'.cell? ⟨gb145, 1, none⟩ = some (.int .i64 a0_1) ∧ w'.cell? ⟨gb145, 2, none⟩ = some (.int .i64 a0_2) ∧ w'.cell? ⟨gb145, 3, none⟩ = some (.int .i64 a0_3) ∧ w'.cell? ⟨gb145, 4, none⟩ = some (.int .i64 a0_4) ∧ w'.cell? ⟨gb145, 5, none⟩ = some (.string a0_5) ∧ w'.cell? ⟨gb145, 6, none⟩ = some (.string a0_6) ∧ w'.cell? ⟨gb145, 7, none⟩ = some (.string a0_7)) ∧ (Kd.R (Kd.int .u8) 5 w' w.heap.size (fun _ => True) s_ y147) ∧ (w'.heap[gb145]? = some (.cells #[.int .i64 a0_0, .int .i64 a0_1, .int .i64 a0_2, .int .i64 a0_3, .int .i64 a0_4, .string a0_5, .string a0_6, .string a0_7] 23 (0, 0))) ∧ (Below w.heap.size w w')) ?_ ?_
            rotate_left
            ·intro hJ3_4_7_11_15_19_23
             refine join_ (σ := Value) 11 #[t_,t_,t_,t_,f_,t_,t_,t_,f_,t_,t_,t_,f_,t_,t_,t_,f_,t_,t_,t_,f_,t_,t_,t_,f_,t_,t_,t_,f_,t_,t_,f_,f_,f_,f_] (fun s_ => [(10, s_), (14, .string t150), (18, .string t151), (22, .string t152), (26, .string t153), (30, .string t154), (34, .string t155)]) (fun s_ w' => (w'.cell? ⟨gb145, 0, none⟩ = some (.int .i64 a0_0) ∧ w'.cell? ⟨gb145, 1, none⟩ = some (.int .i64 a0_1) ∧ w'.cell? ⟨gb145, 2, none⟩ = some (.int .i64 a0_2) ∧ w'.cell? ⟨gb145, 3, none⟩ = some (.int .i64 a0_3) ∧ w'.cell? ⟨gb145, 4, none⟩ = some (.int .i64 a0_4) ∧ w'.cell? ⟨gb145, 5, none⟩ = some (.string a0_5) ∧ w'.cell? ⟨gb145, 6, none⟩ = some (.string a0_6) ∧ w'.cell? ⟨gb145, 7, none⟩ = some (.string a0_7)) ∧ (Kd.R (Kd.int .u8) 5 w' w.heap.size (fun _ => True) s_ y147) ∧ (w'.heap[gb145]? = some (.cells #[.int .i64 a0_0, .int .i64 a0_1, .int .i64 a0_2, .int .i64 a0_3, .int .i64 a0_4, .string a0_5, .string a0_6, .string a0_7] 23 (0, 0))) ∧ (Below w.heap.size w w')) ?_ ?_
             rotate_left
             ·intro hJ3_7_11_15_19_23_27
              refine join_ (σ := Unit) 11 #[t_,t_,t_,f_,f_,t_,t_,t_,f_,t_,t_,t_,f_,t_,t_,t_,f_,t_,t_,t_,f_,t_,t_,t_,f_,t_,t_,t_,f_,t_,t_,t_,f_,f_,f_] (fun s_ => [(14, .string t150), (18, .string t151), (22, .string t152), (26, .string t153), (30, .string t154), (34, .string t155), (38, .string t156)]) (fun s_ w' => (w'.cell? ⟨gb145, 0, none⟩ = some (.int .i64 a0_0) ∧ w'.cell? ⟨gb145, 1, none⟩ = some (.int .i64 a0_1) ∧ w'.cell? ⟨gb145, 2, none⟩ = some (.int .i64 a0_2) ∧ w'.cell? ⟨gb145, 3, none⟩ = some (.int .i64 a0_3) ∧ w'.cell? ⟨gb145, 4, none⟩ = some (.int .i64 a0_4) ∧ w'.cell? ⟨gb145, 5, none⟩ = some (.string a0_5) ∧ w'.cell? ⟨gb145, 6, none⟩ = some (.string a0_6) ∧ w'.cell? ⟨gb145, 7, none⟩ = some (.string a0_7)) ∧ (w'.heap[gb145]? = some (.cells #[.int .i64 a0_0, .int .i64 a0_1, .int .i64 a0_2, .int .i64 a0_3, .int .i64 a0_4, .string a0_5, .string a0_6, .string a0_7] 23 (0, 0))) ∧ (Below w.heap.size w w')) ?_ ?_
              rotate_left
              ·intro hJ7_11_15_19_23_27_31
               refine join_ (σ := Value) 8 #[t_,t_,t_,t_,t_,t_,t_,t_,t_,t_,t_,t_,t_,t_,t_,t_,t_,t_,t_,t_,t_,t_,t_,f_,f_,t_,t_,f_,f_,t_,t_,f_,f_,f_,f_] (fun s_ => [(10, s_), (11, .string (strOfNums y147)), (14, .string t150), (18, .string t151), (22, .string t152), (26, .string t153), (15, .string ((strOfNums y147) ++ t150)), (19, .string (((strOfNums y147) ++ t150) ++ t151)), (23, .string ((((strOfNums y147) ++ t150) ++ t151) ++ t152)), (27, .string (((((strOfNums y147) ++ t150) ++ t151) ++ t152) ++ t153))]) (fun s_ w' => (w'.cell? ⟨gb145, 0, none⟩ = some (.int .i64 a0_0) ∧ w'.cell? ⟨gb145, 1, none⟩ = some (.int .i64 a0_1) ∧ w'.cell? ⟨gb145, 2, none⟩ = some (.int .i64 a0_2) ∧ w'.cell? ⟨gb145, 3, none⟩ = some (.int .i64 a0_3) ∧ w'.cell? ⟨gb145, 4, none⟩ = some (.int .i64 a0_4) ∧ w'.cell? ⟨gb145, 5, none⟩ = some (.string a0_5) ∧ w'.cell? ⟨gb145, 6, none⟩ = some (.string a0_6) ∧ w'.cell? ⟨gb145, 7, none⟩ = some (.string a0_7)) ∧ (Kd.R (Kd.int .u8) 5 w' w.heap.size (fun _ => True) s_ y147) ∧ (w'.heap[gb145]? = some (.cells #[.int .i64 a0_0, .int .i64 a0_1, .int .i64 a0_2, .int .i64 a0_3, .int .i64 a0_4, .string a0_5, .string a0_6, .string a0_7] 23 (0, 0))) ∧ (Below w.heap.size w w')) ?_ ?_
               rotate_left
               ·intro hJ3_4_7_11_15_19
                refine join_ (σ := Value) 12 #[t_,t_,t_,t_,f_,t_,t_,t_,f_,t_,t_,t_,f_,t_,t_,t_,f_,t_,t_,t_,f_,t_,t_,t_,f_,t_,t_,f_,f_,t_,t_,f_,f_,f_,f_] (fun s_ => [(10, s_), (14, .string t150), (18, .string t151), (22, .string t152), (26, .string t153), (30, .string t154)]) (fun s_ w' => (w'.cell? ⟨gb145, 0, none⟩ = some (.int .i64 a0_0) ∧ w'.cell? ⟨gb145, 1, none⟩ = some (.int .i64 a0_1) ∧ w'.cell? ⟨gb145, 2, none⟩ = some (.int .i64 a0_2) ∧ w'.cell? ⟨gb145, 3, none⟩ = some (.int .i64 a0_3) ∧ w'.cell? ⟨gb145, 4, none⟩ = some (.int .i64 a0_4) ∧ w'.cell? ⟨gb145, 5, none⟩ = some (.string a0_5) ∧ w'.cell? ⟨gb145, 6, none⟩ = some (.string a0_6) ∧ w'.cell? ⟨gb145, 7, none⟩ = some (.string a0_7)) ∧ (Kd.R (Kd.int .u8) 5 w' w.heap.size (fun _ => True) s_ y147) ∧ (w'.heap[gb145]? = some (.cells #[.int .i64 a0_0, .int .i64 a0_1, .int .i64 a0_2, .int .i64 a0_3, .int .i64 a0_4, .string a0_5, .string a0_6, .string a0_7] 23 (0, 0))) ∧ (Below w.heap.size w w')) ?_ ?_
                rotate_left
                ·intro hJ3_7_11_15_19_23
                 refine join_ (σ := Unit) 12 #[t_,t_,t_,f_,f_,t_,t_,t_,f_,t_,t_,t_,f_,t_,t_,t_,f_,t_,t_,t_,f_,t_,t_,t_,f_,t_,t_,t_,f_,t_,t_,f_,f_,f_,f_] (fun s_ => [(14, .string t150), (18, .string t151), (22, .string t152), (26, .string t153), (30, .string t154), (34, .string t155)]) (fun s_ w' => (w'.cell? ⟨gb145, 0, none⟩ = some (.int .i64 a0_0) ∧ w'.cell? ⟨gb145, 1, none⟩ = some (.int .i64 a0_1) ∧ w'.cell? ⟨gb145, 2, none⟩ = some (.int .i64 a0_2) ∧ w'.cell? ⟨gb145, 3, none⟩ = some (.int .i64 a0_3) ∧ w'.cell? ⟨gb145, 4, none⟩ = some (.int .i64 a0_4) ∧ w'.cell? ⟨gb145, 5, none⟩ = some (.string a0_5) ∧ w'.cell? ⟨gb145, 6, none⟩ = some (.string a0_6) ∧ w'.cell? ⟨gb145, 7, none⟩ = some (.string a0_7)) ∧ (w'.heap[gb145]? = some (.cells #[.int .i64 a0_0, .int .i64 a0_1, .int .i64 a0_2, .int .i64 a0_3, .int .i64 a0_4, .string a0_5, .string a0_6, .string a0_7] 23 (0, 0))) ∧ (Below w.heap.size w w')) ?_ ?_
                 rotate_left
                 ·intro hJ7_11_15_19_23_27
                  refine join_ (σ := Value) 10 #[t_,t_,t_,t_,t_,t_,t_,t_,t_,t_,t_,t_,t_,t_,t_,t_,t_,t_,t_,f_,f_,t_,t_,f_,f_,t_,t_,f_,f_,t_,t_,f_,f_,f_,f_] (fun s_ => [(10, s_), (11, .string (strOfNums y147)), (14, .string t150), (18, .string t151), (22, .string t152), (15, .string ((strOfNums y147) ++ t150)), (19, .string (((strOfNums y147) ++ t150) ++ t151)), (23, .string ((((strOfNums y147) ++ t150) ++ t151) ++ t152))]) (fun s_ w' => (w'.cell? ⟨gb145, 0, none⟩ = some (.int .i64 a0_0) ∧ w'.cell? ⟨gb145, 1, none⟩ = some (.int .i64 a0_1) ∧ w'.cell? ⟨gb145, 2, none⟩ = some (.int .i64 a0_2) ∧ w'.cell? ⟨gb145, 3, none⟩ = some (.int .i64 a0_3) ∧ w'.cell? ⟨gb145, 4, none⟩ = some (.int .i64 a0_4) ∧ w'.cell? ⟨gb145, 5, none⟩ = some (.string a0_5) ∧ w'.cell? ⟨gb145, 6, none⟩ = some (.string a0_6) ∧ w'.cell? ⟨gb145, 7, none⟩ = some (.string a0_7)) ∧ (Kd.R (Kd.int .u8) 5 w' w.heap.size (fun _ => True) s_ y147) ∧ (w'.heap[gb145]? = some (.cells #[.int .i64 a0_0, .int .i64 a0_1, .int .i64 a0_2, .int .i64 a0_3, .int .i64 a0_4, .string a0_5, .string a0_6, .string a0_7] 23 (0, 0))) ∧ (Below w.heap.size w w')) ?_ ?_
                  rotate_left
                  ·intro hJ3_4_7_11_15
                   refine join_ (σ := Value) 13 #[t_,t_,t_,t_,f_,t_,t_,t_,f_,t_,t_,t_,f_,t_,t_,t_,f_,t_,t_,t_,f_,t_,t_,f_,f_,t_,t_,f_,f_,t_,t_,f_,f_,f_,f_] (fun s_ => [(10, s_), (14, .string t150), (18, .string t151), (22, .string t152), (26, .string t153)]) (fun s_ w' => (w'.cell? ⟨gb145, 0, none⟩ = some (.int .i64 a0_0) ∧ w'.cell? ⟨gb145, 1, none⟩ = some (.int .i64 a0_1) ∧ w'.cell? ⟨gb145, 2, none⟩ = some (.int .i64 a0_2) ∧ w'.cell? ⟨gb145, 3, none⟩ = some (.int .i64 a0_3) ∧ w'.cell? ⟨gb145, 4, none⟩ = some (.int .i64 a0_4) ∧ w'.cell? ⟨gb145, 5, none⟩ = some (.string a0_5) ∧ w'.cell? ⟨gb145, 6, none⟩ = some (.string a0_6) ∧ w'.cell? ⟨gb145, 7, none⟩ = some (.string a0_7)) ∧ (Kd.R (Kd.int .u8) 5 w' w.heap.size (fun _ => True) s_ y147) ∧ (w'.heap[gb145]? = some (.cells #[.int .i64 a0_0, .int .i64 a0_1, .int .i64 a0_2, .int .i64 a0_3, .int .i64 a0_4, .string a0_5, .string a0_6, .string a0_7] 23 (0, 0))) ∧ (Below w.heap.size w w')) ?_ ?_
                   rotate_left
                   ·intro hJ3_7_11_15_19
                    refine join_ (σ := Unit) 13 #[t_,t_,t_,f_,f_,t_,t_,t_,f_,t_,t_,t_,f_,t_,t_,t_,f_,t_,t_,t_,f_,t_,t_,t_,f_,t_,t_,f_,f_,t_,t_,f_,f_,f_,f_] (fun s_ => [(14, .string t150), (18, .string t151), (22, .string t152), (26, .string t153), (30, .string t154)]) (fun s_ w' => (w'.cell? ⟨gb145, 0, none⟩ = some (.int .i64 a0_0) ∧ w'.cell? ⟨gb145, 1, none⟩ = some (.int .i64 a0_1) ∧ w'.cell? ⟨gb145, 2, none⟩ = some (.int .i64 a0_2) ∧ w'.cell? ⟨gb145, 3, none⟩ = some (.int .i64 a0_3) ∧ w'.cell? ⟨gb145, 4, none⟩ = some (.int .i64 a0_4) ∧ w'.cell? ⟨gb145, 5, none⟩ = some (.string a0_5) ∧ w'.cell? ⟨gb145, 6, none⟩ = some (.string a0_6) ∧ w'.cell? ⟨gb145, 7, none⟩ = some (.string a0_7)) ∧ (w'.heap[gb145]? = some (.cells #[.int .i64 a0_0, .int .i64 a0_1, .int .i64 a0_2, .int .i64 a0_3, .int .i64 a0_4, .string a0_5, .string a0_6, .string a0_7] 23 (0, 0))) ∧ (Below w.heap.size w w')) ?_ ?_
                    rotate_left
                    ·intro hJ7_11_15_19_23
                     refine join_ (σ := Value) 12 #[t_,t_,t_,t_,t_,t_,t_,t_,t_,t_,t_,t_,t_,t_,t_,f_,f_,t_,t_,f_,f_,t_,t_,f_,f_,t_,t_,f_,f_,t_,t_,f_,f_,f_,f_] (fun s_ => [(10, s_), (11, .string (strOfNums y147)), (14, .string t150), (18, .string t151), (15, .string ((strOfNums y147) ++ t150)), (19, .string (((strOfNums y147) ++ t150) ++ t151))]) (fun s_ w' => (w'.cell? ⟨gb145, 0, none⟩ = some (.int .i64 a0_0) ∧ w'.cell? ⟨gb145, 1, none⟩ = some (.int .i64 a0_1) ∧ w'.cell? ⟨gb145, 2, none⟩ = some (.int .i64 a0_2) ∧ w'.cell? ⟨gb145, 3, none⟩ = some (.int .i64 a0_3) ∧ w'.cell? ⟨gb145, 4, none⟩ = some (.int .i64 a0_4) ∧ w'.cell? ⟨gb145, 5, none⟩ = some (.string a0_5) ∧ w'.cell? ⟨gb145, 6, none⟩ = some (.string a0_6) ∧ w'.cell? ⟨gb145, 7, none⟩ = some (.string a0_7)) ∧ (Kd.R (Kd.int .u8) 5 w' w.heap.size (fun _ => True) s_ y147) ∧ (w'.heap[gb145]? = some (.cells #[.int .i64 a0_0, .int .i64 a0_1, .int .i64 a0_2, .int .i64 a0_3, .int .i64 a0_4, .string a0_5, .string a0_6, .string a0_7] 23 (0, 0))) ∧ (Below w.heap.size w w')) ?_ ?_
                     rotate_left
                     ·intro hJ3_4_7_11
                      refine join_ (σ := Value) 14 #[t_,t_,t_,t_,f_,t_,t_,t_,f_,t_,t_,t_,f_,t_,t_,t_,f_,t_,t_,f_,f_,t_,t_,f_,f_,t_,t_,f_,f_,t_,t_,f_,f_,f_,f_] (fun s_ => [(10, s_), (14, .string t150), (18, .string t151), (22, .string t152)]) (fun s_ w' => (w'.cell? ⟨gb145, 0, none⟩ = some (.int .i64 a0_0) ∧ w'.cell? ⟨gb145, 1, none⟩ = some (.int .i64 a0_1) ∧ w'.cell? ⟨gb145, 2, none⟩ = some (.int .i64 a0_2) ∧ w'.cell? ⟨gb145, 3, none⟩ = some (.int .i64 a0_3) ∧ w'.cell? ⟨gb145, 4, none⟩ = some (.int .i64 a0_4) ∧ w'.cell? ⟨gb145, 5, none⟩ = some (.string a0_5) ∧ w'.cell? ⟨gb145, 6, none⟩ = some (.string a0_6) ∧ w'.cell? ⟨gb145, 7, none⟩ = some (.string a0_7)) ∧ (Kd.R (Kd.int .u8) 5 w' w.heap.size (fun _ => True) s_ y147) ∧ (w'.heap[gb145]? = some (.cells #[.int .i64 a0_0, .int .i64 a0_1, .int .i64 a0_2, .int .i64 a0_3, .int .i64 a0_4, .string a0_5, .string a0_6, .string a0_7] 23 (0, 0))) ∧ (Below w.heap.size w w')) ?_ ?_
                      rotate_left
                      ·intro hJ3_7_11_15
                       refine join_ (σ := Unit) 14 #[t_,t_,t_,f_,f_,t_,t_,t_,f_,t_,t_,t_,f_,t_,t_,t_,f_,t_,t_,t_,f_,t_,t_,f_,f_,t_,t_,f_,f_,t_,t_,f_,f_,f_,f_] (fun s_ => [(14, .string t150), (18, .string t151), (22, .string t152), (26, .string t153)]) (fun s_ w' => (w'.cell? ⟨gb145, 0, none⟩ = some (.int .i64 a0_0) ∧ w'.cell? ⟨gb145, 1, none⟩ = some (.int .i64 a0_1) ∧ w'.cell? ⟨gb145, 2, none⟩ = some (.int .i64 a0_2) ∧ w'.cell? ⟨gb145, 3, none⟩ = some (.int .i64 a0_3) ∧ w'.cell? ⟨gb145, 4, none⟩ = some (.int .i64 a0_4) ∧ w'.cell? ⟨gb145, 5, none⟩ = some (.string a0_5) ∧ w'.cell? ⟨gb145, 6, none⟩ = some (.string a0_6) ∧ w'.cell? ⟨gb145, 7, none⟩ = some (.string a0_7)) ∧ (w'.heap[gb145]? = some (.cells #[.int .i64 a0_0, .int .i64 a0_1, .int .i64 a0_2, .int .i64 a0_3, .int .i64 a0_4, .string a0_5, .string a0_6, .string a0_7] 23 (0, 0))) ∧ (Below w.heap.size w w')) ?_ ?_
                       rotate_left
                       ·intro hJ7_11_15_19
                        refine join_ (σ := Value) 14 #[t_,t_,t_,t_,t_,t_,t_,t_,t_,t_,t_,f_,f_,t_,t_,f_,f_,t_,t_,f_,f_,t_,t_,f_,f_,t_,t_,f_,f_,t_,t_,f_,f_,f_,f_] (fun s_ => [(10, s_), (11, .string (strOfNums y147)), (14, .string t150), (15, .string ((strOfNums y147) ++ t150))]) (fun s_ w' => (w'.cell? ⟨gb145, 0, none⟩ = some (.int .i64 a0_0) ∧ w'.cell? ⟨gb145, 1, none⟩ = some (.int .i64 a0_1) ∧ w'.cell? ⟨gb145, 2, none⟩ = some (.int .i64 a0_2) ∧ w'.cell? ⟨gb145, 3, none⟩ = some (.int .i64 a0_3) ∧ w'.cell? ⟨gb145, 4, none⟩ = some (.int .i64 a0_4) ∧ w'.cell? ⟨gb145, 5, none⟩ = some (.string a0_5) ∧ w'.cell? ⟨gb145, 6, none⟩ = some (.string a0_6) ∧ w'.cell? ⟨gb145, 7, none⟩ = some (.string a0_7)) ∧ (Kd.R (Kd.int .u8) 5 w' w.heap.size (fun _ => True) s_ y147) ∧ (w'.heap[gb145]? = some (.cells #[.int .i64 a0_0, .int .i64 a0_1, .int .i64 a0_2, .int .i64 a0_3, .int .i64 a0_4, .string a0_5, .string a0_6, .string a0_7] 23 (0, 0))) ∧ (Below w.heap.size w w')) ?_ ?_
                        rotate_left
                        ·intro hJ3_4_7
                         refine join_ (σ := Value) 15 #[t_,t_,t_,t_,f_,t_,t_,t_,f_,t_,t_,t_,f_,t_,t_,f_,f_,t_,t_,f_,f_,t_,t_,f_,f_,t_,t_,f_,f_,t_,t_,f_,f_,f_,f_] (fun s_ => [(10, s_), (14, .string t150), (18, .string t151)]) (fun s_ w' => (w'.cell? ⟨gb145, 0, none⟩ = some (.int .i64 a0_0) ∧ w'.cell? ⟨gb145, 1, none⟩ = some (.int .i64 a0_1) ∧ w'.cell? ⟨gb145, 2, none⟩ = some (.int .i64 a0_2) ∧ w'.cell? ⟨gb145, 3, none⟩ = some (.int .i64 a0_3) ∧ w'.cell? ⟨gb145, 4, none⟩ = some (.int .i64 a0_4) ∧ w'.cell? ⟨gb145, 5, none⟩ = some (.string a0_5) ∧ w'.cell? ⟨gb145, 6, none⟩ = some (.string a0_6) ∧ w'.cell? ⟨gb145, 7, none⟩ = some (.string a0_7)) ∧ (Kd.R (Kd.int .u8) 5 w' w.heap.size (fun _ => True) s_ y147) ∧ (w'.heap[gb145]? = some (.cells #[.int .i64 a0_0, .int .i64 a0_1, .int .i64 a0_2, .int .i64 a0_3, .int .i64 a0_4, .string a0_5, .string a0_6, .string a0_7] 23 (0, 0))) ∧ (Below w.heap.size w w')) ?_ ?_
                         rotate_left
                         ·intro hJ3_7_11
                          refine join_ (σ := Unit) 15 #[t_,t_,t_,f_,f_,t_,t_,t_,f_,t_,t_,t_,f_,t_,t_,t_,f_,t_,t_,f_,f_,t_,t_,f_,f_,t_,t_,f_,f_,t_,t_,f_,f_,f_,f_] (fun s_ => [(14, .string t150), (18, .string t151), (22, .string t152)]) (fun s_ w' => (w'.cell? ⟨gb145, 0, none⟩ = some (.int .i64 a0_0) ∧ w'.cell? ⟨gb145, 1, none⟩ = some (.int .i64 a0_1) ∧ w'.cell? ⟨gb145, 2, none⟩ = some (.int .i64 a0_2) ∧ w'.cell? ⟨gb145, 3, none⟩ = some (.int .i64 a0_3) ∧ w'.cell? ⟨gb145, 4, none⟩ = some (.int .i64 a0_4) ∧ w'.cell? ⟨gb145, 5, none⟩ = some (.string a0_5) ∧ w'.cell? ⟨gb145, 6, none⟩ = some (.string a0_6) ∧ w'.cell? ⟨gb145, 7, none⟩ = some (.string a0_7)) ∧ (w'.heap[gb145]? = some (.cells #[.int .i64 a0_0, .int .i64 a0_1, .int .i64 a0_2, .int .i64 a0_3, .int .i64 a0_4, .string a0_5, .string a0_6, .string a0_7] 23 (0, 0))) ∧ (Below w.heap.size w w')) ?_ ?_
                          rotate_left
                          ·intro hJ7_11_15
                           refine join_ (σ := Value) 16 #[t_,t_,t_,t_,t_,t_,t_,f_,f_,t_,t_,f_,f_,t_,t_,f_,f_,t_,t_,f_,f_,t_,t_,f_,f_,t_,t_,f_,f_,t_,t_,f_,f_,f_,f_] (fun s_ => [(10, s_), (11, .string (strOfNums y147))]) (fun s_ w' => (w'.cell? ⟨gb145, 0, none⟩ = some (.int .i64 a0_0) ∧ w'.cell? ⟨gb145, 1, none⟩ = some (.int .i64 a0_1) ∧ w'.cell? ⟨gb145, 2, none⟩ = some (.int .i64 a0_2) ∧ w'.cell? ⟨gb145, 3, none⟩ = some (.int .i64 a0_3) ∧ w'.cell? ⟨gb145, 4, none⟩ = some (.int .i64 a0_4) ∧ w'.cell? ⟨gb145, 5, none⟩ = some (.string a0_5) ∧ w'.cell? ⟨gb145, 6, none⟩ = some (.string a0_6) ∧ w'.cell? ⟨gb145, 7, none⟩ = some (.string a0_7)) ∧ (Kd.R (Kd.int .u8) 5 w' w.heap.size (fun _ => True) s_ y147) ∧ (w'.heap[gb145]? = some (.cells #[.int .i64 a0_0, .int .i64 a0_1, .int .i64 a0_2, .int .i64 a0_3, .int .i64 a0_4, .string a0_5, .string a0_6, .string a0_7] 23 (0, 0))) ∧ (Below w.heap.size w w')) ?_ ?_
                           rotate_left
                           ·intro hJ3_4
                            refine join_ (σ := Value) 16 #[t_,t_,t_,t_,f_,t_,t_,t_,f_,t_,t_,f_,f_,t_,t_,f_,f_,t_,t_,f_,f_,t_,t_,f_,f_,t_,t_,f_,f_,t_,t_,f_,f_,f_,f_] (fun s_ => [(10, s_), (14, .string t150)]) (fun s_ w' => (w'.cell? ⟨gb145, 0, none⟩ = some (.int .i64 a0_0) ∧ w'.cell? ⟨gb145, 1, none⟩ = some (.int .i64 a0_1) ∧ w'.cell? ⟨gb145, 2, none⟩ = some (.int .i64 a0_2) ∧ w'.cell? ⟨gb145, 3, none⟩ = some (.int .i64 a0_3) ∧ w'.cell? ⟨gb145, 4, none⟩ = some (.int .i64 a0_4) ∧ w'.cell? ⟨gb145, 5, none⟩ = some (.string a0_5) ∧ w'.cell? ⟨gb145, 6, none⟩ = some (.string a0_6) ∧ w'.cell? ⟨gb145, 7, none⟩ = some (.string a0_7)) ∧ (Kd.R (Kd.int .u8) 5 w' w.heap.size (fun _ => True) s_ y147) ∧ (w'.heap[gb145]? = some (.cells #[.int .i64 a0_0, .int .i64 a0_1, .int .i64 a0_2, .int .i64 a0_3, .int .i64 a0_4, .string a0_5, .string a0_6, .string a0_7] 23 (0, 0))) ∧ (Below w.heap.size w w')) ?_ ?_
                            rotate_left
                            ·intro hJ3_7
                             refine join_ (σ := Unit) 16 #[t_,t_,t_,f_,f_,t_,t_,t_,f_,t_,t_,t_,f_,t_,t_,f_,f_,t_,t_,f_,f_,t_,t_,f_,f_,t_,t_,f_,f_,t_,t_,f_,f_,f_,f_] (fun s_ => [(14, .string t150), (18, .string t151)]) (fun s_ w' => (w'.cell? ⟨gb145, 0, none⟩ = some (.int .i64 a0_0) ∧ w'.cell? ⟨gb145, 1, none⟩ = some (.int .i64 a0_1) ∧ w'.cell? ⟨gb145, 2, none⟩ = some (.int .i64 a0_2) ∧ w'.cell? ⟨gb145, 3, none⟩ = some (.int .i64 a0_3) ∧ w'.cell? ⟨gb145, 4, none⟩ = some (.int .i64 a0_4) ∧ w'.cell? ⟨gb145, 5, none⟩ = some (.string a0_5) ∧ w'.cell? ⟨gb145, 6, none⟩ = some (.string a0_6) ∧ w'.cell? ⟨gb145, 7, none⟩ = some (.string a0_7)) ∧ (w'.heap[gb145]? = some (.cells #[.int .i64 a0_0, .int .i64 a0_1, .int .i64 a0_2, .int .i64 a0_3, .int .i64 a0_4, .string a0_5, .string a0_6, .string a0_7] 23 (0, 0))) ∧ (Below w.heap.size w w')) ?_ ?_
                             rotate_left
                             ·intro hJ7_11
                              refine join_ (σ := Value) 17 #[t_,t_,t_,t_,f_,t_,t_,f_,f_,t_,t_,f_,f_,t_,t_,f_,f_,t_,t_,f_,f_,t_,t_,f_,f_,t_,t_,f_,f_,t_,t_,f_,f_,f_,f_] (fun s_ => [(10, s_)]) (fun s_ w' => (w'.cell? ⟨gb145, 0, none⟩ = some (.int .i64 a0_0) ∧ w'.cell? ⟨gb145, 1, none⟩ = some (.int .i64 a0_1) ∧ w'.cell? ⟨gb145, 2, none⟩ = some (.int .i64 a0_2) ∧ w'.cell? ⟨gb145, 3, none⟩ = some (.int .i64 a0_3) ∧ w'.cell? ⟨gb145, 4, none⟩ = some (.int .i64 a0_4) ∧ w'.cell? ⟨gb145, 5, none⟩ = some (.string a0_5) ∧ w'.cell? ⟨gb145, 6, none⟩ = some (.string a0_6) ∧ w'.cell? ⟨gb145, 7, none⟩ = some (.string a0_7)) ∧ (Kd.R (Kd.int .u8) 5 w' w.heap.size (fun _ => True) s_ y147) ∧ (w'.heap[gb145]? = some (.cells #[.int .i64 a0_0, .int .i64 a0_1, .int .i64 a0_2, .int .i64 a0_3, .int .i64 a0_4, .string a0_5, .string a0_6, .string a0_7] 23 (0, 0))) ∧ (Below w.heap.size w w')) ?_ ?_
                              rotate_left
                              ·intro hJ3
                               refine join_ (σ := Unit) 17 #[t_,t_,t_,f_,f_,t_,t_,t_,f_,t_,t_,f_,f_,t_,t_,f_,f_,t_,t_,f_,f_,t_,t_,f_,f_,t_,t_,f_,f_,t_,t_,f_,f_,f_,f_] (fun s_ => [(14, .string t150)]) (fun s_ w' => (w'.cell? ⟨gb145, 0, none⟩ = some (.int .i64 a0_0) ∧ w'.cell? ⟨gb145, 1, none⟩ = some (.int .i64 a0_1) ∧ w'.cell? ⟨gb145, 2, none⟩ = some (.int .i64 a0_2) ∧ w'.cell? ⟨gb145, 3, none⟩ = some (.int .i64 a0_3) ∧ w'.cell? ⟨gb145, 4, none⟩ = some (.int .i64 a0_4) ∧ w'.cell? ⟨gb145, 5, none⟩ = some (.string a0_5) ∧ w'.cell? ⟨gb145, 6, none⟩ = some (.string a0_6) ∧ w'.cell? ⟨gb145, 7, none⟩ = some (.string a0_7)) ∧ (w'.heap[gb145]? = some (.cells #[.int .i64 a0_0, .int .i64 a0_1, .int .i64 a0_2, .int .i64 a0_3, .int .i64 a0_4, .string a0_5, .string a0_6, .string a0_7] 23 (0, 0))) ∧ (Below w.heap.size w w')) ?_ ?_
                               rotate_left
                               ·intro hJ7
                                refine two_ (i := 3) (j := 7) (Ni := some 10) (Nj := some 14) #[t_,t_,t_,t_,f_,t_,t_,f_,f_,t_,t_,f_,f_,t_,t_,f_,f_,t_,t_,f_,f_,t_,t_,f_,f_,t_,t_,f_,f_,t_,t_,f_,f_,f_,f_] #[t_,t_,t_,f_,f_,t_,t_,t_,f_,t_,t_,f_,f_,t_,t_,f_,f_,t_,t_,f_,f_,t_,t_,f_,f_,t_,t_,f_,f_,t_,t_,f_,f_,f_,f_] rfl rfl rfl rfl (two_of HT_.out (by kernel_rfl)) (by decide) (by decide) (fun K hK => ?_) (fun K hK => ?_)
                                ·skip
                                 refine Kd.R_lit_step (Kd.int .u8) _ 5 ?hg (N := 10) ?hd (xs := ([(a0_0) % 256] : List Int)) (inner := [.int .u8 ((a0_0) % 256)]) (ok := fun _ => True) (okp := fun _ => True) ?hr ?hp (fun _ hk => hk) trivial (Below.refl _ _) (Nat.le_refl _) (by simp) ?_; (case hd => rfl); (case hg => rfl); (case hr => first | (go_simp; done) | (go_simp; rfl)); (case hp => exact (Reps.one (show Kd.M (Kd.int .u8) _ _ _ ((a0_0) % 256) [.int .u8 ((a0_0) % 256)] from rfl) (Reps.none _ _)))
                                 intro v148 w22 ho23 hb hg_ hnew_
                                 clear hg_ hnew_
                                 (first | rw [← Ny147.out] at ho23 | (simp only [Int.reduceToNat] at ho23; rw [← Ny147.out] at ho23))
                                 replace HO149 := ak (Kd.R_lower ho23 (below_size (lT HB (gC GE145 gN))))
                                 replace BK145 := bB BK145 hb
                                 replace HB := ak (below_step (lT HB (gC GE145 gN)) hb)
                                 clear hb ho23
                                 refine hK.out _ _ ⟨bc BK145 0, bc BK145 1, bc BK145 2, bc BK145 3, bc BK145 4, bc BK145 5, bc BK145 6, bc BK145 7⟩ (fun hHeld => ?_)
                                 clear hK K
                                 refine nm ?_
                                 exact norm_ (by first | (simp only [putAll, Act.put, List.setIfInBounds_toArray, List.set_cons_zero, List.set_cons_succ]; done) | (simp only [putAll, Act.put, List.setIfInBounds_toArray, List.set_cons_zero, List.set_cons_succ]; rfl)) (hJ3 (v148) _ ⟨hHeld, (rG HO149), (bG BK145), (lT HB (gC GE145 gN))⟩)
                                ·skip
                                 refine goes_ Try.func94 (by kernel_rfl) rfl #[.int .i64 a0_1] (by rfl) rfl rfl (by (try simp only [List.map_toArray, List.map_cons, List.map_nil]); first | done | rfl | (simp only [List.length_drop, List.length_take]; rfl)) ?_
                                 with_reducible refine (spec_l01Var.calls k a0_1 t150 _ A4.out).mono ?_
                                 rintro e w22 ⟨rfl, hb⟩
                                 refine ⟨_, rfl, ?_⟩
                                 replace BK145 := bB BK145 hb
                                 replace HB := ak (below_step (lT HB (gC GE145 gN)) hb)
                                 (try clear hb)
                                 (try clear hb2)
                                 (try clear hk)
                                 (try clear hi)
                                 refine hK.out _ _ ⟨bc BK145 0, bc BK145 1, bc BK145 2, bc BK145 3, bc BK145 4, bc BK145 5, bc BK145 6, bc BK145 7⟩ (fun hHeld => ?_)
                                 clear hK K
                                 refine nm ?_
                                 exact norm_ (by first | (simp only [putAll, Act.put, List.setIfInBounds_toArray, List.set_cons_zero, List.set_cons_succ]; done) | (simp only [putAll, Act.put, List.setIfInBounds_toArray, List.set_cons_zero, List.set_cons_succ]; rfl)) (hJ7 () _ ⟨hHeld, (bG BK145), (lT HB (gC GE145 gN))⟩)
                               ·skip
                                rintro _ w23 ⟨hS_, h0_, h1_⟩
                                have n0_ : Aside0 (w23.heap[gb145]? = some (.cells #[.int .i64 a0_0, .int .i64 a0_1, .int .i64 a0_2, .int .i64 a0_3, .int .i64 a0_4, .string a0_5, .string a0_6, .string a0_7] 23 (0, 0))) := ⟨h0_⟩
                                have n1_ : Aside0 (Below w.heap.size w w23) := ⟨h1_⟩
                                clear BK145
                                clear HB
                                clear h0_ h1_
                                have BK145 := n0_
                                have HB := n1_
                                clear n0_ n1_
                                have hHeld : w23.cell? ⟨gb145, 0, none⟩ = some (.int .i64 a0_0) ∧ w23.cell? ⟨gb145, 1, none⟩ = some (.int .i64 a0_1) ∧ w23.cell? ⟨gb145, 2, none⟩ = some (.int .i64 a0_2) ∧ w23.cell? ⟨gb145, 3, none⟩ = some (.int .i64 a0_3) ∧ w23.cell? ⟨gb145, 4, none⟩ = some (.int .i64 a0_4) ∧ w23.cell? ⟨gb145, 5, none⟩ = some (.string a0_5) ∧ w23.cell? ⟨gb145, 6, none⟩ = some (.string a0_6) ∧ w23.cell? ⟨gb145, 7, none⟩ = some (.string a0_7) := hS_
                                refine norm_ (a' := ?_) ?_ ?_
                                rotate_left
                                ·simp only [putAll, Act.put, List.setIfInBounds_toArray, List.set_cons_zero, List.set_cons_succ]
                                 rfl
                                refine two_ (i := 3) (j := 11) (Ni := some 10) (Nj := some 18) #[t_,t_,t_,t_,f_,t_,t_,t_,f_,t_,t_,f_,f_,t_,t_,f_,f_,t_,t_,f_,f_,t_,t_,f_,f_,t_,t_,f_,f_,t_,t_,f_,f_,f_,f_] #[t_,t_,t_,f_,f_,t_,t_,t_,f_,t_,t_,t_,f_,t_,t_,f_,f_,t_,t_,f_,f_,t_,t_,f_,f_,t_,t_,f_,f_,t_,t_,f_,f_,f_,f_] rfl rfl rfl rfl (two_of HT_.out (by kernel_rfl)) (by decide) (by decide) (fun K hK => ?_) (fun K hK => ?_)
                                ·skip
                                 refine Kd.R_lit_step (Kd.int .u8) _ 5 ?hg (N := 10) ?hd (xs := ([(a0_0) % 256] : List Int)) (inner := [.int .u8 ((a0_0) % 256)]) (ok := fun _ => True) (okp := fun _ => True) ?hr ?hp (fun _ hk => hk) trivial (Below.refl _ _) (Nat.le_refl _) (by simp) ?_; (case hd => rfl); (case hg => rfl); (case hr => first | (go_simp; done) | (go_simp; rfl)); (case hp => exact (Reps.one (show Kd.M (Kd.int .u8) _ _ _ ((a0_0) % 256) [.int .u8 ((a0_0) % 256)] from rfl) (Reps.none _ _)))
                                 intro v148 w24 ho25 hb hg_ hnew_
                                 clear hg_ hnew_
                                 (first | rw [← Ny147.out] at ho25 | (simp only [Int.reduceToNat] at ho25; rw [← Ny147.out] at ho25))
                                 replace HO149 := ak (Kd.R_lower ho25 (below_size (lT HB (gC GE145 gN))))
                                 replace BK145 := bB BK145 hb
                                 replace HB := ak (below_step (lT HB (gC GE145 gN)) hb)
                                 clear hb ho25
                                 refine hK.out _ _ ⟨bc BK145 0, bc BK145 1, bc BK145 2, bc BK145 3, bc BK145 4, bc BK145 5, bc BK145 6, bc BK145 7⟩ (fun hHeld => ?_)
                                 clear hK K
                                 refine nm ?_
                                 exact norm_ (by first | (simp only [putAll, Act.put, List.setIfInBounds_toArray, List.set_cons_zero, List.set_cons_succ]; done) | (simp only [putAll, Act.put, List.setIfInBounds_toArray, List.set_cons_zero, List.set_cons_succ]; rfl)) (hJ3_7 (v148) _ ⟨hHeld, (rG HO149), (bG BK145), (lT HB (gC GE145 gN))⟩)
                                ·skip
                                 refine goes_ Try.func94 (by kernel_rfl) rfl #[.int .i64 a0_2] (by rfl) rfl rfl (by (try simp only [List.map_toArray, List.map_cons, List.map_nil]); first | done | rfl | (simp only [List.length_drop, List.length_take]; rfl)) ?_
                                 with_reducible refine (spec_l01Var.calls k a0_2 t151 _ A6.out).mono ?_
                                 rintro e w24 ⟨rfl, hb⟩
                                 refine ⟨_, rfl, ?_⟩
                                 replace BK145 := bB BK145 hb
                                 replace HB := ak (below_step (lT HB (gC GE145 gN)) hb)
                                 (try clear hb)
                                 (try clear hb2)
                                 (try clear hk)
                                 (try clear hi)
                                 refine hK.out _ _ ⟨bc BK145 0, bc BK145 1, bc BK145 2, bc BK145 3, bc BK145 4, bc BK145 5, bc BK145 6, bc BK145 7⟩ (fun hHeld => ?_)
                                 clear hK K
                                 refine nm ?_
                                 exact norm_ (by first | (simp only [putAll, Act.put, List.setIfInBounds_toArray, List.set_cons_zero, List.set_cons_succ]; done) | (simp only [putAll, Act.put, List.setIfInBounds_toArray, List.set_cons_zero, List.set_cons_succ]; rfl)) (hJ7_11 () _ ⟨hHeld, (bG BK145), (lT HB (gC GE145 gN))⟩)
                              ·skip
                               rintro v148 w24 ⟨hS_, h0_, h1_, h2_⟩
                               have n0_ : Aside0 (Kd.R (Kd.int .u8) 5 w24 w.heap.size (fun _ => True) v148 y147) := ⟨h0_⟩
                               have n1_ : Aside0 (w24.heap[gb145]? = some (.cells #[.int .i64 a0_0, .int .i64 a0_1, .int .i64 a0_2, .int .i64 a0_3, .int .i64 a0_4, .string a0_5, .string a0_6, .string a0_7] 23 (0, 0))) := ⟨h1_⟩
                               have n2_ : Aside0 (Below w.heap.size w w24) := ⟨h2_⟩
                               clear BK145
                               clear HB
                               clear h0_ h1_ h2_
                               have HO149 := n0_
                               have BK145 := n1_
                               have HB := n2_
                               clear n0_ n1_ n2_
                               have hHeld : w24.cell? ⟨gb145, 0, none⟩ = some (.int .i64 a0_0) ∧ w24.cell? ⟨gb145, 1, none⟩ = some (.int .i64 a0_1) ∧ w24.cell? ⟨gb145, 2, none⟩ = some (.int .i64 a0_2) ∧ w24.cell? ⟨gb145, 3, none⟩ = some (.int .i64 a0_3) ∧ w24.cell? ⟨gb145, 4, none⟩ = some (.int .i64 a0_4) ∧ w24.cell? ⟨gb145, 5, none⟩ = some (.string a0_5) ∧ w24.cell? ⟨gb145, 6, none⟩ = some (.string a0_6) ∧ w24.cell? ⟨gb145, 7, none⟩ = some (.string a0_7) := hS_
                               refine norm_ (a' := ?_) ?_ ?_
                               rotate_left
                               ·simp only [putAll, Act.put, List.setIfInBounds_toArray, List.set_cons_zero, List.set_cons_succ]
                                rfl
                               refine two_ (i := 4) (j := 7) (Ni := some 11) (Nj := some 14) #[t_,t_,t_,t_,t_,t_,t_,f_,f_,t_,t_,f_,f_,t_,t_,f_,f_,t_,t_,f_,f_,t_,t_,f_,f_,t_,t_,f_,f_,t_,t_,f_,f_,f_,f_] #[t_,t_,t_,t_,f_,t_,t_,t_,f_,t_,t_,f_,f_,t_,t_,f_,f_,t_,t_,f_,f_,t_,t_,f_,f_,t_,t_,f_,f_,t_,t_,f_,f_,f_,f_] rfl rfl rfl rfl (two_of HT_.out (by kernel_rfl)) (by decide) (by decide) (fun K hK => ?_) (fun K hK => ?_)
                               ·skip
                                have hcv25 := own_string (P := Try.prog) Try.underlying46 Try.underlying5 Try.underlying9 (Kd.own_of_R HO149.out)
                                refine value_ (w1 := ?_) (v := ?_) (by rfl) rfl ?_ ?_
                                rotate_left 2
                                ·go_simp
                                 constructor
                                 ·rfl
                                 ·rfl
                                clear hcv25
                                refine hK.out _ _ ⟨bc BK145 0, bc BK145 1, bc BK145 2, bc BK145 3, bc BK145 4, bc BK145 5, bc BK145 6, bc BK145 7⟩ (fun hHeld => ?_)
                                clear hK K
                                refine nm ?_
                                exact norm_ (by first | (simp only [putAll, Act.put, List.setIfInBounds_toArray, List.set_cons_zero, List.set_cons_succ]; done) | (simp only [putAll, Act.put, List.setIfInBounds_toArray, List.set_cons_zero, List.set_cons_succ]; rfl)) (hJ3_4 (v148) _ ⟨hHeld, (rG HO149), (bG BK145), (lT HB (gC GE145 gN))⟩)
                               ·skip
                                refine goes_ Try.func94 (by kernel_rfl) rfl #[.int .i64 a0_1] (by rfl) rfl rfl (by (try simp only [List.map_toArray, List.map_cons, List.map_nil]); first | done | rfl | (simp only [List.length_drop, List.length_take]; rfl)) ?_
                                with_reducible refine (spec_l01Var.calls k a0_1 t150 _ A4.out).mono ?_
                                rintro e w25 ⟨rfl, hb⟩
                                refine ⟨_, rfl, ?_⟩
                                replace HO149 := rB HO149 hb
                                replace BK145 := bB BK145 hb
                                replace HB := ak (below_step (lT HB (gC GE145 gN)) hb)
                                (try clear hb)
                                (try clear hb2)
                                (try clear hk)
                                (try clear hi)
                                refine hK.out _ _ ⟨bc BK145 0, bc BK145 1, bc BK145 2, bc BK145 3, bc BK145 4, bc BK145 5, bc BK145 6, bc BK145 7⟩ (fun hHeld => ?_)
                                clear hK K
                                refine nm ?_
                                exact norm_ (by first | (simp only [putAll, Act.put, List.setIfInBounds_toArray, List.set_cons_zero, List.set_cons_succ]; done) | (simp only [putAll, Act.put, List.setIfInBounds_toArray, List.set_cons_zero, List.set_cons_succ]; rfl)) (hJ3_7 (v148) _ ⟨hHeld, (rG HO149), (bG BK145), (lT HB (gC GE145 gN))⟩)
                             ·skip
                              rintro _ w24 ⟨hS_, h0_, h1_⟩
                              have n0_ : Aside0 (w24.heap[gb145]? = some (.cells #[.int .i64 a0_0, .int .i64 a0_1, .int .i64 a0_2, .int .i64 a0_3, .int .i64 a0_4, .string a0_5, .string a0_6, .string a0_7] 23 (0, 0))) := ⟨h0_⟩
                              have n1_ : Aside0 (Below w.heap.size w w24) := ⟨h1_⟩
                              clear BK145
                              clear HB
                              clear h0_ h1_
                              have BK145 := n0_
                              have HB := n1_
                              clear n0_ n1_
                              have hHeld : w24.cell? ⟨gb145, 0, none⟩ = some (.int .i64 a0_0) ∧ w24.cell? ⟨gb145, 1, none⟩ = some (.int .i64 a0_1) ∧ w24.cell? ⟨gb145, 2, none⟩ = some (.int .i64 a0_2) ∧ w24.cell? ⟨gb145, 3, none⟩ = some (.int .i64 a0_3) ∧ w24.cell? ⟨gb145, 4, none⟩ = some (.int .i64 a0_4) ∧ w24.cell? ⟨gb145, 5, none⟩ = some (.string a0_5) ∧ w24.cell? ⟨gb145, 6, none⟩ = some (.string a0_6) ∧ w24.cell? ⟨gb145, 7, none⟩ = some (.string a0_7) := hS_
                              refine norm_ (a' := ?_) ?_ ?_
                              rotate_left
                              ·simp only [putAll, Act.put, List.setIfInBounds_toArray, List.set_cons_zero, List.set_cons_succ]
                               rfl
                              refine two_ (i := 3) (j := 15) (Ni := some 10) (Nj := some 22) #[t_,t_,t_,t_,f_,t_,t_,t_,f_,t_,t_,t_,f_,t_,t_,f_,f_,t_,t_,f_,f_,t_,t_,f_,f_,t_,t_,f_,f_,t_,t_,f_,f_,f_,f_] #[t_,t_,t_,f_,f_,t_,t_,t_,f_,t_,t_,t_,f_,t_,t_,t_,f_,t_,t_,f_,f_,t_,t_,f_,f_,t_,t_,f_,f_,t_,t_,f_,f_,f_,f_] rfl rfl rfl rfl (two_of HT_.out (by kernel_rfl)) (by decide) (by decide) (fun K hK => ?_) (fun K hK => ?_)
                              ·skip
                               refine Kd.R_lit_step (Kd.int .u8) _ 5 ?hg (N := 10) ?hd (xs := ([(a0_0) % 256] : List Int)) (inner := [.int .u8 ((a0_0) % 256)]) (ok := fun _ => True) (okp := fun _ => True) ?hr ?hp (fun _ hk => hk) trivial (Below.refl _ _) (Nat.le_refl _) (by simp) ?_; (case hd => rfl); (case hg => rfl); (case hr => first | (go_simp; done) | (go_simp; rfl)); (case hp => exact (Reps.one (show Kd.M (Kd.int .u8) _ _ _ ((a0_0) % 256) [.int .u8 ((a0_0) % 256)] from rfl) (Reps.none _ _)))
                               intro v148 w25 ho26 hb hg_ hnew_
                               clear hg_ hnew_
                               (first | rw [← Ny147.out] at ho26 | (simp only [Int.reduceToNat] at ho26; rw [← Ny147.out] at ho26))
                               replace HO149 := ak (Kd.R_lower ho26 (below_size (lT HB (gC GE145 gN))))
                               replace BK145 := bB BK145 hb
                               replace HB := ak (below_step (lT HB (gC GE145 gN)) hb)
                               clear hb ho26
                               refine hK.out _ _ ⟨bc BK145 0, bc BK145 1, bc BK145 2, bc BK145 3, bc BK145 4, bc BK145 5, bc BK145 6, bc BK145 7⟩ (fun hHeld => ?_)
                               clear hK K
                               refine nm ?_
                               exact norm_ (by first | (simp only [putAll, Act.put, List.setIfInBounds_toArray, List.set_cons_zero, List.set_cons_succ]; done) | (simp only [putAll, Act.put, List.setIfInBounds_toArray, List.set_cons_zero, List.set_cons_succ]; rfl)) (hJ3_7_11 (v148) _ ⟨hHeld, (rG HO149), (bG BK145), (lT HB (gC GE145 gN))⟩)
                              ·skip
                               refine goes_ Try.func94 (by kernel_rfl) rfl #[.int .i64 a0_3] (by rfl) rfl rfl (by (try simp only [List.map_toArray, List.map_cons, List.map_nil]); first | done | rfl | (simp only [List.length_drop, List.length_take]; rfl)) ?_
                               with_reducible refine (spec_l01Var.calls k a0_3 t152 _ A8.out).mono ?_
                               rintro e w25 ⟨rfl, hb⟩
                               refine ⟨_, rfl, ?_⟩
                               replace BK145 := bB BK145 hb
                               replace HB := ak (below_step (lT HB (gC GE145 gN)) hb)
                               (try clear hb)
                               (try clear hb2)
                               (try clear hk)
                               (try clear hi)
                               refine hK.out _ _ ⟨bc BK145 0, bc BK145 1, bc BK145 2, bc BK145 3, bc BK145 4, bc BK145 5, bc BK145 6, bc BK145 7⟩ (fun hHeld => ?_)
                               clear hK K
                               refine nm ?_
                               exact norm_ (by first | (simp only [putAll, Act.put, List.setIfInBounds_toArray, List.set_cons_zero, List.set_cons_succ]; done) | (simp only [putAll, Act.put, List.setIfInBounds_toArray, List.set_cons_zero, List.set_cons_succ]; rfl)) (hJ7_11_15 () _ ⟨hHeld, (bG BK145), (lT HB (gC GE145 gN))⟩)
                            ·skip
                             rintro v148 w25 ⟨hS_, h0_, h1_, h2_⟩
                             have n0_ : Aside0 (Kd.R (Kd.int .u8) 5 w25 w.heap.size (fun _ => True) v148 y147) := ⟨h0_⟩
                             have n1_ : Aside0 (w25.heap[gb145]? = some (.cells #[.int .i64 a0_0, .int .i64 a0_1, .int .i64 a0_2, .int .i64 a0_3, .int .i64 a0_4, .string a0_5, .string a0_6, .string a0_7] 23 (0, 0))) := ⟨h1_⟩
                             have n2_ : Aside0 (Below w.heap.size w w25) := ⟨h2_⟩
                             clear BK145
                             clear HB
                             clear h0_ h1_ h2_
                             have HO149 := n0_
                             have BK145 := n1_
                             have HB := n2_
                             clear n0_ n1_ n2_
                             have hHeld : w25.cell? ⟨gb145, 0, none⟩ = some (.int .i64 a0_0) ∧ w25.cell? ⟨gb145, 1, none⟩ = some (.int .i64 a0_1) ∧ w25.cell? ⟨gb145, 2, none⟩ = some (.int .i64 a0_2) ∧ w25.cell? ⟨gb145, 3, none⟩ = some (.int .i64 a0_3) ∧ w25.cell? ⟨gb145, 4, none⟩ = some (.int .i64 a0_4) ∧ w25.cell? ⟨gb145, 5, none⟩ = some (.string a0_5) ∧ w25.cell? ⟨gb145, 6, none⟩ = some (.string a0_6) ∧ w25.cell? ⟨gb145, 7, none⟩ = some (.string a0_7) := hS_
                             refine norm_ (a' := ?_) ?_ ?_
                             rotate_left
                             ·simp only [putAll, Act.put, List.setIfInBounds_toArray, List.set_cons_zero, List.set_cons_succ]
                              rfl
                             refine two_ (i := 4) (j := 11) (Ni := some 11) (Nj := some 18) #[t_,t_,t_,t_,t_,t_,t_,t_,f_,t_,t_,f_,f_,t_,t_,f_,f_,t_,t_,f_,f_,t_,t_,f_,f_,t_,t_,f_,f_,t_,t_,f_,f_,f_,f_] #[t_,t_,t_,t_,f_,t_,t_,t_,f_,t_,t_,t_,f_,t_,t_,f_,f_,t_,t_,f_,f_,t_,t_,f_,f_,t_,t_,f_,f_,t_,t_,f_,f_,f_,f_] rfl rfl rfl rfl (two_of HT_.out (by kernel_rfl)) (by decide) (by decide) (fun K hK => ?_) (fun K hK => ?_)
                             ·skip
                              have hcv26 := own_string (P := Try.prog) Try.underlying46 Try.underlying5 Try.underlying9 (Kd.own_of_R HO149.out)
                              refine value_ (w1 := ?_) (v := ?_) (by rfl) rfl ?_ ?_
                              rotate_left 2
                              ·go_simp
                               constructor
                               ·rfl
                               ·rfl
                              clear hcv26
                              refine hK.out _ _ ⟨bc BK145 0, bc BK145 1, bc BK145 2, bc BK145 3, bc BK145 4, bc BK145 5, bc BK145 6, bc BK145 7⟩ (fun hHeld => ?_)
                              clear hK K
                              refine nm ?_
                              refine pu 8 15 (fb 35 1717987327) HT_ ?_
                              exact norm_ (by first | (simp only [putAll, Act.put, List.setIfInBounds_toArray, List.set_cons_zero, List.set_cons_succ]; done) | (simp only [putAll, Act.put, List.setIfInBounds_toArray, List.set_cons_zero, List.set_cons_succ]; rfl)) (hJ3_4_7 (v148) _ ⟨hHeld, (rG HO149), (bG BK145), (lT HB (gC GE145 gN))⟩)
                             ·skip
                              refine goes_ Try.func94 (by kernel_rfl) rfl #[.int .i64 a0_2] (by rfl) rfl rfl (by (try simp only [List.map_toArray, List.map_cons, List.map_nil]); first | done | rfl | (simp only [List.length_drop, List.length_take]; rfl)) ?_
                              with_reducible refine (spec_l01Var.calls k a0_2 t151 _ A6.out).mono ?_
                              rintro e w26 ⟨rfl, hb⟩
                              refine ⟨_, rfl, ?_⟩
                              replace HO149 := rB HO149 hb
                              replace BK145 := bB BK145 hb
                              replace HB := ak (below_step (lT HB (gC GE145 gN)) hb)
                              (try clear hb)
                              (try clear hb2)
                              (try clear hk)
                              (try clear hi)
                              refine hK.out _ _ ⟨bc BK145 0, bc BK145 1, bc BK145 2, bc BK145 3, bc BK145 4, bc BK145 5, bc BK145 6, bc BK145 7⟩ (fun hHeld => ?_)
                              clear hK K
                              refine nm ?_
                              exact norm_ (by first | (simp only [putAll, Act.put, List.setIfInBounds_toArray, List.set_cons_zero, List.set_cons_succ]; done) | (simp only [putAll, Act.put, List.setIfInBounds_toArray, List.set_cons_zero, List.set_cons_succ]; rfl)) (hJ3_7_11 (v148) _ ⟨hHeld, (rG HO149), (bG BK145), (lT HB (gC GE145 gN))⟩)
                           ·skip
                            rintro v148 w25 ⟨hS_, h0_, h1_, h2_⟩
                            have n0_ : Aside0 (Kd.R (Kd.int .u8) 5 w25 w.heap.size (fun _ => True) v148 y147) := ⟨h0_⟩
                            have n1_ : Aside0 (w25.heap[gb145]? = some (.cells #[.int .i64 a0_0, .int .i64 a0_1, .int .i64 a0_2, .int .i64 a0_3, .int .i64 a0_4, .string a0_5, .string a0_6, .string a0_7] 23 (0, 0))) := ⟨h1_⟩
                            have n2_ : Aside0 (Below w.heap.size w w25) := ⟨h2_⟩
                            clear BK145
                            clear HB
                            clear h0_ h1_ h2_
                            have HO149 := n0_
                            have BK145 := n1_
                            have HB := n2_
                            clear n0_ n1_ n2_
                            have hHeld : w25.cell? ⟨gb145, 0, none⟩ = some (.int .i64 a0_0) ∧ w25.cell? ⟨gb145, 1, none⟩ = some (.int .i64 a0_1) ∧ w25.cell? ⟨gb145, 2, none⟩ = some (.int .i64 a0_2) ∧ w25.cell? ⟨gb145, 3, none⟩ = some (.int .i64 a0_3) ∧ w25.cell? ⟨gb145, 4, none⟩ = some (.int .i64 a0_4) ∧ w25.cell? ⟨gb145, 5, none⟩ = some (.string a0_5) ∧ w25.cell? ⟨gb145, 6, none⟩ = some (.string a0_6) ∧ w25.cell? ⟨gb145, 7, none⟩ = some (.string a0_7) := hS_
                            refine norm_ (a' := ?_) ?_ ?_
                            rotate_left
                            ·simp only [putAll, Act.put, List.setIfInBounds_toArray, List.set_cons_zero, List.set_cons_succ]
                             rfl
                            refine on 7 (some 14) (fb 35 1717987071) HT_ (fun K hK => ?_)
                            refine goes_ Try.func94 (by kernel_rfl) rfl #[.int .i64 a0_1] (by rfl) rfl rfl (by (try simp only [List.map_toArray, List.map_cons, List.map_nil]); first | done | rfl | (simp only [List.length_drop, List.length_take]; rfl)) ?_
                            with_reducible refine (spec_l01Var.calls k a0_1 t150 _ A4.out).mono ?_
                            rintro e w26 ⟨rfl, hb⟩
                            refine ⟨_, rfl, ?_⟩
                            replace HO149 := rB HO149 hb
                            replace BK145 := bB BK145 hb
                            replace HB := ak (below_step (lT HB (gC GE145 gN)) hb)
                            (try clear hb)
                            (try clear hb2)
                            (try clear hk)
                            (try clear hi)
                            refine hK.out _ _ ⟨bc BK145 0, bc BK145 1, bc BK145 2, bc BK145 3, bc BK145 4, bc BK145 5, bc BK145 6, bc BK145 7⟩ (fun hHeld => ?_)
                            clear hK K
                            refine nm ?_
                            refine pu 8 15 (fb 35 1717987327) HT_ ?_
                            exact norm_ (by first | (simp only [putAll, Act.put, List.setIfInBounds_toArray, List.set_cons_zero, List.set_cons_succ]; done) | (simp only [putAll, Act.put, List.setIfInBounds_toArray, List.set_cons_zero, List.set_cons_succ]; rfl)) (hJ3_4_7 (v148) _ ⟨hHeld, (rG HO149), (bG BK145), (lT HB (gC GE145 gN))⟩)
                          ·skip
                           rintro _ w25 ⟨hS_, h0_, h1_⟩
                           have n0_ : Aside0 (w25.heap[gb145]? = some (.cells #[.int .i64 a0_0, .int .i64 a0_1, .int .i64 a0_2, .int .i64 a0_3, .int .i64 a0_4, .string a0_5, .string a0_6, .string a0_7] 23 (0, 0))) := ⟨h0_⟩
                           have n1_ : Aside0 (Below w.heap.size w w25) := ⟨h1_⟩
                           clear BK145
                           clear HB
                           clear h0_ h1_
                           have BK145 := n0_
                           have HB := n1_
                           clear n0_ n1_
                           have hHeld : w25.cell? ⟨gb145, 0, none⟩ = some (.int .i64 a0_0) ∧ w25.cell? ⟨gb145, 1, none⟩ = some (.int .i64 a0_1) ∧ w25.cell? ⟨gb145, 2, none⟩ = some (.int .i64 a0_2) ∧ w25.cell? ⟨gb145, 3, none⟩ = some (.int .i64 a0_3) ∧ w25.cell? ⟨gb145, 4, none⟩ = some (.int .i64 a0_4) ∧ w25.cell? ⟨gb145, 5, none⟩ = some (.string a0_5) ∧ w25.cell? ⟨gb145, 6, none⟩ = some (.string a0_6) ∧ w25.cell? ⟨gb145, 7, none⟩ = some (.string a0_7) := hS_
                           refine norm_ (a' := ?_) ?_ ?_
                           rotate_left
                           ·simp only [putAll, Act.put, List.setIfInBounds_toArray, List.set_cons_zero, List.set_cons_succ]
                            rfl
                           refine two_ (i := 3) (j := 19) (Ni := some 10) (Nj := some 26) #[t_,t_,t_,t_,f_,t_,t_,t_,f_,t_,t_,t_,f_,t_,t_,t_,f_,t_,t_,f_,f_,t_,t_,f_,f_,t_,t_,f_,f_,t_,t_,f_,f_,f_,f_] #[t_,t_,t_,f_,f_,t_,t_,t_,f_,t_,t_,t_,f_,t_,t_,t_,f_,t_,t_,t_,f_,t_,t_,f_,f_,t_,t_,f_,f_,t_,t_,f_,f_,f_,f_] rfl rfl rfl rfl (two_of HT_.out (by kernel_rfl)) (by decide) (by decide) (fun K hK => ?_) (fun K hK => ?_)
                           ·skip
                            refine Kd.R_lit_step (Kd.int .u8) _ 5 ?hg (N := 10) ?hd (xs := ([(a0_0) % 256] : List Int)) (inner := [.int .u8 ((a0_0) % 256)]) (ok := fun _ => True) (okp := fun _ => True) ?hr ?hp (fun _ hk => hk) trivial (Below.refl _ _) (Nat.le_refl _) (by simp) ?_; (case hd => rfl); (case hg => rfl); (case hr => first | (go_simp; done) | (go_simp; rfl)); (case hp => exact (Reps.one (show Kd.M (Kd.int .u8) _ _ _ ((a0_0) % 256) [.int .u8 ((a0_0) % 256)] from rfl) (Reps.none _ _)))
                            intro v148 w26 ho27 hb hg_ hnew_
                            clear hg_ hnew_
                            (first | rw [← Ny147.out] at ho27 | (simp only [Int.reduceToNat] at ho27; rw [← Ny147.out] at ho27))
                            replace HO149 := ak (Kd.R_lower ho27 (below_size (lT HB (gC GE145 gN))))
                            replace BK145 := bB BK145 hb
                            replace HB := ak (below_step (lT HB (gC GE145 gN)) hb)
                            clear hb ho27
                            refine hK.out _ _ ⟨bc BK145 0, bc BK145 1, bc BK145 2, bc BK145 3, bc BK145 4, bc BK145 5, bc BK145 6, bc BK145 7⟩ (fun hHeld => ?_)
                            clear hK K
                            refine nm ?_
                            exact norm_ (by first | (simp only [putAll, Act.put, List.setIfInBounds_toArray, List.set_cons_zero, List.set_cons_succ]; done) | (simp only [putAll, Act.put, List.setIfInBounds_toArray, List.set_cons_zero, List.set_cons_succ]; rfl)) (hJ3_7_11_15 (v148) _ ⟨hHeld, (rG HO149), (bG BK145), (lT HB (gC GE145 gN))⟩)
                           ·skip
                            refine goes_ Try.func94 (by kernel_rfl) rfl #[.int .i64 a0_4] (by rfl) rfl rfl (by (try simp only [List.map_toArray, List.map_cons, List.map_nil]); first | done | rfl | (simp only [List.length_drop, List.length_take]; rfl)) ?_
                            with_reducible refine (spec_l01Var.calls k a0_4 t153 _ A10.out).mono ?_
                            rintro e w26 ⟨rfl, hb⟩
                            refine ⟨_, rfl, ?_⟩
                            replace BK145 := bB BK145 hb
                            replace HB := ak (below_step (lT HB (gC GE145 gN)) hb)
                            (try clear hb)
                            (try clear hb2)
                            (try clear hk)
                            (try clear hi)
                            refine hK.out _ _ ⟨bc BK145 0, bc BK145 1, bc BK145 2, bc BK145 3, bc BK145 4, bc BK145 5, bc BK145 6, bc BK145 7⟩ (fun hHeld => ?_)
                            clear hK K
                            refine nm ?_
                            exact norm_ (by first | (simp only [putAll, Act.put, List.setIfInBounds_toArray, List.set_cons_zero, List.set_cons_succ]; done) | (simp only [putAll, Act.put, List.setIfInBounds_toArray, List.set_cons_zero, List.set_cons_succ]; rfl)) (hJ7_11_15_19 () _ ⟨hHeld, (bG BK145), (lT HB (gC GE145 gN))⟩)
                         ·skip
                          rintro v148 w26 ⟨hS_, h0_, h1_, h2_⟩
                          have n0_ : Aside0 (Kd.R (Kd.int .u8) 5 w26 w.heap.size (fun _ => True) v148 y147) := ⟨h0_⟩
                          have n1_ : Aside0 (w26.heap[gb145]? = some (.cells #[.int .i64 a0_0, .int .i64 a0_1, .int .i64 a0_2, .int .i64 a0_3, .int .i64 a0_4, .string a0_5, .string a0_6, .string a0_7] 23 (0, 0))) := ⟨h1_⟩
                          have n2_ : Aside0 (Below w.heap.size w w26) := ⟨h2_⟩
                          clear BK145
                          clear HB
                          clear h0_ h1_ h2_
                          have HO149 := n0_
                          have BK145 := n1_
                          have HB := n2_
                          clear n0_ n1_ n2_
                          have hHeld : w26.cell? ⟨gb145, 0, none⟩ = some (.int .i64 a0_0) ∧ w26.cell? ⟨gb145, 1, none⟩ = some (.int .i64 a0_1) ∧ w26.cell? ⟨gb145, 2, none⟩ = some (.int .i64 a0_2) ∧ w26.cell? ⟨gb145, 3, none⟩ = some (.int .i64 a0_3) ∧ w26.cell? ⟨gb145, 4, none⟩ = some (.int .i64 a0_4) ∧ w26.cell? ⟨gb145, 5, none⟩ = some (.string a0_5) ∧ w26.cell? ⟨gb145, 6, none⟩ = some (.string a0_6) ∧ w26.cell? ⟨gb145, 7, none⟩ = some (.string a0_7) := hS_
                          refine norm_ (a' := ?_) ?_ ?_
                          rotate_left
                          ·simp only [putAll, Act.put, List.setIfInBounds_toArray, List.set_cons_zero, List.set_cons_succ]
                           rfl
                          refine two_ (i := 4) (j := 15) (Ni := some 11) (Nj := some 22) #[t_,t_,t_,t_,t_,t_,t_,t_,f_,t_,t_,t_,f_,t_,t_,f_,f_,t_,t_,f_,f_,t_,t_,f_,f_,t_,t_,f_,f_,t_,t_,f_,f_,f_,f_] #[t_,t_,t_,t_,f_,t_,t_,t_,f_,t_,t_,t_,f_,t_,t_,t_,f_,t_,t_,f_,f_,t_,t_,f_,f_,t_,t_,f_,f_,t_,t_,f_,f_,f_,f_] rfl rfl rfl rfl (two_of HT_.out (by kernel_rfl)) (by decide) (by decide) (fun K hK => ?_) (fun K hK => ?_)
                          ·skip
                           have hcv27 := own_string (P := Try.prog) Try.underlying46 Try.underlying5 Try.underlying9 (Kd.own_of_R HO149.out)
                           refine value_ (w1 := ?_) (v := ?_) (by rfl) rfl ?_ ?_
                           rotate_left 2
                           ·go_simp
                            constructor
                            ·rfl
                            ·rfl
                           clear hcv27
                           refine hK.out _ _ ⟨bc BK145 0, bc BK145 1, bc BK145 2, bc BK145 3, bc BK145 4, bc BK145 5, bc BK145 6, bc BK145 7⟩ (fun hHeld => ?_)
                           clear hK K
                           refine nm ?_
                           refine pu 8 15 (fb 35 1717989375) HT_ ?_
                           refine pu 12 19 (fb 35 1717993471) HT_ ?_
                           exact norm_ (by first | (simp only [putAll, Act.put, List.setIfInBounds_toArray, List.set_cons_zero, List.set_cons_succ]; done) | (simp only [putAll, Act.put, List.setIfInBounds_toArray, List.set_cons_zero, List.set_cons_succ]; rfl)) (hJ3_4_7_11 (v148) _ ⟨hHeld, (rG HO149), (bG BK145), (lT HB (gC GE145 gN))⟩)
                          ·skip
                           refine goes_ Try.func94 (by kernel_rfl) rfl #[.int .i64 a0_3] (by rfl) rfl rfl (by (try simp only [List.map_toArray, List.map_cons, List.map_nil]); first | done | rfl | (simp only [List.length_drop, List.length_take]; rfl)) ?_
                           with_reducible refine (spec_l01Var.calls k a0_3 t152 _ A8.out).mono ?_
                           rintro e w27 ⟨rfl, hb⟩
                           refine ⟨_, rfl, ?_⟩
                           replace HO149 := rB HO149 hb
                           replace BK145 := bB BK145 hb
                           replace HB := ak (below_step (lT HB (gC GE145 gN)) hb)
                           (try clear hb)
                           (try clear hb2)
                           (try clear hk)
                           (try clear hi)
                           refine hK.out _ _ ⟨bc BK145 0, bc BK145 1, bc BK145 2, bc BK145 3, bc BK145 4, bc BK145 5, bc BK145 6, bc BK145 7⟩ (fun hHeld => ?_)
                           clear hK K
                           refine nm ?_
                           exact norm_ (by first | (simp only [putAll, Act.put, List.setIfInBounds_toArray, List.set_cons_zero, List.set_cons_succ]; done) | (simp only [putAll, Act.put, List.setIfInBounds_toArray, List.set_cons_zero, List.set_cons_succ]; rfl)) (hJ3_7_11_15 (v148) _ ⟨hHeld, (rG HO149), (bG BK145), (lT HB (gC GE145 gN))⟩)
                        ·skip
                         rintro v148 w26 ⟨hS_, h0_, h1_, h2_⟩
                         have n0_ : Aside0 (Kd.R (Kd.int .u8) 5 w26 w.heap.size (fun _ => True) v148 y147) := ⟨h0_⟩
                         have n1_ : Aside0 (w26.heap[gb145]? = some (.cells #[.int .i64 a0_0, .int .i64 a0_1, .int .i64 a0_2, .int .i64 a0_3, .int .i64 a0_4, .string a0_5, .string a0_6, .string a0_7] 23 (0, 0))) := ⟨h1_⟩
                         have n2_ : Aside0 (Below w.heap.size w w26) := ⟨h2_⟩
                         clear BK145
                         clear HB
                         clear h0_ h1_ h2_
                         have HO149 := n0_
                         have BK145 := n1_
                         have HB := n2_
                         clear n0_ n1_ n2_
                         have hHeld : w26.cell? ⟨gb145, 0, none⟩ = some (.int .i64 a0_0) ∧ w26.cell? ⟨gb145, 1, none⟩ = some (.int .i64 a0_1) ∧ w26.cell? ⟨gb145, 2, none⟩ = some (.int .i64 a0_2) ∧ w26.cell? ⟨gb145, 3, none⟩ = some (.int .i64 a0_3) ∧ w26.cell? ⟨gb145, 4, none⟩ = some (.int .i64 a0_4) ∧ w26.cell? ⟨gb145, 5, none⟩ = some (.string a0_5) ∧ w26.cell? ⟨gb145, 6, none⟩ = some (.string a0_6) ∧ w26.cell? ⟨gb145, 7, none⟩ = some (.string a0_7) := hS_
                         refine norm_ (a' := ?_) ?_ ?_
                         rotate_left
                         ·simp only [putAll, Act.put, List.setIfInBounds_toArray, List.set_cons_zero, List.set_cons_succ]
                          rfl
                         refine on 11 (some 18) (fb 35 1717989375) HT_ (fun K hK => ?_)
                         refine goes_ Try.func94 (by kernel_rfl) rfl #[.int .i64 a0_2] (by rfl) rfl rfl (by (try simp only [List.map_toArray, List.map_cons, List.map_nil]); first | done | rfl | (simp only [List.length_drop, List.length_take]; rfl)) ?_
                         with_reducible refine (spec_l01Var.calls k a0_2 t151 _ A6.out).mono ?_
                         rintro e w27 ⟨rfl, hb⟩
                         refine ⟨_, rfl, ?_⟩
                         replace HO149 := rB HO149 hb
                         replace BK145 := bB BK145 hb
                         replace HB := ak (below_step (lT HB (gC GE145 gN)) hb)
                         (try clear hb)
                         (try clear hb2)
                         (try clear hk)
                         (try clear hi)
                         refine hK.out _ _ ⟨bc BK145 0, bc BK145 1, bc BK145 2, bc BK145 3, bc BK145 4, bc BK145 5, bc BK145 6, bc BK145 7⟩ (fun hHeld => ?_)
                         clear hK K
                         refine nm ?_
                         refine pu 12 19 (fb 35 1717993471) HT_ ?_
                         exact norm_ (by first | (simp only [putAll, Act.put, List.setIfInBounds_toArray, List.set_cons_zero, List.set_cons_succ]; done) | (simp only [putAll, Act.put, List.setIfInBounds_toArray, List.set_cons_zero, List.set_cons_succ]; rfl)) (hJ3_4_7_11 (v148) _ ⟨hHeld, (rG HO149), (bG BK145), (lT HB (gC GE145 gN))⟩)
                       ·skip
                        rintro _ w26 ⟨hS_, h0_, h1_⟩
                        have n0_ : Aside0 (w26.heap[gb145]? = some (.cells #[.int .i64 a0_0, .int .i64 a0_1, .int .i64 a0_2, .int .i64 a0_3, .int .i64 a0_4, .string a0_5, .string a0_6, .string a0_7] 23 (0, 0))) := ⟨h0_⟩
                        have n1_ : Aside0 (Below w.heap.size w w26) := ⟨h1_⟩
                        clear BK145
                        clear HB
                        clear h0_ h1_
                        have BK145 := n0_
                        have HB := n1_
                        clear n0_ n1_
                        have hHeld : w26.cell? ⟨gb145, 0, none⟩ = some (.int .i64 a0_0) ∧ w26.cell? ⟨gb145, 1, none⟩ = some (.int .i64 a0_1) ∧ w26.cell? ⟨gb145, 2, none⟩ = some (.int .i64 a0_2) ∧ w26.cell? ⟨gb145, 3, none⟩ = some (.int .i64 a0_3) ∧ w26.cell? ⟨gb145, 4, none⟩ = some (.int .i64 a0_4) ∧ w26.cell? ⟨gb145, 5, none⟩ = some (.string a0_5) ∧ w26.cell? ⟨gb145, 6, none⟩ = some (.string a0_6) ∧ w26.cell? ⟨gb145, 7, none⟩ = some (.string a0_7) := hS_
                        refine norm_ (a' := ?_) ?_ ?_
                        rotate_left
                        ·simp only [putAll, Act.put, List.setIfInBounds_toArray, List.set_cons_zero, List.set_cons_succ]
                         rfl
                        refine two_ (i := 3) (j := 23) (Ni := some 10) (Nj := some 30) #[t_,t_,t_,t_,f_,t_,t_,t_,f_,t_,t_,t_,f_,t_,t_,t_,f_,t_,t_,t_,f_,t_,t_,f_,f_,t_,t_,f_,f_,t_,t_,f_,f_,f_,f_] #[t_,t_,t_,f_,f_,t_,t_,t_,f_,t_,t_,t_,f_,t_,t_,t_,f_,t_,t_,t_,f_,t_,t_,t_,f_,t_,t_,f_,f_,t_,t_,f_,f_,f_,f_] rfl rfl rfl rfl (two_of HT_.out (by kernel_rfl)) (by decide) (by decide) (fun K hK => ?_) (fun K hK => ?_)
                        ·skip
                         refine Kd.R_lit_step (Kd.int .u8) _ 5 ?hg (N := 10) ?hd (xs := ([(a0_0) % 256] : List Int)) (inner := [.int .u8 ((a0_0) % 256)]) (ok := fun _ => True) (okp := fun _ => True) ?hr ?hp (fun _ hk => hk) trivial (Below.refl _ _) (Nat.le_refl _) (by simp) ?_; (case hd => rfl); (case hg => rfl); (case hr => first | (go_simp; done) | (go_simp; rfl)); (case hp => exact (Reps.one (show Kd.M (Kd.int .u8) _ _ _ ((a0_0) % 256) [.int .u8 ((a0_0) % 256)] from rfl) (Reps.none _ _)))
                         intro v148 w27 ho28 hb hg_ hnew_
                         clear hg_ hnew_
                         (first | rw [← Ny147.out] at ho28 | (simp only [Int.reduceToNat] at ho28; rw [← Ny147.out] at ho28))
                         replace HO149 := ak (Kd.R_lower ho28 (below_size (lT HB (gC GE145 gN))))
                         replace BK145 := bB BK145 hb
                         replace HB := ak (below_step (lT HB (gC GE145 gN)) hb)
                         clear hb ho28
                         refine hK.out _ _ ⟨bc BK145 0, bc BK145 1, bc BK145 2, bc BK145 3, bc BK145 4, bc BK145 5, bc BK145 6, bc BK145 7⟩ (fun hHeld => ?_)
                         clear hK K
                         refine nm ?_
                         exact norm_ (by first | (simp only [putAll, Act.put, List.setIfInBounds_toArray, List.set_cons_zero, List.set_cons_succ]; done) | (simp only [putAll, Act.put, List.setIfInBounds_toArray, List.set_cons_zero, List.set_cons_succ]; rfl)) (hJ3_7_11_15_19 (v148) _ ⟨hHeld, (rG HO149), (bG BK145), (lT HB (gC GE145 gN))⟩)
                        ·skip
                         refine goes_ Try.func95 (by kernel_rfl) rfl #[.string a0_5] (by rfl) rfl rfl (by (try simp only [List.map_toArray, List.map_cons, List.map_nil]); first | done | rfl | (simp only [List.length_drop, List.length_take]; rfl)) ?_
                         with_reducible refine (spec_l06Short.calls k a0_5 t154 _ A12.out).mono ?_
                         rintro e w27 ⟨rfl, hb⟩
                         refine ⟨_, rfl, ?_⟩
                         replace BK145 := bB BK145 hb
                         replace HB := ak (below_step (lT HB (gC GE145 gN)) hb)
                         (try clear hb)
                         (try clear hb2)
                         (try clear hk)
                         (try clear hi)
                         refine hK.out _ _ ⟨bc BK145 0, bc BK145 1, bc BK145 2, bc BK145 3, bc BK145 4, bc BK145 5, bc BK145 6, bc BK145 7⟩ (fun hHeld => ?_)
                         clear hK K
                         refine nm ?_
                         exact norm_ (by first | (simp only [putAll, Act.put, List.setIfInBounds_toArray, List.set_cons_zero, List.set_cons_succ]; done) | (simp only [putAll, Act.put, List.setIfInBounds_toArray, List.set_cons_zero, List.set_cons_succ]; rfl)) (hJ7_11_15_19_23 () _ ⟨hHeld, (bG BK145), (lT HB (gC GE145 gN))⟩)
                      ·skip
                       rintro v148 w27 ⟨hS_, h0_, h1_, h2_⟩
                       have n0_ : Aside0 (Kd.R (Kd.int .u8) 5 w27 w.heap.size (fun _ => True) v148 y147) := ⟨h0_⟩
                       have n1_ : Aside0 (w27.heap[gb145]? = some (.cells #[.int .i64 a0_0, .int .i64 a0_1, .int .i64 a0_2, .int .i64 a0_3, .int .i64 a0_4, .string a0_5, .string a0_6, .string a0_7] 23 (0, 0))) := ⟨h1_⟩
                       have n2_ : Aside0 (Below w.heap.size w w27) := ⟨h2_⟩
                       clear BK145
                       clear HB
                       clear h0_ h1_ h2_
                       have HO149 := n0_
                       have BK145 := n1_
                       have HB := n2_
                       clear n0_ n1_ n2_
                       have hHeld : w27.cell? ⟨gb145, 0, none⟩ = some (.int .i64 a0_0) ∧ w27.cell? ⟨gb145, 1, none⟩ = some (.int .i64 a0_1) ∧ w27.cell? ⟨gb145, 2, none⟩ = some (.int .i64 a0_2) ∧ w27.cell? ⟨gb145, 3, none⟩ = some (.int .i64 a0_3) ∧ w27.cell? ⟨gb145, 4, none⟩ = some (.int .i64 a0_4) ∧ w27.cell? ⟨gb145, 5, none⟩ = some (.string a0_5) ∧ w27.cell? ⟨gb145, 6, none⟩ = some (.string a0_6) ∧ w27.cell? ⟨gb145, 7, none⟩ = some (.string a0_7) := hS_
                       refine norm_ (a' := ?_) ?_ ?_
                       rotate_left
                       ·simp only [putAll, Act.put, List.setIfInBounds_toArray, List.set_cons_zero, List.set_cons_succ]
                        rfl
                       refine two_ (i := 4) (j := 19) (Ni := some 11) (Nj := some 26) #[t_,t_,t_,t_,t_,t_,t_,t_,f_,t_,t_,t_,f_,t_,t_,t_,f_,t_,t_,f_,f_,t_,t_,f_,f_,t_,t_,f_,f_,t_,t_,f_,f_,f_,f_] #[t_,t_,t_,t_,f_,t_,t_,t_,f_,t_,t_,t_,f_,t_,t_,t_,f_,t_,t_,t_,f_,t_,t_,f_,f_,t_,t_,f_,f_,t_,t_,f_,f_,f_,f_] rfl rfl rfl rfl (two_of HT_.out (by kernel_rfl)) (by decide) (by decide) (fun K hK => ?_) (fun K hK => ?_)
                       ·skip
                        have hcv28 := own_string (P := Try.prog) Try.underlying46 Try.underlying5 Try.underlying9 (Kd.own_of_R HO149.out)
                        refine value_ (w1 := ?_) (v := ?_) (by rfl) rfl ?_ ?_
                        rotate_left 2
                        ·go_simp
                         constructor
                         ·rfl
                         ·rfl
                        clear hcv28
                        refine hK.out _ _ ⟨bc BK145 0, bc BK145 1, bc BK145 2, bc BK145 3, bc BK145 4, bc BK145 5, bc BK145 6, bc BK145 7⟩ (fun hHeld => ?_)
                        clear hK K
                        refine nm ?_
                        refine pu 8 15 (fb 35 1718022143) HT_ ?_
                        refine pu 12 19 (fb 35 1718026239) HT_ ?_
                        refine pu 16 23 (fb 35 1718091775) HT_ ?_
                        exact norm_ (by first | (simp only [putAll, Act.put, List.setIfInBounds_toArray, List.set_cons_zero, List.set_cons_succ]; done) | (simp only [putAll, Act.put, List.setIfInBounds_toArray, List.set_cons_zero, List.set_cons_succ]; rfl)) (hJ3_4_7_11_15 (v148) _ ⟨hHeld, (rG HO149), (bG BK145), (lT HB (gC GE145 gN))⟩)
                       ·skip
                        refine goes_ Try.func94 (by kernel_rfl) rfl #[.int .i64 a0_4] (by rfl) rfl rfl (by (try simp only [List.map_toArray, List.map_cons, List.map_nil]); first | done | rfl | (simp only [List.length_drop, List.length_take]; rfl)) ?_
                        with_reducible refine (spec_l01Var.calls k a0_4 t153 _ A10.out).mono ?_
                        rintro e w28 ⟨rfl, hb⟩
                        refine ⟨_, rfl, ?_⟩
                        replace HO149 := rB HO149 hb
                        replace BK145 := bB BK145 hb
                        replace HB := ak (below_step (lT HB (gC GE145 gN)) hb)
                        (try clear hb)
                        (try clear hb2)
                        (try clear hk)
                        (try clear hi)
                        refine hK.out _ _ ⟨bc BK145 0, bc BK145 1, bc BK145 2, bc BK145 3, bc BK145 4, bc BK145 5, bc BK145 6, bc BK145 7⟩ (fun hHeld => ?_)
                        clear hK K
                        refine nm ?_
                        exact norm_ (by first | (simp only [putAll, Act.put, List.setIfInBounds_toArray, List.set_cons_zero, List.set_cons_succ]; done) | (simp only [putAll, Act.put, List.setIfInBounds_toArray, List.set_cons_zero, List.set_cons_succ]; rfl)) (hJ3_7_11_15_19 (v148) _ ⟨hHeld, (rG HO149), (bG BK145), (lT HB (gC GE145 gN))⟩)
                     ·skip
                      rintro v148 w27 ⟨hS_, h0_, h1_, h2_⟩
                      have n0_ : Aside0 (Kd.R (Kd.int .u8) 5 w27 w.heap.size (fun _ => True) v148 y147) := ⟨h0_⟩
                      have n1_ : Aside0 (w27.heap[gb145]? = some (.cells #[.int .i64 a0_0, .int .i64 a0_1, .int .i64 a0_2, .int .i64 a0_3, .int .i64 a0_4, .string a0_5, .string a0_6, .string a0_7] 23 (0, 0))) := ⟨h1_⟩
                      have n2_ : Aside0 (Below w.heap.size w w27) := ⟨h2_⟩
                      clear BK145
                      clear HB
                      clear h0_ h1_ h2_
                      have HO149 := n0_
                      have BK145 := n1_
                      have HB := n2_
                      clear n0_ n1_ n2_
                      have hHeld : w27.cell? ⟨gb145, 0, none⟩ = some (.int .i64 a0_0) ∧ w27.cell? ⟨gb145, 1, none⟩ = some (.int .i64 a0_1) ∧ w27.cell? ⟨gb145, 2, none⟩ = some (.int .i64 a0_2) ∧ w27.cell? ⟨gb145, 3, none⟩ = some (.int .i64 a0_3) ∧ w27.cell? ⟨gb145, 4, none⟩ = some (.int .i64 a0_4) ∧ w27.cell? ⟨gb145, 5, none⟩ = some (.string a0_5) ∧ w27.cell? ⟨gb145, 6, none⟩ = some (.string a0_6) ∧ w27.cell? ⟨gb145, 7, none⟩ = some (.string a0_7) := hS_
                      refine norm_ (a' := ?_) ?_ ?_
                      rotate_left
                      ·simp only [putAll, Act.put, List.setIfInBounds_toArray, List.set_cons_zero, List.set_cons_succ]
                       rfl
                      refine on 15 (some 22) (fb 35 1718026239) HT_ (fun K hK => ?_)
                      refine goes_ Try.func94 (by kernel_rfl) rfl #[.int .i64 a0_3] (by rfl) rfl rfl (by (try simp only [List.map_toArray, List.map_cons, List.map_nil]); first | done | rfl | (simp only [List.length_drop, List.length_take]; rfl)) ?_
                      with_reducible refine (spec_l01Var.calls k a0_3 t152 _ A8.out).mono ?_
                      rintro e w28 ⟨rfl, hb⟩
                      refine ⟨_, rfl, ?_⟩
                      replace HO149 := rB HO149 hb
                      replace BK145 := bB BK145 hb
                      replace HB := ak (below_step (lT HB (gC GE145 gN)) hb)
                      (try clear hb)
                      (try clear hb2)
                      (try clear hk)
                      (try clear hi)
                      refine hK.out _ _ ⟨bc BK145 0, bc BK145 1, bc BK145 2, bc BK145 3, bc BK145 4, bc BK145 5, bc BK145 6, bc BK145 7⟩ (fun hHeld => ?_)
                      clear hK K
                      refine nm ?_
                      refine pu 16 23 (fb 35 1718091775) HT_ ?_
                      exact norm_ (by first | (simp only [putAll, Act.put, List.setIfInBounds_toArray, List.set_cons_zero, List.set_cons_succ]; done) | (simp only [putAll, Act.put, List.setIfInBounds_toArray, List.set_cons_zero, List.set_cons_succ]; rfl)) (hJ3_4_7_11_15 (v148) _ ⟨hHeld, (rG HO149), (bG BK145), (lT HB (gC GE145 gN))⟩)
                    ·skip
                     rintro _ w27 ⟨hS_, h0_, h1_⟩
                     have n0_ : Aside0 (w27.heap[gb145]? = some (.cells #[.int .i64 a0_0, .int .i64 a0_1, .int .i64 a0_2, .int .i64 a0_3, .int .i64 a0_4, .string a0_5, .string a0_6, .string a0_7] 23 (0, 0))) := ⟨h0_⟩
                     have n1_ : Aside0 (Below w.heap.size w w27) := ⟨h1_⟩
                     clear BK145
                     clear HB
                     clear h0_ h1_
                     have BK145 := n0_
                     have HB := n1_
                     clear n0_ n1_
                     have hHeld : w27.cell? ⟨gb145, 0, none⟩ = some (.int .i64 a0_0) ∧ w27.cell? ⟨gb145, 1, none⟩ = some (.int .i64 a0_1) ∧ w27.cell? ⟨gb145, 2, none⟩ = some (.int .i64 a0_2) ∧ w27.cell? ⟨gb145, 3, none⟩ = some (.int .i64 a0_3) ∧ w27.cell? ⟨gb145, 4, none⟩ = some (.int .i64 a0_4) ∧ w27.cell? ⟨gb145, 5, none⟩ = some (.string a0_5) ∧ w27.cell? ⟨gb145, 6, none⟩ = some (.string a0_6) ∧ w27.cell? ⟨gb145, 7, none⟩ = some (.string a0_7) := hS_
                     refine norm_ (a' := ?_) ?_ ?_
                     rotate_left
                     ·simp only [putAll, Act.put, List.setIfInBounds_toArray, List.set_cons_zero, List.set_cons_succ]
                      rfl
                     refine two_ (i := 3) (j := 27) (Ni := some 10) (Nj := some 34) #[t_,t_,t_,t_,f_,t_,t_,t_,f_,t_,t_,t_,f_,t_,t_,t_,f_,t_,t_,t_,f_,t_,t_,t_,f_,t_,t_,f_,f_,t_,t_,f_,f_,f_,f_] #[t_,t_,t_,f_,f_,t_,t_,t_,f_,t_,t_,t_,f_,t_,t_,t_,f_,t_,t_,t_,f_,t_,t_,t_,f_,t_,t_,t_,f_,t_,t_,f_,f_,f_,f_] rfl rfl rfl rfl (two_of HT_.out (by kernel_rfl)) (by decide) (by decide) (fun K hK => ?_) (fun K hK => ?_)
                     ·skip
                      refine Kd.R_lit_step (Kd.int .u8) _ 5 ?hg (N := 10) ?hd (xs := ([(a0_0) % 256] : List Int)) (inner := [.int .u8 ((a0_0) % 256)]) (ok := fun _ => True) (okp := fun _ => True) ?hr ?hp (fun _ hk => hk) trivial (Below.refl _ _) (Nat.le_refl _) (by simp) ?_; (case hd => rfl); (case hg => rfl); (case hr => first | (go_simp; done) | (go_simp; rfl)); (case hp => exact (Reps.one (show Kd.M (Kd.int .u8) _ _ _ ((a0_0) % 256) [.int .u8 ((a0_0) % 256)] from rfl) (Reps.none _ _)))
                      intro v148 w28 ho29 hb hg_ hnew_
                      clear hg_ hnew_
                      (first | rw [← Ny147.out] at ho29 | (simp only [Int.reduceToNat] at ho29; rw [← Ny147.out] at ho29))
                      replace HO149 := ak (Kd.R_lower ho29 (below_size (lT HB (gC GE145 gN))))
                      replace BK145 := bB BK145 hb
                      replace HB := ak (below_step (lT HB (gC GE145 gN)) hb)
                      clear hb ho29
                      refine hK.out _ _ ⟨bc BK145 0, bc BK145 1, bc BK145 2, bc BK145 3, bc BK145 4, bc BK145 5, bc BK145 6, bc BK145 7⟩ (fun hHeld => ?_)
                      clear hK K
                      refine nm ?_
                      exact norm_ (by first | (simp only [putAll, Act.put, List.setIfInBounds_toArray, List.set_cons_zero, List.set_cons_succ]; done) | (simp only [putAll, Act.put, List.setIfInBounds_toArray, List.set_cons_zero, List.set_cons_succ]; rfl)) (hJ3_7_11_15_19_23 (v148) _ ⟨hHeld, (rG HO149), (bG BK145), (lT HB (gC GE145 gN))⟩)
                     ·skip
                      refine goes_ Try.func95 (by kernel_rfl) rfl #[.string a0_6] (by rfl) rfl rfl (by (try simp only [List.map_toArray, List.map_cons, List.map_nil]); first | done | rfl | (simp only [List.length_drop, List.length_take]; rfl)) ?_
                      with_reducible refine (spec_l06Short.calls k a0_6 t155 _ A14.out).mono ?_
                      rintro e w28 ⟨rfl, hb⟩
                      refine ⟨_, rfl, ?_⟩
                      replace BK145 := bB BK145 hb
                      replace HB := ak (below_step (lT HB (gC GE145 gN)) hb)
                      (try clear hb)
                      (try clear hb2)
                      (try clear hk)
                      (try clear hi)
                      refine hK.out _ _ ⟨bc BK145 0, bc BK145 1, bc BK145 2, bc BK145 3, bc BK145 4, bc BK145 5, bc BK145 6, bc BK145 7⟩ (fun hHeld => ?_)
                      clear hK K
                      refine nm ?_
                      exact norm_ (by first | (simp only [putAll, Act.put, List.setIfInBounds_toArray, List.set_cons_zero, List.set_cons_succ]; done) | (simp only [putAll, Act.put, List.setIfInBounds_toArray, List.set_cons_zero, List.set_cons_succ]; rfl)) (hJ7_11_15_19_23_27 () _ ⟨hHeld, (bG BK145), (lT HB (gC GE145 gN))⟩)
                   ·skip
                    rintro v148 w28 ⟨hS_, h0_, h1_, h2_⟩
                    have n0_ : Aside0 (Kd.R (Kd.int .u8) 5 w28 w.heap.size (fun _ => True) v148 y147) := ⟨h0_⟩
                    have n1_ : Aside0 (w28.heap[gb145]? = some (.cells #[.int .i64 a0_0, .int .i64 a0_1, .int .i64 a0_2, .int .i64 a0_3, .int .i64 a0_4, .string a0_5, .string a0_6, .string a0_7] 23 (0, 0))) := ⟨h1_⟩
                    have n2_ : Aside0 (Below w.heap.size w w28) := ⟨h2_⟩
                    clear BK145
                    clear HB
                    clear h0_ h1_ h2_
                    have HO149 := n0_
                    have BK145 := n1_
                    have HB := n2_
                    clear n0_ n1_ n2_
                    have hHeld : w28.cell? ⟨gb145, 0, none⟩ = some (.int .i64 a0_0) ∧ w28.cell? ⟨gb145, 1, none⟩ = some (.int .i64 a0_1) ∧ w28.cell? ⟨gb145, 2, none⟩ = some (.int .i64 a0_2) ∧ w28.cell? ⟨gb145, 3, none⟩ = some (.int .i64 a0_3) ∧ w28.cell? ⟨gb145, 4, none⟩ = some (.int .i64 a0_4) ∧ w28.cell? ⟨gb145, 5, none⟩ = some (.string a0_5) ∧ w28.cell? ⟨gb145, 6, none⟩ = some (.string a0_6) ∧ w28.cell? ⟨gb145, 7, none⟩ = some (.string a0_7) := hS_
                    refine norm_ (a' := ?_) ?_ ?_
                    rotate_left
                    ·simp only [putAll, Act.put, List.setIfInBounds_toArray, List.set_cons_zero, List.set_cons_succ]
                     rfl
                    refine two_ (i := 4) (j := 23) (Ni := some 11) (Nj := some 30) #[t_,t_,t_,t_,t_,t_,t_,t_,f_,t_,t_,t_,f_,t_,t_,t_,f_,t_,t_,t_,f_,t_,t_,f_,f_,t_,t_,f_,f_,t_,t_,f_,f_,f_,f_] #[t_,t_,t_,t_,f_,t_,t_,t_,f_,t_,t_,t_,f_,t_,t_,t_,f_,t_,t_,t_,f_,t_,t_,t_,f_,t_,t_,f_,f_,t_,t_,f_,f_,f_,f_] rfl rfl rfl rfl (two_of HT_.out (by kernel_rfl)) (by decide) (by decide) (fun K hK => ?_) (fun K hK => ?_)
                    ·skip
                     have hcv29 := own_string (P := Try.prog) Try.underlying46 Try.underlying5 Try.underlying9 (Kd.own_of_R HO149.out)
                     refine value_ (w1 := ?_) (v := ?_) (by rfl) rfl ?_ ?_
                     rotate_left 2
                     ·go_simp
                      constructor
                      ·rfl
                      ·rfl
                     clear hcv29
                     refine hK.out _ _ ⟨bc BK145 0, bc BK145 1, bc BK145 2, bc BK145 3, bc BK145 4, bc BK145 5, bc BK145 6, bc BK145 7⟩ (fun hHeld => ?_)
                     clear hK K
                     refine nm ?_
                     refine pu 8 15 (fb 35 1718546431) HT_ ?_
                     refine pu 12 19 (fb 35 1718550527) HT_ ?_
                     refine pu 16 23 (fb 35 1718616063) HT_ ?_
                     refine pu 20 27 (fb 35 1719664639) HT_ ?_
                     exact norm_ (by first | (simp only [putAll, Act.put, List.setIfInBounds_toArray, List.set_cons_zero, List.set_cons_succ]; done) | (simp only [putAll, Act.put, List.setIfInBounds_toArray, List.set_cons_zero, List.set_cons_succ]; rfl)) (hJ3_4_7_11_15_19 (v148) _ ⟨hHeld, (rG HO149), (bG BK145), (lT HB (gC GE145 gN))⟩)
                    ·skip
                     refine goes_ Try.func95 (by kernel_rfl) rfl #[.string a0_5] (by rfl) rfl rfl (by (try simp only [List.map_toArray, List.map_cons, List.map_nil]); first | done | rfl | (simp only [List.length_drop, List.length_take]; rfl)) ?_
                     with_reducible refine (spec_l06Short.calls k a0_5 t154 _ A12.out).mono ?_
                     rintro e w29 ⟨rfl, hb⟩
                     refine ⟨_, rfl, ?_⟩
                     replace HO149 := rB HO149 hb
                     replace BK145 := bB BK145 hb
                     replace HB := ak (below_step (lT HB (gC GE145 gN)) hb)
                     (try clear hb)
                     (try clear hb2)
                     (try clear hk)
                     (try clear hi)
                     refine hK.out _ _ ⟨bc BK145 0, bc BK145 1, bc BK145 2, bc BK145 3, bc BK145 4, bc BK145 5, bc BK145 6, bc BK145 7⟩ (fun hHeld => ?_)
                     clear hK K
                     refine nm ?_
                     exact norm_ (by first | (simp only [putAll, Act.put, List.setIfInBounds_toArray, List.set_cons_zero, List.set_cons_succ]; done) | (simp only [putAll, Act.put, List.setIfInBounds_toArray, List.set_cons_zero, List.set_cons_succ]; rfl)) (hJ3_7_11_15_19_23 (v148) _ ⟨hHeld, (rG HO149), (bG BK145), (lT HB (gC GE145 gN))⟩)
                  ·skip
                   rintro v148 w28 ⟨hS_, h0_, h1_, h2_⟩
                   have n0_ : Aside0 (Kd.R (Kd.int .u8) 5 w28 w.heap.size (fun _ => True) v148 y147) := ⟨h0_⟩
                   have n1_ : Aside0 (w28.heap[gb145]? = some (.cells #[.int .i64 a0_0, .int .i64 a0_1, .int .i64 a0_2, .int .i64 a0_3, .int .i64 a0_4, .string a0_5, .string a0_6, .string a0_7] 23 (0, 0))) := ⟨h1_⟩
                   have n2_ : Aside0 (Below w.heap.size w w28) := ⟨h2_⟩
                   clear BK145
                   clear HB
                   clear h0_ h1_ h2_
                   have HO149 := n0_
                   have BK145 := n1_
                   have HB := n2_
                   clear n0_ n1_ n2_
                   have hHeld : w28.cell? ⟨gb145, 0, none⟩ = some (.int .i64 a0_0) ∧ w28.cell? ⟨gb145, 1, none⟩ = some (.int .i64 a0_1) ∧ w28.cell? ⟨gb145, 2, none⟩ = some (.int .i64 a0_2) ∧ w28.cell? ⟨gb145, 3, none⟩ = some (.int .i64 a0_3) ∧ w28.cell? ⟨gb145, 4, none⟩ = some (.int .i64 a0_4) ∧ w28.cell? ⟨gb145, 5, none⟩ = some (.string a0_5) ∧ w28.cell? ⟨gb145, 6, none⟩ = some (.string a0_6) ∧ w28.cell? ⟨gb145, 7, none⟩ = some (.string a0_7) := hS_
                   refine norm_ (a' := ?_) ?_ ?_
                   rotate_left
                   ·simp only [putAll, Act.put, List.setIfInBounds_toArray, List.set_cons_zero, List.set_cons_succ]
                    rfl
                   refine on 19 (some 26) (fb 35 1718616063) HT_ (fun K hK => ?_)
                   refine goes_ Try.func94 (by kernel_rfl) rfl #[.int .i64 a0_4] (by rfl) rfl rfl (by (try simp only [List.map_toArray, List.map_cons, List.map_nil]); first | done | rfl | (simp only [List.length_drop, List.length_take]; rfl)) ?_
                   with_reducible refine (spec_l01Var.calls k a0_4 t153 _ A10.out).mono ?_
                   rintro e w29 ⟨rfl, hb⟩
                   refine ⟨_, rfl, ?_⟩
                   replace HO149 := rB HO149 hb
                   replace BK145 := bB BK145 hb
                   replace HB := ak (below_step (lT HB (gC GE145 gN)) hb)
                   (try clear hb)
                   (try clear hb2)
                   (try clear hk)
                   (try clear hi)
                   refine hK.out _ _ ⟨bc BK145 0, bc BK145 1, bc BK145 2, bc BK145 3, bc BK145 4, bc BK145 5, bc BK145 6, bc BK145 7⟩ (fun hHeld => ?_)
                   clear hK K
                   refine nm ?_
                   refine pu 20 27 (fb 35 1719664639) HT_ ?_
                   exact norm_ (by first | (simp only [putAll, Act.put, List.setIfInBounds_toArray, List.set_cons_zero, List.set_cons_succ]; done) | (simp only [putAll, Act.put, List.setIfInBounds_toArray, List.set_cons_zero, List.set_cons_succ]; rfl)) (hJ3_4_7_11_15_19 (v148) _ ⟨hHeld, (rG HO149), (bG BK145), (lT HB (gC GE145 gN))⟩)
                 ·skip
                  rintro _ w28 ⟨hS_, h0_, h1_⟩
                  have n0_ : Aside0 (w28.heap[gb145]? = some (.cells #[.int .i64 a0_0, .int .i64 a0_1, .int .i64 a0_2, .int .i64 a0_3, .int .i64 a0_4, .string a0_5, .string a0_6, .string a0_7] 23 (0, 0))) := ⟨h0_⟩
                  have n1_ : Aside0 (Below w.heap.size w w28) := ⟨h1_⟩
                  clear BK145
                  clear HB
                  clear h0_ h1_
                  have BK145 := n0_
                  have HB := n1_
                  clear n0_ n1_
                  have hHeld : w28.cell? ⟨gb145, 0, none⟩ = some (.int .i64 a0_0) ∧ w28.cell? ⟨gb145, 1, none⟩ = some (.int .i64 a0_1) ∧ w28.cell? ⟨gb145, 2, none⟩ = some (.int .i64 a0_2) ∧ w28.cell? ⟨gb145, 3, none⟩ = some (.int .i64 a0_3) ∧ w28.cell? ⟨gb145, 4, none⟩ = some (.int .i64 a0_4) ∧ w28.cell? ⟨gb145, 5, none⟩ = some (.string a0_5) ∧ w28.cell? ⟨gb145, 6, none⟩ = some (.string a0_6) ∧ w28.cell? ⟨gb145, 7, none⟩ = some (.string a0_7) := hS_
                  refine norm_ (a' := ?_) ?_ ?_
                  rotate_left
                  ·simp only [putAll, Act.put, List.setIfInBounds_toArray, List.set_cons_zero, List.set_cons_succ]
                   rfl
                  refine two_ (i := 3) (j := 31) (Ni := some 10) (Nj := some 38) #[t_,t_,t_,t_,f_,t_,t_,t_,f_,t_,t_,t_,f_,t_,t_,t_,f_,t_,t_,t_,f_,t_,t_,t_,f_,t_,t_,t_,f_,t_,t_,f_,f_,f_,f_] #[t_,t_,t_,f_,f_,t_,t_,t_,f_,t_,t_,t_,f_,t_,t_,t_,f_,t_,t_,t_,f_,t_,t_,t_,f_,t_,t_,t_,f_,t_,t_,t_,f_,f_,f_] rfl rfl rfl rfl (two_of HT_.out (by kernel_rfl)) (by decide) (by decide) (fun K hK => ?_) (fun K hK => ?_)
                  ·skip
                   refine Kd.R_lit_step (Kd.int .u8) _ 5 ?hg (N := 10) ?hd (xs := ([(a0_0) % 256] : List Int)) (inner := [.int .u8 ((a0_0) % 256)]) (ok := fun _ => True) (okp := fun _ => True) ?hr ?hp (fun _ hk => hk) trivial (Below.refl _ _) (Nat.le_refl _) (by simp) ?_; (case hd => rfl); (case hg => rfl); (case hr => first | (go_simp; done) | (go_simp; rfl)); (case hp => exact (Reps.one (show Kd.M (Kd.int .u8) _ _ _ ((a0_0) % 256) [.int .u8 ((a0_0) % 256)] from rfl) (Reps.none _ _)))
                   intro v148 w29 ho30 hb hg_ hnew_
                   clear hg_ hnew_
                   (first | rw [← Ny147.out] at ho30 | (simp only [Int.reduceToNat] at ho30; rw [← Ny147.out] at ho30))
                   replace HO149 := ak (Kd.R_lower ho30 (below_size (lT HB (gC GE145 gN))))
                   replace BK145 := bB BK145 hb
                   replace HB := ak (below_step (lT HB (gC GE145 gN)) hb)
                   clear hb ho30
                   refine hK.out _ _ ⟨bc BK145 0, bc BK145 1, bc BK145 2, bc BK145 3, bc BK145 4, bc BK145 5, bc BK145 6, bc BK145 7⟩ (fun hHeld => ?_)
                   clear hK K
                   refine nm ?_
                   exact norm_ (by first | (simp only [putAll, Act.put, List.setIfInBounds_toArray, List.set_cons_zero, List.set_cons_succ]; done) | (simp only [putAll, Act.put, List.setIfInBounds_toArray, List.set_cons_zero, List.set_cons_succ]; rfl)) (hJ3_7_11_15_19_23_27 (v148) _ ⟨hHeld, (rG HO149), (bG BK145), (lT HB (gC GE145 gN))⟩)
                  ·skip
                   refine goes_ Try.func95 (by kernel_rfl) rfl #[.string a0_7] (by rfl) rfl rfl (by (try simp only [List.map_toArray, List.map_cons, List.map_nil]); first | done | rfl | (simp only [List.length_drop, List.length_take]; rfl)) ?_
                   with_reducible refine (spec_l06Short.calls k a0_7 t156 _ A16.out).mono ?_
                   rintro e w29 ⟨rfl, hb⟩
                   refine ⟨_, rfl, ?_⟩
                   replace BK145 := bB BK145 hb
                   replace HB := ak (below_step (lT HB (gC GE145 gN)) hb)
                   (try clear hb)
                   (try clear hb2)
                   (try clear hk)
                   (try clear hi)
                   refine hK.out _ _ ⟨bc BK145 0, bc BK145 1, bc BK145 2, bc BK145 3, bc BK145 4, bc BK145 5, bc BK145 6, bc BK145 7⟩ (fun hHeld => ?_)
                   clear hK K
                   refine nm ?_
                   exact norm_ (by first | (simp only [putAll, Act.put, List.setIfInBounds_toArray, List.set_cons_zero, List.set_cons_succ]; done) | (simp only [putAll, Act.put, List.setIfInBounds_toArray, List.set_cons_zero, List.set_cons_succ]; rfl)) (hJ7_11_15_19_23_27_31 () _ ⟨hHeld, (bG BK145), (lT HB (gC GE145 gN))⟩)
                ·skip
                 rintro v148 w29 ⟨hS_, h0_, h1_, h2_⟩
                 have n0_ : Aside0 (Kd.R (Kd.int .u8) 5 w29 w.heap.size (fun _ => True) v148 y147) := ⟨h0_⟩
                 have n1_ : Aside0 (w29.heap[gb145]? = some (.cells #[.int .i64 a0_0, .int .i64 a0_1, .int .i64 a0_2, .int .i64 a0_3, .int .i64 a0_4, .string a0_5, .string a0_6, .string a0_7] 23 (0, 0))) := ⟨h1_⟩
                 have n2_ : Aside0 (Below w.heap.size w w29) := ⟨h2_⟩
                 clear BK145
                 clear HB
                 clear h0_ h1_ h2_
                 have HO149 := n0_
                 have BK145 := n1_
                 have HB := n2_
                 clear n0_ n1_ n2_
                 have hHeld : w29.cell? ⟨gb145, 0, none⟩ = some (.int .i64 a0_0) ∧ w29.cell? ⟨gb145, 1, none⟩ = some (.int .i64 a0_1) ∧ w29.cell? ⟨gb145, 2, none⟩ = some (.int .i64 a0_2) ∧ w29.cell? ⟨gb145, 3, none⟩ = some (.int .i64 a0_3) ∧ w29.cell? ⟨gb145, 4, none⟩ = some (.int .i64 a0_4) ∧ w29.cell? ⟨gb145, 5, none⟩ = some (.string a0_5) ∧ w29.cell? ⟨gb145, 6, none⟩ = some (.string a0_6) ∧ w29.cell? ⟨gb145, 7, none⟩ = some (.string a0_7) := hS_
                 refine norm_ (a' := ?_) ?_ ?_
                 rotate_left
                 ·simp only [putAll, Act.put, List.setIfInBounds_toArray, List.set_cons_zero, List.set_cons_succ]
                  rfl
                 refine two_ (i := 4) (j := 27) (Ni := some 11) (Nj := some 34) #[t_,t_,t_,t_,t_,t_,t_,t_,f_,t_,t_,t_,f_,t_,t_,t_,f_,t_,t_,t_,f_,t_,t_,t_,f_,t_,t_,f_,f_,t_,t_,f_,f_,f_,f_] #[t_,t_,t_,t_,f_,t_,t_,t_,f_,t_,t_,t_,f_,t_,t_,t_,f_,t_,t_,t_,f_,t_,t_,t_,f_,t_,t_,t_,f_,t_,t_,f_,f_,f_,f_] rfl rfl rfl rfl (two_of HT_.out (by kernel_rfl)) (by decide) (by decide) (fun K hK => ?_) (fun K hK => ?_)
                 ·skip
                  have hcv30 := own_string (P := Try.prog) Try.underlying46 Try.underlying5 Try.underlying9 (Kd.own_of_R HO149.out)
                  refine value_ (w1 := ?_) (v := ?_) (by rfl) rfl ?_ ?_
                  rotate_left 2
                  ·go_simp
                   constructor
                   ·rfl
                   ·rfl
                  clear hcv30
                  refine hK.out _ _ ⟨bc BK145 0, bc BK145 1, bc BK145 2, bc BK145 3, bc BK145 4, bc BK145 5, bc BK145 6, bc BK145 7⟩ (fun hHeld => ?_)
                  clear hK K
                  refine nm ?_
                  refine pu 8 15 (fb 35 1726935039) HT_ ?_
                  refine pu 12 19 (fb 35 1726939135) HT_ ?_
                  refine pu 16 23 (fb 35 1727004671) HT_ ?_
                  refine pu 20 27 (fb 35 1728053247) HT_ ?_
                  refine pu 24 31 (fb 35 1744830463) HT_ ?_
                  exact norm_ (by first | (simp only [putAll, Act.put, List.setIfInBounds_toArray, List.set_cons_zero, List.set_cons_succ]; done) | (simp only [putAll, Act.put, List.setIfInBounds_toArray, List.set_cons_zero, List.set_cons_succ]; rfl)) (hJ3_4_7_11_15_19_23 (v148) _ ⟨hHeld, (rG HO149), (bG BK145), (lT HB (gC GE145 gN))⟩)
                 ·skip
                  refine goes_ Try.func95 (by kernel_rfl) rfl #[.string a0_6] (by rfl) rfl rfl (by (try simp only [List.map_toArray, List.map_cons, List.map_nil]); first | done | rfl | (simp only [List.length_drop, List.length_take]; rfl)) ?_
                  with_reducible refine (spec_l06Short.calls k a0_6 t155 _ A14.out).mono ?_
                  rintro e w30 ⟨rfl, hb⟩
                  refine ⟨_, rfl, ?_⟩
                  replace HO149 := rB HO149 hb
                  replace BK145 := bB BK145 hb
                  replace HB := ak (below_step (lT HB (gC GE145 gN)) hb)
                  (try clear hb)
                  (try clear hb2)
                  (try clear hk)
                  (try clear hi)
                  refine hK.out _ _ ⟨bc BK145 0, bc BK145 1, bc BK145 2, bc BK145 3, bc BK145 4, bc BK145 5, bc BK145 6, bc BK145 7⟩ (fun hHeld => ?_)
                  clear hK K
                  refine nm ?_
                  exact norm_ (by first | (simp only [putAll, Act.put, List.setIfInBounds_toArray, List.set_cons_zero, List.set_cons_succ]; done) | (simp only [putAll, Act.put, List.setIfInBounds_toArray, List.set_cons_zero, List.set_cons_succ]; rfl)) (hJ3_7_11_15_19_23_27 (v148) _ ⟨hHeld, (rG HO149), (bG BK145), (lT HB (gC GE145 gN))⟩)
               ·skip
                rintro v148 w29 ⟨hS_, h0_, h1_, h2_⟩
                have n0_ : Aside0 (Kd.R (Kd.int .u8) 5 w29 w.heap.size (fun _ => True) v148 y147) := ⟨h0_⟩
                have n1_ : Aside0 (w29.heap[gb145]? = some (.cells #[.int .i64 a0_0, .int .i64 a0_1, .int .i64 a0_2, .int .i64 a0_3, .int .i64 a0_4, .string a0_5, .string a0_6, .string a0_7] 23 (0, 0))) := ⟨h1_⟩
                have n2_ : Aside0 (Below w.heap.size w w29) := ⟨h2_⟩
                clear BK145
                clear HB
                clear h0_ h1_ h2_
                have HO149 := n0_
                have BK145 := n1_
                have HB := n2_
                clear n0_ n1_ n2_
                have hHeld : w29.cell? ⟨gb145, 0, none⟩ = some (.int .i64 a0_0) ∧ w29.cell? ⟨gb145, 1, none⟩ = some (.int .i64 a0_1) ∧ w29.cell? ⟨gb145, 2, none⟩ = some (.int .i64 a0_2) ∧ w29.cell? ⟨gb145, 3, none⟩ = some (.int .i64 a0_3) ∧ w29.cell? ⟨gb145, 4, none⟩ = some (.int .i64 a0_4) ∧ w29.cell? ⟨gb145, 5, none⟩ = some (.string a0_5) ∧ w29.cell? ⟨gb145, 6, none⟩ = some (.string a0_6) ∧ w29.cell? ⟨gb145, 7, none⟩ = some (.string a0_7) := hS_
                refine norm_ (a' := ?_) ?_ ?_
                rotate_left
                ·simp only [putAll, Act.put, List.setIfInBounds_toArray, List.set_cons_zero, List.set_cons_succ]
                 rfl
                refine on 23 (some 30) (fb 35 1728053247) HT_ (fun K hK => ?_)
                refine goes_ Try.func95 (by kernel_rfl) rfl #[.string a0_5] (by rfl) rfl rfl (by (try simp only [List.map_toArray, List.map_cons, List.map_nil]); first | done | rfl | (simp only [List.length_drop, List.length_take]; rfl)) ?_
                with_reducible refine (spec_l06Short.calls k a0_5 t154 _ A12.out).mono ?_
                rintro e w30 ⟨rfl, hb⟩
                refine ⟨_, rfl, ?_⟩
                replace HO149 := rB HO149 hb
                replace BK145 := bB BK145 hb
                replace HB := ak (below_step (lT HB (gC GE145 gN)) hb)
                (try clear hb)
                (try clear hb2)
                (try clear hk)
                (try clear hi)
                refine hK.out _ _ ⟨bc BK145 0, bc BK145 1, bc BK145 2, bc BK145 3, bc BK145 4, bc BK145 5, bc BK145 6, bc BK145 7⟩ (fun hHeld => ?_)
                clear hK K
                refine nm ?_
                refine pu 24 31 (fb 35 1744830463) HT_ ?_
                exact norm_ (by first | (simp only [putAll, Act.put, List.setIfInBounds_toArray, List.set_cons_zero, List.set_cons_succ]; done) | (simp only [putAll, Act.put, List.setIfInBounds_toArray, List.set_cons_zero, List.set_cons_succ]; rfl)) (hJ3_4_7_11_15_19_23 (v148) _ ⟨hHeld, (rG HO149), (bG BK145), (lT HB (gC GE145 gN))⟩)
              ·skip
               rintro _ w29 ⟨hS_, h0_, h1_⟩
               have n0_ : Aside0 (w29.heap[gb145]? = some (.cells #[.int .i64 a0_0, .int .i64 a0_1, .int .i64 a0_2, .int .i64 a0_3, .int .i64 a0_4, .string a0_5, .string a0_6, .string a0_7] 23 (0, 0))) := ⟨h0_⟩
               have n1_ : Aside0 (Below w.heap.size w w29) := ⟨h1_⟩
               clear BK145
               clear HB
               clear h0_ h1_
               have BK145 := n0_
               have HB := n1_
               clear n0_ n1_
               have hHeld : w29.cell? ⟨gb145, 0, none⟩ = some (.int .i64 a0_0) ∧ w29.cell? ⟨gb145, 1, none⟩ = some (.int .i64 a0_1) ∧ w29.cell? ⟨gb145, 2, none⟩ = some (.int .i64 a0_2) ∧ w29.cell? ⟨gb145, 3, none⟩ = some (.int .i64 a0_3) ∧ w29.cell? ⟨gb145, 4, none⟩ = some (.int .i64 a0_4) ∧ w29.cell? ⟨gb145, 5, none⟩ = some (.string a0_5) ∧ w29.cell? ⟨gb145, 6, none⟩ = some (.string a0_6) ∧ w29.cell? ⟨gb145, 7, none⟩ = some (.string a0_7) := hS_
               refine norm_ (a' := ?_) ?_ ?_
               rotate_left
               ·simp only [putAll, Act.put, List.setIfInBounds_toArray, List.set_cons_zero, List.set_cons_succ]
                rfl
               refine on 3 (some 10) (fb 35 4008636143) HT_ (fun K hK => ?_)
               refine Kd.R_lit_step (Kd.int .u8) _ 5 ?hg (N := 10) ?hd (xs := ([(a0_0) % 256] : List Int)) (inner := [.int .u8 ((a0_0) % 256)]) (ok := fun _ => True) (okp := fun _ => True) ?hr ?hp (fun _ hk => hk) trivial (Below.refl _ _) (Nat.le_refl _) (by simp) ?_; (case hd => rfl); (case hg => rfl); (case hr => first | (go_simp; done) | (go_simp; rfl)); (case hp => exact (Reps.one (show Kd.M (Kd.int .u8) _ _ _ ((a0_0) % 256) [.int .u8 ((a0_0) % 256)] from rfl) (Reps.none _ _)))
               intro v148 w30 ho31 hb hg_ hnew_
               clear hg_ hnew_
               (first | rw [← Ny147.out] at ho31 | (simp only [Int.reduceToNat] at ho31; rw [← Ny147.out] at ho31))
               replace HO149 := ak (Kd.R_lower ho31 (below_size (lT HB (gC GE145 gN))))
               replace BK145 := bB BK145 hb
               replace HB := ak (below_step (lT HB (gC GE145 gN)) hb)
               clear hb ho31
               refine hK.out _ _ ⟨bc BK145 0, bc BK145 1, bc BK145 2, bc BK145 3, bc BK145 4, bc BK145 5, bc BK145 6, bc BK145 7⟩ (fun hHeld => ?_)
               clear hK K
               refine nm ?_
               exact norm_ (by first | (simp only [putAll, Act.put, List.setIfInBounds_toArray, List.set_cons_zero, List.set_cons_succ]; done) | (simp only [putAll, Act.put, List.setIfInBounds_toArray, List.set_cons_zero, List.set_cons_succ]; rfl)) (hJ3_7_11_15_19_23_27_31 (v148) _ ⟨hHeld, (rG HO149), (bG BK145), (lT HB (gC GE145 gN))⟩)
             ·skip
              rintro v148 w30 ⟨hS_, h0_, h1_, h2_⟩
              have n0_ : Aside0 (Kd.R (Kd.int .u8) 5 w30 w.heap.size (fun _ => True) v148 y147) := ⟨h0_⟩
              have n1_ : Aside0 (w30.heap[gb145]? = some (.cells #[.int .i64 a0_0, .int .i64 a0_1, .int .i64 a0_2, .int .i64 a0_3, .int .i64 a0_4, .string a0_5, .string a0_6, .string a0_7] 23 (0, 0))) := ⟨h1_⟩
              have n2_ : Aside0 (Below w.heap.size w w30) := ⟨h2_⟩
              clear BK145
              clear HB
              clear h0_ h1_ h2_
              have HO149 := n0_
              have BK145 := n1_
              have HB := n2_
              clear n0_ n1_ n2_
              have hHeld : w30.cell? ⟨gb145, 0, none⟩ = some (.int .i64 a0_0) ∧ w30.cell? ⟨gb145, 1, none⟩ = some (.int .i64 a0_1) ∧ w30.cell? ⟨gb145, 2, none⟩ = some (.int .i64 a0_2) ∧ w30.cell? ⟨gb145, 3, none⟩ = some (.int .i64 a0_3) ∧ w30.cell? ⟨gb145, 4, none⟩ = some (.int .i64 a0_4) ∧ w30.cell? ⟨gb145, 5, none⟩ = some (.string a0_5) ∧ w30.cell? ⟨gb145, 6, none⟩ = some (.string a0_6) ∧ w30.cell? ⟨gb145, 7, none⟩ = some (.string a0_7) := hS_
              refine norm_ (a' := ?_) ?_ ?_
              rotate_left
              ·simp only [putAll, Act.put, List.setIfInBounds_toArray, List.set_cons_zero, List.set_cons_succ]
               rfl
              refine two_ (i := 4) (j := 31) (Ni := some 11) (Nj := some 38) #[t_,t_,t_,t_,t_,t_,t_,t_,f_,t_,t_,t_,f_,t_,t_,t_,f_,t_,t_,t_,f_,t_,t_,t_,f_,t_,t_,t_,f_,t_,t_,f_,f_,f_,f_] #[t_,t_,t_,t_,f_,t_,t_,t_,f_,t_,t_,t_,f_,t_,t_,t_,f_,t_,t_,t_,f_,t_,t_,t_,f_,t_,t_,t_,f_,t_,t_,t_,f_,f_,f_] rfl rfl rfl rfl (two_of HT_.out (by kernel_rfl)) (by decide) (by decide) (fun K hK => ?_) (fun K hK => ?_)
              ·skip
               have hcv31 := own_string (P := Try.prog) Try.underlying46 Try.underlying5 Try.underlying9 (Kd.own_of_R HO149.out)
               refine value_ (w1 := ?_) (v := ?_) (by rfl) rfl ?_ ?_
               rotate_left 2
               ·go_simp
                constructor
                ·rfl
                ·rfl
               clear hcv31
               refine hK.out _ _ ⟨bc BK145 0, bc BK145 1, bc BK145 2, bc BK145 3, bc BK145 4, bc BK145 5, bc BK145 6, bc BK145 7⟩ (fun hHeld => ?_)
               clear hK K
               refine nm ?_
               refine pu 8 15 (fb 35 1861152767) HT_ ?_
               refine pu 12 19 (fb 35 1861156863) HT_ ?_
               refine pu 16 23 (fb 35 1861222399) HT_ ?_
               refine pu 20 27 (fb 35 1862270975) HT_ ?_
               refine pu 24 31 (fb 35 1879048191) HT_ ?_
               refine pu 28 35 (fb 35 2147483647) HT_ ?_
               exact norm_ (by first | (simp only [putAll, Act.put, List.setIfInBounds_toArray, List.set_cons_zero, List.set_cons_succ]; done) | (simp only [putAll, Act.put, List.setIfInBounds_toArray, List.set_cons_zero, List.set_cons_succ]; rfl)) (hJ3_4_7_11_15_19_23_27 (v148) _ ⟨hHeld, (rG HO149), (bG BK145), (lT HB (gC GE145 gN))⟩)
              ·skip
               refine goes_ Try.func95 (by kernel_rfl) rfl #[.string a0_7] (by rfl) rfl rfl (by (try simp only [List.map_toArray, List.map_cons, List.map_nil]); first | done | rfl | (simp only [List.length_drop, List.length_take]; rfl)) ?_
               with_reducible refine (spec_l06Short.calls k a0_7 t156 _ A16.out).mono ?_
               rintro e w31 ⟨rfl, hb⟩
               refine ⟨_, rfl, ?_⟩
               replace HO149 := rB HO149 hb
               replace BK145 := bB BK145 hb
               replace HB := ak (below_step (lT HB (gC GE145 gN)) hb)
               (try clear hb)
               (try clear hb2)
               (try clear hk)
               (try clear hi)
               refine hK.out _ _ ⟨bc BK145 0, bc BK145 1, bc BK145 2, bc BK145 3, bc BK145 4, bc BK145 5, bc BK145 6, bc BK145 7⟩ (fun hHeld => ?_)
               clear hK K
               refine nm ?_
               exact norm_ (by first | (simp only [putAll, Act.put, List.setIfInBounds_toArray, List.set_cons_zero, List.set_cons_succ]; done) | (simp only [putAll, Act.put, List.setIfInBounds_toArray, List.set_cons_zero, List.set_cons_succ]; rfl)) (hJ3_7_11_15_19_23_27_31 (v148) _ ⟨hHeld, (rG HO149), (bG BK145), (lT HB (gC GE145 gN))⟩)
            ·skip
             rintro v148 w30 ⟨hS_, h0_, h1_, h2_⟩
             have n0_ : Aside0 (Kd.R (Kd.int .u8) 5 w30 w.heap.size (fun _ => True) v148 y147) := ⟨h0_⟩
             have n1_ : Aside0 (w30.heap[gb145]? = some (.cells #[.int .i64 a0_0, .int .i64 a0_1, .int .i64 a0_2, .int .i64 a0_3, .int .i64 a0_4, .string a0_5, .string a0_6, .string a0_7] 23 (0, 0))) := ⟨h1_⟩
             have n2_ : Aside0 (Below w.heap.size w w30) := ⟨h2_⟩
             clear BK145
             clear HB
             clear h0_ h1_ h2_
             have HO149 := n0_
             have BK145 := n1_
             have HB := n2_
             clear n0_ n1_ n2_
             have hHeld : w30.cell? ⟨gb145, 0, none⟩ = some (.int .i64 a0_0) ∧ w30.cell? ⟨gb145, 1, none⟩ = some (.int .i64 a0_1) ∧ w30.cell? ⟨gb145, 2, none⟩ = some (.int .i64 a0_2) ∧ w30.cell? ⟨gb145, 3, none⟩ = some (.int .i64 a0_3) ∧ w30.cell? ⟨gb145, 4, none⟩ = some (.int .i64 a0_4) ∧ w30.cell? ⟨gb145, 5, none⟩ = some (.string a0_5) ∧ w30.cell? ⟨gb145, 6, none⟩ = some (.string a0_6) ∧ w30.cell? ⟨gb145, 7, none⟩ = some (.string a0_7) := hS_
             refine norm_ (a' := ?_) ?_ ?_
             rotate_left
             ·simp only [putAll, Act.put, List.setIfInBounds_toArray, List.set_cons_zero, List.set_cons_succ]
              rfl
             refine on 27 (some 34) (fb 35 1879048191) HT_ (fun K hK => ?_)
             refine goes_ Try.func95 (by kernel_rfl) rfl #[.string a0_6] (by rfl) rfl rfl (by (try simp only [List.map_toArray, List.map_cons, List.map_nil]); first | done | rfl | (simp only [List.length_drop, List.length_take]; rfl)) ?_
             with_reducible refine (spec_l06Short.calls k a0_6 t155 _ A14.out).mono ?_
             rintro e w31 ⟨rfl, hb⟩
             refine ⟨_, rfl, ?_⟩
             replace HO149 := rB HO149 hb
             replace BK145 := bB BK145 hb
             replace HB := ak (below_step (lT HB (gC GE145 gN)) hb)
             (try clear hb)
             (try clear hb2)
             (try clear hk)
             (try clear hi)
             refine hK.out _ _ ⟨bc BK145 0, bc BK145 1, bc BK145 2, bc BK145 3, bc BK145 4, bc BK145 5, bc BK145 6, bc BK145 7⟩ (fun hHeld => ?_)
             clear hK K
             refine nm ?_
             refine pu 28 35 (fb 35 2147483647) HT_ ?_
             exact norm_ (by first | (simp only [putAll, Act.put, List.setIfInBounds_toArray, List.set_cons_zero, List.set_cons_succ]; done) | (simp only [putAll, Act.put, List.setIfInBounds_toArray, List.set_cons_zero, List.set_cons_succ]; rfl)) (hJ3_4_7_11_15_19_23_27 (v148) _ ⟨hHeld, (rG HO149), (bG BK145), (lT HB (gC GE145 gN))⟩)
           ·skip
            rintro v148 w31 ⟨hS_, h0_, h1_, h2_⟩
            have n0_ : Aside0 (Kd.R (Kd.int .u8) 5 w31 w.heap.size (fun _ => True) v148 y147) := ⟨h0_⟩
            have n1_ : Aside0 (w31.heap[gb145]? = some (.cells #[.int .i64 a0_0, .int .i64 a0_1, .int .i64 a0_2, .int .i64 a0_3, .int .i64 a0_4, .string a0_5, .string a0_6, .string a0_7] 23 (0, 0))) := ⟨h1_⟩
            have n2_ : Aside0 (Below w.heap.size w w31) := ⟨h2_⟩
            clear BK145
            clear HB
            clear h0_ h1_ h2_
            have HO149 := n0_
            have BK145 := n1_
            have HB := n2_
            clear n0_ n1_ n2_
            have hHeld : w31.cell? ⟨gb145, 0, none⟩ = some (.int .i64 a0_0) ∧ w31.cell? ⟨gb145, 1, none⟩ = some (.int .i64 a0_1) ∧ w31.cell? ⟨gb145, 2, none⟩ = some (.int .i64 a0_2) ∧ w31.cell? ⟨gb145, 3, none⟩ = some (.int .i64 a0_3) ∧ w31.cell? ⟨gb145, 4, none⟩ = some (.int .i64 a0_4) ∧ w31.cell? ⟨gb145, 5, none⟩ = some (.string a0_5) ∧ w31.cell? ⟨gb145, 6, none⟩ = some (.string a0_6) ∧ w31.cell? ⟨gb145, 7, none⟩ = some (.string a0_7) := hS_
            refine norm_ (a' := ?_) ?_ ?_
            rotate_left
            ·simp only [putAll, Act.put, List.setIfInBounds_toArray, List.set_cons_zero, List.set_cons_succ]
             rfl
            refine on 4 (some 11) (fb 35 4008636159) HT_ (fun K hK => ?_)
            have hcv32 := own_string (P := Try.prog) Try.underlying46 Try.underlying5 Try.underlying9 (Kd.own_of_R HO149.out)
            refine value_ (w1 := ?_) (v := ?_) (by rfl) rfl ?_ ?_
            rotate_left 2
            ·go_simp
             constructor
             ·rfl
             ·rfl
            clear hcv32
            refine hK.out _ _ ⟨bc BK145 0, bc BK145 1, bc BK145 2, bc BK145 3, bc BK145 4, bc BK145 5, bc BK145 6, bc BK145 7⟩ (fun hHeld => ?_)
            clear hK K
            refine nm ?_
            refine pu 8 15 (fb 35 4008636415) HT_ ?_
            refine pu 12 19 (fb 35 4008640511) HT_ ?_
            refine pu 16 23 (fb 35 4008706047) HT_ ?_
            refine pu 20 27 (fb 35 4009754623) HT_ ?_
            refine pu 24 31 (fb 35 4026531839) HT_ ?_
            refine pu 28 35 (fb 35 4294967295) HT_ ?_
            exact norm_ (by first | (simp only [putAll, Act.put, List.setIfInBounds_toArray, List.set_cons_zero, List.set_cons_succ]; done) | (simp only [putAll, Act.put, List.setIfInBounds_toArray, List.set_cons_zero, List.set_cons_succ]; rfl)) (hJ3_4_7_11_15_19_23_27_31 (v148) _ ⟨hHeld, (rG HO149), (bG BK145), (lT HB (gC GE145 gN))⟩)
          ·skip
           rintro v148 w31 ⟨hS_, h0_, h1_, h2_⟩
           have n0_ : Aside0 (Kd.R (Kd.int .u8) 5 w31 w.heap.size (fun _ => True) v148 y147) := ⟨h0_⟩
           have n1_ : Aside0 (w31.heap[gb145]? = some (.cells #[.int .i64 a0_0, .int .i64 a0_1, .int .i64 a0_2, .int .i64 a0_3, .int .i64 a0_4, .string a0_5, .string a0_6, .string a0_7] 23 (0, 0))) := ⟨h1_⟩
           have n2_ : Aside0 (Below w.heap.size w w31) := ⟨h2_⟩
           clear BK145
           clear HB
           clear h0_ h1_ h2_
           have HO149 := n0_
           have BK145 := n1_
           have HB := n2_
           clear n0_ n1_ n2_
           have hHeld : w31.cell? ⟨gb145, 0, none⟩ = some (.int .i64 a0_0) ∧ w31.cell? ⟨gb145, 1, none⟩ = some (.int .i64 a0_1) ∧ w31.cell? ⟨gb145, 2, none⟩ = some (.int .i64 a0_2) ∧ w31.cell? ⟨gb145, 3, none⟩ = some (.int .i64 a0_3) ∧ w31.cell? ⟨gb145, 4, none⟩ = some (.int .i64 a0_4) ∧ w31.cell? ⟨gb145, 5, none⟩ = some (.string a0_5) ∧ w31.cell? ⟨gb145, 6, none⟩ = some (.string a0_6) ∧ w31.cell? ⟨gb145, 7, none⟩ = some (.string a0_7) := hS_
           refine norm_ (a' := ?_) ?_ ?_
           rotate_left
           ·simp only [putAll, Act.put, List.setIfInBounds_toArray, List.set_cons_zero, List.set_cons_succ]
            rfl
           refine on 31 (some 38) (fb 35 4294967295) HT_ (fun K hK => ?_)
           refine goes_ Try.func95 (by kernel_rfl) rfl #[.string a0_7] (by rfl) rfl rfl (by (try simp only [List.map_toArray, List.map_cons, List.map_nil]); first | done | rfl | (simp only [List.length_drop, List.length_take]; rfl)) ?_
           with_reducible refine (spec_l06Short.calls k a0_7 t156 _ A16.out).mono ?_
           rintro e w32 ⟨rfl, hb⟩
           refine ⟨_, rfl, ?_⟩
           replace HO149 := rB HO149 hb
           replace BK145 := bB BK145 hb
           replace HB := ak (below_step (lT HB (gC GE145 gN)) hb)
           (try clear hb)
           (try clear hb2)
           (try clear hk)
           (try clear hi)
           refine hK.out _ _ ⟨bc BK145 0, bc BK145 1, bc BK145 2, bc BK145 3, bc BK145 4, bc BK145 5, bc BK145 6, bc BK145 7⟩ (fun hHeld => ?_)
           clear hK K
           refine nm ?_
           exact norm_ (by first | (simp only [putAll, Act.put, List.setIfInBounds_toArray, List.set_cons_zero, List.set_cons_succ]; done) | (simp only [putAll, Act.put, List.setIfInBounds_toArray, List.set_cons_zero, List.set_cons_succ]; rfl)) (hJ3_4_7_11_15_19_23_27_31 (v148) _ ⟨hHeld, (rG HO149), (bG BK145), (lT HB (gC GE145 gN))⟩)
         rintro v148 w32 ⟨hS_, h0_, h1_, h2_⟩
         have n0_ : Aside0 (Kd.R (Kd.int .u8) 5 w32 w.heap.size (fun _ => True) v148 y147) := ⟨h0_⟩
         have n1_ : Aside0 (w32.heap[gb145]? = some (.cells #[.int .i64 a0_0, .int .i64 a0_1, .int .i64 a0_2, .int .i64 a0_3, .int .i64 a0_4, .string a0_5, .string a0_6, .string a0_7] 23 (0, 0))) := ⟨h1_⟩
         have n2_ : Aside0 (Below w.heap.size w w32) := ⟨h2_⟩
         clear BK145
         clear HB
         clear h0_ h1_ h2_
         have HO149 := n0_
         have BK145 := n1_
         have HB := n2_
         clear n0_ n1_ n2_
         have hHeld : w32.cell? ⟨gb145, 0, none⟩ = some (.int .i64 a0_0) ∧ w32.cell? ⟨gb145, 1, none⟩ = some (.int .i64 a0_1) ∧ w32.cell? ⟨gb145, 2, none⟩ = some (.int .i64 a0_2) ∧ w32.cell? ⟨gb145, 3, none⟩ = some (.int .i64 a0_3) ∧ w32.cell? ⟨gb145, 4, none⟩ = some (.int .i64 a0_4) ∧ w32.cell? ⟨gb145, 5, none⟩ = some (.string a0_5) ∧ w32.cell? ⟨gb145, 6, none⟩ = some (.string a0_6) ∧ w32.cell? ⟨gb145, 7, none⟩ = some (.string a0_7) := hS_
         refine norm_ (a' := ?_) ?_ ?_
         rotate_left
         ·simp only [putAll, Act.put, List.setIfInBounds_toArray, List.set_cons_zero, List.set_cons_succ]
          rfl
         refine pu 32 39 (fb 35 8589934591) HT_ ?_
         refine pu 33 2 (fb 35 17179869183) HT_ ?_
         refine pu 34 3 (fb 35 34359738367) HT_ ?_
         refine done_ (done_of HT_.out (by kernel_rfl)) ?_
         try go_wp2
         go_ret2
         exact ⟨ew, by exact lT HB (gC GE145 gN)⟩
        ·rw [if_neg c17] at H
         exact absurd H (by simp)
       ·rw [if_neg c15] at H
        exact absurd H (by simp)
      ·rw [if_neg c13] at H
       exact absurd H (by simp)
     ·rw [if_neg c11] at H
      exact absurd H (by simp)
    ·rw [if_neg c9] at H
     exact absurd H (by simp)
   ·rw [if_neg c7] at H
    exact absurd H (by simp)
  ·rw [if_neg c5] at H
   exact absurd H (by simp)
 ·replace c3 := Bool.eq_false_iff.mpr c3
  subst c3
  have H1 : (some ((⟨#[]⟩ : ByteArray), false)) = some (r1, r2) := by rw [if_neg (show ¬ (false = true) by decide)] at H; exact H
  clear H
  have H := H1
  clear H1
  simp only [Option.some.injEq, Prod.mk.injEq] at H
  obtain ⟨rfl, rfl⟩ := H
  go_enter Try.func55, Try.ntmps55
  go_wp2_with (first | ((with_reducible refine gate_dst (N := 1) rfl ?_); refine bx 1 #[.int .i64 a0_0, .int .i64 a0_1, .int .i64 a0_2, .int .i64 a0_3, .int .i64 a0_4, .string a0_5, .string a0_6, .string a0_7] 23 ?_; intro gb145 hg w33 hbox hb; replace BK145 := ak (hbox); replace GW145 := ak (bz hg (lG HB)); replace GE145 := ak (bz hg (lG HB)); replace HB := lB HB hb; clear hb hbox hg; obtain ⟨hcz34_0, hcz34_1, hcz34_2, hcz34_3, hcz34_4, hcz34_5, hcz34_6, hcz34_7, hfz34_0, hfz34_1, hfz34_2, hfz34_3, hfz34_4, hfz34_5, hfz34_6, hfz34_7⟩ := bC8 BK145) | ((with_reducible refine gate_callee (f := 27) rfl ?_); refine gl (some 5) Try.func27 #[.agg #[.int .i64 a0_0, .int .i64 a0_1, .int .i64 a0_2, .int .i64 a0_3, .int .i64 a0_4, .string a0_5, .string a0_6, .string a0_7]] ?_; (with_reducible refine (spec_RecOk.calls k a0_0 a0_1 a0_2 a0_3 a0_4 a0_5 a0_6 a0_7 false _ A2.out).mono ?_); rintro e w35 ⟨rfl, hb⟩; refine ⟨_, rfl, ?_⟩; replace BK145 := bB BK145 hb; replace HB := ak (below_step (lT HB (gC GE145 gN)) hb); (try clear hb); (try clear hk)))
  go_ret2
  exact ⟨ew, by exact lT HB (gC GE145 gN)⟩

end Go.Proofs.Ytagkjeldheiejaa.PFnRecords
