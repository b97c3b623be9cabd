-- Written for this claim by a program of mine (a turned copy of the kit's print): functions as plain Lean, and their contracts. Lean checks it.
import Derived.Test.YtagkjeldheiejaaPFnRecordsx0
import Derived.Test.YtagkjeldheiejaaPFnRecordsx4
import Derived.Test.YtagkjeldheiejaaPFnRecordsx5
import Derived.Test.YtagkjeldheiejaaPFnRecordsx7
import Derived.Test.YtagkjeldheiejaaVFnRecords1
namespace Go.Proofs.Ytagkjeldheiejaa.PFnRecords
open Go.RowKit Go.Proofs.YtagkjeldheiejaaW.PrintWords Go.Proofs.YtagkjeldheiejaaW.PrintLast Go.Proofs.YtagkjeldheiejaaW.PrintMore
attribute [local go_sem] max2_int min2_int max_two min_two max_three min_three max_four min_four   -- for this text's walks alone
set_option linter.unusedVariables false
set_option linter.unusedSimpArgs false

/-! ### spec_ReadRec: function 10 -/
def spec_ReadRec.f (k : Nat) (a0 : ByteArray) : Option (Int × Int × Int × Int × Int × ByteArray × ByteArray × ByteArray × Bool) := if a0.toList = ([] : List UInt8) then (some (0, 0, 0, 0, 0, (⟨#[]⟩ : ByteArray), (⟨#[]⟩ : ByteArray), (⟨#[]⟩ : ByteArray), false)) else (if 0 < (a0.size : Int) then ((spec_l06Var.f k a0 1 false).bind fun bt159 => ((spec_l06Var.f k bt159.2.1 bt159.2.2.1 bt159.2.2.2).bind fun bt164 => ((spec_l06Var.f k bt164.2.1 bt164.2.2.1 bt164.2.2.2).bind fun bt168 => ((spec_l06Var.f k bt168.2.1 bt168.2.2.1 bt168.2.2.2).bind fun bt172 => ((spec_l06ReadShort.f k bt172.2.1 bt172.2.2.1 bt172.2.2.2).bind fun bt176 => ((spec_l06ReadShort.f k bt176.2.1 bt176.2.2.1 bt176.2.2.2).bind fun bt180 => ((spec_l06ReadShort.f k bt180.2.1 bt180.2.2.1 bt180.2.2.2).bind fun bt184 => ((spec_RecText.f k (wrap64 (bt a0 0)) bt159.1 bt164.1 bt168.1 bt172.1 bt176.1 bt180.1 bt184.1).bind fun bt188 => (if bt184.2.2.2 = true then (some (0, 0, 0, 0, 0, (⟨#[]⟩ : ByteArray), (⟨#[]⟩ : ByteArray), (⟨#[]⟩ : ByteArray), false)) else (if bt188.2 = true then (if bt188.1.toList = a0.toList then (some (wrap64 (bt a0 0), bt159.1, bt164.1, bt168.1, bt172.1, bt176.1, bt180.1, bt184.1, true)) else (some (0, 0, 0, 0, 0, (⟨#[]⟩ : ByteArray), (⟨#[]⟩ : ByteArray), (⟨#[]⟩ : ByteArray), false))) else (some (0, 0, 0, 0, 0, (⟨#[]⟩ : ByteArray), (⟨#[]⟩ : ByteArray), (⟨#[]⟩ : ByteArray), false)))))))))))) else (none))
theorem spec_ReadRec.mono : ∀ a0 k, LeO (spec_ReadRec.f k a0) (spec_ReadRec.f (k + 1) a0) := by
 intro a0 k
 unfold spec_ReadRec.f
 repeat' first
   | (with_reducible exact spec_RecText.mono _ _ _ _ _ _ _ _ _)
   | (with_reducible exact spec_l06ReadShort.mono _ _ _ _)
   | (with_reducible exact spec_l06Var.mono _ _ _ _)
   | (with_reducible exact LeO.refl _)
   | (with_reducible exact LeO.none _)
   | (with_reducible refine LeO.ite ?_ ?_)
   | (with_reducible refine LeO.bind ?_ (fun _ => ?_))
   | exact spec_RecText.mono _ _ _ _ _ _ _ _ _
   | exact spec_l06ReadShort.mono _ _ _ _
   | exact spec_l06Var.mono _ _ _ _
   | exact LeO.none _
   | refine LeO.ite ?_ ?_
   | refine LeO.bind ?_ (fun _ => ?_)
def spec_ReadRec.T4 : Bool × List (List Nat × List Nat) := (true, [([], []), ([0], [0]), ([1], [1]), ([], []), ([3], [3]), ([2, 4], [2, 4]), ([], []), ([6, 5, 4, 0, 1, 2, 3, 4, 5, 6], [5, 6])])
def spec_ReadRec.B4 : List Nat := [0, 1, 3, 0, 8, 31, 0, 127]
theorem spec_ReadRec.tab4 : rtab .any (opsOf Try.f10 4) = spec_ReadRec.T4 := by kernel_rfl
theorem spec_ReadRec.bits4 : waitsOk spec_ReadRec.T4.2 spec_ReadRec.B4 = true := by kernel_rfl
set_option maxHeartbeats 8000000 in
set_option maxRecDepth 100000 in
theorem spec_ReadRec.calls (k : Nat) (a0 : ByteArray) (r1 : Int) (r2 : Int) (r3 : Int) (r4 : Int) (r5 : Int) (r6 : ByteArray) (r7 : ByteArray) (r8 : ByteArray) (r9 : Bool) (w : World) (h : spec_ReadRec.f k a0 = some (r1, r2, r3, r4, r5, r6, r7, r8, r9)) :
  Calls Try.prog 10 #[.string a0] w fun e w' => e = .returned (.tuple #[.agg #[.int .i64 r1, .int .i64 r2, .int .i64 r3, .int .i64 r4, .int .i64 r5, .string r6, .string r7, .string r8], .bool r9]) ∧ Below w.heap.size w w' := by
 have hu23 := Try.underlying23
 have hu83 := Try.underlying83
 have HB := ak (Below.refl w.heap.size w)
 have H : (if a0.toList = ([] : List UInt8) then (some (0, 0, 0, 0, 0, (⟨#[]⟩ : ByteArray), (⟨#[]⟩ : ByteArray), (⟨#[]⟩ : ByteArray), false)) else (if 0 < (a0.size : Int) then ((spec_l06Var.f k a0 1 false).bind fun bt159 => ((spec_l06Var.f k bt159.2.1 bt159.2.2.1 bt159.2.2.2).bind fun bt164 => ((spec_l06Var.f k bt164.2.1 bt164.2.2.1 bt164.2.2.2).bind fun bt168 => ((spec_l06Var.f k bt168.2.1 bt168.2.2.1 bt168.2.2.2).bind fun bt172 => ((spec_l06ReadShort.f k bt172.2.1 bt172.2.2.1 bt172.2.2.2).bind fun bt176 => ((spec_l06ReadShort.f k bt176.2.1 bt176.2.2.1 bt176.2.2.2).bind fun bt180 => ((spec_l06ReadShort.f k bt180.2.1 bt180.2.2.1 bt180.2.2.2).bind fun bt184 => ((spec_RecText.f k (wrap64 (bt a0 0)) bt159.1 bt164.1 bt168.1 bt172.1 bt176.1 bt180.1 bt184.1).bind fun bt188 => (if bt184.2.2.2 = true then (some (0, 0, 0, 0, 0, (⟨#[]⟩ : ByteArray), (⟨#[]⟩ : ByteArray), (⟨#[]⟩ : ByteArray), false)) else (if bt188.2 = true then (if bt188.1.toList = a0.toList then (some (wrap64 (bt a0 0), bt159.1, bt164.1, bt168.1, bt172.1, bt176.1, bt180.1, bt184.1, true)) else (some (0, 0, 0, 0, 0, (⟨#[]⟩ : ByteArray), (⟨#[]⟩ : ByteArray), (⟨#[]⟩ : ByteArray), false))) else (some (0, 0, 0, 0, 0, (⟨#[]⟩ : ByteArray), (⟨#[]⟩ : ByteArray), (⟨#[]⟩ : ByteArray), false)))))))))))) else (none))) = some (r1, r2, r3, r4, r5, r6, r7, r8, r9) := h
 clear h
 by_cases c2 : a0.toList = ([] : List UInt8)
 ·rw [if_pos c2] at H
  have c2b0 : (a0.toList == ([] : List UInt8)) = true := beq_iff_eq.mpr c2
  have c2b1 : (a0.toList != ([] : List UInt8)) = false := bne_eq_false_iff_eq.mpr c2
  clear c2
  simp only [Option.some.injEq, Prod.mk.injEq] at H
  obtain ⟨rfl, rfl, rfl, rfl, rfl, rfl, rfl, rfl, rfl⟩ := H
  go_enter Try.func10, Try.ntmps10
  go_wp2_with (first | ((with_reducible refine gate_dst (N := 2) rfl ?_); refine bx 2 #[.int .i64 0, .int .i64 0, .int .i64 0, .int .i64 0, .int .i64 0, .string (⟨#[]⟩ : ByteArray), .string (⟨#[]⟩ : ByteArray), .string (⟨#[]⟩ : ByteArray)] 23 ?_; intro gb157 hg w3 hbox hb; replace BK157 := ak (hbox); replace GW157 := ak (bz hg (lG HB)); replace GE157 := ak (bz hg (lG HB)); replace HB := lB HB hb; clear hb hbox hg; obtain ⟨hcz4_0, hcz4_1, hcz4_2, hcz4_3, hcz4_4, hcz4_5, hcz4_6, hcz4_7, hfz4_0, hfz4_1, hfz4_2, hfz4_3, hfz4_4, hfz4_5, hfz4_6, hfz4_7⟩ := bC8 BK157))
  refine bodyPost_ret (results_ct rfl _ _ gb157 23 #[.int .i64 0, .int .i64 0, .int .i64 0, .int .i64 0, .int .i64 0, .string (⟨#[]⟩ : ByteArray), .string (⟨#[]⟩ : ByteArray), .string (⟨#[]⟩ : ByteArray)] (0, 0) _ rfl (bW BK157) Try.underlying23 rfl (by kernel_rfl)) rfl ?_
  exact ⟨ew, by exact lT HB (gC GE157 gN)⟩
 ·rw [if_neg c2] at H
  have c2b0 : (a0.toList == ([] : List UInt8)) = false := beq_eq_false_iff_ne.mpr c2
  have c2b1 : (a0.toList != ([] : List UInt8)) = true := bne_iff_ne.mpr c2
  by_cases c5 : 0 < (a0.size : Int)
  ·rw [if_pos c5] at H
   have c5b0 : decide (0 < (a0.size : Int)) = true := decide_eq_true c5
   have c5b1 : decide (0 < a0.size) = true := decide_eq_true (by omega)
   clear c5
   replace H := Option.bind_eq_some_iff.mp H
   obtain ⟨⟨t159, t160, t161, t162⟩, A70, H⟩ := H
   replace H : ((spec_l06Var.f k t160 t161 t162).bind fun bt164 => ((spec_l06Var.f k bt164.2.1 bt164.2.2.1 bt164.2.2.2).bind fun bt168 => ((spec_l06Var.f k bt168.2.1 bt168.2.2.1 bt168.2.2.2).bind fun bt172 => ((spec_l06ReadShort.f k bt172.2.1 bt172.2.2.1 bt172.2.2.2).bind fun bt176 => ((spec_l06ReadShort.f k bt176.2.1 bt176.2.2.1 bt176.2.2.2).bind fun bt180 => ((spec_l06ReadShort.f k bt180.2.1 bt180.2.2.1 bt180.2.2.2).bind fun bt184 => ((spec_RecText.f k (wrap64 (bt a0 0)) t159 bt164.1 bt168.1 bt172.1 bt176.1 bt180.1 bt184.1).bind fun bt188 => (if bt184.2.2.2 = true then (some (0, 0, 0, 0, 0, (⟨#[]⟩ : ByteArray), (⟨#[]⟩ : ByteArray), (⟨#[]⟩ : ByteArray), false)) else (if bt188.2 = true then (if bt188.1.toList = a0.toList then (some (wrap64 (bt a0 0), t159, bt164.1, bt168.1, bt172.1, bt176.1, bt180.1, bt184.1, true)) else (some (0, 0, 0, 0, 0, (⟨#[]⟩ : ByteArray), (⟨#[]⟩ : ByteArray), (⟨#[]⟩ : ByteArray), false))) else (some (0, 0, 0, 0, 0, (⟨#[]⟩ : ByteArray), (⟨#[]⟩ : ByteArray), (⟨#[]⟩ : ByteArray), false))))))))))) = some (r1, r2, r3, r4, r5, r6, r7, r8, r9) := H
   have A7 := Aside0.mk A70
   clear A70
   replace H := Option.bind_eq_some_iff.mp H
   obtain ⟨⟨t164, t165, t166, t167⟩, A80, H⟩ := H
   replace H : ((spec_l06Var.f k t165 t166 t167).bind fun bt168 => ((spec_l06Var.f k bt168.2.1 bt168.2.2.1 bt168.2.2.2).bind fun bt172 => ((spec_l06ReadShort.f k bt172.2.1 bt172.2.2.1 bt172.2.2.2).bind fun bt176 => ((spec_l06ReadShort.f k bt176.2.1 bt176.2.2.1 bt176.2.2.2).bind fun bt180 => ((spec_l06ReadShort.f k bt180.2.1 bt180.2.2.1 bt180.2.2.2).bind fun bt184 => ((spec_RecText.f k (wrap64 (bt a0 0)) t159 t164 bt168.1 bt172.1 bt176.1 bt180.1 bt184.1).bind fun bt188 => (if bt184.2.2.2 = true then (some (0, 0, 0, 0, 0, (⟨#[]⟩ : ByteArray), (⟨#[]⟩ : ByteArray), (⟨#[]⟩ : ByteArray), false)) else (if bt188.2 = true then (if bt188.1.toList = a0.toList then (some (wrap64 (bt a0 0), t159, t164, bt168.1, bt172.1, bt176.1, bt180.1, bt184.1, true)) else (some (0, 0, 0, 0, 0, (⟨#[]⟩ : ByteArray), (⟨#[]⟩ : ByteArray), (⟨#[]⟩ : ByteArray), false))) else (some (0, 0, 0, 0, 0, (⟨#[]⟩ : ByteArray), (⟨#[]⟩ : ByteArray), (⟨#[]⟩ : ByteArray), false)))))))))) = some (r1, r2, r3, r4, r5, r6, r7, r8, r9) := H
   have A8 := Aside0.mk A80
   clear A80
   replace H := Option.bind_eq_some_iff.mp H
   obtain ⟨⟨t168, t169, t170, t171⟩, A90, H⟩ := H
   replace H : ((spec_l06Var.f k t169 t170 t171).bind fun bt172 => ((spec_l06ReadShort.f k bt172.2.1 bt172.2.2.1 bt172.2.2.2).bind fun bt176 => ((spec_l06ReadShort.f k bt176.2.1 bt176.2.2.1 bt176.2.2.2).bind fun bt180 => ((spec_l06ReadShort.f k bt180.2.1 bt180.2.2.1 bt180.2.2.2).bind fun bt184 => ((spec_RecText.f k (wrap64 (bt a0 0)) t159 t164 t168 bt172.1 bt176.1 bt180.1 bt184.1).bind fun bt188 => (if bt184.2.2.2 = true then (some (0, 0, 0, 0, 0, (⟨#[]⟩ : ByteArray), (⟨#[]⟩ : ByteArray), (⟨#[]⟩ : ByteArray), false)) else (if bt188.2 = true then (if bt188.1.toList = a0.toList then (some (wrap64 (bt a0 0), t159, t164, t168, bt172.1, bt176.1, bt180.1, bt184.1, true)) else (some (0, 0, 0, 0, 0, (⟨#[]⟩ : ByteArray), (⟨#[]⟩ : ByteArray), (⟨#[]⟩ : ByteArray), false))) else (some (0, 0, 0, 0, 0, (⟨#[]⟩ : ByteArray), (⟨#[]⟩ : ByteArray), (⟨#[]⟩ : ByteArray), false))))))))) = some (r1, r2, r3, r4, r5, r6, r7, r8, r9) := H
   have A9 := Aside0.mk A90
   clear A90
   replace H := Option.bind_eq_some_iff.mp H
   obtain ⟨⟨t172, t173, t174, t175⟩, A100, H⟩ := H
   replace H : ((spec_l06ReadShort.f k t173 t174 t175).bind fun bt176 => ((spec_l06ReadShort.f k bt176.2.1 bt176.2.2.1 bt176.2.2.2).bind fun bt180 => ((spec_l06ReadShort.f k bt180.2.1 bt180.2.2.1 bt180.2.2.2).bind fun bt184 => ((spec_RecText.f k (wrap64 (bt a0 0)) t159 t164 t168 t172 bt176.1 bt180.1 bt184.1).bind fun bt188 => (if bt184.2.2.2 = true then (some (0, 0, 0, 0, 0, (⟨#[]⟩ : ByteArray), (⟨#[]⟩ : ByteArray), (⟨#[]⟩ : ByteArray), false)) else (if bt188.2 = true then (if bt188.1.toList = a0.toList then (some (wrap64 (bt a0 0), t159, t164, t168, t172, bt176.1, bt180.1, bt184.1, true)) else (some (0, 0, 0, 0, 0, (⟨#[]⟩ : ByteArray), (⟨#[]⟩ : ByteArray), (⟨#[]⟩ : ByteArray), false))) else (some (0, 0, 0, 0, 0, (⟨#[]⟩ : ByteArray), (⟨#[]⟩ : ByteArray), (⟨#[]⟩ : ByteArray), false)))))))) = some (r1, r2, r3, r4, r5, r6, r7, r8, r9) := H
   have A10 := Aside0.mk A100
   clear A100
   replace H := Option.bind_eq_some_iff.mp H
   obtain ⟨⟨t176, t177, t178, t179⟩, A110, H⟩ := H
   replace H : ((spec_l06ReadShort.f k t177 t178 t179).bind fun bt180 => ((spec_l06ReadShort.f k bt180.2.1 bt180.2.2.1 bt180.2.2.2).bind fun bt184 => ((spec_RecText.f k (wrap64 (bt a0 0)) t159 t164 t168 t172 t176 bt180.1 bt184.1).bind fun bt188 => (if bt184.2.2.2 = true then (some (0, 0, 0, 0, 0, (⟨#[]⟩ : ByteArray), (⟨#[]⟩ : ByteArray), (⟨#[]⟩ : ByteArray), false)) else (if bt188.2 = true then (if bt188.1.toList = a0.toList then (some (wrap64 (bt a0 0), t159, t164, t168, t172, t176, bt180.1, bt184.1, true)) else (some (0, 0, 0, 0, 0, (⟨#[]⟩ : ByteArray), (⟨#[]⟩ : ByteArray), (⟨#[]⟩ : ByteArray), false))) else (some (0, 0, 0, 0, 0, (⟨#[]⟩ : ByteArray), (⟨#[]⟩ : ByteArray), (⟨#[]⟩ : ByteArray), false))))))) = some (r1, r2, r3, r4, r5, r6, r7, r8, r9) := H
   have A11 := Aside0.mk A110
   clear A110
   replace H := Option.bind_eq_some_iff.mp H
   obtain ⟨⟨t180, t181, t182, t183⟩, A120, H⟩ := H
   replace H : ((spec_l06ReadShort.f k t181 t182 t183).bind fun bt184 => ((spec_RecText.f k (wrap64 (bt a0 0)) t159 t164 t168 t172 t176 t180 bt184.1).bind fun bt188 => (if bt184.2.2.2 = true then (some (0, 0, 0, 0, 0, (⟨#[]⟩ : ByteArray), (⟨#[]⟩ : ByteArray), (⟨#[]⟩ : ByteArray), false)) else (if bt188.2 = true then (if bt188.1.toList = a0.toList then (some (wrap64 (bt a0 0), t159, t164, t168, t172, t176, t180, bt184.1, true)) else (some (0, 0, 0, 0, 0, (⟨#[]⟩ : ByteArray), (⟨#[]⟩ : ByteArray), (⟨#[]⟩ : ByteArray), false))) else (some (0, 0, 0, 0, 0, (⟨#[]⟩ : ByteArray), (⟨#[]⟩ : ByteArray), (⟨#[]⟩ : ByteArray), false)))))) = some (r1, r2, r3, r4, r5, r6, r7, r8, r9) := H
   have A12 := Aside0.mk A120
   clear A120
   replace H := Option.bind_eq_some_iff.mp H
   obtain ⟨⟨t184, t185, t186, t187⟩, A130, H⟩ := H
   replace H : ((spec_RecText.f k (wrap64 (bt a0 0)) t159 t164 t168 t172 t176 t180 t184).bind fun bt188 => (if t187 = true then (some (0, 0, 0, 0, 0, (⟨#[]⟩ : ByteArray), (⟨#[]⟩ : ByteArray), (⟨#[]⟩ : ByteArray), false)) else (if bt188.2 = true then (if bt188.1.toList = a0.toList then (some (wrap64 (bt a0 0), t159, t164, t168, t172, t176, t180, t184, true)) else (some (0, 0, 0, 0, 0, (⟨#[]⟩ : ByteArray), (⟨#[]⟩ : ByteArray), (⟨#[]⟩ : ByteArray), false))) else (some (0, 0, 0, 0, 0, (⟨#[]⟩ : ByteArray), (⟨#[]⟩ : ByteArray), (⟨#[]⟩ : ByteArray), false))))) = some (r1, r2, r3, r4, r5, r6, r7, r8, r9) := H
   have A13 := Aside0.mk A130
   clear A130
   replace H := Option.bind_eq_some_iff.mp H
   obtain ⟨⟨t188, t189⟩, A140, H⟩ := H
   replace H : (if t187 = true then (some (0, 0, 0, 0, 0, (⟨#[]⟩ : ByteArray), (⟨#[]⟩ : ByteArray), (⟨#[]⟩ : ByteArray), false)) else (if t189 = true then (if t188.toList = a0.toList then (some (wrap64 (bt a0 0), t159, t164, t168, t172, t176, t180, t184, true)) else (some (0, 0, 0, 0, 0, (⟨#[]⟩ : ByteArray), (⟨#[]⟩ : ByteArray), (⟨#[]⟩ : ByteArray), false))) else (some (0, 0, 0, 0, 0, (⟨#[]⟩ : ByteArray), (⟨#[]⟩ : ByteArray), (⟨#[]⟩ : ByteArray), false)))) = some (r1, r2, r3, r4, r5, r6, r7, r8, r9) := H
   have A14 := Aside0.mk A140
   clear A140
   by_cases c15 : t187 = true
   ·subst c15
    have H1 : (some (0, 0, 0, 0, 0, (⟨#[]⟩ : ByteArray), (⟨#[]⟩ : ByteArray), (⟨#[]⟩ : ByteArray), false)) = some (r1, r2, r3, r4, r5, r6, r7, r8, r9) := by rw [if_pos rfl] at H; exact H
    clear H
    have H := H1
    clear H1
    simp only [Option.some.injEq, Prod.mk.injEq] at H
    obtain ⟨rfl, rfl, rfl, rfl, rfl, rfl, rfl, rfl, rfl⟩ := H
    go_enter Try.func10, Try.ntmps10
    try go_wp2_with (first | ((with_reducible refine gate_dst (N := 2) rfl ?_); refine bx 2 #[.int .i64 0, .int .i64 0, .int .i64 0, .int .i64 0, .int .i64 0, .string (⟨#[]⟩ : ByteArray), .string (⟨#[]⟩ : ByteArray), .string (⟨#[]⟩ : ByteArray)] 23 ?_; intro gb157 hg w16 hbox hb; replace BK157 := ak (hbox); replace GW157 := ak (bz hg (lG HB)); replace GE157 := ak (bz hg (lG HB)); replace HB := lB HB hb; clear hb hbox hg) | ((with_reducible refine gate_dst (N := 13) rfl ?_); refine bx 13 #[.string a0, .int .i64 1, .bool false] 83 ?_; intro gb158 hg w17 hbox hb; replace HI158 := ak ((⟨hbox, (by rw [hg]; exact (below_size (lT HB (gC GE157 gN))) : w.heap.size ≤ gb158)⟩ : IsS83 w w17 gb158 a0 1 false)); replace HB := ak (below_step (lT HB (gC GE157 gN)) hb); replace NB157_158 := ak (nl hg (bG BK157)); replace NB158_157 := ak (ng hg (bG BK157)); replace BK157 := bB BK157 hb; clear hb hbox hg))
    replace BK157 := ak (blk_drew BK157.out)
    replace HI158 := ak (IsS83.drew HI158.out)
    replace HB := ak (below_drew1 HB.out)
    have p6 : 0 ≤ (0 : Int) := (by omega)
    have q6 : 0 < a0.size := (by have : (0 : Int) < (a0.size : Int) := of_decide_eq_true (by first | (with_reducible assumption) | assumption); omega)
    have hx6 : ∀ h : 0 < a0.size, ((a0[0]'h).toNat : Int) = bt a0 0 := bt_at a0 0
    clear p6
    have qi6 : (0 < (a0.size : Int)) = True := eq_true (of_decide_eq_true (by first | (with_reducible assumption) | assumption))
    replace q6 := eq_true q6
    refine start_ (n := 8) (S := fun w' => True) (ds := []) #[f_,f_,f_,f_,f_,f_,f_,f_] (by kernel_rfl) rfl rfl trivial (fun hHeld => ?_); refine with_tabW spec_ReadRec.tab4 spec_ReadRec.bits4 (fun HT_ HW_ => ?_)
    generalize w17.drew = w18 at BK157 HI158 HB hHeld ⊢
    refine pu 0 14 (fb 8 1) HT_ ?_
    refine pu 3 17 (fb 8 9) HT_ ?_
    refine take_ (i := 1) (N := some 15) (v := ?_) (a' := ?_) #[t_,t_,f_,t_,f_,f_,f_,f_] rfl rfl (take_ofW HT_.out HW_.out (by kernel_rfl)) (fun _ _ _ h => h) (Or.inl ⟨by rfl, ?_⟩) hHeld ?_ ?_
    rotate_left
    ·intro w' _
     go_simp
     with_reducible rfl
    rotate_left
    ·simp only [Act.put, List.setIfInBounds_toArray, List.set_cons_zero, List.set_cons_succ, i64_w, i32_w]
     rfl
    refine pu 2 16 (fb 8 15) HT_ ?_
    refine join_ (σ := Nat) 1 #[t_,t_,t_,t_,t_,t_,t_,f_] (fun s_ => [(18, .int .i64 t159), (5, .pointer (some ⟨s_, 0, none⟩)), (19, .agg #[.int .i64 (wrap64 (bt a0 0)), .int .i64 t159, .int .i64 0, .int .i64 0, .int .i64 0, .string (⟨#[]⟩ : ByteArray), .string (⟨#[]⟩ : ByteArray), .string (⟨#[]⟩ : ByteArray)])]) (fun s_ w' => (w'.heap[gb157]? = some (.cells #[.int .i64 0, .int .i64 0, .int .i64 0, .int .i64 0, .int .i64 0, .string (⟨#[]⟩ : ByteArray), .string (⟨#[]⟩ : ByteArray), .string (⟨#[]⟩ : ByteArray)] 23 (0, 0))) ∧ (w'.heap[s_]? = some (.cells #[.int .i64 0, .int .i64 0, .int .i64 0, .int .i64 0, .int .i64 0, .string (⟨#[]⟩ : ByteArray), .string (⟨#[]⟩ : ByteArray), .string (⟨#[]⟩ : ByteArray)] 23 (0, 0))) ∧ (w.heap.size ≤ s_) ∧ (w.heap.size ≤ s_) ∧ (gb158 ≠ s_) ∧ (s_ ≠ gb158) ∧ (gb157 ≠ s_) ∧ (s_ ≠ gb157) ∧ (IsS83 w w' gb158 t160 t161 t162) ∧ (Below w.heap.size w w')) ?_ ?_
    rotate_left
    ·intro hCont
     refine two_ (i := 4) (j := 6) (Ni := some 18) (Nj := some 5) #[t_,t_,t_,t_,t_,f_,f_,f_] #[t_,t_,t_,t_,f_,f_,t_,f_] rfl rfl rfl rfl (two_of HT_.out (by kernel_rfl)) (by decide) (by decide) (fun K hK => ?_) (fun K hK => ?_)
     ·skip
      refine goes_ Try.func53 (by kernel_rfl) rfl #[.pointer (some ⟨gb158, 0, none⟩)] (by rfl) rfl rfl (by (try simp only [List.map_toArray, List.map_cons, List.map_nil]); first | done | rfl | (simp only [List.length_drop, List.length_take]; rfl)) ?_
      with_reducible refine (spec_l06Var.calls k gb158 a0 1 false t159 t160 t161 t162 w _ ?side1 ?side2 A7.out).mono ?_
      (case side1 => exact IsS83.T_ HI158 (nC NB158_157 nN))
      (case side2 => exact lT HB (gC GE157 gN))
      rintro e w19 ⟨rfl, hi, hb, hk⟩
      refine ⟨_, rfl, ?_⟩
      replace BK157 := ak (KeepBut.blk hk (g' := gb157) (o := .cells #[.int .i64 0, .int .i64 0, .int .i64 0, .int .i64 0, .int .i64 0, .string (⟨#[]⟩ : ByteArray), .string (⟨#[]⟩ : ByteArray), .string (⟨#[]⟩ : ByteArray)] 23 (0, 0)) (bG BK157) NB157_158.out (by simp))
      replace HB := ak (hb)
      replace HI158 := ak (hi)
      (try clear hb)
      (try clear hb2)
      (try clear hk)
      (try clear hi)
      refine hK.out _ _ trivial (fun hHeld => ?_)
      clear hK K
      refine nm ?_
      refine pu 5 19 (fb 8 63) HT_ ?_
      refine on 6 (some 5) (fb 8 127) HT_ (fun K hK => ?_)
      refine box_step ?hg (N := 5) ?hd (cs := #[.int .i64 0, .int .i64 0, .int .i64 0, .int .i64 0, .int .i64 0, .string (⟨#[]⟩ : ByteArray), .string (⟨#[]⟩ : ByteArray), .string (⟨#[]⟩ : ByteArray)]) (t := 23) ?hr ?_; (case hd => rfl); (case hg => rfl); (case hr => first | (go_simp; done) | (go_simp; rfl))
      intro gb163 hg w20 hbox hb
      replace BK163 := ak (hbox)
      replace GW163 := ak (bz hg (lT HB (gC GE157 gN)))
      replace GE163 := ak (bz hg (lT HB (gC GE157 gN)))
      replace HB := ak (below_step (lT HB (gC GE157 gN)) hb)
      replace NB157_163 := ak (nl hg (bG BK157))
      replace NB163_157 := ak (ng hg (bG BK157))
      replace BK157 := bB BK157 hb
      replace NB158_163 := ak ((by rw [hg]; exact Nat.ne_of_lt (IsS83.lt (show IsS83 w _ gb158 t160 t161 t162 from IsS83.T_ HI158 (nC NB158_157 nN))) : gb158 ≠ gb163))
      replace NB163_158 := ak ((by rw [hg]; exact Nat.ne_of_gt (IsS83.lt (show IsS83 w _ gb158 t160 t161 t162 from IsS83.T_ HI158 (nC NB158_157 nN))) : gb163 ≠ gb158))
      replace HI158 := ak (IsS83.below (IsS83.T_ HI158 (nC NB158_157 nN)) hb)
      clear hb hbox hg
      refine hK.out _ _ trivial (fun hHeld => ?_)
      clear hK K
      refine nm ?_
      exact norm_ (by simp only [putAll, Act.put, List.setIfInBounds_toArray, List.set_cons_zero, List.set_cons_succ]) (hCont (gb163) _ ⟨(bG BK157), (bG BK163), GW163.out, GE163.out, NB158_163.out, NB163_158.out, NB157_163.out, NB163_157.out, (IsS83.T_ HI158 (nC NB158_157 (nC NB158_163 nN))), (lT HB (gC GE157 (gC GE163 gN)))⟩)
     ·skip
      refine box_step ?hg (N := 5) ?hd (cs := #[.int .i64 0, .int .i64 0, .int .i64 0, .int .i64 0, .int .i64 0, .string (⟨#[]⟩ : ByteArray), .string (⟨#[]⟩ : ByteArray), .string (⟨#[]⟩ : ByteArray)]) (t := 23) ?hr ?_; (case hd => rfl); (case hg => rfl); (case hr => first | (go_simp; done) | (go_simp; rfl))
      intro gb163 hg w19 hbox hb
      replace BK163 := ak (hbox)
      replace GW163 := ak (bz hg (lT HB (gC GE157 gN)))
      replace GE163 := ak (bz hg (lT HB (gC GE157 gN)))
      replace HB := ak (below_step (lT HB (gC GE157 gN)) hb)
      replace NB157_163 := ak (nl hg (bG BK157))
      replace NB163_157 := ak (ng hg (bG BK157))
      replace BK157 := bB BK157 hb
      replace NB158_163 := ak ((by rw [hg]; exact Nat.ne_of_lt (IsS83.lt (show IsS83 w _ gb158 a0 1 false from IsS83.T_ HI158 (nC NB158_157 nN))) : gb158 ≠ gb163))
      replace NB163_158 := ak ((by rw [hg]; exact Nat.ne_of_gt (IsS83.lt (show IsS83 w _ gb158 a0 1 false from IsS83.T_ HI158 (nC NB158_157 nN))) : gb163 ≠ gb158))
      replace HI158 := ak (IsS83.below (IsS83.T_ HI158 (nC NB158_157 nN)) hb)
      clear hb hbox hg
      refine hK.out _ _ trivial (fun hHeld => ?_)
      clear hK K
      refine nm ?_
      refine on 4 (some 18) (fb 8 95) HT_ (fun K hK => ?_)
      refine goes_ Try.func53 (by kernel_rfl) rfl #[.pointer (some ⟨gb158, 0, none⟩)] (by rfl) rfl rfl (by (try simp only [List.map_toArray, List.map_cons, List.map_nil]); first | done | rfl | (simp only [List.length_drop, List.length_take]; rfl)) ?_
      with_reducible refine (spec_l06Var.calls k gb158 a0 1 false t159 t160 t161 t162 w _ ?side1 ?side2 A7.out).mono ?_
      (case side1 => exact IsS83.T_ HI158 (nC NB158_157 (nC NB158_163 nN)))
      (case side2 => exact lT HB (gC GE157 (gC GE163 gN)))
      rintro e w20 ⟨rfl, hi, hb, hk⟩
      refine ⟨_, rfl, ?_⟩
      replace BK157 := ak (KeepBut.blk hk (g' := gb157) (o := .cells #[.int .i64 0, .int .i64 0, .int .i64 0, .int .i64 0, .int .i64 0, .string (⟨#[]⟩ : ByteArray), .string (⟨#[]⟩ : ByteArray), .string (⟨#[]⟩ : ByteArray)] 23 (0, 0)) (bG BK157) NB157_158.out (by simp))
      replace BK163 := ak (KeepBut.blk hk (g' := gb163) (o := .cells #[.int .i64 0, .int .i64 0, .int .i64 0, .int .i64 0, .int .i64 0, .string (⟨#[]⟩ : ByteArray), .string (⟨#[]⟩ : ByteArray), .string (⟨#[]⟩ : ByteArray)] 23 (0, 0)) (bG BK163) NB163_158.out (by simp))
      replace HB := ak (hb)
      replace HI158 := ak (hi)
      (try clear hb)
      (try clear hb2)
      (try clear hk)
      (try clear hi)
      refine hK.out _ _ trivial (fun hHeld => ?_)
      clear hK K
      refine nm ?_
      refine pu 5 19 (fb 8 127) HT_ ?_
      exact norm_ (by simp only [putAll, Act.put, List.setIfInBounds_toArray, List.set_cons_zero, List.set_cons_succ]) (hCont (gb163) _ ⟨(bG BK157), (bG BK163), GW163.out, GE163.out, NB158_163.out, NB163_158.out, NB157_163.out, NB163_157.out, (IsS83.T_ HI158 (nC NB158_157 (nC NB158_163 nN))), (lT HB (gC GE157 (gC GE163 gN)))⟩)
    rintro gb163 w21 ⟨h0_, h1_, h2_, h3_, h4_, h5_, h6_, h7_, h8_, h9_⟩
    have n0_ : Aside0 (w21.heap[gb157]? = some (.cells #[.int .i64 0, .int .i64 0, .int .i64 0, .int .i64 0, .int .i64 0, .string (⟨#[]⟩ : ByteArray), .string (⟨#[]⟩ : ByteArray), .string (⟨#[]⟩ : ByteArray)] 23 (0, 0))) := ⟨h0_⟩
    have n1_ : Aside0 (w21.heap[gb163]? = some (.cells #[.int .i64 0, .int .i64 0, .int .i64 0, .int .i64 0, .int .i64 0, .string (⟨#[]⟩ : ByteArray), .string (⟨#[]⟩ : ByteArray), .string (⟨#[]⟩ : ByteArray)] 23 (0, 0))) := ⟨h1_⟩
    have n2_ : Aside0 (w.heap.size ≤ gb163) := ⟨h2_⟩
    have n3_ : Aside0 (w.heap.size ≤ gb163) := ⟨h3_⟩
    have n4_ : Aside0 (gb158 ≠ gb163) := ⟨h4_⟩
    have n5_ : Aside0 (gb163 ≠ gb158) := ⟨h5_⟩
    have n6_ : Aside0 (gb157 ≠ gb163) := ⟨h6_⟩
    have n7_ : Aside0 (gb163 ≠ gb157) := ⟨h7_⟩
    have n8_ : Aside0 (IsS83 w w21 gb158 t160 t161 t162) := ⟨h8_⟩
    have n9_ : Aside0 (Below w.heap.size w w21) := ⟨h9_⟩
    clear BK157
    clear HI158
    clear HB
    clear h0_ h1_ h2_ h3_ h4_ h5_ h6_ h7_ h8_ h9_
    have BK157 := n0_
    have BK163 := n1_
    have GW163 := n2_
    have GE163 := n3_
    have NB158_163 := n4_
    have NB163_158 := n5_
    have NB157_163 := n6_
    have NB163_157 := n7_
    have HI158 := n8_
    have HB := n9_
    clear n0_ n1_ n2_ n3_ n4_ n5_ n6_ n7_ n8_ n9_
    have hHeld := trivial
    refine norm_ (a' := ?_) ?_ ?_
    rotate_left
    ·simp only [putAll, Act.put, List.setIfInBounds_toArray, List.set_cons_zero, List.set_cons_succ]
     rfl
    refine on 7 none (fb 8 255) HT_ (fun K hK => ?_)
    have hs22 : w21.cell? ⟨gb163, 0, none⟩ = some (.int .i64 0) := bc BK163 0
    have hfs22 := blk_frozen BK163.out 0
    have hns22_0 := NB157_163.out
    have hms22_0 := NB163_157.out
    have hs23 : w21.cell? ⟨gb163, 1, none⟩ = some (.int .i64 0) := bc BK163 1
    have hfs23 := blk_frozen BK163.out 1
    have hns23_0 := NB157_163.out
    have hms23_0 := NB163_157.out
    have hs24 : w21.cell? ⟨gb163, 2, none⟩ = some (.int .i64 0) := bc BK163 2
    have hfs24 := blk_frozen BK163.out 2
    have hns24_0 := NB157_163.out
    have hms24_0 := NB163_157.out
    have hs25 : w21.cell? ⟨gb163, 3, none⟩ = some (.int .i64 0) := bc BK163 3
    have hfs25 := blk_frozen BK163.out 3
    have hns25_0 := NB157_163.out
    have hms25_0 := NB163_157.out
    have hs26 : w21.cell? ⟨gb163, 4, none⟩ = some (.int .i64 0) := bc BK163 4
    have hfs26 := blk_frozen BK163.out 4
    have hns26_0 := NB157_163.out
    have hms26_0 := NB163_157.out
    have hs27 : w21.cell? ⟨gb163, 5, none⟩ = some (.string (⟨#[]⟩ : ByteArray)) := bc BK163 5
    have hfs27 := blk_frozen BK163.out 5
    have hns27_0 := NB157_163.out
    have hms27_0 := NB163_157.out
    have hs28 : w21.cell? ⟨gb163, 6, none⟩ = some (.string (⟨#[]⟩ : ByteArray)) := bc BK163 6
    have hfs28 := blk_frozen BK163.out 6
    have hns28_0 := NB157_163.out
    have hms28_0 := NB163_157.out
    have hs29 : w21.cell? ⟨gb163, 7, none⟩ = some (.string (⟨#[]⟩ : ByteArray)) := bc BK163 7
    have hfs29 := blk_frozen BK163.out 7
    have hns29_0 := NB157_163.out
    have hms29_0 := NB163_157.out
    refine skip_ (w1 := ?_) (by rfl) rfl ?_ ?_
    rotate_left
    ·go_simp
     rfl
    refine hK.out _ _ trivial (fun hHeld => ?_)
    clear hK K
    refine done_ (done_of HT_.out (by kernel_rfl)) ?_
    try go_wp2_with (first | ((with_reducible refine gate_callee (f := 53) rfl ?_); refine gl (some 21) Try.func53 #[.pointer (some ⟨gb158, 0, none⟩)] ?_; (with_reducible refine (spec_l06Var.calls k gb158 t160 t161 t162 t164 t165 t166 t167 w _ ?side1 ?side2 A8.out).mono ?_); (case side1 => exact IsS83.T_ HI158 (nC NB158_157 (nC NB158_163 nN))); (case side2 => exact lT HB (gC GE157 (gC GE163 gN))); rintro e w30 ⟨rfl, hi, hb, hk⟩; refine ⟨_, rfl, ?_⟩; replace BK157 := ak (KeepBut.blk hk (g' := gb157) (o := .cells #[.int .i64 0, .int .i64 0, .int .i64 0, .int .i64 0, .int .i64 0, .string (⟨#[]⟩ : ByteArray), .string (⟨#[]⟩ : ByteArray), .string (⟨#[]⟩ : ByteArray)] 23 (0, 0)) (bT BK157 (nC NB157_163 nN)) NB157_158.out (by simp)); replace BK163 := ak (KeepBut.blk hk (g' := gb163) (o := .cells #[.int .i64 (wrap64 (bt a0 0)), .int .i64 t159, .int .i64 0, .int .i64 0, .int .i64 0, .string (⟨#[]⟩ : ByteArray), .string (⟨#[]⟩ : ByteArray), .string (⟨#[]⟩ : ByteArray)] 23 (0, 0)) (bW BK163) NB163_158.out (by simp)); replace HB := ak (hb); replace HI158 := ak (hi); (try clear hb); (try clear hk); (try clear hi); have hnb31 := NB163_157.out; have hnc31 := NB157_163.out; have hnb32 := NB163_158.out; have hnc32 := NB158_163.out; obtain ⟨hcz33_0, hcz33_1, hcz33_2, hcz33_3, hcz33_4, hcz33_5, hcz33_6, hcz33_7, hfz33_0, hfz33_1, hfz33_2, hfz33_3, hfz33_4, hfz33_5, hfz33_6, hfz33_7⟩ := bC8 BK163) | ((with_reducible refine gate_callee (f := 53) rfl ?_); refine gl (some 24) Try.func53 #[.pointer (some ⟨gb158, 0, none⟩)] ?_; (with_reducible refine (spec_l06Var.calls k gb158 t165 t166 t167 t168 t169 t170 t171 w _ ?side1 ?side2 A9.out).mono ?_); (case side1 => exact IsS83.T_ HI158 (nC NB158_157 (nC NB158_163 nN))); (case side2 => exact lT HB (gC GE157 (gC GE163 gN))); rintro e w34 ⟨rfl, hi, hb, hk⟩; refine ⟨_, rfl, ?_⟩; replace BK157 := ak (KeepBut.blk hk (g' := gb157) (o := .cells #[.int .i64 0, .int .i64 0, .int .i64 0, .int .i64 0, .int .i64 0, .string (⟨#[]⟩ : ByteArray), .string (⟨#[]⟩ : ByteArray), .string (⟨#[]⟩ : ByteArray)] 23 (0, 0)) (bT BK157 (nC NB157_163 nN)) NB157_158.out (by simp)); replace BK163 := ak (KeepBut.blk hk (g' := gb163) (o := .cells #[.int .i64 (wrap64 (bt a0 0)), .int .i64 t159, .int .i64 t164, .int .i64 0, .int .i64 0, .string (⟨#[]⟩ : ByteArray), .string (⟨#[]⟩ : ByteArray), .string (⟨#[]⟩ : ByteArray)] 23 (0, 0)) (bW BK163) NB163_158.out (by simp)); replace HB := ak (hb); replace HI158 := ak (hi); (try clear hb); (try clear hk); (try clear hi); obtain ⟨hcz35_0, hcz35_1, hcz35_2, hcz35_3, hcz35_4, hcz35_5, hcz35_6, hcz35_7, hfz35_0, hfz35_1, hfz35_2, hfz35_3, hfz35_4, hfz35_5, hfz35_6, hfz35_7⟩ := bC8 BK163) | ((with_reducible refine gate_callee (f := 53) rfl ?_); refine gl (some 27) Try.func53 #[.pointer (some ⟨gb158, 0, none⟩)] ?_; (with_reducible refine (spec_l06Var.calls k gb158 t169 t170 t171 t172 t173 t174 t175 w _ ?side1 ?side2 A10.out).mono ?_); (case side1 => exact IsS83.T_ HI158 (nC NB158_157 (nC NB158_163 nN))); (case side2 => exact lT HB (gC GE157 (gC GE163 gN))); rintro e w36 ⟨rfl, hi, hb, hk⟩; refine ⟨_, rfl, ?_⟩; replace BK157 := ak (KeepBut.blk hk (g' := gb157) (o := .cells #[.int .i64 0, .int .i64 0, .int .i64 0, .int .i64 0, .int .i64 0, .string (⟨#[]⟩ : ByteArray), .string (⟨#[]⟩ : ByteArray), .string (⟨#[]⟩ : ByteArray)] 23 (0, 0)) (bT BK157 (nC NB157_163 nN)) NB157_158.out (by simp)); replace BK163 := ak (KeepBut.blk hk (g' := gb163) (o := .cells #[.int .i64 (wrap64 (bt a0 0)), .int .i64 t159, .int .i64 t164, .int .i64 t168, .int .i64 0, .string (⟨#[]⟩ : ByteArray), .string (⟨#[]⟩ : ByteArray), .string (⟨#[]⟩ : ByteArray)] 23 (0, 0)) (bW BK163) NB163_158.out (by simp)); replace HB := ak (hb); replace HI158 := ak (hi); (try clear hb); (try clear hk); (try clear hi); obtain ⟨hcz37_0, hcz37_1, hcz37_2, hcz37_3, hcz37_4, hcz37_5, hcz37_6, hcz37_7, hfz37_0, hfz37_1, hfz37_2, hfz37_3, hfz37_4, hfz37_5, hfz37_6, hfz37_7⟩ := bC8 BK163) | ((with_reducible refine gate_callee (f := 54) rfl ?_); refine gl (some 30) Try.func54 #[.pointer (some ⟨gb158, 0, none⟩)] ?_; (with_reducible refine (spec_l06ReadShort.calls k gb158 t173 t174 t175 t176 t177 t178 t179 w _ ?side1 ?side2 A11.out).mono ?_); (case side1 => exact IsS83.T_ HI158 (nC NB158_157 (nC NB158_163 nN))); (case side2 => exact lT HB (gC GE157 (gC GE163 gN))); rintro e w38 ⟨rfl, hi, hb, hk⟩; refine ⟨_, rfl, ?_⟩; replace BK157 := ak (KeepBut.blk hk (g' := gb157) (o := .cells #[.int .i64 0, .int .i64 0, .int .i64 0, .int .i64 0, .int .i64 0, .string (⟨#[]⟩ : ByteArray), .string (⟨#[]⟩ : ByteArray), .string (⟨#[]⟩ : ByteArray)] 23 (0, 0)) (bT BK157 (nC NB157_163 nN)) NB157_158.out (by simp)); replace BK163 := ak (KeepBut.blk hk (g' := gb163) (o := .cells #[.int .i64 (wrap64 (bt a0 0)), .int .i64 t159, .int .i64 t164, .int .i64 t168, .int .i64 t172, .string (⟨#[]⟩ : ByteArray), .string (⟨#[]⟩ : ByteArray), .string (⟨#[]⟩ : ByteArray)] 23 (0, 0)) (bW BK163) NB163_158.out (by simp)); replace HB := ak (hb); replace HI158 := ak (hi); (try clear hb); (try clear hk); (try clear hi); obtain ⟨hcz39_0, hcz39_1, hcz39_2, hcz39_3, hcz39_4, hcz39_5, hcz39_6, hcz39_7, hfz39_0, hfz39_1, hfz39_2, hfz39_3, hfz39_4, hfz39_5, hfz39_6, hfz39_7⟩ := bC8 BK163) | ((with_reducible refine gate_callee (f := 54) rfl ?_); refine gl (some 33) Try.func54 #[.pointer (some ⟨gb158, 0, none⟩)] ?_; (with_reducible refine (spec_l06ReadShort.calls k gb158 t177 t178 t179 t180 t181 t182 t183 w _ ?side1 ?side2 A12.out).mono ?_); (case side1 => exact IsS83.T_ HI158 (nC NB158_157 (nC NB158_163 nN))); (case side2 => exact lT HB (gC GE157 (gC GE163 gN))); rintro e w40 ⟨rfl, hi, hb, hk⟩; refine ⟨_, rfl, ?_⟩; replace BK157 := ak (KeepBut.blk hk (g' := gb157) (o := .cells #[.int .i64 0, .int .i64 0, .int .i64 0, .int .i64 0, .int .i64 0, .string (⟨#[]⟩ : ByteArray), .string (⟨#[]⟩ : ByteArray), .string (⟨#[]⟩ : ByteArray)] 23 (0, 0)) (bT BK157 (nC NB157_163 nN)) NB157_158.out (by simp)); replace BK163 := ak (KeepBut.blk hk (g' := gb163) (o := .cells #[.int .i64 (wrap64 (bt a0 0)), .int .i64 t159, .int .i64 t164, .int .i64 t168, .int .i64 t172, .string t176, .string (⟨#[]⟩ : ByteArray), .string (⟨#[]⟩ : ByteArray)] 23 (0, 0)) (bW BK163) NB163_158.out (by simp)); replace HB := ak (hb); replace HI158 := ak (hi); (try clear hb); (try clear hk); (try clear hi); obtain ⟨hcz41_0, hcz41_1, hcz41_2, hcz41_3, hcz41_4, hcz41_5, hcz41_6, hcz41_7, hfz41_0, hfz41_1, hfz41_2, hfz41_3, hfz41_4, hfz41_5, hfz41_6, hfz41_7⟩ := bC8 BK163) | ((with_reducible refine gate_callee (f := 54) rfl ?_); refine gl (some 36) Try.func54 #[.pointer (some ⟨gb158, 0, none⟩)] ?_; (with_reducible refine (spec_l06ReadShort.calls k gb158 t181 t182 t183 t184 t185 t186 true w _ ?side1 ?side2 A13.out).mono ?_); (case side1 => exact IsS83.T_ HI158 (nC NB158_157 (nC NB158_163 nN))); (case side2 => exact lT HB (gC GE157 (gC GE163 gN))); rintro e w42 ⟨rfl, hi, hb, hk⟩; refine ⟨_, rfl, ?_⟩; replace BK157 := ak (KeepBut.blk hk (g' := gb157) (o := .cells #[.int .i64 0, .int .i64 0, .int .i64 0, .int .i64 0, .int .i64 0, .string (⟨#[]⟩ : ByteArray), .string (⟨#[]⟩ : ByteArray), .string (⟨#[]⟩ : ByteArray)] 23 (0, 0)) (bT BK157 (nC NB157_163 nN)) NB157_158.out (by simp)); replace BK163 := ak (KeepBut.blk hk (g' := gb163) (o := .cells #[.int .i64 (wrap64 (bt a0 0)), .int .i64 t159, .int .i64 t164, .int .i64 t168, .int .i64 t172, .string t176, .string t180, .string (⟨#[]⟩ : ByteArray)] 23 (0, 0)) (bW BK163) NB163_158.out (by simp)); replace HB := ak (hb); replace HI158 := ak (hi); (try clear hb); (try clear hk); (try clear hi); obtain ⟨hcz43_0, hcz43_1, hcz43_2, hcz43_3, hcz43_4, hcz43_5, hcz43_6, hcz43_7, hfz43_0, hfz43_1, hfz43_2, hfz43_3, hfz43_4, hfz43_5, hfz43_6, hfz43_7⟩ := bC8 BK163) | ((with_reducible refine gate_callee (f := 55) rfl ?_); refine gl (some 40) Try.func55 #[.agg #[.int .i64 (wrap64 (bt a0 0)), .int .i64 t159, .int .i64 t164, .int .i64 t168, .int .i64 t172, .string t176, .string t180, .string t184]] ?_; (with_reducible refine (spec_RecText.calls k (wrap64 (bt a0 0)) t159 t164 t168 t172 t176 t180 t184 t188 t189 _ A14.out).mono ?_); rintro e w44 ⟨rfl, hb⟩; refine ⟨_, rfl, ?_⟩; replace BK157 := ak (blk_below (bT BK157 (nC NB157_163 nN)) hb); replace BK163 := ak (blk_below (g := gb163) (o := .cells #[.int .i64 (wrap64 (bt a0 0)), .int .i64 t159, .int .i64 t164, .int .i64 t168, .int .i64 t172, .string t176, .string t180, .string t184] 23 (0, 0)) (bW BK163) hb); replace HB := ak (below_step (lT HB (gC GE157 (gC GE163 gN))) hb); replace HI158 := ak (IsS83.below (show IsS83 w (w42.setCell ⟨gb163, 7, none⟩ (.string t184)) gb158 t185 t186 true from IsS83.T_ HI158 (nC NB158_157 (nC NB158_163 nN))) hb); (try clear hb); (try clear hk); (try clear hi); obtain ⟨HGz45, hgz45⟩ := HI158.out; have hcz45_0 := cellS83_0 HGz45; have hcz45_1 := cellS83_1 HGz45; have hcz45_2 := cellS83_2 HGz45; have hfz45_0 := blk_frozen HGz45 0; have hfz45_1 := blk_frozen HGz45 1; have hfz45_2 := blk_frozen HGz45 2; clear HGz45 hgz45; have hnb46 := NB157_158.out; have hnc46 := NB158_157.out; obtain ⟨hcz47_0, hcz47_1, hcz47_2, hcz47_3, hcz47_4, hcz47_5, hcz47_6, hcz47_7, hfz47_0, hfz47_1, hfz47_2, hfz47_3, hfz47_4, hfz47_5, hfz47_6, hfz47_7⟩ := bC8 BK157))
    refine bodyPost_ret (results_ct rfl _ _ gb157 23 #[.int .i64 0, .int .i64 0, .int .i64 0, .int .i64 0, .int .i64 0, .string (⟨#[]⟩ : ByteArray), .string (⟨#[]⟩ : ByteArray), .string (⟨#[]⟩ : ByteArray)] (0, 0) _ rfl (bW BK157) Try.underlying23 rfl (by kernel_rfl)) rfl ?_
    exact ⟨ew, lT HB (gC GE157 (gC GE163 gN))⟩
   ·replace c15 := Bool.eq_false_iff.mpr c15
    subst c15
    have H1 : (if t189 = true then (if t188.toList = a0.toList then (some (wrap64 (bt a0 0), t159, t164, t168, t172, t176, t180, t184, true)) else (some (0, 0, 0, 0, 0, (⟨#[]⟩ : ByteArray), (⟨#[]⟩ : ByteArray), (⟨#[]⟩ : ByteArray), false))) else (some (0, 0, 0, 0, 0, (⟨#[]⟩ : ByteArray), (⟨#[]⟩ : ByteArray), (⟨#[]⟩ : ByteArray), false))) = some (r1, r2, r3, r4, r5, r6, r7, r8, r9) := by rw [if_neg (show ¬ (false = true) by decide)] at H; exact H
    clear H
    have H := H1
    clear H1
    by_cases c48 : t189 = true
    ·subst c48
     have H1 : (if t188.toList = a0.toList then (some (wrap64 (bt a0 0), t159, t164, t168, t172, t176, t180, t184, true)) else (some (0, 0, 0, 0, 0, (⟨#[]⟩ : ByteArray), (⟨#[]⟩ : ByteArray), (⟨#[]⟩ : ByteArray), false))) = some (r1, r2, r3, r4, r5, r6, r7, r8, r9) := by rw [if_pos rfl] at H; exact H
     clear H
     have H := H1
     clear H1
     by_cases c49 : t188.toList = a0.toList
     ·rw [if_pos c49] at H
      have c49b0 : (t188.toList == a0.toList) = true := beq_iff_eq.mpr c49
      have c49b1 : (t188.toList != a0.toList) = false := bne_eq_false_iff_eq.mpr c49
      clear c49
      simp only [Option.some.injEq, Prod.mk.injEq] at H
      obtain ⟨rfl, rfl, rfl, rfl, rfl, rfl, rfl, rfl, rfl⟩ := H
      go_enter Try.func10, Try.ntmps10
      try go_wp2_with (first | ((with_reducible refine gate_dst (N := 2) rfl ?_); refine bx 2 #[.int .i64 0, .int .i64 0, .int .i64 0, .int .i64 0, .int .i64 0, .string (⟨#[]⟩ : ByteArray), .string (⟨#[]⟩ : ByteArray), .string (⟨#[]⟩ : ByteArray)] 23 ?_; intro gb157 hg w50 hbox hb; replace BK157 := ak (hbox); replace GW157 := ak (bz hg (lG HB)); replace GE157 := ak (bz hg (lG HB)); replace HB := lB HB hb; clear hb hbox hg) | ((with_reducible refine gate_dst (N := 13) rfl ?_); refine bx 13 #[.string a0, .int .i64 1, .bool false] 83 ?_; intro gb158 hg w51 hbox hb; replace HI158 := ak ((⟨hbox, (by rw [hg]; exact (below_size (lT HB (gC GE157 gN))) : w.heap.size ≤ gb158)⟩ : IsS83 w w51 gb158 a0 1 false)); replace HB := ak (below_step (lT HB (gC GE157 gN)) hb); replace NB157_158 := ak (nl hg (bG BK157)); replace NB158_157 := ak (ng hg (bG BK157)); replace BK157 := bB BK157 hb; clear hb hbox hg))
      replace BK157 := ak (blk_drew BK157.out)
      replace HI158 := ak (IsS83.drew HI158.out)
      replace HB := ak (below_drew1 HB.out)
      have p6 : 0 ≤ (0 : Int) := (by omega)
      have q6 : 0 < a0.size := (by have : (0 : Int) < (a0.size : Int) := of_decide_eq_true (by first | (with_reducible assumption) | assumption); omega)
      have hx6 : ∀ h : 0 < a0.size, ((a0[0]'h).toNat : Int) = bt a0 0 := bt_at a0 0
      clear p6
      have qi6 : (0 < (a0.size : Int)) = True := eq_true (of_decide_eq_true (by first | (with_reducible assumption) | assumption))
      replace q6 := eq_true q6
      refine start_ (n := 8) (S := fun w' => True) (ds := []) #[f_,f_,f_,f_,f_,f_,f_,f_] (by kernel_rfl) rfl rfl trivial (fun hHeld => ?_); refine with_tabW spec_ReadRec.tab4 spec_ReadRec.bits4 (fun HT_ HW_ => ?_)
      generalize w51.drew = w52 at BK157 HI158 HB hHeld ⊢
      refine pu 0 14 (fb 8 1) HT_ ?_
      refine pu 3 17 (fb 8 9) HT_ ?_
      refine take_ (i := 1) (N := some 15) (v := ?_) (a' := ?_) #[t_,t_,f_,t_,f_,f_,f_,f_] rfl rfl (take_ofW HT_.out HW_.out (by kernel_rfl)) (fun _ _ _ h => h) (Or.inl ⟨by rfl, ?_⟩) hHeld ?_ ?_
      rotate_left
      ·intro w' _
       go_simp
       with_reducible rfl
      rotate_left
      ·simp only [Act.put, List.setIfInBounds_toArray, List.set_cons_zero, List.set_cons_succ, i64_w, i32_w]
       rfl
      refine pu 2 16 (fb 8 15) HT_ ?_
      refine join_ (σ := Nat) 1 #[t_,t_,t_,t_,t_,t_,t_,f_] (fun s_ => [(18, .int .i64 t159), (5, .pointer (some ⟨s_, 0, none⟩)), (19, .agg #[.int .i64 (wrap64 (bt a0 0)), .int .i64 t159, .int .i64 0, .int .i64 0, .int .i64 0, .string (⟨#[]⟩ : ByteArray), .string (⟨#[]⟩ : ByteArray), .string (⟨#[]⟩ : ByteArray)])]) (fun s_ w' => (w'.heap[gb157]? = some (.cells #[.int .i64 0, .int .i64 0, .int .i64 0, .int .i64 0, .int .i64 0, .string (⟨#[]⟩ : ByteArray), .string (⟨#[]⟩ : ByteArray), .string (⟨#[]⟩ : ByteArray)] 23 (0, 0))) ∧ (w'.heap[s_]? = some (.cells #[.int .i64 0, .int .i64 0, .int .i64 0, .int .i64 0, .int .i64 0, .string (⟨#[]⟩ : ByteArray), .string (⟨#[]⟩ : ByteArray), .string (⟨#[]⟩ : ByteArray)] 23 (0, 0))) ∧ (w.heap.size ≤ s_) ∧ (w.heap.size ≤ s_) ∧ (gb158 ≠ s_) ∧ (s_ ≠ gb158) ∧ (gb157 ≠ s_) ∧ (s_ ≠ gb157) ∧ (IsS83 w w' gb158 t160 t161 t162) ∧ (Below w.heap.size w w')) ?_ ?_
      rotate_left
      ·intro hCont
       refine two_ (i := 4) (j := 6) (Ni := some 18) (Nj := some 5) #[t_,t_,t_,t_,t_,f_,f_,f_] #[t_,t_,t_,t_,f_,f_,t_,f_] rfl rfl rfl rfl (two_of HT_.out (by kernel_rfl)) (by decide) (by decide) (fun K hK => ?_) (fun K hK => ?_)
       ·skip
        refine goes_ Try.func53 (by kernel_rfl) rfl #[.pointer (some ⟨gb158, 0, none⟩)] (by rfl) rfl rfl (by (try simp only [List.map_toArray, List.map_cons, List.map_nil]); first | done | rfl | (simp only [List.length_drop, List.length_take]; rfl)) ?_
        with_reducible refine (spec_l06Var.calls k gb158 a0 1 false t159 t160 t161 t162 w _ ?side1 ?side2 A7.out).mono ?_
        (case side1 => exact IsS83.T_ HI158 (nC NB158_157 nN))
        (case side2 => exact lT HB (gC GE157 gN))
        rintro e w53 ⟨rfl, hi, hb, hk⟩
        refine ⟨_, rfl, ?_⟩
        replace BK157 := ak (KeepBut.blk hk (g' := gb157) (o := .cells #[.int .i64 0, .int .i64 0, .int .i64 0, .int .i64 0, .int .i64 0, .string (⟨#[]⟩ : ByteArray), .string (⟨#[]⟩ : ByteArray), .string (⟨#[]⟩ : ByteArray)] 23 (0, 0)) (bG BK157) NB157_158.out (by simp))
        replace HB := ak (hb)
        replace HI158 := ak (hi)
        (try clear hb)
        (try clear hb2)
        (try clear hk)
        (try clear hi)
        refine hK.out _ _ trivial (fun hHeld => ?_)
        clear hK K
        refine nm ?_
        refine pu 5 19 (fb 8 63) HT_ ?_
        refine on 6 (some 5) (fb 8 127) HT_ (fun K hK => ?_)
        refine box_step ?hg (N := 5) ?hd (cs := #[.int .i64 0, .int .i64 0, .int .i64 0, .int .i64 0, .int .i64 0, .string (⟨#[]⟩ : ByteArray), .string (⟨#[]⟩ : ByteArray), .string (⟨#[]⟩ : ByteArray)]) (t := 23) ?hr ?_; (case hd => rfl); (case hg => rfl); (case hr => first | (go_simp; done) | (go_simp; rfl))
        intro gb163 hg w54 hbox hb
        replace BK163 := ak (hbox)
        replace GW163 := ak (bz hg (lT HB (gC GE157 gN)))
        replace GE163 := ak (bz hg (lT HB (gC GE157 gN)))
        replace HB := ak (below_step (lT HB (gC GE157 gN)) hb)
        replace NB157_163 := ak (nl hg (bG BK157))
        replace NB163_157 := ak (ng hg (bG BK157))
        replace BK157 := bB BK157 hb
        replace NB158_163 := ak ((by rw [hg]; exact Nat.ne_of_lt (IsS83.lt (show IsS83 w _ gb158 t160 t161 t162 from IsS83.T_ HI158 (nC NB158_157 nN))) : gb158 ≠ gb163))
        replace NB163_158 := ak ((by rw [hg]; exact Nat.ne_of_gt (IsS83.lt (show IsS83 w _ gb158 t160 t161 t162 from IsS83.T_ HI158 (nC NB158_157 nN))) : gb163 ≠ gb158))
        replace HI158 := ak (IsS83.below (IsS83.T_ HI158 (nC NB158_157 nN)) hb)
        clear hb hbox hg
        refine hK.out _ _ trivial (fun hHeld => ?_)
        clear hK K
        refine nm ?_
        exact norm_ (by simp only [putAll, Act.put, List.setIfInBounds_toArray, List.set_cons_zero, List.set_cons_succ]) (hCont (gb163) _ ⟨(bG BK157), (bG BK163), GW163.out, GE163.out, NB158_163.out, NB163_158.out, NB157_163.out, NB163_157.out, (IsS83.T_ HI158 (nC NB158_157 (nC NB158_163 nN))), (lT HB (gC GE157 (gC GE163 gN)))⟩)
       ·skip
        refine box_step ?hg (N := 5) ?hd (cs := #[.int .i64 0, .int .i64 0, .int .i64 0, .int .i64 0, .int .i64 0, .string (⟨#[]⟩ : ByteArray), .string (⟨#[]⟩ : ByteArray), .string (⟨#[]⟩ : ByteArray)]) (t := 23) ?hr ?_; (case hd => rfl); (case hg => rfl); (case hr => first | (go_simp; done) | (go_simp; rfl))
        intro gb163 hg w53 hbox hb
        replace BK163 := ak (hbox)
        replace GW163 := ak (bz hg (lT HB (gC GE157 gN)))
        replace GE163 := ak (bz hg (lT HB (gC GE157 gN)))
        replace HB := ak (below_step (lT HB (gC GE157 gN)) hb)
        replace NB157_163 := ak (nl hg (bG BK157))
        replace NB163_157 := ak (ng hg (bG BK157))
        replace BK157 := bB BK157 hb
        replace NB158_163 := ak ((by rw [hg]; exact Nat.ne_of_lt (IsS83.lt (show IsS83 w _ gb158 a0 1 false from IsS83.T_ HI158 (nC NB158_157 nN))) : gb158 ≠ gb163))
        replace NB163_158 := ak ((by rw [hg]; exact Nat.ne_of_gt (IsS83.lt (show IsS83 w _ gb158 a0 1 false from IsS83.T_ HI158 (nC NB158_157 nN))) : gb163 ≠ gb158))
        replace HI158 := ak (IsS83.below (IsS83.T_ HI158 (nC NB158_157 nN)) hb)
        clear hb hbox hg
        refine hK.out _ _ trivial (fun hHeld => ?_)
        clear hK K
        refine nm ?_
        refine on 4 (some 18) (fb 8 95) HT_ (fun K hK => ?_)
        refine goes_ Try.func53 (by kernel_rfl) rfl #[.pointer (some ⟨gb158, 0, none⟩)] (by rfl) rfl rfl (by (try simp only [List.map_toArray, List.map_cons, List.map_nil]); first | done | rfl | (simp only [List.length_drop, List.length_take]; rfl)) ?_
        with_reducible refine (spec_l06Var.calls k gb158 a0 1 false t159 t160 t161 t162 w _ ?side1 ?side2 A7.out).mono ?_
        (case side1 => exact IsS83.T_ HI158 (nC NB158_157 (nC NB158_163 nN)))
        (case side2 => exact lT HB (gC GE157 (gC GE163 gN)))
        rintro e w54 ⟨rfl, hi, hb, hk⟩
        refine ⟨_, rfl, ?_⟩
        replace BK157 := ak (KeepBut.blk hk (g' := gb157) (o := .cells #[.int .i64 0, .int .i64 0, .int .i64 0, .int .i64 0, .int .i64 0, .string (⟨#[]⟩ : ByteArray), .string (⟨#[]⟩ : ByteArray), .string (⟨#[]⟩ : ByteArray)] 23 (0, 0)) (bG BK157) NB157_158.out (by simp))
        replace BK163 := ak (KeepBut.blk hk (g' := gb163) (o := .cells #[.int .i64 0, .int .i64 0, .int .i64 0, .int .i64 0, .int .i64 0, .string (⟨#[]⟩ : ByteArray), .string (⟨#[]⟩ : ByteArray), .string (⟨#[]⟩ : ByteArray)] 23 (0, 0)) (bG BK163) NB163_158.out (by simp))
        replace HB := ak (hb)
        replace HI158 := ak (hi)
        (try clear hb)
        (try clear hb2)
        (try clear hk)
        (try clear hi)
        refine hK.out _ _ trivial (fun hHeld => ?_)
        clear hK K
        refine nm ?_
        refine pu 5 19 (fb 8 127) HT_ ?_
        exact norm_ (by simp only [putAll, Act.put, List.setIfInBounds_toArray, List.set_cons_zero, List.set_cons_succ]) (hCont (gb163) _ ⟨(bG BK157), (bG BK163), GW163.out, GE163.out, NB158_163.out, NB163_158.out, NB157_163.out, NB163_157.out, (IsS83.T_ HI158 (nC NB158_157 (nC NB158_163 nN))), (lT HB (gC GE157 (gC GE163 gN)))⟩)
      rintro gb163 w55 ⟨h0_, h1_, h2_, h3_, h4_, h5_, h6_, h7_, h8_, h9_⟩
      have n0_ : Aside0 (w55.heap[gb157]? = some (.cells #[.int .i64 0, .int .i64 0, .int .i64 0, .int .i64 0, .int .i64 0, .string (⟨#[]⟩ : ByteArray), .string (⟨#[]⟩ : ByteArray), .string (⟨#[]⟩ : ByteArray)] 23 (0, 0))) := ⟨h0_⟩
      have n1_ : Aside0 (w55.heap[gb163]? = some (.cells #[.int .i64 0, .int .i64 0, .int .i64 0, .int .i64 0, .int .i64 0, .string (⟨#[]⟩ : ByteArray), .string (⟨#[]⟩ : ByteArray), .string (⟨#[]⟩ : ByteArray)] 23 (0, 0))) := ⟨h1_⟩
      have n2_ : Aside0 (w.heap.size ≤ gb163) := ⟨h2_⟩
      have n3_ : Aside0 (w.heap.size ≤ gb163) := ⟨h3_⟩
      have n4_ : Aside0 (gb158 ≠ gb163) := ⟨h4_⟩
      have n5_ : Aside0 (gb163 ≠ gb158) := ⟨h5_⟩
      have n6_ : Aside0 (gb157 ≠ gb163) := ⟨h6_⟩
      have n7_ : Aside0 (gb163 ≠ gb157) := ⟨h7_⟩
      have n8_ : Aside0 (IsS83 w w55 gb158 t160 t161 t162) := ⟨h8_⟩
      have n9_ : Aside0 (Below w.heap.size w w55) := ⟨h9_⟩
      clear BK157
      clear HI158
      clear HB
      clear h0_ h1_ h2_ h3_ h4_ h5_ h6_ h7_ h8_ h9_
      have BK157 := n0_
      have BK163 := n1_
      have GW163 := n2_
      have GE163 := n3_
      have NB158_163 := n4_
      have NB163_158 := n5_
      have NB157_163 := n6_
      have NB163_157 := n7_
      have HI158 := n8_
      have HB := n9_
      clear n0_ n1_ n2_ n3_ n4_ n5_ n6_ n7_ n8_ n9_
      have hHeld := trivial
      refine norm_ (a' := ?_) ?_ ?_
      rotate_left
      ·simp only [putAll, Act.put, List.setIfInBounds_toArray, List.set_cons_zero, List.set_cons_succ]
       rfl
      refine on 7 none (fb 8 255) HT_ (fun K hK => ?_)
      have hs56 : w55.cell? ⟨gb163, 0, none⟩ = some (.int .i64 0) := bc BK163 0
      have hfs56 := blk_frozen BK163.out 0
      have hns56_0 := NB157_163.out
      have hms56_0 := NB163_157.out
      have hs57 : w55.cell? ⟨gb163, 1, none⟩ = some (.int .i64 0) := bc BK163 1
      have hfs57 := blk_frozen BK163.out 1
      have hns57_0 := NB157_163.out
      have hms57_0 := NB163_157.out
      have hs58 : w55.cell? ⟨gb163, 2, none⟩ = some (.int .i64 0) := bc BK163 2
      have hfs58 := blk_frozen BK163.out 2
      have hns58_0 := NB157_163.out
      have hms58_0 := NB163_157.out
      have hs59 : w55.cell? ⟨gb163, 3, none⟩ = some (.int .i64 0) := bc BK163 3
      have hfs59 := blk_frozen BK163.out 3
      have hns59_0 := NB157_163.out
      have hms59_0 := NB163_157.out
      have hs60 : w55.cell? ⟨gb163, 4, none⟩ = some (.int .i64 0) := bc BK163 4
      have hfs60 := blk_frozen BK163.out 4
      have hns60_0 := NB157_163.out
      have hms60_0 := NB163_157.out
      have hs61 : w55.cell? ⟨gb163, 5, none⟩ = some (.string (⟨#[]⟩ : ByteArray)) := bc BK163 5
      have hfs61 := blk_frozen BK163.out 5
      have hns61_0 := NB157_163.out
      have hms61_0 := NB163_157.out
      have hs62 : w55.cell? ⟨gb163, 6, none⟩ = some (.string (⟨#[]⟩ : ByteArray)) := bc BK163 6
      have hfs62 := blk_frozen BK163.out 6
      have hns62_0 := NB157_163.out
      have hms62_0 := NB163_157.out
      have hs63 : w55.cell? ⟨gb163, 7, none⟩ = some (.string (⟨#[]⟩ : ByteArray)) := bc BK163 7
      have hfs63 := blk_frozen BK163.out 7
      have hns63_0 := NB157_163.out
      have hms63_0 := NB163_157.out
      refine skip_ (w1 := ?_) (by rfl) rfl ?_ ?_
      rotate_left
      ·go_simp
       rfl
      refine hK.out _ _ trivial (fun hHeld => ?_)
      clear hK K
      refine done_ (done_of HT_.out (by kernel_rfl)) ?_
      try go_wp2_with (first | ((with_reducible refine gate_callee (f := 53) rfl ?_); refine gl (some 21) Try.func53 #[.pointer (some ⟨gb158, 0, none⟩)] ?_; (with_reducible refine (spec_l06Var.calls k gb158 t160 t161 t162 t164 t165 t166 t167 w _ ?side1 ?side2 A8.out).mono ?_); (case side1 => exact IsS83.T_ HI158 (nC NB158_157 (nC NB158_163 nN))); (case side2 => exact lT HB (gC GE157 (gC GE163 gN))); rintro e w64 ⟨rfl, hi, hb, hk⟩; refine ⟨_, rfl, ?_⟩; replace BK157 := ak (KeepBut.blk hk (g' := gb157) (o := .cells #[.int .i64 0, .int .i64 0, .int .i64 0, .int .i64 0, .int .i64 0, .string (⟨#[]⟩ : ByteArray), .string (⟨#[]⟩ : ByteArray), .string (⟨#[]⟩ : ByteArray)] 23 (0, 0)) (bT BK157 (nC NB157_163 nN)) NB157_158.out (by simp)); replace BK163 := ak (KeepBut.blk hk (g' := gb163) (o := .cells #[.int .i64 (wrap64 (bt a0 0)), .int .i64 t159, .int .i64 0, .int .i64 0, .int .i64 0, .string (⟨#[]⟩ : ByteArray), .string (⟨#[]⟩ : ByteArray), .string (⟨#[]⟩ : ByteArray)] 23 (0, 0)) (bW BK163) NB163_158.out (by simp)); replace HB := ak (hb); replace HI158 := ak (hi); (try clear hb); (try clear hk); (try clear hi); have hnb65 := NB163_157.out; have hnc65 := NB157_163.out; have hnb66 := NB163_158.out; have hnc66 := NB158_163.out; obtain ⟨hcz67_0, hcz67_1, hcz67_2, hcz67_3, hcz67_4, hcz67_5, hcz67_6, hcz67_7, hfz67_0, hfz67_1, hfz67_2, hfz67_3, hfz67_4, hfz67_5, hfz67_6, hfz67_7⟩ := bC8 BK163) | ((with_reducible refine gate_callee (f := 53) rfl ?_); refine gl (some 24) Try.func53 #[.pointer (some ⟨gb158, 0, none⟩)] ?_; (with_reducible refine (spec_l06Var.calls k gb158 t165 t166 t167 t168 t169 t170 t171 w _ ?side1 ?side2 A9.out).mono ?_); (case side1 => exact IsS83.T_ HI158 (nC NB158_157 (nC NB158_163 nN))); (case side2 => exact lT HB (gC GE157 (gC GE163 gN))); rintro e w68 ⟨rfl, hi, hb, hk⟩; refine ⟨_, rfl, ?_⟩; replace BK157 := ak (KeepBut.blk hk (g' := gb157) (o := .cells #[.int .i64 0, .int .i64 0, .int .i64 0, .int .i64 0, .int .i64 0, .string (⟨#[]⟩ : ByteArray), .string (⟨#[]⟩ : ByteArray), .string (⟨#[]⟩ : ByteArray)] 23 (0, 0)) (bT BK157 (nC NB157_163 nN)) NB157_158.out (by simp)); replace BK163 := ak (KeepBut.blk hk (g' := gb163) (o := .cells #[.int .i64 (wrap64 (bt a0 0)), .int .i64 t159, .int .i64 t164, .int .i64 0, .int .i64 0, .string (⟨#[]⟩ : ByteArray), .string (⟨#[]⟩ : ByteArray), .string (⟨#[]⟩ : ByteArray)] 23 (0, 0)) (bW BK163) NB163_158.out (by simp)); replace HB := ak (hb); replace HI158 := ak (hi); (try clear hb); (try clear hk); (try clear hi); obtain ⟨hcz69_0, hcz69_1, hcz69_2, hcz69_3, hcz69_4, hcz69_5, hcz69_6, hcz69_7, hfz69_0, hfz69_1, hfz69_2, hfz69_3, hfz69_4, hfz69_5, hfz69_6, hfz69_7⟩ := bC8 BK163) | ((with_reducible refine gate_callee (f := 53) rfl ?_); refine gl (some 27) Try.func53 #[.pointer (some ⟨gb158, 0, none⟩)] ?_; (with_reducible refine (spec_l06Var.calls k gb158 t169 t170 t171 t172 t173 t174 t175 w _ ?side1 ?side2 A10.out).mono ?_); (case side1 => exact IsS83.T_ HI158 (nC NB158_157 (nC NB158_163 nN))); (case side2 => exact lT HB (gC GE157 (gC GE163 gN))); rintro e w70 ⟨rfl, hi, hb, hk⟩; refine ⟨_, rfl, ?_⟩; replace BK157 := ak (KeepBut.blk hk (g' := gb157) (o := .cells #[.int .i64 0, .int .i64 0, .int .i64 0, .int .i64 0, .int .i64 0, .string (⟨#[]⟩ : ByteArray), .string (⟨#[]⟩ : ByteArray), .string (⟨#[]⟩ : ByteArray)] 23 (0, 0)) (bT BK157 (nC NB157_163 nN)) NB157_158.out (by simp)); replace BK163 := ak (KeepBut.blk hk (g' := gb163) (o := .cells #[.int .i64 (wrap64 (bt a0 0)), .int .i64 t159, .int .i64 t164, .int .i64 t168, .int .i64 0, .string (⟨#[]⟩ : ByteArray), .string (⟨#[]⟩ : ByteArray), .string (⟨#[]⟩ : ByteArray)] 23 (0, 0)) (bW BK163) NB163_158.out (by simp)); replace HB := ak (hb); replace HI158 := ak (hi); (try clear hb); (try clear hk); (try clear hi); obtain ⟨hcz71_0, hcz71_1, hcz71_2, hcz71_3, hcz71_4, hcz71_5, hcz71_6, hcz71_7, hfz71_0, hfz71_1, hfz71_2, hfz71_3, hfz71_4, hfz71_5, hfz71_6, hfz71_7⟩ := bC8 BK163) | ((with_reducible refine gate_callee (f := 54) rfl ?_); refine gl (some 30) Try.func54 #[.pointer (some ⟨gb158, 0, none⟩)] ?_; (with_reducible refine (spec_l06ReadShort.calls k gb158 t173 t174 t175 t176 t177 t178 t179 w _ ?side1 ?side2 A11.out).mono ?_); (case side1 => exact IsS83.T_ HI158 (nC NB158_157 (nC NB158_163 nN))); (case side2 => exact lT HB (gC GE157 (gC GE163 gN))); rintro e w72 ⟨rfl, hi, hb, hk⟩; refine ⟨_, rfl, ?_⟩; replace BK157 := ak (KeepBut.blk hk (g' := gb157) (o := .cells #[.int .i64 0, .int .i64 0, .int .i64 0, .int .i64 0, .int .i64 0, .string (⟨#[]⟩ : ByteArray), .string (⟨#[]⟩ : ByteArray), .string (⟨#[]⟩ : ByteArray)] 23 (0, 0)) (bT BK157 (nC NB157_163 nN)) NB157_158.out (by simp)); replace BK163 := ak (KeepBut.blk hk (g' := gb163) (o := .cells #[.int .i64 (wrap64 (bt a0 0)), .int .i64 t159, .int .i64 t164, .int .i64 t168, .int .i64 t172, .string (⟨#[]⟩ : ByteArray), .string (⟨#[]⟩ : ByteArray), .string (⟨#[]⟩ : ByteArray)] 23 (0, 0)) (bW BK163) NB163_158.out (by simp)); replace HB := ak (hb); replace HI158 := ak (hi); (try clear hb); (try clear hk); (try clear hi); obtain ⟨hcz73_0, hcz73_1, hcz73_2, hcz73_3, hcz73_4, hcz73_5, hcz73_6, hcz73_7, hfz73_0, hfz73_1, hfz73_2, hfz73_3, hfz73_4, hfz73_5, hfz73_6, hfz73_7⟩ := bC8 BK163) | ((with_reducible refine gate_callee (f := 54) rfl ?_); refine gl (some 33) Try.func54 #[.pointer (some ⟨gb158, 0, none⟩)] ?_; (with_reducible refine (spec_l06ReadShort.calls k gb158 t177 t178 t179 t180 t181 t182 t183 w _ ?side1 ?side2 A12.out).mono ?_); (case side1 => exact IsS83.T_ HI158 (nC NB158_157 (nC NB158_163 nN))); (case side2 => exact lT HB (gC GE157 (gC GE163 gN))); rintro e w74 ⟨rfl, hi, hb, hk⟩; refine ⟨_, rfl, ?_⟩; replace BK157 := ak (KeepBut.blk hk (g' := gb157) (o := .cells #[.int .i64 0, .int .i64 0, .int .i64 0, .int .i64 0, .int .i64 0, .string (⟨#[]⟩ : ByteArray), .string (⟨#[]⟩ : ByteArray), .string (⟨#[]⟩ : ByteArray)] 23 (0, 0)) (bT BK157 (nC NB157_163 nN)) NB157_158.out (by simp)); replace BK163 := ak (KeepBut.blk hk (g' := gb163) (o := .cells #[.int .i64 (wrap64 (bt a0 0)), .int .i64 t159, .int .i64 t164, .int .i64 t168, .int .i64 t172, .string t176, .string (⟨#[]⟩ : ByteArray), .string (⟨#[]⟩ : ByteArray)] 23 (0, 0)) (bW BK163) NB163_158.out (by simp)); replace HB := ak (hb); replace HI158 := ak (hi); (try clear hb); (try clear hk); (try clear hi); obtain ⟨hcz75_0, hcz75_1, hcz75_2, hcz75_3, hcz75_4, hcz75_5, hcz75_6, hcz75_7, hfz75_0, hfz75_1, hfz75_2, hfz75_3, hfz75_4, hfz75_5, hfz75_6, hfz75_7⟩ := bC8 BK163) | ((with_reducible refine gate_callee (f := 54) rfl ?_); refine gl (some 36) Try.func54 #[.pointer (some ⟨gb158, 0, none⟩)] ?_; (with_reducible refine (spec_l06ReadShort.calls k gb158 t181 t182 t183 t184 t185 t186 false w _ ?side1 ?side2 A13.out).mono ?_); (case side1 => exact IsS83.T_ HI158 (nC NB158_157 (nC NB158_163 nN))); (case side2 => exact lT HB (gC GE157 (gC GE163 gN))); rintro e w76 ⟨rfl, hi, hb, hk⟩; refine ⟨_, rfl, ?_⟩; replace BK157 := ak (KeepBut.blk hk (g' := gb157) (o := .cells #[.int .i64 0, .int .i64 0, .int .i64 0, .int .i64 0, .int .i64 0, .string (⟨#[]⟩ : ByteArray), .string (⟨#[]⟩ : ByteArray), .string (⟨#[]⟩ : ByteArray)] 23 (0, 0)) (bT BK157 (nC NB157_163 nN)) NB157_158.out (by simp)); replace BK163 := ak (KeepBut.blk hk (g' := gb163) (o := .cells #[.int .i64 (wrap64 (bt a0 0)), .int .i64 t159, .int .i64 t164, .int .i64 t168, .int .i64 t172, .string t176, .string t180, .string (⟨#[]⟩ : ByteArray)] 23 (0, 0)) (bW BK163) NB163_158.out (by simp)); replace HB := ak (hb); replace HI158 := ak (hi); (try clear hb); (try clear hk); (try clear hi); obtain ⟨hcz77_0, hcz77_1, hcz77_2, hcz77_3, hcz77_4, hcz77_5, hcz77_6, hcz77_7, hfz77_0, hfz77_1, hfz77_2, hfz77_3, hfz77_4, hfz77_5, hfz77_6, hfz77_7⟩ := bC8 BK163) | ((with_reducible refine gate_callee (f := 55) rfl ?_); refine gl (some 40) Try.func55 #[.agg #[.int .i64 (wrap64 (bt a0 0)), .int .i64 t159, .int .i64 t164, .int .i64 t168, .int .i64 t172, .string t176, .string t180, .string t184]] ?_; (with_reducible refine (spec_RecText.calls k (wrap64 (bt a0 0)) t159 t164 t168 t172 t176 t180 t184 t188 true _ A14.out).mono ?_); rintro e w78 ⟨rfl, hb⟩; refine ⟨_, rfl, ?_⟩; replace BK157 := ak (blk_below (bT BK157 (nC NB157_163 nN)) hb); replace BK163 := ak (blk_below (g := gb163) (o := .cells #[.int .i64 (wrap64 (bt a0 0)), .int .i64 t159, .int .i64 t164, .int .i64 t168, .int .i64 t172, .string t176, .string t180, .string t184] 23 (0, 0)) (bW BK163) hb); replace HB := ak (below_step (lT HB (gC GE157 (gC GE163 gN))) hb); replace HI158 := ak (IsS83.below (show IsS83 w (w76.setCell ⟨gb163, 7, none⟩ (.string t184)) gb158 t185 t186 false from IsS83.T_ HI158 (nC NB158_157 (nC NB158_163 nN))) hb); (try clear hb); (try clear hk); (try clear hi); obtain ⟨HGz79, hgz79⟩ := HI158.out; have hcz79_0 := cellS83_0 HGz79; have hcz79_1 := cellS83_1 HGz79; have hcz79_2 := cellS83_2 HGz79; have hfz79_0 := blk_frozen HGz79 0; have hfz79_1 := blk_frozen HGz79 1; have hfz79_2 := blk_frozen HGz79 2; clear HGz79 hgz79; obtain ⟨hcz80_0, hcz80_1, hcz80_2, hcz80_3, hcz80_4, hcz80_5, hcz80_6, hcz80_7, hfz80_0, hfz80_1, hfz80_2, hfz80_3, hfz80_4, hfz80_5, hfz80_6, hfz80_7⟩ := bC8 BK163; have hnb81 := NB157_158.out; have hnc81 := NB158_157.out; obtain ⟨hcz82_0, hcz82_1, hcz82_2, hcz82_3, hcz82_4, hcz82_5, hcz82_6, hcz82_7, hfz82_0, hfz82_1, hfz82_2, hfz82_3, hfz82_4, hfz82_5, hfz82_6, hfz82_7⟩ := bC8 BK157))
      refine bodyPost_ret (results_ct rfl _ _ gb157 23 #[.int .i64 (wrap64 (bt a0 0)), .int .i64 t159, .int .i64 t164, .int .i64 t168, .int .i64 t172, .string t176, .string t180, .string t184] (0, 0) _ rfl (bW BK157) Try.underlying23 rfl (by kernel_rfl)) rfl ?_
      exact ⟨ew, lT HB (gC GE157 (gC GE163 gN))⟩
     ·rw [if_neg c49] at H
      have c49b0 : (t188.toList == a0.toList) = false := beq_eq_false_iff_ne.mpr c49
      have c49b1 : (t188.toList != a0.toList) = true := bne_iff_ne.mpr c49
      simp only [Option.some.injEq, Prod.mk.injEq] at H
      obtain ⟨rfl, rfl, rfl, rfl, rfl, rfl, rfl, rfl, rfl⟩ := H
      go_enter Try.func10, Try.ntmps10
      try go_wp2_with (first | ((with_reducible refine gate_dst (N := 2) rfl ?_); refine bx 2 #[.int .i64 0, .int .i64 0, .int .i64 0, .int .i64 0, .int .i64 0, .string (⟨#[]⟩ : ByteArray), .string (⟨#[]⟩ : ByteArray), .string (⟨#[]⟩ : ByteArray)] 23 ?_; intro gb157 hg w83 hbox hb; replace BK157 := ak (hbox); replace GW157 := ak (bz hg (lG HB)); replace GE157 := ak (bz hg (lG HB)); replace HB := lB HB hb; clear hb hbox hg) | ((with_reducible refine gate_dst (N := 13) rfl ?_); refine bx 13 #[.string a0, .int .i64 1, .bool false] 83 ?_; intro gb158 hg w84 hbox hb; replace HI158 := ak ((⟨hbox, (by rw [hg]; exact (below_size (lT HB (gC GE157 gN))) : w.heap.size ≤ gb158)⟩ : IsS83 w w84 gb158 a0 1 false)); replace HB := ak (below_step (lT HB (gC GE157 gN)) hb); replace NB157_158 := ak (nl hg (bG BK157)); replace NB158_157 := ak (ng hg (bG BK157)); replace BK157 := bB BK157 hb; clear hb hbox hg))
      replace BK157 := ak (blk_drew BK157.out)
      replace HI158 := ak (IsS83.drew HI158.out)
      replace HB := ak (below_drew1 HB.out)
      have p6 : 0 ≤ (0 : Int) := (by omega)
      have q6 : 0 < a0.size := (by have : (0 : Int) < (a0.size : Int) := of_decide_eq_true (by first | (with_reducible assumption) | assumption); omega)
      have hx6 : ∀ h : 0 < a0.size, ((a0[0]'h).toNat : Int) = bt a0 0 := bt_at a0 0
      clear p6
      have qi6 : (0 < (a0.size : Int)) = True := eq_true (of_decide_eq_true (by first | (with_reducible assumption) | assumption))
      replace q6 := eq_true q6
      refine start_ (n := 8) (S := fun w' => True) (ds := []) #[f_,f_,f_,f_,f_,f_,f_,f_] (by kernel_rfl) rfl rfl trivial (fun hHeld => ?_); refine with_tabW spec_ReadRec.tab4 spec_ReadRec.bits4 (fun HT_ HW_ => ?_)
      generalize w84.drew = w85 at BK157 HI158 HB hHeld ⊢
      refine pu 0 14 (fb 8 1) HT_ ?_
      refine pu 3 17 (fb 8 9) HT_ ?_
      refine take_ (i := 1) (N := some 15) (v := ?_) (a' := ?_) #[t_,t_,f_,t_,f_,f_,f_,f_] rfl rfl (take_ofW HT_.out HW_.out (by kernel_rfl)) (fun _ _ _ h => h) (Or.inl ⟨by rfl, ?_⟩) hHeld ?_ ?_
      rotate_left
      ·intro w' _
       go_simp
       with_reducible rfl
      rotate_left
      ·simp only [Act.put, List.setIfInBounds_toArray, List.set_cons_zero, List.set_cons_succ, i64_w, i32_w]
       rfl
      refine pu 2 16 (fb 8 15) HT_ ?_
      refine join_ (σ := Nat) 1 #[t_,t_,t_,t_,t_,t_,t_,f_] (fun s_ => [(18, .int .i64 t159), (5, .pointer (some ⟨s_, 0, none⟩)), (19, .agg #[.int .i64 (wrap64 (bt a0 0)), .int .i64 t159, .int .i64 0, .int .i64 0, .int .i64 0, .string (⟨#[]⟩ : ByteArray), .string (⟨#[]⟩ : ByteArray), .string (⟨#[]⟩ : ByteArray)])]) (fun s_ w' => (w'.heap[gb157]? = some (.cells #[.int .i64 0, .int .i64 0, .int .i64 0, .int .i64 0, .int .i64 0, .string (⟨#[]⟩ : ByteArray), .string (⟨#[]⟩ : ByteArray), .string (⟨#[]⟩ : ByteArray)] 23 (0, 0))) ∧ (w'.heap[s_]? = some (.cells #[.int .i64 0, .int .i64 0, .int .i64 0, .int .i64 0, .int .i64 0, .string (⟨#[]⟩ : ByteArray), .string (⟨#[]⟩ : ByteArray), .string (⟨#[]⟩ : ByteArray)] 23 (0, 0))) ∧ (w.heap.size ≤ s_) ∧ (w.heap.size ≤ s_) ∧ (gb158 ≠ s_) ∧ (s_ ≠ gb158) ∧ (gb157 ≠ s_) ∧ (s_ ≠ gb157) ∧ (IsS83 w w' gb158 t160 t161 t162) ∧ (Below w.heap.size w w')) ?_ ?_
      rotate_left
      ·intro hCont
       refine two_ (i := 4) (j := 6) (Ni := some 18) (Nj := some 5) #[t_,t_,t_,t_,t_,f_,f_,f_] #[t_,t_,t_,t_,f_,f_,t_,f_] rfl rfl rfl rfl (two_of HT_.out (by kernel_rfl)) (by decide) (by decide) (fun K hK => ?_) (fun K hK => ?_)
       ·skip
        refine goes_ Try.func53 (by kernel_rfl) rfl #[.pointer (some ⟨gb158, 0, none⟩)] (by rfl) rfl rfl (by (try simp only [List.map_toArray, List.map_cons, List.map_nil]); first | done | rfl | (simp only [List.length_drop, List.length_take]; rfl)) ?_
        with_reducible refine (spec_l06Var.calls k gb158 a0 1 false t159 t160 t161 t162 w _ ?side1 ?side2 A7.out).mono ?_
        (case side1 => exact IsS83.T_ HI158 (nC NB158_157 nN))
        (case side2 => exact lT HB (gC GE157 gN))
        rintro e w86 ⟨rfl, hi, hb, hk⟩
        refine ⟨_, rfl, ?_⟩
        replace BK157 := ak (KeepBut.blk hk (g' := gb157) (o := .cells #[.int .i64 0, .int .i64 0, .int .i64 0, .int .i64 0, .int .i64 0, .string (⟨#[]⟩ : ByteArray), .string (⟨#[]⟩ : ByteArray), .string (⟨#[]⟩ : ByteArray)] 23 (0, 0)) (bG BK157) NB157_158.out (by simp))
        replace HB := ak (hb)
        replace HI158 := ak (hi)
        (try clear hb)
        (try clear hb2)
        (try clear hk)
        (try clear hi)
        refine hK.out _ _ trivial (fun hHeld => ?_)
        clear hK K
        refine nm ?_
        refine pu 5 19 (fb 8 63) HT_ ?_
        refine on 6 (some 5) (fb 8 127) HT_ (fun K hK => ?_)
        refine box_step ?hg (N := 5) ?hd (cs := #[.int .i64 0, .int .i64 0, .int .i64 0, .int .i64 0, .int .i64 0, .string (⟨#[]⟩ : ByteArray), .string (⟨#[]⟩ : ByteArray), .string (⟨#[]⟩ : ByteArray)]) (t := 23) ?hr ?_; (case hd => rfl); (case hg => rfl); (case hr => first | (go_simp; done) | (go_simp; rfl))
        intro gb163 hg w87 hbox hb
        replace BK163 := ak (hbox)
        replace GW163 := ak (bz hg (lT HB (gC GE157 gN)))
        replace GE163 := ak (bz hg (lT HB (gC GE157 gN)))
        replace HB := ak (below_step (lT HB (gC GE157 gN)) hb)
        replace NB157_163 := ak (nl hg (bG BK157))
        replace NB163_157 := ak (ng hg (bG BK157))
        replace BK157 := bB BK157 hb
        replace NB158_163 := ak ((by rw [hg]; exact Nat.ne_of_lt (IsS83.lt (show IsS83 w _ gb158 t160 t161 t162 from IsS83.T_ HI158 (nC NB158_157 nN))) : gb158 ≠ gb163))
        replace NB163_158 := ak ((by rw [hg]; exact Nat.ne_of_gt (IsS83.lt (show IsS83 w _ gb158 t160 t161 t162 from IsS83.T_ HI158 (nC NB158_157 nN))) : gb163 ≠ gb158))
        replace HI158 := ak (IsS83.below (IsS83.T_ HI158 (nC NB158_157 nN)) hb)
        clear hb hbox hg
        refine hK.out _ _ trivial (fun hHeld => ?_)
        clear hK K
        refine nm ?_
        exact norm_ (by simp only [putAll, Act.put, List.setIfInBounds_toArray, List.set_cons_zero, List.set_cons_succ]) (hCont (gb163) _ ⟨(bG BK157), (bG BK163), GW163.out, GE163.out, NB158_163.out, NB163_158.out, NB157_163.out, NB163_157.out, (IsS83.T_ HI158 (nC NB158_157 (nC NB158_163 nN))), (lT HB (gC GE157 (gC GE163 gN)))⟩)
       ·skip
        refine box_step ?hg (N := 5) ?hd (cs := #[.int .i64 0, .int .i64 0, .int .i64 0, .int .i64 0, .int .i64 0, .string (⟨#[]⟩ : ByteArray), .string (⟨#[]⟩ : ByteArray), .string (⟨#[]⟩ : ByteArray)]) (t := 23) ?hr ?_; (case hd => rfl); (case hg => rfl); (case hr => first | (go_simp; done) | (go_simp; rfl))
        intro gb163 hg w86 hbox hb
        replace BK163 := ak (hbox)
        replace GW163 := ak (bz hg (lT HB (gC GE157 gN)))
        replace GE163 := ak (bz hg (lT HB (gC GE157 gN)))
        replace HB := ak (below_step (lT HB (gC GE157 gN)) hb)
        replace NB157_163 := ak (nl hg (bG BK157))
        replace NB163_157 := ak (ng hg (bG BK157))
        replace BK157 := bB BK157 hb
        replace NB158_163 := ak ((by rw [hg]; exact Nat.ne_of_lt (IsS83.lt (show IsS83 w _ gb158 a0 1 false from IsS83.T_ HI158 (nC NB158_157 nN))) : gb158 ≠ gb163))
        replace NB163_158 := ak ((by rw [hg]; exact Nat.ne_of_gt (IsS83.lt (show IsS83 w _ gb158 a0 1 false from IsS83.T_ HI158 (nC NB158_157 nN))) : gb163 ≠ gb158))
        replace HI158 := ak (IsS83.below (IsS83.T_ HI158 (nC NB158_157 nN)) hb)
        clear hb hbox hg
        refine hK.out _ _ trivial (fun hHeld => ?_)
        clear hK K
        refine nm ?_
        refine on 4 (some 18) (fb 8 95) HT_ (fun K hK => ?_)
        refine goes_ Try.func53 (by kernel_rfl) rfl #[.pointer (some ⟨gb158, 0, none⟩)] (by rfl) rfl rfl (by (try simp only [List.map_toArray, List.map_cons, List.map_nil]); first | done | rfl | (simp only [List.length_drop, List.length_take]; rfl)) ?_
        with_reducible refine (spec_l06Var.calls k gb158 a0 1 false t159 t160 t161 t162 w _ ?side1 ?side2 A7.out).mono ?_
        (case side1 => exact IsS83.T_ HI158 (nC NB158_157 (nC NB158_163 nN)))
        (case side2 => exact lT HB (gC GE157 (gC GE163 gN)))
        rintro e w87 ⟨rfl, hi, hb, hk⟩
        refine ⟨_, rfl, ?_⟩
        replace BK157 := ak (KeepBut.blk hk (g' := gb157) (o := .cells #[.int .i64 0, .int .i64 0, .int .i64 0, .int .i64 0, .int .i64 0, .string (⟨#[]⟩ : ByteArray), .string (⟨#[]⟩ : ByteArray), .string (⟨#[]⟩ : ByteArray)] 23 (0, 0)) (bG BK157) NB157_158.out (by simp))
        replace BK163 := ak (KeepBut.blk hk (g' := gb163) (o := .cells #[.int .i64 0, .int .i64 0, .int .i64 0, .int .i64 0, .int .i64 0, .string (⟨#[]⟩ : ByteArray), .string (⟨#[]⟩ : ByteArray), .string (⟨#[]⟩ : ByteArray)] 23 (0, 0)) (bG BK163) NB163_158.out (by simp))
        replace HB := ak (hb)
        replace HI158 := ak (hi)
        (try clear hb)
        (try clear hb2)
        (try clear hk)
        (try clear hi)
        refine hK.out _ _ trivial (fun hHeld => ?_)
        clear hK K
        refine nm ?_
        refine pu 5 19 (fb 8 127) HT_ ?_
        exact norm_ (by simp only [putAll, Act.put, List.setIfInBounds_toArray, List.set_cons_zero, List.set_cons_succ]) (hCont (gb163) _ ⟨(bG BK157), (bG BK163), GW163.out, GE163.out, NB158_163.out, NB163_158.out, NB157_163.out, NB163_157.out, (IsS83.T_ HI158 (nC NB158_157 (nC NB158_163 nN))), (lT HB (gC GE157 (gC GE163 gN)))⟩)
      rintro gb163 w88 ⟨h0_, h1_, h2_, h3_, h4_, h5_, h6_, h7_, h8_, h9_⟩
      have n0_ : Aside0 (w88.heap[gb157]? = some (.cells #[.int .i64 0, .int .i64 0, .int .i64 0, .int .i64 0, .int .i64 0, .string (⟨#[]⟩ : ByteArray), .string (⟨#[]⟩ : ByteArray), .string (⟨#[]⟩ : ByteArray)] 23 (0, 0))) := ⟨h0_⟩
      have n1_ : Aside0 (w88.heap[gb163]? = some (.cells #[.int .i64 0, .int .i64 0, .int .i64 0, .int .i64 0, .int .i64 0, .string (⟨#[]⟩ : ByteArray), .string (⟨#[]⟩ : ByteArray), .string (⟨#[]⟩ : ByteArray)] 23 (0, 0))) := ⟨h1_⟩
      have n2_ : Aside0 (w.heap.size ≤ gb163) := ⟨h2_⟩
      have n3_ : Aside0 (w.heap.size ≤ gb163) := ⟨h3_⟩
      have n4_ : Aside0 (gb158 ≠ gb163) := ⟨h4_⟩
      have n5_ : Aside0 (gb163 ≠ gb158) := ⟨h5_⟩
      have n6_ : Aside0 (gb157 ≠ gb163) := ⟨h6_⟩
      have n7_ : Aside0 (gb163 ≠ gb157) := ⟨h7_⟩
      have n8_ : Aside0 (IsS83 w w88 gb158 t160 t161 t162) := ⟨h8_⟩
      have n9_ : Aside0 (Below w.heap.size w w88) := ⟨h9_⟩
      clear BK157
      clear HI158
      clear HB
      clear h0_ h1_ h2_ h3_ h4_ h5_ h6_ h7_ h8_ h9_
      have BK157 := n0_
      have BK163 := n1_
      have GW163 := n2_
      have GE163 := n3_
      have NB158_163 := n4_
      have NB163_158 := n5_
      have NB157_163 := n6_
      have NB163_157 := n7_
      have HI158 := n8_
      have HB := n9_
      clear n0_ n1_ n2_ n3_ n4_ n5_ n6_ n7_ n8_ n9_
      have hHeld := trivial
      refine norm_ (a' := ?_) ?_ ?_
      rotate_left
      ·simp only [putAll, Act.put, List.setIfInBounds_toArray, List.set_cons_zero, List.set_cons_succ]
       rfl
      refine on 7 none (fb 8 255) HT_ (fun K hK => ?_)
      have hs89 : w88.cell? ⟨gb163, 0, none⟩ = some (.int .i64 0) := bc BK163 0
      have hfs89 := blk_frozen BK163.out 0
      have hns89_0 := NB157_163.out
      have hms89_0 := NB163_157.out
      have hs90 : w88.cell? ⟨gb163, 1, none⟩ = some (.int .i64 0) := bc BK163 1
      have hfs90 := blk_frozen BK163.out 1
      have hns90_0 := NB157_163.out
      have hms90_0 := NB163_157.out
      have hs91 : w88.cell? ⟨gb163, 2, none⟩ = some (.int .i64 0) := bc BK163 2
      have hfs91 := blk_frozen BK163.out 2
      have hns91_0 := NB157_163.out
      have hms91_0 := NB163_157.out
      have hs92 : w88.cell? ⟨gb163, 3, none⟩ = some (.int .i64 0) := bc BK163 3
      have hfs92 := blk_frozen BK163.out 3
      have hns92_0 := NB157_163.out
      have hms92_0 := NB163_157.out
      have hs93 : w88.cell? ⟨gb163, 4, none⟩ = some (.int .i64 0) := bc BK163 4
      have hfs93 := blk_frozen BK163.out 4
      have hns93_0 := NB157_163.out
      have hms93_0 := NB163_157.out
      have hs94 : w88.cell? ⟨gb163, 5, none⟩ = some (.string (⟨#[]⟩ : ByteArray)) := bc BK163 5
      have hfs94 := blk_frozen BK163.out 5
      have hns94_0 := NB157_163.out
      have hms94_0 := NB163_157.out
      have hs95 : w88.cell? ⟨gb163, 6, none⟩ = some (.string (⟨#[]⟩ : ByteArray)) := bc BK163 6
      have hfs95 := blk_frozen BK163.out 6
      have hns95_0 := NB157_163.out
      have hms95_0 := NB163_157.out
      have hs96 : w88.cell? ⟨gb163, 7, none⟩ = some (.string (⟨#[]⟩ : ByteArray)) := bc BK163 7
      have hfs96 := blk_frozen BK163.out 7
      have hns96_0 := NB157_163.out
      have hms96_0 := NB163_157.out
      refine skip_ (w1 := ?_) (by rfl) rfl ?_ ?_
      rotate_left
      ·go_simp
       rfl
      refine hK.out _ _ trivial (fun hHeld => ?_)
      clear hK K
      refine done_ (done_of HT_.out (by kernel_rfl)) ?_
      try go_wp2_with (first | ((with_reducible refine gate_callee (f := 53) rfl ?_); refine gl (some 21) Try.func53 #[.pointer (some ⟨gb158, 0, none⟩)] ?_; (with_reducible refine (spec_l06Var.calls k gb158 t160 t161 t162 t164 t165 t166 t167 w _ ?side1 ?side2 A8.out).mono ?_); (case side1 => exact IsS83.T_ HI158 (nC NB158_157 (nC NB158_163 nN))); (case side2 => exact lT HB (gC GE157 (gC GE163 gN))); rintro e w97 ⟨rfl, hi, hb, hk⟩; refine ⟨_, rfl, ?_⟩; replace BK157 := ak (KeepBut.blk hk (g' := gb157) (o := .cells #[.int .i64 0, .int .i64 0, .int .i64 0, .int .i64 0, .int .i64 0, .string (⟨#[]⟩ : ByteArray), .string (⟨#[]⟩ : ByteArray), .string (⟨#[]⟩ : ByteArray)] 23 (0, 0)) (bT BK157 (nC NB157_163 nN)) NB157_158.out (by simp)); replace BK163 := ak (KeepBut.blk hk (g' := gb163) (o := .cells #[.int .i64 (wrap64 (bt a0 0)), .int .i64 t159, .int .i64 0, .int .i64 0, .int .i64 0, .string (⟨#[]⟩ : ByteArray), .string (⟨#[]⟩ : ByteArray), .string (⟨#[]⟩ : ByteArray)] 23 (0, 0)) (bW BK163) NB163_158.out (by simp)); replace HB := ak (hb); replace HI158 := ak (hi); (try clear hb); (try clear hk); (try clear hi); have hnb98 := NB163_157.out; have hnc98 := NB157_163.out; have hnb99 := NB163_158.out; have hnc99 := NB158_163.out; obtain ⟨hcz100_0, hcz100_1, hcz100_2, hcz100_3, hcz100_4, hcz100_5, hcz100_6, hcz100_7, hfz100_0, hfz100_1, hfz100_2, hfz100_3, hfz100_4, hfz100_5, hfz100_6, hfz100_7⟩ := bC8 BK163) | ((with_reducible refine gate_callee (f := 53) rfl ?_); refine gl (some 24) Try.func53 #[.pointer (some ⟨gb158, 0, none⟩)] ?_; (with_reducible refine (spec_l06Var.calls k gb158 t165 t166 t167 t168 t169 t170 t171 w _ ?side1 ?side2 A9.out).mono ?_); (case side1 => exact IsS83.T_ HI158 (nC NB158_157 (nC NB158_163 nN))); (case side2 => exact lT HB (gC GE157 (gC GE163 gN))); rintro e w101 ⟨rfl, hi, hb, hk⟩; refine ⟨_, rfl, ?_⟩; replace BK157 := ak (KeepBut.blk hk (g' := gb157) (o := .cells #[.int .i64 0, .int .i64 0, .int .i64 0, .int .i64 0, .int .i64 0, .string (⟨#[]⟩ : ByteArray), .string (⟨#[]⟩ : ByteArray), .string (⟨#[]⟩ : ByteArray)] 23 (0, 0)) (bT BK157 (nC NB157_163 nN)) NB157_158.out (by simp)); replace BK163 := ak (KeepBut.blk hk (g' := gb163) (o := .cells #[.int .i64 (wrap64 (bt a0 0)), .int .i64 t159, .int .i64 t164, .int .i64 0, .int .i64 0, .string (⟨#[]⟩ : ByteArray), .string (⟨#[]⟩ : ByteArray), .string (⟨#[]⟩ : ByteArray)] 23 (0, 0)) (bW BK163) NB163_158.out (by simp)); replace HB := ak (hb); replace HI158 := ak (hi); (try clear hb); (try clear hk); (try clear hi); obtain ⟨hcz102_0, hcz102_1, hcz102_2, hcz102_3, hcz102_4, hcz102_5, hcz102_6, hcz102_7, hfz102_0, hfz102_1, hfz102_2, hfz102_3, hfz102_4, hfz102_5, hfz102_6, hfz102_7⟩ := bC8 BK163) | ((with_reducible refine gate_callee (f := 53) rfl ?_); refine gl (some 27) Try.func53 #[.pointer (some ⟨gb158, 0, none⟩)] ?_; (with_reducible refine (spec_l06Var.calls k gb158 t169 t170 t171 t172 t173 t174 t175 w _ ?side1 ?side2 A10.out).mono ?_); (case side1 => exact IsS83.T_ HI158 (nC NB158_157 (nC NB158_163 nN))); (case side2 => exact lT HB (gC GE157 (gC GE163 gN))); rintro e w103 ⟨rfl, hi, hb, hk⟩; refine ⟨_, rfl, ?_⟩; replace BK157 := ak (KeepBut.blk hk (g' := gb157) (o := .cells #[.int .i64 0, .int .i64 0, .int .i64 0, .int .i64 0, .int .i64 0, .string (⟨#[]⟩ : ByteArray), .string (⟨#[]⟩ : ByteArray), .string (⟨#[]⟩ : ByteArray)] 23 (0, 0)) (bT BK157 (nC NB157_163 nN)) NB157_158.out (by simp)); replace BK163 := ak (KeepBut.blk hk (g' := gb163) (o := .cells #[.int .i64 (wrap64 (bt a0 0)), .int .i64 t159, .int .i64 t164, .int .i64 t168, .int .i64 0, .string (⟨#[]⟩ : ByteArray), .string (⟨#[]⟩ : ByteArray), .string (⟨#[]⟩ : ByteArray)] 23 (0, 0)) (bW BK163) NB163_158.out (by simp)); replace HB := ak (hb); replace HI158 := ak (hi); (try clear hb); (try clear hk); (try clear hi); obtain ⟨hcz104_0, hcz104_1, hcz104_2, hcz104_3, hcz104_4, hcz104_5, hcz104_6, hcz104_7, hfz104_0, hfz104_1, hfz104_2, hfz104_3, hfz104_4, hfz104_5, hfz104_6, hfz104_7⟩ := bC8 BK163) | ((with_reducible refine gate_callee (f := 54) rfl ?_); refine gl (some 30) Try.func54 #[.pointer (some ⟨gb158, 0, none⟩)] ?_; (with_reducible refine (spec_l06ReadShort.calls k gb158 t173 t174 t175 t176 t177 t178 t179 w _ ?side1 ?side2 A11.out).mono ?_); (case side1 => exact IsS83.T_ HI158 (nC NB158_157 (nC NB158_163 nN))); (case side2 => exact lT HB (gC GE157 (gC GE163 gN))); rintro e w105 ⟨rfl, hi, hb, hk⟩; refine ⟨_, rfl, ?_⟩; replace BK157 := ak (KeepBut.blk hk (g' := gb157) (o := .cells #[.int .i64 0, .int .i64 0, .int .i64 0, .int .i64 0, .int .i64 0, .string (⟨#[]⟩ : ByteArray), .string (⟨#[]⟩ : ByteArray), .string (⟨#[]⟩ : ByteArray)] 23 (0, 0)) (bT BK157 (nC NB157_163 nN)) NB157_158.out (by simp)); replace BK163 := ak (KeepBut.blk hk (g' := gb163) (o := .cells #[.int .i64 (wrap64 (bt a0 0)), .int .i64 t159, .int .i64 t164, .int .i64 t168, .int .i64 t172, .string (⟨#[]⟩ : ByteArray), .string (⟨#[]⟩ : ByteArray), .string (⟨#[]⟩ : ByteArray)] 23 (0, 0)) (bW BK163) NB163_158.out (by simp)); replace HB := ak (hb); replace HI158 := ak (hi); (try clear hb); (try clear hk); (try clear hi); obtain ⟨hcz106_0, hcz106_1, hcz106_2, hcz106_3, hcz106_4, hcz106_5, hcz106_6, hcz106_7, hfz106_0, hfz106_1, hfz106_2, hfz106_3, hfz106_4, hfz106_5, hfz106_6, hfz106_7⟩ := bC8 BK163) | ((with_reducible refine gate_callee (f := 54) rfl ?_); refine gl (some 33) Try.func54 #[.pointer (some ⟨gb158, 0, none⟩)] ?_; (with_reducible refine (spec_l06ReadShort.calls k gb158 t177 t178 t179 t180 t181 t182 t183 w _ ?side1 ?side2 A12.out).mono ?_); (case side1 => exact IsS83.T_ HI158 (nC NB158_157 (nC NB158_163 nN))); (case side2 => exact lT HB (gC GE157 (gC GE163 gN))); rintro e w107 ⟨rfl, hi, hb, hk⟩; refine ⟨_, rfl, ?_⟩; replace BK157 := ak (KeepBut.blk hk (g' := gb157) (o := .cells #[.int .i64 0, .int .i64 0, .int .i64 0, .int .i64 0, .int .i64 0, .string (⟨#[]⟩ : ByteArray), .string (⟨#[]⟩ : ByteArray), .string (⟨#[]⟩ : ByteArray)] 23 (0, 0)) (bT BK157 (nC NB157_163 nN)) NB157_158.out (by simp)); replace BK163 := ak (KeepBut.blk hk (g' := gb163) (o := .cells #[.int .i64 (wrap64 (bt a0 0)), .int .i64 t159, .int .i64 t164, .int .i64 t168, .int .i64 t172, .string t176, .string (⟨#[]⟩ : ByteArray), .string (⟨#[]⟩ : ByteArray)] 23 (0, 0)) (bW BK163) NB163_158.out (by simp)); replace HB := ak (hb); replace HI158 := ak (hi); (try clear hb); (try clear hk); (try clear hi); obtain ⟨hcz108_0, hcz108_1, hcz108_2, hcz108_3, hcz108_4, hcz108_5, hcz108_6, hcz108_7, hfz108_0, hfz108_1, hfz108_2, hfz108_3, hfz108_4, hfz108_5, hfz108_6, hfz108_7⟩ := bC8 BK163) | ((with_reducible refine gate_callee (f := 54) rfl ?_); refine gl (some 36) Try.func54 #[.pointer (some ⟨gb158, 0, none⟩)] ?_; (with_reducible refine (spec_l06ReadShort.calls k gb158 t181 t182 t183 t184 t185 t186 false w _ ?side1 ?side2 A13.out).mono ?_); (case side1 => exact IsS83.T_ HI158 (nC NB158_157 (nC NB158_163 nN))); (case side2 => exact lT HB (gC GE157 (gC GE163 gN))); rintro e w109 ⟨rfl, hi, hb, hk⟩; refine ⟨_, rfl, ?_⟩; replace BK157 := ak (KeepBut.blk hk (g' := gb157) (o := .cells #[.int .i64 0, .int .i64 0, .int .i64 0, .int .i64 0, .int .i64 0, .string (⟨#[]⟩ : ByteArray), .string (⟨#[]⟩ : ByteArray), .string (⟨#[]⟩ : ByteArray)] 23 (0, 0)) (bT BK157 (nC NB157_163 nN)) NB157_158.out (by simp)); replace BK163 := ak (KeepBut.blk hk (g' := gb163) (o := .cells #[.int .i64 (wrap64 (bt a0 0)), .int .i64 t159, .int .i64 t164, .int .i64 t168, .int .i64 t172, .string t176, .string t180, .string (⟨#[]⟩ : ByteArray)] 23 (0, 0)) (bW BK163) NB163_158.out (by simp)); replace HB := ak (hb); replace HI158 := ak (hi); (try clear hb); (try clear hk); (try clear hi); obtain ⟨hcz110_0, hcz110_1, hcz110_2, hcz110_3, hcz110_4, hcz110_5, hcz110_6, hcz110_7, hfz110_0, hfz110_1, hfz110_2, hfz110_3, hfz110_4, hfz110_5, hfz110_6, hfz110_7⟩ := bC8 BK163) | ((with_reducible refine gate_callee (f := 55) rfl ?_); refine gl (some 40) Try.func55 #[.agg #[.int .i64 (wrap64 (bt a0 0)), .int .i64 t159, .int .i64 t164, .int .i64 t168, .int .i64 t172, .string t176, .string t180, .string t184]] ?_; (with_reducible refine (spec_RecText.calls k (wrap64 (bt a0 0)) t159 t164 t168 t172 t176 t180 t184 t188 true _ A14.out).mono ?_); rintro e w111 ⟨rfl, hb⟩; refine ⟨_, rfl, ?_⟩; replace BK157 := ak (blk_below (bT BK157 (nC NB157_163 nN)) hb); replace BK163 := ak (blk_below (g := gb163) (o := .cells #[.int .i64 (wrap64 (bt a0 0)), .int .i64 t159, .int .i64 t164, .int .i64 t168, .int .i64 t172, .string t176, .string t180, .string t184] 23 (0, 0)) (bW BK163) hb); replace HB := ak (below_step (lT HB (gC GE157 (gC GE163 gN))) hb); replace HI158 := ak (IsS83.below (show IsS83 w (w109.setCell ⟨gb163, 7, none⟩ (.string t184)) gb158 t185 t186 false from IsS83.T_ HI158 (nC NB158_157 (nC NB158_163 nN))) hb); (try clear hb); (try clear hk); (try clear hi); obtain ⟨HGz112, hgz112⟩ := HI158.out; have hcz112_0 := cellS83_0 HGz112; have hcz112_1 := cellS83_1 HGz112; have hcz112_2 := cellS83_2 HGz112; have hfz112_0 := blk_frozen HGz112 0; have hfz112_1 := blk_frozen HGz112 1; have hfz112_2 := blk_frozen HGz112 2; clear HGz112 hgz112; have hnb113 := NB157_158.out; have hnc113 := NB158_157.out; obtain ⟨hcz114_0, hcz114_1, hcz114_2, hcz114_3, hcz114_4, hcz114_5, hcz114_6, hcz114_7, hfz114_0, hfz114_1, hfz114_2, hfz114_3, hfz114_4, hfz114_5, hfz114_6, hfz114_7⟩ := bC8 BK157))
      refine bodyPost_ret (results_ct rfl _ _ gb157 23 #[.int .i64 0, .int .i64 0, .int .i64 0, .int .i64 0, .int .i64 0, .string (⟨#[]⟩ : ByteArray), .string (⟨#[]⟩ : ByteArray), .string (⟨#[]⟩ : ByteArray)] (0, 0) _ rfl (bW BK157) Try.underlying23 rfl (by kernel_rfl)) rfl ?_
      exact ⟨ew, lT HB (gC GE157 (gC GE163 gN))⟩
    ·replace c48 := Bool.eq_false_iff.mpr c48
     subst c48
     have H1 : (some (0, 0, 0, 0, 0, (⟨#[]⟩ : ByteArray), (⟨#[]⟩ : ByteArray), (⟨#[]⟩ : ByteArray), false)) = some (r1, r2, r3, r4, r5, r6, r7, r8, r9) := by rw [if_neg (show ¬ (false = true) by decide)] at H; exact H
     clear H
     have H := H1
     clear H1
     simp only [Option.some.injEq, Prod.mk.injEq] at H
     obtain ⟨rfl, rfl, rfl, rfl, rfl, rfl, rfl, rfl, rfl⟩ := H
     go_enter Try.func10, Try.ntmps10
     try go_wp2_with (first | ((with_reducible refine gate_dst (N := 2) rfl ?_); refine bx 2 #[.int .i64 0, .int .i64 0, .int .i64 0, .int .i64 0, .int .i64 0, .string (⟨#[]⟩ : ByteArray), .string (⟨#[]⟩ : ByteArray), .string (⟨#[]⟩ : ByteArray)] 23 ?_; intro gb157 hg w115 hbox hb; replace BK157 := ak (hbox); replace GW157 := ak (bz hg (lG HB)); replace GE157 := ak (bz hg (lG HB)); replace HB := lB HB hb; clear hb hbox hg) | ((with_reducible refine gate_dst (N := 13) rfl ?_); refine bx 13 #[.string a0, .int .i64 1, .bool false] 83 ?_; intro gb158 hg w116 hbox hb; replace HI158 := ak ((⟨hbox, (by rw [hg]; exact (below_size (lT HB (gC GE157 gN))) : w.heap.size ≤ gb158)⟩ : IsS83 w w116 gb158 a0 1 false)); replace HB := ak (below_step (lT HB (gC GE157 gN)) hb); replace NB157_158 := ak (nl hg (bG BK157)); replace NB158_157 := ak (ng hg (bG BK157)); replace BK157 := bB BK157 hb; clear hb hbox hg))
     replace BK157 := ak (blk_drew BK157.out)
     replace HI158 := ak (IsS83.drew HI158.out)
     replace HB := ak (below_drew1 HB.out)
     have p6 : 0 ≤ (0 : Int) := (by omega)
     have q6 : 0 < a0.size := (by have : (0 : Int) < (a0.size : Int) := of_decide_eq_true (by first | (with_reducible assumption) | assumption); omega)
     have hx6 : ∀ h : 0 < a0.size, ((a0[0]'h).toNat : Int) = bt a0 0 := bt_at a0 0
     clear p6
     have qi6 : (0 < (a0.size : Int)) = True := eq_true (of_decide_eq_true (by first | (with_reducible assumption) | assumption))
     replace q6 := eq_true q6
     refine start_ (n := 8) (S := fun w' => True) (ds := []) #[f_,f_,f_,f_,f_,f_,f_,f_] (by kernel_rfl) rfl rfl trivial (fun hHeld => ?_); refine with_tabW spec_ReadRec.tab4 spec_ReadRec.bits4 (fun HT_ HW_ => ?_)
     generalize w116.drew = w117 at BK157 HI158 HB hHeld ⊢
     refine pu 0 14 (fb 8 1) HT_ ?_
     refine pu 3 17 (fb 8 9) HT_ ?_
     refine take_ (i := 1) (N := some 15) (v := ?_) (a' := ?_) #[t_,t_,f_,t_,f_,f_,f_,f_] rfl rfl (take_ofW HT_.out HW_.out (by kernel_rfl)) (fun _ _ _ h => h) (Or.inl ⟨by rfl, ?_⟩) hHeld ?_ ?_
     rotate_left
     ·intro w' _
      go_simp
      with_reducible rfl
     rotate_left
     ·simp only [Act.put, List.setIfInBounds_toArray, List.set_cons_zero, List.set_cons_succ, i64_w, i32_w]
      rfl
     refine pu 2 16 (fb 8 15) HT_ ?_
     refine join_ (σ := Nat) 1 #[t_,t_,t_,t_,t_,t_,t_,f_] (fun s_ => [(18, .int .i64 t159), (5, .pointer (some ⟨s_, 0, none⟩)), (19, .agg #[.int .i64 (wrap64 (bt a0 0)), .int .i64 t159, .int .i64 0, .int .i64 0, .int .i64 0, .string (⟨#[]⟩ : ByteArray), .string (⟨#[]⟩ : ByteArray), .string (⟨#[]⟩ : ByteArray)])]) (fun s_ w' => (w'.heap[gb157]? = some (.cells #[.int .i64 0, .int .i64 0, .int .i64 0, .int .i64 0, .int .i64 0, .string (⟨#[]⟩ : ByteArray), .string (⟨#[]⟩ : ByteArray), .string (⟨#[]⟩ : ByteArray)] 23 (0, 0))) ∧ (w'.heap[s_]? = some (.cells #[.int .i64 0, .int .i64 0, .int .i64 0, .int .i64 0, .int .i64 0, .string (⟨#[]⟩ : ByteArray), .string (⟨#[]⟩ : ByteArray), .string (⟨#[]⟩ : ByteArray)] 23 (0, 0))) ∧ (w.heap.size ≤ s_) ∧ (w.heap.size ≤ s_) ∧ (gb158 ≠ s_) ∧ (s_ ≠ gb158) ∧ (gb157 ≠ s_) ∧ (s_ ≠ gb157) ∧ (IsS83 w w' gb158 t160 t161 t162) ∧ (Below w.heap.size w w')) ?_ ?_
     rotate_left
     ·intro hCont
      refine two_ (i := 4) (j := 6) (Ni := some 18) (Nj := some 5) #[t_,t_,t_,t_,t_,f_,f_,f_] #[t_,t_,t_,t_,f_,f_,t_,f_] rfl rfl rfl rfl (two_of HT_.out (by kernel_rfl)) (by decide) (by decide) (fun K hK => ?_) (fun K hK => ?_)
      ·skip
       refine goes_ Try.func53 (by kernel_rfl) rfl #[.pointer (some ⟨gb158, 0, none⟩)] (by rfl) rfl rfl (by (try simp only [List.map_toArray, List.map_cons, List.map_nil]); first | done | rfl | (simp only [List.length_drop, List.length_take]; rfl)) ?_
       with_reducible refine (spec_l06Var.calls k gb158 a0 1 false t159 t160 t161 t162 w _ ?side1 ?side2 A7.out).mono ?_
       (case side1 => exact IsS83.T_ HI158 (nC NB158_157 nN))
       (case side2 => exact lT HB (gC GE157 gN))
       rintro e w118 ⟨rfl, hi, hb, hk⟩
       refine ⟨_, rfl, ?_⟩
       replace BK157 := ak (KeepBut.blk hk (g' := gb157) (o := .cells #[.int .i64 0, .int .i64 0, .int .i64 0, .int .i64 0, .int .i64 0, .string (⟨#[]⟩ : ByteArray), .string (⟨#[]⟩ : ByteArray), .string (⟨#[]⟩ : ByteArray)] 23 (0, 0)) (bG BK157) NB157_158.out (by simp))
       replace HB := ak (hb)
       replace HI158 := ak (hi)
       (try clear hb)
       (try clear hb2)
       (try clear hk)
       (try clear hi)
       refine hK.out _ _ trivial (fun hHeld => ?_)
       clear hK K
       refine nm ?_
       refine pu 5 19 (fb 8 63) HT_ ?_
       refine on 6 (some 5) (fb 8 127) HT_ (fun K hK => ?_)
       refine box_step ?hg (N := 5) ?hd (cs := #[.int .i64 0, .int .i64 0, .int .i64 0, .int .i64 0, .int .i64 0, .string (⟨#[]⟩ : ByteArray), .string (⟨#[]⟩ : ByteArray), .string (⟨#[]⟩ : ByteArray)]) (t := 23) ?hr ?_; (case hd => rfl); (case hg => rfl); (case hr => first | (go_simp; done) | (go_simp; rfl))
       intro gb163 hg w119 hbox hb
       replace BK163 := ak (hbox)
       replace GW163 := ak (bz hg (lT HB (gC GE157 gN)))
       replace GE163 := ak (bz hg (lT HB (gC GE157 gN)))
       replace HB := ak (below_step (lT HB (gC GE157 gN)) hb)
       replace NB157_163 := ak (nl hg (bG BK157))
       replace NB163_157 := ak (ng hg (bG BK157))
       replace BK157 := bB BK157 hb
       replace NB158_163 := ak ((by rw [hg]; exact Nat.ne_of_lt (IsS83.lt (show IsS83 w _ gb158 t160 t161 t162 from IsS83.T_ HI158 (nC NB158_157 nN))) : gb158 ≠ gb163))
       replace NB163_158 := ak ((by rw [hg]; exact Nat.ne_of_gt (IsS83.lt (show IsS83 w _ gb158 t160 t161 t162 from IsS83.T_ HI158 (nC NB158_157 nN))) : gb163 ≠ gb158))
       replace HI158 := ak (IsS83.below (IsS83.T_ HI158 (nC NB158_157 nN)) hb)
       clear hb hbox hg
       refine hK.out _ _ trivial (fun hHeld => ?_)
       clear hK K
       refine nm ?_
       exact norm_ (by simp only [putAll, Act.put, List.setIfInBounds_toArray, List.set_cons_zero, List.set_cons_succ]) (hCont (gb163) _ ⟨(bG BK157), (bG BK163), GW163.out, GE163.out, NB158_163.out, NB163_158.out, NB157_163.out, NB163_157.out, (IsS83.T_ HI158 (nC NB158_157 (nC NB158_163 nN))), (lT HB (gC GE157 (gC GE163 gN)))⟩)
      ·skip
       refine box_step ?hg (N := 5) ?hd (cs := #[.int .i64 0, .int .i64 0, .int .i64 0, .int .i64 0, .int .i64 0, .string (⟨#[]⟩ : ByteArray), .string (⟨#[]⟩ : ByteArray), .string (⟨#[]⟩ : ByteArray)]) (t := 23) ?hr ?_; (case hd => rfl); (case hg => rfl); (case hr => first | (go_simp; done) | (go_simp; rfl))
       intro gb163 hg w118 hbox hb
       replace BK163 := ak (hbox)
       replace GW163 := ak (bz hg (lT HB (gC GE157 gN)))
       replace GE163 := ak (bz hg (lT HB (gC GE157 gN)))
       replace HB := ak (below_step (lT HB (gC GE157 gN)) hb)
       replace NB157_163 := ak (nl hg (bG BK157))
       replace NB163_157 := ak (ng hg (bG BK157))
       replace BK157 := bB BK157 hb
       replace NB158_163 := ak ((by rw [hg]; exact Nat.ne_of_lt (IsS83.lt (show IsS83 w _ gb158 a0 1 false from IsS83.T_ HI158 (nC NB158_157 nN))) : gb158 ≠ gb163))
       replace NB163_158 := ak ((by rw [hg]; exact Nat.ne_of_gt (IsS83.lt (show IsS83 w _ gb158 a0 1 false from IsS83.T_ HI158 (nC NB158_157 nN))) : gb163 ≠ gb158))
       replace HI158 := ak (IsS83.below (IsS83.T_ HI158 (nC NB158_157 nN)) hb)
       clear hb hbox hg
       refine hK.out _ _ trivial (fun hHeld => ?_)
       clear hK K
       refine nm ?_
       refine on 4 (some 18) (fb 8 95) HT_ (fun K hK => ?_)
       refine goes_ Try.func53 (by kernel_rfl) rfl #[.pointer (some ⟨gb158, 0, none⟩)] (by rfl) rfl rfl (by (try simp only [List.map_toArray, List.map_cons, List.map_nil]); first | done | rfl | (simp only [List.length_drop, List.length_take]; rfl)) ?_
       with_reducible refine (spec_l06Var.calls k gb158 a0 1 false t159 t160 t161 t162 w _ ?side1 ?side2 A7.out).mono ?_
       (case side1 => exact IsS83.T_ HI158 (nC NB158_157 (nC NB158_163 nN)))
       (case side2 => exact lT HB (gC GE157 (gC GE163 gN)))
       rintro e w119 ⟨rfl, hi, hb, hk⟩
       refine ⟨_, rfl, ?_⟩
       replace BK157 := ak (KeepBut.blk hk (g' := gb157) (o := .cells #[.int .i64 0, .int .i64 0, .int .i64 0, .int .i64 0, .int .i64 0, .string (⟨#[]⟩ : ByteArray), .string (⟨#[]⟩ : ByteArray), .string (⟨#[]⟩ : ByteArray)] 23 (0, 0)) (bG BK157) NB157_158.out (by simp))
       replace BK163 := ak (KeepBut.blk hk (g' := gb163) (o := .cells #[.int .i64 0, .int .i64 0, .int .i64 0, .int .i64 0, .int .i64 0, .string (⟨#[]⟩ : ByteArray), .string (⟨#[]⟩ : ByteArray), .string (⟨#[]⟩ : ByteArray)] 23 (0, 0)) (bG BK163) NB163_158.out (by simp))
       replace HB := ak (hb)
       replace HI158 := ak (hi)
       (try clear hb)
       (try clear hb2)
       (try clear hk)
       (try clear hi)
       refine hK.out _ _ trivial (fun hHeld => ?_)
       clear hK K
       refine nm ?_
       refine pu 5 19 (fb 8 127) HT_ ?_
       exact norm_ (by simp only [putAll, Act.put, List.setIfInBounds_toArray, List.set_cons_zero, List.set_cons_succ]) (hCont (gb163) _ ⟨(bG BK157), (bG BK163), GW163.out, GE163.out, NB158_163.out, NB163_158.out, NB157_163.out, NB163_157.out, (IsS83.T_ HI158 (nC NB158_157 (nC NB158_163 nN))), (lT HB (gC GE157 (gC GE163 gN)))⟩)
     rintro gb163 w120 ⟨h0_, h1_, h2_, h3_, h4_, h5_, h6_, h7_, h8_, h9_⟩
     have n0_ : Aside0 (w120.heap[gb157]? = some (.cells #[.int .i64 0, .int .i64 0, .int .i64 0, .int .i64 0, .int .i64 0, .string (⟨#[]⟩ : ByteArray), .string (⟨#[]⟩ : ByteArray), .string (⟨#[]⟩ : ByteArray)] 23 (0, 0))) := ⟨h0_⟩
     have n1_ : Aside0 (w120.heap[gb163]? = some (.cells #[.int .i64 0, .int .i64 0, .int .i64 0, .int .i64 0, .int .i64 0, .string (⟨#[]⟩ : ByteArray), .string (⟨#[]⟩ : ByteArray), .string (⟨#[]⟩ : ByteArray)] 23 (0, 0))) := ⟨h1_⟩
     have n2_ : Aside0 (w.heap.size ≤ gb163) := ⟨h2_⟩
     have n3_ : Aside0 (w.heap.size ≤ gb163) := ⟨h3_⟩
     have n4_ : Aside0 (gb158 ≠ gb163) := ⟨h4_⟩
     have n5_ : Aside0 (gb163 ≠ gb158) := ⟨h5_⟩
     have n6_ : Aside0 (gb157 ≠ gb163) := ⟨h6_⟩
     have n7_ : Aside0 (gb163 ≠ gb157) := ⟨h7_⟩
     have n8_ : Aside0 (IsS83 w w120 gb158 t160 t161 t162) := ⟨h8_⟩
     have n9_ : Aside0 (Below w.heap.size w w120) := ⟨h9_⟩
     clear BK157
     clear HI158
     clear HB
     clear h0_ h1_ h2_ h3_ h4_ h5_ h6_ h7_ h8_ h9_
     have BK157 := n0_
     have BK163 := n1_
     have GW163 := n2_
     have GE163 := n3_
     have NB158_163 := n4_
     have NB163_158 := n5_
     have NB157_163 := n6_
     have NB163_157 := n7_
     have HI158 := n8_
     have HB := n9_
     clear n0_ n1_ n2_ n3_ n4_ n5_ n6_ n7_ n8_ n9_
     have hHeld := trivial
     refine norm_ (a' := ?_) ?_ ?_
     rotate_left
     ·simp only [putAll, Act.put, List.setIfInBounds_toArray, List.set_cons_zero, List.set_cons_succ]
      rfl
     refine on 7 none (fb 8 255) HT_ (fun K hK => ?_)
     have hs121 : w120.cell? ⟨gb163, 0, none⟩ = some (.int .i64 0) := bc BK163 0
     have hfs121 := blk_frozen BK163.out 0
     have hns121_0 := NB157_163.out
     have hms121_0 := NB163_157.out
     have hs122 : w120.cell? ⟨gb163, 1, none⟩ = some (.int .i64 0) := bc BK163 1
     have hfs122 := blk_frozen BK163.out 1
     have hns122_0 := NB157_163.out
     have hms122_0 := NB163_157.out
     have hs123 : w120.cell? ⟨gb163, 2, none⟩ = some (.int .i64 0) := bc BK163 2
     have hfs123 := blk_frozen BK163.out 2
     have hns123_0 := NB157_163.out
     have hms123_0 := NB163_157.out
     have hs124 : w120.cell? ⟨gb163, 3, none⟩ = some (.int .i64 0) := bc BK163 3
     have hfs124 := blk_frozen BK163.out 3
     have hns124_0 := NB157_163.out
     have hms124_0 := NB163_157.out
     have hs125 : w120.cell? ⟨gb163, 4, none⟩ = some (.int .i64 0) := bc BK163 4
     have hfs125 := blk_frozen BK163.out 4
     have hns125_0 := NB157_163.out
     have hms125_0 := NB163_157.out
     have hs126 : w120.cell? ⟨gb163, 5, none⟩ = some (.string (⟨#[]⟩ : ByteArray)) := bc BK163 5
     have hfs126 := blk_frozen BK163.out 5
     have hns126_0 := NB157_163.out
     have hms126_0 := NB163_157.out
     have hs127 : w120.cell? ⟨gb163, 6, none⟩ = some (.string (⟨#[]⟩ : ByteArray)) := bc BK163 6
     have hfs127 := blk_frozen BK163.out 6
     have hns127_0 := NB157_163.out
     have hms127_0 := NB163_157.out
     have hs128 : w120.cell? ⟨gb163, 7, none⟩ = some (.string (⟨#[]⟩ : ByteArray)) := bc BK163 7
     have hfs128 := blk_frozen BK163.out 7
     have hns128_0 := NB157_163.out
     have hms128_0 := NB163_157.out
     refine skip_ (w1 := ?_) (by rfl) rfl ?_ ?_
     rotate_left
     ·go_simp
      rfl
     refine hK.out _ _ trivial (fun hHeld => ?_)
     clear hK K
     refine done_ (done_of HT_.out (by kernel_rfl)) ?_
     try go_wp2_with (first | ((with_reducible refine gate_callee (f := 53) rfl ?_); refine gl (some 21) Try.func53 #[.pointer (some ⟨gb158, 0, none⟩)] ?_; (with_reducible refine (spec_l06Var.calls k gb158 t160 t161 t162 t164 t165 t166 t167 w _ ?side1 ?side2 A8.out).mono ?_); (case side1 => exact IsS83.T_ HI158 (nC NB158_157 (nC NB158_163 nN))); (case side2 => exact lT HB (gC GE157 (gC GE163 gN))); rintro e w129 ⟨rfl, hi, hb, hk⟩; refine ⟨_, rfl, ?_⟩; replace BK157 := ak (KeepBut.blk hk (g' := gb157) (o := .cells #[.int .i64 0, .int .i64 0, .int .i64 0, .int .i64 0, .int .i64 0, .string (⟨#[]⟩ : ByteArray), .string (⟨#[]⟩ : ByteArray), .string (⟨#[]⟩ : ByteArray)] 23 (0, 0)) (bT BK157 (nC NB157_163 nN)) NB157_158.out (by simp)); replace BK163 := ak (KeepBut.blk hk (g' := gb163) (o := .cells #[.int .i64 (wrap64 (bt a0 0)), .int .i64 t159, .int .i64 0, .int .i64 0, .int .i64 0, .string (⟨#[]⟩ : ByteArray), .string (⟨#[]⟩ : ByteArray), .string (⟨#[]⟩ : ByteArray)] 23 (0, 0)) (bW BK163) NB163_158.out (by simp)); replace HB := ak (hb); replace HI158 := ak (hi); (try clear hb); (try clear hk); (try clear hi); have hnb130 := NB163_157.out; have hnc130 := NB157_163.out; have hnb131 := NB163_158.out; have hnc131 := NB158_163.out; obtain ⟨hcz132_0, hcz132_1, hcz132_2, hcz132_3, hcz132_4, hcz132_5, hcz132_6, hcz132_7, hfz132_0, hfz132_1, hfz132_2, hfz132_3, hfz132_4, hfz132_5, hfz132_6, hfz132_7⟩ := bC8 BK163) | ((with_reducible refine gate_callee (f := 53) rfl ?_); refine gl (some 24) Try.func53 #[.pointer (some ⟨gb158, 0, none⟩)] ?_; (with_reducible refine (spec_l06Var.calls k gb158 t165 t166 t167 t168 t169 t170 t171 w _ ?side1 ?side2 A9.out).mono ?_); (case side1 => exact IsS83.T_ HI158 (nC NB158_157 (nC NB158_163 nN))); (case side2 => exact lT HB (gC GE157 (gC GE163 gN))); rintro e w133 ⟨rfl, hi, hb, hk⟩; refine ⟨_, rfl, ?_⟩; replace BK157 := ak (KeepBut.blk hk (g' := gb157) (o := .cells #[.int .i64 0, .int .i64 0, .int .i64 0, .int .i64 0, .int .i64 0, .string (⟨#[]⟩ : ByteArray), .string (⟨#[]⟩ : ByteArray), .string (⟨#[]⟩ : ByteArray)] 23 (0, 0)) (bT BK157 (nC NB157_163 nN)) NB157_158.out (by simp)); replace BK163 := ak (KeepBut.blk hk (g' := gb163) (o := .cells #[.int .i64 (wrap64 (bt a0 0)), .int .i64 t159, .int .i64 t164, .int .i64 0, .int .i64 0, .string (⟨#[]⟩ : ByteArray), .string (⟨#[]⟩ : ByteArray), .string (⟨#[]⟩ : ByteArray)] 23 (0, 0)) (bW BK163) NB163_158.out (by simp)); replace HB := ak (hb); replace HI158 := ak (hi); (try clear hb); (try clear hk); (try clear hi); obtain ⟨hcz134_0, hcz134_1, hcz134_2, hcz134_3, hcz134_4, hcz134_5, hcz134_6, hcz134_7, hfz134_0, hfz134_1, hfz134_2, hfz134_3, hfz134_4, hfz134_5, hfz134_6, hfz134_7⟩ := bC8 BK163) | ((with_reducible refine gate_callee (f := 53) rfl ?_); refine gl (some 27) Try.func53 #[.pointer (some ⟨gb158, 0, none⟩)] ?_; (with_reducible refine (spec_l06Var.calls k gb158 t169 t170 t171 t172 t173 t174 t175 w _ ?side1 ?side2 A10.out).mono ?_); (case side1 => exact IsS83.T_ HI158 (nC NB158_157 (nC NB158_163 nN))); (case side2 => exact lT HB (gC GE157 (gC GE163 gN))); rintro e w135 ⟨rfl, hi, hb, hk⟩; refine ⟨_, rfl, ?_⟩; replace BK157 := ak (KeepBut.blk hk (g' := gb157) (o := .cells #[.int .i64 0, .int .i64 0, .int .i64 0, .int .i64 0, .int .i64 0, .string (⟨#[]⟩ : ByteArray), .string (⟨#[]⟩ : ByteArray), .string (⟨#[]⟩ : ByteArray)] 23 (0, 0)) (bT BK157 (nC NB157_163 nN)) NB157_158.out (by simp)); replace BK163 := ak (KeepBut.blk hk (g' := gb163) (o := .cells #[.int .i64 (wrap64 (bt a0 0)), .int .i64 t159, .int .i64 t164, .int .i64 t168, .int .i64 0, .string (⟨#[]⟩ : ByteArray), .string (⟨#[]⟩ : ByteArray), .string (⟨#[]⟩ : ByteArray)] 23 (0, 0)) (bW BK163) NB163_158.out (by simp)); replace HB := ak (hb); replace HI158 := ak (hi); (try clear hb); (try clear hk); (try clear hi); obtain ⟨hcz136_0, hcz136_1, hcz136_2, hcz136_3, hcz136_4, hcz136_5, hcz136_6, hcz136_7, hfz136_0, hfz136_1, hfz136_2, hfz136_3, hfz136_4, hfz136_5, hfz136_6, hfz136_7⟩ := bC8 BK163) | ((with_reducible refine gate_callee (f := 54) rfl ?_); refine gl (some 30) Try.func54 #[.pointer (some ⟨gb158, 0, none⟩)] ?_; (with_reducible refine (spec_l06ReadShort.calls k gb158 t173 t174 t175 t176 t177 t178 t179 w _ ?side1 ?side2 A11.out).mono ?_); (case side1 => exact IsS83.T_ HI158 (nC NB158_157 (nC NB158_163 nN))); (case side2 => exact lT HB (gC GE157 (gC GE163 gN))); rintro e w137 ⟨rfl, hi, hb, hk⟩; refine ⟨_, rfl, ?_⟩; replace BK157 := ak (KeepBut.blk hk (g' := gb157) (o := .cells #[.int .i64 0, .int .i64 0, .int .i64 0, .int .i64 0, .int .i64 0, .string (⟨#[]⟩ : ByteArray), .string (⟨#[]⟩ : ByteArray), .string (⟨#[]⟩ : ByteArray)] 23 (0, 0)) (bT BK157 (nC NB157_163 nN)) NB157_158.out (by simp)); replace BK163 := ak (KeepBut.blk hk (g' := gb163) (o := .cells #[.int .i64 (wrap64 (bt a0 0)), .int .i64 t159, .int .i64 t164, .int .i64 t168, .int .i64 t172, .string (⟨#[]⟩ : ByteArray), .string (⟨#[]⟩ : ByteArray), .string (⟨#[]⟩ : ByteArray)] 23 (0, 0)) (bW BK163) NB163_158.out (by simp)); replace HB := ak (hb); replace HI158 := ak (hi); (try clear hb); (try clear hk); (try clear hi); obtain ⟨hcz138_0, hcz138_1, hcz138_2, hcz138_3, hcz138_4, hcz138_5, hcz138_6, hcz138_7, hfz138_0, hfz138_1, hfz138_2, hfz138_3, hfz138_4, hfz138_5, hfz138_6, hfz138_7⟩ := bC8 BK163) | ((with_reducible refine gate_callee (f := 54) rfl ?_); refine gl (some 33) Try.func54 #[.pointer (some ⟨gb158, 0, none⟩)] ?_; (with_reducible refine (spec_l06ReadShort.calls k gb158 t177 t178 t179 t180 t181 t182 t183 w _ ?side1 ?side2 A12.out).mono ?_); (case side1 => exact IsS83.T_ HI158 (nC NB158_157 (nC NB158_163 nN))); (case side2 => exact lT HB (gC GE157 (gC GE163 gN))); rintro e w139 ⟨rfl, hi, hb, hk⟩; refine ⟨_, rfl, ?_⟩; replace BK157 := ak (KeepBut.blk hk (g' := gb157) (o := .cells #[.int .i64 0, .int .i64 0, .int .i64 0, .int .i64 0, .int .i64 0, .string (⟨#[]⟩ : ByteArray), .string (⟨#[]⟩ : ByteArray), .string (⟨#[]⟩ : ByteArray)] 23 (0, 0)) (bT BK157 (nC NB157_163 nN)) NB157_158.out (by simp)); replace BK163 := ak (KeepBut.blk hk (g' := gb163) (o := .cells #[.int .i64 (wrap64 (bt a0 0)), .int .i64 t159, .int .i64 t164, .int .i64 t168, .int .i64 t172, .string t176, .string (⟨#[]⟩ : ByteArray), .string (⟨#[]⟩ : ByteArray)] 23 (0, 0)) (bW BK163) NB163_158.out (by simp)); replace HB := ak (hb); replace HI158 := ak (hi); (try clear hb); (try clear hk); (try clear hi); obtain ⟨hcz140_0, hcz140_1, hcz140_2, hcz140_3, hcz140_4, hcz140_5, hcz140_6, hcz140_7, hfz140_0, hfz140_1, hfz140_2, hfz140_3, hfz140_4, hfz140_5, hfz140_6, hfz140_7⟩ := bC8 BK163) | ((with_reducible refine gate_callee (f := 54) rfl ?_); refine gl (some 36) Try.func54 #[.pointer (some ⟨gb158, 0, none⟩)] ?_; (with_reducible refine (spec_l06ReadShort.calls k gb158 t181 t182 t183 t184 t185 t186 false w _ ?side1 ?side2 A13.out).mono ?_); (case side1 => exact IsS83.T_ HI158 (nC NB158_157 (nC NB158_163 nN))); (case side2 => exact lT HB (gC GE157 (gC GE163 gN))); rintro e w141 ⟨rfl, hi, hb, hk⟩; refine ⟨_, rfl, ?_⟩; replace BK157 := ak (KeepBut.blk hk (g' := gb157) (o := .cells #[.int .i64 0, .int .i64 0, .int .i64 0, .int .i64 0, .int .i64 0, .string (⟨#[]⟩ : ByteArray), .string (⟨#[]⟩ : ByteArray), .string (⟨#[]⟩ : ByteArray)] 23 (0, 0)) (bT BK157 (nC NB157_163 nN)) NB157_158.out (by simp)); replace BK163 := ak (KeepBut.blk hk (g' := gb163) (o := .cells #[.int .i64 (wrap64 (bt a0 0)), .int .i64 t159, .int .i64 t164, .int .i64 t168, .int .i64 t172, .string t176, .string t180, .string (⟨#[]⟩ : ByteArray)] 23 (0, 0)) (bW BK163) NB163_158.out (by simp)); replace HB := ak (hb); replace HI158 := ak (hi); (try clear hb); (try clear hk); (try clear hi); obtain ⟨hcz142_0, hcz142_1, hcz142_2, hcz142_3, hcz142_4, hcz142_5, hcz142_6, hcz142_7, hfz142_0, hfz142_1, hfz142_2, hfz142_3, hfz142_4, hfz142_5, hfz142_6, hfz142_7⟩ := bC8 BK163) | ((with_reducible refine gate_callee (f := 55) rfl ?_); refine gl (some 40) Try.func55 #[.agg #[.int .i64 (wrap64 (bt a0 0)), .int .i64 t159, .int .i64 t164, .int .i64 t168, .int .i64 t172, .string t176, .string t180, .string t184]] ?_; (with_reducible refine (spec_RecText.calls k (wrap64 (bt a0 0)) t159 t164 t168 t172 t176 t180 t184 t188 false _ A14.out).mono ?_); rintro e w143 ⟨rfl, hb⟩; refine ⟨_, rfl, ?_⟩; replace BK157 := ak (blk_below (bT BK157 (nC NB157_163 nN)) hb); replace BK163 := ak (blk_below (g := gb163) (o := .cells #[.int .i64 (wrap64 (bt a0 0)), .int .i64 t159, .int .i64 t164, .int .i64 t168, .int .i64 t172, .string t176, .string t180, .string t184] 23 (0, 0)) (bW BK163) hb); replace HB := ak (below_step (lT HB (gC GE157 (gC GE163 gN))) hb); replace HI158 := ak (IsS83.below (show IsS83 w (w141.setCell ⟨gb163, 7, none⟩ (.string t184)) gb158 t185 t186 false from IsS83.T_ HI158 (nC NB158_157 (nC NB158_163 nN))) hb); (try clear hb); (try clear hk); (try clear hi); obtain ⟨HGz144, hgz144⟩ := HI158.out; have hcz144_0 := cellS83_0 HGz144; have hcz144_1 := cellS83_1 HGz144; have hcz144_2 := cellS83_2 HGz144; have hfz144_0 := blk_frozen HGz144 0; have hfz144_1 := blk_frozen HGz144 1; have hfz144_2 := blk_frozen HGz144 2; clear HGz144 hgz144; have hnb145 := NB157_158.out; have hnc145 := NB158_157.out; obtain ⟨hcz146_0, hcz146_1, hcz146_2, hcz146_3, hcz146_4, hcz146_5, hcz146_6, hcz146_7, hfz146_0, hfz146_1, hfz146_2, hfz146_3, hfz146_4, hfz146_5, hfz146_6, hfz146_7⟩ := bC8 BK157))
     refine bodyPost_ret (results_ct rfl _ _ gb157 23 #[.int .i64 0, .int .i64 0, .int .i64 0, .int .i64 0, .int .i64 0, .string (⟨#[]⟩ : ByteArray), .string (⟨#[]⟩ : ByteArray), .string (⟨#[]⟩ : ByteArray)] (0, 0) _ rfl (bW BK157) Try.underlying23 rfl (by kernel_rfl)) rfl ?_
     exact ⟨ew, lT HB (gC GE157 (gC GE163 gN))⟩
  ·rw [if_neg c5] at H
   exact absurd H (by simp)

end Go.Proofs.Ytagkjeldheiejaa.PFnRecords
