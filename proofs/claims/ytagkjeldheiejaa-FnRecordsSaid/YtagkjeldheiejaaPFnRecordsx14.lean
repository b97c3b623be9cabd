-- Written for this claim by a program of mine (a turned copy of the kit's print): functions as plain Lean, and their contracts. Lean checks it.
import Derived.Test.YtagkjeldheiejaaPFnRecordsx0
import Derived.Test.YtagkjeldheiejaaPFnRecordsx7
import Derived.Test.YtagkjeldheiejaaPFnRecordsx11
import Derived.Test.YtagkjeldheiejaaPFnRecordsx12
import Derived.Test.YtagkjeldheiejaaPFnRecordsx13
import Derived.Test.YtagkjeldheiejaaVFnRecords1
namespace Go.Proofs.Ytagkjeldheiejaa.PFnRecords
open Go.RowKit Go.Proofs.YtagkjeldheiejaaW.PrintWords Go.Proofs.YtagkjeldheiejaaW.PrintLast Go.Proofs.YtagkjeldheiejaaW.PrintMore
attribute [local go_sem] max2_int min2_int max_two min_two max_three min_three max_four min_four   -- for this text's walks alone
set_option linter.unusedVariables false
set_option linter.unusedSimpArgs false

/-! ### spec_l02Spoilt: function 70 -/
def spec_l02Spoilt.j0 : Nat → ByteArray → Bool → List Int → Int → Int → Option (ByteArray × Int × Int)
 | 0, _, _, _, _, _ => none
 | k + 1, x1, x23, x1000, x1001, x1002 => if x23 = true then (if (x1.size : Int) > 0 then ((spec_l01Below.f x1000 x1001 x1002 (x1.size : Int)).bind fun bt389 => (if 0 ≤ bt389.1 then (if bt389.1 ≤ (x1.size : Int) then ((spec_l01Text.f k x1000 bt389.2.1 bt389.2.2 1).bind fun bt392 => (if (x1.extract 0 (bt389.1 : Int).toNat).size + bt392.1.size ≤ 9223372036854775807 then (if 0 ≤ (wrap64 (bt389.1 + 1)) then (if (wrap64 (bt389.1 + 1)) ≤ (x1.size : Int) then (if (x1.extract 0 (bt389.1 : Int).toNat).size + bt392.1.size + (x1.extract ((wrap64 (bt389.1 + 1)) : Int).toNat x1.size).size ≤ 9223372036854775807 then (some (((x1.extract 0 (bt389.1 : Int).toNat) ++ bt392.1) ++ (x1.extract ((wrap64 (bt389.1 + 1)) : Int).toNat x1.size), bt392.2.1, bt392.2.2)) else (none)) else (none)) else (none)) else (none))) else (none)) else (none))) else (some (x1, x1001, x1002))) else (some (x1, x1001, x1002))
def spec_l02Spoilt.f (k : Nat) (s0_0 : List Int) (s0_1 : Int) (s0_2 : Int) (a1 : ByteArray) : Option (ByteArray × Int × Int) := (spec_l01Below.f s0_0 s0_1 s0_2 12).bind fun bt380 => (if bt380.1 = 0 then ((spec_l01Text.f k s0_0 bt380.2.1 bt380.2.2 1).bind fun bt383 => (if a1.size + bt383.1.size ≤ 9223372036854775807 then (some (a1 ++ bt383.1, bt383.2.1, bt383.2.2)) else (none))) else (if bt380.1 = 1 then ((spec_l01Below.f s0_0 bt380.2.1 bt380.2.2 (wrap64 ((a1.size : Int) + 1))).bind fun bt386 => (if 0 ≤ bt386.1 then (if bt386.1 ≤ (a1.size : Int) then (some (a1.extract 0 (bt386.1 : Int).toNat, bt386.2.1, bt386.2.2)) else (none)) else (none))) else (if bt380.1 = 2 then (spec_l02Spoilt.j0 k a1 (bt380.1 == 2) s0_0 bt380.2.1 bt380.2.2) else (spec_l02Spoilt.j0 k a1 (bt380.1 == 3) s0_0 bt380.2.1 bt380.2.2))))
theorem spec_l02Spoilt.mono_l : ∀ k, (∀ y0 y1 y2 y3 y4, LeO (spec_l02Spoilt.j0 k y0 y1 y2 y3 y4) (spec_l02Spoilt.j0 (k + 1) y0 y1 y2 y3 y4))
 | 0 => fun _ _ _ _ _ r h => by simp [spec_l02Spoilt.j0] at h
 | k + 1 => by
  have ih0 := spec_l02Spoilt.mono_l k
  ·intro y0 y1 y2 y3 y4
   unfold spec_l02Spoilt.j0
   repeat' first
   | (with_reducible exact ih0 _ _ _ _ _)
   | (with_reducible exact spec_l01Text.mono _ _ _ _ _)
   | (with_reducible exact LeO.refl _)
   | (with_reducible exact LeO.none _)
   | (with_reducible refine LeO.ite ?_ ?_)
   | (with_reducible refine LeO.bind ?_ (fun _ => ?_))
   | exact ih0 _ _ _ _ _
   | exact spec_l01Text.mono _ _ _ _ _
   | exact LeO.none _
   | refine LeO.ite ?_ ?_
   | refine LeO.bind ?_ (fun _ => ?_)
theorem spec_l02Spoilt.mono : ∀ a0 a1 a2 a3 k, LeO (spec_l02Spoilt.f k a0 a1 a2 a3) (spec_l02Spoilt.f (k + 1) a0 a1 a2 a3) := by
 intro a0 a1 a2 a3 k
 have ih0 := spec_l02Spoilt.mono_l k
 unfold spec_l02Spoilt.f
 repeat' first
   | (with_reducible exact ih0 _ _ _ _ _)
   | (with_reducible exact spec_l01Text.mono _ _ _ _ _)
   | (with_reducible exact LeO.refl _)
   | (with_reducible exact LeO.none _)
   | (with_reducible refine LeO.ite ?_ ?_)
   | (with_reducible refine LeO.bind ?_ (fun _ => ?_))
   | exact ih0 _ _ _ _ _
   | exact spec_l01Text.mono _ _ _ _ _
   | exact LeO.none _
   | refine LeO.ite ?_ ?_
   | refine LeO.bind ?_ (fun _ => ?_)
def spec_l02Spoilt.T10 : Bool × List (List Nat × List Nat) := (true, [([], []), ([], []), ([0, 1], [0, 1]), ([], []), ([3], [3]), ([2, 4], [2, 4]), ([], []), ([], []), ([7], [7]), ([6, 8], [6, 8]), ([5, 9], [5, 9]), ([10, 4, 0, 1, 2, 3, 4, 5, 6, 7, 8, 9, 10], [10])])
def spec_l02Spoilt.B10 : List Nat := [0, 0, 3, 0, 8, 31, 0, 0, 128, 448, 1023, 2047]
theorem spec_l02Spoilt.tab10 : rtab .any (opsOf Try.f70 10) = spec_l02Spoilt.T10 := by kernel_rfl
theorem spec_l02Spoilt.bits10 : waitsOk spec_l02Spoilt.T10.2 spec_l02Spoilt.B10 = true := by kernel_rfl
set_option maxHeartbeats 8000000 in
set_option maxRecDepth 100000 in
theorem spec_l02Spoilt.calls (k : Nat) (g : Nat) (s0_0 : List Int) (s0_1 : Int) (s0_2 : Int) (a1 : ByteArray) (r1 : ByteArray) (r2 : Int) (r3 : Int) (w0 w : World) (hI : IsS134 w0 w g s0_0 s0_1 s0_2) (hB : Below w0.heap.size w0 w) (h : spec_l02Spoilt.f k s0_0 s0_1 s0_2 a1 = some (r1, r2, r3)) :
  Calls Try.prog 70 #[.pointer (some ⟨g, 0, none⟩), .string a1] w fun e w' => e = .returned (.string r1) ∧ IsS134 w0 w' g s0_0 r2 r3 ∧ Below w0.heap.size w0 w' ∧ KeepBut w w' g none := by
 have HI0 := Aside0.mk hI
 have HK := ak (KeepBut.refl w g none)
 have HL := Aside0.mk hB.size
 clear hI
 have HW0 := Aside0.mk hB.size
 have HB := Aside0.mk hB
 clear hB
 have H : ((spec_l01Below.f s0_0 s0_1 s0_2 12).bind fun bt380 => (if bt380.1 = 0 then ((spec_l01Text.f k s0_0 bt380.2.1 bt380.2.2 1).bind fun bt383 => (if a1.size + bt383.1.size ≤ 9223372036854775807 then (some (a1 ++ bt383.1, bt383.2.1, bt383.2.2)) else (none))) else (if bt380.1 = 1 then ((spec_l01Below.f s0_0 bt380.2.1 bt380.2.2 (wrap64 ((a1.size : Int) + 1))).bind fun bt386 => (if 0 ≤ bt386.1 then (if bt386.1 ≤ (a1.size : Int) then (some (a1.extract 0 (bt386.1 : Int).toNat, bt386.2.1, bt386.2.2)) else (none)) else (none))) else (if bt380.1 = 2 then (spec_l02Spoilt.j0 k a1 (bt380.1 == 2) s0_0 bt380.2.1 bt380.2.2) else (spec_l02Spoilt.j0 k a1 (bt380.1 == 3) s0_0 bt380.2.1 bt380.2.2))))) = some (r1, r2, r3) := h
 clear h
 replace H := Option.bind_eq_some_iff.mp H
 obtain ⟨⟨t380, t381, t382⟩, A30, H⟩ := H
 replace H : (if t380 = 0 then ((spec_l01Text.f k s0_0 t381 t382 1).bind fun bt383 => (if a1.size + bt383.1.size ≤ 9223372036854775807 then (some (a1 ++ bt383.1, bt383.2.1, bt383.2.2)) else (none))) else (if t380 = 1 then ((spec_l01Below.f s0_0 t381 t382 (wrap64 ((a1.size : Int) + 1))).bind fun bt386 => (if 0 ≤ bt386.1 then (if bt386.1 ≤ (a1.size : Int) then (some (a1.extract 0 (bt386.1 : Int).toNat, bt386.2.1, bt386.2.2)) else (none)) else (none))) else (if t380 = 2 then (spec_l02Spoilt.j0 k a1 (t380 == 2) s0_0 t381 t382) else (spec_l02Spoilt.j0 k a1 (t380 == 3) s0_0 t381 t382)))) = some (r1, r2, r3) := H
 have A3 := Aside0.mk A30
 clear A30
 by_cases c4 : t380 = 0
 ·rw [if_pos c4] at H
  have c4b0 : (t380 == 0) = true := beq_iff_eq.mpr c4
  have c4b1 : (t380 != 0) = false := bne_eq_false_iff_eq.mpr c4
  clear c4
  replace H := Option.bind_eq_some_iff.mp H
  obtain ⟨⟨t383, t384, t385⟩, A50, H⟩ := H
  replace H : (if a1.size + t383.size ≤ 9223372036854775807 then (some (a1 ++ t383, t384, t385)) else (none)) = some (r1, r2, r3) := H
  have A5 := Aside0.mk A50
  clear A50
  by_cases c6 : a1.size + t383.size ≤ 9223372036854775807
  ·rw [if_pos c6] at H
   have c6b0 := eq_true c6
   have c6b1 : decide (a1.size + t383.size ≤ 9223372036854775807) = true := decide_eq_true c6
   try have c6b2 : (9223372036854775807 < a1.size + t383.size) = False := eq_false (Nat.not_lt.2 c6)
   simp only [Option.some.injEq, Prod.mk.injEq] at H
   obtain ⟨rfl, rfl, rfl⟩ := H
   go_enter Try.func70, Try.ntmps70
   go_wp2_with (first | ((with_reducible refine gate_callee (f := 69) rfl ?_); refine gl (some 7) Try.func69 #[.pointer (some ⟨g, 0, none⟩), .int .i64 12] ?_; (with_reducible refine (spec_l01Below.calls g s0_0 s0_1 s0_2 12 t380 t381 t382 w0 _ ?side1 ?side2 A3.out).mono ?_); (case side1 => exact IsS134.T_ HI0 nN); (case side2 => exact lT HB gN); rintro e w7 ⟨rfl, hi, hb, hk⟩; refine ⟨_, rfl, ?_⟩; replace HK := ak (KeepBut.trans (kT HK gN) hk (.inl rfl)); replace HB := ak (hb); replace HI0 := ak (hi); (try clear hb); (try clear hk); (try clear hi)) | ((with_reducible refine gate_callee (f := 101) rfl ?_); refine gl (some 12) Try.func101 #[.pointer (some ⟨g, 0, none⟩), .int .i64 1] ?_; (with_reducible refine (spec_l01Text.calls k g s0_0 t381 t382 1 t383 t384 t385 w0 _ ?side1 ?side2 A5.out).mono ?_); (case side1 => exact IsS134.T_ HI0 nN); (case side2 => exact lT HB gN); rintro e w8 ⟨rfl, hi, hb, hk⟩; refine ⟨_, rfl, ?_⟩; replace HK := ak (KeepBut.trans (kT HK gN) hk (.inl rfl)); replace HB := ak (hb); replace HI0 := ak (hi); (try clear hb); (try clear hk); (try clear hi)))
   go_ret
   exact ⟨ew, IsS134.T_ HI0 nN, lT HB gN, kT HK gN⟩
  ·rw [if_neg c6] at H
   exact absurd H (by simp)
 ·rw [if_neg c4] at H
  have c4b0 : (t380 == 0) = false := beq_eq_false_iff_ne.mpr c4
  have c4b1 : (t380 != 0) = true := bne_iff_ne.mpr c4
  by_cases c9 : t380 = 1
  ·rw [if_pos c9] at H
   have c9b0 : (t380 == 1) = true := beq_iff_eq.mpr c9
   have c9b1 : (t380 != 1) = false := bne_eq_false_iff_eq.mpr c9
   clear c9
   replace H := Option.bind_eq_some_iff.mp H
   obtain ⟨⟨t386, t387, t388⟩, A100, H⟩ := H
   replace H : (if 0 ≤ t386 then (if t386 ≤ (a1.size : Int) then (some (a1.extract 0 (t386 : Int).toNat, t387, t388)) else (none)) else (none)) = some (r1, r2, r3) := H
   have A10 := Aside0.mk A100
   clear A100
   by_cases c11 : 0 ≤ t386
   ·rw [if_pos c11] at H
    have c11b0 := eq_true c11
    have c11b1 : decide (0 ≤ t386) = true := decide_eq_true c11
    clear c11
    by_cases c12 : t386 ≤ (a1.size : Int)
    ·rw [if_pos c12] at H
     have c12b0 := eq_true c12
     have c12b1 : decide (t386 ≤ (a1.size : Int)) = true := decide_eq_true c12
     clear c12
     simp only [Option.some.injEq, Prod.mk.injEq] at H
     obtain ⟨rfl, rfl, rfl⟩ := H
     go_enter Try.func70, Try.ntmps70
     go_wp2_with (first | ((with_reducible refine gate_callee (f := 69) rfl ?_); refine gl (some 7) Try.func69 #[.pointer (some ⟨g, 0, none⟩), .int .i64 12] ?_; (with_reducible refine (spec_l01Below.calls g s0_0 s0_1 s0_2 12 t380 t381 t382 w0 _ ?side1 ?side2 A3.out).mono ?_); (case side1 => exact IsS134.T_ HI0 nN); (case side2 => exact lT HB gN); rintro e w13 ⟨rfl, hi, hb, hk⟩; refine ⟨_, rfl, ?_⟩; replace HK := ak (KeepBut.trans (kT HK gN) hk (.inl rfl)); replace HB := ak (hb); replace HI0 := ak (hi); (try clear hb); (try clear hk); (try clear hi)) | ((with_reducible refine gate_callee (f := 69) rfl ?_); refine gl (some 21) Try.func69 #[.pointer (some ⟨g, 0, none⟩), .int .i64 (wrap64 ((a1.size : Int) + 1))] ?_; (with_reducible refine (spec_l01Below.calls g s0_0 t381 t382 (wrap64 ((a1.size : Int) + 1)) t386 t387 t388 w0 _ ?side1 ?side2 A10.out).mono ?_); (case side1 => exact IsS134.T_ HI0 nN); (case side2 => exact lT HB gN); rintro e w14 ⟨rfl, hi, hb, hk⟩; refine ⟨_, rfl, ?_⟩; replace HK := ak (KeepBut.trans (kT HK gN) hk (.inl rfl)); replace HB := ak (hb); replace HI0 := ak (hi); (try clear hb); (try clear hk); (try clear hi)))
     go_ret
     exact ⟨ew, IsS134.T_ HI0 nN, lT HB gN, kT HK gN⟩
    ·rw [if_neg c12] at H
     exact absurd H (by simp)
   ·rw [if_neg c11] at H
    exact absurd H (by simp)
  ·rw [if_neg c9] at H
   have c9b0 : (t380 == 1) = false := beq_eq_false_iff_ne.mpr c9
   have c9b1 : (t380 != 1) = true := bne_iff_ne.mpr c9
   have HC15 := Aside0.mk H
   clear H
   go_enter Try.func70, Try.ntmps70
   go_upto_if 23 with (first | ((with_reducible refine gate_callee (f := 69) rfl ?_); refine gl (some 7) Try.func69 #[.pointer (some ⟨g, 0, none⟩), .int .i64 12] ?_; (with_reducible refine (spec_l01Below.calls g s0_0 s0_1 s0_2 12 t380 t381 t382 w0 _ ?side1 ?side2 A3.out).mono ?_); (case side1 => exact IsS134.T_ HI0 nN); (case side2 => exact lT HB gN); rintro e w16 ⟨rfl, hi, hb, hk⟩; refine ⟨_, rfl, ?_⟩; replace HK := ak (KeepBut.trans (kT HK gN) hk (.inl rfl)); replace HB := ak (hb); replace HI0 := ak (hi); (try clear hb); (try clear hk); (try clear hi)))
   (try simp only [Act.put, List.setIfInBounds_toArray, List.set_cons_zero, List.set_cons_succ])
   go_cut [23] (fun v23 wc => ∃ (kq : Nat) (x23_14 : Bool), v23 = .bool x23_14 ∧ Aside0 (spec_l02Spoilt.j0 kq a1 x23_14 s0_0 t381 t382 = some (r1, r2, r3)) ∧ Aside0 (kq ≤ k) ∧ Aside0 (IsS134 w0 wc g s0_0 t381 t382) ∧ Aside0 (KeepBut w wc g none) ∧ Aside0 (Below w0.heap.size w0 wc))
   case first =>
    have H := HC15.out
    clear HC15
    by_cases c17 : t380 = 2
    ·rw [if_pos c17] at H
     have c17b0 : (t380 == 2) = true := beq_iff_eq.mpr c17
     have c17b1 : (t380 != 2) = false := bne_eq_false_iff_eq.mpr c17
     clear c17
     (first | rw [c17b0] | (simp only [i64_w, i32_w]; rw [c17b0]) | skip)
     have H' := Aside0.mk H
     clear H
     go_wp2
     go_meet
     case rel => exact ⟨_, ((t380 == 2)), (by first | rfl | (simp; done) | (simp [*]; done)), H', ⟨by first | omega | exact Nat.le_refl _⟩, ⟨IsS134.T_ HI0 nN⟩, ⟨kT HK gN⟩, ⟨lT HB gN⟩⟩
    ·rw [if_neg c17] at H
     have c17b0 : (t380 == 2) = false := beq_eq_false_iff_ne.mpr c17
     have c17b1 : (t380 != 2) = true := bne_iff_ne.mpr c17
     (first | rw [c17b0] | (simp only [i64_w, i32_w]; rw [c17b0]) | skip)
     have H' := Aside0.mk H
     clear H
     go_wp2
     go_meet
     case rel => exact ⟨_, ((t380 == 3)), (by first | rfl | (simp; done) | (simp [*]; done)), H', ⟨by first | omega | exact Nat.le_refl _⟩, ⟨IsS134.T_ HI0 nN⟩, ⟨kT HK gN⟩, ⟨lT HB gN⟩⟩
   case rest =>
    clear HC15
    try clear c1
    try clear p2
    try clear c4
    try clear c4b0
    try clear c4b1
    try clear c6
    try clear c6b0
    try clear c6b1
    try clear c6b2
    try clear p6
    try clear c7
    try clear c9
    try clear c9b0
    try clear c9b1
    try clear c10
    try clear c11
    try clear c11b0
    try clear c11b1
    try clear c12
    try clear c12b0
    try clear c12b1
    try clear c17
    try clear c17b0
    try clear c17b1
    obtain ⟨kq, x23_14, rfl, HA, HJ14, HI0, HK, HB⟩ := hcut
    cases kq with
    | zero => exact absurd HA.out (by simp [spec_l02Spoilt.j0])
    | succ kj14 =>
     have H := HA.out
     clear HA
     simp only [spec_l02Spoilt.j0] at H
     by_cases c18 : x23_14 = true
     ·subst c18
      have H1 : (if (a1.size : Int) > 0 then ((spec_l01Below.f s0_0 t381 t382 (a1.size : Int)).bind fun bt389 => (if 0 ≤ bt389.1 then (if bt389.1 ≤ (a1.size : Int) then ((spec_l01Text.f kj14 s0_0 bt389.2.1 bt389.2.2 1).bind fun bt392 => (if (a1.extract 0 (bt389.1 : Int).toNat).size + bt392.1.size ≤ 9223372036854775807 then (if 0 ≤ (wrap64 (bt389.1 + 1)) then (if (wrap64 (bt389.1 + 1)) ≤ (a1.size : Int) then (if (a1.extract 0 (bt389.1 : Int).toNat).size + bt392.1.size + (a1.extract ((wrap64 (bt389.1 + 1)) : Int).toNat a1.size).size ≤ 9223372036854775807 then (some (((a1.extract 0 (bt389.1 : Int).toNat) ++ bt392.1) ++ (a1.extract ((wrap64 (bt389.1 + 1)) : Int).toNat a1.size), bt392.2.1, bt392.2.2)) else (none)) else (none)) else (none)) else (none))) else (none)) else (none))) else (some (a1, t381, t382))) = some (r1, r2, r3) := by rw [if_pos rfl] at H; exact H
      clear H
      have H := H1
      clear H1
      by_cases c19 : (a1.size : Int) > 0
      ·rw [if_pos c19] at H
       have c19b0 : decide (0 < (a1.size : Int)) = true := decide_eq_true c19
       have c19b1 : decide (0 < a1.size) = true := decide_eq_true (by omega)
       clear c19
       replace H := Option.bind_eq_some_iff.mp H
       obtain ⟨⟨t389, t390, t391⟩, A200, H⟩ := H
       replace H : (if 0 ≤ t389 then (if t389 ≤ (a1.size : Int) then ((spec_l01Text.f kj14 s0_0 t390 t391 1).bind fun bt392 => (if (a1.extract 0 (t389 : Int).toNat).size + bt392.1.size ≤ 9223372036854775807 then (if 0 ≤ (wrap64 (t389 + 1)) then (if (wrap64 (t389 + 1)) ≤ (a1.size : Int) then (if (a1.extract 0 (t389 : Int).toNat).size + bt392.1.size + (a1.extract ((wrap64 (t389 + 1)) : Int).toNat a1.size).size ≤ 9223372036854775807 then (some (((a1.extract 0 (t389 : Int).toNat) ++ bt392.1) ++ (a1.extract ((wrap64 (t389 + 1)) : Int).toNat a1.size), bt392.2.1, bt392.2.2)) else (none)) else (none)) else (none)) else (none))) else (none)) else (none)) = some (r1, r2, r3) := H
       have A20 := Aside0.mk A200
       clear A200
       by_cases c21 : 0 ≤ t389
       ·rw [if_pos c21] at H
        have c21b0 := eq_true c21
        have c21b1 : decide (0 ≤ t389) = true := decide_eq_true c21
        clear c21
        by_cases c22 : t389 ≤ (a1.size : Int)
        ·rw [if_pos c22] at H
         have c22b0 := eq_true c22
         have c22b1 : decide (t389 ≤ (a1.size : Int)) = true := decide_eq_true c22
         clear c22
         replace H := Option.bind_eq_some_iff.mp H
         obtain ⟨⟨t392, t393, t394⟩, A230, H⟩ := H
         replace H : (if (a1.extract 0 (t389 : Int).toNat).size + t392.size ≤ 9223372036854775807 then (if 0 ≤ (wrap64 (t389 + 1)) then (if (wrap64 (t389 + 1)) ≤ (a1.size : Int) then (if (a1.extract 0 (t389 : Int).toNat).size + t392.size + (a1.extract ((wrap64 (t389 + 1)) : Int).toNat a1.size).size ≤ 9223372036854775807 then (some (((a1.extract 0 (t389 : Int).toNat) ++ t392) ++ (a1.extract ((wrap64 (t389 + 1)) : Int).toNat a1.size), t393, t394)) else (none)) else (none)) else (none)) else (none)) = some (r1, r2, r3) := H
         have A23 := Aside0.mk A230
         clear A230
         by_cases c24 : (a1.extract 0 (t389 : Int).toNat).size + t392.size ≤ 9223372036854775807
         ·rw [if_pos c24] at H
          have c24b0 := eq_true c24
          have c24b1 : decide ((a1.extract 0 (t389 : Int).toNat).size + t392.size ≤ 9223372036854775807) = true := decide_eq_true c24
          try have c24b2 : (9223372036854775807 < (a1.extract 0 (t389 : Int).toNat).size + t392.size) = False := eq_false (Nat.not_lt.2 c24)
          try have c24b9 : (9223372036854775807 < (t389 : Int).toNat + t392.size) = False := eq_false (by have h_ := c24; (try have h11_ := of_eq_true c11b0); (try have g11_ := of_decide_eq_true c11b0); (try have h21_ := of_eq_true c21b0); (try have g21_ := of_decide_eq_true c21b0); (try have h22_ := of_eq_true c22b0); (try have g22_ := of_decide_eq_true c22b0); simp only [ByteArray.size_extract] at h_; omega)
          try have c24b7 : (9223372036854775807 < min (t389 : Int).toNat a1.size + t392.size) = False := eq_false (by have h_ := c24; (try have h11_ := of_eq_true c11b0); (try have g11_ := of_decide_eq_true c11b0); (try have h21_ := of_eq_true c21b0); (try have g21_ := of_decide_eq_true c21b0); (try have h22_ := of_eq_true c22b0); (try have g22_ := of_decide_eq_true c22b0); simp only [ByteArray.size_extract] at h_; omega)
          obtain ⟨ji25, hji25⟩ : ∃ j_ : Int, (wrap64 (t389 + 1)) = j_ := ⟨_, rfl⟩
          replace H : (if 0 ≤ (ji25) then (if (ji25) ≤ (a1.size : Int) then (if (a1.extract 0 (t389 : Int).toNat).size + t392.size + (a1.extract ((ji25) : Int).toNat a1.size).size ≤ 9223372036854775807 then (some (((a1.extract 0 (t389 : Int).toNat) ++ t392) ++ (a1.extract ((ji25) : Int).toNat a1.size), t393, t394)) else (none)) else (none)) else (none)) = some (r1, r2, r3) := by first | (rw [hji25] at H; exact H) | (simp only [hji25] at H ⊢; exact H)
          (try rw [hji25] at A20)
          (try rw [hji25] at A23)
          have hji25w : (IntKind.i64.wrap (t389 + 1)) = ji25 := (i64_w _).trans hji25
          by_cases c26 : 0 ≤ (ji25)
          ·rw [if_pos c26] at H
           have c26b0 := eq_true c26
           have c26b1 : decide (0 ≤ (ji25)) = true := decide_eq_true c26
           clear c26
           by_cases c27 : (ji25) ≤ (a1.size : Int)
           ·rw [if_pos c27] at H
            have c27b0 := eq_true c27
            have c27b1 : decide ((ji25) ≤ (a1.size : Int)) = true := decide_eq_true c27
            clear c27
            by_cases c28 : (a1.extract 0 (t389 : Int).toNat).size + t392.size + (a1.extract ((ji25) : Int).toNat a1.size).size ≤ 9223372036854775807
            ·rw [if_pos c28] at H
             have c28b0 := eq_true c28
             have c28b1 : decide ((a1.extract 0 (t389 : Int).toNat).size + t392.size + (a1.extract ((ji25) : Int).toNat a1.size).size ≤ 9223372036854775807) = true := decide_eq_true c28
             try have c28b2 : (9223372036854775807 < (a1.extract 0 (t389 : Int).toNat).size + t392.size + (a1.extract ((ji25) : Int).toNat a1.size).size) = False := eq_false (Nat.not_lt.2 c28)
             try have c28b9 : (9223372036854775807 < (t389 : Int).toNat + t392.size + (a1.size - ((ji25) : Int).toNat)) = False := eq_false (by have h_ := c28; (try have h11_ := of_eq_true c11b0); (try have g11_ := of_decide_eq_true c11b0); (try have h21_ := of_eq_true c21b0); (try have g21_ := of_decide_eq_true c21b0); (try have h22_ := of_eq_true c22b0); (try have g22_ := of_decide_eq_true c22b0); (try have h24_ := of_eq_true c24b0); (try have g24_ := of_decide_eq_true c24b0); (try simp only [ByteArray.size_extract, ByteArray.size_append] at h24_); (try have h26_ := of_eq_true c26b0); (try have g26_ := of_decide_eq_true c26b0); (try have h27_ := of_eq_true c27b0); (try have g27_ := of_decide_eq_true c27b0); simp only [ByteArray.size_extract] at h_; omega)
             try have c28b7 : (9223372036854775807 < min (t389 : Int).toNat a1.size + t392.size + (a1.size - ((ji25) : Int).toNat)) = False := eq_false (by have h_ := c28; (try have h11_ := of_eq_true c11b0); (try have g11_ := of_decide_eq_true c11b0); (try have h21_ := of_eq_true c21b0); (try have g21_ := of_decide_eq_true c21b0); (try have h22_ := of_eq_true c22b0); (try have g22_ := of_decide_eq_true c22b0); (try have h24_ := of_eq_true c24b0); (try have g24_ := of_decide_eq_true c24b0); (try simp only [ByteArray.size_extract, ByteArray.size_append] at h24_); (try have h26_ := of_eq_true c26b0); (try have g26_ := of_decide_eq_true c26b0); (try have h27_ := of_eq_true c27b0); (try have g27_ := of_decide_eq_true c27b0); simp only [ByteArray.size_extract] at h_; omega)
             simp only [Option.some.injEq, Prod.mk.injEq] at H
             obtain ⟨rfl, rfl, rfl⟩ := H
             try go_wp2_with (first | ((with_reducible refine gate_callee (f := 69) rfl ?_); refine gl (some 32) Try.func69 #[.pointer (some ⟨g, 0, none⟩), .int .i64 (a1.size : Int)] ?_; (with_reducible refine (spec_l01Below.calls g s0_0 t381 t382 (a1.size : Int) t389 t390 t391 w0 _ ?side1 ?side2 A20.out).mono ?_); (case side1 => exact IsS134.T_ HI0 nN); (case side2 => exact lT HB gN); rintro e w29 ⟨rfl, hi, hb, hk⟩; refine ⟨_, rfl, ?_⟩; replace HK := ak (KeepBut.trans (kT HK gN) hk (.inl rfl)); replace HB := ak (hb); replace HI0 := ak (hi); (try clear hb); (try clear hk); (try clear hi)))
             replace HI0 := ak (IsS134.drew HI0.out)
             replace HK := ak (keep_drew HK.out)
             replace HB := ak (below_drew1 HB.out)
             refine start_ (n := 12) (S := fun w' => True) (ds := []) #[f_,f_,f_,f_,f_,f_,f_,f_,f_,f_,f_,f_] (by kernel_rfl) rfl rfl trivial (fun hHeld => ?_); refine with_tabW spec_l02Spoilt.tab10 spec_l02Spoilt.bits10 (fun HT_ HW_ => ?_)
             generalize w29.drew = w30 at HI0 HK HB hHeld ⊢
             refine pu 0 33 (fb 12 1) HT_ ?_
             refine pu 1 34 (fb 12 3) HT_ ?_
             refine pu 2 35 (fb 12 7) HT_ ?_
             refine pu 3 36 (fb 12 15) HT_ ?_
             refine pu 6 39 (fb 12 79) HT_ ?_
             refine pu 7 40 (fb 12 207) HT_ ?_
             refine pu 8 41 (fb 12 463) HT_ ?_
             refine pu 9 42 (fb 12 975) HT_ ?_
             refine on 4 (some 37) (fb 12 991) HT_ (fun K hK => ?_)
             refine goes_ Try.func101 (by kernel_rfl) rfl #[.pointer (some ⟨g, 0, none⟩), .int .i64 1] (by rfl) rfl rfl (by (try simp only [List.map_toArray, List.map_cons, List.map_nil]); first | done | rfl | (simp only [List.length_drop, List.length_take]; rfl)) ?_
             with_reducible refine (spec_l01Text.calls kj14 g s0_0 t390 t391 1 t392 t393 t394 w0 _ ?side1 ?side2 A23.out).mono ?_
             (case side1 => exact IsS134.T_ HI0 nN)
             (case side2 => exact lT HB gN)
             rintro e w31 ⟨rfl, hi, hb, hk⟩
             refine ⟨_, rfl, ?_⟩
             replace HK := ak (KeepBut.trans (kT HK gN) hk (.inl rfl))
             replace HB := ak (hb)
             replace HI0 := ak (hi)
             (try clear hb)
             (try clear hb2)
             (try clear hk)
             (try clear hi)
             refine hK.out _ _ trivial (fun hHeld => ?_)
             clear hK K
             refine nm ?_
             refine pu 5 38 (fb 12 1023) HT_ ?_
             refine pu 10 43 (fb 12 2047) HT_ ?_
             refine pu 11 4 (fb 12 4095) HT_ ?_
             refine done_ (done_of HT_.out (by kernel_rfl)) ?_
             try go_wp2
             go_ret
             exact ⟨by first | rfl | (simp [errW_none, errW_some] <;> rfl) | (simp only [← hji25]; first | rfl | (simp [errW_none, errW_some] <;> rfl)) | (simp [*, errW_none, errW_some] <;> rfl), IsS134.T_ HI0 nN, lT HB gN, kT HK gN⟩
            ·rw [if_neg c28] at H
             exact absurd H (by simp)
           ·rw [if_neg c27] at H
            exact absurd H (by simp)
          ·rw [if_neg c26] at H
           exact absurd H (by simp)
         ·rw [if_neg c24] at H
          exact absurd H (by simp)
        ·rw [if_neg c22] at H
         exact absurd H (by simp)
       ·rw [if_neg c21] at H
        exact absurd H (by simp)
      ·rw [if_neg c19] at H
       have c19b0 : decide (0 < (a1.size : Int)) = false := decide_eq_false c19
       have c19b1 : decide (0 < a1.size) = false := decide_eq_false (by omega)
       clear c19
       simp only [Option.some.injEq, Prod.mk.injEq] at H
       obtain ⟨rfl, rfl, rfl⟩ := H
       go_wp2
       go_ret
       exact ⟨ew, IsS134.T_ HI0 nN, lT HB gN, kT HK gN⟩
     ·replace c18 := Bool.eq_false_iff.mpr c18
      subst c18
      have H1 : (some (a1, t381, t382)) = some (r1, r2, r3) := by rw [if_neg (show ¬ (false = true) by decide)] at H; exact H
      clear H
      have H := H1
      clear H1
      simp only [Option.some.injEq, Prod.mk.injEq] at H
      obtain ⟨rfl, rfl, rfl⟩ := H
      go_wp2
      go_ret
      exact ⟨ew, IsS134.T_ HI0 nN, lT HB gN, kT HK gN⟩

/-! ### spec_DrawReadRec: function 26 -/
def spec_DrawReadRec.f (k : Nat) (l0 : List Int) : Option (ByteArray) := (spec_l01New.f k l0).bind fun bt395 => ((spec_l01Below.f bt395.1 bt395.2.1 bt395.2.2 3).bind fun bt399 => ((spec_l06Any.f k bt395.1 bt399.2.1 bt399.2.2).bind fun bt402 => ((spec_RecText.f k bt402.1 bt402.2.1 bt402.2.2.1 bt402.2.2.2.1 bt402.2.2.2.2.1 bt402.2.2.2.2.2.1 bt402.2.2.2.2.2.2.1 bt402.2.2.2.2.2.2.2.1).bind fun bt412 => (if bt399.1 = 0 then ((spec_l02Spoilt.f k bt395.1 bt402.2.2.2.2.2.2.2.2.1 bt402.2.2.2.2.2.2.2.2.2 bt412.1).bind fun bt414 => (some bt414.1)) else (some bt412.1)))))
theorem spec_DrawReadRec.mono : ∀ a0 k, LeO (spec_DrawReadRec.f k a0) (spec_DrawReadRec.f (k + 1) a0) := by
 intro a0 k
 unfold spec_DrawReadRec.f
 repeat' first
   | (with_reducible exact spec_RecText.mono _ _ _ _ _ _ _ _ _)
   | (with_reducible exact spec_l01New.mono _ _)
   | (with_reducible exact spec_l02Spoilt.mono _ _ _ _ _)
   | (with_reducible exact spec_l06Any.mono _ _ _ _)
   | (with_reducible exact LeO.refl _)
   | (with_reducible exact LeO.none _)
   | (with_reducible refine LeO.ite ?_ ?_)
   | (with_reducible refine LeO.bind ?_ (fun _ => ?_))
   | exact spec_RecText.mono _ _ _ _ _ _ _ _ _
   | exact spec_l01New.mono _ _
   | exact spec_l02Spoilt.mono _ _ _ _ _
   | exact spec_l06Any.mono _ _ _ _
   | exact LeO.none _
   | refine LeO.ite ?_ ?_
   | refine LeO.bind ?_ (fun _ => ?_)
set_option maxHeartbeats 8000000 in
set_option maxRecDepth 100000 in
theorem spec_DrawReadRec.calls (k : Nat) (A0 : Option Addr) (c0 : Nat) (l0 : List Int) (r : ByteArray) (w : World) (hr0 : Kd.C (Kd.int .u8) w A0 l0.length l0) (hc0 : l0.length ≤ c0) (h : spec_DrawReadRec.f k l0 = some r) :
  Calls Try.prog 26 #[.slice A0 l0.length c0] w fun e w' => e = .returned (.string r) ∧ Below w.heap.size w w' := by
 have HR0 := Aside0.mk hr0
 have HC0 := Aside0.mk hc0
 clear hr0 hc0
 have HB := ak (Below.refl w.heap.size w)
 have H : ((spec_l01New.f k l0).bind fun bt395 => ((spec_l01Below.f bt395.1 bt395.2.1 bt395.2.2 3).bind fun bt399 => ((spec_l06Any.f k bt395.1 bt399.2.1 bt399.2.2).bind fun bt402 => ((spec_RecText.f k bt402.1 bt402.2.1 bt402.2.2.1 bt402.2.2.2.1 bt402.2.2.2.2.1 bt402.2.2.2.2.2.1 bt402.2.2.2.2.2.2.1 bt402.2.2.2.2.2.2.2.1).bind fun bt412 => (if bt399.1 = 0 then ((spec_l02Spoilt.f k bt395.1 bt402.2.2.2.2.2.2.2.2.1 bt402.2.2.2.2.2.2.2.2.2 bt412.1).bind fun bt414 => (some bt414.1)) else (some bt412.1)))))) = some r := h
 clear h
 replace H := Option.bind_eq_some_iff.mp H
 obtain ⟨⟨t395, t396, t397⟩, A20, H⟩ := H
 replace H : ((spec_l01Below.f t395 t396 t397 3).bind fun bt399 => ((spec_l06Any.f k t395 bt399.2.1 bt399.2.2).bind fun bt402 => ((spec_RecText.f k bt402.1 bt402.2.1 bt402.2.2.1 bt402.2.2.2.1 bt402.2.2.2.2.1 bt402.2.2.2.2.2.1 bt402.2.2.2.2.2.2.1 bt402.2.2.2.2.2.2.2.1).bind fun bt412 => (if bt399.1 = 0 then ((spec_l02Spoilt.f k t395 bt402.2.2.2.2.2.2.2.2.1 bt402.2.2.2.2.2.2.2.2.2 bt412.1).bind fun bt414 => (some bt414.1)) else (some bt412.1))))) = some r := H
 have A2 := Aside0.mk A20
 clear A20
 replace H := Option.bind_eq_some_iff.mp H
 obtain ⟨⟨t399, t400, t401⟩, A30, H⟩ := H
 replace H : ((spec_l06Any.f k t395 t400 t401).bind fun bt402 => ((spec_RecText.f k bt402.1 bt402.2.1 bt402.2.2.1 bt402.2.2.2.1 bt402.2.2.2.2.1 bt402.2.2.2.2.2.1 bt402.2.2.2.2.2.2.1 bt402.2.2.2.2.2.2.2.1).bind fun bt412 => (if t399 = 0 then ((spec_l02Spoilt.f k t395 bt402.2.2.2.2.2.2.2.2.1 bt402.2.2.2.2.2.2.2.2.2 bt412.1).bind fun bt414 => (some bt414.1)) else (some bt412.1)))) = some r := H
 have A3 := Aside0.mk A30
 clear A30
 replace H := Option.bind_eq_some_iff.mp H
 obtain ⟨⟨t402, t403, t404, t405, t406, t407, t408, t409, t410, t411⟩, A40, H⟩ := H
 replace H : ((spec_RecText.f k t402 t403 t404 t405 t406 t407 t408 t409).bind fun bt412 => (if t399 = 0 then ((spec_l02Spoilt.f k t395 t410 t411 bt412.1).bind fun bt414 => (some bt414.1)) else (some bt412.1))) = some r := H
 have A4 := Aside0.mk A40
 clear A40
 replace H := Option.bind_eq_some_iff.mp H
 obtain ⟨⟨t412, t413⟩, A50, H⟩ := H
 replace H : (if t399 = 0 then ((spec_l02Spoilt.f k t395 t410 t411 t412).bind fun bt414 => (some bt414.1)) else (some t412)) = some r := H
 have A5 := Aside0.mk A50
 clear A50
 by_cases c6 : t399 = 0
 ·rw [if_pos c6] at H
  have c6b0 : (t399 == 0) = true := beq_iff_eq.mpr c6
  have c6b1 : (t399 != 0) = false := bne_eq_false_iff_eq.mpr c6
  clear c6
  replace H := Option.bind_eq_some_iff.mp H
  obtain ⟨⟨t414, t415, t416⟩, A70, H⟩ := H
  replace H : (some t414) = some r := H
  have A7 := Aside0.mk A70
  clear A70
  obtain rfl := Option.some.inj H
  go_enter Try.func26, Try.ntmps26
  go_wp2_with (first | ((with_reducible refine gate_callee (f := 67) rfl ?_); refine gl (some 8) Try.func67 #[.slice A0 l0.length c0] ?_; (with_reducible refine (spec_l01New.calls k _ _ l0 t395 t396 t397 w _ ?side1 ?side2 ?side3 A2.out).mono ?_); (case side1 => exact lG HB); (case side2 => exact HR0.out); (case side3 => exact HC0.out); rintro e w8 ⟨g398, rfl, hi, hb, hb2⟩; refine ⟨_, rfl, ?_⟩; replace HB := ak (hb); replace HI398 := ak (hi); (try clear hb); (try clear hb2); (try clear hk); (try clear hi)) | ((with_reducible refine gate_callee (f := 69) rfl ?_); refine gl (some 10) Try.func69 #[.pointer (some ⟨g398, 0, none⟩), .int .i64 3] ?_; (with_reducible refine (spec_l01Below.calls g398 t395 t396 t397 3 t399 t400 t401 w _ ?side1 ?side2 A3.out).mono ?_); (case side1 => exact IsS134.T_ HI398 nN); (case side2 => exact lT HB gN); rintro e w9 ⟨rfl, hi, hb, hk⟩; refine ⟨_, rfl, ?_⟩; replace HB := ak (hb); replace HI398 := ak (hi); (try clear hb); (try clear hb2); (try clear hk); (try clear hi)) | ((with_reducible refine gate_callee (f := 66) rfl ?_); refine gl (some 13) Try.func66 #[.pointer (some ⟨g398, 0, none⟩)] ?_; (with_reducible refine (spec_l06Any.calls k g398 t395 t400 t401 t402 t403 t404 t405 t406 t407 t408 t409 t410 t411 w _ ?side1 ?side2 A4.out).mono ?_); (case side1 => exact IsS134.T_ HI398 nN); (case side2 => exact lT HB gN); rintro e w10 ⟨rfl, hi, hb, hk⟩; refine ⟨_, rfl, ?_⟩; replace HB := ak (hb); replace HI398 := ak (hi); (try clear hb); (try clear hb2); (try clear hk); (try clear hi)) | ((with_reducible refine gate_callee (f := 55) rfl ?_); refine gl (some 14) Try.func55 #[.agg #[.int .i64 t402, .int .i64 t403, .int .i64 t404, .int .i64 t405, .int .i64 t406, .string t407, .string t408, .string t409]] ?_; (with_reducible refine (spec_RecText.calls k t402 t403 t404 t405 t406 t407 t408 t409 t412 t413 _ A5.out).mono ?_); rintro e w11 ⟨rfl, hb⟩; refine ⟨_, rfl, ?_⟩; replace HB := ak (below_step (lT HB gN) hb); replace HI398 := ak (IsS134.below (IsS134.T_ HI398 nN) hb); (try clear hb); (try clear hb2); (try clear hk); (try clear hi)) | ((with_reducible refine gate_callee (f := 70) rfl ?_); refine gl (some 21) Try.func70 #[.pointer (some ⟨g398, 0, none⟩), .string t412] ?_; (with_reducible refine (spec_l02Spoilt.calls k g398 t395 t410 t411 t412 t414 t415 t416 w _ ?side1 ?side2 A7.out).mono ?_); (case side1 => exact IsS134.T_ HI398 nN); (case side2 => exact lT HB gN); rintro e w12 ⟨rfl, hi, hb, hk⟩; refine ⟨_, rfl, ?_⟩; replace HB := ak (hb); replace HI398 := ak (hi); (try clear hb); (try clear hb2); (try clear hk); (try clear hi)))
  go_ret
  exact ⟨ew, lT HB gN⟩
 ·rw [if_neg c6] at H
  have c6b0 : (t399 == 0) = false := beq_eq_false_iff_ne.mpr c6
  have c6b1 : (t399 != 0) = true := bne_iff_ne.mpr c6
  obtain rfl := Option.some.inj H
  go_enter Try.func26, Try.ntmps26
  go_wp2_with (first | ((with_reducible refine gate_callee (f := 67) rfl ?_); refine gl (some 8) Try.func67 #[.slice A0 l0.length c0] ?_; (with_reducible refine (spec_l01New.calls k _ _ l0 t395 t396 t397 w _ ?side1 ?side2 ?side3 A2.out).mono ?_); (case side1 => exact lG HB); (case side2 => exact HR0.out); (case side3 => exact HC0.out); rintro e w13 ⟨g398, rfl, hi, hb, hb2⟩; refine ⟨_, rfl, ?_⟩; replace HB := ak (hb); replace HI398 := ak (hi); (try clear hb); (try clear hb2); (try clear hk); (try clear hi)) | ((with_reducible refine gate_callee (f := 69) rfl ?_); refine gl (some 10) Try.func69 #[.pointer (some ⟨g398, 0, none⟩), .int .i64 3] ?_; (with_reducible refine (spec_l01Below.calls g398 t395 t396 t397 3 t399 t400 t401 w _ ?side1 ?side2 A3.out).mono ?_); (case side1 => exact IsS134.T_ HI398 nN); (case side2 => exact lT HB gN); rintro e w14 ⟨rfl, hi, hb, hk⟩; refine ⟨_, rfl, ?_⟩; replace HB := ak (hb); replace HI398 := ak (hi); (try clear hb); (try clear hb2); (try clear hk); (try clear hi)) | ((with_reducible refine gate_callee (f := 66) rfl ?_); refine gl (some 13) Try.func66 #[.pointer (some ⟨g398, 0, none⟩)] ?_; (with_reducible refine (spec_l06Any.calls k g398 t395 t400 t401 t402 t403 t404 t405 t406 t407 t408 t409 t410 t411 w _ ?side1 ?side2 A4.out).mono ?_); (case side1 => exact IsS134.T_ HI398 nN); (case side2 => exact lT HB gN); rintro e w15 ⟨rfl, hi, hb, hk⟩; refine ⟨_, rfl, ?_⟩; replace HB := ak (hb); replace HI398 := ak (hi); (try clear hb); (try clear hb2); (try clear hk); (try clear hi)) | ((with_reducible refine gate_callee (f := 55) rfl ?_); refine gl (some 14) Try.func55 #[.agg #[.int .i64 t402, .int .i64 t403, .int .i64 t404, .int .i64 t405, .int .i64 t406, .string t407, .string t408, .string t409]] ?_; (with_reducible refine (spec_RecText.calls k t402 t403 t404 t405 t406 t407 t408 t409 t412 t413 _ A5.out).mono ?_); rintro e w16 ⟨rfl, hb⟩; refine ⟨_, rfl, ?_⟩; replace HB := ak (below_step (lT HB gN) hb); replace HI398 := ak (IsS134.below (IsS134.T_ HI398 nN) hb); (try clear hb); (try clear hb2); (try clear hk); (try clear hi)))
  go_ret
  exact ⟨ew, lT HB gN⟩

/-! ### impl_ItemFrame: function 29 -/
def impl_ItemFrame.f (k : Nat) (a0_0 : Int) (a0_1 : Int) (a0_2 : Int) (a0_3 : Int) (a0_4 : Int) (a0_5 : Int) (a0_6 : ByteArray) (a0_7 : ByteArray) (a0_8 : ByteArray) (a1 : Int) : Option (Int × Int × ByteArray × Bool) := (impl_RecText.f k a0_1 a0_2 a0_3 a0_4 a0_5 a0_6 a0_7 a0_8).bind fun bt419 => (if bt419.2 = true then ((impl_FrameOk.f a1 a0_0 bt419.1).bind fun t422 => (if t422 = true then (some (a1, a0_0, bt419.1, true)) else (some (0, 0, (⟨#[]⟩ : ByteArray), false)))) else (some (0, 0, (⟨#[]⟩ : ByteArray), false)))
theorem impl_ItemFrame.mono : ∀ a0 a1 a2 a3 a4 a5 a6 a7 a8 a9 k, LeO (impl_ItemFrame.f k a0 a1 a2 a3 a4 a5 a6 a7 a8 a9) (impl_ItemFrame.f (k + 1) a0 a1 a2 a3 a4 a5 a6 a7 a8 a9) := by
 intro a0 a1 a2 a3 a4 a5 a6 a7 a8 a9 k
 unfold impl_ItemFrame.f
 repeat' first
   | (with_reducible exact impl_RecText.mono _ _ _ _ _ _ _ _ _)
   | (with_reducible exact LeO.refl _)
   | (with_reducible exact LeO.none _)
   | (with_reducible refine LeO.ite ?_ ?_)
   | (with_reducible refine LeO.bind ?_ (fun _ => ?_))
   | exact impl_RecText.mono _ _ _ _ _ _ _ _ _
   | exact LeO.none _
   | refine LeO.ite ?_ ?_
   | refine LeO.bind ?_ (fun _ => ?_)
set_option maxHeartbeats 8000000 in
set_option maxRecDepth 100000 in
theorem impl_ItemFrame.calls (k : Nat) (a0_0 : Int) (a0_1 : Int) (a0_2 : Int) (a0_3 : Int) (a0_4 : Int) (a0_5 : Int) (a0_6 : ByteArray) (a0_7 : ByteArray) (a0_8 : ByteArray) (a1 : Int) (r1 : Int) (r2 : Int) (r3 : ByteArray) (r4 : Bool) (w : World) (h : impl_ItemFrame.f k a0_0 a0_1 a0_2 a0_3 a0_4 a0_5 a0_6 a0_7 a0_8 a1 = some (r1, r2, r3, r4)) :
  Calls Try.prog 29 #[.agg #[.int .i64 a0_0, .int .i64 a0_1, .int .i64 a0_2, .int .i64 a0_3, .int .i64 a0_4, .int .i64 a0_5, .string a0_6, .string a0_7, .string a0_8], .int .i64 a1] w fun e w' => e = .returned (.tuple #[.agg #[.int .i64 r1, .int .i64 r2, .string r3], .bool r4]) ∧ Below w.heap.size w w' := by
 have hu32 := Try.underlying32
 have hu35 := Try.underlying35
 have hu23 := Try.underlying23
 have HB := ak (Below.refl w.heap.size w)
 have H : ((impl_RecText.f k a0_1 a0_2 a0_3 a0_4 a0_5 a0_6 a0_7 a0_8).bind fun bt419 => (if bt419.2 = true then ((impl_FrameOk.f a1 a0_0 bt419.1).bind fun t422 => (if t422 = true then (some (a1, a0_0, bt419.1, true)) else (some (0, 0, (⟨#[]⟩ : ByteArray), false)))) else (some (0, 0, (⟨#[]⟩ : ByteArray), false)))) = some (r1, r2, r3, r4) := h
 clear h
 replace H := Option.bind_eq_some_iff.mp H
 obtain ⟨⟨t419, t420⟩, A30, H⟩ := H
 replace H : (if t420 = true then ((impl_FrameOk.f a1 a0_0 t419).bind fun t422 => (if t422 = true then (some (a1, a0_0, t419, true)) else (some (0, 0, (⟨#[]⟩ : ByteArray), false)))) else (some (0, 0, (⟨#[]⟩ : ByteArray), false))) = some (r1, r2, r3, r4) := H
 have A3 := Aside0.mk A30
 clear A30
 by_cases c4 : t420 = true
 ·subst c4
  have H1 : ((impl_FrameOk.f a1 a0_0 t419).bind fun t422 => (if t422 = true then (some (a1, a0_0, t419, true)) else (some (0, 0, (⟨#[]⟩ : ByteArray), false)))) = some (r1, r2, r3, r4) := by rw [if_pos rfl] at H; exact H
  clear H
  have H := H1
  clear H1
  replace H := Option.bind_eq_some_iff.mp H
  obtain ⟨t422, A50, H⟩ := H
  replace H : (if t422 = true then (some (a1, a0_0, t419, true)) else (some (0, 0, (⟨#[]⟩ : ByteArray), false))) = some (r1, r2, r3, r4) := H
  have A5 := Aside0.mk A50
  clear A50
  by_cases c6 : t422 = true
  ·subst c6
   have H1 : (some (a1, a0_0, t419, true)) = some (r1, r2, r3, r4) := by rw [if_pos rfl] at H; exact H
   clear H
   have H := H1
   clear H1
   simp only [Option.some.injEq, Prod.mk.injEq] at H
   obtain ⟨rfl, rfl, rfl, rfl⟩ := H
   go_enter Try.func29, Try.ntmps29
   go_wp2_with (first | ((with_reducible refine gate_dst (N := 2) rfl ?_); refine bx 2 #[.int .i64 a0_0, .int .i64 a0_1, .int .i64 a0_2, .int .i64 a0_3, .int .i64 a0_4, .int .i64 a0_5, .string a0_6, .string a0_7, .string a0_8] 32 ?_; intro gb417 hg w7 hbox hb; replace BK417 := ak (hbox); replace GW417 := ak (bz hg (lG HB)); replace GE417 := ak (bz hg (lG HB)); replace HB := lB HB hb; clear hb hbox hg) | ((with_reducible refine gate_dst (N := 4) rfl ?_); refine bx 4 #[.int .i64 0, .int .i64 0, .string (⟨#[]⟩ : ByteArray)] 35 ?_; intro gb418 hg w8 hbox hb; replace BK418 := ak (hbox); replace GW418 := ak (bz hg (lT HB (gC GE417 gN))); replace GE418 := ak (bz hg (lT HB (gC GE417 gN))); replace HB := ak (below_step (lT HB (gC GE417 gN)) hb); replace NB417_418 := ak (nl hg (bG BK417)); replace NB418_417 := ak (ng hg (bG BK417)); replace BK417 := bB BK417 hb; clear hb hbox hg; have hnb9 := NB417_418.out; have hnc9 := NB418_417.out; obtain ⟨hcz10_0, hcz10_1, hcz10_2, hcz10_3, hcz10_4, hcz10_5, hcz10_6, hcz10_7, hcz10_8, hfz10_0, hfz10_1, hfz10_2, hfz10_3, hfz10_4, hfz10_5, hfz10_6, hfz10_7, hfz10_8⟩ := bC9 BK417) | ((with_reducible refine gate_callee (f := 25) rfl ?_); refine gl (some 12) Try.func25 #[.agg #[.int .i64 a0_1, .int .i64 a0_2, .int .i64 a0_3, .int .i64 a0_4, .int .i64 a0_5, .string a0_6, .string a0_7, .string a0_8]] ?_; (with_reducible refine (impl_RecText.calls k a0_1 a0_2 a0_3 a0_4 a0_5 a0_6 a0_7 a0_8 t419 true _ A3.out).mono ?_); rintro e w11 ⟨rfl, hb⟩; refine ⟨_, rfl, ?_⟩; replace BK417 := bB BK417 hb; replace BK418 := bB BK418 hb; replace HB := ak (below_step (lT HB (gC GE417 (gC GE418 gN))) hb); (try clear hb); (try clear hk); obtain ⟨hcz12_0, hcz12_1, hcz12_2, hcz12_3, hcz12_4, hcz12_5, hcz12_6, hcz12_7, hcz12_8, hfz12_0, hfz12_1, hfz12_2, hfz12_3, hfz12_4, hfz12_5, hfz12_6, hfz12_7, hfz12_8⟩ := bC9 BK417) | ((with_reducible refine gate_dst (N := 8) rfl ?_); refine bx 8 #[.int .i64 0, .int .i64 0, .string (⟨#[]⟩ : ByteArray)] 35 ?_; intro gb421 hg w13 hbox hb; replace BK421 := ak (hbox); replace GW421 := ak (bz hg (lT HB (gC GE417 (gC GE418 gN)))); replace GE421 := ak (bz hg (lT HB (gC GE417 (gC GE418 gN)))); replace HB := ak (below_step (lT HB (gC GE417 (gC GE418 gN))) hb); replace NB417_421 := ak (nl hg (bG BK417)); replace NB421_417 := ak (ng hg (bG BK417)); replace BK417 := bB BK417 hb; replace NB418_421 := ak (nl hg (bG BK418)); replace NB421_418 := ak (ng hg (bG BK418)); replace BK418 := bB BK418 hb; clear hb hbox hg; have hnb14 := NB421_417.out; have hnc14 := NB417_421.out; have hnb15 := NB421_418.out; have hnc15 := NB418_421.out; obtain ⟨hcz16_0, hcz16_1, hcz16_2, hfz16_0, hfz16_1, hfz16_2⟩ := bC3 BK421) | (go_at_call 59; (with_reducible refine (impl_FrameOk.calls a1 a0_0 t419 true _ A5.out).mono ?_); rintro e w17 ⟨rfl, hb⟩; replace BK417 := ak (blk_below (bT BK417 (nC NB417_421 nN)) hb); replace BK418 := ak (blk_below (bT BK418 (nC NB418_421 nN)) hb); replace BK421 := ak (blk_below (g := gb421) (o := .cells #[.int .i64 a1, .int .i64 a0_0, .string t419] 35 (0, 0)) (bW BK421) hb); replace HB := ak (below_step (lT HB (gC GE417 (gC GE418 (gC GE421 gN)))) hb); (try clear hb); (try clear hk); obtain ⟨hcz18_0, hcz18_1, hcz18_2, hfz18_0, hfz18_1, hfz18_2⟩ := bC3 BK421; obtain ⟨hcz19_0, hcz19_1, hcz19_2, hfz19_0, hfz19_1, hfz19_2⟩ := bC3 BK418))
   refine bodyPost_ret (results_ct rfl _ _ gb418 35 #[.int .i64 a1, .int .i64 a0_0, .string t419] (0, 0) _ rfl (bW BK418) Try.underlying35 rfl (by kernel_rfl)) rfl ?_
   exact ⟨ew, by exact lT HB (gC GE417 (gC GE418 (gC GE421 gN)))⟩
  ·replace c6 := Bool.eq_false_iff.mpr c6
   subst c6
   have H1 : (some (0, 0, (⟨#[]⟩ : ByteArray), false)) = some (r1, r2, r3, r4) := by rw [if_neg (show ¬ (false = true) by decide)] at H; exact H
   clear H
   have H := H1
   clear H1
   simp only [Option.some.injEq, Prod.mk.injEq] at H
   obtain ⟨rfl, rfl, rfl, rfl⟩ := H
   go_enter Try.func29, Try.ntmps29
   go_wp2_with (first | ((with_reducible refine gate_dst (N := 2) rfl ?_); refine bx 2 #[.int .i64 a0_0, .int .i64 a0_1, .int .i64 a0_2, .int .i64 a0_3, .int .i64 a0_4, .int .i64 a0_5, .string a0_6, .string a0_7, .string a0_8] 32 ?_; intro gb417 hg w20 hbox hb; replace BK417 := ak (hbox); replace GW417 := ak (bz hg (lG HB)); replace GE417 := ak (bz hg (lG HB)); replace HB := lB HB hb; clear hb hbox hg) | ((with_reducible refine gate_dst (N := 4) rfl ?_); refine bx 4 #[.int .i64 0, .int .i64 0, .string (⟨#[]⟩ : ByteArray)] 35 ?_; intro gb418 hg w21 hbox hb; replace BK418 := ak (hbox); replace GW418 := ak (bz hg (lT HB (gC GE417 gN))); replace GE418 := ak (bz hg (lT HB (gC GE417 gN))); replace HB := ak (below_step (lT HB (gC GE417 gN)) hb); replace NB417_418 := ak (nl hg (bG BK417)); replace NB418_417 := ak (ng hg (bG BK417)); replace BK417 := bB BK417 hb; clear hb hbox hg; have hnb22 := NB417_418.out; have hnc22 := NB418_417.out; obtain ⟨hcz23_0, hcz23_1, hcz23_2, hcz23_3, hcz23_4, hcz23_5, hcz23_6, hcz23_7, hcz23_8, hfz23_0, hfz23_1, hfz23_2, hfz23_3, hfz23_4, hfz23_5, hfz23_6, hfz23_7, hfz23_8⟩ := bC9 BK417) | ((with_reducible refine gate_callee (f := 25) rfl ?_); refine gl (some 12) Try.func25 #[.agg #[.int .i64 a0_1, .int .i64 a0_2, .int .i64 a0_3, .int .i64 a0_4, .int .i64 a0_5, .string a0_6, .string a0_7, .string a0_8]] ?_; (with_reducible refine (impl_RecText.calls k a0_1 a0_2 a0_3 a0_4 a0_5 a0_6 a0_7 a0_8 t419 true _ A3.out).mono ?_); rintro e w24 ⟨rfl, hb⟩; refine ⟨_, rfl, ?_⟩; replace BK417 := bB BK417 hb; replace BK418 := bB BK418 hb; replace HB := ak (below_step (lT HB (gC GE417 (gC GE418 gN))) hb); (try clear hb); (try clear hk); obtain ⟨hcz25_0, hcz25_1, hcz25_2, hcz25_3, hcz25_4, hcz25_5, hcz25_6, hcz25_7, hcz25_8, hfz25_0, hfz25_1, hfz25_2, hfz25_3, hfz25_4, hfz25_5, hfz25_6, hfz25_7, hfz25_8⟩ := bC9 BK417) | ((with_reducible refine gate_dst (N := 8) rfl ?_); refine bx 8 #[.int .i64 0, .int .i64 0, .string (⟨#[]⟩ : ByteArray)] 35 ?_; intro gb421 hg w26 hbox hb; replace BK421 := ak (hbox); replace GW421 := ak (bz hg (lT HB (gC GE417 (gC GE418 gN)))); replace GE421 := ak (bz hg (lT HB (gC GE417 (gC GE418 gN)))); replace HB := ak (below_step (lT HB (gC GE417 (gC GE418 gN))) hb); replace NB417_421 := ak (nl hg (bG BK417)); replace NB421_417 := ak (ng hg (bG BK417)); replace BK417 := bB BK417 hb; replace NB418_421 := ak (nl hg (bG BK418)); replace NB421_418 := ak (ng hg (bG BK418)); replace BK418 := bB BK418 hb; clear hb hbox hg; have hnb27 := NB421_417.out; have hnc27 := NB417_421.out; have hnb28 := NB421_418.out; have hnc28 := NB418_421.out; obtain ⟨hcz29_0, hcz29_1, hcz29_2, hfz29_0, hfz29_1, hfz29_2⟩ := bC3 BK421) | (go_at_call 59; (with_reducible refine (impl_FrameOk.calls a1 a0_0 t419 false _ A5.out).mono ?_); rintro e w30 ⟨rfl, hb⟩; replace BK417 := ak (blk_below (bT BK417 (nC NB417_421 nN)) hb); replace BK418 := ak (blk_below (bT BK418 (nC NB418_421 nN)) hb); replace BK421 := ak (blk_below (g := gb421) (o := .cells #[.int .i64 a1, .int .i64 a0_0, .string t419] 35 (0, 0)) (bW BK421) hb); replace HB := ak (below_step (lT HB (gC GE417 (gC GE418 (gC GE421 gN)))) hb); (try clear hb); (try clear hk); obtain ⟨hcz31_0, hcz31_1, hcz31_2, hfz31_0, hfz31_1, hfz31_2⟩ := bC3 BK418))
   refine bodyPost_ret (results_ct rfl _ _ gb418 35 #[.int .i64 0, .int .i64 0, .string (⟨#[]⟩ : ByteArray)] (0, 0) _ rfl (bW BK418) Try.underlying35 rfl (by kernel_rfl)) rfl ?_
   exact ⟨ew, by exact lT HB (gC GE417 (gC GE418 (gC GE421 gN)))⟩
 ·replace c4 := Bool.eq_false_iff.mpr c4
  subst c4
  have H1 : (some (0, 0, (⟨#[]⟩ : ByteArray), false)) = some (r1, r2, r3, r4) := by rw [if_neg (show ¬ (false = true) by decide)] at H; exact H
  clear H
  have H := H1
  clear H1
  simp only [Option.some.injEq, Prod.mk.injEq] at H
  obtain ⟨rfl, rfl, rfl, rfl⟩ := H
  go_enter Try.func29, Try.ntmps29
  go_wp2_with (first | ((with_reducible refine gate_dst (N := 2) rfl ?_); refine bx 2 #[.int .i64 a0_0, .int .i64 a0_1, .int .i64 a0_2, .int .i64 a0_3, .int .i64 a0_4, .int .i64 a0_5, .string a0_6, .string a0_7, .string a0_8] 32 ?_; intro gb417 hg w32 hbox hb; replace BK417 := ak (hbox); replace GW417 := ak (bz hg (lG HB)); replace GE417 := ak (bz hg (lG HB)); replace HB := lB HB hb; clear hb hbox hg) | ((with_reducible refine gate_dst (N := 4) rfl ?_); refine bx 4 #[.int .i64 0, .int .i64 0, .string (⟨#[]⟩ : ByteArray)] 35 ?_; intro gb418 hg w33 hbox hb; replace BK418 := ak (hbox); replace GW418 := ak (bz hg (lT HB (gC GE417 gN))); replace GE418 := ak (bz hg (lT HB (gC GE417 gN))); replace HB := ak (below_step (lT HB (gC GE417 gN)) hb); replace NB417_418 := ak (nl hg (bG BK417)); replace NB418_417 := ak (ng hg (bG BK417)); replace BK417 := bB BK417 hb; clear hb hbox hg; have hnb34 := NB417_418.out; have hnc34 := NB418_417.out; obtain ⟨hcz35_0, hcz35_1, hcz35_2, hcz35_3, hcz35_4, hcz35_5, hcz35_6, hcz35_7, hcz35_8, hfz35_0, hfz35_1, hfz35_2, hfz35_3, hfz35_4, hfz35_5, hfz35_6, hfz35_7, hfz35_8⟩ := bC9 BK417) | ((with_reducible refine gate_callee (f := 25) rfl ?_); refine gl (some 12) Try.func25 #[.agg #[.int .i64 a0_1, .int .i64 a0_2, .int .i64 a0_3, .int .i64 a0_4, .int .i64 a0_5, .string a0_6, .string a0_7, .string a0_8]] ?_; (with_reducible refine (impl_RecText.calls k a0_1 a0_2 a0_3 a0_4 a0_5 a0_6 a0_7 a0_8 t419 false _ A3.out).mono ?_); rintro e w36 ⟨rfl, hb⟩; refine ⟨_, rfl, ?_⟩; replace BK417 := bB BK417 hb; replace BK418 := bB BK418 hb; replace HB := ak (below_step (lT HB (gC GE417 (gC GE418 gN))) hb); (try clear hb); (try clear hk); obtain ⟨hcz37_0, hcz37_1, hcz37_2, hcz37_3, hcz37_4, hcz37_5, hcz37_6, hcz37_7, hcz37_8, hfz37_0, hfz37_1, hfz37_2, hfz37_3, hfz37_4, hfz37_5, hfz37_6, hfz37_7, hfz37_8⟩ := bC9 BK417) | ((with_reducible refine gate_dst (N := 8) rfl ?_); refine bx 8 #[.int .i64 0, .int .i64 0, .string (⟨#[]⟩ : ByteArray)] 35 ?_; intro gb421 hg w38 hbox hb; replace BK421 := ak (hbox); replace GW421 := ak (bz hg (lT HB (gC GE417 (gC GE418 gN)))); replace GE421 := ak (bz hg (lT HB (gC GE417 (gC GE418 gN)))); replace HB := ak (below_step (lT HB (gC GE417 (gC GE418 gN))) hb); replace NB417_421 := ak (nl hg (bG BK417)); replace NB421_417 := ak (ng hg (bG BK417)); replace BK417 := bB BK417 hb; replace NB418_421 := ak (nl hg (bG BK418)); replace NB421_418 := ak (ng hg (bG BK418)); replace BK418 := bB BK418 hb; clear hb hbox hg; have hnb39 := NB421_417.out; have hnc39 := NB417_421.out; have hnb40 := NB421_418.out; have hnc40 := NB418_421.out; obtain ⟨hcz41_0, hcz41_1, hcz41_2, hfz41_0, hfz41_1, hfz41_2⟩ := bC3 BK421; obtain ⟨hcz42_0, hcz42_1, hcz42_2, hfz42_0, hfz42_1, hfz42_2⟩ := bC3 BK418))
  refine bodyPost_ret (results_ct rfl _ _ gb418 35 #[.int .i64 0, .int .i64 0, .string (⟨#[]⟩ : ByteArray)] (0, 0) _ rfl (bF BK418 (nC NB418_421 nN)) Try.underlying35 rfl (by kernel_rfl)) rfl ?_
  exact ⟨ew, by exact lT HB (gC GE417 (gC GE418 (gC GE421 gN)))⟩

/-! ### spec_DrawWordOk: function 30 -/
def spec_DrawWordOk.f (k : Nat) (l0 : List Int) : Option (ByteArray) := (spec_l01New.f k l0).bind fun bt423 => ((spec_l01Pick.f bt423.1 bt423.2.1 bt423.2.2 (([(⟨#[]⟩ : ByteArray), (⟨#[97]⟩ : ByteArray), (⟨#[101, 105, 103, 104, 116, 120, 120, 120]⟩ : ByteArray), (⟨#[110, 105, 110, 101, 98, 121, 116, 101, 115]⟩ : ByteArray), (⟨#[65]⟩ : ByteArray), (⟨#[97, 49]⟩ : ByteArray)] : List ByteArray))).bind fun bt430 => (some bt430.1))
theorem spec_DrawWordOk.mono : ∀ a0 k, LeO (spec_DrawWordOk.f k a0) (spec_DrawWordOk.f (k + 1) a0) := by
 intro a0 k
 unfold spec_DrawWordOk.f
 repeat' first
   | (with_reducible exact spec_l01New.mono _ _)
   | (with_reducible exact LeO.refl _)
   | (with_reducible exact LeO.none _)
   | (with_reducible refine LeO.ite ?_ ?_)
   | (with_reducible refine LeO.bind ?_ (fun _ => ?_))
   | exact spec_l01New.mono _ _
   | exact LeO.none _
   | refine LeO.ite ?_ ?_
   | refine LeO.bind ?_ (fun _ => ?_)
set_option maxHeartbeats 8000000 in
set_option maxRecDepth 100000 in
theorem spec_DrawWordOk.calls (k : Nat) (A0 : Option Addr) (c0 : Nat) (l0 : List Int) (r : ByteArray) (w : World) (hr0 : Kd.C (Kd.int .u8) w A0 l0.length l0) (hc0 : l0.length ≤ c0) (h : spec_DrawWordOk.f k l0 = some r) :
  Calls Try.prog 30 #[.slice A0 l0.length c0] w fun e w' => e = .returned (.string r) ∧ Below w.heap.size w w' := by
 have HR0 := Aside0.mk hr0
 have HC0 := Aside0.mk hc0
 clear hr0 hc0
 have HB := ak (Below.refl w.heap.size w)
 have H : ((spec_l01New.f k l0).bind fun bt423 => ((spec_l01Pick.f bt423.1 bt423.2.1 bt423.2.2 (([(⟨#[]⟩ : ByteArray), (⟨#[97]⟩ : ByteArray), (⟨#[101, 105, 103, 104, 116, 120, 120, 120]⟩ : ByteArray), (⟨#[110, 105, 110, 101, 98, 121, 116, 101, 115]⟩ : ByteArray), (⟨#[65]⟩ : ByteArray), (⟨#[97, 49]⟩ : ByteArray)] : List ByteArray))).bind fun bt430 => (some bt430.1))) = some r := h
 clear h
 replace H := Option.bind_eq_some_iff.mp H
 obtain ⟨⟨t423, t424, t425⟩, A20, H⟩ := H
 replace H : ((spec_l01Pick.f t423 t424 t425 (([(⟨#[]⟩ : ByteArray), (⟨#[97]⟩ : ByteArray), (⟨#[101, 105, 103, 104, 116, 120, 120, 120]⟩ : ByteArray), (⟨#[110, 105, 110, 101, 98, 121, 116, 101, 115]⟩ : ByteArray), (⟨#[65]⟩ : ByteArray), (⟨#[97, 49]⟩ : ByteArray)] : List ByteArray))).bind fun bt430 => (some bt430.1)) = some r := H
 have A2 := Aside0.mk A20
 clear A20
 obtain ⟨y427, hy427⟩ : ∃ y_ : List ByteArray, y_ = (([(⟨#[]⟩ : ByteArray), (⟨#[97]⟩ : ByteArray), (⟨#[101, 105, 103, 104, 116, 120, 120, 120]⟩ : ByteArray), (⟨#[110, 105, 110, 101, 98, 121, 116, 101, 115]⟩ : ByteArray), (⟨#[65]⟩ : ByteArray), (⟨#[97, 49]⟩ : ByteArray)] : List ByteArray)) := ⟨_, rfl⟩
 replace H : ((spec_l01Pick.f t423 t424 t425 y427).bind fun bt430 => (some bt430.1)) = some r := by first | (rw [hy427]; with_reducible exact H) | (have H2_ := (Option.bind_some _ _).symm.trans H; rw [hy427]; with_reducible exact H2_) | (have H2_ := (Option.bind_some _ _).symm.trans H; with_reducible exact H2_) | with_reducible exact H | (rw [hy427]; exact H) | exact H
 have Ny427 := Aside0.mk hy427
 clear hy427
 replace H := Option.bind_eq_some_iff.mp H
 obtain ⟨⟨t430, t431, t432⟩, A30, H⟩ := H
 replace H : (some t430) = some r := H
 have A3 := Aside0.mk A30
 clear A30
 obtain rfl := Option.some.inj H
 go_enter Try.func30, Try.ntmps30
 go_wp2_with (first | ((with_reducible refine gate_callee (f := 67) rfl ?_); refine gl (some 5) Try.func67 #[.slice A0 l0.length c0] ?_; (with_reducible refine (spec_l01New.calls k _ _ l0 t423 t424 t425 w _ ?side1 ?side2 ?side3 A2.out).mono ?_); (case side1 => exact lG HB); (case side2 => exact HR0.out); (case side3 => exact HC0.out); rintro e w4 ⟨g426, rfl, hi, hb, hb2⟩; refine ⟨_, rfl, ?_⟩; replace HB := ak (hb); replace HI426 := ak (hi); (try clear hb); (try clear hb2); (try clear hk); (try clear hi)) | ((with_reducible refine gate_dst (N := 7) rfl ?_); refine Kd.R_lit Kd.string _ 9 ?hg (N := 7) ?hd (xs := ([(⟨#[]⟩ : ByteArray), (⟨#[97]⟩ : ByteArray), (⟨#[101, 105, 103, 104, 116, 120, 120, 120]⟩ : ByteArray), (⟨#[110, 105, 110, 101, 98, 121, 116, 101, 115]⟩ : ByteArray), (⟨#[65]⟩ : ByteArray), (⟨#[97, 49]⟩ : ByteArray)] : List ByteArray)) (inner := [.string (⟨#[]⟩ : ByteArray), .string (⟨#[97]⟩ : ByteArray), .string (⟨#[101, 105, 103, 104, 116, 120, 120, 120]⟩ : ByteArray), .string (⟨#[110, 105, 110, 101, 98, 121, 116, 101, 115]⟩ : ByteArray), .string (⟨#[65]⟩ : ByteArray), .string (⟨#[97, 49]⟩ : ByteArray)]) (ok := fun _ => True) (okp := fun _ => True) ?hr ?hp (fun _ hk => hk) trivial (Below.refl _ _) (Nat.le_refl _) (by simp) ?_; (case hd => rfl); (case hg => rfl); (case hr => first | (go_simp; done) | (go_simp; rfl)); (case hp => exact (Reps.one (show Kd.M Kd.string _ _ _ (⟨#[]⟩ : ByteArray) [.string (⟨#[]⟩ : ByteArray)] from rfl) (Reps.one (show Kd.M Kd.string _ _ _ (⟨#[97]⟩ : ByteArray) [.string (⟨#[97]⟩ : ByteArray)] from rfl) (Reps.one (show Kd.M Kd.string _ _ _ (⟨#[101, 105, 103, 104, 116, 120, 120, 120]⟩ : ByteArray) [.string (⟨#[101, 105, 103, 104, 116, 120, 120, 120]⟩ : ByteArray)] from rfl) (Reps.one (show Kd.M Kd.string _ _ _ (⟨#[110, 105, 110, 101, 98, 121, 116, 101, 115]⟩ : ByteArray) [.string (⟨#[110, 105, 110, 101, 98, 121, 116, 101, 115]⟩ : ByteArray)] from rfl) (Reps.one (show Kd.M Kd.string _ _ _ (⟨#[65]⟩ : ByteArray) [.string (⟨#[65]⟩ : ByteArray)] from rfl) (Reps.one (show Kd.M Kd.string _ _ _ (⟨#[97, 49]⟩ : ByteArray) [.string (⟨#[97, 49]⟩ : ByteArray)] from rfl) (Reps.none _ _)))))))); intro v428 w5 ho6 hb hg_ hnew_; clear hg_ hnew_; (first | rw [← Ny427.out] at ho6 | (simp only [Int.reduceToNat] at ho6; rw [← Ny427.out] at ho6)); replace HO429 := ak (Kd.R_lower ho6 (below_size (lT HB gN))); replace HB := ak (below_step (lT HB gN) hb); replace HI426 := ak (IsS134.below (IsS134.T_ HI426 nN) hb); clear hb ho6; obtain ⟨Ao7, co7, eo7⟩ := Kd.R_slice HO429.out; subst eo7) | ((with_reducible refine gate_callee (f := 71) rfl ?_); refine gl (some 8) Try.func71 #[.pointer (some ⟨g426, 0, none⟩), .slice Ao7 y427.length co7] ?_; (with_reducible refine (spec_l01Pick.calls g426 t423 t424 t425 _ _ y427 t430 t431 t432 w _ ?side1 ?side2 ?side3 ?side4 ?side5 A3.out).mono ?_); (case side1 => exact IsS134.T_ HI426 nN); (case side2 => exact lT HB gN); (case side3 => exact cG (Kd.R_reads' HO429.out).2.2); (case side4 => exact (Kd.R_reads' HO429.out).2.1); (case side5 => exact far_slice (IsS134.own_ne HI426.out HO429.out (by decide))); rintro e w8 ⟨rfl, hi, hb, hk⟩; refine ⟨_, rfl, ?_⟩; replace HO429 := ak (Kd.R_mono (Kd.R_keep (IsS134.apart (show IsS134 w _ g426 t423 t424 t425 from IsS134.T_ HI426 nN) (rG HO429) (by decide)) hk (fun _ h => h.2)) (fun _ h => h.1)); replace HB := ak (hb); replace HI426 := ak (hi); (try clear hb); (try clear hb2); (try clear hk); (try clear hi)))
 go_ret
 exact ⟨ew, lT HB gN⟩

end Go.Proofs.Ytagkjeldheiejaa.PFnRecords
