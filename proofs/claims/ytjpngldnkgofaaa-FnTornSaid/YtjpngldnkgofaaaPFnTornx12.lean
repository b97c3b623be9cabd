-- Written for this claim by a program of mine (a turned copy of the kit's print): functions as plain Lean, and their contracts. Lean checks it.
import Derived.Test.YtjpngldnkgofaaaPFnTornx0
import Derived.Test.YtjpngldnkgofaaaPFnTornx1
import Derived.Test.YtjpngldnkgofaaaPFnTornx9
import Derived.Test.YtjpngldnkgofaaaPFnTornx10
import Derived.Test.YtjpngldnkgofaaaPFnTornx11
import Derived.Test.YtjpngldnkgofaaaVFnTorn1
namespace Go.Proofs.Ytjpngldnkgofaaa.PFnTorn
open Go.RowKit Go.Proofs.YtjpngldnkgofaaaW.PrintWords Go.Proofs.YtjpngldnkgofaaaW.PrintLast Go.Proofs.YtjpngldnkgofaaaW.PrintMore
attribute [local go_sem] max2_int min2_int max_two min_two max_three min_three max_four min_four   -- for this text's walks alone
set_option linter.unusedVariables false
set_option linter.unusedSimpArgs false

/-! ### laws_FnTorn: function 4 -/
def laws_FnTorn.f (k : Nat) (l0 : List Int) : Option (Bool) := (laws_big.f l0).bind fun t389 => (if t389 = true then (some true) else ((spec_DrawDisk.f k l0).bind fun bt390 => ((impl_FlushDisk.f k bt390.1 bt390.2).bind fun bt396 => ((spec_DrawPlaces.f k l0).bind fun t403 => (if 0 < (t403.length : Int) then (if (bt396.1.length : Int) = 0 then (none) else (if 1 < (t403.length : Int) then (if 0 ≤ 32 then (if 32 ≤ 33 then ((impl_WriteSector.f bt396.1 bt396.2 (Int.tmod (rd t403 0) (bt396.1.length : Int)) ((⟨#[116, 104, 105, 114, 116, 121, 45, 116, 119, 111, 32, 98, 121, 116, 101, 115, 44, 32, 110, 111, 32, 109, 111, 114, 101, 32, 111, 114, 32, 108, 101, 115, 115]⟩ : ByteArray).extract 0 32)).bind fun bt408 => ((impl_CrashDisk.f k bt408.1 bt408.2.1 (([1] : List Int)) (Int.tmod (rd t403 1) 33)).bind fun bt419 => (if bt408.2.2 = true then (if 0 ≤ (Int.tmod (rd t403 0) (bt396.1.length : Int)) then (if (Int.tmod (rd t403 0) (bt396.1.length : Int)) < (bt419.1.length : Int) then (if 0 ≤ (Int.tmod (rd t403 1) 33) then (if (Int.tmod (rd t403 1) 33) ≤ (((⟨#[116, 104, 105, 114, 116, 121, 45, 116, 119, 111, 32, 98, 121, 116, 101, 115, 44, 32, 110, 111, 32, 109, 111, 114, 101, 32, 111, 114, 32, 108, 101, 115, 115]⟩ : ByteArray).extract 0 32).size : Int) then (if (Int.tmod (rd t403 0) (bt396.1.length : Int)) < (bt396.1.length : Int) then (if (Int.tmod (rd t403 1) 33) ≤ ((rdOf ByteArray.empty bt396.1 (Int.tmod (rd t403 0) (bt396.1.length : Int))).size : Int) then (if (((⟨#[116, 104, 105, 114, 116, 121, 45, 116, 119, 111, 32, 98, 121, 116, 101, 115, 44, 32, 110, 111, 32, 109, 111, 114, 101, 32, 111, 114, 32, 108, 101, 115, 115]⟩ : ByteArray).extract 0 32).extract 0 ((Int.tmod (rd t403 1) 33) : Int).toNat).size + ((rdOf ByteArray.empty bt396.1 (Int.tmod (rd t403 0) (bt396.1.length : Int))).extract ((Int.tmod (rd t403 1) 33) : Int).toNat (rdOf ByteArray.empty bt396.1 (Int.tmod (rd t403 0) (bt396.1.length : Int))).size).size ≤ 9223372036854775807 then (if (rdOf ByteArray.empty bt419.1 (Int.tmod (rd t403 0) (bt396.1.length : Int))).toList = ((((⟨#[116, 104, 105, 114, 116, 121, 45, 116, 119, 111, 32, 98, 121, 116, 101, 115, 44, 32, 110, 111, 32, 109, 111, 114, 101, 32, 111, 114, 32, 108, 101, 115, 115]⟩ : ByteArray).extract 0 32).extract 0 ((Int.tmod (rd t403 1) 33) : Int).toNat) ++ ((rdOf ByteArray.empty bt396.1 (Int.tmod (rd t403 0) (bt396.1.length : Int))).extract ((Int.tmod (rd t403 1) 33) : Int).toNat (rdOf ByteArray.empty bt396.1 (Int.tmod (rd t403 0) (bt396.1.length : Int))).size)).toList then ((impl_DiskOk.f bt419.1 bt419.2).bind fun t428 => (some t428)) else (some false)) else (none)) else (none)) else (none)) else (none)) else (none)) else (none)) else (none)) else (some false)))) else (none)) else (none)) else (none))) else (none))))))
theorem laws_FnTorn.mono : ∀ a0 k, LeO (laws_FnTorn.f k a0) (laws_FnTorn.f (k + 1) a0) := by
 intro a0 k
 unfold laws_FnTorn.f
 repeat' first
   | (with_reducible exact impl_CrashDisk.mono _ _ _ _ _)
   | (with_reducible exact impl_FlushDisk.mono _ _ _)
   | (with_reducible exact spec_DrawDisk.mono _ _)
   | (with_reducible exact spec_DrawPlaces.mono _ _)
   | (with_reducible exact LeO.refl _)
   | (with_reducible exact LeO.none _)
   | (with_reducible refine LeO.ite ?_ ?_)
   | (with_reducible refine LeO.bind ?_ (fun _ => ?_))
   | exact impl_CrashDisk.mono _ _ _ _ _
   | exact impl_FlushDisk.mono _ _ _
   | exact spec_DrawDisk.mono _ _
   | exact spec_DrawPlaces.mono _ _
   | exact LeO.none _
   | refine LeO.ite ?_ ?_
   | refine LeO.bind ?_ (fun _ => ?_)
def laws_FnTorn.T5 : Bool × List (List Nat × List Nat) := (true, [([], []), ([0], [0]), ([1], [1]), ([], []), ([3], [3]), ([4], [4]), ([2, 5], [2, 5]), ([6, 0, 1, 2, 3, 4, 5, 6], [6])])
def laws_FnTorn.B5 : List Nat := [0, 1, 3, 0, 8, 24, 63, 127]
theorem laws_FnTorn.tab5 : rtab .any (opsOf Try.f4 5) = laws_FnTorn.T5 := by kernel_rfl
theorem laws_FnTorn.bits5 : waitsOk laws_FnTorn.T5.2 laws_FnTorn.B5 = true := by kernel_rfl
def laws_FnTorn.T10 : Bool × List (List Nat × List Nat) := (true, [([], []), ([0], [0]), ([1], [1]), ([2, 1], [1, 2]), ([1], [1]), ([3, 4, 1], [1, 3, 4]), ([5, 1], [1, 5]), ([1], [1]), ([1], [1]), ([7, 8, 1], [1, 7, 8]), ([1], [1]), ([10, 1], [1, 10]), ([1], [1]), ([11, 12, 1], [1, 11, 12]), ([13, 1], [1, 13]), ([1], [1]), ([14, 15, 1], [1, 14, 15]), ([9, 16, 1], [1, 9, 16]), ([6, 17, 1], [1, 6, 17]), ([1, 18], [1, 18]), ([19, 1], [19]), ([20], [20]), ([21, 20, 20], [20, 21]), ([20, 22], [20, 22]), ([23, 22, 0, 1, 2, 3, 4, 5, 6, 7, 8, 9, 10, 11, 12, 13, 14, 15, 16, 17, 18, 19, 20, 21, 22, 23], [23])])
def laws_FnTorn.B10 : List Nat := [0, 1, 3, 7, 3, 31, 63, 3, 3, 387, 3, 1027, 3, 7171, 15363, 3, 64515, 130947, 262143, 524287, 1048575, 2097151, 4194303, 8388607, 16777215]
theorem laws_FnTorn.tab10 : rtab .any (opsOf Try.f4 10) = laws_FnTorn.T10 := by kernel_rfl
theorem laws_FnTorn.bits10 : waitsOk laws_FnTorn.T10.2 laws_FnTorn.B10 = true := by kernel_rfl
set_option maxHeartbeats 8000000 in
set_option maxRecDepth 100000 in
theorem laws_FnTorn.calls (k : Nat) (A0 : Option Addr) (c0 : Nat) (l0 : List Int) (r : Bool) (w : World) (hr0 : Kd.C (Kd.int .u8) w A0 l0.length l0) (hc0 : l0.length ≤ c0) (h : laws_FnTorn.f k l0 = some r) :
  Calls Try.prog 4 #[.slice A0 l0.length c0] w fun e w' => e = .returned (.bool r) ∧ Below w.heap.size w w' := by
 have hu27 := Try.underlying27
 have HR0 := Aside0.mk hr0
 have HC0 := Aside0.mk hc0
 clear hr0 hc0
 have HB := ak (Below.refl w.heap.size w)
 have H : ((laws_big.f l0).bind fun t389 => (if t389 = true then (some true) else ((spec_DrawDisk.f k l0).bind fun bt390 => ((impl_FlushDisk.f k bt390.1 bt390.2).bind fun bt396 => ((spec_DrawPlaces.f k l0).bind fun t403 => (if 0 < (t403.length : Int) then (if (bt396.1.length : Int) = 0 then (none) else (if 1 < (t403.length : Int) then (if 0 ≤ 32 then (if 32 ≤ 33 then ((impl_WriteSector.f bt396.1 bt396.2 (Int.tmod (rd t403 0) (bt396.1.length : Int)) ((⟨#[116, 104, 105, 114, 116, 121, 45, 116, 119, 111, 32, 98, 121, 116, 101, 115, 44, 32, 110, 111, 32, 109, 111, 114, 101, 32, 111, 114, 32, 108, 101, 115, 115]⟩ : ByteArray).extract 0 32)).bind fun bt408 => ((impl_CrashDisk.f k bt408.1 bt408.2.1 (([1] : List Int)) (Int.tmod (rd t403 1) 33)).bind fun bt419 => (if bt408.2.2 = true then (if 0 ≤ (Int.tmod (rd t403 0) (bt396.1.length : Int)) then (if (Int.tmod (rd t403 0) (bt396.1.length : Int)) < (bt419.1.length : Int) then (if 0 ≤ (Int.tmod (rd t403 1) 33) then (if (Int.tmod (rd t403 1) 33) ≤ (((⟨#[116, 104, 105, 114, 116, 121, 45, 116, 119, 111, 32, 98, 121, 116, 101, 115, 44, 32, 110, 111, 32, 109, 111, 114, 101, 32, 111, 114, 32, 108, 101, 115, 115]⟩ : ByteArray).extract 0 32).size : Int) then (if (Int.tmod (rd t403 0) (bt396.1.length : Int)) < (bt396.1.length : Int) then (if (Int.tmod (rd t403 1) 33) ≤ ((rdOf ByteArray.empty bt396.1 (Int.tmod (rd t403 0) (bt396.1.length : Int))).size : Int) then (if (((⟨#[116, 104, 105, 114, 116, 121, 45, 116, 119, 111, 32, 98, 121, 116, 101, 115, 44, 32, 110, 111, 32, 109, 111, 114, 101, 32, 111, 114, 32, 108, 101, 115, 115]⟩ : ByteArray).extract 0 32).extract 0 ((Int.tmod (rd t403 1) 33) : Int).toNat).size + ((rdOf ByteArray.empty bt396.1 (Int.tmod (rd t403 0) (bt396.1.length : Int))).extract ((Int.tmod (rd t403 1) 33) : Int).toNat (rdOf ByteArray.empty bt396.1 (Int.tmod (rd t403 0) (bt396.1.length : Int))).size).size ≤ 9223372036854775807 then (if (rdOf ByteArray.empty bt419.1 (Int.tmod (rd t403 0) (bt396.1.length : Int))).toList = ((((⟨#[116, 104, 105, 114, 116, 121, 45, 116, 119, 111, 32, 98, 121, 116, 101, 115, 44, 32, 110, 111, 32, 109, 111, 114, 101, 32, 111, 114, 32, 108, 101, 115, 115]⟩ : ByteArray).extract 0 32).extract 0 ((Int.tmod (rd t403 1) 33) : Int).toNat) ++ ((rdOf ByteArray.empty bt396.1 (Int.tmod (rd t403 0) (bt396.1.length : Int))).extract ((Int.tmod (rd t403 1) 33) : Int).toNat (rdOf ByteArray.empty bt396.1 (Int.tmod (rd t403 0) (bt396.1.length : Int))).size)).toList then ((impl_DiskOk.f bt419.1 bt419.2).bind fun t428 => (some t428)) else (some false)) else (none)) else (none)) else (none)) else (none)) else (none)) else (none)) else (none)) else (some false)))) else (none)) else (none)) else (none))) else (none))))))) = some r := h
 clear h
 replace H := Option.bind_eq_some_iff.mp H
 obtain ⟨t389, A20, H⟩ := H
 replace H : (if t389 = true then (some true) else ((spec_DrawDisk.f k l0).bind fun bt390 => ((impl_FlushDisk.f k bt390.1 bt390.2).bind fun bt396 => ((spec_DrawPlaces.f k l0).bind fun t403 => (if 0 < (t403.length : Int) then (if (bt396.1.length : Int) = 0 then (none) else (if 1 < (t403.length : Int) then (if 0 ≤ 32 then (if 32 ≤ 33 then ((impl_WriteSector.f bt396.1 bt396.2 (Int.tmod (rd t403 0) (bt396.1.length : Int)) ((⟨#[116, 104, 105, 114, 116, 121, 45, 116, 119, 111, 32, 98, 121, 116, 101, 115, 44, 32, 110, 111, 32, 109, 111, 114, 101, 32, 111, 114, 32, 108, 101, 115, 115]⟩ : ByteArray).extract 0 32)).bind fun bt408 => ((impl_CrashDisk.f k bt408.1 bt408.2.1 (([1] : List Int)) (Int.tmod (rd t403 1) 33)).bind fun bt419 => (if bt408.2.2 = true then (if 0 ≤ (Int.tmod (rd t403 0) (bt396.1.length : Int)) then (if (Int.tmod (rd t403 0) (bt396.1.length : Int)) < (bt419.1.length : Int) then (if 0 ≤ (Int.tmod (rd t403 1) 33) then (if (Int.tmod (rd t403 1) 33) ≤ (((⟨#[116, 104, 105, 114, 116, 121, 45, 116, 119, 111, 32, 98, 121, 116, 101, 115, 44, 32, 110, 111, 32, 109, 111, 114, 101, 32, 111, 114, 32, 108, 101, 115, 115]⟩ : ByteArray).extract 0 32).size : Int) then (if (Int.tmod (rd t403 0) (bt396.1.length : Int)) < (bt396.1.length : Int) then (if (Int.tmod (rd t403 1) 33) ≤ ((rdOf ByteArray.empty bt396.1 (Int.tmod (rd t403 0) (bt396.1.length : Int))).size : Int) then (if (((⟨#[116, 104, 105, 114, 116, 121, 45, 116, 119, 111, 32, 98, 121, 116, 101, 115, 44, 32, 110, 111, 32, 109, 111, 114, 101, 32, 111, 114, 32, 108, 101, 115, 115]⟩ : ByteArray).extract 0 32).extract 0 ((Int.tmod (rd t403 1) 33) : Int).toNat).size + ((rdOf ByteArray.empty bt396.1 (Int.tmod (rd t403 0) (bt396.1.length : Int))).extract ((Int.tmod (rd t403 1) 33) : Int).toNat (rdOf ByteArray.empty bt396.1 (Int.tmod (rd t403 0) (bt396.1.length : Int))).size).size ≤ 9223372036854775807 then (if (rdOf ByteArray.empty bt419.1 (Int.tmod (rd t403 0) (bt396.1.length : Int))).toList = ((((⟨#[116, 104, 105, 114, 116, 121, 45, 116, 119, 111, 32, 98, 121, 116, 101, 115, 44, 32, 110, 111, 32, 109, 111, 114, 101, 32, 111, 114, 32, 108, 101, 115, 115]⟩ : ByteArray).extract 0 32).extract 0 ((Int.tmod (rd t403 1) 33) : Int).toNat) ++ ((rdOf ByteArray.empty bt396.1 (Int.tmod (rd t403 0) (bt396.1.length : Int))).extract ((Int.tmod (rd t403 1) 33) : Int).toNat (rdOf ByteArray.empty bt396.1 (Int.tmod (rd t403 0) (bt396.1.length : Int))).size)).toList then ((impl_DiskOk.f bt419.1 bt419.2).bind fun t428 => (some t428)) else (some false)) else (none)) else (none)) else (none)) else (none)) else (none)) else (none)) else (none)) else (some false)))) else (none)) else (none)) else (none))) else (none)))))) = some r := H
 have A2 := Aside0.mk A20
 clear A20
 by_cases c3 : t389 = true
 ·subst c3
  have H1 : (some true) = some r := by rw [if_pos rfl] at H; exact H
  clear H
  have H := H1
  clear H1
  obtain rfl := Option.some.inj H
  go_enter Try.func4, Try.ntmps4
  go_wp2_with (first | ((with_reducible refine gate_callee (f := 9) rfl ?_); refine goesL_ (some 12) rfl rfl Try.func9 (by kernel_rfl) rfl #[.slice A0 l0.length c0] rfl (by (try simp only [List.map_toArray, List.map_cons, List.map_nil]); first | done | rfl | (simp only [List.length_drop, List.length_take]; rfl)) ?_; (with_reducible refine (laws_big.calls _ _ l0 true _ ?side1 ?side2 A2.out).mono ?_); (case side1 => repeat (first | exact HR0.out | (with_reducible refine Kd.C_alloc ?_ _) | (with_reducible refine Kd.C_drewN ?_ _) | (with_reducible refine Kd.C_drew ?_))); (case side2 => exact HC0.out); rintro e w' ⟨rfl, ⟨nd, rfl⟩⟩; refine ⟨_, rfl, ?_⟩))
  go_ret
  exact ⟨by first | rfl | (simp [errW_none, errW_some] <;> rfl) | (simp [*, errW_none, errW_some] <;> rfl), by exact lG HB⟩
 ·replace c3 := Bool.eq_false_iff.mpr c3
  subst c3
  have H1 : ((spec_DrawDisk.f k l0).bind fun bt390 => ((impl_FlushDisk.f k bt390.1 bt390.2).bind fun bt396 => ((spec_DrawPlaces.f k l0).bind fun t403 => (if 0 < (t403.length : Int) then (if (bt396.1.length : Int) = 0 then (none) else (if 1 < (t403.length : Int) then (if 0 ≤ 32 then (if 32 ≤ 33 then ((impl_WriteSector.f bt396.1 bt396.2 (Int.tmod (rd t403 0) (bt396.1.length : Int)) ((⟨#[116, 104, 105, 114, 116, 121, 45, 116, 119, 111, 32, 98, 121, 116, 101, 115, 44, 32, 110, 111, 32, 109, 111, 114, 101, 32, 111, 114, 32, 108, 101, 115, 115]⟩ : ByteArray).extract 0 32)).bind fun bt408 => ((impl_CrashDisk.f k bt408.1 bt408.2.1 (([1] : List Int)) (Int.tmod (rd t403 1) 33)).bind fun bt419 => (if bt408.2.2 = true then (if 0 ≤ (Int.tmod (rd t403 0) (bt396.1.length : Int)) then (if (Int.tmod (rd t403 0) (bt396.1.length : Int)) < (bt419.1.length : Int) then (if 0 ≤ (Int.tmod (rd t403 1) 33) then (if (Int.tmod (rd t403 1) 33) ≤ (((⟨#[116, 104, 105, 114, 116, 121, 45, 116, 119, 111, 32, 98, 121, 116, 101, 115, 44, 32, 110, 111, 32, 109, 111, 114, 101, 32, 111, 114, 32, 108, 101, 115, 115]⟩ : ByteArray).extract 0 32).size : Int) then (if (Int.tmod (rd t403 0) (bt396.1.length : Int)) < (bt396.1.length : Int) then (if (Int.tmod (rd t403 1) 33) ≤ ((rdOf ByteArray.empty bt396.1 (Int.tmod (rd t403 0) (bt396.1.length : Int))).size : Int) then (if (((⟨#[116, 104, 105, 114, 116, 121, 45, 116, 119, 111, 32, 98, 121, 116, 101, 115, 44, 32, 110, 111, 32, 109, 111, 114, 101, 32, 111, 114, 32, 108, 101, 115, 115]⟩ : ByteArray).extract 0 32).extract 0 ((Int.tmod (rd t403 1) 33) : Int).toNat).size + ((rdOf ByteArray.empty bt396.1 (Int.tmod (rd t403 0) (bt396.1.length : Int))).extract ((Int.tmod (rd t403 1) 33) : Int).toNat (rdOf ByteArray.empty bt396.1 (Int.tmod (rd t403 0) (bt396.1.length : Int))).size).size ≤ 9223372036854775807 then (if (rdOf ByteArray.empty bt419.1 (Int.tmod (rd t403 0) (bt396.1.length : Int))).toList = ((((⟨#[116, 104, 105, 114, 116, 121, 45, 116, 119, 111, 32, 98, 121, 116, 101, 115, 44, 32, 110, 111, 32, 109, 111, 114, 101, 32, 111, 114, 32, 108, 101, 115, 115]⟩ : ByteArray).extract 0 32).extract 0 ((Int.tmod (rd t403 1) 33) : Int).toNat) ++ ((rdOf ByteArray.empty bt396.1 (Int.tmod (rd t403 0) (bt396.1.length : Int))).extract ((Int.tmod (rd t403 1) 33) : Int).toNat (rdOf ByteArray.empty bt396.1 (Int.tmod (rd t403 0) (bt396.1.length : Int))).size)).toList then ((impl_DiskOk.f bt419.1 bt419.2).bind fun t428 => (some t428)) else (some false)) else (none)) else (none)) else (none)) else (none)) else (none)) else (none)) else (none)) else (some false)))) else (none)) else (none)) else (none))) else (none))))) = some r := by rw [if_neg (show ¬ (false = true) by decide)] at H; exact H
  clear H
  have H := H1
  clear H1
  replace H := Option.bind_eq_some_iff.mp H
  obtain ⟨⟨t390, t393⟩, A40, H⟩ := H
  replace H : ((impl_FlushDisk.f k t390 t393).bind fun bt396 => ((spec_DrawPlaces.f k l0).bind fun t403 => (if 0 < (t403.length : Int) then (if (bt396.1.length : Int) = 0 then (none) else (if 1 < (t403.length : Int) then (if 0 ≤ 32 then (if 32 ≤ 33 then ((impl_WriteSector.f bt396.1 bt396.2 (Int.tmod (rd t403 0) (bt396.1.length : Int)) ((⟨#[116, 104, 105, 114, 116, 121, 45, 116, 119, 111, 32, 98, 121, 116, 101, 115, 44, 32, 110, 111, 32, 109, 111, 114, 101, 32, 111, 114, 32, 108, 101, 115, 115]⟩ : ByteArray).extract 0 32)).bind fun bt408 => ((impl_CrashDisk.f k bt408.1 bt408.2.1 (([1] : List Int)) (Int.tmod (rd t403 1) 33)).bind fun bt419 => (if bt408.2.2 = true then (if 0 ≤ (Int.tmod (rd t403 0) (bt396.1.length : Int)) then (if (Int.tmod (rd t403 0) (bt396.1.length : Int)) < (bt419.1.length : Int) then (if 0 ≤ (Int.tmod (rd t403 1) 33) then (if (Int.tmod (rd t403 1) 33) ≤ (((⟨#[116, 104, 105, 114, 116, 121, 45, 116, 119, 111, 32, 98, 121, 116, 101, 115, 44, 32, 110, 111, 32, 109, 111, 114, 101, 32, 111, 114, 32, 108, 101, 115, 115]⟩ : ByteArray).extract 0 32).size : Int) then (if (Int.tmod (rd t403 0) (bt396.1.length : Int)) < (bt396.1.length : Int) then (if (Int.tmod (rd t403 1) 33) ≤ ((rdOf ByteArray.empty bt396.1 (Int.tmod (rd t403 0) (bt396.1.length : Int))).size : Int) then (if (((⟨#[116, 104, 105, 114, 116, 121, 45, 116, 119, 111, 32, 98, 121, 116, 101, 115, 44, 32, 110, 111, 32, 109, 111, 114, 101, 32, 111, 114, 32, 108, 101, 115, 115]⟩ : ByteArray).extract 0 32).extract 0 ((Int.tmod (rd t403 1) 33) : Int).toNat).size + ((rdOf ByteArray.empty bt396.1 (Int.tmod (rd t403 0) (bt396.1.length : Int))).extract ((Int.tmod (rd t403 1) 33) : Int).toNat (rdOf ByteArray.empty bt396.1 (Int.tmod (rd t403 0) (bt396.1.length : Int))).size).size ≤ 9223372036854775807 then (if (rdOf ByteArray.empty bt419.1 (Int.tmod (rd t403 0) (bt396.1.length : Int))).toList = ((((⟨#[116, 104, 105, 114, 116, 121, 45, 116, 119, 111, 32, 98, 121, 116, 101, 115, 44, 32, 110, 111, 32, 109, 111, 114, 101, 32, 111, 114, 32, 108, 101, 115, 115]⟩ : ByteArray).extract 0 32).extract 0 ((Int.tmod (rd t403 1) 33) : Int).toNat) ++ ((rdOf ByteArray.empty bt396.1 (Int.tmod (rd t403 0) (bt396.1.length : Int))).extract ((Int.tmod (rd t403 1) 33) : Int).toNat (rdOf ByteArray.empty bt396.1 (Int.tmod (rd t403 0) (bt396.1.length : Int))).size)).toList then ((impl_DiskOk.f bt419.1 bt419.2).bind fun t428 => (some t428)) else (some false)) else (none)) else (none)) else (none)) else (none)) else (none)) else (none)) else (none)) else (some false)))) else (none)) else (none)) else (none))) else (none)))) = some r := H
  have A4 := Aside0.mk A40
  clear A40
  replace H := Option.bind_eq_some_iff.mp H
  obtain ⟨⟨t396, t399⟩, A50, H⟩ := H
  replace H : ((spec_DrawPlaces.f k l0).bind fun t403 => (if 0 < (t403.length : Int) then (if (t396.length : Int) = 0 then (none) else (if 1 < (t403.length : Int) then (if 0 ≤ 32 then (if 32 ≤ 33 then ((impl_WriteSector.f t396 t399 (Int.tmod (rd t403 0) (t396.length : Int)) ((⟨#[116, 104, 105, 114, 116, 121, 45, 116, 119, 111, 32, 98, 121, 116, 101, 115, 44, 32, 110, 111, 32, 109, 111, 114, 101, 32, 111, 114, 32, 108, 101, 115, 115]⟩ : ByteArray).extract 0 32)).bind fun bt408 => ((impl_CrashDisk.f k bt408.1 bt408.2.1 (([1] : List Int)) (Int.tmod (rd t403 1) 33)).bind fun bt419 => (if bt408.2.2 = true then (if 0 ≤ (Int.tmod (rd t403 0) (t396.length : Int)) then (if (Int.tmod (rd t403 0) (t396.length : Int)) < (bt419.1.length : Int) then (if 0 ≤ (Int.tmod (rd t403 1) 33) then (if (Int.tmod (rd t403 1) 33) ≤ (((⟨#[116, 104, 105, 114, 116, 121, 45, 116, 119, 111, 32, 98, 121, 116, 101, 115, 44, 32, 110, 111, 32, 109, 111, 114, 101, 32, 111, 114, 32, 108, 101, 115, 115]⟩ : ByteArray).extract 0 32).size : Int) then (if (Int.tmod (rd t403 0) (t396.length : Int)) < (t396.length : Int) then (if (Int.tmod (rd t403 1) 33) ≤ ((rdOf ByteArray.empty t396 (Int.tmod (rd t403 0) (t396.length : Int))).size : Int) then (if (((⟨#[116, 104, 105, 114, 116, 121, 45, 116, 119, 111, 32, 98, 121, 116, 101, 115, 44, 32, 110, 111, 32, 109, 111, 114, 101, 32, 111, 114, 32, 108, 101, 115, 115]⟩ : ByteArray).extract 0 32).extract 0 ((Int.tmod (rd t403 1) 33) : Int).toNat).size + ((rdOf ByteArray.empty t396 (Int.tmod (rd t403 0) (t396.length : Int))).extract ((Int.tmod (rd t403 1) 33) : Int).toNat (rdOf ByteArray.empty t396 (Int.tmod (rd t403 0) (t396.length : Int))).size).size ≤ 9223372036854775807 then (if (rdOf ByteArray.empty bt419.1 (Int.tmod (rd t403 0) (t396.length : Int))).toList = ((((⟨#[116, 104, 105, 114, 116, 121, 45, 116, 119, 111, 32, 98, 121, 116, 101, 115, 44, 32, 110, 111, 32, 109, 111, 114, 101, 32, 111, 114, 32, 108, 101, 115, 115]⟩ : ByteArray).extract 0 32).extract 0 ((Int.tmod (rd t403 1) 33) : Int).toNat) ++ ((rdOf ByteArray.empty t396 (Int.tmod (rd t403 0) (t396.length : Int))).extract ((Int.tmod (rd t403 1) 33) : Int).toNat (rdOf ByteArray.empty t396 (Int.tmod (rd t403 0) (t396.length : Int))).size)).toList then ((impl_DiskOk.f bt419.1 bt419.2).bind fun t428 => (some t428)) else (some false)) else (none)) else (none)) else (none)) else (none)) else (none)) else (none)) else (none)) else (some false)))) else (none)) else (none)) else (none))) else (none))) = some r := H
  have A5 := Aside0.mk A50
  clear A50
  replace H := Option.bind_eq_some_iff.mp H
  obtain ⟨t403, A60, H⟩ := H
  replace H : (if 0 < (t403.length : Int) then (if (t396.length : Int) = 0 then (none) else (if 1 < (t403.length : Int) then (if 0 ≤ 32 then (if 32 ≤ 33 then ((impl_WriteSector.f t396 t399 (Int.tmod (rd t403 0) (t396.length : Int)) ((⟨#[116, 104, 105, 114, 116, 121, 45, 116, 119, 111, 32, 98, 121, 116, 101, 115, 44, 32, 110, 111, 32, 109, 111, 114, 101, 32, 111, 114, 32, 108, 101, 115, 115]⟩ : ByteArray).extract 0 32)).bind fun bt408 => ((impl_CrashDisk.f k bt408.1 bt408.2.1 (([1] : List Int)) (Int.tmod (rd t403 1) 33)).bind fun bt419 => (if bt408.2.2 = true then (if 0 ≤ (Int.tmod (rd t403 0) (t396.length : Int)) then (if (Int.tmod (rd t403 0) (t396.length : Int)) < (bt419.1.length : Int) then (if 0 ≤ (Int.tmod (rd t403 1) 33) then (if (Int.tmod (rd t403 1) 33) ≤ (((⟨#[116, 104, 105, 114, 116, 121, 45, 116, 119, 111, 32, 98, 121, 116, 101, 115, 44, 32, 110, 111, 32, 109, 111, 114, 101, 32, 111, 114, 32, 108, 101, 115, 115]⟩ : ByteArray).extract 0 32).size : Int) then (if (Int.tmod (rd t403 0) (t396.length : Int)) < (t396.length : Int) then (if (Int.tmod (rd t403 1) 33) ≤ ((rdOf ByteArray.empty t396 (Int.tmod (rd t403 0) (t396.length : Int))).size : Int) then (if (((⟨#[116, 104, 105, 114, 116, 121, 45, 116, 119, 111, 32, 98, 121, 116, 101, 115, 44, 32, 110, 111, 32, 109, 111, 114, 101, 32, 111, 114, 32, 108, 101, 115, 115]⟩ : ByteArray).extract 0 32).extract 0 ((Int.tmod (rd t403 1) 33) : Int).toNat).size + ((rdOf ByteArray.empty t396 (Int.tmod (rd t403 0) (t396.length : Int))).extract ((Int.tmod (rd t403 1) 33) : Int).toNat (rdOf ByteArray.empty t396 (Int.tmod (rd t403 0) (t396.length : Int))).size).size ≤ 9223372036854775807 then (if (rdOf ByteArray.empty bt419.1 (Int.tmod (rd t403 0) (t396.length : Int))).toList = ((((⟨#[116, 104, 105, 114, 116, 121, 45, 116, 119, 111, 32, 98, 121, 116, 101, 115, 44, 32, 110, 111, 32, 109, 111, 114, 101, 32, 111, 114, 32, 108, 101, 115, 115]⟩ : ByteArray).extract 0 32).extract 0 ((Int.tmod (rd t403 1) 33) : Int).toNat) ++ ((rdOf ByteArray.empty t396 (Int.tmod (rd t403 0) (t396.length : Int))).extract ((Int.tmod (rd t403 1) 33) : Int).toNat (rdOf ByteArray.empty t396 (Int.tmod (rd t403 0) (t396.length : Int))).size)).toList then ((impl_DiskOk.f bt419.1 bt419.2).bind fun t428 => (some t428)) else (some false)) else (none)) else (none)) else (none)) else (none)) else (none)) else (none)) else (none)) else (some false)))) else (none)) else (none)) else (none))) else (none)) = some r := H
  have A6 := Aside0.mk A60
  clear A60
  by_cases c7 : 0 < (t403.length : Int)
  ·rw [if_pos c7] at H
   have c7b0 : decide (0 < (t403.length : Int)) = true := decide_eq_true c7
   have c7b1 : decide (0 < t403.length) = true := decide_eq_true (by omega)
   clear c7
   by_cases c8 : (t396.length : Int) = 0
   ·rw [if_pos c8] at H
    exact absurd H (by simp)
   ·rw [if_neg c8] at H
    have c8b0 : ((t396.length : Int) == 0) = false := beq_eq_false_iff_ne.mpr c8
    have c8b1 : ((t396.length : Int) != 0) = true := bne_iff_ne.mpr c8
    have c8b2 : ¬ (t396 = []) := fun h_ => c8 (by rw [h_]; rfl)
    by_cases c9 : 1 < (t403.length : Int)
    ·rw [if_pos c9] at H
     have c9b0 : decide (1 < (t403.length : Int)) = true := decide_eq_true c9
     have c9b1 : decide (1 < t403.length) = true := decide_eq_true (by omega)
     clear c9
     by_cases c10 : 0 ≤ 32
     ·rw [if_pos c10] at H
      have c10b0 := eq_true c10
      have c10b1 : decide (0 ≤ 32) = true := decide_eq_true c10
      clear c10
      by_cases c11 : 32 ≤ 33
      ·rw [if_pos c11] at H
       have c11b0 := eq_true c11
       have c11b1 : decide (32 ≤ 33) = true := decide_eq_true c11
       clear c11
       replace H := Option.bind_eq_some_iff.mp H
       obtain ⟨⟨t408, t411, t414⟩, A120, H⟩ := H
       replace H : ((impl_CrashDisk.f k t408 t411 (([1] : List Int)) (Int.tmod (rd t403 1) 33)).bind fun bt419 => (if t414 = true then (if 0 ≤ (Int.tmod (rd t403 0) (t396.length : Int)) then (if (Int.tmod (rd t403 0) (t396.length : Int)) < (bt419.1.length : Int) then (if 0 ≤ (Int.tmod (rd t403 1) 33) then (if (Int.tmod (rd t403 1) 33) ≤ (((⟨#[116, 104, 105, 114, 116, 121, 45, 116, 119, 111, 32, 98, 121, 116, 101, 115, 44, 32, 110, 111, 32, 109, 111, 114, 101, 32, 111, 114, 32, 108, 101, 115, 115]⟩ : ByteArray).extract 0 32).size : Int) then (if (Int.tmod (rd t403 0) (t396.length : Int)) < (t396.length : Int) then (if (Int.tmod (rd t403 1) 33) ≤ ((rdOf ByteArray.empty t396 (Int.tmod (rd t403 0) (t396.length : Int))).size : Int) then (if (((⟨#[116, 104, 105, 114, 116, 121, 45, 116, 119, 111, 32, 98, 121, 116, 101, 115, 44, 32, 110, 111, 32, 109, 111, 114, 101, 32, 111, 114, 32, 108, 101, 115, 115]⟩ : ByteArray).extract 0 32).extract 0 ((Int.tmod (rd t403 1) 33) : Int).toNat).size + ((rdOf ByteArray.empty t396 (Int.tmod (rd t403 0) (t396.length : Int))).extract ((Int.tmod (rd t403 1) 33) : Int).toNat (rdOf ByteArray.empty t396 (Int.tmod (rd t403 0) (t396.length : Int))).size).size ≤ 9223372036854775807 then (if (rdOf ByteArray.empty bt419.1 (Int.tmod (rd t403 0) (t396.length : Int))).toList = ((((⟨#[116, 104, 105, 114, 116, 121, 45, 116, 119, 111, 32, 98, 121, 116, 101, 115, 44, 32, 110, 111, 32, 109, 111, 114, 101, 32, 111, 114, 32, 108, 101, 115, 115]⟩ : ByteArray).extract 0 32).extract 0 ((Int.tmod (rd t403 1) 33) : Int).toNat) ++ ((rdOf ByteArray.empty t396 (Int.tmod (rd t403 0) (t396.length : Int))).extract ((Int.tmod (rd t403 1) 33) : Int).toNat (rdOf ByteArray.empty t396 (Int.tmod (rd t403 0) (t396.length : Int))).size)).toList then ((impl_DiskOk.f bt419.1 bt419.2).bind fun t428 => (some t428)) else (some false)) else (none)) else (none)) else (none)) else (none)) else (none)) else (none)) else (none)) else (some false))) = some r := H
       have A12 := Aside0.mk A120
       clear A120
       obtain ⟨y416, hy416⟩ : ∃ y_ : List Int, y_ = (([1] : List Int)) := ⟨_, rfl⟩
       replace H : ((impl_CrashDisk.f k t408 t411 y416 (Int.tmod (rd t403 1) 33)).bind fun bt419 => (if t414 = true then (if 0 ≤ (Int.tmod (rd t403 0) (t396.length : Int)) then (if (Int.tmod (rd t403 0) (t396.length : Int)) < (bt419.1.length : Int) then (if 0 ≤ (Int.tmod (rd t403 1) 33) then (if (Int.tmod (rd t403 1) 33) ≤ (((⟨#[116, 104, 105, 114, 116, 121, 45, 116, 119, 111, 32, 98, 121, 116, 101, 115, 44, 32, 110, 111, 32, 109, 111, 114, 101, 32, 111, 114, 32, 108, 101, 115, 115]⟩ : ByteArray).extract 0 32).size : Int) then (if (Int.tmod (rd t403 0) (t396.length : Int)) < (t396.length : Int) then (if (Int.tmod (rd t403 1) 33) ≤ ((rdOf ByteArray.empty t396 (Int.tmod (rd t403 0) (t396.length : Int))).size : Int) then (if (((⟨#[116, 104, 105, 114, 116, 121, 45, 116, 119, 111, 32, 98, 121, 116, 101, 115, 44, 32, 110, 111, 32, 109, 111, 114, 101, 32, 111, 114, 32, 108, 101, 115, 115]⟩ : ByteArray).extract 0 32).extract 0 ((Int.tmod (rd t403 1) 33) : Int).toNat).size + ((rdOf ByteArray.empty t396 (Int.tmod (rd t403 0) (t396.length : Int))).extract ((Int.tmod (rd t403 1) 33) : Int).toNat (rdOf ByteArray.empty t396 (Int.tmod (rd t403 0) (t396.length : Int))).size).size ≤ 9223372036854775807 then (if (rdOf ByteArray.empty bt419.1 (Int.tmod (rd t403 0) (t396.length : Int))).toList = ((((⟨#[116, 104, 105, 114, 116, 121, 45, 116, 119, 111, 32, 98, 121, 116, 101, 115, 44, 32, 110, 111, 32, 109, 111, 114, 101, 32, 111, 114, 32, 108, 101, 115, 115]⟩ : ByteArray).extract 0 32).extract 0 ((Int.tmod (rd t403 1) 33) : Int).toNat) ++ ((rdOf ByteArray.empty t396 (Int.tmod (rd t403 0) (t396.length : Int))).extract ((Int.tmod (rd t403 1) 33) : Int).toNat (rdOf ByteArray.empty t396 (Int.tmod (rd t403 0) (t396.length : Int))).size)).toList then ((impl_DiskOk.f bt419.1 bt419.2).bind fun t428 => (some t428)) else (some false)) else (none)) else (none)) else (none)) else (none)) else (none)) else (none)) else (none)) else (some false))) = some r := by first | (rw [hy416]; with_reducible exact H) | (have H2_ := (Option.bind_some _ _).symm.trans H; rw [hy416]; with_reducible exact H2_) | (have H2_ := (Option.bind_some _ _).symm.trans H; with_reducible exact H2_) | with_reducible exact H | (rw [hy416]; exact H) | exact H
       have Ny416 := Aside0.mk hy416
       clear hy416
       replace H := Option.bind_eq_some_iff.mp H
       obtain ⟨⟨t419, t422⟩, A130, H⟩ := H
       replace H : (if t414 = true then (if 0 ≤ (Int.tmod (rd t403 0) (t396.length : Int)) then (if (Int.tmod (rd t403 0) (t396.length : Int)) < (t419.length : Int) then (if 0 ≤ (Int.tmod (rd t403 1) 33) then (if (Int.tmod (rd t403 1) 33) ≤ (((⟨#[116, 104, 105, 114, 116, 121, 45, 116, 119, 111, 32, 98, 121, 116, 101, 115, 44, 32, 110, 111, 32, 109, 111, 114, 101, 32, 111, 114, 32, 108, 101, 115, 115]⟩ : ByteArray).extract 0 32).size : Int) then (if (Int.tmod (rd t403 0) (t396.length : Int)) < (t396.length : Int) then (if (Int.tmod (rd t403 1) 33) ≤ ((rdOf ByteArray.empty t396 (Int.tmod (rd t403 0) (t396.length : Int))).size : Int) then (if (((⟨#[116, 104, 105, 114, 116, 121, 45, 116, 119, 111, 32, 98, 121, 116, 101, 115, 44, 32, 110, 111, 32, 109, 111, 114, 101, 32, 111, 114, 32, 108, 101, 115, 115]⟩ : ByteArray).extract 0 32).extract 0 ((Int.tmod (rd t403 1) 33) : Int).toNat).size + ((rdOf ByteArray.empty t396 (Int.tmod (rd t403 0) (t396.length : Int))).extract ((Int.tmod (rd t403 1) 33) : Int).toNat (rdOf ByteArray.empty t396 (Int.tmod (rd t403 0) (t396.length : Int))).size).size ≤ 9223372036854775807 then (if (rdOf ByteArray.empty t419 (Int.tmod (rd t403 0) (t396.length : Int))).toList = ((((⟨#[116, 104, 105, 114, 116, 121, 45, 116, 119, 111, 32, 98, 121, 116, 101, 115, 44, 32, 110, 111, 32, 109, 111, 114, 101, 32, 111, 114, 32, 108, 101, 115, 115]⟩ : ByteArray).extract 0 32).extract 0 ((Int.tmod (rd t403 1) 33) : Int).toNat) ++ ((rdOf ByteArray.empty t396 (Int.tmod (rd t403 0) (t396.length : Int))).extract ((Int.tmod (rd t403 1) 33) : Int).toNat (rdOf ByteArray.empty t396 (Int.tmod (rd t403 0) (t396.length : Int))).size)).toList then ((impl_DiskOk.f t419 t422).bind fun t428 => (some t428)) else (some false)) else (none)) else (none)) else (none)) else (none)) else (none)) else (none)) else (none)) else (some false)) = some r := H
       have A13 := Aside0.mk A130
       clear A130
       by_cases c14 : t414 = true
       ·subst c14
        have H1 : (if 0 ≤ (Int.tmod (rd t403 0) (t396.length : Int)) then (if (Int.tmod (rd t403 0) (t396.length : Int)) < (t419.length : Int) then (if 0 ≤ (Int.tmod (rd t403 1) 33) then (if (Int.tmod (rd t403 1) 33) ≤ (((⟨#[116, 104, 105, 114, 116, 121, 45, 116, 119, 111, 32, 98, 121, 116, 101, 115, 44, 32, 110, 111, 32, 109, 111, 114, 101, 32, 111, 114, 32, 108, 101, 115, 115]⟩ : ByteArray).extract 0 32).size : Int) then (if (Int.tmod (rd t403 0) (t396.length : Int)) < (t396.length : Int) then (if (Int.tmod (rd t403 1) 33) ≤ ((rdOf ByteArray.empty t396 (Int.tmod (rd t403 0) (t396.length : Int))).size : Int) then (if (((⟨#[116, 104, 105, 114, 116, 121, 45, 116, 119, 111, 32, 98, 121, 116, 101, 115, 44, 32, 110, 111, 32, 109, 111, 114, 101, 32, 111, 114, 32, 108, 101, 115, 115]⟩ : ByteArray).extract 0 32).extract 0 ((Int.tmod (rd t403 1) 33) : Int).toNat).size + ((rdOf ByteArray.empty t396 (Int.tmod (rd t403 0) (t396.length : Int))).extract ((Int.tmod (rd t403 1) 33) : Int).toNat (rdOf ByteArray.empty t396 (Int.tmod (rd t403 0) (t396.length : Int))).size).size ≤ 9223372036854775807 then (if (rdOf ByteArray.empty t419 (Int.tmod (rd t403 0) (t396.length : Int))).toList = ((((⟨#[116, 104, 105, 114, 116, 121, 45, 116, 119, 111, 32, 98, 121, 116, 101, 115, 44, 32, 110, 111, 32, 109, 111, 114, 101, 32, 111, 114, 32, 108, 101, 115, 115]⟩ : ByteArray).extract 0 32).extract 0 ((Int.tmod (rd t403 1) 33) : Int).toNat) ++ ((rdOf ByteArray.empty t396 (Int.tmod (rd t403 0) (t396.length : Int))).extract ((Int.tmod (rd t403 1) 33) : Int).toNat (rdOf ByteArray.empty t396 (Int.tmod (rd t403 0) (t396.length : Int))).size)).toList then ((impl_DiskOk.f t419 t422).bind fun t428 => (some t428)) else (some false)) else (none)) else (none)) else (none)) else (none)) else (none)) else (none)) else (none)) = some r := by rw [if_pos rfl] at H; exact H
        clear H
        have H := H1
        clear H1
        obtain ⟨ji15, hji15⟩ : ∃ j_ : Int, (Int.tmod (rd t403 0) (t396.length : Int)) = j_ := ⟨_, rfl⟩
        replace H : (if 0 ≤ (ji15) then (if (ji15) < (t419.length : Int) then (if 0 ≤ (Int.tmod (rd t403 1) 33) then (if (Int.tmod (rd t403 1) 33) ≤ (((⟨#[116, 104, 105, 114, 116, 121, 45, 116, 119, 111, 32, 98, 121, 116, 101, 115, 44, 32, 110, 111, 32, 109, 111, 114, 101, 32, 111, 114, 32, 108, 101, 115, 115]⟩ : ByteArray).extract 0 32).size : Int) then (if (ji15) < (t396.length : Int) then (if (Int.tmod (rd t403 1) 33) ≤ ((rdOf ByteArray.empty t396 (ji15)).size : Int) then (if (((⟨#[116, 104, 105, 114, 116, 121, 45, 116, 119, 111, 32, 98, 121, 116, 101, 115, 44, 32, 110, 111, 32, 109, 111, 114, 101, 32, 111, 114, 32, 108, 101, 115, 115]⟩ : ByteArray).extract 0 32).extract 0 ((Int.tmod (rd t403 1) 33) : Int).toNat).size + ((rdOf ByteArray.empty t396 (ji15)).extract ((Int.tmod (rd t403 1) 33) : Int).toNat (rdOf ByteArray.empty t396 (ji15)).size).size ≤ 9223372036854775807 then (if (rdOf ByteArray.empty t419 (ji15)).toList = ((((⟨#[116, 104, 105, 114, 116, 121, 45, 116, 119, 111, 32, 98, 121, 116, 101, 115, 44, 32, 110, 111, 32, 109, 111, 114, 101, 32, 111, 114, 32, 108, 101, 115, 115]⟩ : ByteArray).extract 0 32).extract 0 ((Int.tmod (rd t403 1) 33) : Int).toNat) ++ ((rdOf ByteArray.empty t396 (ji15)).extract ((Int.tmod (rd t403 1) 33) : Int).toNat (rdOf ByteArray.empty t396 (ji15)).size)).toList then ((impl_DiskOk.f t419 t422).bind fun t428 => (some t428)) else (some false)) else (none)) else (none)) else (none)) else (none)) else (none)) else (none)) else (none)) = some r := by first | (rw [hji15] at H; exact H) | (simp only [hji15] at H ⊢; exact H)
        (try rw [hji15] at A2)
        (try rw [hji15] at A4)
        (try rw [hji15] at A5)
        (try rw [hji15] at A6)
        (try rw [hji15] at A12)
        (try rw [hji15] at A13)
        by_cases c16 : 0 ≤ (ji15)
        ·rw [if_pos c16] at H
         have c16b0 : decide (0 ≤ (ji15)) = true := decide_eq_true c16
         clear c16
         by_cases c17 : (ji15) < (t419.length : Int)
         ·rw [if_pos c17] at H
          have c17b0 : decide ((ji15) < (t419.length : Int)) = true := decide_eq_true c17
          clear c17
          obtain ⟨ji18, hji18⟩ : ∃ j_ : Int, (Int.tmod (rd t403 1) 33) = j_ := ⟨_, rfl⟩
          replace H : (if 0 ≤ (ji18) then (if (ji18) ≤ (((⟨#[116, 104, 105, 114, 116, 121, 45, 116, 119, 111, 32, 98, 121, 116, 101, 115, 44, 32, 110, 111, 32, 109, 111, 114, 101, 32, 111, 114, 32, 108, 101, 115, 115]⟩ : ByteArray).extract 0 32).size : Int) then (if (ji15) < (t396.length : Int) then (if (ji18) ≤ ((rdOf ByteArray.empty t396 (ji15)).size : Int) then (if (((⟨#[116, 104, 105, 114, 116, 121, 45, 116, 119, 111, 32, 98, 121, 116, 101, 115, 44, 32, 110, 111, 32, 109, 111, 114, 101, 32, 111, 114, 32, 108, 101, 115, 115]⟩ : ByteArray).extract 0 32).extract 0 ((ji18) : Int).toNat).size + ((rdOf ByteArray.empty t396 (ji15)).extract ((ji18) : Int).toNat (rdOf ByteArray.empty t396 (ji15)).size).size ≤ 9223372036854775807 then (if (rdOf ByteArray.empty t419 (ji15)).toList = ((((⟨#[116, 104, 105, 114, 116, 121, 45, 116, 119, 111, 32, 98, 121, 116, 101, 115, 44, 32, 110, 111, 32, 109, 111, 114, 101, 32, 111, 114, 32, 108, 101, 115, 115]⟩ : ByteArray).extract 0 32).extract 0 ((ji18) : Int).toNat) ++ ((rdOf ByteArray.empty t396 (ji15)).extract ((ji18) : Int).toNat (rdOf ByteArray.empty t396 (ji15)).size)).toList then ((impl_DiskOk.f t419 t422).bind fun t428 => (some t428)) else (some false)) else (none)) else (none)) else (none)) else (none)) else (none)) = some r := by first | (rw [hji18] at H; exact H) | (simp only [hji18] at H ⊢; exact H)
          (try rw [hji18] at A2)
          (try rw [hji18] at A4)
          (try rw [hji18] at A5)
          (try rw [hji18] at A6)
          (try rw [hji18] at A12)
          (try rw [hji18] at A13)
          by_cases c19 : 0 ≤ (ji18)
          ·rw [if_pos c19] at H
           have c19b0 := eq_true c19
           have c19b1 : decide (0 ≤ (ji18)) = true := decide_eq_true c19
           clear c19
           by_cases c20 : (ji18) ≤ (((⟨#[116, 104, 105, 114, 116, 121, 45, 116, 119, 111, 32, 98, 121, 116, 101, 115, 44, 32, 110, 111, 32, 109, 111, 114, 101, 32, 111, 114, 32, 108, 101, 115, 115]⟩ : ByteArray).extract 0 32).size : Int)
           ·rw [if_pos c20] at H
            have c20b0 := eq_true c20
            have c20b1 : decide ((ji18) ≤ (((⟨#[116, 104, 105, 114, 116, 121, 45, 116, 119, 111, 32, 98, 121, 116, 101, 115, 44, 32, 110, 111, 32, 109, 111, 114, 101, 32, 111, 114, 32, 108, 101, 115, 115]⟩ : ByteArray).extract 0 32).size : Int)) = true := decide_eq_true c20
            try have c20b6 : ((ji18) ≤ 32) = True := eq_true (by have l0_ : (⟨#[116, 104, 105, 114, 116, 121, 45, 116, 119, 111, 32, 98, 121, 116, 101, 115, 44, 32, 110, 111, 32, 109, 111, 114, 101, 32, 111, 114, 32, 108, 101, 115, 115]⟩ : ByteArray).size = 33 := rfl; have h_ := of_eq_true c20b0; simp only [ByteArray.size_append, ByteArray.size_extract] at h_; omega)
            clear c20
            by_cases c21 : (ji15) < (t396.length : Int)
            ·rw [if_pos c21] at H
             have c21b0 : decide ((ji15) < (t396.length : Int)) = true := decide_eq_true c21
             clear c21
             have c22b0 := eq_true (of_decide_eq_true (by first | (with_reducible assumption) | assumption) : 0 ≤ (ji18))
             by_cases c23 : (ji18) ≤ ((rdOf ByteArray.empty t396 (ji15)).size : Int)
             ·rw [if_pos c23] at H
              have c23b0 := eq_true c23
              have c23b1 : decide ((ji18) ≤ ((rdOf ByteArray.empty t396 (ji15)).size : Int)) = true := decide_eq_true c23
              clear c23
              by_cases c24 : (((⟨#[116, 104, 105, 114, 116, 121, 45, 116, 119, 111, 32, 98, 121, 116, 101, 115, 44, 32, 110, 111, 32, 109, 111, 114, 101, 32, 111, 114, 32, 108, 101, 115, 115]⟩ : ByteArray).extract 0 32).extract 0 ((ji18) : Int).toNat).size + ((rdOf ByteArray.empty t396 (ji15)).extract ((ji18) : Int).toNat (rdOf ByteArray.empty t396 (ji15)).size).size ≤ 9223372036854775807
              ·rw [if_pos c24] at H
               have c24b0 := eq_true c24
               have c24b1 : decide ((((⟨#[116, 104, 105, 114, 116, 121, 45, 116, 119, 111, 32, 98, 121, 116, 101, 115, 44, 32, 110, 111, 32, 109, 111, 114, 101, 32, 111, 114, 32, 108, 101, 115, 115]⟩ : ByteArray).extract 0 32).extract 0 ((ji18) : Int).toNat).size + ((rdOf ByteArray.empty t396 (ji15)).extract ((ji18) : Int).toNat (rdOf ByteArray.empty t396 (ji15)).size).size ≤ 9223372036854775807) = true := decide_eq_true c24
               try have c24b2 : (9223372036854775807 < (((⟨#[116, 104, 105, 114, 116, 121, 45, 116, 119, 111, 32, 98, 121, 116, 101, 115, 44, 32, 110, 111, 32, 109, 111, 114, 101, 32, 111, 114, 32, 108, 101, 115, 115]⟩ : ByteArray).extract 0 32).extract 0 ((ji18) : Int).toNat).size + ((rdOf ByteArray.empty t396 (ji15)).extract ((ji18) : Int).toNat (rdOf ByteArray.empty t396 (ji15)).size).size) = False := eq_false (Nat.not_lt.2 c24)
               try have c24b9 : (9223372036854775807 < ((ji18) : Int).toNat + ((rdOf ByteArray.empty t396 (ji15)).size - ((ji18) : Int).toNat)) = False := eq_false (by have l0_ : (⟨#[116, 104, 105, 114, 116, 121, 45, 116, 119, 111, 32, 98, 121, 116, 101, 115, 44, 32, 110, 111, 32, 109, 111, 114, 101, 32, 111, 114, 32, 108, 101, 115, 115]⟩ : ByteArray).size = 33 := rfl; have h_ := c24; (try have h7_ := of_eq_true c7b0); (try have g7_ := of_decide_eq_true c7b0); (try have h9_ := of_eq_true c9b0); (try have g9_ := of_decide_eq_true c9b0); (try have h10_ := of_eq_true c10b0); (try have g10_ := of_decide_eq_true c10b0); (try have h11_ := of_eq_true c11b0); (try have g11_ := of_decide_eq_true c11b0); (try have h16_ := of_eq_true c16b0); (try have g16_ := of_decide_eq_true c16b0); (try have h17_ := of_eq_true c17b0); (try have g17_ := of_decide_eq_true c17b0); (try have h19_ := of_eq_true c19b0); (try have g19_ := of_decide_eq_true c19b0); (try have h20_ := of_eq_true c20b0); (try have g20_ := of_decide_eq_true c20b0); (try simp only [ByteArray.size_extract, ByteArray.size_append] at h20_); (try have h21_ := of_eq_true c21b0); (try have g21_ := of_decide_eq_true c21b0); (try have h23_ := of_eq_true c23b0); (try have g23_ := of_decide_eq_true c23b0); simp only [ByteArray.size_extract, ByteArray.size_append] at h_; omega)
               try have c24b7 : (9223372036854775807 < min ((ji18) : Int).toNat ((⟨#[116, 104, 105, 114, 116, 121, 45, 116, 119, 111, 32, 98, 121, 116, 101, 115, 44, 32, 110, 111, 32, 109, 111, 114, 101, 32, 111, 114, 32, 108, 101, 115, 115]⟩ : ByteArray).extract 0 32).size + ((rdOf ByteArray.empty t396 (ji15)).size - ((ji18) : Int).toNat)) = False := eq_false (by have l0_ : (⟨#[116, 104, 105, 114, 116, 121, 45, 116, 119, 111, 32, 98, 121, 116, 101, 115, 44, 32, 110, 111, 32, 109, 111, 114, 101, 32, 111, 114, 32, 108, 101, 115, 115]⟩ : ByteArray).size = 33 := rfl; have h_ := c24; (try have h7_ := of_eq_true c7b0); (try have g7_ := of_decide_eq_true c7b0); (try have h9_ := of_eq_true c9b0); (try have g9_ := of_decide_eq_true c9b0); (try have h10_ := of_eq_true c10b0); (try have g10_ := of_decide_eq_true c10b0); (try have h11_ := of_eq_true c11b0); (try have g11_ := of_decide_eq_true c11b0); (try have h16_ := of_eq_true c16b0); (try have g16_ := of_decide_eq_true c16b0); (try have h17_ := of_eq_true c17b0); (try have g17_ := of_decide_eq_true c17b0); (try have h19_ := of_eq_true c19b0); (try have g19_ := of_decide_eq_true c19b0); (try have h20_ := of_eq_true c20b0); (try have g20_ := of_decide_eq_true c20b0); (try simp only [ByteArray.size_extract, ByteArray.size_append] at h20_); (try have h21_ := of_eq_true c21b0); (try have g21_ := of_decide_eq_true c21b0); (try have h23_ := of_eq_true c23b0); (try have g23_ := of_decide_eq_true c23b0); simp only [ByteArray.size_extract, ByteArray.size_append] at h_; omega)
               try have c24b8 : (9223372036854775807 < (rdOf ByteArray.empty t396 (ji15)).size) = False := eq_false (by have l0_ : (⟨#[116, 104, 105, 114, 116, 121, 45, 116, 119, 111, 32, 98, 121, 116, 101, 115, 44, 32, 110, 111, 32, 109, 111, 114, 101, 32, 111, 114, 32, 108, 101, 115, 115]⟩ : ByteArray).size = 33 := rfl; have h_ := c24; (try have h7_ := of_eq_true c7b0); (try have g7_ := of_decide_eq_true c7b0); (try have h9_ := of_eq_true c9b0); (try have g9_ := of_decide_eq_true c9b0); (try have h10_ := of_eq_true c10b0); (try have g10_ := of_decide_eq_true c10b0); (try have h11_ := of_eq_true c11b0); (try have g11_ := of_decide_eq_true c11b0); (try have h16_ := of_eq_true c16b0); (try have g16_ := of_decide_eq_true c16b0); (try have h17_ := of_eq_true c17b0); (try have g17_ := of_decide_eq_true c17b0); (try have h19_ := of_eq_true c19b0); (try have g19_ := of_decide_eq_true c19b0); (try have h20_ := of_eq_true c20b0); (try have g20_ := of_decide_eq_true c20b0); (try simp only [ByteArray.size_extract, ByteArray.size_append] at h20_); (try have h21_ := of_eq_true c21b0); (try have g21_ := of_decide_eq_true c21b0); (try have h23_ := of_eq_true c23b0); (try have g23_ := of_decide_eq_true c23b0); simp only [ByteArray.size_extract, ByteArray.size_append] at h_; omega)
               try have c24b5 : (9223372036854775807 < ((ji18) : Int).toNat + ((rdOf ByteArray.empty t396 (ji15)).size - ((ji18) : Int).toNat)) = False := eq_false (by have l0_ : (⟨#[116, 104, 105, 114, 116, 121, 45, 116, 119, 111, 32, 98, 121, 116, 101, 115, 44, 32, 110, 111, 32, 109, 111, 114, 101, 32, 111, 114, 32, 108, 101, 115, 115]⟩ : ByteArray).size = 33 := rfl; have h_ := c24; (try have h7_ := of_eq_true c7b0); (try have g7_ := of_decide_eq_true c7b0); (try have h9_ := of_eq_true c9b0); (try have g9_ := of_decide_eq_true c9b0); (try have h10_ := of_eq_true c10b0); (try have g10_ := of_decide_eq_true c10b0); (try have h11_ := of_eq_true c11b0); (try have g11_ := of_decide_eq_true c11b0); (try have h16_ := of_eq_true c16b0); (try have g16_ := of_decide_eq_true c16b0); (try have h17_ := of_eq_true c17b0); (try have g17_ := of_decide_eq_true c17b0); (try have h19_ := of_eq_true c19b0); (try have g19_ := of_decide_eq_true c19b0); (try have h20_ := of_eq_true c20b0); (try have g20_ := of_decide_eq_true c20b0); (try simp only [ByteArray.size_extract, ByteArray.size_append] at h20_); (try have h21_ := of_eq_true c21b0); (try have g21_ := of_decide_eq_true c21b0); (try have h23_ := of_eq_true c23b0); (try have g23_ := of_decide_eq_true c23b0); simp only [ByteArray.size_extract, ByteArray.size_append] at h_; omega)
               by_cases c25 : (rdOf ByteArray.empty t419 (ji15)).toList = ((((⟨#[116, 104, 105, 114, 116, 121, 45, 116, 119, 111, 32, 98, 121, 116, 101, 115, 44, 32, 110, 111, 32, 109, 111, 114, 101, 32, 111, 114, 32, 108, 101, 115, 115]⟩ : ByteArray).extract 0 32).extract 0 ((ji18) : Int).toNat) ++ ((rdOf ByteArray.empty t396 (ji15)).extract ((ji18) : Int).toNat (rdOf ByteArray.empty t396 (ji15)).size)).toList
               ·rw [if_pos c25] at H
                have c25b0 : ((rdOf ByteArray.empty t419 (ji15)).toList == ((((⟨#[116, 104, 105, 114, 116, 121, 45, 116, 119, 111, 32, 98, 121, 116, 101, 115, 44, 32, 110, 111, 32, 109, 111, 114, 101, 32, 111, 114, 32, 108, 101, 115, 115]⟩ : ByteArray).extract 0 32).extract 0 ((ji18) : Int).toNat) ++ ((rdOf ByteArray.empty t396 (ji15)).extract ((ji18) : Int).toNat (rdOf ByteArray.empty t396 (ji15)).size)).toList) = true := beq_iff_eq.mpr c25
                have c25b1 : ((rdOf ByteArray.empty t419 (ji15)).toList != ((((⟨#[116, 104, 105, 114, 116, 121, 45, 116, 119, 111, 32, 98, 121, 116, 101, 115, 44, 32, 110, 111, 32, 109, 111, 114, 101, 32, 111, 114, 32, 108, 101, 115, 115]⟩ : ByteArray).extract 0 32).extract 0 ((ji18) : Int).toNat) ++ ((rdOf ByteArray.empty t396 (ji15)).extract ((ji18) : Int).toNat (rdOf ByteArray.empty t396 (ji15)).size)).toList) = false := bne_eq_false_iff_eq.mpr c25
                clear c25
                replace H := Option.bind_eq_some_iff.mp H
                obtain ⟨t428, A260, H⟩ := H
                replace H : (some t428) = some r := H
                have A26 := Aside0.mk A260
                clear A260
                obtain rfl := Option.some.inj H
                go_enter Try.func4, Try.ntmps4
                try go_wp2_with (first | ((with_reducible refine gate_callee (f := 9) rfl ?_); refine goesL_ (some 12) rfl rfl Try.func9 (by kernel_rfl) rfl #[.slice A0 l0.length c0] rfl (by (try simp only [List.map_toArray, List.map_cons, List.map_nil]); first | done | rfl | (simp only [List.length_drop, List.length_take]; rfl)) ?_; (with_reducible refine (laws_big.calls _ _ l0 false _ ?side1 ?side2 A2.out).mono ?_); (case side1 => repeat (first | exact HR0.out | (with_reducible refine Kd.C_alloc ?_ _) | (with_reducible refine Kd.C_drewN ?_ _) | (with_reducible refine Kd.C_drew ?_))); (case side2 => exact HC0.out); rintro e w' ⟨rfl, ⟨nd, rfl⟩⟩; refine ⟨_, rfl, ?_⟩) | ((with_reducible refine gate_callee (f := 10) rfl ?_); refine goesL_ (some 14) rfl rfl Try.func10 (by kernel_rfl) rfl #[.slice A0 l0.length c0] rfl (by (try simp only [List.map_toArray, List.map_cons, List.map_nil]); first | done | rfl | (simp only [List.length_drop, List.length_take]; rfl)) ?_; (with_reducible refine (spec_DrawDisk.calls k _ _ l0 t390 t393 _ ?side1 ?side2 A4.out).mono ?_); (case side1 => repeat (first | exact HR0.out | (with_reducible refine Kd.C_alloc ?_ _) | (with_reducible refine Kd.C_drewN ?_ _) | (with_reducible refine Kd.C_drew ?_))); (case side2 => exact HC0.out); rintro e w27 ⟨v391, v394, rfl, ho0, ho1, hb⟩; refine ⟨_, rfl, ?_⟩; replace HO392 := ak (Kd.R_lower ho0 (below_size (lG HB))); replace HO395 := ak (Kd.R_lower ho1 (below_size (lG HB))); replace HB := lB HB hb; (try clear hb); (try clear hb2); (try clear hk); (try clear hi); (try clear ho0); (try clear ho1); obtain ⟨Ao28, co28, eo28⟩ := Kd.R_slice HO392.out; subst eo28; obtain ⟨Ao29, co29, eo29⟩ := Kd.R_slice HO395.out; subst eo29) | ((with_reducible refine gate_callee (f := 13) rfl ?_); refine goesL_ (some 15) rfl rfl Try.func13 (by kernel_rfl) rfl #[.agg #[.slice Ao28 t390.length co28, .slice Ao29 t393.length co29]] rfl (by (try simp only [List.map_toArray, List.map_cons, List.map_nil]); first | done | rfl | (simp only [List.length_drop, List.length_take]; rfl)) ?_; (with_reducible refine (impl_FlushDisk.calls k _ _ t390 _ _ t393 t396 t399 _ ?side1 ?side2 ?side3 ?side4 A5.out).mono ?_); (case side1 => exact cG (Kd.R_reads' HO392.out).2.2); (case side2 => exact (Kd.R_reads' HO392.out).2.1); (case side3 => exact cG (Kd.R_reads' HO395.out).2.2); (case side4 => exact (Kd.R_reads' HO395.out).2.1); rintro e w30 ⟨v397, v400, rfl, ho0, ho1, hb⟩; refine ⟨_, rfl, ?_⟩; replace HO398 := ak (Kd.R_lower (Kd.R_new' ho0 (Kd.R_lt (rG HO392))) (below_size (lG HB))); replace HO392 := ak (Kd.R_elder' (rG HO392) (Kd.R_base ho0) hb); replace HO401 := ak (Kd.R_lower (Kd.R_new' ho1 (Kd.R_lt (rG HO395))) (below_size (lG HB))); replace HO395 := ak (Kd.R_elder' (rG HO395) (Kd.R_base ho1) hb); replace HB := lB HB hb; (try clear hb); (try clear hb2); (try clear hk); (try clear hi); (try clear ho0); (try clear ho1)) | ((with_reducible refine gate_dst (N := 3) rfl ?_); refine box_event ?hg (N := 3) ?hd (cs := #[.slice none 0 0, .slice none 0 0]) (t := 27) ?hr ?_; (case hd => rfl); (case hg => rfl); (case hr => first | (go_simp; done) | (go_simp; rfl)); intro gb402 hg w31 hbox hb; replace HO392 := rB HO392 hb; replace HO395 := rB HO395 hb; replace HO398 := rB HO398 hb; replace HO401 := rB HO401 hb; replace BK402 := ak (hbox); replace GW402 := ak ((by rw [hg]; exact (below_size (lG HB)) : w.heap.size ≤ gb402)); replace GE402 := ak ((by rw [hg]; exact (below_size (lG HB)) : w.heap.size ≤ gb402)); replace HB := lB HB hb; clear hb hbox hg; obtain ⟨Ao32, co32, eo32⟩ := Kd.R_slice HO398.out; subst eo32; obtain ⟨hcz33_0, hcz33_1, hfz33_0, hfz33_1⟩ := bC2 BK402; obtain ⟨Ao34, co34, eo34⟩ := Kd.R_slice HO401.out; subst eo34) | ((with_reducible refine gate_callee (f := 11) rfl ?_); refine goesL_ (some 17) rfl rfl Try.func11 (by kernel_rfl) rfl #[.slice A0 l0.length c0] rfl (by (try simp only [List.map_toArray, List.map_cons, List.map_nil]); first | done | rfl | (simp only [List.length_drop, List.length_take]; rfl)) ?_; (with_reducible refine (spec_DrawPlaces.calls k _ _ l0 t403 _ ?side1 ?side2 A6.out).mono ?_); (case side1 => exact Kd.C_below HR0.out (lT HB (gC GE402 gN))); (case side2 => exact HC0.out); rintro e w35 ⟨v404, rfl, ho0, hb⟩; refine ⟨_, rfl, ?_⟩; replace HO392 := ak (Kd.R_below (rT HO392 BK402 (by decide)) hb); replace HO395 := ak (Kd.R_below (rT HO395 BK402 (by decide)) hb); replace HO398 := ak (Kd.R_below (rT HO398 BK402 (by decide)) hb); replace HO401 := ak (Kd.R_below (rT HO401 BK402 (by decide)) hb); replace HO405 := ak (Kd.R_lower ho0 (below_size (lT HB (gC GE402 gN)))); replace BK402 := ak (blk_below (g := gb402) (o := .cells #[.slice Ao32 t396.length co32, .slice Ao34 t399.length co34] 27 (0, 0)) (by (with_reducible repeat (first | refine blk_drewN ?_ _ | refine blk_drew ?_ | refine blk_alloc ?_ _)); refine blk_put (cs := #[.slice Ao32 t396.length co32, .slice none 0 0]) ?_ 1 _ rfl; (with_reducible repeat (first | refine blk_drewN ?_ _ | refine blk_drew ?_ | refine blk_alloc ?_ _)); refine blk_put (cs := #[.slice none 0 0, .slice none 0 0]) ?_ 0 _ rfl; (with_reducible repeat (first | refine blk_drewN ?_ _ | refine blk_drew ?_ | refine blk_alloc ?_ _)); exact BK402.out) hb); replace HB := ak (below_step (lT HB (gC GE402 gN)) hb); (try clear hb); (try clear hb2); (try clear hk); (try clear hi); (try clear ho0)))
                replace HO392 := ak (Kd.R_drew HO392.out)
                replace HO395 := ak (Kd.R_drew HO395.out)
                replace HO398 := ak (Kd.R_drew HO398.out)
                replace HO401 := ak (Kd.R_drew HO401.out)
                replace HO405 := ak (Kd.R_drew HO405.out)
                replace BK402 := ak (blk_drew BK402.out)
                replace HB := ak (below_drew1 HB.out)
                obtain ⟨Ao37, co37, eo37⟩ := Kd.R_slice HO405.out
                (first | subst eo37 | (injection eo37 with f1_ f2_ f3_; have f4_ := f1_.symm; have f5_ := f3_.symm; clear f1_ f2_ f3_; subst f4_; subst f5_))
                have p406 : 0 ≤ (0 : Int) := (by omega)
                have q406 : 0 < (t403.length : Int) := of_decide_eq_true (by first | (with_reducible assumption) | assumption)
                obtain ⟨ad406, e406, hx406_0⟩ := Kd.at_int (Kd.R_reads' HO405.out).2.2 0 p406 q406
                cases e406
                have qi406 : (0 < t403.length) = True := eq_true (by omega)
                (try rw [show ((0 : Int)).toNat = 0 from rfl] at hx406_0)
                (try rw [Addr.add_zero'] at hx406_0)
                replace p406 := eq_true p406
                replace q406 := eq_true q406
                refine start_ (n := 8) (S := fun w' => w'.cell? ⟨gb402, 0, none⟩ = some (.slice Ao32 t396.length co32) ∧ w'.cell? ⟨gb402, 1, none⟩ = some (.slice Ao34 t399.length co34) ∧ w'.cell? ad406 = some (.int .i64 (rd t403 0))) (ds := []) #[f_,f_,f_,f_,f_,f_,f_,f_] (by kernel_rfl) rfl rfl ⟨(blk_cell BK402.out 0).trans rfl, (blk_cell BK402.out 1).trans rfl, hx406_0⟩ (fun hHeld => ?_); refine with_tabW laws_FnTorn.tab5 laws_FnTorn.bits5 (fun HT_ HW_ => ?_)
                generalize w35.drew = w36 at HO392 HO395 HO398 HO401 HO405 BK402 HB hx406_0 hHeld ⊢
                refine pure_ (i := 0) (N := some 18) (v := ?_) (a' := ?_) #[t_,f_,f_,f_,f_,f_,f_,f_] rfl rfl (any_of HT_.out (by kernel_rfl)) (fun _ _ _ h => h) (Or.inl ⟨by rfl, ?_⟩) ?_ ?_
                rotate_left
                ·intro w'
                 go_simp
                 with_reducible rfl
                rotate_left
                ·simp only [Act.put, List.setIfInBounds_toArray, List.set_cons_zero, List.set_cons_succ, i64_w, i32_w]
                 rfl
                refine pure_ (i := 1) (N := some 19) (v := ?_) (a' := ?_) #[t_,t_,f_,f_,f_,f_,f_,f_] rfl rfl (any_of HT_.out (by kernel_rfl)) (fun _ _ _ h => h) (Or.inl ⟨by rfl, ?_⟩) ?_ ?_
                rotate_left
                ·intro w'
                 go_simp
                 with_reducible rfl
                rotate_left
                ·simp only [Act.put, List.setIfInBounds_toArray, List.set_cons_zero, List.set_cons_succ, i64_w, i32_w]
                 rfl
                refine pure_ (i := 3) (N := some 21) (v := ?_) (a' := ?_) #[t_,t_,f_,t_,f_,f_,f_,f_] rfl rfl (any_of HT_.out (by kernel_rfl)) (fun _ _ _ h => h) (Or.inl ⟨by rfl, ?_⟩) ?_ ?_
                rotate_left
                ·intro w'
                 go_simp
                 with_reducible rfl
                rotate_left
                ·simp only [Act.put, List.setIfInBounds_toArray, List.set_cons_zero, List.set_cons_succ, i64_w, i32_w]
                 rfl
                refine take_ (i := 2) (N := some 20) (v := ?_) (a' := ?_) #[t_,t_,t_,t_,f_,f_,f_,f_] rfl rfl (take_ofW HT_.out HW_.out (by kernel_rfl)) (fun _ _ _ h => h) (Or.inl ⟨by rfl, ?_⟩) hHeld ?_ ?_
                rotate_left
                ·rintro w' ⟨s0, s1, s2⟩
                 go_simp
                 with_reducible rfl
                rotate_left
                ·simp only [Act.put, List.setIfInBounds_toArray, List.set_cons_zero, List.set_cons_succ, i64_w, i32_w]
                 rfl
                refine take_ (i := 4) (N := some 22) (v := ?_) (a' := ?_) #[t_,t_,t_,t_,t_,f_,f_,f_] rfl rfl (take_ofW HT_.out HW_.out (by kernel_rfl)) (fun _ _ _ h => h) (Or.inl ⟨by rfl, ?_⟩) hHeld ?_ ?_
                rotate_left
                ·rintro w' ⟨s0, s1, s2⟩
                 go_simp
                 with_reducible rfl
                rotate_left
                ·simp only [Act.put, List.setIfInBounds_toArray, List.set_cons_zero, List.set_cons_succ, i64_w, i32_w]
                 rfl
                refine pure_ (i := 5) (N := some 23) (v := ?_) (a' := ?_) #[t_,t_,t_,t_,t_,t_,f_,f_] rfl rfl (any_of HT_.out (by kernel_rfl)) (fun _ _ _ h => h) (Or.inl ⟨by rfl, ?_⟩) ?_ ?_
                rotate_left
                ·intro w'
                 go_simp
                 with_reducible rfl
                rotate_left
                ·simp only [Act.put, List.setIfInBounds_toArray, List.set_cons_zero, List.set_cons_succ, i64_w, i32_w]
                 rfl
                refine pure_ (i := 6) (N := some 24) (v := ?_) (a' := ?_) #[t_,t_,t_,t_,t_,t_,t_,f_] rfl rfl (any_of HT_.out (by kernel_rfl)) (fun _ _ _ h => h) (Or.inl ⟨by rfl, ?_⟩) ?_ ?_
                rotate_left
                ·intro w'
                 go_simp
                 with_reducible rfl
                rotate_left
                ·simp only [Act.put, List.setIfInBounds_toArray, List.set_cons_zero, List.set_cons_succ, i64_w, i32_w]
                 rfl
                refine pure_ (i := 7) (N := some 5) (v := ?_) (a' := ?_) #[t_,t_,t_,t_,t_,t_,t_,t_] rfl rfl (any_of HT_.out (by kernel_rfl)) (fun _ _ _ h => h) (Or.inl ⟨by rfl, ?_⟩) ?_ ?_
                rotate_left
                ·intro w'
                 go_simp
                 with_reducible rfl
                rotate_left
                ·simp only [Act.put, List.setIfInBounds_toArray, List.set_cons_zero, List.set_cons_succ, i64_w, i32_w]
                 rfl
                refine done_ (done_of HT_.out (by kernel_rfl)) ?_
                have p407 : 0 ≤ (1 : Int) := (by omega)
                have q407 : 1 < (t403.length : Int) := of_decide_eq_true (by first | (with_reducible assumption) | assumption)
                obtain ⟨ad407, e407, hx407_0⟩ := Kd.at_int (Kd.R_reads' HO405.out).2.2 1 p407 q407
                obtain rfl : ad406 = ad407 := (by injection e407)
                (try simp only [show (1 : Int).toNat = 1 from rfl, Nat.reduceMul, Nat.reduceEqDiff, Go.Addr.add, ↓reduceIte] at hx407_0)
                have qi407 : (1 < t403.length) = True := eq_true (by omega)
                (try rw [show ((1 : Int)).toNat = 1 from rfl] at hx407_0)
                replace p407 := eq_true p407
                replace q407 := eq_true q407
                have hcz38_0 : w36.cell? ⟨gb402, 0, none⟩ = some (.slice Ao32 t396.length co32) := (blk_cell BK402.out 0).trans rfl
                have hcz38_1 : w36.cell? ⟨gb402, 1, none⟩ = some (.slice Ao34 t399.length co34) := (blk_cell BK402.out 1).trans rfl
                have hfz38_0 := blk_frozen BK402.out 0
                have hfz38_1 := blk_frozen BK402.out 1
                try go_wp2_with (first | ((with_reducible refine gate_callee (f := 12) rfl ?_); refine goesL_ (some 34) rfl rfl Try.func12 (by kernel_rfl) rfl #[.agg #[.slice Ao32 t396.length co32, .slice Ao34 t399.length co34], .int .i64 ji15, .string ((⟨#[116, 104, 105, 114, 116, 121, 45, 116, 119, 111, 32, 98, 121, 116, 101, 115, 44, 32, 110, 111, 32, 109, 111, 114, 101, 32, 111, 114, 32, 108, 101, 115, 115]⟩ : ByteArray).extract 0 32)] rfl (by (try simp only [List.map_toArray, List.map_cons, List.map_nil]); first | done | (simp only [hji15]; rfl) | rfl | (simp only [List.length_drop, List.length_take]; rfl)) ?_; (with_reducible refine (impl_WriteSector.calls _ _ t396 _ _ t399 ji15 ((⟨#[116, 104, 105, 114, 116, 121, 45, 116, 119, 111, 32, 98, 121, 116, 101, 115, 44, 32, 110, 111, 32, 109, 111, 114, 101, 32, 111, 114, 32, 108, 101, 115, 115]⟩ : ByteArray).extract 0 32) t408 t411 true _ ?side1 ?side2 ?side3 ?side4 A12.out).mono ?_); (case side1 => exact cG (Kd.R_reads' HO398.out).2.2); (case side2 => exact (Kd.R_reads' HO398.out).2.1); (case side3 => exact cG (Kd.R_reads' HO401.out).2.2); (case side4 => exact (Kd.R_reads' HO401.out).2.1); rintro e w39 ⟨v409, v412, rfl, ho0, ho1, hb⟩; refine ⟨_, rfl, ?_⟩; replace HO405 := rB HO405 hb; replace HO410 := ak (Kd.R_lower (Kd.R_new' (Kd.R_new' ho0 (Kd.R_lt (rG HO392))) (Kd.R_lt (rG HO398))) (below_size (lT HB (gC GE402 gN)))); replace HO392 := ak (Kd.R_elder' (rG HO392) (Kd.R_base ho0) hb); replace HO398 := ak (Kd.R_elder' (rG HO398) (Kd.R_base ho0) hb); replace HO413 := ak (Kd.R_lower (Kd.R_new' (Kd.R_new' ho1 (Kd.R_lt (rG HO395))) (Kd.R_lt (rG HO401))) (below_size (lT HB (gC GE402 gN)))); replace HO395 := ak (Kd.R_elder' (rG HO395) (Kd.R_base ho1) hb); replace HO401 := ak (Kd.R_elder' (rG HO401) (Kd.R_base ho1) hb); replace BK402 := bB BK402 hb; replace HB := ak (below_step (lT HB (gC GE402 gN)) hb); (try clear hb); (try clear hb2); (try clear hk); (try clear hi); (try clear ho0); (try clear ho1)) | ((with_reducible refine gate_dst (N := 8) rfl ?_); refine box_event ?hg (N := 8) ?hd (cs := #[.slice none 0 0, .slice none 0 0]) (t := 27) ?hr ?_; (case hd => rfl); (case hg => rfl); (case hr => first | (go_simp; done) | (go_simp; rfl)); intro gb415 hg w40 hbox hb; replace HO392 := rB HO392 hb; replace HO395 := rB HO395 hb; replace HO398 := rB HO398 hb; replace HO401 := rB HO401 hb; replace HO405 := rB HO405 hb; replace HO410 := rB HO410 hb; replace HO413 := rB HO413 hb; replace BK415 := ak (hbox); replace GW415 := ak ((by rw [hg]; exact (below_size (lT HB (gC GE402 gN))) : w.heap.size ≤ gb415)); replace GE415 := ak ((by rw [hg]; exact (below_size (lT HB (gC GE402 gN))) : w.heap.size ≤ gb415)); replace HB := ak (below_step (lT HB (gC GE402 gN)) hb); replace NB402_415 := ak ((by rw [hg]; exact Nat.ne_of_lt (blk_lt (bG BK402)) : gb402 ≠ gb415)); replace NB415_402 := ak ((by rw [hg]; exact Nat.ne_of_gt (blk_lt (bG BK402)) : gb415 ≠ gb402)); replace BK402 := bB BK402 hb; clear hb hbox hg; obtain ⟨Ao41, co41, eo41⟩ := Kd.R_slice HO410.out; subst eo41; have hnb42 := NB415_402.out; have hnc42 := NB402_415.out; obtain ⟨hcz43_0, hcz43_1, hfz43_0, hfz43_1⟩ := bC2 BK415; obtain ⟨Ao44, co44, eo44⟩ := Kd.R_slice HO413.out; subst eo44) | ((with_reducible refine gate_dst (N := 38) rfl ?_); refine Kd.R_lit (Kd.int .i64) _ 3 ?hg (N := 38) ?hd (xs := ([1] : List Int)) (inner := [.int .i64 1]) (ok := fun _ => True) (okp := fun _ => True) ?hr ?hp (fun _ hk => hk) trivial (Below.refl _ _) (Nat.le_refl _) (by simp) ?_; (case hd => rfl); (case hg => rfl); (case hr => first | (go_simp; done) | (go_simp; rfl)); (case hp => exact (Reps.one (show Kd.M (Kd.int .i64) _ _ _ 1 [.int .i64 1] from rfl) (Reps.none _ _))); intro v417 w45 ho46 hb hg_ hnew_; clear hg_ hnew_; (first | rw [← Ny416.out] at ho46 | (simp only [Int.reduceToNat] at ho46; rw [← Ny416.out] at ho46)); replace HO392 := ak (Kd.R_below (rT HO392 BK415 (by decide)) hb); replace HO395 := ak (Kd.R_below (rT HO395 BK415 (by decide)) hb); replace HO398 := ak (Kd.R_below (rT HO398 BK415 (by decide)) hb); replace HO401 := ak (Kd.R_below (rT HO401 BK415 (by decide)) hb); replace HO410 := ak (Kd.R_below (rT HO410 BK415 (by decide)) hb); replace HO413 := ak (Kd.R_below (rT HO413 BK415 (by decide)) hb); replace HO418 := ak (Kd.R_lower (Kd.R_new' ho46 (Kd.R_lt (rT HO405 BK415 (by decide)))) (below_size (lT HB (gC GE402 (gC GE415 gN))))); replace HO405 := ak (Kd.R_elder' (rT HO405 BK415 (by decide)) (Kd.R_base ho46) hb); replace BK402 := ak (blk_below (bT BK402 (nC NB402_415 nN)) hb); replace BK415 := ak (blk_below (g := gb415) (o := .cells #[.slice Ao41 t408.length co41, .slice Ao44 t411.length co44] 27 (0, 0)) (by (with_reducible repeat (first | refine blk_drewN ?_ _ | refine blk_drew ?_ | refine blk_alloc ?_ _)); refine blk_put (cs := #[.slice Ao41 t408.length co41, .slice none 0 0]) ?_ 1 _ rfl; (with_reducible repeat (first | refine blk_drewN ?_ _ | refine blk_drew ?_ | refine blk_alloc ?_ _)); refine blk_put (cs := #[.slice none 0 0, .slice none 0 0]) ?_ 0 _ rfl; (with_reducible repeat (first | refine blk_drewN ?_ _ | refine blk_drew ?_ | refine blk_alloc ?_ _)); exact BK415.out) hb); replace HB := ak (below_step (lT HB (gC GE402 (gC GE415 gN))) hb); clear hb ho46; obtain ⟨Ao47, co47, eo47⟩ := Kd.R_slice HO418.out; subst eo47) | ((with_reducible refine gate_callee (f := 17) rfl ?_); refine goesL_ (some 40) rfl rfl Try.func17 (by kernel_rfl) rfl #[.agg #[.slice Ao41 t408.length co41, .slice Ao44 t411.length co44], .slice Ao47 y416.length co47, .int .i64 ji18] rfl (by (try simp only [List.map_toArray, List.map_cons, List.map_nil]); first | done | (simp only [hji18]; rfl) | rfl | (simp only [List.length_drop, List.length_take]; rfl)) ?_; (with_reducible refine (impl_CrashDisk.calls k _ _ t408 _ _ t411 _ _ y416 ji18 t419 t422 _ ?side1 ?side2 ?side3 ?side4 ?side5 ?side6 A13.out).mono ?_); (case side1 => exact cG (Kd.R_reads' HO410.out).2.2); (case side2 => exact (Kd.R_reads' HO410.out).2.1); (case side3 => exact cG (Kd.R_reads' HO413.out).2.2); (case side4 => exact (Kd.R_reads' HO413.out).2.1); (case side5 => exact cG (Kd.R_reads' HO418.out).2.2); (case side6 => exact (Kd.R_reads' HO418.out).2.1); rintro e w48 ⟨v420, v423, rfl, ho0, ho1, hb⟩; refine ⟨_, rfl, ?_⟩; replace HO405 := rB HO405 hb; replace HO418 := rB HO418 hb; replace HO421 := ak (Kd.R_lower (Kd.R_new' (Kd.R_new' (Kd.R_new' ho0 (Kd.R_lt (rG HO392))) (Kd.R_lt (rG HO398))) (Kd.R_lt (rG HO410))) (below_size (lT HB (gC GE402 (gC GE415 gN))))); replace HO392 := ak (Kd.R_elder' (rG HO392) (Kd.R_base ho0) hb); replace HO398 := ak (Kd.R_elder' (rG HO398) (Kd.R_base ho0) hb); replace HO410 := ak (Kd.R_elder' (rG HO410) (Kd.R_base ho0) hb); replace HO424 := ak (Kd.R_lower (Kd.R_new' (Kd.R_new' (Kd.R_new' ho1 (Kd.R_lt (rG HO395))) (Kd.R_lt (rG HO401))) (Kd.R_lt (rG HO413))) (below_size (lT HB (gC GE402 (gC GE415 gN))))); replace HO395 := ak (Kd.R_elder' (rG HO395) (Kd.R_base ho1) hb); replace HO401 := ak (Kd.R_elder' (rG HO401) (Kd.R_base ho1) hb); replace HO413 := ak (Kd.R_elder' (rG HO413) (Kd.R_base ho1) hb); replace BK402 := bB BK402 hb; replace BK415 := bB BK415 hb; replace HB := ak (below_step (lT HB (gC GE402 (gC GE415 gN))) hb); (try clear hb); (try clear hb2); (try clear hk); (try clear hi); (try clear ho0); (try clear ho1)) | ((with_reducible refine gate_dst (N := 10) rfl ?_); refine box_event ?hg (N := 10) ?hd (cs := #[.slice none 0 0, .slice none 0 0]) (t := 27) ?hr ?_; (case hd => rfl); (case hg => rfl); (case hr => first | (go_simp; done) | (go_simp; rfl)); intro gb425 hg w49 hbox hb; replace HO392 := rB HO392 hb; replace HO395 := rB HO395 hb; replace HO398 := rB HO398 hb; replace HO401 := rB HO401 hb; replace HO405 := rB HO405 hb; replace HO410 := rB HO410 hb; replace HO413 := rB HO413 hb; replace HO418 := rB HO418 hb; replace HO421 := rB HO421 hb; replace HO424 := rB HO424 hb; replace BK425 := ak (hbox); replace GW425 := ak ((by rw [hg]; exact (below_size (lT HB (gC GE402 (gC GE415 gN)))) : w.heap.size ≤ gb425)); replace GE425 := ak ((by rw [hg]; exact (below_size (lT HB (gC GE402 (gC GE415 gN)))) : w.heap.size ≤ gb425)); replace HB := ak (below_step (lT HB (gC GE402 (gC GE415 gN))) hb); replace NB402_425 := ak ((by rw [hg]; exact Nat.ne_of_lt (blk_lt (bG BK402)) : gb402 ≠ gb425)); replace NB425_402 := ak ((by rw [hg]; exact Nat.ne_of_gt (blk_lt (bG BK402)) : gb425 ≠ gb402)); replace BK402 := bB BK402 hb; replace NB415_425 := ak ((by rw [hg]; exact Nat.ne_of_lt (blk_lt (bG BK415)) : gb415 ≠ gb425)); replace NB425_415 := ak ((by rw [hg]; exact Nat.ne_of_gt (blk_lt (bG BK415)) : gb425 ≠ gb415)); replace BK415 := bB BK415 hb; clear hb hbox hg; obtain ⟨Ao50, co50, eo50⟩ := Kd.R_slice HO421.out; subst eo50; have hnb51 := NB425_402.out; have hnc51 := NB402_425.out; have hnb52 := NB425_415.out; have hnc52 := NB415_425.out; obtain ⟨hcz53_0, hcz53_1, hfz53_0, hfz53_1⟩ := bC2 BK425; obtain ⟨Ao54, co54, eo54⟩ := Kd.R_slice HO424.out; subst eo54))
                have n0_ : Aside0 (Kd.R Kd.string 9 ((w49.setCell ⟨gb425, 0, none⟩ (.slice Ao50 t419.length co50)).setCell ⟨gb425, 1, none⟩ (.slice Ao54 t422.length co54)) w.heap.size (fun k_ => some k_ ≠ (.slice Ao32 t396.length co32 : Value).ownBlock ∧ some k_ ≠ (.slice Ao41 t408.length co41 : Value).ownBlock ∧ some k_ ≠ (.slice Ao50 t419.length co50 : Value).ownBlock) (.slice Ao28 t390.length co28) t390) := ⟨by (with_reducible repeat (first | apply Kd.R_alloc | apply Kd.R_drewN | apply Kd.R_drew)); exact Kd.R_mono (Kd.R_far (p := ⟨gb425, 1, none⟩) (Kd.R_far (p := ⟨gb425, 0, none⟩) (Kd.R_types HO392.out BK425.out (by decide)) (fun _ hk => hk.2) (.slice Ao50 t419.length co50)) (fun _ hk => hk.2) (.slice Ao54 t422.length co54)) (fun _ hk => ⟨hk.1.1.1.2, ⟨hk.1.1.2, hk.1.2⟩⟩)⟩
                have n1_ : Aside0 (Kd.R k63 63 ((w49.setCell ⟨gb425, 0, none⟩ (.slice Ao50 t419.length co50)).setCell ⟨gb425, 1, none⟩ (.slice Ao54 t422.length co54)) w.heap.size (fun k_ => some k_ ≠ (.slice Ao34 t399.length co34 : Value).ownBlock ∧ some k_ ≠ (.slice Ao44 t411.length co44 : Value).ownBlock ∧ some k_ ≠ (.slice Ao54 t422.length co54 : Value).ownBlock) (.slice Ao29 t393.length co29) t393) := ⟨by (with_reducible repeat (first | apply Kd.R_alloc | apply Kd.R_drewN | apply Kd.R_drew)); exact Kd.R_mono (Kd.R_far (p := ⟨gb425, 1, none⟩) (Kd.R_far (p := ⟨gb425, 0, none⟩) (Kd.R_types HO395.out BK425.out (by decide)) (fun _ hk => hk.2) (.slice Ao50 t419.length co50)) (fun _ hk => hk.2) (.slice Ao54 t422.length co54)) (fun _ hk => ⟨hk.1.1.1.2, ⟨hk.1.1.2, hk.1.2⟩⟩)⟩
                have n2_ : Aside0 (Kd.R Kd.string 9 ((w49.setCell ⟨gb425, 0, none⟩ (.slice Ao50 t419.length co50)).setCell ⟨gb425, 1, none⟩ (.slice Ao54 t422.length co54)) w.heap.size (fun k_ => some k_ ≠ (.slice Ao28 t390.length co28 : Value).ownBlock ∧ some k_ ≠ (.slice Ao41 t408.length co41 : Value).ownBlock ∧ some k_ ≠ (.slice Ao50 t419.length co50 : Value).ownBlock) (.slice Ao32 t396.length co32) t396) := ⟨by (with_reducible repeat (first | apply Kd.R_alloc | apply Kd.R_drewN | apply Kd.R_drew)); exact Kd.R_mono (Kd.R_far (p := ⟨gb425, 1, none⟩) (Kd.R_far (p := ⟨gb425, 0, none⟩) (Kd.R_types HO398.out BK425.out (by decide)) (fun _ hk => hk.2) (.slice Ao50 t419.length co50)) (fun _ hk => hk.2) (.slice Ao54 t422.length co54)) (fun _ hk => ⟨hk.1.1.1.2, ⟨hk.1.1.2, hk.1.2⟩⟩)⟩
                have n3_ : Aside0 (Kd.R k63 63 ((w49.setCell ⟨gb425, 0, none⟩ (.slice Ao50 t419.length co50)).setCell ⟨gb425, 1, none⟩ (.slice Ao54 t422.length co54)) w.heap.size (fun k_ => some k_ ≠ (.slice Ao29 t393.length co29 : Value).ownBlock ∧ some k_ ≠ (.slice Ao44 t411.length co44 : Value).ownBlock ∧ some k_ ≠ (.slice Ao54 t422.length co54 : Value).ownBlock) (.slice Ao34 t399.length co34) t399) := ⟨by (with_reducible repeat (first | apply Kd.R_alloc | apply Kd.R_drewN | apply Kd.R_drew)); exact Kd.R_mono (Kd.R_far (p := ⟨gb425, 1, none⟩) (Kd.R_far (p := ⟨gb425, 0, none⟩) (Kd.R_types HO401.out BK425.out (by decide)) (fun _ hk => hk.2) (.slice Ao50 t419.length co50)) (fun _ hk => hk.2) (.slice Ao54 t422.length co54)) (fun _ hk => ⟨hk.1.1.1.2, ⟨hk.1.1.2, hk.1.2⟩⟩)⟩
                have n4_ : Aside0 (Kd.R (Kd.int .i64) 3 ((w49.setCell ⟨gb425, 0, none⟩ (.slice Ao50 t419.length co50)).setCell ⟨gb425, 1, none⟩ (.slice Ao54 t422.length co54)) w.heap.size (fun k_ => some k_ ≠ (.slice Ao47 y416.length co47 : Value).ownBlock) (.slice (some ad406) t403.length co37) t403) := ⟨by (with_reducible repeat (first | apply Kd.R_alloc | apply Kd.R_drewN | apply Kd.R_drew)); exact Kd.R_mono (Kd.R_far (p := ⟨gb425, 1, none⟩) (Kd.R_far (p := ⟨gb425, 0, none⟩) (Kd.R_types HO405.out BK425.out (by decide)) (fun _ hk => hk.2) (.slice Ao50 t419.length co50)) (fun _ hk => hk.2) (.slice Ao54 t422.length co54)) (fun _ hk => hk.1.2)⟩
                have n5_ : Aside0 (Kd.R Kd.string 9 ((w49.setCell ⟨gb425, 0, none⟩ (.slice Ao50 t419.length co50)).setCell ⟨gb425, 1, none⟩ (.slice Ao54 t422.length co54)) w.heap.size (fun k_ => some k_ ≠ (.slice Ao28 t390.length co28 : Value).ownBlock ∧ some k_ ≠ (.slice Ao32 t396.length co32 : Value).ownBlock ∧ some k_ ≠ (.slice Ao50 t419.length co50 : Value).ownBlock) (.slice Ao41 t408.length co41) t408) := ⟨by (with_reducible repeat (first | apply Kd.R_alloc | apply Kd.R_drewN | apply Kd.R_drew)); exact Kd.R_mono (Kd.R_far (p := ⟨gb425, 1, none⟩) (Kd.R_far (p := ⟨gb425, 0, none⟩) (Kd.R_types HO410.out BK425.out (by decide)) (fun _ hk => hk.2) (.slice Ao50 t419.length co50)) (fun _ hk => hk.2) (.slice Ao54 t422.length co54)) (fun _ hk => ⟨hk.1.1.1.2, ⟨hk.1.1.2, hk.1.2⟩⟩)⟩
                have n6_ : Aside0 (Kd.R k63 63 ((w49.setCell ⟨gb425, 0, none⟩ (.slice Ao50 t419.length co50)).setCell ⟨gb425, 1, none⟩ (.slice Ao54 t422.length co54)) w.heap.size (fun k_ => some k_ ≠ (.slice Ao29 t393.length co29 : Value).ownBlock ∧ some k_ ≠ (.slice Ao34 t399.length co34 : Value).ownBlock ∧ some k_ ≠ (.slice Ao54 t422.length co54 : Value).ownBlock) (.slice Ao44 t411.length co44) t411) := ⟨by (with_reducible repeat (first | apply Kd.R_alloc | apply Kd.R_drewN | apply Kd.R_drew)); exact Kd.R_mono (Kd.R_far (p := ⟨gb425, 1, none⟩) (Kd.R_far (p := ⟨gb425, 0, none⟩) (Kd.R_types HO413.out BK425.out (by decide)) (fun _ hk => hk.2) (.slice Ao50 t419.length co50)) (fun _ hk => hk.2) (.slice Ao54 t422.length co54)) (fun _ hk => ⟨hk.1.1.1.2, ⟨hk.1.1.2, hk.1.2⟩⟩)⟩
                have n7_ : Aside0 (Kd.R (Kd.int .i64) 3 ((w49.setCell ⟨gb425, 0, none⟩ (.slice Ao50 t419.length co50)).setCell ⟨gb425, 1, none⟩ (.slice Ao54 t422.length co54)) w.heap.size (fun k_ => some k_ ≠ (.slice (some ad406) t403.length co37 : Value).ownBlock) (.slice Ao47 y416.length co47) y416) := ⟨by (with_reducible repeat (first | apply Kd.R_alloc | apply Kd.R_drewN | apply Kd.R_drew)); exact Kd.R_mono (Kd.R_far (p := ⟨gb425, 1, none⟩) (Kd.R_far (p := ⟨gb425, 0, none⟩) (Kd.R_types HO418.out BK425.out (by decide)) (fun _ hk => hk.2) (.slice Ao50 t419.length co50)) (fun _ hk => hk.2) (.slice Ao54 t422.length co54)) (fun _ hk => hk.1.2)⟩
                have n8_ : Aside0 (Kd.R Kd.string 9 ((w49.setCell ⟨gb425, 0, none⟩ (.slice Ao50 t419.length co50)).setCell ⟨gb425, 1, none⟩ (.slice Ao54 t422.length co54)) w.heap.size (fun k_ => some k_ ≠ (.slice Ao28 t390.length co28 : Value).ownBlock ∧ some k_ ≠ (.slice Ao32 t396.length co32 : Value).ownBlock ∧ some k_ ≠ (.slice Ao41 t408.length co41 : Value).ownBlock) (.slice Ao50 t419.length co50) t419) := ⟨by (with_reducible repeat (first | apply Kd.R_alloc | apply Kd.R_drewN | apply Kd.R_drew)); exact Kd.R_mono (Kd.R_far (p := ⟨gb425, 1, none⟩) (Kd.R_far (p := ⟨gb425, 0, none⟩) (Kd.R_types HO421.out BK425.out (by decide)) (fun _ hk => hk.2) (.slice Ao50 t419.length co50)) (fun _ hk => hk.2) (.slice Ao54 t422.length co54)) (fun _ hk => ⟨hk.1.1.1.2, ⟨hk.1.1.2, hk.1.2⟩⟩)⟩
                have n9_ : Aside0 (Kd.R k63 63 ((w49.setCell ⟨gb425, 0, none⟩ (.slice Ao50 t419.length co50)).setCell ⟨gb425, 1, none⟩ (.slice Ao54 t422.length co54)) w.heap.size (fun k_ => some k_ ≠ (.slice Ao29 t393.length co29 : Value).ownBlock ∧ some k_ ≠ (.slice Ao34 t399.length co34 : Value).ownBlock ∧ some k_ ≠ (.slice Ao44 t411.length co44 : Value).ownBlock) (.slice Ao54 t422.length co54) t422) := ⟨by (with_reducible repeat (first | apply Kd.R_alloc | apply Kd.R_drewN | apply Kd.R_drew)); exact Kd.R_mono (Kd.R_far (p := ⟨gb425, 1, none⟩) (Kd.R_far (p := ⟨gb425, 0, none⟩) (Kd.R_types HO424.out BK425.out (by decide)) (fun _ hk => hk.2) (.slice Ao50 t419.length co50)) (fun _ hk => hk.2) (.slice Ao54 t422.length co54)) (fun _ hk => ⟨hk.1.1.1.2, ⟨hk.1.1.2, hk.1.2⟩⟩)⟩
                have n10_ : Aside0 (((w49.setCell ⟨gb425, 0, none⟩ (.slice Ao50 t419.length co50)).setCell ⟨gb425, 1, none⟩ (.slice Ao54 t422.length co54)).heap[gb402]? = some (.cells #[.slice Ao32 t396.length co32, .slice Ao34 t399.length co34] 27 (0, 0))) := ⟨by (with_reducible repeat (first | refine blk_drewN ?_ _ | refine blk_drew ?_ | refine blk_alloc ?_ _)); refine blk_far ?_ NB402_425.out _; (with_reducible repeat (first | refine blk_drewN ?_ _ | refine blk_drew ?_ | refine blk_alloc ?_ _)); refine blk_far ?_ NB402_425.out _; (with_reducible repeat (first | refine blk_drewN ?_ _ | refine blk_drew ?_ | refine blk_alloc ?_ _)); exact BK402.out⟩
                have n11_ : Aside0 (((w49.setCell ⟨gb425, 0, none⟩ (.slice Ao50 t419.length co50)).setCell ⟨gb425, 1, none⟩ (.slice Ao54 t422.length co54)).heap[gb415]? = some (.cells #[.slice Ao41 t408.length co41, .slice Ao44 t411.length co44] 27 (0, 0))) := ⟨by (with_reducible repeat (first | refine blk_drewN ?_ _ | refine blk_drew ?_ | refine blk_alloc ?_ _)); refine blk_far ?_ NB415_425.out _; (with_reducible repeat (first | refine blk_drewN ?_ _ | refine blk_drew ?_ | refine blk_alloc ?_ _)); refine blk_far ?_ NB415_425.out _; (with_reducible repeat (first | refine blk_drewN ?_ _ | refine blk_drew ?_ | refine blk_alloc ?_ _)); exact BK415.out⟩
                have n12_ : Aside0 (((w49.setCell ⟨gb425, 0, none⟩ (.slice Ao50 t419.length co50)).setCell ⟨gb425, 1, none⟩ (.slice Ao54 t422.length co54)).heap[gb425]? = some (.cells #[.slice Ao50 t419.length co50, .slice Ao54 t422.length co54] 27 (0, 0))) := ⟨by (with_reducible repeat (first | refine blk_drewN ?_ _ | refine blk_drew ?_ | refine blk_alloc ?_ _)); refine blk_put (cs := #[.slice Ao50 t419.length co50, .slice none 0 0]) ?_ 1 _ rfl; (with_reducible repeat (first | refine blk_drewN ?_ _ | refine blk_drew ?_ | refine blk_alloc ?_ _)); refine blk_put (cs := #[.slice none 0 0, .slice none 0 0]) ?_ 0 _ rfl; (with_reducible repeat (first | refine blk_drewN ?_ _ | refine blk_drew ?_ | refine blk_alloc ?_ _)); exact BK425.out⟩
                have n13_ : Aside0 (Below w.heap.size w ((w49.setCell ⟨gb425, 0, none⟩ (.slice Ao50 t419.length co50)).setCell ⟨gb425, 1, none⟩ (.slice Ao54 t422.length co54))) := ⟨by exact lT HB (gC GE402 (gC GE415 (gC GE425 gN)))⟩
                (try clear HO392)
                (try clear HO395)
                (try clear HO398)
                (try clear HO401)
                (try clear HO405)
                (try clear HO410)
                (try clear HO413)
                (try clear HO418)
                (try clear HO421)
                (try clear HO424)
                (try clear BK402)
                (try clear BK415)
                (try clear BK425)
                (try clear HB)
                generalize ((w49.setCell ⟨gb425, 0, none⟩ (.slice Ao50 t419.length co50)).setCell ⟨gb425, 1, none⟩ (.slice Ao54 t422.length co54)) = w55 at n0_ n1_ n2_ n3_ n4_ n5_ n6_ n7_ n8_ n9_ n10_ n11_ n12_ n13_ ⊢
                have HO392 := n0_
                have HO395 := n1_
                have HO398 := n2_
                have HO401 := n3_
                have HO405 := n4_
                have HO410 := n5_
                have HO413 := n6_
                have HO418 := n7_
                have HO421 := n8_
                have HO424 := n9_
                have BK402 := n10_
                have BK415 := n11_
                have BK425 := n12_
                have HB := n13_
                clear n0_ n1_ n2_ n3_ n4_ n5_ n6_ n7_ n8_ n9_ n10_ n11_ n12_ n13_
                replace HO392 := ak (Kd.R_drew HO392.out)
                replace HO395 := ak (Kd.R_drew HO395.out)
                replace HO398 := ak (Kd.R_drew HO398.out)
                replace HO401 := ak (Kd.R_drew HO401.out)
                replace HO405 := ak (Kd.R_drew HO405.out)
                replace HO410 := ak (Kd.R_drew HO410.out)
                replace HO413 := ak (Kd.R_drew HO413.out)
                replace HO418 := ak (Kd.R_drew HO418.out)
                replace HO421 := ak (Kd.R_drew HO421.out)
                replace HO424 := ak (Kd.R_drew HO424.out)
                replace BK402 := ak (blk_drew BK402.out)
                replace BK415 := ak (blk_drew BK415.out)
                replace BK425 := ak (blk_drew BK425.out)
                replace HB := ak (below_drew1 HB.out)
                have p426 : 0 ≤ ((ji15) : Int) := of_decide_eq_true (by first | (with_reducible assumption) | assumption)
                have q426 : (ji15) < (t419.length : Int) := of_decide_eq_true (by first | (with_reducible assumption) | assumption)
                obtain ⟨ad426, e426, hx426_0⟩ := Kd.at_string (Kd.R_reads' HO421.out).2.2 (ji15) p426 q426
                cases e426
                replace p426 := eq_true p426
                replace q426 := eq_true q426
                have p427 : 0 ≤ ((ji15) : Int) := of_decide_eq_true (by first | (with_reducible assumption) | assumption)
                have q427 : (ji15) < (t396.length : Int) := of_decide_eq_true (by first | (with_reducible assumption) | assumption)
                obtain ⟨ad427, e427, hx427_0⟩ := Kd.at_string (Kd.R_reads' HO398.out).2.2 (ji15) p427 q427
                cases e427
                replace p427 := eq_true p427
                replace q427 := eq_true q427
                refine start_ (n := 25) (S := fun w' => w'.cell? ⟨gb425, 0, none⟩ = some (.slice (some ad426) t419.length co50) ∧ w'.cell? ⟨gb425, 1, none⟩ = some (.slice Ao54 t422.length co54) ∧ w'.cell? ⟨gb402, 0, none⟩ = some (.slice (some ad427) t396.length co32) ∧ w'.cell? ⟨gb402, 1, none⟩ = some (.slice Ao34 t399.length co34) ∧ w'.cell? (ad426.add ((ji15)).toNat) = some (.string (rdOf ByteArray.empty t419 (ji15))) ∧ w'.cell? (ad427.add ((ji15)).toNat) = some (.string (rdOf ByteArray.empty t396 (ji15)))) (ds := []) #[f_,f_,f_,f_,f_,f_,f_,f_,f_,f_,f_,f_,f_,f_,f_,f_,f_,f_,f_,f_,f_,f_,f_,f_,f_] (by kernel_rfl) rfl rfl ⟨(blk_cell BK425.out 0).trans rfl, (blk_cell BK425.out 1).trans rfl, (blk_cell BK402.out 0).trans rfl, (blk_cell BK402.out 1).trans rfl, hx426_0, hx427_0⟩ (fun hHeld => ?_); refine with_tabW laws_FnTorn.tab10 laws_FnTorn.bits10 (fun HT_ HW_ => ?_)
                generalize w55.drew = w56 at HO392 HO395 HO398 HO401 HO405 HO410 HO413 HO418 HO421 HO424 BK402 BK415 BK425 HB hx426_0 hx427_0 hHeld ⊢
                refine pure_ (i := 0) (N := some 41) (v := ?_) (a' := ?_) #[t_,f_,f_,f_,f_,f_,f_,f_,f_,f_,f_,f_,f_,f_,f_,f_,f_,f_,f_,f_,f_,f_,f_,f_,f_] rfl rfl (any_of HT_.out (by kernel_rfl)) (fun _ _ _ h => h) (Or.inl ⟨by rfl, ?_⟩) ?_ ?_
                rotate_left
                ·intro w'
                 go_simp
                 with_reducible rfl
                rotate_left
                ·simp only [Act.put, List.setIfInBounds_toArray, List.set_cons_zero, List.set_cons_succ, i64_w, i32_w]
                 rfl
                refine pure_ (i := 1) (N := some 42) (v := ?_) (a' := ?_) #[t_,t_,f_,f_,f_,f_,f_,f_,f_,f_,f_,f_,f_,f_,f_,f_,f_,f_,f_,f_,f_,f_,f_,f_,f_] rfl rfl (any_of HT_.out (by kernel_rfl)) (fun _ _ _ h => h) (Or.inl ⟨by rfl, ?_⟩) ?_ ?_
                rotate_left
                ·intro w'
                 go_simp
                 with_reducible rfl
                rotate_left
                ·simp only [Act.put, List.setIfInBounds_toArray, List.set_cons_zero, List.set_cons_succ, i64_w, i32_w]
                 rfl
                refine pure_ (i := 2) (N := some 43) (v := ?_) (a' := ?_) #[t_,t_,t_,f_,f_,f_,f_,f_,f_,f_,f_,f_,f_,f_,f_,f_,f_,f_,f_,f_,f_,f_,f_,f_,f_] rfl rfl (any_of HT_.out (by kernel_rfl)) (fun _ _ _ h => h) (Or.inl ⟨by rfl, ?_⟩) ?_ ?_
                rotate_left
                ·intro w'
                 go_simp
                 with_reducible rfl
                rotate_left
                ·simp only [Act.put, List.setIfInBounds_toArray, List.set_cons_zero, List.set_cons_succ, i64_w, i32_w]
                 rfl
                refine pure_ (i := 4) (N := some 45) (v := ?_) (a' := ?_) #[t_,t_,t_,f_,t_,f_,f_,f_,f_,f_,f_,f_,f_,f_,f_,f_,f_,f_,f_,f_,f_,f_,f_,f_,f_] rfl rfl (any_of HT_.out (by kernel_rfl)) (fun _ _ _ h => h) (Or.inl ⟨by rfl, ?_⟩) ?_ ?_
                rotate_left
                ·intro w'
                 go_simp
                 with_reducible rfl
                rotate_left
                ·simp only [Act.put, List.setIfInBounds_toArray, List.set_cons_zero, List.set_cons_succ, i64_w, i32_w]
                 rfl
                refine pure_ (i := 7) (N := some 48) (v := ?_) (a' := ?_) #[t_,t_,t_,f_,t_,f_,f_,t_,f_,f_,f_,f_,f_,f_,f_,f_,f_,f_,f_,f_,f_,f_,f_,f_,f_] rfl rfl (any_of HT_.out (by kernel_rfl)) (fun _ _ _ h => h) (Or.inl ⟨by rfl, ?_⟩) ?_ ?_
                rotate_left
                ·intro w'
                 go_simp
                 with_reducible rfl
                rotate_left
                ·simp only [Act.put, List.setIfInBounds_toArray, List.set_cons_zero, List.set_cons_succ, i64_w, i32_w]
                 rfl
                refine pure_ (i := 8) (N := some 49) (v := ?_) (a' := ?_) #[t_,t_,t_,f_,t_,f_,f_,t_,t_,f_,f_,f_,f_,f_,f_,f_,f_,f_,f_,f_,f_,f_,f_,f_,f_] rfl rfl (any_of HT_.out (by kernel_rfl)) (fun _ _ _ h => h) (Or.inl ⟨by rfl, ?_⟩) ?_ ?_
                rotate_left
                ·intro w'
                 go_simp
                 with_reducible rfl
                rotate_left
                ·simp only [Act.put, List.setIfInBounds_toArray, List.set_cons_zero, List.set_cons_succ, i64_w, i32_w]
                 rfl
                refine pure_ (i := 9) (N := some 50) (v := ?_) (a' := ?_) #[t_,t_,t_,f_,t_,f_,f_,t_,t_,t_,f_,f_,f_,f_,f_,f_,f_,f_,f_,f_,f_,f_,f_,f_,f_] rfl rfl (any_of HT_.out (by kernel_rfl)) (fun _ _ _ h => h) (Or.inl ⟨by rfl, ?_⟩) ?_ ?_
                rotate_left
                ·intro w'
                 go_simp
                 with_reducible rfl
                rotate_left
                ·simp only [Act.put, List.setIfInBounds_toArray, List.set_cons_zero, List.set_cons_succ, i64_w, i32_w]
                 rfl
                refine pure_ (i := 10) (N := some 51) (v := ?_) (a' := ?_) #[t_,t_,t_,f_,t_,f_,f_,t_,t_,t_,t_,f_,f_,f_,f_,f_,f_,f_,f_,f_,f_,f_,f_,f_,f_] rfl rfl (any_of HT_.out (by kernel_rfl)) (fun _ _ _ h => h) (Or.inl ⟨by rfl, ?_⟩) ?_ ?_
                rotate_left
                ·intro w'
                 go_simp
                 with_reducible rfl
                rotate_left
                ·simp only [Act.put, List.setIfInBounds_toArray, List.set_cons_zero, List.set_cons_succ, i64_w, i32_w]
                 rfl
                refine pure_ (i := 12) (N := some 53) (v := ?_) (a' := ?_) #[t_,t_,t_,f_,t_,f_,f_,t_,t_,t_,t_,f_,t_,f_,f_,f_,f_,f_,f_,f_,f_,f_,f_,f_,f_] rfl rfl (any_of HT_.out (by kernel_rfl)) (fun _ _ _ h => h) (Or.inl ⟨by rfl, ?_⟩) ?_ ?_
                rotate_left
                ·intro w'
                 go_simp
                 with_reducible rfl
                rotate_left
                ·simp only [Act.put, List.setIfInBounds_toArray, List.set_cons_zero, List.set_cons_succ, i64_w, i32_w]
                 rfl
                refine pure_ (i := 15) (N := some 56) (v := ?_) (a' := ?_) #[t_,t_,t_,f_,t_,f_,f_,t_,t_,t_,t_,f_,t_,f_,f_,t_,f_,f_,f_,f_,f_,f_,f_,f_,f_] rfl rfl (any_of HT_.out (by kernel_rfl)) (fun _ _ _ h => h) (Or.inl ⟨by rfl, ?_⟩) ?_ ?_
                rotate_left
                ·intro w'
                 go_simp
                 with_reducible rfl
                rotate_left
                ·simp only [Act.put, List.setIfInBounds_toArray, List.set_cons_zero, List.set_cons_succ, i64_w, i32_w]
                 rfl
                refine take_ (i := 3) (N := some 44) (v := ?_) (a' := ?_) #[t_,t_,t_,t_,t_,f_,f_,t_,t_,t_,t_,f_,t_,f_,f_,t_,f_,f_,f_,f_,f_,f_,f_,f_,f_] rfl rfl (take_ofW HT_.out HW_.out (by kernel_rfl)) (fun _ _ _ h => h) (Or.inl ⟨by rfl, ?_⟩) hHeld ?_ ?_
                rotate_left
                ·rintro w' ⟨s0, s1, s2, s3, s4, s5⟩
                 go_simp
                 with_reducible rfl
                rotate_left
                ·simp only [Act.put, List.setIfInBounds_toArray, List.set_cons_zero, List.set_cons_succ, i64_w, i32_w]
                 rfl
                refine pure_ (i := 5) (N := some 46) (v := ?_) (a' := ?_) #[t_,t_,t_,t_,t_,t_,f_,t_,t_,t_,t_,f_,t_,f_,f_,t_,f_,f_,f_,f_,f_,f_,f_,f_,f_] rfl rfl (any_of HT_.out (by kernel_rfl)) (fun _ _ _ h => h) (Or.inl ⟨by rfl, ?_⟩) ?_ ?_
                rotate_left
                ·intro w'
                 go_simp
                 with_reducible rfl
                rotate_left
                ·simp only [Act.put, List.setIfInBounds_toArray, List.set_cons_zero, List.set_cons_succ, i64_w, i32_w]
                 rfl
                refine take_ (i := 6) (N := some 47) (v := ?_) (a' := ?_) #[t_,t_,t_,t_,t_,t_,t_,t_,t_,t_,t_,f_,t_,f_,f_,t_,f_,f_,f_,f_,f_,f_,f_,f_,f_] rfl rfl (take_ofW HT_.out HW_.out (by kernel_rfl)) (fun _ _ _ h => h) (Or.inl ⟨by rfl, ?_⟩) hHeld ?_ ?_
                rotate_left
                ·rintro w' ⟨s0, s1, s2, s3, s4, s5⟩
                 go_simp
                 with_reducible rfl
                rotate_left
                ·simp only [Act.put, List.setIfInBounds_toArray, List.set_cons_zero, List.set_cons_succ, i64_w, i32_w]
                 rfl
                refine take_ (i := 11) (N := some 52) (v := ?_) (a' := ?_) #[t_,t_,t_,t_,t_,t_,t_,t_,t_,t_,t_,t_,t_,f_,f_,t_,f_,f_,f_,f_,f_,f_,f_,f_,f_] rfl rfl (take_ofW HT_.out HW_.out (by kernel_rfl)) (fun _ _ _ h => h) (Or.inl ⟨by rfl, ?_⟩) hHeld ?_ ?_
                rotate_left
                ·rintro w' ⟨s0, s1, s2, s3, s4, s5⟩
                 go_simp
                 with_reducible rfl
                rotate_left
                ·simp only [Act.put, List.setIfInBounds_toArray, List.set_cons_zero, List.set_cons_succ, i64_w, i32_w]
                 rfl
                refine pure_ (i := 13) (N := some 54) (v := ?_) (a' := ?_) #[t_,t_,t_,t_,t_,t_,t_,t_,t_,t_,t_,t_,t_,t_,f_,t_,f_,f_,f_,f_,f_,f_,f_,f_,f_] rfl rfl (any_of HT_.out (by kernel_rfl)) (fun _ _ _ h => h) (Or.inl ⟨by rfl, ?_⟩) ?_ ?_
                rotate_left
                ·intro w'
                 go_simp
                 with_reducible rfl
                rotate_left
                ·simp only [Act.put, List.setIfInBounds_toArray, List.set_cons_zero, List.set_cons_succ, i64_w, i32_w]
                 rfl
                refine take_ (i := 14) (N := some 55) (v := ?_) (a' := ?_) #[t_,t_,t_,t_,t_,t_,t_,t_,t_,t_,t_,t_,t_,t_,t_,t_,f_,f_,f_,f_,f_,f_,f_,f_,f_] rfl rfl (take_ofW HT_.out HW_.out (by kernel_rfl)) (fun _ _ _ h => h) (Or.inl ⟨by rfl, ?_⟩) hHeld ?_ ?_
                rotate_left
                ·rintro w' ⟨s0, s1, s2, s3, s4, s5⟩
                 go_simp
                 with_reducible rfl
                rotate_left
                ·simp only [Act.put, List.setIfInBounds_toArray, List.set_cons_zero, List.set_cons_succ, i64_w, i32_w]
                 rfl
                refine pure_ (i := 16) (N := some 57) (v := ?_) (a' := ?_) #[t_,t_,t_,t_,t_,t_,t_,t_,t_,t_,t_,t_,t_,t_,t_,t_,t_,f_,f_,f_,f_,f_,f_,f_,f_] rfl rfl (any_of HT_.out (by kernel_rfl)) (fun _ _ _ h => h) (Or.inl ⟨by rfl, ?_⟩) ?_ ?_
                rotate_left
                ·intro w'
                 go_simp
                 with_reducible rfl
                rotate_left
                ·simp only [Act.put, List.setIfInBounds_toArray, List.set_cons_zero, List.set_cons_succ, i64_w, i32_w]
                 rfl
                refine pure_ (i := 17) (N := some 58) (v := ?_) (a' := ?_) #[t_,t_,t_,t_,t_,t_,t_,t_,t_,t_,t_,t_,t_,t_,t_,t_,t_,t_,f_,f_,f_,f_,f_,f_,f_] rfl rfl (any_of HT_.out (by kernel_rfl)) (fun _ _ _ h => h) (Or.inl ⟨by rfl, ?_⟩) ?_ ?_
                rotate_left
                ·intro w'
                 go_simp
                 with_reducible rfl
                rotate_left
                ·simp only [Act.put, List.setIfInBounds_toArray, List.set_cons_zero, List.set_cons_succ, i64_w, i32_w]
                 rfl
                refine pure_ (i := 18) (N := some 59) (v := ?_) (a' := ?_) #[t_,t_,t_,t_,t_,t_,t_,t_,t_,t_,t_,t_,t_,t_,t_,t_,t_,t_,t_,f_,f_,f_,f_,f_,f_] rfl rfl (any_of HT_.out (by kernel_rfl)) (fun _ _ _ h => h) (Or.inl ⟨by rfl, ?_⟩) ?_ ?_
                rotate_left
                ·intro w'
                 go_simp
                 with_reducible rfl
                rotate_left
                ·simp only [Act.put, List.setIfInBounds_toArray, List.set_cons_zero, List.set_cons_succ, i64_w, i32_w]
                 rfl
                refine pure_ (i := 19) (N := some 60) (v := ?_) (a' := ?_) #[t_,t_,t_,t_,t_,t_,t_,t_,t_,t_,t_,t_,t_,t_,t_,t_,t_,t_,t_,t_,f_,f_,f_,f_,f_] rfl rfl (any_of HT_.out (by kernel_rfl)) (fun _ _ _ h => h) (Or.inl ⟨by rfl, ?_⟩) ?_ ?_
                rotate_left
                ·intro w'
                 go_simp
                 with_reducible rfl
                rotate_left
                ·simp only [Act.put, List.setIfInBounds_toArray, List.set_cons_zero, List.set_cons_succ, i64_w, i32_w]
                 rfl
                refine pure_ (i := 20) (N := some 61) (v := ?_) (a' := ?_) #[t_,t_,t_,t_,t_,t_,t_,t_,t_,t_,t_,t_,t_,t_,t_,t_,t_,t_,t_,t_,t_,f_,f_,f_,f_] rfl rfl (any_of HT_.out (by kernel_rfl)) (fun _ _ _ h => h) (Or.inl ⟨by rfl, ?_⟩) ?_ ?_
                rotate_left
                ·intro w'
                 go_simp
                 with_reducible rfl
                rotate_left
                ·simp only [Act.put, List.setIfInBounds_toArray, List.set_cons_zero, List.set_cons_succ, i64_w, i32_w]
                 rfl
                refine take_ (i := 21) (N := some 62) (v := ?_) (a' := ?_) #[t_,t_,t_,t_,t_,t_,t_,t_,t_,t_,t_,t_,t_,t_,t_,t_,t_,t_,t_,t_,t_,t_,f_,f_,f_] rfl rfl (take_ofW HT_.out HW_.out (by kernel_rfl)) (fun _ _ _ h => h) (Or.inl ⟨by rfl, ?_⟩) hHeld ?_ ?_
                rotate_left
                ·rintro w' ⟨s0, s1, s2, s3, s4, s5⟩
                 go_simp
                 with_reducible rfl
                rotate_left
                ·simp only [Act.put, List.setIfInBounds_toArray, List.set_cons_zero, List.set_cons_succ, i64_w, i32_w]
                 rfl
                refine one_ (i := 22) (N := some 63) #[t_,t_,t_,t_,t_,t_,t_,t_,t_,t_,t_,t_,t_,t_,t_,t_,t_,t_,t_,t_,t_,t_,t_,f_,f_] rfl rfl (one_of HT_.out (by kernel_rfl)) (by decide) (fun K hK => ?_)
                refine goes_ Try.func16 (by kernel_rfl) rfl #[.agg #[.slice (some ad426) t419.length co50, .slice Ao54 t422.length co54]] (by rfl) rfl rfl (by (try simp only [List.map_toArray, List.map_cons, List.map_nil]); first | done | rfl | (simp only [List.length_drop, List.length_take]; rfl)) ?_
                with_reducible refine (impl_DiskOk.calls _ _ t419 _ _ t422 t428 _ ?side1 ?side2 ?side3 ?side4 A26.out).mono ?_
                (case side1 => exact cG (Kd.R_reads' HO421.out).2.2)
                (case side2 => exact (Kd.R_reads' HO421.out).2.1)
                (case side3 => exact cG (Kd.R_reads' HO424.out).2.2)
                (case side4 => exact (Kd.R_reads' HO424.out).2.1)
                rintro e w57 ⟨rfl, hb⟩
                have HS4_ := (hb.cell (World.block_lt_of_cell? _ _ (hHeld.2.2.2.2.1))).trans (hHeld.2.2.2.2.1)
                have HS5_ := (hb.cell (World.block_lt_of_cell? _ _ (hHeld.2.2.2.2.2))).trans (hHeld.2.2.2.2.2)
                refine ⟨_, rfl, ?_⟩
                replace HO392 := rB HO392 hb
                replace HO395 := rB HO395 hb
                replace HO398 := rB HO398 hb
                replace HO401 := rB HO401 hb
                replace HO405 := rB HO405 hb
                replace HO410 := rB HO410 hb
                replace HO413 := rB HO413 hb
                replace HO418 := rB HO418 hb
                replace HO421 := rB HO421 hb
                replace HO424 := rB HO424 hb
                replace BK402 := bB BK402 hb
                replace BK415 := bB BK415 hb
                replace BK425 := bB BK425 hb
                replace HB := ak (below_step (lT HB (gC GE402 (gC GE415 (gC GE425 gN)))) hb)
                (try clear hb)
                (try clear hb2)
                (try clear hk)
                (try clear hi)
                refine hK.out _ _ ⟨(blk_cell BK425.out 0).trans rfl, (blk_cell BK425.out 1).trans rfl, (blk_cell BK402.out 0).trans rfl, (blk_cell BK402.out 1).trans rfl, HS4_, HS5_⟩ (fun hHeld => ?_)
                clear hK K
                refine norm_ (a' := ?_) ?_ ?_
                rotate_left
                ·show Act.put _ (some 63) _ = _
                 simp only [Act.put, List.setIfInBounds_toArray, List.set_cons_zero, List.set_cons_succ, i64_w, i32_w]
                 rfl
                refine pure_ (i := 23) (N := some 64) (v := ?_) (a' := ?_) #[t_,t_,t_,t_,t_,t_,t_,t_,t_,t_,t_,t_,t_,t_,t_,t_,t_,t_,t_,t_,t_,t_,t_,t_,f_] rfl rfl (any_of HT_.out (by kernel_rfl)) (fun _ _ _ h => h) (Or.inl ⟨by rfl, ?_⟩) ?_ ?_
                rotate_left
                ·intro w'
                 go_simp
                 with_reducible rfl
                rotate_left
                ·simp only [Act.put, List.setIfInBounds_toArray, List.set_cons_zero, List.set_cons_succ, i64_w, i32_w]
                 rfl
                refine pure_ (i := 24) (N := some 2) (v := ?_) (a' := ?_) #[t_,t_,t_,t_,t_,t_,t_,t_,t_,t_,t_,t_,t_,t_,t_,t_,t_,t_,t_,t_,t_,t_,t_,t_,t_] rfl rfl (any_of HT_.out (by kernel_rfl)) (fun _ _ _ h => h) (Or.inl ⟨by rfl, ?_⟩) ?_ ?_
                rotate_left
                ·intro w'
                 go_simp
                 with_reducible rfl
                rotate_left
                ·simp only [Act.put, List.setIfInBounds_toArray, List.set_cons_zero, List.set_cons_succ, i64_w, i32_w]
                 rfl
                refine done_ (done_of HT_.out (by kernel_rfl)) ?_
                try go_wp2
                go_ret
                exact ⟨by first | rfl | (simp [errW_none, errW_some] <;> rfl) | (simp only [← hji15, ← hji18]; first | rfl | (simp [errW_none, errW_some] <;> rfl)) | (simp [*, errW_none, errW_some] <;> rfl), by exact lT HB (gC GE402 (gC GE415 (gC GE425 gN)))⟩
               ·rw [if_neg c25] at H
                have c25b0 : ((rdOf ByteArray.empty t419 (ji15)).toList == ((((⟨#[116, 104, 105, 114, 116, 121, 45, 116, 119, 111, 32, 98, 121, 116, 101, 115, 44, 32, 110, 111, 32, 109, 111, 114, 101, 32, 111, 114, 32, 108, 101, 115, 115]⟩ : ByteArray).extract 0 32).extract 0 ((ji18) : Int).toNat) ++ ((rdOf ByteArray.empty t396 (ji15)).extract ((ji18) : Int).toNat (rdOf ByteArray.empty t396 (ji15)).size)).toList) = false := beq_eq_false_iff_ne.mpr c25
                have c25b1 : ((rdOf ByteArray.empty t419 (ji15)).toList != ((((⟨#[116, 104, 105, 114, 116, 121, 45, 116, 119, 111, 32, 98, 121, 116, 101, 115, 44, 32, 110, 111, 32, 109, 111, 114, 101, 32, 111, 114, 32, 108, 101, 115, 115]⟩ : ByteArray).extract 0 32).extract 0 ((ji18) : Int).toNat) ++ ((rdOf ByteArray.empty t396 (ji15)).extract ((ji18) : Int).toNat (rdOf ByteArray.empty t396 (ji15)).size)).toList) = true := bne_iff_ne.mpr c25
                obtain rfl := Option.some.inj H
                go_enter Try.func4, Try.ntmps4
                try go_wp2_with (first | ((with_reducible refine gate_callee (f := 9) rfl ?_); refine goesL_ (some 12) rfl rfl Try.func9 (by kernel_rfl) rfl #[.slice A0 l0.length c0] rfl (by (try simp only [List.map_toArray, List.map_cons, List.map_nil]); first | done | rfl | (simp only [List.length_drop, List.length_take]; rfl)) ?_; (with_reducible refine (laws_big.calls _ _ l0 false _ ?side1 ?side2 A2.out).mono ?_); (case side1 => repeat (first | exact HR0.out | (with_reducible refine Kd.C_alloc ?_ _) | (with_reducible refine Kd.C_drewN ?_ _) | (with_reducible refine Kd.C_drew ?_))); (case side2 => exact HC0.out); rintro e w' ⟨rfl, ⟨nd, rfl⟩⟩; refine ⟨_, rfl, ?_⟩) | ((with_reducible refine gate_callee (f := 10) rfl ?_); refine goesL_ (some 14) rfl rfl Try.func10 (by kernel_rfl) rfl #[.slice A0 l0.length c0] rfl (by (try simp only [List.map_toArray, List.map_cons, List.map_nil]); first | done | rfl | (simp only [List.length_drop, List.length_take]; rfl)) ?_; (with_reducible refine (spec_DrawDisk.calls k _ _ l0 t390 t393 _ ?side1 ?side2 A4.out).mono ?_); (case side1 => repeat (first | exact HR0.out | (with_reducible refine Kd.C_alloc ?_ _) | (with_reducible refine Kd.C_drewN ?_ _) | (with_reducible refine Kd.C_drew ?_))); (case side2 => exact HC0.out); rintro e w58 ⟨v391, v394, rfl, ho0, ho1, hb⟩; refine ⟨_, rfl, ?_⟩; replace HO392 := ak (Kd.R_lower ho0 (below_size (lG HB))); replace HO395 := ak (Kd.R_lower ho1 (below_size (lG HB))); replace HB := lB HB hb; (try clear hb); (try clear hb2); (try clear hk); (try clear hi); (try clear ho0); (try clear ho1); obtain ⟨Ao59, co59, eo59⟩ := Kd.R_slice HO392.out; subst eo59; obtain ⟨Ao60, co60, eo60⟩ := Kd.R_slice HO395.out; subst eo60) | ((with_reducible refine gate_callee (f := 13) rfl ?_); refine goesL_ (some 15) rfl rfl Try.func13 (by kernel_rfl) rfl #[.agg #[.slice Ao59 t390.length co59, .slice Ao60 t393.length co60]] rfl (by (try simp only [List.map_toArray, List.map_cons, List.map_nil]); first | done | rfl | (simp only [List.length_drop, List.length_take]; rfl)) ?_; (with_reducible refine (impl_FlushDisk.calls k _ _ t390 _ _ t393 t396 t399 _ ?side1 ?side2 ?side3 ?side4 A5.out).mono ?_); (case side1 => exact cG (Kd.R_reads' HO392.out).2.2); (case side2 => exact (Kd.R_reads' HO392.out).2.1); (case side3 => exact cG (Kd.R_reads' HO395.out).2.2); (case side4 => exact (Kd.R_reads' HO395.out).2.1); rintro e w61 ⟨v397, v400, rfl, ho0, ho1, hb⟩; refine ⟨_, rfl, ?_⟩; replace HO398 := ak (Kd.R_lower (Kd.R_new' ho0 (Kd.R_lt (rG HO392))) (below_size (lG HB))); replace HO392 := ak (Kd.R_elder' (rG HO392) (Kd.R_base ho0) hb); replace HO401 := ak (Kd.R_lower (Kd.R_new' ho1 (Kd.R_lt (rG HO395))) (below_size (lG HB))); replace HO395 := ak (Kd.R_elder' (rG HO395) (Kd.R_base ho1) hb); replace HB := lB HB hb; (try clear hb); (try clear hb2); (try clear hk); (try clear hi); (try clear ho0); (try clear ho1)) | ((with_reducible refine gate_dst (N := 3) rfl ?_); refine box_event ?hg (N := 3) ?hd (cs := #[.slice none 0 0, .slice none 0 0]) (t := 27) ?hr ?_; (case hd => rfl); (case hg => rfl); (case hr => first | (go_simp; done) | (go_simp; rfl)); intro gb402 hg w62 hbox hb; replace HO392 := rB HO392 hb; replace HO395 := rB HO395 hb; replace HO398 := rB HO398 hb; replace HO401 := rB HO401 hb; replace BK402 := ak (hbox); replace GW402 := ak ((by rw [hg]; exact (below_size (lG HB)) : w.heap.size ≤ gb402)); replace GE402 := ak ((by rw [hg]; exact (below_size (lG HB)) : w.heap.size ≤ gb402)); replace HB := lB HB hb; clear hb hbox hg; obtain ⟨Ao63, co63, eo63⟩ := Kd.R_slice HO398.out; subst eo63; obtain ⟨hcz64_0, hcz64_1, hfz64_0, hfz64_1⟩ := bC2 BK402; obtain ⟨Ao65, co65, eo65⟩ := Kd.R_slice HO401.out; subst eo65) | ((with_reducible refine gate_callee (f := 11) rfl ?_); refine goesL_ (some 17) rfl rfl Try.func11 (by kernel_rfl) rfl #[.slice A0 l0.length c0] rfl (by (try simp only [List.map_toArray, List.map_cons, List.map_nil]); first | done | rfl | (simp only [List.length_drop, List.length_take]; rfl)) ?_; (with_reducible refine (spec_DrawPlaces.calls k _ _ l0 t403 _ ?side1 ?side2 A6.out).mono ?_); (case side1 => exact Kd.C_below HR0.out (lT HB (gC GE402 gN))); (case side2 => exact HC0.out); rintro e w66 ⟨v404, rfl, ho0, hb⟩; refine ⟨_, rfl, ?_⟩; replace HO392 := ak (Kd.R_below (rT HO392 BK402 (by decide)) hb); replace HO395 := ak (Kd.R_below (rT HO395 BK402 (by decide)) hb); replace HO398 := ak (Kd.R_below (rT HO398 BK402 (by decide)) hb); replace HO401 := ak (Kd.R_below (rT HO401 BK402 (by decide)) hb); replace HO405 := ak (Kd.R_lower ho0 (below_size (lT HB (gC GE402 gN)))); replace BK402 := ak (blk_below (g := gb402) (o := .cells #[.slice Ao63 t396.length co63, .slice Ao65 t399.length co65] 27 (0, 0)) (by (with_reducible repeat (first | refine blk_drewN ?_ _ | refine blk_drew ?_ | refine blk_alloc ?_ _)); refine blk_put (cs := #[.slice Ao63 t396.length co63, .slice none 0 0]) ?_ 1 _ rfl; (with_reducible repeat (first | refine blk_drewN ?_ _ | refine blk_drew ?_ | refine blk_alloc ?_ _)); refine blk_put (cs := #[.slice none 0 0, .slice none 0 0]) ?_ 0 _ rfl; (with_reducible repeat (first | refine blk_drewN ?_ _ | refine blk_drew ?_ | refine blk_alloc ?_ _)); exact BK402.out) hb); replace HB := ak (below_step (lT HB (gC GE402 gN)) hb); (try clear hb); (try clear hb2); (try clear hk); (try clear hi); (try clear ho0)))
                replace HO392 := ak (Kd.R_drew HO392.out)
                replace HO395 := ak (Kd.R_drew HO395.out)
                replace HO398 := ak (Kd.R_drew HO398.out)
                replace HO401 := ak (Kd.R_drew HO401.out)
                replace HO405 := ak (Kd.R_drew HO405.out)
                replace BK402 := ak (blk_drew BK402.out)
                replace HB := ak (below_drew1 HB.out)
                obtain ⟨Ao68, co68, eo68⟩ := Kd.R_slice HO405.out
                (first | subst eo68 | (injection eo68 with f1_ f2_ f3_; have f4_ := f1_.symm; have f5_ := f3_.symm; clear f1_ f2_ f3_; subst f4_; subst f5_))
                have p406 : 0 ≤ (0 : Int) := (by omega)
                have q406 : 0 < (t403.length : Int) := of_decide_eq_true (by first | (with_reducible assumption) | assumption)
                obtain ⟨ad406, e406, hx406_0⟩ := Kd.at_int (Kd.R_reads' HO405.out).2.2 0 p406 q406
                cases e406
                have qi406 : (0 < t403.length) = True := eq_true (by omega)
                (try rw [show ((0 : Int)).toNat = 0 from rfl] at hx406_0)
                (try rw [Addr.add_zero'] at hx406_0)
                replace p406 := eq_true p406
                replace q406 := eq_true q406
                refine start_ (n := 8) (S := fun w' => w'.cell? ⟨gb402, 0, none⟩ = some (.slice Ao63 t396.length co63) ∧ w'.cell? ⟨gb402, 1, none⟩ = some (.slice Ao65 t399.length co65) ∧ w'.cell? ad406 = some (.int .i64 (rd t403 0))) (ds := []) #[f_,f_,f_,f_,f_,f_,f_,f_] (by kernel_rfl) rfl rfl ⟨(blk_cell BK402.out 0).trans rfl, (blk_cell BK402.out 1).trans rfl, hx406_0⟩ (fun hHeld => ?_); refine with_tabW laws_FnTorn.tab5 laws_FnTorn.bits5 (fun HT_ HW_ => ?_)
                generalize w66.drew = w67 at HO392 HO395 HO398 HO401 HO405 BK402 HB hx406_0 hHeld ⊢
                refine pure_ (i := 0) (N := some 18) (v := ?_) (a' := ?_) #[t_,f_,f_,f_,f_,f_,f_,f_] rfl rfl (any_of HT_.out (by kernel_rfl)) (fun _ _ _ h => h) (Or.inl ⟨by rfl, ?_⟩) ?_ ?_
                rotate_left
                ·intro w'
                 go_simp
                 with_reducible rfl
                rotate_left
                ·simp only [Act.put, List.setIfInBounds_toArray, List.set_cons_zero, List.set_cons_succ, i64_w, i32_w]
                 rfl
                refine pure_ (i := 1) (N := some 19) (v := ?_) (a' := ?_) #[t_,t_,f_,f_,f_,f_,f_,f_] rfl rfl (any_of HT_.out (by kernel_rfl)) (fun _ _ _ h => h) (Or.inl ⟨by rfl, ?_⟩) ?_ ?_
                rotate_left
                ·intro w'
                 go_simp
                 with_reducible rfl
                rotate_left
                ·simp only [Act.put, List.setIfInBounds_toArray, List.set_cons_zero, List.set_cons_succ, i64_w, i32_w]
                 rfl
                refine pure_ (i := 3) (N := some 21) (v := ?_) (a' := ?_) #[t_,t_,f_,t_,f_,f_,f_,f_] rfl rfl (any_of HT_.out (by kernel_rfl)) (fun _ _ _ h => h) (Or.inl ⟨by rfl, ?_⟩) ?_ ?_
                rotate_left
                ·intro w'
                 go_simp
                 with_reducible rfl
                rotate_left
                ·simp only [Act.put, List.setIfInBounds_toArray, List.set_cons_zero, List.set_cons_succ, i64_w, i32_w]
                 rfl
                refine take_ (i := 2) (N := some 20) (v := ?_) (a' := ?_) #[t_,t_,t_,t_,f_,f_,f_,f_] rfl rfl (take_ofW HT_.out HW_.out (by kernel_rfl)) (fun _ _ _ h => h) (Or.inl ⟨by rfl, ?_⟩) hHeld ?_ ?_
                rotate_left
                ·rintro w' ⟨s0, s1, s2⟩
                 go_simp
                 with_reducible rfl
                rotate_left
                ·simp only [Act.put, List.setIfInBounds_toArray, List.set_cons_zero, List.set_cons_succ, i64_w, i32_w]
                 rfl
                refine take_ (i := 4) (N := some 22) (v := ?_) (a' := ?_) #[t_,t_,t_,t_,t_,f_,f_,f_] rfl rfl (take_ofW HT_.out HW_.out (by kernel_rfl)) (fun _ _ _ h => h) (Or.inl ⟨by rfl, ?_⟩) hHeld ?_ ?_
                rotate_left
                ·rintro w' ⟨s0, s1, s2⟩
                 go_simp
                 with_reducible rfl
                rotate_left
                ·simp only [Act.put, List.setIfInBounds_toArray, List.set_cons_zero, List.set_cons_succ, i64_w, i32_w]
                 rfl
                refine pure_ (i := 5) (N := some 23) (v := ?_) (a' := ?_) #[t_,t_,t_,t_,t_,t_,f_,f_] rfl rfl (any_of HT_.out (by kernel_rfl)) (fun _ _ _ h => h) (Or.inl ⟨by rfl, ?_⟩) ?_ ?_
                rotate_left
                ·intro w'
                 go_simp
                 with_reducible rfl
                rotate_left
                ·simp only [Act.put, List.setIfInBounds_toArray, List.set_cons_zero, List.set_cons_succ, i64_w, i32_w]
                 rfl
                refine pure_ (i := 6) (N := some 24) (v := ?_) (a' := ?_) #[t_,t_,t_,t_,t_,t_,t_,f_] rfl rfl (any_of HT_.out (by kernel_rfl)) (fun _ _ _ h => h) (Or.inl ⟨by rfl, ?_⟩) ?_ ?_
                rotate_left
                ·intro w'
                 go_simp
                 with_reducible rfl
                rotate_left
                ·simp only [Act.put, List.setIfInBounds_toArray, List.set_cons_zero, List.set_cons_succ, i64_w, i32_w]
                 rfl
                refine pure_ (i := 7) (N := some 5) (v := ?_) (a' := ?_) #[t_,t_,t_,t_,t_,t_,t_,t_] rfl rfl (any_of HT_.out (by kernel_rfl)) (fun _ _ _ h => h) (Or.inl ⟨by rfl, ?_⟩) ?_ ?_
                rotate_left
                ·intro w'
                 go_simp
                 with_reducible rfl
                rotate_left
                ·simp only [Act.put, List.setIfInBounds_toArray, List.set_cons_zero, List.set_cons_succ, i64_w, i32_w]
                 rfl
                refine done_ (done_of HT_.out (by kernel_rfl)) ?_
                have p407 : 0 ≤ (1 : Int) := (by omega)
                have q407 : 1 < (t403.length : Int) := of_decide_eq_true (by first | (with_reducible assumption) | assumption)
                obtain ⟨ad407, e407, hx407_0⟩ := Kd.at_int (Kd.R_reads' HO405.out).2.2 1 p407 q407
                obtain rfl : ad406 = ad407 := (by injection e407)
                (try simp only [show (1 : Int).toNat = 1 from rfl, Nat.reduceMul, Nat.reduceEqDiff, Go.Addr.add, ↓reduceIte] at hx407_0)
                have qi407 : (1 < t403.length) = True := eq_true (by omega)
                (try rw [show ((1 : Int)).toNat = 1 from rfl] at hx407_0)
                replace p407 := eq_true p407
                replace q407 := eq_true q407
                have hcz69_0 : w67.cell? ⟨gb402, 0, none⟩ = some (.slice Ao63 t396.length co63) := (blk_cell BK402.out 0).trans rfl
                have hcz69_1 : w67.cell? ⟨gb402, 1, none⟩ = some (.slice Ao65 t399.length co65) := (blk_cell BK402.out 1).trans rfl
                have hfz69_0 := blk_frozen BK402.out 0
                have hfz69_1 := blk_frozen BK402.out 1
                try go_wp2_with (first | ((with_reducible refine gate_callee (f := 12) rfl ?_); refine goesL_ (some 34) rfl rfl Try.func12 (by kernel_rfl) rfl #[.agg #[.slice Ao63 t396.length co63, .slice Ao65 t399.length co65], .int .i64 ji15, .string ((⟨#[116, 104, 105, 114, 116, 121, 45, 116, 119, 111, 32, 98, 121, 116, 101, 115, 44, 32, 110, 111, 32, 109, 111, 114, 101, 32, 111, 114, 32, 108, 101, 115, 115]⟩ : ByteArray).extract 0 32)] rfl (by (try simp only [List.map_toArray, List.map_cons, List.map_nil]); first | done | (simp only [hji15]; rfl) | rfl | (simp only [List.length_drop, List.length_take]; rfl)) ?_; (with_reducible refine (impl_WriteSector.calls _ _ t396 _ _ t399 ji15 ((⟨#[116, 104, 105, 114, 116, 121, 45, 116, 119, 111, 32, 98, 121, 116, 101, 115, 44, 32, 110, 111, 32, 109, 111, 114, 101, 32, 111, 114, 32, 108, 101, 115, 115]⟩ : ByteArray).extract 0 32) t408 t411 true _ ?side1 ?side2 ?side3 ?side4 A12.out).mono ?_); (case side1 => exact cG (Kd.R_reads' HO398.out).2.2); (case side2 => exact (Kd.R_reads' HO398.out).2.1); (case side3 => exact cG (Kd.R_reads' HO401.out).2.2); (case side4 => exact (Kd.R_reads' HO401.out).2.1); rintro e w70 ⟨v409, v412, rfl, ho0, ho1, hb⟩; refine ⟨_, rfl, ?_⟩; replace HO405 := rB HO405 hb; replace HO410 := ak (Kd.R_lower (Kd.R_new' (Kd.R_new' ho0 (Kd.R_lt (rG HO392))) (Kd.R_lt (rG HO398))) (below_size (lT HB (gC GE402 gN)))); replace HO392 := ak (Kd.R_elder' (rG HO392) (Kd.R_base ho0) hb); replace HO398 := ak (Kd.R_elder' (rG HO398) (Kd.R_base ho0) hb); replace HO413 := ak (Kd.R_lower (Kd.R_new' (Kd.R_new' ho1 (Kd.R_lt (rG HO395))) (Kd.R_lt (rG HO401))) (below_size (lT HB (gC GE402 gN)))); replace HO395 := ak (Kd.R_elder' (rG HO395) (Kd.R_base ho1) hb); replace HO401 := ak (Kd.R_elder' (rG HO401) (Kd.R_base ho1) hb); replace BK402 := bB BK402 hb; replace HB := ak (below_step (lT HB (gC GE402 gN)) hb); (try clear hb); (try clear hb2); (try clear hk); (try clear hi); (try clear ho0); (try clear ho1)) | ((with_reducible refine gate_dst (N := 8) rfl ?_); refine box_event ?hg (N := 8) ?hd (cs := #[.slice none 0 0, .slice none 0 0]) (t := 27) ?hr ?_; (case hd => rfl); (case hg => rfl); (case hr => first | (go_simp; done) | (go_simp; rfl)); intro gb415 hg w71 hbox hb; replace HO392 := rB HO392 hb; replace HO395 := rB HO395 hb; replace HO398 := rB HO398 hb; replace HO401 := rB HO401 hb; replace HO405 := rB HO405 hb; replace HO410 := rB HO410 hb; replace HO413 := rB HO413 hb; replace BK415 := ak (hbox); replace GW415 := ak ((by rw [hg]; exact (below_size (lT HB (gC GE402 gN))) : w.heap.size ≤ gb415)); replace GE415 := ak ((by rw [hg]; exact (below_size (lT HB (gC GE402 gN))) : w.heap.size ≤ gb415)); replace HB := ak (below_step (lT HB (gC GE402 gN)) hb); replace NB402_415 := ak ((by rw [hg]; exact Nat.ne_of_lt (blk_lt (bG BK402)) : gb402 ≠ gb415)); replace NB415_402 := ak ((by rw [hg]; exact Nat.ne_of_gt (blk_lt (bG BK402)) : gb415 ≠ gb402)); replace BK402 := bB BK402 hb; clear hb hbox hg; obtain ⟨Ao72, co72, eo72⟩ := Kd.R_slice HO410.out; subst eo72; have hnb73 := NB415_402.out; have hnc73 := NB402_415.out; obtain ⟨hcz74_0, hcz74_1, hfz74_0, hfz74_1⟩ := bC2 BK415; obtain ⟨Ao75, co75, eo75⟩ := Kd.R_slice HO413.out; subst eo75) | ((with_reducible refine gate_dst (N := 38) rfl ?_); refine Kd.R_lit (Kd.int .i64) _ 3 ?hg (N := 38) ?hd (xs := ([1] : List Int)) (inner := [.int .i64 1]) (ok := fun _ => True) (okp := fun _ => True) ?hr ?hp (fun _ hk => hk) trivial (Below.refl _ _) (Nat.le_refl _) (by simp) ?_; (case hd => rfl); (case hg => rfl); (case hr => first | (go_simp; done) | (go_simp; rfl)); (case hp => exact (Reps.one (show Kd.M (Kd.int .i64) _ _ _ 1 [.int .i64 1] from rfl) (Reps.none _ _))); intro v417 w76 ho77 hb hg_ hnew_; clear hg_ hnew_; (first | rw [← Ny416.out] at ho77 | (simp only [Int.reduceToNat] at ho77; rw [← Ny416.out] at ho77)); replace HO392 := ak (Kd.R_below (rT HO392 BK415 (by decide)) hb); replace HO395 := ak (Kd.R_below (rT HO395 BK415 (by decide)) hb); replace HO398 := ak (Kd.R_below (rT HO398 BK415 (by decide)) hb); replace HO401 := ak (Kd.R_below (rT HO401 BK415 (by decide)) hb); replace HO410 := ak (Kd.R_below (rT HO410 BK415 (by decide)) hb); replace HO413 := ak (Kd.R_below (rT HO413 BK415 (by decide)) hb); replace HO418 := ak (Kd.R_lower (Kd.R_new' ho77 (Kd.R_lt (rT HO405 BK415 (by decide)))) (below_size (lT HB (gC GE402 (gC GE415 gN))))); replace HO405 := ak (Kd.R_elder' (rT HO405 BK415 (by decide)) (Kd.R_base ho77) hb); replace BK402 := ak (blk_below (bT BK402 (nC NB402_415 nN)) hb); replace BK415 := ak (blk_below (g := gb415) (o := .cells #[.slice Ao72 t408.length co72, .slice Ao75 t411.length co75] 27 (0, 0)) (by (with_reducible repeat (first | refine blk_drewN ?_ _ | refine blk_drew ?_ | refine blk_alloc ?_ _)); refine blk_put (cs := #[.slice Ao72 t408.length co72, .slice none 0 0]) ?_ 1 _ rfl; (with_reducible repeat (first | refine blk_drewN ?_ _ | refine blk_drew ?_ | refine blk_alloc ?_ _)); refine blk_put (cs := #[.slice none 0 0, .slice none 0 0]) ?_ 0 _ rfl; (with_reducible repeat (first | refine blk_drewN ?_ _ | refine blk_drew ?_ | refine blk_alloc ?_ _)); exact BK415.out) hb); replace HB := ak (below_step (lT HB (gC GE402 (gC GE415 gN))) hb); clear hb ho77; obtain ⟨Ao78, co78, eo78⟩ := Kd.R_slice HO418.out; subst eo78) | ((with_reducible refine gate_callee (f := 17) rfl ?_); refine goesL_ (some 40) rfl rfl Try.func17 (by kernel_rfl) rfl #[.agg #[.slice Ao72 t408.length co72, .slice Ao75 t411.length co75], .slice Ao78 y416.length co78, .int .i64 ji18] rfl (by (try simp only [List.map_toArray, List.map_cons, List.map_nil]); first | done | (simp only [hji18]; rfl) | rfl | (simp only [List.length_drop, List.length_take]; rfl)) ?_; (with_reducible refine (impl_CrashDisk.calls k _ _ t408 _ _ t411 _ _ y416 ji18 t419 t422 _ ?side1 ?side2 ?side3 ?side4 ?side5 ?side6 A13.out).mono ?_); (case side1 => exact cG (Kd.R_reads' HO410.out).2.2); (case side2 => exact (Kd.R_reads' HO410.out).2.1); (case side3 => exact cG (Kd.R_reads' HO413.out).2.2); (case side4 => exact (Kd.R_reads' HO413.out).2.1); (case side5 => exact cG (Kd.R_reads' HO418.out).2.2); (case side6 => exact (Kd.R_reads' HO418.out).2.1); rintro e w79 ⟨v420, v423, rfl, ho0, ho1, hb⟩; refine ⟨_, rfl, ?_⟩; replace HO405 := rB HO405 hb; replace HO418 := rB HO418 hb; replace HO421 := ak (Kd.R_lower (Kd.R_new' (Kd.R_new' (Kd.R_new' ho0 (Kd.R_lt (rG HO392))) (Kd.R_lt (rG HO398))) (Kd.R_lt (rG HO410))) (below_size (lT HB (gC GE402 (gC GE415 gN))))); replace HO392 := ak (Kd.R_elder' (rG HO392) (Kd.R_base ho0) hb); replace HO398 := ak (Kd.R_elder' (rG HO398) (Kd.R_base ho0) hb); replace HO410 := ak (Kd.R_elder' (rG HO410) (Kd.R_base ho0) hb); replace HO424 := ak (Kd.R_lower (Kd.R_new' (Kd.R_new' (Kd.R_new' ho1 (Kd.R_lt (rG HO395))) (Kd.R_lt (rG HO401))) (Kd.R_lt (rG HO413))) (below_size (lT HB (gC GE402 (gC GE415 gN))))); replace HO395 := ak (Kd.R_elder' (rG HO395) (Kd.R_base ho1) hb); replace HO401 := ak (Kd.R_elder' (rG HO401) (Kd.R_base ho1) hb); replace HO413 := ak (Kd.R_elder' (rG HO413) (Kd.R_base ho1) hb); replace BK402 := bB BK402 hb; replace BK415 := bB BK415 hb; replace HB := ak (below_step (lT HB (gC GE402 (gC GE415 gN))) hb); (try clear hb); (try clear hb2); (try clear hk); (try clear hi); (try clear ho0); (try clear ho1)) | ((with_reducible refine gate_dst (N := 10) rfl ?_); refine box_event ?hg (N := 10) ?hd (cs := #[.slice none 0 0, .slice none 0 0]) (t := 27) ?hr ?_; (case hd => rfl); (case hg => rfl); (case hr => first | (go_simp; done) | (go_simp; rfl)); intro gb425 hg w80 hbox hb; replace HO392 := rB HO392 hb; replace HO395 := rB HO395 hb; replace HO398 := rB HO398 hb; replace HO401 := rB HO401 hb; replace HO405 := rB HO405 hb; replace HO410 := rB HO410 hb; replace HO413 := rB HO413 hb; replace HO418 := rB HO418 hb; replace HO421 := rB HO421 hb; replace HO424 := rB HO424 hb; replace BK425 := ak (hbox); replace GW425 := ak ((by rw [hg]; exact (below_size (lT HB (gC GE402 (gC GE415 gN)))) : w.heap.size ≤ gb425)); replace GE425 := ak ((by rw [hg]; exact (below_size (lT HB (gC GE402 (gC GE415 gN)))) : w.heap.size ≤ gb425)); replace HB := ak (below_step (lT HB (gC GE402 (gC GE415 gN))) hb); replace NB402_425 := ak ((by rw [hg]; exact Nat.ne_of_lt (blk_lt (bG BK402)) : gb402 ≠ gb425)); replace NB425_402 := ak ((by rw [hg]; exact Nat.ne_of_gt (blk_lt (bG BK402)) : gb425 ≠ gb402)); replace BK402 := bB BK402 hb; replace NB415_425 := ak ((by rw [hg]; exact Nat.ne_of_lt (blk_lt (bG BK415)) : gb415 ≠ gb425)); replace NB425_415 := ak ((by rw [hg]; exact Nat.ne_of_gt (blk_lt (bG BK415)) : gb425 ≠ gb415)); replace BK415 := bB BK415 hb; clear hb hbox hg; obtain ⟨Ao81, co81, eo81⟩ := Kd.R_slice HO421.out; subst eo81; have hnb82 := NB425_402.out; have hnc82 := NB402_425.out; have hnb83 := NB425_415.out; have hnc83 := NB415_425.out; obtain ⟨hcz84_0, hcz84_1, hfz84_0, hfz84_1⟩ := bC2 BK425; obtain ⟨Ao85, co85, eo85⟩ := Kd.R_slice HO424.out; subst eo85))
                have n0_ : Aside0 (Kd.R Kd.string 9 ((w80.setCell ⟨gb425, 0, none⟩ (.slice Ao81 t419.length co81)).setCell ⟨gb425, 1, none⟩ (.slice Ao85 t422.length co85)) w.heap.size (fun k_ => some k_ ≠ (.slice Ao63 t396.length co63 : Value).ownBlock ∧ some k_ ≠ (.slice Ao72 t408.length co72 : Value).ownBlock ∧ some k_ ≠ (.slice Ao81 t419.length co81 : Value).ownBlock) (.slice Ao59 t390.length co59) t390) := ⟨by (with_reducible repeat (first | apply Kd.R_alloc | apply Kd.R_drewN | apply Kd.R_drew)); exact Kd.R_mono (Kd.R_far (p := ⟨gb425, 1, none⟩) (Kd.R_far (p := ⟨gb425, 0, none⟩) (Kd.R_types HO392.out BK425.out (by decide)) (fun _ hk => hk.2) (.slice Ao81 t419.length co81)) (fun _ hk => hk.2) (.slice Ao85 t422.length co85)) (fun _ hk => ⟨hk.1.1.1.2, ⟨hk.1.1.2, hk.1.2⟩⟩)⟩
                have n1_ : Aside0 (Kd.R k63 63 ((w80.setCell ⟨gb425, 0, none⟩ (.slice Ao81 t419.length co81)).setCell ⟨gb425, 1, none⟩ (.slice Ao85 t422.length co85)) w.heap.size (fun k_ => some k_ ≠ (.slice Ao65 t399.length co65 : Value).ownBlock ∧ some k_ ≠ (.slice Ao75 t411.length co75 : Value).ownBlock ∧ some k_ ≠ (.slice Ao85 t422.length co85 : Value).ownBlock) (.slice Ao60 t393.length co60) t393) := ⟨by (with_reducible repeat (first | apply Kd.R_alloc | apply Kd.R_drewN | apply Kd.R_drew)); exact Kd.R_mono (Kd.R_far (p := ⟨gb425, 1, none⟩) (Kd.R_far (p := ⟨gb425, 0, none⟩) (Kd.R_types HO395.out BK425.out (by decide)) (fun _ hk => hk.2) (.slice Ao81 t419.length co81)) (fun _ hk => hk.2) (.slice Ao85 t422.length co85)) (fun _ hk => ⟨hk.1.1.1.2, ⟨hk.1.1.2, hk.1.2⟩⟩)⟩
                have n2_ : Aside0 (Kd.R Kd.string 9 ((w80.setCell ⟨gb425, 0, none⟩ (.slice Ao81 t419.length co81)).setCell ⟨gb425, 1, none⟩ (.slice Ao85 t422.length co85)) w.heap.size (fun k_ => some k_ ≠ (.slice Ao59 t390.length co59 : Value).ownBlock ∧ some k_ ≠ (.slice Ao72 t408.length co72 : Value).ownBlock ∧ some k_ ≠ (.slice Ao81 t419.length co81 : Value).ownBlock) (.slice Ao63 t396.length co63) t396) := ⟨by (with_reducible repeat (first | apply Kd.R_alloc | apply Kd.R_drewN | apply Kd.R_drew)); exact Kd.R_mono (Kd.R_far (p := ⟨gb425, 1, none⟩) (Kd.R_far (p := ⟨gb425, 0, none⟩) (Kd.R_types HO398.out BK425.out (by decide)) (fun _ hk => hk.2) (.slice Ao81 t419.length co81)) (fun _ hk => hk.2) (.slice Ao85 t422.length co85)) (fun _ hk => ⟨hk.1.1.1.2, ⟨hk.1.1.2, hk.1.2⟩⟩)⟩
                have n3_ : Aside0 (Kd.R k63 63 ((w80.setCell ⟨gb425, 0, none⟩ (.slice Ao81 t419.length co81)).setCell ⟨gb425, 1, none⟩ (.slice Ao85 t422.length co85)) w.heap.size (fun k_ => some k_ ≠ (.slice Ao60 t393.length co60 : Value).ownBlock ∧ some k_ ≠ (.slice Ao75 t411.length co75 : Value).ownBlock ∧ some k_ ≠ (.slice Ao85 t422.length co85 : Value).ownBlock) (.slice Ao65 t399.length co65) t399) := ⟨by (with_reducible repeat (first | apply Kd.R_alloc | apply Kd.R_drewN | apply Kd.R_drew)); exact Kd.R_mono (Kd.R_far (p := ⟨gb425, 1, none⟩) (Kd.R_far (p := ⟨gb425, 0, none⟩) (Kd.R_types HO401.out BK425.out (by decide)) (fun _ hk => hk.2) (.slice Ao81 t419.length co81)) (fun _ hk => hk.2) (.slice Ao85 t422.length co85)) (fun _ hk => ⟨hk.1.1.1.2, ⟨hk.1.1.2, hk.1.2⟩⟩)⟩
                have n4_ : Aside0 (Kd.R (Kd.int .i64) 3 ((w80.setCell ⟨gb425, 0, none⟩ (.slice Ao81 t419.length co81)).setCell ⟨gb425, 1, none⟩ (.slice Ao85 t422.length co85)) w.heap.size (fun k_ => some k_ ≠ (.slice Ao78 y416.length co78 : Value).ownBlock) (.slice (some ad406) t403.length co68) t403) := ⟨by (with_reducible repeat (first | apply Kd.R_alloc | apply Kd.R_drewN | apply Kd.R_drew)); exact Kd.R_mono (Kd.R_far (p := ⟨gb425, 1, none⟩) (Kd.R_far (p := ⟨gb425, 0, none⟩) (Kd.R_types HO405.out BK425.out (by decide)) (fun _ hk => hk.2) (.slice Ao81 t419.length co81)) (fun _ hk => hk.2) (.slice Ao85 t422.length co85)) (fun _ hk => hk.1.2)⟩
                have n5_ : Aside0 (Kd.R Kd.string 9 ((w80.setCell ⟨gb425, 0, none⟩ (.slice Ao81 t419.length co81)).setCell ⟨gb425, 1, none⟩ (.slice Ao85 t422.length co85)) w.heap.size (fun k_ => some k_ ≠ (.slice Ao59 t390.length co59 : Value).ownBlock ∧ some k_ ≠ (.slice Ao63 t396.length co63 : Value).ownBlock ∧ some k_ ≠ (.slice Ao81 t419.length co81 : Value).ownBlock) (.slice Ao72 t408.length co72) t408) := ⟨by (with_reducible repeat (first | apply Kd.R_alloc | apply Kd.R_drewN | apply Kd.R_drew)); exact Kd.R_mono (Kd.R_far (p := ⟨gb425, 1, none⟩) (Kd.R_far (p := ⟨gb425, 0, none⟩) (Kd.R_types HO410.out BK425.out (by decide)) (fun _ hk => hk.2) (.slice Ao81 t419.length co81)) (fun _ hk => hk.2) (.slice Ao85 t422.length co85)) (fun _ hk => ⟨hk.1.1.1.2, ⟨hk.1.1.2, hk.1.2⟩⟩)⟩
                have n6_ : Aside0 (Kd.R k63 63 ((w80.setCell ⟨gb425, 0, none⟩ (.slice Ao81 t419.length co81)).setCell ⟨gb425, 1, none⟩ (.slice Ao85 t422.length co85)) w.heap.size (fun k_ => some k_ ≠ (.slice Ao60 t393.length co60 : Value).ownBlock ∧ some k_ ≠ (.slice Ao65 t399.length co65 : Value).ownBlock ∧ some k_ ≠ (.slice Ao85 t422.length co85 : Value).ownBlock) (.slice Ao75 t411.length co75) t411) := ⟨by (with_reducible repeat (first | apply Kd.R_alloc | apply Kd.R_drewN | apply Kd.R_drew)); exact Kd.R_mono (Kd.R_far (p := ⟨gb425, 1, none⟩) (Kd.R_far (p := ⟨gb425, 0, none⟩) (Kd.R_types HO413.out BK425.out (by decide)) (fun _ hk => hk.2) (.slice Ao81 t419.length co81)) (fun _ hk => hk.2) (.slice Ao85 t422.length co85)) (fun _ hk => ⟨hk.1.1.1.2, ⟨hk.1.1.2, hk.1.2⟩⟩)⟩
                have n7_ : Aside0 (Kd.R (Kd.int .i64) 3 ((w80.setCell ⟨gb425, 0, none⟩ (.slice Ao81 t419.length co81)).setCell ⟨gb425, 1, none⟩ (.slice Ao85 t422.length co85)) w.heap.size (fun k_ => some k_ ≠ (.slice (some ad406) t403.length co68 : Value).ownBlock) (.slice Ao78 y416.length co78) y416) := ⟨by (with_reducible repeat (first | apply Kd.R_alloc | apply Kd.R_drewN | apply Kd.R_drew)); exact Kd.R_mono (Kd.R_far (p := ⟨gb425, 1, none⟩) (Kd.R_far (p := ⟨gb425, 0, none⟩) (Kd.R_types HO418.out BK425.out (by decide)) (fun _ hk => hk.2) (.slice Ao81 t419.length co81)) (fun _ hk => hk.2) (.slice Ao85 t422.length co85)) (fun _ hk => hk.1.2)⟩
                have n8_ : Aside0 (Kd.R Kd.string 9 ((w80.setCell ⟨gb425, 0, none⟩ (.slice Ao81 t419.length co81)).setCell ⟨gb425, 1, none⟩ (.slice Ao85 t422.length co85)) w.heap.size (fun k_ => some k_ ≠ (.slice Ao59 t390.length co59 : Value).ownBlock ∧ some k_ ≠ (.slice Ao63 t396.length co63 : Value).ownBlock ∧ some k_ ≠ (.slice Ao72 t408.length co72 : Value).ownBlock) (.slice Ao81 t419.length co81) t419) := ⟨by (with_reducible repeat (first | apply Kd.R_alloc | apply Kd.R_drewN | apply Kd.R_drew)); exact Kd.R_mono (Kd.R_far (p := ⟨gb425, 1, none⟩) (Kd.R_far (p := ⟨gb425, 0, none⟩) (Kd.R_types HO421.out BK425.out (by decide)) (fun _ hk => hk.2) (.slice Ao81 t419.length co81)) (fun _ hk => hk.2) (.slice Ao85 t422.length co85)) (fun _ hk => ⟨hk.1.1.1.2, ⟨hk.1.1.2, hk.1.2⟩⟩)⟩
                have n9_ : Aside0 (Kd.R k63 63 ((w80.setCell ⟨gb425, 0, none⟩ (.slice Ao81 t419.length co81)).setCell ⟨gb425, 1, none⟩ (.slice Ao85 t422.length co85)) w.heap.size (fun k_ => some k_ ≠ (.slice Ao60 t393.length co60 : Value).ownBlock ∧ some k_ ≠ (.slice Ao65 t399.length co65 : Value).ownBlock ∧ some k_ ≠ (.slice Ao75 t411.length co75 : Value).ownBlock) (.slice Ao85 t422.length co85) t422) := ⟨by (with_reducible repeat (first | apply Kd.R_alloc | apply Kd.R_drewN | apply Kd.R_drew)); exact Kd.R_mono (Kd.R_far (p := ⟨gb425, 1, none⟩) (Kd.R_far (p := ⟨gb425, 0, none⟩) (Kd.R_types HO424.out BK425.out (by decide)) (fun _ hk => hk.2) (.slice Ao81 t419.length co81)) (fun _ hk => hk.2) (.slice Ao85 t422.length co85)) (fun _ hk => ⟨hk.1.1.1.2, ⟨hk.1.1.2, hk.1.2⟩⟩)⟩
                have n10_ : Aside0 (((w80.setCell ⟨gb425, 0, none⟩ (.slice Ao81 t419.length co81)).setCell ⟨gb425, 1, none⟩ (.slice Ao85 t422.length co85)).heap[gb402]? = some (.cells #[.slice Ao63 t396.length co63, .slice Ao65 t399.length co65] 27 (0, 0))) := ⟨by (with_reducible repeat (first | refine blk_drewN ?_ _ | refine blk_drew ?_ | refine blk_alloc ?_ _)); refine blk_far ?_ NB402_425.out _; (with_reducible repeat (first | refine blk_drewN ?_ _ | refine blk_drew ?_ | refine blk_alloc ?_ _)); refine blk_far ?_ NB402_425.out _; (with_reducible repeat (first | refine blk_drewN ?_ _ | refine blk_drew ?_ | refine blk_alloc ?_ _)); exact BK402.out⟩
                have n11_ : Aside0 (((w80.setCell ⟨gb425, 0, none⟩ (.slice Ao81 t419.length co81)).setCell ⟨gb425, 1, none⟩ (.slice Ao85 t422.length co85)).heap[gb415]? = some (.cells #[.slice Ao72 t408.length co72, .slice Ao75 t411.length co75] 27 (0, 0))) := ⟨by (with_reducible repeat (first | refine blk_drewN ?_ _ | refine blk_drew ?_ | refine blk_alloc ?_ _)); refine blk_far ?_ NB415_425.out _; (with_reducible repeat (first | refine blk_drewN ?_ _ | refine blk_drew ?_ | refine blk_alloc ?_ _)); refine blk_far ?_ NB415_425.out _; (with_reducible repeat (first | refine blk_drewN ?_ _ | refine blk_drew ?_ | refine blk_alloc ?_ _)); exact BK415.out⟩
                have n12_ : Aside0 (((w80.setCell ⟨gb425, 0, none⟩ (.slice Ao81 t419.length co81)).setCell ⟨gb425, 1, none⟩ (.slice Ao85 t422.length co85)).heap[gb425]? = some (.cells #[.slice Ao81 t419.length co81, .slice Ao85 t422.length co85] 27 (0, 0))) := ⟨by (with_reducible repeat (first | refine blk_drewN ?_ _ | refine blk_drew ?_ | refine blk_alloc ?_ _)); refine blk_put (cs := #[.slice Ao81 t419.length co81, .slice none 0 0]) ?_ 1 _ rfl; (with_reducible repeat (first | refine blk_drewN ?_ _ | refine blk_drew ?_ | refine blk_alloc ?_ _)); refine blk_put (cs := #[.slice none 0 0, .slice none 0 0]) ?_ 0 _ rfl; (with_reducible repeat (first | refine blk_drewN ?_ _ | refine blk_drew ?_ | refine blk_alloc ?_ _)); exact BK425.out⟩
                have n13_ : Aside0 (Below w.heap.size w ((w80.setCell ⟨gb425, 0, none⟩ (.slice Ao81 t419.length co81)).setCell ⟨gb425, 1, none⟩ (.slice Ao85 t422.length co85))) := ⟨by exact lT HB (gC GE402 (gC GE415 (gC GE425 gN)))⟩
                (try clear HO392)
                (try clear HO395)
                (try clear HO398)
                (try clear HO401)
                (try clear HO405)
                (try clear HO410)
                (try clear HO413)
                (try clear HO418)
                (try clear HO421)
                (try clear HO424)
                (try clear BK402)
                (try clear BK415)
                (try clear BK425)
                (try clear HB)
                generalize ((w80.setCell ⟨gb425, 0, none⟩ (.slice Ao81 t419.length co81)).setCell ⟨gb425, 1, none⟩ (.slice Ao85 t422.length co85)) = w86 at n0_ n1_ n2_ n3_ n4_ n5_ n6_ n7_ n8_ n9_ n10_ n11_ n12_ n13_ ⊢
                have HO392 := n0_
                have HO395 := n1_
                have HO398 := n2_
                have HO401 := n3_
                have HO405 := n4_
                have HO410 := n5_
                have HO413 := n6_
                have HO418 := n7_
                have HO421 := n8_
                have HO424 := n9_
                have BK402 := n10_
                have BK415 := n11_
                have BK425 := n12_
                have HB := n13_
                clear n0_ n1_ n2_ n3_ n4_ n5_ n6_ n7_ n8_ n9_ n10_ n11_ n12_ n13_
                replace HO392 := ak (Kd.R_drew HO392.out)
                replace HO395 := ak (Kd.R_drew HO395.out)
                replace HO398 := ak (Kd.R_drew HO398.out)
                replace HO401 := ak (Kd.R_drew HO401.out)
                replace HO405 := ak (Kd.R_drew HO405.out)
                replace HO410 := ak (Kd.R_drew HO410.out)
                replace HO413 := ak (Kd.R_drew HO413.out)
                replace HO418 := ak (Kd.R_drew HO418.out)
                replace HO421 := ak (Kd.R_drew HO421.out)
                replace HO424 := ak (Kd.R_drew HO424.out)
                replace BK402 := ak (blk_drew BK402.out)
                replace BK415 := ak (blk_drew BK415.out)
                replace BK425 := ak (blk_drew BK425.out)
                replace HB := ak (below_drew1 HB.out)
                have p426 : 0 ≤ ((ji15) : Int) := of_decide_eq_true (by first | (with_reducible assumption) | assumption)
                have q426 : (ji15) < (t419.length : Int) := of_decide_eq_true (by first | (with_reducible assumption) | assumption)
                obtain ⟨ad426, e426, hx426_0⟩ := Kd.at_string (Kd.R_reads' HO421.out).2.2 (ji15) p426 q426
                cases e426
                replace p426 := eq_true p426
                replace q426 := eq_true q426
                have p427 : 0 ≤ ((ji15) : Int) := of_decide_eq_true (by first | (with_reducible assumption) | assumption)
                have q427 : (ji15) < (t396.length : Int) := of_decide_eq_true (by first | (with_reducible assumption) | assumption)
                obtain ⟨ad427, e427, hx427_0⟩ := Kd.at_string (Kd.R_reads' HO398.out).2.2 (ji15) p427 q427
                cases e427
                replace p427 := eq_true p427
                replace q427 := eq_true q427
                refine start_ (n := 25) (S := fun w' => w'.cell? ⟨gb425, 0, none⟩ = some (.slice (some ad426) t419.length co81) ∧ w'.cell? ⟨gb425, 1, none⟩ = some (.slice Ao85 t422.length co85) ∧ w'.cell? ⟨gb402, 0, none⟩ = some (.slice (some ad427) t396.length co63) ∧ w'.cell? ⟨gb402, 1, none⟩ = some (.slice Ao65 t399.length co65) ∧ w'.cell? (ad426.add ((ji15)).toNat) = some (.string (rdOf ByteArray.empty t419 (ji15))) ∧ w'.cell? (ad427.add ((ji15)).toNat) = some (.string (rdOf ByteArray.empty t396 (ji15)))) (ds := []) #[f_,f_,f_,f_,f_,f_,f_,f_,f_,f_,f_,f_,f_,f_,f_,f_,f_,f_,f_,f_,f_,f_,f_,f_,f_] (by kernel_rfl) rfl rfl ⟨(blk_cell BK425.out 0).trans rfl, (blk_cell BK425.out 1).trans rfl, (blk_cell BK402.out 0).trans rfl, (blk_cell BK402.out 1).trans rfl, hx426_0, hx427_0⟩ (fun hHeld => ?_); refine with_tabW laws_FnTorn.tab10 laws_FnTorn.bits10 (fun HT_ HW_ => ?_)
                generalize w86.drew = w87 at HO392 HO395 HO398 HO401 HO405 HO410 HO413 HO418 HO421 HO424 BK402 BK415 BK425 HB hx426_0 hx427_0 hHeld ⊢
                refine pure_ (i := 0) (N := some 41) (v := ?_) (a' := ?_) #[t_,f_,f_,f_,f_,f_,f_,f_,f_,f_,f_,f_,f_,f_,f_,f_,f_,f_,f_,f_,f_,f_,f_,f_,f_] rfl rfl (any_of HT_.out (by kernel_rfl)) (fun _ _ _ h => h) (Or.inl ⟨by rfl, ?_⟩) ?_ ?_
                rotate_left
                ·intro w'
                 go_simp
                 with_reducible rfl
                rotate_left
                ·simp only [Act.put, List.setIfInBounds_toArray, List.set_cons_zero, List.set_cons_succ, i64_w, i32_w]
                 rfl
                refine pure_ (i := 1) (N := some 42) (v := ?_) (a' := ?_) #[t_,t_,f_,f_,f_,f_,f_,f_,f_,f_,f_,f_,f_,f_,f_,f_,f_,f_,f_,f_,f_,f_,f_,f_,f_] rfl rfl (any_of HT_.out (by kernel_rfl)) (fun _ _ _ h => h) (Or.inl ⟨by rfl, ?_⟩) ?_ ?_
                rotate_left
                ·intro w'
                 go_simp
                 with_reducible rfl
                rotate_left
                ·simp only [Act.put, List.setIfInBounds_toArray, List.set_cons_zero, List.set_cons_succ, i64_w, i32_w]
                 rfl
                refine pure_ (i := 2) (N := some 43) (v := ?_) (a' := ?_) #[t_,t_,t_,f_,f_,f_,f_,f_,f_,f_,f_,f_,f_,f_,f_,f_,f_,f_,f_,f_,f_,f_,f_,f_,f_] rfl rfl (any_of HT_.out (by kernel_rfl)) (fun _ _ _ h => h) (Or.inl ⟨by rfl, ?_⟩) ?_ ?_
                rotate_left
                ·intro w'
                 go_simp
                 with_reducible rfl
                rotate_left
                ·simp only [Act.put, List.setIfInBounds_toArray, List.set_cons_zero, List.set_cons_succ, i64_w, i32_w]
                 rfl
                refine pure_ (i := 4) (N := some 45) (v := ?_) (a' := ?_) #[t_,t_,t_,f_,t_,f_,f_,f_,f_,f_,f_,f_,f_,f_,f_,f_,f_,f_,f_,f_,f_,f_,f_,f_,f_] rfl rfl (any_of HT_.out (by kernel_rfl)) (fun _ _ _ h => h) (Or.inl ⟨by rfl, ?_⟩) ?_ ?_
                rotate_left
                ·intro w'
                 go_simp
                 with_reducible rfl
                rotate_left
                ·simp only [Act.put, List.setIfInBounds_toArray, List.set_cons_zero, List.set_cons_succ, i64_w, i32_w]
                 rfl
                refine pure_ (i := 7) (N := some 48) (v := ?_) (a' := ?_) #[t_,t_,t_,f_,t_,f_,f_,t_,f_,f_,f_,f_,f_,f_,f_,f_,f_,f_,f_,f_,f_,f_,f_,f_,f_] rfl rfl (any_of HT_.out (by kernel_rfl)) (fun _ _ _ h => h) (Or.inl ⟨by rfl, ?_⟩) ?_ ?_
                rotate_left
                ·intro w'
                 go_simp
                 with_reducible rfl
                rotate_left
                ·simp only [Act.put, List.setIfInBounds_toArray, List.set_cons_zero, List.set_cons_succ, i64_w, i32_w]
                 rfl
                refine pure_ (i := 8) (N := some 49) (v := ?_) (a' := ?_) #[t_,t_,t_,f_,t_,f_,f_,t_,t_,f_,f_,f_,f_,f_,f_,f_,f_,f_,f_,f_,f_,f_,f_,f_,f_] rfl rfl (any_of HT_.out (by kernel_rfl)) (fun _ _ _ h => h) (Or.inl ⟨by rfl, ?_⟩) ?_ ?_
                rotate_left
                ·intro w'
                 go_simp
                 with_reducible rfl
                rotate_left
                ·simp only [Act.put, List.setIfInBounds_toArray, List.set_cons_zero, List.set_cons_succ, i64_w, i32_w]
                 rfl
                refine pure_ (i := 9) (N := some 50) (v := ?_) (a' := ?_) #[t_,t_,t_,f_,t_,f_,f_,t_,t_,t_,f_,f_,f_,f_,f_,f_,f_,f_,f_,f_,f_,f_,f_,f_,f_] rfl rfl (any_of HT_.out (by kernel_rfl)) (fun _ _ _ h => h) (Or.inl ⟨by rfl, ?_⟩) ?_ ?_
                rotate_left
                ·intro w'
                 go_simp
                 with_reducible rfl
                rotate_left
                ·simp only [Act.put, List.setIfInBounds_toArray, List.set_cons_zero, List.set_cons_succ, i64_w, i32_w]
                 rfl
                refine pure_ (i := 10) (N := some 51) (v := ?_) (a' := ?_) #[t_,t_,t_,f_,t_,f_,f_,t_,t_,t_,t_,f_,f_,f_,f_,f_,f_,f_,f_,f_,f_,f_,f_,f_,f_] rfl rfl (any_of HT_.out (by kernel_rfl)) (fun _ _ _ h => h) (Or.inl ⟨by rfl, ?_⟩) ?_ ?_
                rotate_left
                ·intro w'
                 go_simp
                 with_reducible rfl
                rotate_left
                ·simp only [Act.put, List.setIfInBounds_toArray, List.set_cons_zero, List.set_cons_succ, i64_w, i32_w]
                 rfl
                refine pure_ (i := 12) (N := some 53) (v := ?_) (a' := ?_) #[t_,t_,t_,f_,t_,f_,f_,t_,t_,t_,t_,f_,t_,f_,f_,f_,f_,f_,f_,f_,f_,f_,f_,f_,f_] rfl rfl (any_of HT_.out (by kernel_rfl)) (fun _ _ _ h => h) (Or.inl ⟨by rfl, ?_⟩) ?_ ?_
                rotate_left
                ·intro w'
                 go_simp
                 with_reducible rfl
                rotate_left
                ·simp only [Act.put, List.setIfInBounds_toArray, List.set_cons_zero, List.set_cons_succ, i64_w, i32_w]
                 rfl
                refine pure_ (i := 15) (N := some 56) (v := ?_) (a' := ?_) #[t_,t_,t_,f_,t_,f_,f_,t_,t_,t_,t_,f_,t_,f_,f_,t_,f_,f_,f_,f_,f_,f_,f_,f_,f_] rfl rfl (any_of HT_.out (by kernel_rfl)) (fun _ _ _ h => h) (Or.inl ⟨by rfl, ?_⟩) ?_ ?_
                rotate_left
                ·intro w'
                 go_simp
                 with_reducible rfl
                rotate_left
                ·simp only [Act.put, List.setIfInBounds_toArray, List.set_cons_zero, List.set_cons_succ, i64_w, i32_w]
                 rfl
                refine take_ (i := 3) (N := some 44) (v := ?_) (a' := ?_) #[t_,t_,t_,t_,t_,f_,f_,t_,t_,t_,t_,f_,t_,f_,f_,t_,f_,f_,f_,f_,f_,f_,f_,f_,f_] rfl rfl (take_ofW HT_.out HW_.out (by kernel_rfl)) (fun _ _ _ h => h) (Or.inl ⟨by rfl, ?_⟩) hHeld ?_ ?_
                rotate_left
                ·rintro w' ⟨s0, s1, s2, s3, s4, s5⟩
                 go_simp
                 with_reducible rfl
                rotate_left
                ·simp only [Act.put, List.setIfInBounds_toArray, List.set_cons_zero, List.set_cons_succ, i64_w, i32_w]
                 rfl
                refine pure_ (i := 5) (N := some 46) (v := ?_) (a' := ?_) #[t_,t_,t_,t_,t_,t_,f_,t_,t_,t_,t_,f_,t_,f_,f_,t_,f_,f_,f_,f_,f_,f_,f_,f_,f_] rfl rfl (any_of HT_.out (by kernel_rfl)) (fun _ _ _ h => h) (Or.inl ⟨by rfl, ?_⟩) ?_ ?_
                rotate_left
                ·intro w'
                 go_simp
                 with_reducible rfl
                rotate_left
                ·simp only [Act.put, List.setIfInBounds_toArray, List.set_cons_zero, List.set_cons_succ, i64_w, i32_w]
                 rfl
                refine take_ (i := 6) (N := some 47) (v := ?_) (a' := ?_) #[t_,t_,t_,t_,t_,t_,t_,t_,t_,t_,t_,f_,t_,f_,f_,t_,f_,f_,f_,f_,f_,f_,f_,f_,f_] rfl rfl (take_ofW HT_.out HW_.out (by kernel_rfl)) (fun _ _ _ h => h) (Or.inl ⟨by rfl, ?_⟩) hHeld ?_ ?_
                rotate_left
                ·rintro w' ⟨s0, s1, s2, s3, s4, s5⟩
                 go_simp
                 with_reducible rfl
                rotate_left
                ·simp only [Act.put, List.setIfInBounds_toArray, List.set_cons_zero, List.set_cons_succ, i64_w, i32_w]
                 rfl
                refine take_ (i := 11) (N := some 52) (v := ?_) (a' := ?_) #[t_,t_,t_,t_,t_,t_,t_,t_,t_,t_,t_,t_,t_,f_,f_,t_,f_,f_,f_,f_,f_,f_,f_,f_,f_] rfl rfl (take_ofW HT_.out HW_.out (by kernel_rfl)) (fun _ _ _ h => h) (Or.inl ⟨by rfl, ?_⟩) hHeld ?_ ?_
                rotate_left
                ·rintro w' ⟨s0, s1, s2, s3, s4, s5⟩
                 go_simp
                 with_reducible rfl
                rotate_left
                ·simp only [Act.put, List.setIfInBounds_toArray, List.set_cons_zero, List.set_cons_succ, i64_w, i32_w]
                 rfl
                refine pure_ (i := 13) (N := some 54) (v := ?_) (a' := ?_) #[t_,t_,t_,t_,t_,t_,t_,t_,t_,t_,t_,t_,t_,t_,f_,t_,f_,f_,f_,f_,f_,f_,f_,f_,f_] rfl rfl (any_of HT_.out (by kernel_rfl)) (fun _ _ _ h => h) (Or.inl ⟨by rfl, ?_⟩) ?_ ?_
                rotate_left
                ·intro w'
                 go_simp
                 with_reducible rfl
                rotate_left
                ·simp only [Act.put, List.setIfInBounds_toArray, List.set_cons_zero, List.set_cons_succ, i64_w, i32_w]
                 rfl
                refine take_ (i := 14) (N := some 55) (v := ?_) (a' := ?_) #[t_,t_,t_,t_,t_,t_,t_,t_,t_,t_,t_,t_,t_,t_,t_,t_,f_,f_,f_,f_,f_,f_,f_,f_,f_] rfl rfl (take_ofW HT_.out HW_.out (by kernel_rfl)) (fun _ _ _ h => h) (Or.inl ⟨by rfl, ?_⟩) hHeld ?_ ?_
                rotate_left
                ·rintro w' ⟨s0, s1, s2, s3, s4, s5⟩
                 go_simp
                 with_reducible rfl
                rotate_left
                ·simp only [Act.put, List.setIfInBounds_toArray, List.set_cons_zero, List.set_cons_succ, i64_w, i32_w]
                 rfl
                refine pure_ (i := 16) (N := some 57) (v := ?_) (a' := ?_) #[t_,t_,t_,t_,t_,t_,t_,t_,t_,t_,t_,t_,t_,t_,t_,t_,t_,f_,f_,f_,f_,f_,f_,f_,f_] rfl rfl (any_of HT_.out (by kernel_rfl)) (fun _ _ _ h => h) (Or.inl ⟨by rfl, ?_⟩) ?_ ?_
                rotate_left
                ·intro w'
                 go_simp
                 with_reducible rfl
                rotate_left
                ·simp only [Act.put, List.setIfInBounds_toArray, List.set_cons_zero, List.set_cons_succ, i64_w, i32_w]
                 rfl
                refine pure_ (i := 17) (N := some 58) (v := ?_) (a' := ?_) #[t_,t_,t_,t_,t_,t_,t_,t_,t_,t_,t_,t_,t_,t_,t_,t_,t_,t_,f_,f_,f_,f_,f_,f_,f_] rfl rfl (any_of HT_.out (by kernel_rfl)) (fun _ _ _ h => h) (Or.inl ⟨by rfl, ?_⟩) ?_ ?_
                rotate_left
                ·intro w'
                 go_simp
                 with_reducible rfl
                rotate_left
                ·simp only [Act.put, List.setIfInBounds_toArray, List.set_cons_zero, List.set_cons_succ, i64_w, i32_w]
                 rfl
                refine pure_ (i := 18) (N := some 59) (v := ?_) (a' := ?_) #[t_,t_,t_,t_,t_,t_,t_,t_,t_,t_,t_,t_,t_,t_,t_,t_,t_,t_,t_,f_,f_,f_,f_,f_,f_] rfl rfl (any_of HT_.out (by kernel_rfl)) (fun _ _ _ h => h) (Or.inl ⟨by rfl, ?_⟩) ?_ ?_
                rotate_left
                ·intro w'
                 go_simp
                 with_reducible rfl
                rotate_left
                ·simp only [Act.put, List.setIfInBounds_toArray, List.set_cons_zero, List.set_cons_succ, i64_w, i32_w]
                 rfl
                refine pure_ (i := 19) (N := some 60) (v := ?_) (a' := ?_) #[t_,t_,t_,t_,t_,t_,t_,t_,t_,t_,t_,t_,t_,t_,t_,t_,t_,t_,t_,t_,f_,f_,f_,f_,f_] rfl rfl (any_of HT_.out (by kernel_rfl)) (fun _ _ _ h => h) (Or.inl ⟨by rfl, ?_⟩) ?_ ?_
                rotate_left
                ·intro w'
                 go_simp
                 with_reducible rfl
                rotate_left
                ·simp only [Act.put, List.setIfInBounds_toArray, List.set_cons_zero, List.set_cons_succ, i64_w, i32_w]
                 rfl
                refine pure_ (i := 20) (N := some 61) (v := ?_) (a' := ?_) #[t_,t_,t_,t_,t_,t_,t_,t_,t_,t_,t_,t_,t_,t_,t_,t_,t_,t_,t_,t_,t_,f_,f_,f_,f_] rfl rfl (any_of HT_.out (by kernel_rfl)) (fun _ _ _ h => h) (Or.inl ⟨by rfl, ?_⟩) ?_ ?_
                rotate_left
                ·intro w'
                 go_simp
                 with_reducible rfl
                rotate_left
                ·simp only [Act.put, List.setIfInBounds_toArray, List.set_cons_zero, List.set_cons_succ, i64_w, i32_w]
                 rfl
                refine pure_ (i := 21) (N := some 62) (v := undef) (a' := ?_) #[t_,t_,t_,t_,t_,t_,t_,t_,t_,t_,t_,t_,t_,t_,t_,t_,t_,t_,t_,t_,t_,t_,f_,f_,f_] rfl rfl (any_of HT_.out (by kernel_rfl)) (fun _ _ _ h => h) (Or.inr ⟨by rfl, rfl⟩) ?_ ?_
                rotate_left
                ·simp only [Act.put, List.setIfInBounds_toArray, List.set_cons_zero, List.set_cons_succ, i64_w, i32_w]
                 rfl
                refine pure_ (i := 22) (N := some 63) (v := undef) (a' := ?_) #[t_,t_,t_,t_,t_,t_,t_,t_,t_,t_,t_,t_,t_,t_,t_,t_,t_,t_,t_,t_,t_,t_,t_,f_,f_] rfl rfl (any_of HT_.out (by kernel_rfl)) (fun _ _ _ h => h) (Or.inr ⟨by rfl, rfl⟩) ?_ ?_
                rotate_left
                ·simp only [Act.put, List.setIfInBounds_toArray, List.set_cons_zero, List.set_cons_succ, i64_w, i32_w]
                 rfl
                refine pure_ (i := 23) (N := some 64) (v := ?_) (a' := ?_) #[t_,t_,t_,t_,t_,t_,t_,t_,t_,t_,t_,t_,t_,t_,t_,t_,t_,t_,t_,t_,t_,t_,t_,t_,f_] rfl rfl (any_of HT_.out (by kernel_rfl)) (fun _ _ _ h => h) (Or.inl ⟨by rfl, ?_⟩) ?_ ?_
                rotate_left
                ·intro w'
                 go_simp
                 with_reducible rfl
                rotate_left
                ·simp only [Act.put, List.setIfInBounds_toArray, List.set_cons_zero, List.set_cons_succ, i64_w, i32_w]
                 rfl
                refine pure_ (i := 24) (N := some 2) (v := ?_) (a' := ?_) #[t_,t_,t_,t_,t_,t_,t_,t_,t_,t_,t_,t_,t_,t_,t_,t_,t_,t_,t_,t_,t_,t_,t_,t_,t_] rfl rfl (any_of HT_.out (by kernel_rfl)) (fun _ _ _ h => h) (Or.inl ⟨by rfl, ?_⟩) ?_ ?_
                rotate_left
                ·intro w'
                 go_simp
                 with_reducible rfl
                rotate_left
                ·simp only [Act.put, List.setIfInBounds_toArray, List.set_cons_zero, List.set_cons_succ, i64_w, i32_w]
                 rfl
                refine done_ (done_of HT_.out (by kernel_rfl)) ?_
                try go_wp2
                go_ret
                exact ⟨by first | rfl | (simp [errW_none, errW_some] <;> rfl) | (simp only [← hji15, ← hji18]; first | rfl | (simp [errW_none, errW_some] <;> rfl)) | (simp [*, errW_none, errW_some] <;> rfl), by exact lT HB (gC GE402 (gC GE415 (gC GE425 gN)))⟩
              ·rw [if_neg c24] at H
               exact absurd H (by simp)
             ·rw [if_neg c23] at H
              exact absurd H (by simp)
            ·rw [if_neg c21] at H
             exact absurd H (by simp)
           ·rw [if_neg c20] at H
            exact absurd H (by simp)
          ·rw [if_neg c19] at H
           exact absurd H (by simp)
         ·rw [if_neg c17] at H
          exact absurd H (by simp)
        ·rw [if_neg c16] at H
         exact absurd H (by simp)
       ·replace c14 := Bool.eq_false_iff.mpr c14
        subst c14
        have H1 : (some false) = some r := by rw [if_neg (show ¬ (false = true) by decide)] at H; exact H
        clear H
        have H := H1
        clear H1
        obtain rfl := Option.some.inj H
        go_enter Try.func4, Try.ntmps4
        try go_wp2_with (first | ((with_reducible refine gate_callee (f := 9) rfl ?_); refine goesL_ (some 12) rfl rfl Try.func9 (by kernel_rfl) rfl #[.slice A0 l0.length c0] rfl (by (try simp only [List.map_toArray, List.map_cons, List.map_nil]); first | done | rfl | (simp only [List.length_drop, List.length_take]; rfl)) ?_; (with_reducible refine (laws_big.calls _ _ l0 false _ ?side1 ?side2 A2.out).mono ?_); (case side1 => repeat (first | exact HR0.out | (with_reducible refine Kd.C_alloc ?_ _) | (with_reducible refine Kd.C_drewN ?_ _) | (with_reducible refine Kd.C_drew ?_))); (case side2 => exact HC0.out); rintro e w' ⟨rfl, ⟨nd, rfl⟩⟩; refine ⟨_, rfl, ?_⟩) | ((with_reducible refine gate_callee (f := 10) rfl ?_); refine goesL_ (some 14) rfl rfl Try.func10 (by kernel_rfl) rfl #[.slice A0 l0.length c0] rfl (by (try simp only [List.map_toArray, List.map_cons, List.map_nil]); first | done | rfl | (simp only [List.length_drop, List.length_take]; rfl)) ?_; (with_reducible refine (spec_DrawDisk.calls k _ _ l0 t390 t393 _ ?side1 ?side2 A4.out).mono ?_); (case side1 => repeat (first | exact HR0.out | (with_reducible refine Kd.C_alloc ?_ _) | (with_reducible refine Kd.C_drewN ?_ _) | (with_reducible refine Kd.C_drew ?_))); (case side2 => exact HC0.out); rintro e w88 ⟨v391, v394, rfl, ho0, ho1, hb⟩; refine ⟨_, rfl, ?_⟩; replace HO392 := ak (Kd.R_lower ho0 (below_size (lG HB))); replace HO395 := ak (Kd.R_lower ho1 (below_size (lG HB))); replace HB := lB HB hb; (try clear hb); (try clear hb2); (try clear hk); (try clear hi); (try clear ho0); (try clear ho1); obtain ⟨Ao89, co89, eo89⟩ := Kd.R_slice HO392.out; subst eo89; obtain ⟨Ao90, co90, eo90⟩ := Kd.R_slice HO395.out; subst eo90) | ((with_reducible refine gate_callee (f := 13) rfl ?_); refine goesL_ (some 15) rfl rfl Try.func13 (by kernel_rfl) rfl #[.agg #[.slice Ao89 t390.length co89, .slice Ao90 t393.length co90]] rfl (by (try simp only [List.map_toArray, List.map_cons, List.map_nil]); first | done | rfl | (simp only [List.length_drop, List.length_take]; rfl)) ?_; (with_reducible refine (impl_FlushDisk.calls k _ _ t390 _ _ t393 t396 t399 _ ?side1 ?side2 ?side3 ?side4 A5.out).mono ?_); (case side1 => exact cG (Kd.R_reads' HO392.out).2.2); (case side2 => exact (Kd.R_reads' HO392.out).2.1); (case side3 => exact cG (Kd.R_reads' HO395.out).2.2); (case side4 => exact (Kd.R_reads' HO395.out).2.1); rintro e w91 ⟨v397, v400, rfl, ho0, ho1, hb⟩; refine ⟨_, rfl, ?_⟩; replace HO398 := ak (Kd.R_lower (Kd.R_new' ho0 (Kd.R_lt (rG HO392))) (below_size (lG HB))); replace HO392 := ak (Kd.R_elder' (rG HO392) (Kd.R_base ho0) hb); replace HO401 := ak (Kd.R_lower (Kd.R_new' ho1 (Kd.R_lt (rG HO395))) (below_size (lG HB))); replace HO395 := ak (Kd.R_elder' (rG HO395) (Kd.R_base ho1) hb); replace HB := lB HB hb; (try clear hb); (try clear hb2); (try clear hk); (try clear hi); (try clear ho0); (try clear ho1)) | ((with_reducible refine gate_dst (N := 3) rfl ?_); refine box_event ?hg (N := 3) ?hd (cs := #[.slice none 0 0, .slice none 0 0]) (t := 27) ?hr ?_; (case hd => rfl); (case hg => rfl); (case hr => first | (go_simp; done) | (go_simp; rfl)); intro gb402 hg w92 hbox hb; replace HO392 := rB HO392 hb; replace HO395 := rB HO395 hb; replace HO398 := rB HO398 hb; replace HO401 := rB HO401 hb; replace BK402 := ak (hbox); replace GW402 := ak ((by rw [hg]; exact (below_size (lG HB)) : w.heap.size ≤ gb402)); replace GE402 := ak ((by rw [hg]; exact (below_size (lG HB)) : w.heap.size ≤ gb402)); replace HB := lB HB hb; clear hb hbox hg; obtain ⟨Ao93, co93, eo93⟩ := Kd.R_slice HO398.out; subst eo93; obtain ⟨hcz94_0, hcz94_1, hfz94_0, hfz94_1⟩ := bC2 BK402; obtain ⟨Ao95, co95, eo95⟩ := Kd.R_slice HO401.out; subst eo95) | ((with_reducible refine gate_callee (f := 11) rfl ?_); refine goesL_ (some 17) rfl rfl Try.func11 (by kernel_rfl) rfl #[.slice A0 l0.length c0] rfl (by (try simp only [List.map_toArray, List.map_cons, List.map_nil]); first | done | rfl | (simp only [List.length_drop, List.length_take]; rfl)) ?_; (with_reducible refine (spec_DrawPlaces.calls k _ _ l0 t403 _ ?side1 ?side2 A6.out).mono ?_); (case side1 => exact Kd.C_below HR0.out (lT HB (gC GE402 gN))); (case side2 => exact HC0.out); rintro e w96 ⟨v404, rfl, ho0, hb⟩; refine ⟨_, rfl, ?_⟩; replace HO392 := ak (Kd.R_below (rT HO392 BK402 (by decide)) hb); replace HO395 := ak (Kd.R_below (rT HO395 BK402 (by decide)) hb); replace HO398 := ak (Kd.R_below (rT HO398 BK402 (by decide)) hb); replace HO401 := ak (Kd.R_below (rT HO401 BK402 (by decide)) hb); replace HO405 := ak (Kd.R_lower ho0 (below_size (lT HB (gC GE402 gN)))); replace BK402 := ak (blk_below (g := gb402) (o := .cells #[.slice Ao93 t396.length co93, .slice Ao95 t399.length co95] 27 (0, 0)) (by (with_reducible repeat (first | refine blk_drewN ?_ _ | refine blk_drew ?_ | refine blk_alloc ?_ _)); refine blk_put (cs := #[.slice Ao93 t396.length co93, .slice none 0 0]) ?_ 1 _ rfl; (with_reducible repeat (first | refine blk_drewN ?_ _ | refine blk_drew ?_ | refine blk_alloc ?_ _)); refine blk_put (cs := #[.slice none 0 0, .slice none 0 0]) ?_ 0 _ rfl; (with_reducible repeat (first | refine blk_drewN ?_ _ | refine blk_drew ?_ | refine blk_alloc ?_ _)); exact BK402.out) hb); replace HB := ak (below_step (lT HB (gC GE402 gN)) hb); (try clear hb); (try clear hb2); (try clear hk); (try clear hi); (try clear ho0)))
        replace HO392 := ak (Kd.R_drew HO392.out)
        replace HO395 := ak (Kd.R_drew HO395.out)
        replace HO398 := ak (Kd.R_drew HO398.out)
        replace HO401 := ak (Kd.R_drew HO401.out)
        replace HO405 := ak (Kd.R_drew HO405.out)
        replace BK402 := ak (blk_drew BK402.out)
        replace HB := ak (below_drew1 HB.out)
        obtain ⟨Ao98, co98, eo98⟩ := Kd.R_slice HO405.out
        (first | subst eo98 | (injection eo98 with f1_ f2_ f3_; have f4_ := f1_.symm; have f5_ := f3_.symm; clear f1_ f2_ f3_; subst f4_; subst f5_))
        have p406 : 0 ≤ (0 : Int) := (by omega)
        have q406 : 0 < (t403.length : Int) := of_decide_eq_true (by first | (with_reducible assumption) | assumption)
        obtain ⟨ad406, e406, hx406_0⟩ := Kd.at_int (Kd.R_reads' HO405.out).2.2 0 p406 q406
        cases e406
        have qi406 : (0 < t403.length) = True := eq_true (by omega)
        (try rw [show ((0 : Int)).toNat = 0 from rfl] at hx406_0)
        (try rw [Addr.add_zero'] at hx406_0)
        replace p406 := eq_true p406
        replace q406 := eq_true q406
        refine start_ (n := 8) (S := fun w' => w'.cell? ⟨gb402, 0, none⟩ = some (.slice Ao93 t396.length co93) ∧ w'.cell? ⟨gb402, 1, none⟩ = some (.slice Ao95 t399.length co95) ∧ w'.cell? ad406 = some (.int .i64 (rd t403 0))) (ds := []) #[f_,f_,f_,f_,f_,f_,f_,f_] (by kernel_rfl) rfl rfl ⟨(blk_cell BK402.out 0).trans rfl, (blk_cell BK402.out 1).trans rfl, hx406_0⟩ (fun hHeld => ?_); refine with_tabW laws_FnTorn.tab5 laws_FnTorn.bits5 (fun HT_ HW_ => ?_)
        generalize w96.drew = w97 at HO392 HO395 HO398 HO401 HO405 BK402 HB hx406_0 hHeld ⊢
        refine pure_ (i := 0) (N := some 18) (v := ?_) (a' := ?_) #[t_,f_,f_,f_,f_,f_,f_,f_] rfl rfl (any_of HT_.out (by kernel_rfl)) (fun _ _ _ h => h) (Or.inl ⟨by rfl, ?_⟩) ?_ ?_
        rotate_left
        ·intro w'
         go_simp
         with_reducible rfl
        rotate_left
        ·simp only [Act.put, List.setIfInBounds_toArray, List.set_cons_zero, List.set_cons_succ, i64_w, i32_w]
         rfl
        refine pure_ (i := 1) (N := some 19) (v := ?_) (a' := ?_) #[t_,t_,f_,f_,f_,f_,f_,f_] rfl rfl (any_of HT_.out (by kernel_rfl)) (fun _ _ _ h => h) (Or.inl ⟨by rfl, ?_⟩) ?_ ?_
        rotate_left
        ·intro w'
         go_simp
         with_reducible rfl
        rotate_left
        ·simp only [Act.put, List.setIfInBounds_toArray, List.set_cons_zero, List.set_cons_succ, i64_w, i32_w]
         rfl
        refine pure_ (i := 3) (N := some 21) (v := ?_) (a' := ?_) #[t_,t_,f_,t_,f_,f_,f_,f_] rfl rfl (any_of HT_.out (by kernel_rfl)) (fun _ _ _ h => h) (Or.inl ⟨by rfl, ?_⟩) ?_ ?_
        rotate_left
        ·intro w'
         go_simp
         with_reducible rfl
        rotate_left
        ·simp only [Act.put, List.setIfInBounds_toArray, List.set_cons_zero, List.set_cons_succ, i64_w, i32_w]
         rfl
        refine take_ (i := 2) (N := some 20) (v := ?_) (a' := ?_) #[t_,t_,t_,t_,f_,f_,f_,f_] rfl rfl (take_ofW HT_.out HW_.out (by kernel_rfl)) (fun _ _ _ h => h) (Or.inl ⟨by rfl, ?_⟩) hHeld ?_ ?_
        rotate_left
        ·rintro w' ⟨s0, s1, s2⟩
         go_simp
         with_reducible rfl
        rotate_left
        ·simp only [Act.put, List.setIfInBounds_toArray, List.set_cons_zero, List.set_cons_succ, i64_w, i32_w]
         rfl
        refine take_ (i := 4) (N := some 22) (v := ?_) (a' := ?_) #[t_,t_,t_,t_,t_,f_,f_,f_] rfl rfl (take_ofW HT_.out HW_.out (by kernel_rfl)) (fun _ _ _ h => h) (Or.inl ⟨by rfl, ?_⟩) hHeld ?_ ?_
        rotate_left
        ·rintro w' ⟨s0, s1, s2⟩
         go_simp
         with_reducible rfl
        rotate_left
        ·simp only [Act.put, List.setIfInBounds_toArray, List.set_cons_zero, List.set_cons_succ, i64_w, i32_w]
         rfl
        refine pure_ (i := 5) (N := some 23) (v := ?_) (a' := ?_) #[t_,t_,t_,t_,t_,t_,f_,f_] rfl rfl (any_of HT_.out (by kernel_rfl)) (fun _ _ _ h => h) (Or.inl ⟨by rfl, ?_⟩) ?_ ?_
        rotate_left
        ·intro w'
         go_simp
         with_reducible rfl
        rotate_left
        ·simp only [Act.put, List.setIfInBounds_toArray, List.set_cons_zero, List.set_cons_succ, i64_w, i32_w]
         rfl
        refine pure_ (i := 6) (N := some 24) (v := ?_) (a' := ?_) #[t_,t_,t_,t_,t_,t_,t_,f_] rfl rfl (any_of HT_.out (by kernel_rfl)) (fun _ _ _ h => h) (Or.inl ⟨by rfl, ?_⟩) ?_ ?_
        rotate_left
        ·intro w'
         go_simp
         with_reducible rfl
        rotate_left
        ·simp only [Act.put, List.setIfInBounds_toArray, List.set_cons_zero, List.set_cons_succ, i64_w, i32_w]
         rfl
        refine pure_ (i := 7) (N := some 5) (v := ?_) (a' := ?_) #[t_,t_,t_,t_,t_,t_,t_,t_] rfl rfl (any_of HT_.out (by kernel_rfl)) (fun _ _ _ h => h) (Or.inl ⟨by rfl, ?_⟩) ?_ ?_
        rotate_left
        ·intro w'
         go_simp
         with_reducible rfl
        rotate_left
        ·simp only [Act.put, List.setIfInBounds_toArray, List.set_cons_zero, List.set_cons_succ, i64_w, i32_w]
         rfl
        refine done_ (done_of HT_.out (by kernel_rfl)) ?_
        have p407 : 0 ≤ (1 : Int) := (by omega)
        have q407 : 1 < (t403.length : Int) := of_decide_eq_true (by first | (with_reducible assumption) | assumption)
        obtain ⟨ad407, e407, hx407_0⟩ := Kd.at_int (Kd.R_reads' HO405.out).2.2 1 p407 q407
        obtain rfl : ad406 = ad407 := (by injection e407)
        (try simp only [show (1 : Int).toNat = 1 from rfl, Nat.reduceMul, Nat.reduceEqDiff, Go.Addr.add, ↓reduceIte] at hx407_0)
        have qi407 : (1 < t403.length) = True := eq_true (by omega)
        (try rw [show ((1 : Int)).toNat = 1 from rfl] at hx407_0)
        replace p407 := eq_true p407
        replace q407 := eq_true q407
        have hcz99_0 : w97.cell? ⟨gb402, 0, none⟩ = some (.slice Ao93 t396.length co93) := (blk_cell BK402.out 0).trans rfl
        have hcz99_1 : w97.cell? ⟨gb402, 1, none⟩ = some (.slice Ao95 t399.length co95) := (blk_cell BK402.out 1).trans rfl
        have hfz99_0 := blk_frozen BK402.out 0
        have hfz99_1 := blk_frozen BK402.out 1
        try go_wp2_with (first | ((with_reducible refine gate_callee (f := 12) rfl ?_); refine goesL_ (some 34) rfl rfl Try.func12 (by kernel_rfl) rfl #[.agg #[.slice Ao93 t396.length co93, .slice Ao95 t399.length co95], .int .i64 (Int.tmod (rd t403 0) (t396.length : Int)), .string ((⟨#[116, 104, 105, 114, 116, 121, 45, 116, 119, 111, 32, 98, 121, 116, 101, 115, 44, 32, 110, 111, 32, 109, 111, 114, 101, 32, 111, 114, 32, 108, 101, 115, 115]⟩ : ByteArray).extract 0 32)] rfl (by (try simp only [List.map_toArray, List.map_cons, List.map_nil]); first | done | rfl | (simp only [List.length_drop, List.length_take]; rfl)) ?_; (with_reducible refine (impl_WriteSector.calls _ _ t396 _ _ t399 (Int.tmod (rd t403 0) (t396.length : Int)) ((⟨#[116, 104, 105, 114, 116, 121, 45, 116, 119, 111, 32, 98, 121, 116, 101, 115, 44, 32, 110, 111, 32, 109, 111, 114, 101, 32, 111, 114, 32, 108, 101, 115, 115]⟩ : ByteArray).extract 0 32) t408 t411 false _ ?side1 ?side2 ?side3 ?side4 A12.out).mono ?_); (case side1 => exact cG (Kd.R_reads' HO398.out).2.2); (case side2 => exact (Kd.R_reads' HO398.out).2.1); (case side3 => exact cG (Kd.R_reads' HO401.out).2.2); (case side4 => exact (Kd.R_reads' HO401.out).2.1); rintro e w100 ⟨v409, v412, rfl, ho0, ho1, hb⟩; refine ⟨_, rfl, ?_⟩; replace HO405 := rB HO405 hb; replace HO410 := ak (Kd.R_lower (Kd.R_new' (Kd.R_new' ho0 (Kd.R_lt (rG HO392))) (Kd.R_lt (rG HO398))) (below_size (lT HB (gC GE402 gN)))); replace HO392 := ak (Kd.R_elder' (rG HO392) (Kd.R_base ho0) hb); replace HO398 := ak (Kd.R_elder' (rG HO398) (Kd.R_base ho0) hb); replace HO413 := ak (Kd.R_lower (Kd.R_new' (Kd.R_new' ho1 (Kd.R_lt (rG HO395))) (Kd.R_lt (rG HO401))) (below_size (lT HB (gC GE402 gN)))); replace HO395 := ak (Kd.R_elder' (rG HO395) (Kd.R_base ho1) hb); replace HO401 := ak (Kd.R_elder' (rG HO401) (Kd.R_base ho1) hb); replace BK402 := bB BK402 hb; replace HB := ak (below_step (lT HB (gC GE402 gN)) hb); (try clear hb); (try clear hb2); (try clear hk); (try clear hi); (try clear ho0); (try clear ho1)) | ((with_reducible refine gate_dst (N := 8) rfl ?_); refine box_event ?hg (N := 8) ?hd (cs := #[.slice none 0 0, .slice none 0 0]) (t := 27) ?hr ?_; (case hd => rfl); (case hg => rfl); (case hr => first | (go_simp; done) | (go_simp; rfl)); intro gb415 hg w101 hbox hb; replace HO392 := rB HO392 hb; replace HO395 := rB HO395 hb; replace HO398 := rB HO398 hb; replace HO401 := rB HO401 hb; replace HO405 := rB HO405 hb; replace HO410 := rB HO410 hb; replace HO413 := rB HO413 hb; replace BK415 := ak (hbox); replace GW415 := ak ((by rw [hg]; exact (below_size (lT HB (gC GE402 gN))) : w.heap.size ≤ gb415)); replace GE415 := ak ((by rw [hg]; exact (below_size (lT HB (gC GE402 gN))) : w.heap.size ≤ gb415)); replace HB := ak (below_step (lT HB (gC GE402 gN)) hb); replace NB402_415 := ak ((by rw [hg]; exact Nat.ne_of_lt (blk_lt (bG BK402)) : gb402 ≠ gb415)); replace NB415_402 := ak ((by rw [hg]; exact Nat.ne_of_gt (blk_lt (bG BK402)) : gb415 ≠ gb402)); replace BK402 := bB BK402 hb; clear hb hbox hg; obtain ⟨Ao102, co102, eo102⟩ := Kd.R_slice HO410.out; subst eo102; have hnb103 := NB415_402.out; have hnc103 := NB402_415.out; obtain ⟨hcz104_0, hcz104_1, hfz104_0, hfz104_1⟩ := bC2 BK415; obtain ⟨Ao105, co105, eo105⟩ := Kd.R_slice HO413.out; subst eo105) | ((with_reducible refine gate_dst (N := 38) rfl ?_); refine Kd.R_lit (Kd.int .i64) _ 3 ?hg (N := 38) ?hd (xs := ([1] : List Int)) (inner := [.int .i64 1]) (ok := fun _ => True) (okp := fun _ => True) ?hr ?hp (fun _ hk => hk) trivial (Below.refl _ _) (Nat.le_refl _) (by simp) ?_; (case hd => rfl); (case hg => rfl); (case hr => first | (go_simp; done) | (go_simp; rfl)); (case hp => exact (Reps.one (show Kd.M (Kd.int .i64) _ _ _ 1 [.int .i64 1] from rfl) (Reps.none _ _))); intro v417 w106 ho107 hb hg_ hnew_; clear hg_ hnew_; (first | rw [← Ny416.out] at ho107 | (simp only [Int.reduceToNat] at ho107; rw [← Ny416.out] at ho107)); replace HO392 := ak (Kd.R_below (rT HO392 BK415 (by decide)) hb); replace HO395 := ak (Kd.R_below (rT HO395 BK415 (by decide)) hb); replace HO398 := ak (Kd.R_below (rT HO398 BK415 (by decide)) hb); replace HO401 := ak (Kd.R_below (rT HO401 BK415 (by decide)) hb); replace HO410 := ak (Kd.R_below (rT HO410 BK415 (by decide)) hb); replace HO413 := ak (Kd.R_below (rT HO413 BK415 (by decide)) hb); replace HO418 := ak (Kd.R_lower (Kd.R_new' ho107 (Kd.R_lt (rT HO405 BK415 (by decide)))) (below_size (lT HB (gC GE402 (gC GE415 gN))))); replace HO405 := ak (Kd.R_elder' (rT HO405 BK415 (by decide)) (Kd.R_base ho107) hb); replace BK402 := ak (blk_below (bT BK402 (nC NB402_415 nN)) hb); replace BK415 := ak (blk_below (g := gb415) (o := .cells #[.slice Ao102 t408.length co102, .slice Ao105 t411.length co105] 27 (0, 0)) (by (with_reducible repeat (first | refine blk_drewN ?_ _ | refine blk_drew ?_ | refine blk_alloc ?_ _)); refine blk_put (cs := #[.slice Ao102 t408.length co102, .slice none 0 0]) ?_ 1 _ rfl; (with_reducible repeat (first | refine blk_drewN ?_ _ | refine blk_drew ?_ | refine blk_alloc ?_ _)); refine blk_put (cs := #[.slice none 0 0, .slice none 0 0]) ?_ 0 _ rfl; (with_reducible repeat (first | refine blk_drewN ?_ _ | refine blk_drew ?_ | refine blk_alloc ?_ _)); exact BK415.out) hb); replace HB := ak (below_step (lT HB (gC GE402 (gC GE415 gN))) hb); clear hb ho107; obtain ⟨Ao108, co108, eo108⟩ := Kd.R_slice HO418.out; subst eo108) | ((with_reducible refine gate_callee (f := 17) rfl ?_); refine goesL_ (some 40) rfl rfl Try.func17 (by kernel_rfl) rfl #[.agg #[.slice Ao102 t408.length co102, .slice Ao105 t411.length co105], .slice Ao108 y416.length co108, .int .i64 (Int.tmod (rd t403 1) 33)] rfl (by (try simp only [List.map_toArray, List.map_cons, List.map_nil]); first | done | rfl | (simp only [List.length_drop, List.length_take]; rfl)) ?_; (with_reducible refine (impl_CrashDisk.calls k _ _ t408 _ _ t411 _ _ y416 (Int.tmod (rd t403 1) 33) t419 t422 _ ?side1 ?side2 ?side3 ?side4 ?side5 ?side6 A13.out).mono ?_); (case side1 => exact cG (Kd.R_reads' HO410.out).2.2); (case side2 => exact (Kd.R_reads' HO410.out).2.1); (case side3 => exact cG (Kd.R_reads' HO413.out).2.2); (case side4 => exact (Kd.R_reads' HO413.out).2.1); (case side5 => exact cG (Kd.R_reads' HO418.out).2.2); (case side6 => exact (Kd.R_reads' HO418.out).2.1); rintro e w109 ⟨v420, v423, rfl, ho0, ho1, hb⟩; refine ⟨_, rfl, ?_⟩; replace HO405 := rB HO405 hb; replace HO418 := rB HO418 hb; replace HO421 := ak (Kd.R_lower (Kd.R_new' (Kd.R_new' (Kd.R_new' ho0 (Kd.R_lt (rG HO392))) (Kd.R_lt (rG HO398))) (Kd.R_lt (rG HO410))) (below_size (lT HB (gC GE402 (gC GE415 gN))))); replace HO392 := ak (Kd.R_elder' (rG HO392) (Kd.R_base ho0) hb); replace HO398 := ak (Kd.R_elder' (rG HO398) (Kd.R_base ho0) hb); replace HO410 := ak (Kd.R_elder' (rG HO410) (Kd.R_base ho0) hb); replace HO424 := ak (Kd.R_lower (Kd.R_new' (Kd.R_new' (Kd.R_new' ho1 (Kd.R_lt (rG HO395))) (Kd.R_lt (rG HO401))) (Kd.R_lt (rG HO413))) (below_size (lT HB (gC GE402 (gC GE415 gN))))); replace HO395 := ak (Kd.R_elder' (rG HO395) (Kd.R_base ho1) hb); replace HO401 := ak (Kd.R_elder' (rG HO401) (Kd.R_base ho1) hb); replace HO413 := ak (Kd.R_elder' (rG HO413) (Kd.R_base ho1) hb); replace BK402 := bB BK402 hb; replace BK415 := bB BK415 hb; replace HB := ak (below_step (lT HB (gC GE402 (gC GE415 gN))) hb); (try clear hb); (try clear hb2); (try clear hk); (try clear hi); (try clear ho0); (try clear ho1)) | ((with_reducible refine gate_dst (N := 10) rfl ?_); refine box_event ?hg (N := 10) ?hd (cs := #[.slice none 0 0, .slice none 0 0]) (t := 27) ?hr ?_; (case hd => rfl); (case hg => rfl); (case hr => first | (go_simp; done) | (go_simp; rfl)); intro gb425 hg w110 hbox hb; replace HO392 := rB HO392 hb; replace HO395 := rB HO395 hb; replace HO398 := rB HO398 hb; replace HO401 := rB HO401 hb; replace HO405 := rB HO405 hb; replace HO410 := rB HO410 hb; replace HO413 := rB HO413 hb; replace HO418 := rB HO418 hb; replace HO421 := rB HO421 hb; replace HO424 := rB HO424 hb; replace BK425 := ak (hbox); replace GW425 := ak ((by rw [hg]; exact (below_size (lT HB (gC GE402 (gC GE415 gN)))) : w.heap.size ≤ gb425)); replace GE425 := ak ((by rw [hg]; exact (below_size (lT HB (gC GE402 (gC GE415 gN)))) : w.heap.size ≤ gb425)); replace HB := ak (below_step (lT HB (gC GE402 (gC GE415 gN))) hb); replace NB402_425 := ak ((by rw [hg]; exact Nat.ne_of_lt (blk_lt (bG BK402)) : gb402 ≠ gb425)); replace NB425_402 := ak ((by rw [hg]; exact Nat.ne_of_gt (blk_lt (bG BK402)) : gb425 ≠ gb402)); replace BK402 := bB BK402 hb; replace NB415_425 := ak ((by rw [hg]; exact Nat.ne_of_lt (blk_lt (bG BK415)) : gb415 ≠ gb425)); replace NB425_415 := ak ((by rw [hg]; exact Nat.ne_of_gt (blk_lt (bG BK415)) : gb425 ≠ gb415)); replace BK415 := bB BK415 hb; clear hb hbox hg; obtain ⟨Ao111, co111, eo111⟩ := Kd.R_slice HO421.out; subst eo111; have hnb112 := NB425_402.out; have hnc112 := NB402_425.out; have hnb113 := NB425_415.out; have hnc113 := NB415_425.out; obtain ⟨hcz114_0, hcz114_1, hfz114_0, hfz114_1⟩ := bC2 BK425; obtain ⟨Ao115, co115, eo115⟩ := Kd.R_slice HO424.out; subst eo115))
        have n0_ : Aside0 (Kd.R Kd.string 9 ((w110.setCell ⟨gb425, 0, none⟩ (.slice Ao111 t419.length co111)).setCell ⟨gb425, 1, none⟩ (.slice Ao115 t422.length co115)) w.heap.size (fun k_ => some k_ ≠ (.slice Ao93 t396.length co93 : Value).ownBlock ∧ some k_ ≠ (.slice Ao102 t408.length co102 : Value).ownBlock ∧ some k_ ≠ (.slice Ao111 t419.length co111 : Value).ownBlock) (.slice Ao89 t390.length co89) t390) := ⟨by (with_reducible repeat (first | apply Kd.R_alloc | apply Kd.R_drewN | apply Kd.R_drew)); exact Kd.R_mono (Kd.R_far (p := ⟨gb425, 1, none⟩) (Kd.R_far (p := ⟨gb425, 0, none⟩) (Kd.R_types HO392.out BK425.out (by decide)) (fun _ hk => hk.2) (.slice Ao111 t419.length co111)) (fun _ hk => hk.2) (.slice Ao115 t422.length co115)) (fun _ hk => ⟨hk.1.1.1.2, ⟨hk.1.1.2, hk.1.2⟩⟩)⟩
        have n1_ : Aside0 (Kd.R k63 63 ((w110.setCell ⟨gb425, 0, none⟩ (.slice Ao111 t419.length co111)).setCell ⟨gb425, 1, none⟩ (.slice Ao115 t422.length co115)) w.heap.size (fun k_ => some k_ ≠ (.slice Ao95 t399.length co95 : Value).ownBlock ∧ some k_ ≠ (.slice Ao105 t411.length co105 : Value).ownBlock ∧ some k_ ≠ (.slice Ao115 t422.length co115 : Value).ownBlock) (.slice Ao90 t393.length co90) t393) := ⟨by (with_reducible repeat (first | apply Kd.R_alloc | apply Kd.R_drewN | apply Kd.R_drew)); exact Kd.R_mono (Kd.R_far (p := ⟨gb425, 1, none⟩) (Kd.R_far (p := ⟨gb425, 0, none⟩) (Kd.R_types HO395.out BK425.out (by decide)) (fun _ hk => hk.2) (.slice Ao111 t419.length co111)) (fun _ hk => hk.2) (.slice Ao115 t422.length co115)) (fun _ hk => ⟨hk.1.1.1.2, ⟨hk.1.1.2, hk.1.2⟩⟩)⟩
        have n2_ : Aside0 (Kd.R Kd.string 9 ((w110.setCell ⟨gb425, 0, none⟩ (.slice Ao111 t419.length co111)).setCell ⟨gb425, 1, none⟩ (.slice Ao115 t422.length co115)) w.heap.size (fun k_ => some k_ ≠ (.slice Ao89 t390.length co89 : Value).ownBlock ∧ some k_ ≠ (.slice Ao102 t408.length co102 : Value).ownBlock ∧ some k_ ≠ (.slice Ao111 t419.length co111 : Value).ownBlock) (.slice Ao93 t396.length co93) t396) := ⟨by (with_reducible repeat (first | apply Kd.R_alloc | apply Kd.R_drewN | apply Kd.R_drew)); exact Kd.R_mono (Kd.R_far (p := ⟨gb425, 1, none⟩) (Kd.R_far (p := ⟨gb425, 0, none⟩) (Kd.R_types HO398.out BK425.out (by decide)) (fun _ hk => hk.2) (.slice Ao111 t419.length co111)) (fun _ hk => hk.2) (.slice Ao115 t422.length co115)) (fun _ hk => ⟨hk.1.1.1.2, ⟨hk.1.1.2, hk.1.2⟩⟩)⟩
        have n3_ : Aside0 (Kd.R k63 63 ((w110.setCell ⟨gb425, 0, none⟩ (.slice Ao111 t419.length co111)).setCell ⟨gb425, 1, none⟩ (.slice Ao115 t422.length co115)) w.heap.size (fun k_ => some k_ ≠ (.slice Ao90 t393.length co90 : Value).ownBlock ∧ some k_ ≠ (.slice Ao105 t411.length co105 : Value).ownBlock ∧ some k_ ≠ (.slice Ao115 t422.length co115 : Value).ownBlock) (.slice Ao95 t399.length co95) t399) := ⟨by (with_reducible repeat (first | apply Kd.R_alloc | apply Kd.R_drewN | apply Kd.R_drew)); exact Kd.R_mono (Kd.R_far (p := ⟨gb425, 1, none⟩) (Kd.R_far (p := ⟨gb425, 0, none⟩) (Kd.R_types HO401.out BK425.out (by decide)) (fun _ hk => hk.2) (.slice Ao111 t419.length co111)) (fun _ hk => hk.2) (.slice Ao115 t422.length co115)) (fun _ hk => ⟨hk.1.1.1.2, ⟨hk.1.1.2, hk.1.2⟩⟩)⟩
        have n4_ : Aside0 (Kd.R (Kd.int .i64) 3 ((w110.setCell ⟨gb425, 0, none⟩ (.slice Ao111 t419.length co111)).setCell ⟨gb425, 1, none⟩ (.slice Ao115 t422.length co115)) w.heap.size (fun k_ => some k_ ≠ (.slice Ao108 y416.length co108 : Value).ownBlock) (.slice (some ad406) t403.length co98) t403) := ⟨by (with_reducible repeat (first | apply Kd.R_alloc | apply Kd.R_drewN | apply Kd.R_drew)); exact Kd.R_mono (Kd.R_far (p := ⟨gb425, 1, none⟩) (Kd.R_far (p := ⟨gb425, 0, none⟩) (Kd.R_types HO405.out BK425.out (by decide)) (fun _ hk => hk.2) (.slice Ao111 t419.length co111)) (fun _ hk => hk.2) (.slice Ao115 t422.length co115)) (fun _ hk => hk.1.2)⟩
        have n5_ : Aside0 (Kd.R Kd.string 9 ((w110.setCell ⟨gb425, 0, none⟩ (.slice Ao111 t419.length co111)).setCell ⟨gb425, 1, none⟩ (.slice Ao115 t422.length co115)) w.heap.size (fun k_ => some k_ ≠ (.slice Ao89 t390.length co89 : Value).ownBlock ∧ some k_ ≠ (.slice Ao93 t396.length co93 : Value).ownBlock ∧ some k_ ≠ (.slice Ao111 t419.length co111 : Value).ownBlock) (.slice Ao102 t408.length co102) t408) := ⟨by (with_reducible repeat (first | apply Kd.R_alloc | apply Kd.R_drewN | apply Kd.R_drew)); exact Kd.R_mono (Kd.R_far (p := ⟨gb425, 1, none⟩) (Kd.R_far (p := ⟨gb425, 0, none⟩) (Kd.R_types HO410.out BK425.out (by decide)) (fun _ hk => hk.2) (.slice Ao111 t419.length co111)) (fun _ hk => hk.2) (.slice Ao115 t422.length co115)) (fun _ hk => ⟨hk.1.1.1.2, ⟨hk.1.1.2, hk.1.2⟩⟩)⟩
        have n6_ : Aside0 (Kd.R k63 63 ((w110.setCell ⟨gb425, 0, none⟩ (.slice Ao111 t419.length co111)).setCell ⟨gb425, 1, none⟩ (.slice Ao115 t422.length co115)) w.heap.size (fun k_ => some k_ ≠ (.slice Ao90 t393.length co90 : Value).ownBlock ∧ some k_ ≠ (.slice Ao95 t399.length co95 : Value).ownBlock ∧ some k_ ≠ (.slice Ao115 t422.length co115 : Value).ownBlock) (.slice Ao105 t411.length co105) t411) := ⟨by (with_reducible repeat (first | apply Kd.R_alloc | apply Kd.R_drewN | apply Kd.R_drew)); exact Kd.R_mono (Kd.R_far (p := ⟨gb425, 1, none⟩) (Kd.R_far (p := ⟨gb425, 0, none⟩) (Kd.R_types HO413.out BK425.out (by decide)) (fun _ hk => hk.2) (.slice Ao111 t419.length co111)) (fun _ hk => hk.2) (.slice Ao115 t422.length co115)) (fun _ hk => ⟨hk.1.1.1.2, ⟨hk.1.1.2, hk.1.2⟩⟩)⟩
        have n7_ : Aside0 (Kd.R (Kd.int .i64) 3 ((w110.setCell ⟨gb425, 0, none⟩ (.slice Ao111 t419.length co111)).setCell ⟨gb425, 1, none⟩ (.slice Ao115 t422.length co115)) w.heap.size (fun k_ => some k_ ≠ (.slice (some ad406) t403.length co98 : Value).ownBlock) (.slice Ao108 y416.length co108) y416) := ⟨by (with_reducible repeat (first | apply Kd.R_alloc | apply Kd.R_drewN | apply Kd.R_drew)); exact Kd.R_mono (Kd.R_far (p := ⟨gb425, 1, none⟩) (Kd.R_far (p := ⟨gb425, 0, none⟩) (Kd.R_types HO418.out BK425.out (by decide)) (fun _ hk => hk.2) (.slice Ao111 t419.length co111)) (fun _ hk => hk.2) (.slice Ao115 t422.length co115)) (fun _ hk => hk.1.2)⟩
        have n8_ : Aside0 (Kd.R Kd.string 9 ((w110.setCell ⟨gb425, 0, none⟩ (.slice Ao111 t419.length co111)).setCell ⟨gb425, 1, none⟩ (.slice Ao115 t422.length co115)) w.heap.size (fun k_ => some k_ ≠ (.slice Ao89 t390.length co89 : Value).ownBlock ∧ some k_ ≠ (.slice Ao93 t396.length co93 : Value).ownBlock ∧ some k_ ≠ (.slice Ao102 t408.length co102 : Value).ownBlock) (.slice Ao111 t419.length co111) t419) := ⟨by (with_reducible repeat (first | apply Kd.R_alloc | apply Kd.R_drewN | apply Kd.R_drew)); exact Kd.R_mono (Kd.R_far (p := ⟨gb425, 1, none⟩) (Kd.R_far (p := ⟨gb425, 0, none⟩) (Kd.R_types HO421.out BK425.out (by decide)) (fun _ hk => hk.2) (.slice Ao111 t419.length co111)) (fun _ hk => hk.2) (.slice Ao115 t422.length co115)) (fun _ hk => ⟨hk.1.1.1.2, ⟨hk.1.1.2, hk.1.2⟩⟩)⟩
        have n9_ : Aside0 (Kd.R k63 63 ((w110.setCell ⟨gb425, 0, none⟩ (.slice Ao111 t419.length co111)).setCell ⟨gb425, 1, none⟩ (.slice Ao115 t422.length co115)) w.heap.size (fun k_ => some k_ ≠ (.slice Ao90 t393.length co90 : Value).ownBlock ∧ some k_ ≠ (.slice Ao95 t399.length co95 : Value).ownBlock ∧ some k_ ≠ (.slice Ao105 t411.length co105 : Value).ownBlock) (.slice Ao115 t422.length co115) t422) := ⟨by (with_reducible repeat (first | apply Kd.R_alloc | apply Kd.R_drewN | apply Kd.R_drew)); exact Kd.R_mono (Kd.R_far (p := ⟨gb425, 1, none⟩) (Kd.R_far (p := ⟨gb425, 0, none⟩) (Kd.R_types HO424.out BK425.out (by decide)) (fun _ hk => hk.2) (.slice Ao111 t419.length co111)) (fun _ hk => hk.2) (.slice Ao115 t422.length co115)) (fun _ hk => ⟨hk.1.1.1.2, ⟨hk.1.1.2, hk.1.2⟩⟩)⟩
        have n10_ : Aside0 (((w110.setCell ⟨gb425, 0, none⟩ (.slice Ao111 t419.length co111)).setCell ⟨gb425, 1, none⟩ (.slice Ao115 t422.length co115)).heap[gb402]? = some (.cells #[.slice Ao93 t396.length co93, .slice Ao95 t399.length co95] 27 (0, 0))) := ⟨by (with_reducible repeat (first | refine blk_drewN ?_ _ | refine blk_drew ?_ | refine blk_alloc ?_ _)); refine blk_far ?_ NB402_425.out _; (with_reducible repeat (first | refine blk_drewN ?_ _ | refine blk_drew ?_ | refine blk_alloc ?_ _)); refine blk_far ?_ NB402_425.out _; (with_reducible repeat (first | refine blk_drewN ?_ _ | refine blk_drew ?_ | refine blk_alloc ?_ _)); exact BK402.out⟩
        have n11_ : Aside0 (((w110.setCell ⟨gb425, 0, none⟩ (.slice Ao111 t419.length co111)).setCell ⟨gb425, 1, none⟩ (.slice Ao115 t422.length co115)).heap[gb415]? = some (.cells #[.slice Ao102 t408.length co102, .slice Ao105 t411.length co105] 27 (0, 0))) := ⟨by (with_reducible repeat (first | refine blk_drewN ?_ _ | refine blk_drew ?_ | refine blk_alloc ?_ _)); refine blk_far ?_ NB415_425.out _; (with_reducible repeat (first | refine blk_drewN ?_ _ | refine blk_drew ?_ | refine blk_alloc ?_ _)); refine blk_far ?_ NB415_425.out _; (with_reducible repeat (first | refine blk_drewN ?_ _ | refine blk_drew ?_ | refine blk_alloc ?_ _)); exact BK415.out⟩
        have n12_ : Aside0 (((w110.setCell ⟨gb425, 0, none⟩ (.slice Ao111 t419.length co111)).setCell ⟨gb425, 1, none⟩ (.slice Ao115 t422.length co115)).heap[gb425]? = some (.cells #[.slice Ao111 t419.length co111, .slice Ao115 t422.length co115] 27 (0, 0))) := ⟨by (with_reducible repeat (first | refine blk_drewN ?_ _ | refine blk_drew ?_ | refine blk_alloc ?_ _)); refine blk_put (cs := #[.slice Ao111 t419.length co111, .slice none 0 0]) ?_ 1 _ rfl; (with_reducible repeat (first | refine blk_drewN ?_ _ | refine blk_drew ?_ | refine blk_alloc ?_ _)); refine blk_put (cs := #[.slice none 0 0, .slice none 0 0]) ?_ 0 _ rfl; (with_reducible repeat (first | refine blk_drewN ?_ _ | refine blk_drew ?_ | refine blk_alloc ?_ _)); exact BK425.out⟩
        have n13_ : Aside0 (Below w.heap.size w ((w110.setCell ⟨gb425, 0, none⟩ (.slice Ao111 t419.length co111)).setCell ⟨gb425, 1, none⟩ (.slice Ao115 t422.length co115))) := ⟨by exact lT HB (gC GE402 (gC GE415 (gC GE425 gN)))⟩
        (try clear HO392)
        (try clear HO395)
        (try clear HO398)
        (try clear HO401)
        (try clear HO405)
        (try clear HO410)
        (try clear HO413)
        (try clear HO418)
        (try clear HO421)
        (try clear HO424)
        (try clear BK402)
        (try clear BK415)
        (try clear BK425)
        (try clear HB)
        generalize ((w110.setCell ⟨gb425, 0, none⟩ (.slice Ao111 t419.length co111)).setCell ⟨gb425, 1, none⟩ (.slice Ao115 t422.length co115)) = w116 at n0_ n1_ n2_ n3_ n4_ n5_ n6_ n7_ n8_ n9_ n10_ n11_ n12_ n13_ ⊢
        have HO392 := n0_
        have HO395 := n1_
        have HO398 := n2_
        have HO401 := n3_
        have HO405 := n4_
        have HO410 := n5_
        have HO413 := n6_
        have HO418 := n7_
        have HO421 := n8_
        have HO424 := n9_
        have BK402 := n10_
        have BK415 := n11_
        have BK425 := n12_
        have HB := n13_
        clear n0_ n1_ n2_ n3_ n4_ n5_ n6_ n7_ n8_ n9_ n10_ n11_ n12_ n13_
        replace HO392 := ak (Kd.R_drew HO392.out)
        replace HO395 := ak (Kd.R_drew HO395.out)
        replace HO398 := ak (Kd.R_drew HO398.out)
        replace HO401 := ak (Kd.R_drew HO401.out)
        replace HO405 := ak (Kd.R_drew HO405.out)
        replace HO410 := ak (Kd.R_drew HO410.out)
        replace HO413 := ak (Kd.R_drew HO413.out)
        replace HO418 := ak (Kd.R_drew HO418.out)
        replace HO421 := ak (Kd.R_drew HO421.out)
        replace HO424 := ak (Kd.R_drew HO424.out)
        replace BK402 := ak (blk_drew BK402.out)
        replace BK415 := ak (blk_drew BK415.out)
        replace BK425 := ak (blk_drew BK425.out)
        replace HB := ak (below_drew1 HB.out)
        refine start_ (n := 25) (S := fun w' => True) (ds := []) #[f_,f_,f_,f_,f_,f_,f_,f_,f_,f_,f_,f_,f_,f_,f_,f_,f_,f_,f_,f_,f_,f_,f_,f_,f_] (by kernel_rfl) rfl rfl trivial (fun hHeld => ?_); refine with_tabW laws_FnTorn.tab10 laws_FnTorn.bits10 (fun HT_ HW_ => ?_)
        generalize w116.drew = w117 at HO392 HO395 HO398 HO401 HO405 HO410 HO413 HO418 HO421 HO424 BK402 BK415 BK425 HB hHeld ⊢
        refine pure_ (i := 0) (N := some 41) (v := ?_) (a' := ?_) #[t_,f_,f_,f_,f_,f_,f_,f_,f_,f_,f_,f_,f_,f_,f_,f_,f_,f_,f_,f_,f_,f_,f_,f_,f_] rfl rfl (any_of HT_.out (by kernel_rfl)) (fun _ _ _ h => h) (Or.inl ⟨by rfl, ?_⟩) ?_ ?_
        rotate_left
        ·intro w'
         go_simp
         with_reducible rfl
        rotate_left
        ·simp only [Act.put, List.setIfInBounds_toArray, List.set_cons_zero, List.set_cons_succ, i64_w, i32_w]
         rfl
        refine pure_ (i := 1) (N := some 42) (v := ?_) (a' := ?_) #[t_,t_,f_,f_,f_,f_,f_,f_,f_,f_,f_,f_,f_,f_,f_,f_,f_,f_,f_,f_,f_,f_,f_,f_,f_] rfl rfl (any_of HT_.out (by kernel_rfl)) (fun _ _ _ h => h) (Or.inl ⟨by rfl, ?_⟩) ?_ ?_
        rotate_left
        ·intro w'
         go_simp
         with_reducible rfl
        rotate_left
        ·simp only [Act.put, List.setIfInBounds_toArray, List.set_cons_zero, List.set_cons_succ, i64_w, i32_w]
         rfl
        refine pure_ (i := 2) (N := some 43) (v := undef) (a' := ?_) #[t_,t_,t_,f_,f_,f_,f_,f_,f_,f_,f_,f_,f_,f_,f_,f_,f_,f_,f_,f_,f_,f_,f_,f_,f_] rfl rfl (any_of HT_.out (by kernel_rfl)) (fun _ _ _ h => h) (Or.inr ⟨by rfl, rfl⟩) ?_ ?_
        rotate_left
        ·simp only [Act.put, List.setIfInBounds_toArray, List.set_cons_zero, List.set_cons_succ, i64_w, i32_w]
         rfl
        refine pure_ (i := 3) (N := some 44) (v := undef) (a' := ?_) #[t_,t_,t_,t_,f_,f_,f_,f_,f_,f_,f_,f_,f_,f_,f_,f_,f_,f_,f_,f_,f_,f_,f_,f_,f_] rfl rfl (any_of HT_.out (by kernel_rfl)) (fun _ _ _ h => h) (Or.inr ⟨by rfl, rfl⟩) ?_ ?_
        rotate_left
        ·simp only [Act.put, List.setIfInBounds_toArray, List.set_cons_zero, List.set_cons_succ, i64_w, i32_w]
         rfl
        refine pure_ (i := 4) (N := some 45) (v := undef) (a' := ?_) #[t_,t_,t_,t_,t_,f_,f_,f_,f_,f_,f_,f_,f_,f_,f_,f_,f_,f_,f_,f_,f_,f_,f_,f_,f_] rfl rfl (any_of HT_.out (by kernel_rfl)) (fun _ _ _ h => h) (Or.inr ⟨by rfl, rfl⟩) ?_ ?_
        rotate_left
        ·simp only [Act.put, List.setIfInBounds_toArray, List.set_cons_zero, List.set_cons_succ, i64_w, i32_w]
         rfl
        refine pure_ (i := 5) (N := some 46) (v := undef) (a' := ?_) #[t_,t_,t_,t_,t_,t_,f_,f_,f_,f_,f_,f_,f_,f_,f_,f_,f_,f_,f_,f_,f_,f_,f_,f_,f_] rfl rfl (any_of HT_.out (by kernel_rfl)) (fun _ _ _ h => h) (Or.inr ⟨by rfl, rfl⟩) ?_ ?_
        rotate_left
        ·simp only [Act.put, List.setIfInBounds_toArray, List.set_cons_zero, List.set_cons_succ, i64_w, i32_w]
         rfl
        refine pure_ (i := 6) (N := some 47) (v := undef) (a' := ?_) #[t_,t_,t_,t_,t_,t_,t_,f_,f_,f_,f_,f_,f_,f_,f_,f_,f_,f_,f_,f_,f_,f_,f_,f_,f_] rfl rfl (any_of HT_.out (by kernel_rfl)) (fun _ _ _ h => h) (Or.inr ⟨by rfl, rfl⟩) ?_ ?_
        rotate_left
        ·simp only [Act.put, List.setIfInBounds_toArray, List.set_cons_zero, List.set_cons_succ, i64_w, i32_w]
         rfl
        refine pure_ (i := 7) (N := some 48) (v := undef) (a' := ?_) #[t_,t_,t_,t_,t_,t_,t_,t_,f_,f_,f_,f_,f_,f_,f_,f_,f_,f_,f_,f_,f_,f_,f_,f_,f_] rfl rfl (any_of HT_.out (by kernel_rfl)) (fun _ _ _ h => h) (Or.inr ⟨by rfl, rfl⟩) ?_ ?_
        rotate_left
        ·simp only [Act.put, List.setIfInBounds_toArray, List.set_cons_zero, List.set_cons_succ, i64_w, i32_w]
         rfl
        refine pure_ (i := 8) (N := some 49) (v := undef) (a' := ?_) #[t_,t_,t_,t_,t_,t_,t_,t_,t_,f_,f_,f_,f_,f_,f_,f_,f_,f_,f_,f_,f_,f_,f_,f_,f_] rfl rfl (any_of HT_.out (by kernel_rfl)) (fun _ _ _ h => h) (Or.inr ⟨by rfl, rfl⟩) ?_ ?_
        rotate_left
        ·simp only [Act.put, List.setIfInBounds_toArray, List.set_cons_zero, List.set_cons_succ, i64_w, i32_w]
         rfl
        refine pure_ (i := 9) (N := some 50) (v := undef) (a' := ?_) #[t_,t_,t_,t_,t_,t_,t_,t_,t_,t_,f_,f_,f_,f_,f_,f_,f_,f_,f_,f_,f_,f_,f_,f_,f_] rfl rfl (any_of HT_.out (by kernel_rfl)) (fun _ _ _ h => h) (Or.inr ⟨by rfl, rfl⟩) ?_ ?_
        rotate_left
        ·simp only [Act.put, List.setIfInBounds_toArray, List.set_cons_zero, List.set_cons_succ, i64_w, i32_w]
         rfl
        refine pure_ (i := 10) (N := some 51) (v := undef) (a' := ?_) #[t_,t_,t_,t_,t_,t_,t_,t_,t_,t_,t_,f_,f_,f_,f_,f_,f_,f_,f_,f_,f_,f_,f_,f_,f_] rfl rfl (any_of HT_.out (by kernel_rfl)) (fun _ _ _ h => h) (Or.inr ⟨by rfl, rfl⟩) ?_ ?_
        rotate_left
        ·simp only [Act.put, List.setIfInBounds_toArray, List.set_cons_zero, List.set_cons_succ, i64_w, i32_w]
         rfl
        refine pure_ (i := 11) (N := some 52) (v := undef) (a' := ?_) #[t_,t_,t_,t_,t_,t_,t_,t_,t_,t_,t_,t_,f_,f_,f_,f_,f_,f_,f_,f_,f_,f_,f_,f_,f_] rfl rfl (any_of HT_.out (by kernel_rfl)) (fun _ _ _ h => h) (Or.inr ⟨by rfl, rfl⟩) ?_ ?_
        rotate_left
        ·simp only [Act.put, List.setIfInBounds_toArray, List.set_cons_zero, List.set_cons_succ, i64_w, i32_w]
         rfl
        refine pure_ (i := 12) (N := some 53) (v := undef) (a' := ?_) #[t_,t_,t_,t_,t_,t_,t_,t_,t_,t_,t_,t_,t_,f_,f_,f_,f_,f_,f_,f_,f_,f_,f_,f_,f_] rfl rfl (any_of HT_.out (by kernel_rfl)) (fun _ _ _ h => h) (Or.inr ⟨by rfl, rfl⟩) ?_ ?_
        rotate_left
        ·simp only [Act.put, List.setIfInBounds_toArray, List.set_cons_zero, List.set_cons_succ, i64_w, i32_w]
         rfl
        refine pure_ (i := 13) (N := some 54) (v := undef) (a' := ?_) #[t_,t_,t_,t_,t_,t_,t_,t_,t_,t_,t_,t_,t_,t_,f_,f_,f_,f_,f_,f_,f_,f_,f_,f_,f_] rfl rfl (any_of HT_.out (by kernel_rfl)) (fun _ _ _ h => h) (Or.inr ⟨by rfl, rfl⟩) ?_ ?_
        rotate_left
        ·simp only [Act.put, List.setIfInBounds_toArray, List.set_cons_zero, List.set_cons_succ, i64_w, i32_w]
         rfl
        refine pure_ (i := 14) (N := some 55) (v := undef) (a' := ?_) #[t_,t_,t_,t_,t_,t_,t_,t_,t_,t_,t_,t_,t_,t_,t_,f_,f_,f_,f_,f_,f_,f_,f_,f_,f_] rfl rfl (any_of HT_.out (by kernel_rfl)) (fun _ _ _ h => h) (Or.inr ⟨by rfl, rfl⟩) ?_ ?_
        rotate_left
        ·simp only [Act.put, List.setIfInBounds_toArray, List.set_cons_zero, List.set_cons_succ, i64_w, i32_w]
         rfl
        refine pure_ (i := 15) (N := some 56) (v := undef) (a' := ?_) #[t_,t_,t_,t_,t_,t_,t_,t_,t_,t_,t_,t_,t_,t_,t_,t_,f_,f_,f_,f_,f_,f_,f_,f_,f_] rfl rfl (any_of HT_.out (by kernel_rfl)) (fun _ _ _ h => h) (Or.inr ⟨by rfl, rfl⟩) ?_ ?_
        rotate_left
        ·simp only [Act.put, List.setIfInBounds_toArray, List.set_cons_zero, List.set_cons_succ, i64_w, i32_w]
         rfl
        refine pure_ (i := 16) (N := some 57) (v := undef) (a' := ?_) #[t_,t_,t_,t_,t_,t_,t_,t_,t_,t_,t_,t_,t_,t_,t_,t_,t_,f_,f_,f_,f_,f_,f_,f_,f_] rfl rfl (any_of HT_.out (by kernel_rfl)) (fun _ _ _ h => h) (Or.inr ⟨by rfl, rfl⟩) ?_ ?_
        rotate_left
        ·simp only [Act.put, List.setIfInBounds_toArray, List.set_cons_zero, List.set_cons_succ, i64_w, i32_w]
         rfl
        refine pure_ (i := 17) (N := some 58) (v := undef) (a' := ?_) #[t_,t_,t_,t_,t_,t_,t_,t_,t_,t_,t_,t_,t_,t_,t_,t_,t_,t_,f_,f_,f_,f_,f_,f_,f_] rfl rfl (any_of HT_.out (by kernel_rfl)) (fun _ _ _ h => h) (Or.inr ⟨by rfl, rfl⟩) ?_ ?_
        rotate_left
        ·simp only [Act.put, List.setIfInBounds_toArray, List.set_cons_zero, List.set_cons_succ, i64_w, i32_w]
         rfl
        refine pure_ (i := 18) (N := some 59) (v := undef) (a' := ?_) #[t_,t_,t_,t_,t_,t_,t_,t_,t_,t_,t_,t_,t_,t_,t_,t_,t_,t_,t_,f_,f_,f_,f_,f_,f_] rfl rfl (any_of HT_.out (by kernel_rfl)) (fun _ _ _ h => h) (Or.inr ⟨by rfl, rfl⟩) ?_ ?_
        rotate_left
        ·simp only [Act.put, List.setIfInBounds_toArray, List.set_cons_zero, List.set_cons_succ, i64_w, i32_w]
         rfl
        refine pure_ (i := 19) (N := some 60) (v := ?_) (a' := ?_) #[t_,t_,t_,t_,t_,t_,t_,t_,t_,t_,t_,t_,t_,t_,t_,t_,t_,t_,t_,t_,f_,f_,f_,f_,f_] rfl rfl (any_of HT_.out (by kernel_rfl)) (fun _ _ _ h => h) (Or.inl ⟨by rfl, ?_⟩) ?_ ?_
        rotate_left
        ·intro w'
         go_simp
         with_reducible rfl
        rotate_left
        ·simp only [Act.put, List.setIfInBounds_toArray, List.set_cons_zero, List.set_cons_succ, i64_w, i32_w]
         rfl
        refine pure_ (i := 20) (N := some 61) (v := ?_) (a' := ?_) #[t_,t_,t_,t_,t_,t_,t_,t_,t_,t_,t_,t_,t_,t_,t_,t_,t_,t_,t_,t_,t_,f_,f_,f_,f_] rfl rfl (any_of HT_.out (by kernel_rfl)) (fun _ _ _ h => h) (Or.inl ⟨by rfl, ?_⟩) ?_ ?_
        rotate_left
        ·intro w'
         go_simp
         with_reducible rfl
        rotate_left
        ·simp only [Act.put, List.setIfInBounds_toArray, List.set_cons_zero, List.set_cons_succ, i64_w, i32_w]
         rfl
        refine pure_ (i := 21) (N := some 62) (v := undef) (a' := ?_) #[t_,t_,t_,t_,t_,t_,t_,t_,t_,t_,t_,t_,t_,t_,t_,t_,t_,t_,t_,t_,t_,t_,f_,f_,f_] rfl rfl (any_of HT_.out (by kernel_rfl)) (fun _ _ _ h => h) (Or.inr ⟨by rfl, rfl⟩) ?_ ?_
        rotate_left
        ·simp only [Act.put, List.setIfInBounds_toArray, List.set_cons_zero, List.set_cons_succ, i64_w, i32_w]
         rfl
        refine pure_ (i := 22) (N := some 63) (v := undef) (a' := ?_) #[t_,t_,t_,t_,t_,t_,t_,t_,t_,t_,t_,t_,t_,t_,t_,t_,t_,t_,t_,t_,t_,t_,t_,f_,f_] rfl rfl (any_of HT_.out (by kernel_rfl)) (fun _ _ _ h => h) (Or.inr ⟨by rfl, rfl⟩) ?_ ?_
        rotate_left
        ·simp only [Act.put, List.setIfInBounds_toArray, List.set_cons_zero, List.set_cons_succ, i64_w, i32_w]
         rfl
        refine pure_ (i := 23) (N := some 64) (v := ?_) (a' := ?_) #[t_,t_,t_,t_,t_,t_,t_,t_,t_,t_,t_,t_,t_,t_,t_,t_,t_,t_,t_,t_,t_,t_,t_,t_,f_] rfl rfl (any_of HT_.out (by kernel_rfl)) (fun _ _ _ h => h) (Or.inl ⟨by rfl, ?_⟩) ?_ ?_
        rotate_left
        ·intro w'
         go_simp
         with_reducible rfl
        rotate_left
        ·simp only [Act.put, List.setIfInBounds_toArray, List.set_cons_zero, List.set_cons_succ, i64_w, i32_w]
         rfl
        refine pure_ (i := 24) (N := some 2) (v := ?_) (a' := ?_) #[t_,t_,t_,t_,t_,t_,t_,t_,t_,t_,t_,t_,t_,t_,t_,t_,t_,t_,t_,t_,t_,t_,t_,t_,t_] rfl rfl (any_of HT_.out (by kernel_rfl)) (fun _ _ _ h => h) (Or.inl ⟨by rfl, ?_⟩) ?_ ?_
        rotate_left
        ·intro w'
         go_simp
         with_reducible rfl
        rotate_left
        ·simp only [Act.put, List.setIfInBounds_toArray, List.set_cons_zero, List.set_cons_succ, i64_w, i32_w]
         rfl
        refine done_ (done_of HT_.out (by kernel_rfl)) ?_
        try go_wp2
        go_ret
        exact ⟨by first | rfl | (simp [errW_none, errW_some] <;> rfl) | (simp [*, errW_none, errW_some] <;> rfl), by exact lT HB (gC GE402 (gC GE415 (gC GE425 gN)))⟩
      ·rw [if_neg c11] at H
       exact absurd H (by simp)
     ·rw [if_neg c10] at H
      exact absurd H (by simp)
    ·rw [if_neg c9] at H
     exact absurd H (by simp)
  ·rw [if_neg c7] at H
   exact absurd H (by simp)

/-- THE ONE PURE STATEMENT of laws_FnTorn: yours. -/
def laws_FnTorn.Pure : Prop := ∀ (l0 : List Int), l0.length ≤ maxLen → l0.length * 1 ≤ 140737488351232 → (∀ x ∈ l0, (Lit.int .u8 x).wf = true) → ∃ k, laws_FnTorn.f k l0 = some true
theorem laws_FnTorn.walk (P : laws_FnTorn.Pure) (a0 : Option Addr) (len0 cap0 : Nat) (z0 : List Int) (w : World) (w0 : (a0 = none ∧ len0 = 0 ∧ cap0 = 0 ∧ z0 = []) ∨ ∃ x, a0 = some x ∧ len0 ≤ cap0 ∧ cap0 ≤ maxLen ∧ z0.length = cap0 ∧ (∀ i, i < z0.length → w.cell? (x.add i) = some (.int .u8 (z0.getD i 0))) ∧ ∀ n ∈ z0, (Lit.int .u8 n).wf = true) (y0 : len0 * 1 ≤ 140737488351232) :
  Calls Try.prog 4 #[.slice a0 len0 cap0] w fun e w' => e = .returned (.bool true) ∧ Below w.heap.size w w' := by
 obtain ⟨l0, rfl, hr0, hm0, hw0, hc0⟩ := ReadsInt.ofRowC w0
 obtain ⟨k, h⟩ := P l0 hm0 y0 hw0
 refine (laws_FnTorn.calls k _ _ l0 true w (Kd.C_of_reads (d := (0 : Int)) (h1 := fun _ => rfl) hr0) hc0 h).mono ?_
 rintro e w' ⟨rfl, hd⟩
 exact ⟨rfl, hd⟩

end Go.Proofs.Ytjpngldnkgofaaa.PFnTorn
