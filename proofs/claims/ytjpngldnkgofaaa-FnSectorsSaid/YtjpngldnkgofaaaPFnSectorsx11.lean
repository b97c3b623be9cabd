-- Written for this claim by a program of mine (a turned copy of the kit's print): functions as plain Lean, and their contracts. Lean checks it.
import Derived.Test.YtjpngldnkgofaaaPFnSectorsx0
import Derived.Test.YtjpngldnkgofaaaPFnSectorsx1
import Derived.Test.YtjpngldnkgofaaaPFnSectorsx4
import Derived.Test.YtjpngldnkgofaaaPFnSectorsx9
import Derived.Test.YtjpngldnkgofaaaPFnSectorsx10
import Derived.Test.YtjpngldnkgofaaaVFnSectors1
namespace Go.Proofs.Ytjpngldnkgofaaa.PFnSectors
open Go.RowKit Go.Proofs.YtjpngldnkgofaaaW.PrintWords Go.Proofs.YtjpngldnkgofaaaW.PrintLast Go.Proofs.YtjpngldnkgofaaaW.PrintMore
attribute [local go_sem] max2_int min2_int max_two min_two max_three min_three max_four min_four   -- for this text's walks alone
set_option linter.unusedVariables false
set_option linter.unusedSimpArgs false

/-! ### laws_FnSectors: function 3 -/
def laws_FnSectors.l0 : Nat → Int → ByteArray → Bool → Int → List ByteArray → List (S63) → List ByteArray → List (S63) → List ByteArray → List (S63) → Option (Bool)
 | 0, _, _, _, _, _, _, _, _, _, _ => none
 | k + 1, x5, x6, x8, x10, x377000, x377001, x394000, x394001, x401000, x401001 => if x10 < (x377000.length : Int) then ((spec_ReadSector.f k x377000 x377001 x10).bind fun bt404 => ((impl_ReadSector.f k x394000 x394001 x10).bind fun bt406 => ((impl_ReadSector.f k x401000 x401001 x10).bind fun bt408 => (if bt406.2 = true then (if bt408.2 = true then (if x10 = x5 then (if bt406.1.toList = x6.toList then (if bt408.1.toList = x6.toList then (if 0 ≤ x10 then (if x10 < (x401000.length : Int) then (if (rdOf ByteArray.empty x401000 x10).toList = x6.toList then (laws_FnSectors.l0 k x5 x6 x8 (wrap64 (x10 + 1)) x377000 x377001 x394000 x394001 x401000 x401001) else (some false)) else (none)) else (none)) else (some false)) else (some false)) else (if bt404.1.toList = bt406.1.toList then (if bt404.1.toList = bt408.1.toList then (laws_FnSectors.l0 k x5 x6 x8 (wrap64 (x10 + 1)) x377000 x377001 x394000 x394001 x401000 x401001) else (some false)) else (some false))) else (some false)) else (some false))))) else (if x8 = true then (if (x401001.length : Int) = 0 then ((impl_DiskOk.f x401000 x401001).bind fun t401 => (if t401 = true then (if 0 ≤ x5 then (if x5 < (x394000.length : Int) then (if x5 < (x377000.length : Int) then (some ((rdOf ByteArray.empty x394000 x5).toList == (rdOf ByteArray.empty x377000 x5).toList)) else (none)) else (none)) else (none)) else (some false))) else (some false)) else (some false))
def laws_FnSectors.f (k : Nat) (l0 : List Int) : Option (Bool) := (laws_big.f l0).bind fun t369 => (if t369 = true then (some true) else ((spec_DrawDisk.f k l0).bind fun bt370 => ((spec_DrawPlaces.f k l0).bind fun t377 => (if 0 < (t377.length : Int) then (if (bt370.1.length : Int) = 0 then (none) else (if 0 ≤ (Int.tmod (rd t377 0) (bt370.1.length : Int)) then (if (Int.tmod (rd t377 0) (bt370.1.length : Int)) < (bt370.1.length : Int) then (if 0 ≤ 7 then (if 7 ≤ ((rdOf ByteArray.empty bt370.1 (Int.tmod (rd t377 0) (bt370.1.length : Int))).size : Int) then (if ((rdOf ByteArray.empty bt370.1 (Int.tmod (rd t377 0) (bt370.1.length : Int))).extract 0 7).size + 26 ≤ 9223372036854775807 then (if 0 ≤ 31 then (if 31 ≤ ((((rdOf ByteArray.empty bt370.1 (Int.tmod (rd t377 0) (bt370.1.length : Int))).extract 0 7) ++ (⟨#[115, 101, 118, 101, 110, 98, 121, 116, 101, 115, 32, 111, 102, 32, 97, 110, 111, 116, 104, 101, 114, 32, 116, 101, 120, 116]⟩ : ByteArray)).size : Int) then (if 1 < (t377.length : Int) then ((some (([(rd t377 1) % 256] : List Int) : List Int)).bind fun y383 => (if ((((rdOf ByteArray.empty bt370.1 (Int.tmod (rd t377 0) (bt370.1.length : Int))).extract 0 7) ++ (⟨#[115, 101, 118, 101, 110, 98, 121, 116, 101, 115, 32, 111, 102, 32, 97, 110, 111, 116, 104, 101, 114, 32, 116, 101, 120, 116]⟩ : ByteArray)).extract 0 31).size + (strOfNums y383).size ≤ 9223372036854775807 then ((impl_WriteSector.f bt370.1 bt370.2 (Int.tmod (rd t377 0) (bt370.1.length : Int)) (((((rdOf ByteArray.empty bt370.1 (Int.tmod (rd t377 0) (bt370.1.length : Int))).extract 0 7) ++ (⟨#[115, 101, 118, 101, 110, 98, 121, 116, 101, 115, 32, 111, 102, 32, 97, 110, 111, 116, 104, 101, 114, 32, 116, 101, 120, 116]⟩ : ByteArray)).extract 0 31) ++ (strOfNums y383))).bind fun bt386 => ((impl_FlushDisk.f k bt386.1 bt386.2.1).bind fun bt394 => (laws_FnSectors.l0 k (Int.tmod (rd t377 0) (bt370.1.length : Int)) (((((rdOf ByteArray.empty bt370.1 (Int.tmod (rd t377 0) (bt370.1.length : Int))).extract 0 7) ++ (⟨#[115, 101, 118, 101, 110, 98, 121, 116, 101, 115, 32, 111, 102, 32, 97, 110, 111, 116, 104, 101, 114, 32, 116, 101, 120, 116]⟩ : ByteArray)).extract 0 31) ++ (strOfNums y383)) bt386.2.2 0 bt370.1 bt370.2 bt386.1 bt386.2.1 bt394.1 bt394.2))) else (none))) else (none)) else (none)) else (none)) else (none)) else (none)) else (none)) else (none)) else (none))) else (none)))))
theorem laws_FnSectors.mono_l : ∀ k, (∀ y0 y1 y2 y3 y4 y5 y6 y7 y8 y9, LeO (laws_FnSectors.l0 k y0 y1 y2 y3 y4 y5 y6 y7 y8 y9) (laws_FnSectors.l0 (k + 1) y0 y1 y2 y3 y4 y5 y6 y7 y8 y9))
 | 0 => fun _ _ _ _ _ _ _ _ _ _ r h => by simp [laws_FnSectors.l0] at h
 | k + 1 => by
  have ih0 := laws_FnSectors.mono_l k
  ·intro y0 y1 y2 y3 y4 y5 y6 y7 y8 y9
   unfold laws_FnSectors.l0
   repeat' first
   | (with_reducible exact ih0 _ _ _ _ _ _ _ _ _ _)
   | (with_reducible exact impl_FlushDisk.mono _ _ _)
   | (with_reducible exact impl_ReadSector.mono _ _ _ _)
   | (with_reducible exact spec_DrawDisk.mono _ _)
   | (with_reducible exact spec_DrawPlaces.mono _ _)
   | (with_reducible exact spec_ReadSector.mono _ _ _ _)
   | (with_reducible exact LeO.refl _)
   | (with_reducible exact LeO.none _)
   | (with_reducible refine LeO.ite ?_ ?_)
   | (with_reducible refine LeO.bind ?_ (fun _ => ?_))
   | exact ih0 _ _ _ _ _ _ _ _ _ _
   | exact impl_FlushDisk.mono _ _ _
   | exact impl_ReadSector.mono _ _ _ _
   | exact spec_DrawDisk.mono _ _
   | exact spec_DrawPlaces.mono _ _
   | exact spec_ReadSector.mono _ _ _ _
   | exact LeO.none _
   | refine LeO.ite ?_ ?_
   | refine LeO.bind ?_ (fun _ => ?_)
theorem laws_FnSectors.mono : ∀ a0 k, LeO (laws_FnSectors.f k a0) (laws_FnSectors.f (k + 1) a0) := by
 intro a0 k
 have ih0 := laws_FnSectors.mono_l k
 unfold laws_FnSectors.f
 repeat' first
   | (with_reducible exact ih0 _ _ _ _ _ _ _ _ _ _)
   | (with_reducible exact impl_FlushDisk.mono _ _ _)
   | (with_reducible exact impl_ReadSector.mono _ _ _ _)
   | (with_reducible exact spec_DrawDisk.mono _ _)
   | (with_reducible exact spec_DrawPlaces.mono _ _)
   | (with_reducible exact spec_ReadSector.mono _ _ _ _)
   | (with_reducible exact LeO.refl _)
   | (with_reducible exact LeO.none _)
   | (with_reducible refine LeO.ite ?_ ?_)
   | (with_reducible refine LeO.bind ?_ (fun _ => ?_))
   | exact ih0 _ _ _ _ _ _ _ _ _ _
   | exact impl_FlushDisk.mono _ _ _
   | exact impl_ReadSector.mono _ _ _ _
   | exact spec_DrawDisk.mono _ _
   | exact spec_DrawPlaces.mono _ _
   | exact spec_ReadSector.mono _ _ _ _
   | exact LeO.none _
   | refine LeO.ite ?_ ?_
   | refine LeO.bind ?_ (fun _ => ?_)
def laws_FnSectors.T5 : Bool × List (List Nat × List Nat) := (true, [([], []), ([0], [0]), ([1], [1]), ([], []), ([3], [3]), ([4], [4]), ([2, 5], [2, 5]), ([6, 0, 1, 2, 3, 4, 5, 6], [6])])
def laws_FnSectors.B5 : List Nat := [0, 1, 3, 0, 8, 24, 63, 127]
theorem laws_FnSectors.tab5 : rtab .any (opsOf Try.f3 5) = laws_FnSectors.T5 := by kernel_rfl
theorem laws_FnSectors.bits5 : waitsOk laws_FnSectors.T5.2 laws_FnSectors.B5 = true := by kernel_rfl
def laws_FnSectors.T7 : Bool × List (List Nat × List Nat) := (true, [([], []), ([0], [0]), ([], []), ([2], [2]), ([3], [3]), ([4], [4]), ([5], [5]), ([6], [6]), ([1, 7], [1, 7]), ([8, 0, 1, 2, 3, 4, 5, 6, 7, 8], [0, 8])])
def laws_FnSectors.B7 : List Nat := [0, 1, 0, 4, 12, 28, 60, 124, 255, 511]
theorem laws_FnSectors.tab7 : rtab .any (opsOf Try.f3 7) = laws_FnSectors.T7 := by kernel_rfl
theorem laws_FnSectors.bits7 : waitsOk laws_FnSectors.T7.2 laws_FnSectors.B7 = true := by kernel_rfl
def laws_FnSectors.T18 : Bool × List (List Nat × List Nat) := (true, [([], []), ([0], [0]), ([1], [1]), ([2, 1], [1, 2]), ([3, 1], [1, 3]), ([4, 1], [1, 4]), ([1, 5], [1, 5]), ([6, 1], [6]), ([7], [7]), ([8, 7, 7], [7, 8]), ([7, 9], [7, 9]), ([10, 9], [10]), ([11], [11]), ([12, 11], [11, 12]), ([11], [11]), ([13, 14, 11], [11, 13, 14]), ([15, 11], [11, 15]), ([11], [11]), ([17, 11], [11, 17]), ([11], [11]), ([18, 19, 11], [11, 18, 19]), ([20, 11], [11, 20]), ([16, 21, 11], [11, 16, 21]), ([11, 22], [11, 22]), ([23, 11, 0, 1, 2, 3, 4, 5, 6, 7, 8, 9, 10, 11, 12, 13, 14, 15, 16, 17, 18, 19, 20, 21, 22, 23], [23])])
def laws_FnSectors.B18 : List Nat := [0, 1, 3, 7, 15, 31, 63, 127, 255, 511, 1023, 2047, 4095, 8191, 4095, 32767, 65535, 4095, 135167, 4095, 921599, 1970175, 4194303, 8388607, 16777215]
theorem laws_FnSectors.tab18 : rtab .any (opsOf Try.f3 18) = laws_FnSectors.T18 := by kernel_rfl
theorem laws_FnSectors.bits18 : waitsOk laws_FnSectors.T18.2 laws_FnSectors.B18 = true := by kernel_rfl
set_option maxHeartbeats 8000000 in
set_option maxRecDepth 100000 in
theorem laws_FnSectors.calls (k : Nat) (A0 : Option Addr) (c0 : Nat) (l0 : List Int) (r : Bool) (w : World) (hr0 : Kd.C (Kd.int .u8) w A0 l0.length l0) (hc0 : l0.length ≤ c0) (h : laws_FnSectors.f k l0 = some r) :
  Calls Try.prog 3 #[.slice A0 l0.length c0] w fun e w' => e = .returned (.bool r) ∧ Below w.heap.size w w' := by
 have hu27 := Try.underlying27
 have HR0 := Aside0.mk hr0
 have HC0 := Aside0.mk hc0
 clear hr0 hc0
 have HB := ak (Below.refl w.heap.size w)
 have H : ((laws_big.f l0).bind fun t369 => (if t369 = true then (some true) else ((spec_DrawDisk.f k l0).bind fun bt370 => ((spec_DrawPlaces.f k l0).bind fun t377 => (if 0 < (t377.length : Int) then (if (bt370.1.length : Int) = 0 then (none) else (if 0 ≤ (Int.tmod (rd t377 0) (bt370.1.length : Int)) then (if (Int.tmod (rd t377 0) (bt370.1.length : Int)) < (bt370.1.length : Int) then (if 0 ≤ 7 then (if 7 ≤ ((rdOf ByteArray.empty bt370.1 (Int.tmod (rd t377 0) (bt370.1.length : Int))).size : Int) then (if ((rdOf ByteArray.empty bt370.1 (Int.tmod (rd t377 0) (bt370.1.length : Int))).extract 0 7).size + 26 ≤ 9223372036854775807 then (if 0 ≤ 31 then (if 31 ≤ ((((rdOf ByteArray.empty bt370.1 (Int.tmod (rd t377 0) (bt370.1.length : Int))).extract 0 7) ++ (⟨#[115, 101, 118, 101, 110, 98, 121, 116, 101, 115, 32, 111, 102, 32, 97, 110, 111, 116, 104, 101, 114, 32, 116, 101, 120, 116]⟩ : ByteArray)).size : Int) then (if 1 < (t377.length : Int) then ((some (([(rd t377 1) % 256] : List Int) : List Int)).bind fun y383 => (if ((((rdOf ByteArray.empty bt370.1 (Int.tmod (rd t377 0) (bt370.1.length : Int))).extract 0 7) ++ (⟨#[115, 101, 118, 101, 110, 98, 121, 116, 101, 115, 32, 111, 102, 32, 97, 110, 111, 116, 104, 101, 114, 32, 116, 101, 120, 116]⟩ : ByteArray)).extract 0 31).size + (strOfNums y383).size ≤ 9223372036854775807 then ((impl_WriteSector.f bt370.1 bt370.2 (Int.tmod (rd t377 0) (bt370.1.length : Int)) (((((rdOf ByteArray.empty bt370.1 (Int.tmod (rd t377 0) (bt370.1.length : Int))).extract 0 7) ++ (⟨#[115, 101, 118, 101, 110, 98, 121, 116, 101, 115, 32, 111, 102, 32, 97, 110, 111, 116, 104, 101, 114, 32, 116, 101, 120, 116]⟩ : ByteArray)).extract 0 31) ++ (strOfNums y383))).bind fun bt386 => ((impl_FlushDisk.f k bt386.1 bt386.2.1).bind fun bt394 => (laws_FnSectors.l0 k (Int.tmod (rd t377 0) (bt370.1.length : Int)) (((((rdOf ByteArray.empty bt370.1 (Int.tmod (rd t377 0) (bt370.1.length : Int))).extract 0 7) ++ (⟨#[115, 101, 118, 101, 110, 98, 121, 116, 101, 115, 32, 111, 102, 32, 97, 110, 111, 116, 104, 101, 114, 32, 116, 101, 120, 116]⟩ : ByteArray)).extract 0 31) ++ (strOfNums y383)) bt386.2.2 0 bt370.1 bt370.2 bt386.1 bt386.2.1 bt394.1 bt394.2))) else (none))) else (none)) else (none)) else (none)) else (none)) else (none)) else (none)) else (none)) else (none))) else (none)))))) = some r := h
 clear h
 replace H := Option.bind_eq_some_iff.mp H
 obtain ⟨t369, A20, H⟩ := H
 replace H : (if t369 = true then (some true) else ((spec_DrawDisk.f k l0).bind fun bt370 => ((spec_DrawPlaces.f k l0).bind fun t377 => (if 0 < (t377.length : Int) then (if (bt370.1.length : Int) = 0 then (none) else (if 0 ≤ (Int.tmod (rd t377 0) (bt370.1.length : Int)) then (if (Int.tmod (rd t377 0) (bt370.1.length : Int)) < (bt370.1.length : Int) then (if 0 ≤ 7 then (if 7 ≤ ((rdOf ByteArray.empty bt370.1 (Int.tmod (rd t377 0) (bt370.1.length : Int))).size : Int) then (if ((rdOf ByteArray.empty bt370.1 (Int.tmod (rd t377 0) (bt370.1.length : Int))).extract 0 7).size + 26 ≤ 9223372036854775807 then (if 0 ≤ 31 then (if 31 ≤ ((((rdOf ByteArray.empty bt370.1 (Int.tmod (rd t377 0) (bt370.1.length : Int))).extract 0 7) ++ (⟨#[115, 101, 118, 101, 110, 98, 121, 116, 101, 115, 32, 111, 102, 32, 97, 110, 111, 116, 104, 101, 114, 32, 116, 101, 120, 116]⟩ : ByteArray)).size : Int) then (if 1 < (t377.length : Int) then ((some (([(rd t377 1) % 256] : List Int) : List Int)).bind fun y383 => (if ((((rdOf ByteArray.empty bt370.1 (Int.tmod (rd t377 0) (bt370.1.length : Int))).extract 0 7) ++ (⟨#[115, 101, 118, 101, 110, 98, 121, 116, 101, 115, 32, 111, 102, 32, 97, 110, 111, 116, 104, 101, 114, 32, 116, 101, 120, 116]⟩ : ByteArray)).extract 0 31).size + (strOfNums y383).size ≤ 9223372036854775807 then ((impl_WriteSector.f bt370.1 bt370.2 (Int.tmod (rd t377 0) (bt370.1.length : Int)) (((((rdOf ByteArray.empty bt370.1 (Int.tmod (rd t377 0) (bt370.1.length : Int))).extract 0 7) ++ (⟨#[115, 101, 118, 101, 110, 98, 121, 116, 101, 115, 32, 111, 102, 32, 97, 110, 111, 116, 104, 101, 114, 32, 116, 101, 120, 116]⟩ : ByteArray)).extract 0 31) ++ (strOfNums y383))).bind fun bt386 => ((impl_FlushDisk.f k bt386.1 bt386.2.1).bind fun bt394 => (laws_FnSectors.l0 k (Int.tmod (rd t377 0) (bt370.1.length : Int)) (((((rdOf ByteArray.empty bt370.1 (Int.tmod (rd t377 0) (bt370.1.length : Int))).extract 0 7) ++ (⟨#[115, 101, 118, 101, 110, 98, 121, 116, 101, 115, 32, 111, 102, 32, 97, 110, 111, 116, 104, 101, 114, 32, 116, 101, 120, 116]⟩ : ByteArray)).extract 0 31) ++ (strOfNums y383)) bt386.2.2 0 bt370.1 bt370.2 bt386.1 bt386.2.1 bt394.1 bt394.2))) else (none))) else (none)) else (none)) else (none)) else (none)) else (none)) else (none)) else (none)) else (none))) else (none))))) = some r := H
 have A2 := Aside0.mk A20
 clear A20
 by_cases c3 : t369 = true
 ·subst c3
  have H1 : (some true) = some r := by rw [if_pos rfl] at H; exact H
  clear H
  have H := H1
  clear H1
  obtain rfl := Option.some.inj H
  go_enter Try.func3, Try.ntmps3
  go_wp2_with (first | ((with_reducible refine gate_callee (f := 9) rfl ?_); refine goesL_ (some 18) rfl rfl Try.func9 (by kernel_rfl) rfl #[.slice A0 l0.length c0] rfl (by (try simp only [List.map_toArray, List.map_cons, List.map_nil]); first | done | rfl | (simp only [List.length_drop, List.length_take]; rfl)) ?_; (with_reducible refine (laws_big.calls _ _ l0 true _ ?side1 ?side2 A2.out).mono ?_); (case side1 => repeat (first | exact HR0.out | (with_reducible refine Kd.C_alloc ?_ _) | (with_reducible refine Kd.C_drewN ?_ _) | (with_reducible refine Kd.C_drew ?_))); (case side2 => exact HC0.out); rintro e w' ⟨rfl, ⟨nd, rfl⟩⟩; refine ⟨_, rfl, ?_⟩))
  go_ret
  exact ⟨by first | rfl | (simp [errW_none, errW_some] <;> rfl) | (simp [*, errW_none, errW_some] <;> rfl), by exact lG HB⟩
 ·replace c3 := Bool.eq_false_iff.mpr c3
  subst c3
  have H1 : ((spec_DrawDisk.f k l0).bind fun bt370 => ((spec_DrawPlaces.f k l0).bind fun t377 => (if 0 < (t377.length : Int) then (if (bt370.1.length : Int) = 0 then (none) else (if 0 ≤ (Int.tmod (rd t377 0) (bt370.1.length : Int)) then (if (Int.tmod (rd t377 0) (bt370.1.length : Int)) < (bt370.1.length : Int) then (if 0 ≤ 7 then (if 7 ≤ ((rdOf ByteArray.empty bt370.1 (Int.tmod (rd t377 0) (bt370.1.length : Int))).size : Int) then (if ((rdOf ByteArray.empty bt370.1 (Int.tmod (rd t377 0) (bt370.1.length : Int))).extract 0 7).size + 26 ≤ 9223372036854775807 then (if 0 ≤ 31 then (if 31 ≤ ((((rdOf ByteArray.empty bt370.1 (Int.tmod (rd t377 0) (bt370.1.length : Int))).extract 0 7) ++ (⟨#[115, 101, 118, 101, 110, 98, 121, 116, 101, 115, 32, 111, 102, 32, 97, 110, 111, 116, 104, 101, 114, 32, 116, 101, 120, 116]⟩ : ByteArray)).size : Int) then (if 1 < (t377.length : Int) then ((some (([(rd t377 1) % 256] : List Int) : List Int)).bind fun y383 => (if ((((rdOf ByteArray.empty bt370.1 (Int.tmod (rd t377 0) (bt370.1.length : Int))).extract 0 7) ++ (⟨#[115, 101, 118, 101, 110, 98, 121, 116, 101, 115, 32, 111, 102, 32, 97, 110, 111, 116, 104, 101, 114, 32, 116, 101, 120, 116]⟩ : ByteArray)).extract 0 31).size + (strOfNums y383).size ≤ 9223372036854775807 then ((impl_WriteSector.f bt370.1 bt370.2 (Int.tmod (rd t377 0) (bt370.1.length : Int)) (((((rdOf ByteArray.empty bt370.1 (Int.tmod (rd t377 0) (bt370.1.length : Int))).extract 0 7) ++ (⟨#[115, 101, 118, 101, 110, 98, 121, 116, 101, 115, 32, 111, 102, 32, 97, 110, 111, 116, 104, 101, 114, 32, 116, 101, 120, 116]⟩ : ByteArray)).extract 0 31) ++ (strOfNums y383))).bind fun bt386 => ((impl_FlushDisk.f k bt386.1 bt386.2.1).bind fun bt394 => (laws_FnSectors.l0 k (Int.tmod (rd t377 0) (bt370.1.length : Int)) (((((rdOf ByteArray.empty bt370.1 (Int.tmod (rd t377 0) (bt370.1.length : Int))).extract 0 7) ++ (⟨#[115, 101, 118, 101, 110, 98, 121, 116, 101, 115, 32, 111, 102, 32, 97, 110, 111, 116, 104, 101, 114, 32, 116, 101, 120, 116]⟩ : ByteArray)).extract 0 31) ++ (strOfNums y383)) bt386.2.2 0 bt370.1 bt370.2 bt386.1 bt386.2.1 bt394.1 bt394.2))) else (none))) else (none)) else (none)) else (none)) else (none)) else (none)) else (none)) else (none)) else (none))) else (none)))) = some r := by rw [if_neg (show ¬ (false = true) by decide)] at H; exact H
  clear H
  have H := H1
  clear H1
  replace H := Option.bind_eq_some_iff.mp H
  obtain ⟨⟨t370, t373⟩, A40, H⟩ := H
  replace H : ((spec_DrawPlaces.f k l0).bind fun t377 => (if 0 < (t377.length : Int) then (if (t370.length : Int) = 0 then (none) else (if 0 ≤ (Int.tmod (rd t377 0) (t370.length : Int)) then (if (Int.tmod (rd t377 0) (t370.length : Int)) < (t370.length : Int) then (if 0 ≤ 7 then (if 7 ≤ ((rdOf ByteArray.empty t370 (Int.tmod (rd t377 0) (t370.length : Int))).size : Int) then (if ((rdOf ByteArray.empty t370 (Int.tmod (rd t377 0) (t370.length : Int))).extract 0 7).size + 26 ≤ 9223372036854775807 then (if 0 ≤ 31 then (if 31 ≤ ((((rdOf ByteArray.empty t370 (Int.tmod (rd t377 0) (t370.length : Int))).extract 0 7) ++ (⟨#[115, 101, 118, 101, 110, 98, 121, 116, 101, 115, 32, 111, 102, 32, 97, 110, 111, 116, 104, 101, 114, 32, 116, 101, 120, 116]⟩ : ByteArray)).size : Int) then (if 1 < (t377.length : Int) then ((some (([(rd t377 1) % 256] : List Int) : List Int)).bind fun y383 => (if ((((rdOf ByteArray.empty t370 (Int.tmod (rd t377 0) (t370.length : Int))).extract 0 7) ++ (⟨#[115, 101, 118, 101, 110, 98, 121, 116, 101, 115, 32, 111, 102, 32, 97, 110, 111, 116, 104, 101, 114, 32, 116, 101, 120, 116]⟩ : ByteArray)).extract 0 31).size + (strOfNums y383).size ≤ 9223372036854775807 then ((impl_WriteSector.f t370 t373 (Int.tmod (rd t377 0) (t370.length : Int)) (((((rdOf ByteArray.empty t370 (Int.tmod (rd t377 0) (t370.length : Int))).extract 0 7) ++ (⟨#[115, 101, 118, 101, 110, 98, 121, 116, 101, 115, 32, 111, 102, 32, 97, 110, 111, 116, 104, 101, 114, 32, 116, 101, 120, 116]⟩ : ByteArray)).extract 0 31) ++ (strOfNums y383))).bind fun bt386 => ((impl_FlushDisk.f k bt386.1 bt386.2.1).bind fun bt394 => (laws_FnSectors.l0 k (Int.tmod (rd t377 0) (t370.length : Int)) (((((rdOf ByteArray.empty t370 (Int.tmod (rd t377 0) (t370.length : Int))).extract 0 7) ++ (⟨#[115, 101, 118, 101, 110, 98, 121, 116, 101, 115, 32, 111, 102, 32, 97, 110, 111, 116, 104, 101, 114, 32, 116, 101, 120, 116]⟩ : ByteArray)).extract 0 31) ++ (strOfNums y383)) bt386.2.2 0 t370 t373 bt386.1 bt386.2.1 bt394.1 bt394.2))) else (none))) else (none)) else (none)) else (none)) else (none)) else (none)) else (none)) else (none)) else (none))) else (none))) = some r := H
  have A4 := Aside0.mk A40
  clear A40
  replace H := Option.bind_eq_some_iff.mp H
  obtain ⟨t377, A50, H⟩ := H
  replace H : (if 0 < (t377.length : Int) then (if (t370.length : Int) = 0 then (none) else (if 0 ≤ (Int.tmod (rd t377 0) (t370.length : Int)) then (if (Int.tmod (rd t377 0) (t370.length : Int)) < (t370.length : Int) then (if 0 ≤ 7 then (if 7 ≤ ((rdOf ByteArray.empty t370 (Int.tmod (rd t377 0) (t370.length : Int))).size : Int) then (if ((rdOf ByteArray.empty t370 (Int.tmod (rd t377 0) (t370.length : Int))).extract 0 7).size + 26 ≤ 9223372036854775807 then (if 0 ≤ 31 then (if 31 ≤ ((((rdOf ByteArray.empty t370 (Int.tmod (rd t377 0) (t370.length : Int))).extract 0 7) ++ (⟨#[115, 101, 118, 101, 110, 98, 121, 116, 101, 115, 32, 111, 102, 32, 97, 110, 111, 116, 104, 101, 114, 32, 116, 101, 120, 116]⟩ : ByteArray)).size : Int) then (if 1 < (t377.length : Int) then ((some (([(rd t377 1) % 256] : List Int) : List Int)).bind fun y383 => (if ((((rdOf ByteArray.empty t370 (Int.tmod (rd t377 0) (t370.length : Int))).extract 0 7) ++ (⟨#[115, 101, 118, 101, 110, 98, 121, 116, 101, 115, 32, 111, 102, 32, 97, 110, 111, 116, 104, 101, 114, 32, 116, 101, 120, 116]⟩ : ByteArray)).extract 0 31).size + (strOfNums y383).size ≤ 9223372036854775807 then ((impl_WriteSector.f t370 t373 (Int.tmod (rd t377 0) (t370.length : Int)) (((((rdOf ByteArray.empty t370 (Int.tmod (rd t377 0) (t370.length : Int))).extract 0 7) ++ (⟨#[115, 101, 118, 101, 110, 98, 121, 116, 101, 115, 32, 111, 102, 32, 97, 110, 111, 116, 104, 101, 114, 32, 116, 101, 120, 116]⟩ : ByteArray)).extract 0 31) ++ (strOfNums y383))).bind fun bt386 => ((impl_FlushDisk.f k bt386.1 bt386.2.1).bind fun bt394 => (laws_FnSectors.l0 k (Int.tmod (rd t377 0) (t370.length : Int)) (((((rdOf ByteArray.empty t370 (Int.tmod (rd t377 0) (t370.length : Int))).extract 0 7) ++ (⟨#[115, 101, 118, 101, 110, 98, 121, 116, 101, 115, 32, 111, 102, 32, 97, 110, 111, 116, 104, 101, 114, 32, 116, 101, 120, 116]⟩ : ByteArray)).extract 0 31) ++ (strOfNums y383)) bt386.2.2 0 t370 t373 bt386.1 bt386.2.1 bt394.1 bt394.2))) else (none))) else (none)) else (none)) else (none)) else (none)) else (none)) else (none)) else (none)) else (none))) else (none)) = some r := H
  have A5 := Aside0.mk A50
  clear A50
  by_cases c6 : 0 < (t377.length : Int)
  ·rw [if_pos c6] at H
   have c6b0 : decide (0 < (t377.length : Int)) = true := decide_eq_true c6
   have c6b1 : decide (0 < t377.length) = true := decide_eq_true (by omega)
   clear c6
   by_cases c7 : (t370.length : Int) = 0
   ·rw [if_pos c7] at H
    exact absurd H (by simp)
   ·rw [if_neg c7] at H
    have c7b0 : ((t370.length : Int) == 0) = false := beq_eq_false_iff_ne.mpr c7
    have c7b1 : ((t370.length : Int) != 0) = true := bne_iff_ne.mpr c7
    have c7b2 : ¬ (t370 = []) := fun h_ => c7 (by rw [h_]; rfl)
    obtain ⟨ji8, hji8⟩ : ∃ j_ : Int, (Int.tmod (rd t377 0) (t370.length : Int)) = j_ := ⟨_, rfl⟩
    replace H : (if 0 ≤ (ji8) then (if (ji8) < (t370.length : Int) then (if 0 ≤ 7 then (if 7 ≤ ((rdOf ByteArray.empty t370 (ji8)).size : Int) then (if ((rdOf ByteArray.empty t370 (ji8)).extract 0 7).size + 26 ≤ 9223372036854775807 then (if 0 ≤ 31 then (if 31 ≤ ((((rdOf ByteArray.empty t370 (ji8)).extract 0 7) ++ (⟨#[115, 101, 118, 101, 110, 98, 121, 116, 101, 115, 32, 111, 102, 32, 97, 110, 111, 116, 104, 101, 114, 32, 116, 101, 120, 116]⟩ : ByteArray)).size : Int) then (if 1 < (t377.length : Int) then ((some (([(rd t377 1) % 256] : List Int) : List Int)).bind fun y383 => (if ((((rdOf ByteArray.empty t370 (ji8)).extract 0 7) ++ (⟨#[115, 101, 118, 101, 110, 98, 121, 116, 101, 115, 32, 111, 102, 32, 97, 110, 111, 116, 104, 101, 114, 32, 116, 101, 120, 116]⟩ : ByteArray)).extract 0 31).size + (strOfNums y383).size ≤ 9223372036854775807 then ((impl_WriteSector.f t370 t373 (ji8) (((((rdOf ByteArray.empty t370 (ji8)).extract 0 7) ++ (⟨#[115, 101, 118, 101, 110, 98, 121, 116, 101, 115, 32, 111, 102, 32, 97, 110, 111, 116, 104, 101, 114, 32, 116, 101, 120, 116]⟩ : ByteArray)).extract 0 31) ++ (strOfNums y383))).bind fun bt386 => ((impl_FlushDisk.f k bt386.1 bt386.2.1).bind fun bt394 => (laws_FnSectors.l0 k ji8 (((((rdOf ByteArray.empty t370 (ji8)).extract 0 7) ++ (⟨#[115, 101, 118, 101, 110, 98, 121, 116, 101, 115, 32, 111, 102, 32, 97, 110, 111, 116, 104, 101, 114, 32, 116, 101, 120, 116]⟩ : ByteArray)).extract 0 31) ++ (strOfNums y383)) bt386.2.2 0 t370 t373 bt386.1 bt386.2.1 bt394.1 bt394.2))) else (none))) else (none)) else (none)) else (none)) else (none)) else (none)) else (none)) else (none)) else (none)) = some r := by first | (rw [hji8] at H; exact H) | (simp only [hji8] at H ⊢; exact H)
    (try rw [hji8] at A2)
    (try rw [hji8] at A4)
    (try rw [hji8] at A5)
    by_cases c9 : 0 ≤ (ji8)
    ·rw [if_pos c9] at H
     have c9b0 : decide (0 ≤ (ji8)) = true := decide_eq_true c9
     clear c9
     by_cases c10 : (ji8) < (t370.length : Int)
     ·rw [if_pos c10] at H
      have c10b0 : decide ((ji8) < (t370.length : Int)) = true := decide_eq_true c10
      clear c10
      by_cases c11 : 0 ≤ 7
      ·rw [if_pos c11] at H
       have c11b0 := eq_true c11
       have c11b1 : decide (0 ≤ 7) = true := decide_eq_true c11
       clear c11
       by_cases c12 : 7 ≤ ((rdOf ByteArray.empty t370 (ji8)).size : Int)
       ·rw [if_pos c12] at H
        have c12b0 := eq_true c12
        have c12b1 : decide (7 ≤ ((rdOf ByteArray.empty t370 (ji8)).size : Int)) = true := decide_eq_true c12
        clear c12
        by_cases c13 : ((rdOf ByteArray.empty t370 (ji8)).extract 0 7).size + 26 ≤ 9223372036854775807
        ·rw [if_pos c13] at H
         have c13b0 := eq_true c13
         have c13b1 : decide (((rdOf ByteArray.empty t370 (ji8)).extract 0 7).size + 26 ≤ 9223372036854775807) = true := decide_eq_true c13
         try have c13b2 : (9223372036854775807 < ((rdOf ByteArray.empty t370 (ji8)).extract 0 7).size + 26) = False := eq_false (Nat.not_lt.2 c13)
         try have c13b9 : (9223372036854775807 < 7 + 26) = False := eq_false (by have h_ := c13; (try have h6_ := of_eq_true c6b0); (try have g6_ := of_decide_eq_true c6b0); (try have h9_ := of_eq_true c9b0); (try have g9_ := of_decide_eq_true c9b0); (try have h10_ := of_eq_true c10b0); (try have g10_ := of_decide_eq_true c10b0); (try have h11_ := of_eq_true c11b0); (try have g11_ := of_decide_eq_true c11b0); (try have h12_ := of_eq_true c12b0); (try have g12_ := of_decide_eq_true c12b0); simp only [ByteArray.size_extract] at h_; omega)
         try have c13b7 : (9223372036854775807 < min 7 (rdOf ByteArray.empty t370 (ji8)).size + 26) = False := eq_false (by have h_ := c13; (try have h6_ := of_eq_true c6b0); (try have g6_ := of_decide_eq_true c6b0); (try have h9_ := of_eq_true c9b0); (try have g9_ := of_decide_eq_true c9b0); (try have h10_ := of_eq_true c10b0); (try have g10_ := of_decide_eq_true c10b0); (try have h11_ := of_eq_true c11b0); (try have g11_ := of_decide_eq_true c11b0); (try have h12_ := of_eq_true c12b0); (try have g12_ := of_decide_eq_true c12b0); simp only [ByteArray.size_extract] at h_; omega)
         by_cases c14 : 0 ≤ 31
         ·rw [if_pos c14] at H
          have c14b0 := eq_true c14
          have c14b1 : decide (0 ≤ 31) = true := decide_eq_true c14
          clear c14
          by_cases c15 : 31 ≤ ((((rdOf ByteArray.empty t370 (ji8)).extract 0 7) ++ (⟨#[115, 101, 118, 101, 110, 98, 121, 116, 101, 115, 32, 111, 102, 32, 97, 110, 111, 116, 104, 101, 114, 32, 116, 101, 120, 116]⟩ : ByteArray)).size : Int)
          ·rw [if_pos c15] at H
           have c15b0 := eq_true c15
           have c15b1 : decide (31 ≤ ((((rdOf ByteArray.empty t370 (ji8)).extract 0 7) ++ (⟨#[115, 101, 118, 101, 110, 98, 121, 116, 101, 115, 32, 111, 102, 32, 97, 110, 111, 116, 104, 101, 114, 32, 116, 101, 120, 116]⟩ : ByteArray)).size : Int)) = true := decide_eq_true c15
           try have c15b6 : (31 ≤ (((min 7 (rdOf ByteArray.empty t370 (ji8)).size) : Nat) : Int) + 26) = True := eq_true (by have l0_ : (⟨#[115, 101, 118, 101, 110, 98, 121, 116, 101, 115, 32, 111, 102, 32, 97, 110, 111, 116, 104, 101, 114, 32, 116, 101, 120, 116]⟩ : ByteArray).size = 26 := rfl; have h_ := of_eq_true c15b0; simp only [ByteArray.size_append, ByteArray.size_extract] at h_; omega)
           by_cases c16 : 1 < (t377.length : Int)
           ·rw [if_pos c16] at H
            have c16b0 : decide (1 < (t377.length : Int)) = true := decide_eq_true c16
            have c16b1 : decide (1 < t377.length) = true := decide_eq_true (by omega)
            clear c16
            obtain ⟨y383, hy383⟩ : ∃ y_ : List Int, y_ = (([(rd t377 1) % 256] : List Int)) := ⟨_, rfl⟩
            replace H : (if ((((rdOf ByteArray.empty t370 (ji8)).extract 0 7) ++ (⟨#[115, 101, 118, 101, 110, 98, 121, 116, 101, 115, 32, 111, 102, 32, 97, 110, 111, 116, 104, 101, 114, 32, 116, 101, 120, 116]⟩ : ByteArray)).extract 0 31).size + (strOfNums y383).size ≤ 9223372036854775807 then ((impl_WriteSector.f t370 t373 (ji8) (((((rdOf ByteArray.empty t370 (ji8)).extract 0 7) ++ (⟨#[115, 101, 118, 101, 110, 98, 121, 116, 101, 115, 32, 111, 102, 32, 97, 110, 111, 116, 104, 101, 114, 32, 116, 101, 120, 116]⟩ : ByteArray)).extract 0 31) ++ (strOfNums y383))).bind fun bt386 => ((impl_FlushDisk.f k bt386.1 bt386.2.1).bind fun bt394 => (laws_FnSectors.l0 k ji8 (((((rdOf ByteArray.empty t370 (ji8)).extract 0 7) ++ (⟨#[115, 101, 118, 101, 110, 98, 121, 116, 101, 115, 32, 111, 102, 32, 97, 110, 111, 116, 104, 101, 114, 32, 116, 101, 120, 116]⟩ : ByteArray)).extract 0 31) ++ (strOfNums y383)) bt386.2.2 0 t370 t373 bt386.1 bt386.2.1 bt394.1 bt394.2))) else (none)) = some r := by first | (rw [hy383]; with_reducible exact H) | (have H2_ := (Option.bind_some _ _).symm.trans H; rw [hy383]; with_reducible exact H2_) | (have H2_ := (Option.bind_some _ _).symm.trans H; with_reducible exact H2_) | with_reducible exact H | (rw [hy383]; exact H) | exact H
            have Ny383 := Aside0.mk hy383
            clear hy383
            by_cases c17 : ((((rdOf ByteArray.empty t370 (ji8)).extract 0 7) ++ (⟨#[115, 101, 118, 101, 110, 98, 121, 116, 101, 115, 32, 111, 102, 32, 97, 110, 111, 116, 104, 101, 114, 32, 116, 101, 120, 116]⟩ : ByteArray)).extract 0 31).size + (strOfNums y383).size ≤ 9223372036854775807
            ·rw [if_pos c17] at H
             have c17b0 := eq_true c17
             have c17b1 : decide (((((rdOf ByteArray.empty t370 (ji8)).extract 0 7) ++ (⟨#[115, 101, 118, 101, 110, 98, 121, 116, 101, 115, 32, 111, 102, 32, 97, 110, 111, 116, 104, 101, 114, 32, 116, 101, 120, 116]⟩ : ByteArray)).extract 0 31).size + (strOfNums y383).size ≤ 9223372036854775807) = true := decide_eq_true c17
             try have c17b2 : (9223372036854775807 < ((((rdOf ByteArray.empty t370 (ji8)).extract 0 7) ++ (⟨#[115, 101, 118, 101, 110, 98, 121, 116, 101, 115, 32, 111, 102, 32, 97, 110, 111, 116, 104, 101, 114, 32, 116, 101, 120, 116]⟩ : ByteArray)).extract 0 31).size + (strOfNums y383).size) = False := eq_false (Nat.not_lt.2 c17)
             try have c17b9 : (9223372036854775807 < 31 + (strOfNums y383).size) = False := eq_false (by have l0_ : (⟨#[115, 101, 118, 101, 110, 98, 121, 116, 101, 115, 32, 111, 102, 32, 97, 110, 111, 116, 104, 101, 114, 32, 116, 101, 120, 116]⟩ : ByteArray).size = 26 := rfl; have h_ := c17; (try have h6_ := of_eq_true c6b0); (try have g6_ := of_decide_eq_true c6b0); (try have h9_ := of_eq_true c9b0); (try have g9_ := of_decide_eq_true c9b0); (try have h10_ := of_eq_true c10b0); (try have g10_ := of_decide_eq_true c10b0); (try have h11_ := of_eq_true c11b0); (try have g11_ := of_decide_eq_true c11b0); (try have h12_ := of_eq_true c12b0); (try have g12_ := of_decide_eq_true c12b0); (try have h13_ := of_eq_true c13b0); (try have g13_ := of_decide_eq_true c13b0); (try simp only [ByteArray.size_extract, ByteArray.size_append] at h13_); (try have h14_ := of_eq_true c14b0); (try have g14_ := of_decide_eq_true c14b0); (try have h15_ := of_eq_true c15b0); (try have g15_ := of_decide_eq_true c15b0); (try simp only [ByteArray.size_extract, ByteArray.size_append] at h15_); (try have h16_ := of_eq_true c16b0); (try have g16_ := of_decide_eq_true c16b0); simp only [ByteArray.size_extract, ByteArray.size_append] at h_; omega)
             try have c17b7 : (9223372036854775807 < min 31 (((rdOf ByteArray.empty t370 (ji8)).extract 0 7) ++ (⟨#[115, 101, 118, 101, 110, 98, 121, 116, 101, 115, 32, 111, 102, 32, 97, 110, 111, 116, 104, 101, 114, 32, 116, 101, 120, 116]⟩ : ByteArray)).size + (strOfNums y383).size) = False := eq_false (by have l0_ : (⟨#[115, 101, 118, 101, 110, 98, 121, 116, 101, 115, 32, 111, 102, 32, 97, 110, 111, 116, 104, 101, 114, 32, 116, 101, 120, 116]⟩ : ByteArray).size = 26 := rfl; have h_ := c17; (try have h6_ := of_eq_true c6b0); (try have g6_ := of_decide_eq_true c6b0); (try have h9_ := of_eq_true c9b0); (try have g9_ := of_decide_eq_true c9b0); (try have h10_ := of_eq_true c10b0); (try have g10_ := of_decide_eq_true c10b0); (try have h11_ := of_eq_true c11b0); (try have g11_ := of_decide_eq_true c11b0); (try have h12_ := of_eq_true c12b0); (try have g12_ := of_decide_eq_true c12b0); (try have h13_ := of_eq_true c13b0); (try have g13_ := of_decide_eq_true c13b0); (try simp only [ByteArray.size_extract, ByteArray.size_append] at h13_); (try have h14_ := of_eq_true c14b0); (try have g14_ := of_decide_eq_true c14b0); (try have h15_ := of_eq_true c15b0); (try have g15_ := of_decide_eq_true c15b0); (try simp only [ByteArray.size_extract, ByteArray.size_append] at h15_); (try have h16_ := of_eq_true c16b0); (try have g16_ := of_decide_eq_true c16b0); simp only [ByteArray.size_extract, ByteArray.size_append] at h_; omega)
             try have c17b8 : (9223372036854775807 < (min 31 ((min 7 (rdOf ByteArray.empty t370 (ji8)).size) + 26)) + (strOfNums y383).size) = False := eq_false (by have l0_ : (⟨#[115, 101, 118, 101, 110, 98, 121, 116, 101, 115, 32, 111, 102, 32, 97, 110, 111, 116, 104, 101, 114, 32, 116, 101, 120, 116]⟩ : ByteArray).size = 26 := rfl; have h_ := c17; (try have h6_ := of_eq_true c6b0); (try have g6_ := of_decide_eq_true c6b0); (try have h9_ := of_eq_true c9b0); (try have g9_ := of_decide_eq_true c9b0); (try have h10_ := of_eq_true c10b0); (try have g10_ := of_decide_eq_true c10b0); (try have h11_ := of_eq_true c11b0); (try have g11_ := of_decide_eq_true c11b0); (try have h12_ := of_eq_true c12b0); (try have g12_ := of_decide_eq_true c12b0); (try have h13_ := of_eq_true c13b0); (try have g13_ := of_decide_eq_true c13b0); (try simp only [ByteArray.size_extract, ByteArray.size_append] at h13_); (try have h14_ := of_eq_true c14b0); (try have g14_ := of_decide_eq_true c14b0); (try have h15_ := of_eq_true c15b0); (try have g15_ := of_decide_eq_true c15b0); (try simp only [ByteArray.size_extract, ByteArray.size_append] at h15_); (try have h16_ := of_eq_true c16b0); (try have g16_ := of_decide_eq_true c16b0); simp only [ByteArray.size_extract, ByteArray.size_append] at h_; omega)
             replace H := Option.bind_eq_some_iff.mp H
             obtain ⟨⟨t386, t389, t392⟩, A180, H⟩ := H
             replace H : ((impl_FlushDisk.f k t386 t389).bind fun bt394 => (laws_FnSectors.l0 k ji8 (((((rdOf ByteArray.empty t370 (ji8)).extract 0 7) ++ (⟨#[115, 101, 118, 101, 110, 98, 121, 116, 101, 115, 32, 111, 102, 32, 97, 110, 111, 116, 104, 101, 114, 32, 116, 101, 120, 116]⟩ : ByteArray)).extract 0 31) ++ (strOfNums y383)) t392 0 t370 t373 t386 t389 bt394.1 bt394.2)) = some r := H
             have A18 := Aside0.mk A180
             clear A180
             replace H := Option.bind_eq_some_iff.mp H
             obtain ⟨⟨t394, t397⟩, A190, H⟩ := H
             replace H : (laws_FnSectors.l0 k ji8 (((((rdOf ByteArray.empty t370 (ji8)).extract 0 7) ++ (⟨#[115, 101, 118, 101, 110, 98, 121, 116, 101, 115, 32, 111, 102, 32, 97, 110, 111, 116, 104, 101, 114, 32, 116, 101, 120, 116]⟩ : ByteArray)).extract 0 31) ++ (strOfNums y383)) t392 0 t370 t373 t386 t389 t394 t397) = some r := H
             have A19 := Aside0.mk A190
             clear A190
             have H' := Aside0.mk H
             clear H
             go_enter Try.func3, Try.ntmps3
             try go_wp2_with (first | ((with_reducible refine gate_callee (f := 9) rfl ?_); refine goesL_ (some 18) rfl rfl Try.func9 (by kernel_rfl) rfl #[.slice A0 l0.length c0] rfl (by (try simp only [List.map_toArray, List.map_cons, List.map_nil]); first | done | rfl | (simp only [List.length_drop, List.length_take]; rfl)) ?_; (with_reducible refine (laws_big.calls _ _ l0 false _ ?side1 ?side2 A2.out).mono ?_); (case side1 => repeat (first | exact HR0.out | (with_reducible refine Kd.C_alloc ?_ _) | (with_reducible refine Kd.C_drewN ?_ _) | (with_reducible refine Kd.C_drew ?_))); (case side2 => exact HC0.out); rintro e w' ⟨rfl, ⟨nd, rfl⟩⟩; refine ⟨_, rfl, ?_⟩) | ((with_reducible refine gate_callee (f := 10) rfl ?_); refine goesL_ (some 20) rfl rfl Try.func10 (by kernel_rfl) rfl #[.slice A0 l0.length c0] rfl (by (try simp only [List.map_toArray, List.map_cons, List.map_nil]); first | done | rfl | (simp only [List.length_drop, List.length_take]; rfl)) ?_; (with_reducible refine (spec_DrawDisk.calls k _ _ l0 t370 t373 _ ?side1 ?side2 A4.out).mono ?_); (case side1 => repeat (first | exact HR0.out | (with_reducible refine Kd.C_alloc ?_ _) | (with_reducible refine Kd.C_drewN ?_ _) | (with_reducible refine Kd.C_drew ?_))); (case side2 => exact HC0.out); rintro e w20 ⟨v371, v374, rfl, ho0, ho1, hb⟩; refine ⟨_, rfl, ?_⟩; replace HO372 := ak (Kd.R_lower ho0 (below_size (lG HB))); replace HO375 := ak (Kd.R_lower ho1 (below_size (lG HB))); replace HB := lB HB hb; (try clear hb); (try clear hb2); (try clear hk); (try clear hi); (try clear ho0); (try clear ho1)) | ((with_reducible refine gate_dst (N := 3) rfl ?_); (try (refine gate_guard (by rfl) ?_; dsimp only)); refine box_event ?hg (N := 3) ?hd (cs := #[.slice none 0 0, .slice none 0 0]) (t := 27) ?hr ?_; (case hd => rfl); (case hg => rfl); (case hr => first | (go_simp; done) | (go_simp; rfl)); intro gb376 hg w21 hbox hb; replace HO372 := rB HO372 hb; replace HO375 := rB HO375 hb; replace BK376 := ak (hbox); replace GW376 := ak ((by rw [hg]; exact (below_size (lG HB)) : w.heap.size ≤ gb376)); replace GE376 := ak ((by rw [hg]; exact (below_size (lG HB)) : w.heap.size ≤ gb376)); replace HB := lB HB hb; clear hb hbox hg; obtain ⟨Ao22, co22, eo22⟩ := Kd.R_slice HO372.out; subst eo22; obtain ⟨hcz23_0, hcz23_1, hfz23_0, hfz23_1⟩ := bC2 BK376; obtain ⟨Ao24, co24, eo24⟩ := Kd.R_slice HO375.out; subst eo24) | ((with_reducible refine gate_callee (f := 11) rfl ?_); refine goesL_ (some 22) rfl rfl Try.func11 (by kernel_rfl) rfl #[.slice A0 l0.length c0] rfl (by (try simp only [List.map_toArray, List.map_cons, List.map_nil]); first | done | rfl | (simp only [List.length_drop, List.length_take]; rfl)) ?_; (with_reducible refine (spec_DrawPlaces.calls k _ _ l0 t377 _ ?side1 ?side2 A5.out).mono ?_); (case side1 => exact Kd.C_below HR0.out (lT HB (gC GE376 gN))); (case side2 => exact HC0.out); rintro e w25 ⟨v378, rfl, ho0, hb⟩; refine ⟨_, rfl, ?_⟩; replace HO372 := ak (Kd.R_below (rT HO372 BK376 (by decide)) hb); replace HO375 := ak (Kd.R_below (rT HO375 BK376 (by decide)) hb); replace HO379 := ak (Kd.R_lower ho0 (below_size (lT HB (gC GE376 gN)))); replace BK376 := ak (blk_below (g := gb376) (o := .cells #[.slice Ao22 t370.length co22, .slice Ao24 t373.length co24] 27 (0, 0)) (by (with_reducible repeat (first | refine blk_drewN ?_ _ | refine blk_drew ?_ | refine blk_alloc ?_ _)); refine blk_put (cs := #[.slice Ao22 t370.length co22, .slice none 0 0]) ?_ 1 _ rfl; (with_reducible repeat (first | refine blk_drewN ?_ _ | refine blk_drew ?_ | refine blk_alloc ?_ _)); refine blk_put (cs := #[.slice none 0 0, .slice none 0 0]) ?_ 0 _ rfl; (with_reducible repeat (first | refine blk_drewN ?_ _ | refine blk_drew ?_ | refine blk_alloc ?_ _)); exact BK376.out) hb); replace HB := ak (below_step (lT HB (gC GE376 gN)) hb); (try clear hb); (try clear hb2); (try clear hk); (try clear hi); (try clear ho0)))
             replace HO372 := ak (Kd.R_drew HO372.out)
             replace HO375 := ak (Kd.R_drew HO375.out)
             replace HO379 := ak (Kd.R_drew HO379.out)
             replace BK376 := ak (blk_drew BK376.out)
             replace HB := ak (below_drew1 HB.out)
             obtain ⟨Ao27, co27, eo27⟩ := Kd.R_slice HO379.out
             (first | subst eo27 | (injection eo27 with f1_ f2_ f3_; have f4_ := f1_.symm; have f5_ := f3_.symm; clear f1_ f2_ f3_; subst f4_; subst f5_))
             have p380 : 0 ≤ (0 : Int) := (by omega)
             have q380 : 0 < (t377.length : Int) := of_decide_eq_true (by first | (with_reducible assumption) | assumption)
             obtain ⟨ad380, e380, hx380_0⟩ := Kd.at_int (Kd.R_reads' HO379.out).2.2 0 p380 q380
             cases e380
             have qi380 : (0 < t377.length) = True := eq_true (by omega)
             (try rw [show ((0 : Int)).toNat = 0 from rfl] at hx380_0)
             (try rw [Addr.add_zero'] at hx380_0)
             replace p380 := eq_true p380
             replace q380 := eq_true q380
             refine start_ (n := 8) (S := fun w' => w'.cell? ⟨gb376, 0, none⟩ = some (.slice Ao22 t370.length co22) ∧ w'.cell? ⟨gb376, 1, none⟩ = some (.slice Ao24 t373.length co24) ∧ w'.cell? ad380 = some (.int .i64 (rd t377 0))) (ds := []) #[f_,f_,f_,f_,f_,f_,f_,f_] (by kernel_rfl) rfl rfl ⟨(blk_cell BK376.out 0).trans rfl, (blk_cell BK376.out 1).trans rfl, hx380_0⟩ (fun hHeld => ?_); refine with_tabW laws_FnSectors.tab5 laws_FnSectors.bits5 (fun HT_ HW_ => ?_)
             generalize w25.drew = w26 at HO372 HO375 HO379 BK376 HB hx380_0 hHeld ⊢
             refine pure_ (i := 0) (N := some 23) (v := ?_) (a' := ?_) #[t_,f_,f_,f_,f_,f_,f_,f_] rfl rfl (any_of HT_.out (by kernel_rfl)) (fun _ _ _ h => h) (Or.inl ⟨by rfl, ?_⟩) ?_ ?_
             rotate_left
             ·intro w'
              go_simp
              with_reducible rfl
             rotate_left
             ·simp only [Act.put, List.setIfInBounds_toArray, List.set_cons_zero, List.set_cons_succ, i64_w, i32_w]
              rfl
             refine pure_ (i := 1) (N := some 24) (v := ?_) (a' := ?_) #[t_,t_,f_,f_,f_,f_,f_,f_] rfl rfl (any_of HT_.out (by kernel_rfl)) (fun _ _ _ h => h) (Or.inl ⟨by rfl, ?_⟩) ?_ ?_
             rotate_left
             ·intro w'
              go_simp
              with_reducible rfl
             rotate_left
             ·simp only [Act.put, List.setIfInBounds_toArray, List.set_cons_zero, List.set_cons_succ, i64_w, i32_w]
              rfl
             refine pure_ (i := 3) (N := some 26) (v := ?_) (a' := ?_) #[t_,t_,f_,t_,f_,f_,f_,f_] rfl rfl (any_of HT_.out (by kernel_rfl)) (fun _ _ _ h => h) (Or.inl ⟨by rfl, ?_⟩) ?_ ?_
             rotate_left
             ·intro w'
              go_simp
              with_reducible rfl
             rotate_left
             ·simp only [Act.put, List.setIfInBounds_toArray, List.set_cons_zero, List.set_cons_succ, i64_w, i32_w]
              rfl
             refine take_ (i := 2) (N := some 25) (v := ?_) (a' := ?_) #[t_,t_,t_,t_,f_,f_,f_,f_] rfl rfl (take_ofW HT_.out HW_.out (by kernel_rfl)) (fun _ _ _ h => h) (Or.inl ⟨by rfl, ?_⟩) hHeld ?_ ?_
             rotate_left
             ·rintro w' ⟨s0, s1, s2⟩
              go_simp
              with_reducible rfl
             rotate_left
             ·simp only [Act.put, List.setIfInBounds_toArray, List.set_cons_zero, List.set_cons_succ, i64_w, i32_w]
              rfl
             refine take_ (i := 4) (N := some 27) (v := ?_) (a' := ?_) #[t_,t_,t_,t_,t_,f_,f_,f_] rfl rfl (take_ofW HT_.out HW_.out (by kernel_rfl)) (fun _ _ _ h => h) (Or.inl ⟨by rfl, ?_⟩) hHeld ?_ ?_
             rotate_left
             ·rintro w' ⟨s0, s1, s2⟩
              go_simp
              with_reducible rfl
             rotate_left
             ·simp only [Act.put, List.setIfInBounds_toArray, List.set_cons_zero, List.set_cons_succ, i64_w, i32_w]
              rfl
             refine pure_ (i := 5) (N := some 28) (v := ?_) (a' := ?_) #[t_,t_,t_,t_,t_,t_,f_,f_] rfl rfl (any_of HT_.out (by kernel_rfl)) (fun _ _ _ h => h) (Or.inl ⟨by rfl, ?_⟩) ?_ ?_
             rotate_left
             ·intro w'
              go_simp
              with_reducible rfl
             rotate_left
             ·simp only [Act.put, List.setIfInBounds_toArray, List.set_cons_zero, List.set_cons_succ, i64_w, i32_w]
              rfl
             refine pure_ (i := 6) (N := some 29) (v := ?_) (a' := ?_) #[t_,t_,t_,t_,t_,t_,t_,f_] rfl rfl (any_of HT_.out (by kernel_rfl)) (fun _ _ _ h => h) (Or.inl ⟨by rfl, ?_⟩) ?_ ?_
             rotate_left
             ·intro w'
              go_simp
              with_reducible rfl
             rotate_left
             ·simp only [Act.put, List.setIfInBounds_toArray, List.set_cons_zero, List.set_cons_succ, i64_w, i32_w]
              rfl
             refine pure_ (i := 7) (N := some 5) (v := ?_) (a' := ?_) #[t_,t_,t_,t_,t_,t_,t_,t_] rfl rfl (any_of HT_.out (by kernel_rfl)) (fun _ _ _ h => h) (Or.inl ⟨by rfl, ?_⟩) ?_ ?_
             rotate_left
             ·intro w'
              go_simp
              with_reducible rfl
             rotate_left
             ·simp only [Act.put, List.setIfInBounds_toArray, List.set_cons_zero, List.set_cons_succ, i64_w, i32_w]
              rfl
             refine done_ (done_of HT_.out (by kernel_rfl)) ?_
             have hcz28_0 : w26.cell? ⟨gb376, 0, none⟩ = some (.slice Ao22 t370.length co22) := (blk_cell BK376.out 0).trans rfl
             have hcz28_1 : w26.cell? ⟨gb376, 1, none⟩ = some (.slice Ao24 t373.length co24) := (blk_cell BK376.out 1).trans rfl
             have hfz28_0 := blk_frozen BK376.out 0
             have hfz28_1 := blk_frozen BK376.out 1
             have p381 : 0 ≤ ((ji8) : Int) := of_decide_eq_true (by first | (with_reducible assumption) | assumption)
             have q381 : (ji8) < (t370.length : Int) := of_decide_eq_true (by first | (with_reducible assumption) | assumption)
             obtain ⟨ad381, e381, hx381_0⟩ := Kd.at_string (Kd.R_reads' HO372.out).2.2 (ji8) p381 q381
             cases e381
             replace p381 := eq_true p381
             replace q381 := eq_true q381
             try go_wp2
             replace HO372 := ak (Kd.R_drew HO372.out)
             replace HO375 := ak (Kd.R_drew HO375.out)
             replace HO379 := ak (Kd.R_drew HO379.out)
             replace BK376 := ak (blk_drew BK376.out)
             replace HB := ak (below_drew1 HB.out)
             have p382 : 0 ≤ (1 : Int) := (by omega)
             have q382 : 1 < (t377.length : Int) := of_decide_eq_true (by first | (with_reducible assumption) | assumption)
             obtain ⟨ad382, e382, hx382_0⟩ := Kd.at_int (Kd.R_reads' HO379.out).2.2 1 p382 q382
             obtain rfl : ad380 = ad382 := (by injection e382)
             (try simp only [show (1 : Int).toNat = 1 from rfl, Nat.reduceMul, Nat.reduceEqDiff, Go.Addr.add, ↓reduceIte] at hx382_0)
             have qi382 : (1 < t377.length) = True := eq_true (by omega)
             (try rw [show ((1 : Int)).toNat = 1 from rfl] at hx382_0)
             replace p382 := eq_true p382
             replace q382 := eq_true q382
             refine start_ (n := 10) (S := fun w' => w'.cell? ⟨ad380.block, ad380.off + 1, none⟩ = some (.int .i64 (rd t377 1))) (ds := [7]) #[f_,f_,f_,f_,f_,f_,f_,f_,f_,f_] (by kernel_rfl) rfl rfl (hx382_0) (fun hHeld => ?_); refine with_tabW laws_FnSectors.tab7 laws_FnSectors.bits7 (fun HT_ HW_ => ?_)
             generalize w26.drew = w29 at HO372 HO375 HO379 BK376 HB hx382_0 hHeld ⊢
             refine pure_ (i := 0) (N := some 37) (v := ?_) (a' := ?_) #[t_,f_,f_,f_,f_,f_,f_,f_,f_,f_] rfl rfl (any_of HT_.out (by kernel_rfl)) (fun _ _ _ h => h) (Or.inl ⟨by rfl, ?_⟩) ?_ ?_
             rotate_left
             ·intro w'
              go_simp
              with_reducible rfl
             rotate_left
             ·simp only [Act.put, List.setIfInBounds_toArray, List.set_cons_zero, List.set_cons_succ, i64_w, i32_w]
              rfl
             refine pure_ (i := 1) (N := some 38) (v := ?_) (a' := ?_) #[t_,t_,f_,f_,f_,f_,f_,f_,f_,f_] rfl rfl (any_of HT_.out (by kernel_rfl)) (fun _ _ _ h => h) (Or.inl ⟨by rfl, ?_⟩) ?_ ?_
             rotate_left
             ·intro w'
              go_simp
              with_reducible rfl
             rotate_left
             ·simp only [Act.put, List.setIfInBounds_toArray, List.set_cons_zero, List.set_cons_succ, i64_w, i32_w]
              rfl
             refine pure_ (i := 2) (N := some 39) (v := ?_) (a' := ?_) #[t_,t_,t_,f_,f_,f_,f_,f_,f_,f_] rfl rfl (any_of HT_.out (by kernel_rfl)) (fun _ _ _ h => h) (Or.inl ⟨by rfl, ?_⟩) ?_ ?_
             rotate_left
             ·intro w'
              go_simp
              with_reducible rfl
             rotate_left
             ·simp only [Act.put, List.setIfInBounds_toArray, List.set_cons_zero, List.set_cons_succ, i64_w, i32_w]
              rfl
             refine pure_ (i := 3) (N := some 40) (v := ?_) (a' := ?_) #[t_,t_,t_,t_,f_,f_,f_,f_,f_,f_] rfl rfl (any_of HT_.out (by kernel_rfl)) (fun _ _ _ h => h) (Or.inl ⟨by rfl, ?_⟩) ?_ ?_
             rotate_left
             ·intro w'
              go_simp
              with_reducible rfl
             rotate_left
             ·simp only [Act.put, List.setIfInBounds_toArray, List.set_cons_zero, List.set_cons_succ, i64_w, i32_w]
              rfl
             refine take_ (i := 4) (N := some 41) (v := ?_) (a' := ?_) #[t_,t_,t_,t_,t_,f_,f_,f_,f_,f_] rfl rfl (take_ofW HT_.out HW_.out (by kernel_rfl)) (fun _ _ _ h => h) (Or.inl ⟨by rfl, ?_⟩) hHeld ?_ ?_
             rotate_left
             ·intro w' s0
              go_simp
              with_reducible rfl
             rotate_left
             ·simp only [Act.put, List.setIfInBounds_toArray, List.set_cons_zero, List.set_cons_succ, i64_w, i32_w]
              rfl
             refine pure_ (i := 5) (N := some 42) (v := ?_) (a' := ?_) #[t_,t_,t_,t_,t_,t_,f_,f_,f_,f_] rfl rfl (any_of HT_.out (by kernel_rfl)) (fun _ _ _ h => h) (Or.inl ⟨by rfl, ?_⟩) ?_ ?_
             rotate_left
             ·intro w'
              go_simp
              with_reducible rfl
             rotate_left
             ·simp only [Act.put, List.setIfInBounds_toArray, List.set_cons_zero, List.set_cons_succ, i64_w, i32_w]
              rfl
             refine one_ (i := 6) (N := some 43) #[t_,t_,t_,t_,t_,t_,t_,f_,f_,f_] rfl rfl (one_of HT_.out (by kernel_rfl)) (by decide) (fun K hK => ?_)
             refine Kd.R_lit_step (Kd.int .u8) _ 5 ?hg (N := 43) ?hd (xs := ([(rd t377 1) % 256] : List Int)) (inner := [.int .u8 ((rd t377 1) % 256)]) (ok := fun _ => True) (okp := fun _ => True) ?hr ?hp (fun _ hk => hk) trivial (Below.refl _ _) (Nat.le_refl _) (by simp) ?_; (case hd => rfl); (case hg => rfl); (case hr => first | (go_simp; done) | (go_simp; rfl)); (case hp => exact (Reps.one (show Kd.M (Kd.int .u8) _ _ _ ((rd t377 1) % 256) [.int .u8 ((rd t377 1) % 256)] from rfl) (Reps.none _ _)))
             intro v384 w30 ho31 hb hg_ hnew_
             have HS0_ := (hb.cell (World.block_lt_of_cell? _ _ (hHeld))).trans (hHeld)
             clear hg_ hnew_
             (first | rw [← Ny383.out] at ho31 | (simp only [Int.reduceToNat] at ho31; rw [← Ny383.out] at ho31))
             replace HO372 := rB HO372 hb
             replace HO375 := rB HO375 hb
             replace HO379 := rB HO379 hb
             replace HO385 := ak (Kd.R_lower ho31 (below_size (lT HB (gC GE376 gN))))
             replace BK376 := bB BK376 hb
             replace HB := ak (below_step (lT HB (gC GE376 gN)) hb)
             clear hb ho31
             refine hK.out _ _ (HS0_) (fun hHeld => ?_)
             clear hK K
             refine norm_ (a' := ?_) ?_ ?_
             rotate_left
             ·show Act.put _ (some 43) _ = _
              simp only [Act.put, List.setIfInBounds_toArray, List.set_cons_zero, List.set_cons_succ, i64_w, i32_w]
              rfl
             refine last_ (i := 7) (N := some 44) #[t_,t_,t_,t_,t_,t_,t_,t_,f_,f_] rfl rfl (one_of HT_.out (by kernel_rfl)) (by decide) (fun K hK => ?_)
             have hcv32 := own_string (P := Try.prog) Try.underlying22 Try.underlying5 Try.underlying9 (Kd.own_of_R HO385.out)
             refine value_ (w1 := ?_) (v := ?_) (by rfl) rfl ?_ ?_
             rotate_left 2
             ·go_simp
              constructor
              ·rfl
              ·rfl
             clear hcv32
             refine hK.out _ _ ?_
             clear hK K
             refine norm_ (a' := ?_) ?_ ?_
             rotate_left
             ·show Act.put _ (some 44) _ = _
              simp only [Act.put, List.setIfInBounds_toArray, List.set_cons_zero, List.set_cons_succ, i64_w, i32_w]
              rfl
             refine pure_ (i := 8) (N := some 45) (v := ?_) (a' := ?_) #[t_,t_,t_,t_,t_,t_,t_,t_,t_,f_] rfl rfl (any_of HT_.out (by kernel_rfl)) (fun _ _ _ h => h) (Or.inl ⟨by rfl, ?_⟩) ?_ ?_
             rotate_left
             ·intro w'
              go_simp
              with_reducible rfl
             rotate_left
             ·simp only [Act.put, List.setIfInBounds_toArray, List.set_cons_zero, List.set_cons_succ, i64_w, i32_w]
              rfl
             refine pure_ (i := 9) (N := some 6) (v := ?_) (a' := ?_) #[t_,t_,t_,t_,t_,t_,t_,t_,t_,t_] rfl rfl (any_of HT_.out (by kernel_rfl)) (fun _ _ _ h => h) (Or.inl ⟨by rfl, ?_⟩) ?_ ?_
             rotate_left
             ·intro w'
              go_simp
              with_reducible rfl
             rotate_left
             ·simp only [Act.put, List.setIfInBounds_toArray, List.set_cons_zero, List.set_cons_succ, i64_w, i32_w]
              rfl
             refine done_ (done_of HT_.out (by kernel_rfl)) ?_
             have hcz33_0 : w30.cell? ⟨gb376, 0, none⟩ = some (.slice (some ad381) t370.length co22) := (blk_cell BK376.out 0).trans rfl
             have hcz33_1 : w30.cell? ⟨gb376, 1, none⟩ = some (.slice Ao24 t373.length co24) := (blk_cell BK376.out 1).trans rfl
             have hfz33_0 := blk_frozen BK376.out 0
             have hfz33_1 := blk_frozen BK376.out 1
             try go_wp2_with (first | ((with_reducible refine gate_callee (f := 12) rfl ?_); refine goesL_ (some 50) rfl rfl Try.func12 (by kernel_rfl) rfl #[.agg #[.slice (some ad381) t370.length co22, .slice Ao24 t373.length co24], .int .i64 ji8, .string (((((rdOf ByteArray.empty t370 (ji8)).extract 0 7) ++ (⟨#[115, 101, 118, 101, 110, 98, 121, 116, 101, 115, 32, 111, 102, 32, 97, 110, 111, 116, 104, 101, 114, 32, 116, 101, 120, 116]⟩ : ByteArray)).extract 0 31) ++ (strOfNums y383))] rfl (by (try simp only [List.map_toArray, List.map_cons, List.map_nil]); first | done | (simp only [hji8]; rfl) | rfl | (simp only [List.length_drop, List.length_take]; rfl)) ?_; (with_reducible refine (impl_WriteSector.calls _ _ t370 _ _ t373 ji8 (((((rdOf ByteArray.empty t370 (ji8)).extract 0 7) ++ (⟨#[115, 101, 118, 101, 110, 98, 121, 116, 101, 115, 32, 111, 102, 32, 97, 110, 111, 116, 104, 101, 114, 32, 116, 101, 120, 116]⟩ : ByteArray)).extract 0 31) ++ (strOfNums y383)) t386 t389 t392 _ ?side1 ?side2 ?side3 ?side4 A18.out).mono ?_); (case side1 => exact cG (Kd.R_reads' HO372.out).2.2); (case side2 => exact (Kd.R_reads' HO372.out).2.1); (case side3 => exact cG (Kd.R_reads' HO375.out).2.2); (case side4 => exact (Kd.R_reads' HO375.out).2.1); rintro e w34 ⟨v387, v390, rfl, ho0, ho1, hb⟩; refine ⟨_, rfl, ?_⟩; replace HO379 := rB HO379 hb; replace HO385 := rB HO385 hb; replace HO388 := ak (Kd.R_lower (Kd.R_new' ho0 (Kd.R_lt (rG HO372))) (below_size (lT HB (gC GE376 gN)))); replace HO372 := ak (Kd.R_elder' (rG HO372) (Kd.R_base ho0) hb); replace HO391 := ak (Kd.R_lower (Kd.R_new' ho1 (Kd.R_lt (rG HO375))) (below_size (lT HB (gC GE376 gN)))); replace HO375 := ak (Kd.R_elder' (rG HO375) (Kd.R_base ho1) hb); replace BK376 := bB BK376 hb; replace HB := ak (below_step (lT HB (gC GE376 gN)) hb); (try clear hb); (try clear hb2); (try clear hk); (try clear hi); (try clear ho0); (try clear ho1)) | ((with_reducible refine gate_dst (N := 7) rfl ?_); (try (refine gate_guard (by rfl) ?_; dsimp only)); refine box_event ?hg (N := 7) ?hd (cs := #[.slice none 0 0, .slice none 0 0]) (t := 27) ?hr ?_; (case hd => rfl); (case hg => rfl); (case hr => first | (go_simp; done) | (go_simp; rfl)); intro gb393 hg w35 hbox hb; replace HO372 := rB HO372 hb; replace HO375 := rB HO375 hb; replace HO379 := rB HO379 hb; replace HO385 := rB HO385 hb; replace HO388 := rB HO388 hb; replace HO391 := rB HO391 hb; replace BK393 := ak (hbox); replace GW393 := ak ((by rw [hg]; exact (below_size (lT HB (gC GE376 gN))) : w.heap.size ≤ gb393)); replace GE393 := ak ((by rw [hg]; exact (below_size (lT HB (gC GE376 gN))) : w.heap.size ≤ gb393)); replace HB := ak (below_step (lT HB (gC GE376 gN)) hb); replace NB376_393 := ak ((by rw [hg]; exact Nat.ne_of_lt (blk_lt (bG BK376)) : gb376 ≠ gb393)); replace NB393_376 := ak ((by rw [hg]; exact Nat.ne_of_gt (blk_lt (bG BK376)) : gb393 ≠ gb376)); replace BK376 := bB BK376 hb; clear hb hbox hg; obtain ⟨Ao36, co36, eo36⟩ := Kd.R_slice HO388.out; subst eo36; have hnb37 := NB393_376.out; have hnc37 := NB376_393.out; obtain ⟨hcz38_0, hcz38_1, hfz38_0, hfz38_1⟩ := bC2 BK393; obtain ⟨Ao39, co39, eo39⟩ := Kd.R_slice HO391.out; subst eo39) | ((with_reducible refine gate_callee (f := 13) rfl ?_); refine goesL_ (some 54) rfl rfl Try.func13 (by kernel_rfl) rfl #[.agg #[.slice Ao36 t386.length co36, .slice Ao39 t389.length co39]] rfl (by (try simp only [List.map_toArray, List.map_cons, List.map_nil]); first | done | rfl | (simp only [List.length_drop, List.length_take]; rfl)) ?_; (with_reducible refine (impl_FlushDisk.calls k _ _ t386 _ _ t389 t394 t397 _ ?side1 ?side2 ?side3 ?side4 A19.out).mono ?_); (case side1 => exact (Kd.R_reads' (rT HO388 BK393 (by decide))).2.2); (case side2 => exact (Kd.R_reads' HO388.out).2.1); (case side3 => exact (Kd.R_reads' (rT HO391 BK393 (by decide))).2.2); (case side4 => exact (Kd.R_reads' HO391.out).2.1); rintro e w40 ⟨v395, v398, rfl, ho0, ho1, hb⟩; refine ⟨_, rfl, ?_⟩; replace HO379 := ak (Kd.R_below (rT HO379 BK393 (by decide)) hb); replace HO385 := ak (Kd.R_below (rT HO385 BK393 (by decide)) hb); replace HO396 := ak (Kd.R_lower (Kd.R_new' (Kd.R_new' ho0 (Kd.R_lt (rT HO372 BK393 (by decide)))) (Kd.R_lt (rT HO388 BK393 (by decide)))) (below_size (lT HB (gC GE376 (gC GE393 gN))))); replace HO372 := ak (Kd.R_elder' (rT HO372 BK393 (by decide)) (Kd.R_base ho0) hb); replace HO388 := ak (Kd.R_elder' (rT HO388 BK393 (by decide)) (Kd.R_base ho0) hb); replace HO399 := ak (Kd.R_lower (Kd.R_new' (Kd.R_new' ho1 (Kd.R_lt (rT HO375 BK393 (by decide)))) (Kd.R_lt (rT HO391 BK393 (by decide)))) (below_size (lT HB (gC GE376 (gC GE393 gN))))); replace HO375 := ak (Kd.R_elder' (rT HO375 BK393 (by decide)) (Kd.R_base ho1) hb); replace HO391 := ak (Kd.R_elder' (rT HO391 BK393 (by decide)) (Kd.R_base ho1) hb); replace BK376 := ak (blk_below (bT BK376 (nC NB376_393 nN)) hb); replace BK393 := ak (blk_below (g := gb393) (o := .cells #[.slice Ao36 t386.length co36, .slice Ao39 t389.length co39] 27 (0, 0)) (by (with_reducible repeat (first | refine blk_drewN ?_ _ | refine blk_drew ?_ | refine blk_alloc ?_ _)); refine blk_put (cs := #[.slice Ao36 t386.length co36, .slice none 0 0]) ?_ 1 _ rfl; (with_reducible repeat (first | refine blk_drewN ?_ _ | refine blk_drew ?_ | refine blk_alloc ?_ _)); refine blk_put (cs := #[.slice none 0 0, .slice none 0 0]) ?_ 0 _ rfl; (with_reducible repeat (first | refine blk_drewN ?_ _ | refine blk_drew ?_ | refine blk_alloc ?_ _)); exact BK393.out) hb); replace HB := ak (below_step (lT HB (gC GE376 (gC GE393 gN))) hb); (try clear hb); (try clear hb2); (try clear hk); (try clear hi); (try clear ho0); (try clear ho1)) | ((with_reducible refine gate_dst (N := 9) rfl ?_); (try (refine gate_guard (by rfl) ?_; dsimp only)); refine box_event ?hg (N := 9) ?hd (cs := #[.slice none 0 0, .slice none 0 0]) (t := 27) ?hr ?_; (case hd => rfl); (case hg => rfl); (case hr => first | (go_simp; done) | (go_simp; rfl)); intro gb400 hg w41 hbox hb; replace HO372 := rB HO372 hb; replace HO375 := rB HO375 hb; replace HO379 := rB HO379 hb; replace HO385 := rB HO385 hb; replace HO388 := rB HO388 hb; replace HO391 := rB HO391 hb; replace HO396 := rB HO396 hb; replace HO399 := rB HO399 hb; replace BK400 := ak (hbox); replace GW400 := ak ((by rw [hg]; exact (below_size (lT HB (gC GE376 (gC GE393 gN)))) : w.heap.size ≤ gb400)); replace GE400 := ak ((by rw [hg]; exact (below_size (lT HB (gC GE376 (gC GE393 gN)))) : w.heap.size ≤ gb400)); replace HB := ak (below_step (lT HB (gC GE376 (gC GE393 gN))) hb); replace NB376_400 := ak ((by rw [hg]; exact Nat.ne_of_lt (blk_lt (bG BK376)) : gb376 ≠ gb400)); replace NB400_376 := ak ((by rw [hg]; exact Nat.ne_of_gt (blk_lt (bG BK376)) : gb400 ≠ gb376)); replace BK376 := bB BK376 hb; replace NB393_400 := ak ((by rw [hg]; exact Nat.ne_of_lt (blk_lt (bG BK393)) : gb393 ≠ gb400)); replace NB400_393 := ak ((by rw [hg]; exact Nat.ne_of_gt (blk_lt (bG BK393)) : gb400 ≠ gb393)); replace BK393 := bB BK393 hb; clear hb hbox hg; obtain ⟨Ao42, co42, eo42⟩ := Kd.R_slice HO396.out; subst eo42; have hnb43 := NB400_376.out; have hnc43 := NB376_400.out; have hnb44 := NB400_393.out; have hnc44 := NB393_400.out; obtain ⟨hcz45_0, hcz45_1, hfz45_0, hfz45_1⟩ := bC2 BK400; obtain ⟨Ao46, co46, eo46⟩ := Kd.R_slice HO399.out; subst eo46))
             go_loopg [10] k (fun kq v10 w' => ∃ (x10_1 : Int), v10 = .int .i64 x10_1 ∧ Aside0 (laws_FnSectors.l0 kq ji8 (((((rdOf ByteArray.empty t370 (ji8)).extract 0 7) ++ (⟨#[115, 101, 118, 101, 110, 98, 121, 116, 101, 115, 32, 111, 102, 32, 97, 110, 111, 116, 104, 101, 114, 32, 116, 101, 120, 116]⟩ : ByteArray)).extract 0 31) ++ (strOfNums y383)) t392 x10_1 t370 t373 t386 t389 t394 t397 = some r) ∧ Aside0 (kq ≤ k) ∧ Aside0 (Kd.R Kd.string 9 w' w.heap.size (fun k_ => some k_ ≠ ((.slice Ao36 t386.length co36) : Value).ownBlock ∧ some k_ ≠ ((.slice Ao42 t394.length co42) : Value).ownBlock) (.slice (some ad381) t370.length co22) t370) ∧ Aside0 (Kd.R k63 63 w' w.heap.size (fun k_ => some k_ ≠ ((.slice Ao39 t389.length co39) : Value).ownBlock ∧ some k_ ≠ ((.slice Ao46 t397.length co46) : Value).ownBlock) (.slice Ao24 t373.length co24) t373) ∧ Aside0 (Kd.R Kd.string 9 w' w.heap.size (fun k_ => some k_ ≠ ((.slice (some ad381) t370.length co22) : Value).ownBlock ∧ some k_ ≠ ((.slice Ao42 t394.length co42) : Value).ownBlock) (.slice Ao36 t386.length co36) t386) ∧ Aside0 (Kd.R k63 63 w' w.heap.size (fun k_ => some k_ ≠ ((.slice Ao24 t373.length co24) : Value).ownBlock ∧ some k_ ≠ ((.slice Ao46 t397.length co46) : Value).ownBlock) (.slice Ao39 t389.length co39) t389) ∧ Aside0 (Kd.R Kd.string 9 w' w.heap.size (fun k_ => some k_ ≠ ((.slice (some ad381) t370.length co22) : Value).ownBlock ∧ some k_ ≠ ((.slice Ao36 t386.length co36) : Value).ownBlock) (.slice Ao42 t394.length co42) t394) ∧ Aside0 (Kd.R k63 63 w' w.heap.size (fun k_ => some k_ ≠ ((.slice Ao24 t373.length co24) : Value).ownBlock ∧ some k_ ≠ ((.slice Ao39 t389.length co39) : Value).ownBlock) (.slice Ao46 t397.length co46) t397) ∧ Aside0 (w'.heap[gb376]? = some (.cells #[(.slice (some ad381) t370.length co22), (.slice Ao24 t373.length co24)] 27 (0, 0))) ∧ Aside0 (w'.heap[gb393]? = some (.cells #[(.slice Ao36 t386.length co36), (.slice Ao39 t389.length co39)] 27 (0, 0))) ∧ Aside0 (w'.heap[gb400]? = some (.cells #[(.slice Ao42 t394.length co42), (.slice Ao46 t397.length co46)] 27 (0, 0))) ∧ Aside0 (Below w.heap.size w w'))
             case atStart => exact ⟨(0), (by first | rfl | (simp; done) | (simp [*]; done)), H', ⟨Nat.le_refl _⟩, ⟨by (with_reducible repeat (first | apply Kd.R_alloc | apply Kd.R_drewN | apply Kd.R_drew)); exact Kd.R_mono (Kd.R_far (p := ⟨gb400, 1, none⟩) (Kd.R_far (p := ⟨gb400, 0, none⟩) (Kd.R_types HO372.out BK400.out (by decide)) (fun _ hk => hk.2) (.slice Ao42 t394.length co42)) (fun _ hk => hk.2) (.slice Ao46 t397.length co46)) (fun _ hk => ⟨hk.1.1.2, hk.1.2⟩)⟩, ⟨by (with_reducible repeat (first | apply Kd.R_alloc | apply Kd.R_drewN | apply Kd.R_drew)); exact Kd.R_mono (Kd.R_far (p := ⟨gb400, 1, none⟩) (Kd.R_far (p := ⟨gb400, 0, none⟩) (Kd.R_types HO375.out BK400.out (by decide)) (fun _ hk => hk.2) (.slice Ao42 t394.length co42)) (fun _ hk => hk.2) (.slice Ao46 t397.length co46)) (fun _ hk => ⟨hk.1.1.2, hk.1.2⟩)⟩, ⟨by (with_reducible repeat (first | apply Kd.R_alloc | apply Kd.R_drewN | apply Kd.R_drew)); exact Kd.R_mono (Kd.R_far (p := ⟨gb400, 1, none⟩) (Kd.R_far (p := ⟨gb400, 0, none⟩) (Kd.R_types HO388.out BK400.out (by decide)) (fun _ hk => hk.2) (.slice Ao42 t394.length co42)) (fun _ hk => hk.2) (.slice Ao46 t397.length co46)) (fun _ hk => ⟨hk.1.1.2, hk.1.2⟩)⟩, ⟨by (with_reducible repeat (first | apply Kd.R_alloc | apply Kd.R_drewN | apply Kd.R_drew)); exact Kd.R_mono (Kd.R_far (p := ⟨gb400, 1, none⟩) (Kd.R_far (p := ⟨gb400, 0, none⟩) (Kd.R_types HO391.out BK400.out (by decide)) (fun _ hk => hk.2) (.slice Ao42 t394.length co42)) (fun _ hk => hk.2) (.slice Ao46 t397.length co46)) (fun _ hk => ⟨hk.1.1.2, hk.1.2⟩)⟩, ⟨by (with_reducible repeat (first | apply Kd.R_alloc | apply Kd.R_drewN | apply Kd.R_drew)); exact Kd.R_mono (Kd.R_far (p := ⟨gb400, 1, none⟩) (Kd.R_far (p := ⟨gb400, 0, none⟩) (Kd.R_types HO396.out BK400.out (by decide)) (fun _ hk => hk.2) (.slice Ao42 t394.length co42)) (fun _ hk => hk.2) (.slice Ao46 t397.length co46)) (fun _ hk => ⟨hk.1.1.2, hk.1.2⟩)⟩, ⟨by (with_reducible repeat (first | apply Kd.R_alloc | apply Kd.R_drewN | apply Kd.R_drew)); exact Kd.R_mono (Kd.R_far (p := ⟨gb400, 1, none⟩) (Kd.R_far (p := ⟨gb400, 0, none⟩) (Kd.R_types HO399.out BK400.out (by decide)) (fun _ hk => hk.2) (.slice Ao42 t394.length co42)) (fun _ hk => hk.2) (.slice Ao46 t397.length co46)) (fun _ hk => ⟨hk.1.1.2, hk.1.2⟩)⟩, ⟨by (with_reducible repeat (first | refine blk_drewN ?_ _ | refine blk_drew ?_ | refine blk_alloc ?_ _)); refine blk_far ?_ NB376_400.out _; (with_reducible repeat (first | refine blk_drewN ?_ _ | refine blk_drew ?_ | refine blk_alloc ?_ _)); refine blk_far ?_ NB376_400.out _; (with_reducible repeat (first | refine blk_drewN ?_ _ | refine blk_drew ?_ | refine blk_alloc ?_ _)); exact BK376.out⟩, ⟨by (with_reducible repeat (first | refine blk_drewN ?_ _ | refine blk_drew ?_ | refine blk_alloc ?_ _)); refine blk_far ?_ NB393_400.out _; (with_reducible repeat (first | refine blk_drewN ?_ _ | refine blk_drew ?_ | refine blk_alloc ?_ _)); refine blk_far ?_ NB393_400.out _; (with_reducible repeat (first | refine blk_drewN ?_ _ | refine blk_drew ?_ | refine blk_alloc ?_ _)); exact BK393.out⟩, ⟨by (with_reducible repeat (first | refine blk_drewN ?_ _ | refine blk_drew ?_ | refine blk_alloc ?_ _)); refine blk_put (cs := #[.slice Ao42 t394.length co42, .slice none 0 0]) ?_ 1 _ rfl; (with_reducible repeat (first | refine blk_drewN ?_ _ | refine blk_drew ?_ | refine blk_alloc ?_ _)); refine blk_put (cs := #[.slice none 0 0, .slice none 0 0]) ?_ 0 _ rfl; (with_reducible repeat (first | refine blk_drewN ?_ _ | refine blk_drew ?_ | refine blk_alloc ?_ _)); exact BK400.out⟩, ⟨by exact lT HB (gC GE376 (gC GE393 (gC GE400 gN)))⟩⟩
             case round =>
              clear H'
              try clear c1
              try clear p2
              try clear c3
              try clear p3
              try clear q3
              try clear hx3
              try clear hcv3
              try clear qi3
              try clear c4
              try clear c6
              try clear c6b0
              try clear c6b1
              try clear c7
              try clear c7b0
              try clear c7b1
              try clear c7b2
              try clear c9
              try clear c9b0
              try clear c10
              try clear c10b0
              try clear c11
              try clear c11b0
              try clear c11b1
              try clear c12
              try clear c12b0
              try clear c12b1
              try clear c13
              try clear c13b0
              try clear c13b1
              try clear c13b2
              try clear c14
              try clear c14b0
              try clear c14b1
              try clear c15
              try clear c15b0
              try clear c15b1
              try clear c16
              try clear c16b0
              try clear c16b1
              try clear c17
              try clear c17b0
              try clear c17b1
              try clear c17b2
              try clear hcv32
              try clear c37
              try clear p38
              try clear q38
              try clear hx38
              try clear qi38
              try clear c43
              try clear c44
              try clear hcz23_0
              try clear hcz23_1
              try clear hcz28_0
              try clear hcz28_1
              try clear hcz33_0
              try clear hcz33_1
              try clear hcz38_0
              try clear hcz38_1
              try clear hcz45_0
              try clear hcz45_1
              try clear hfz23_0
              try clear hfz23_1
              try clear hfz28_0
              try clear hfz28_1
              try clear hfz33_0
              try clear hfz33_1
              try clear hfz38_0
              try clear hfz38_1
              try clear hfz45_0
              try clear hfz45_1
              try clear hx380_0
              try clear hx381_0
              try clear hx382_0
              try clear p380
              try clear p381
              try clear p382
              try clear q380
              try clear q381
              try clear q382
              obtain ⟨x10_1, rfl, HA, HK1, HO_377000, HO_377001, HO_394000, HO_394001, HO_401000, HO_401001, BK376, BK393, BK400, HB⟩ := hrel
              cases gk with
              | zero => exact absurd HA.out (by simp [laws_FnSectors.l0])
              | succ k1 =>
               have H := HA.out
               clear HA
               simp only [laws_FnSectors.l0] at H
               by_cases c47 : x10_1 < (t370.length : Int)
               ·rw [if_pos c47] at H
                have c47b0 : decide (x10_1 < (t370.length : Int)) = true := decide_eq_true c47
                clear c47
                replace H := Option.bind_eq_some_iff.mp H
                obtain ⟨⟨t404, t405⟩, A480, H⟩ := H
                replace H : ((impl_ReadSector.f k1 t386 t389 x10_1).bind fun bt406 => ((impl_ReadSector.f k1 t394 t397 x10_1).bind fun bt408 => (if bt406.2 = true then (if bt408.2 = true then (if x10_1 = ji8 then (if bt406.1.toList = (((((rdOf ByteArray.empty t370 (ji8)).extract 0 7) ++ (⟨#[115, 101, 118, 101, 110, 98, 121, 116, 101, 115, 32, 111, 102, 32, 97, 110, 111, 116, 104, 101, 114, 32, 116, 101, 120, 116]⟩ : ByteArray)).extract 0 31) ++ (strOfNums y383)).toList then (if bt408.1.toList = (((((rdOf ByteArray.empty t370 (ji8)).extract 0 7) ++ (⟨#[115, 101, 118, 101, 110, 98, 121, 116, 101, 115, 32, 111, 102, 32, 97, 110, 111, 116, 104, 101, 114, 32, 116, 101, 120, 116]⟩ : ByteArray)).extract 0 31) ++ (strOfNums y383)).toList then (if 0 ≤ x10_1 then (if x10_1 < (t394.length : Int) then (if (rdOf ByteArray.empty t394 x10_1).toList = (((((rdOf ByteArray.empty t370 (ji8)).extract 0 7) ++ (⟨#[115, 101, 118, 101, 110, 98, 121, 116, 101, 115, 32, 111, 102, 32, 97, 110, 111, 116, 104, 101, 114, 32, 116, 101, 120, 116]⟩ : ByteArray)).extract 0 31) ++ (strOfNums y383)).toList then (laws_FnSectors.l0 k1 ji8 (((((rdOf ByteArray.empty t370 (ji8)).extract 0 7) ++ (⟨#[115, 101, 118, 101, 110, 98, 121, 116, 101, 115, 32, 111, 102, 32, 97, 110, 111, 116, 104, 101, 114, 32, 116, 101, 120, 116]⟩ : ByteArray)).extract 0 31) ++ (strOfNums y383)) t392 (wrap64 (x10_1 + 1)) t370 t373 t386 t389 t394 t397) else (some false)) else (none)) else (none)) else (some false)) else (some false)) else (if t404.toList = bt406.1.toList then (if t404.toList = bt408.1.toList then (laws_FnSectors.l0 k1 ji8 (((((rdOf ByteArray.empty t370 (ji8)).extract 0 7) ++ (⟨#[115, 101, 118, 101, 110, 98, 121, 116, 101, 115, 32, 111, 102, 32, 97, 110, 111, 116, 104, 101, 114, 32, 116, 101, 120, 116]⟩ : ByteArray)).extract 0 31) ++ (strOfNums y383)) t392 (wrap64 (x10_1 + 1)) t370 t373 t386 t389 t394 t397) else (some false)) else (some false))) else (some false)) else (some false)))) = some r := H
                have A48 := Aside0.mk A480
                clear A480
                replace H := Option.bind_eq_some_iff.mp H
                obtain ⟨⟨t406, t407⟩, A490, H⟩ := H
                replace H : ((impl_ReadSector.f k1 t394 t397 x10_1).bind fun bt408 => (if t407 = true then (if bt408.2 = true then (if x10_1 = ji8 then (if t406.toList = (((((rdOf ByteArray.empty t370 (ji8)).extract 0 7) ++ (⟨#[115, 101, 118, 101, 110, 98, 121, 116, 101, 115, 32, 111, 102, 32, 97, 110, 111, 116, 104, 101, 114, 32, 116, 101, 120, 116]⟩ : ByteArray)).extract 0 31) ++ (strOfNums y383)).toList then (if bt408.1.toList = (((((rdOf ByteArray.empty t370 (ji8)).extract 0 7) ++ (⟨#[115, 101, 118, 101, 110, 98, 121, 116, 101, 115, 32, 111, 102, 32, 97, 110, 111, 116, 104, 101, 114, 32, 116, 101, 120, 116]⟩ : ByteArray)).extract 0 31) ++ (strOfNums y383)).toList then (if 0 ≤ x10_1 then (if x10_1 < (t394.length : Int) then (if (rdOf ByteArray.empty t394 x10_1).toList = (((((rdOf ByteArray.empty t370 (ji8)).extract 0 7) ++ (⟨#[115, 101, 118, 101, 110, 98, 121, 116, 101, 115, 32, 111, 102, 32, 97, 110, 111, 116, 104, 101, 114, 32, 116, 101, 120, 116]⟩ : ByteArray)).extract 0 31) ++ (strOfNums y383)).toList then (laws_FnSectors.l0 k1 ji8 (((((rdOf ByteArray.empty t370 (ji8)).extract 0 7) ++ (⟨#[115, 101, 118, 101, 110, 98, 121, 116, 101, 115, 32, 111, 102, 32, 97, 110, 111, 116, 104, 101, 114, 32, 116, 101, 120, 116]⟩ : ByteArray)).extract 0 31) ++ (strOfNums y383)) t392 (wrap64 (x10_1 + 1)) t370 t373 t386 t389 t394 t397) else (some false)) else (none)) else (none)) else (some false)) else (some false)) else (if t404.toList = t406.toList then (if t404.toList = bt408.1.toList then (laws_FnSectors.l0 k1 ji8 (((((rdOf ByteArray.empty t370 (ji8)).extract 0 7) ++ (⟨#[115, 101, 118, 101, 110, 98, 121, 116, 101, 115, 32, 111, 102, 32, 97, 110, 111, 116, 104, 101, 114, 32, 116, 101, 120, 116]⟩ : ByteArray)).extract 0 31) ++ (strOfNums y383)) t392 (wrap64 (x10_1 + 1)) t370 t373 t386 t389 t394 t397) else (some false)) else (some false))) else (some false)) else (some false))) = some r := H
                have A49 := Aside0.mk A490
                clear A490
                replace H := Option.bind_eq_some_iff.mp H
                obtain ⟨⟨t408, t409⟩, A500, H⟩ := H
                replace H : (if t407 = true then (if t409 = true then (if x10_1 = ji8 then (if t406.toList = (((((rdOf ByteArray.empty t370 (ji8)).extract 0 7) ++ (⟨#[115, 101, 118, 101, 110, 98, 121, 116, 101, 115, 32, 111, 102, 32, 97, 110, 111, 116, 104, 101, 114, 32, 116, 101, 120, 116]⟩ : ByteArray)).extract 0 31) ++ (strOfNums y383)).toList then (if t408.toList = (((((rdOf ByteArray.empty t370 (ji8)).extract 0 7) ++ (⟨#[115, 101, 118, 101, 110, 98, 121, 116, 101, 115, 32, 111, 102, 32, 97, 110, 111, 116, 104, 101, 114, 32, 116, 101, 120, 116]⟩ : ByteArray)).extract 0 31) ++ (strOfNums y383)).toList then (if 0 ≤ x10_1 then (if x10_1 < (t394.length : Int) then (if (rdOf ByteArray.empty t394 x10_1).toList = (((((rdOf ByteArray.empty t370 (ji8)).extract 0 7) ++ (⟨#[115, 101, 118, 101, 110, 98, 121, 116, 101, 115, 32, 111, 102, 32, 97, 110, 111, 116, 104, 101, 114, 32, 116, 101, 120, 116]⟩ : ByteArray)).extract 0 31) ++ (strOfNums y383)).toList then (laws_FnSectors.l0 k1 ji8 (((((rdOf ByteArray.empty t370 (ji8)).extract 0 7) ++ (⟨#[115, 101, 118, 101, 110, 98, 121, 116, 101, 115, 32, 111, 102, 32, 97, 110, 111, 116, 104, 101, 114, 32, 116, 101, 120, 116]⟩ : ByteArray)).extract 0 31) ++ (strOfNums y383)) t392 (wrap64 (x10_1 + 1)) t370 t373 t386 t389 t394 t397) else (some false)) else (none)) else (none)) else (some false)) else (some false)) else (if t404.toList = t406.toList then (if t404.toList = t408.toList then (laws_FnSectors.l0 k1 ji8 (((((rdOf ByteArray.empty t370 (ji8)).extract 0 7) ++ (⟨#[115, 101, 118, 101, 110, 98, 121, 116, 101, 115, 32, 111, 102, 32, 97, 110, 111, 116, 104, 101, 114, 32, 116, 101, 120, 116]⟩ : ByteArray)).extract 0 31) ++ (strOfNums y383)) t392 (wrap64 (x10_1 + 1)) t370 t373 t386 t389 t394 t397) else (some false)) else (some false))) else (some false)) else (some false)) = some r := H
                have A50 := Aside0.mk A500
                clear A500
                by_cases c51 : t407 = true
                ·subst c51
                 have H1 : (if t409 = true then (if x10_1 = ji8 then (if t406.toList = (((((rdOf ByteArray.empty t370 (ji8)).extract 0 7) ++ (⟨#[115, 101, 118, 101, 110, 98, 121, 116, 101, 115, 32, 111, 102, 32, 97, 110, 111, 116, 104, 101, 114, 32, 116, 101, 120, 116]⟩ : ByteArray)).extract 0 31) ++ (strOfNums y383)).toList then (if t408.toList = (((((rdOf ByteArray.empty t370 (ji8)).extract 0 7) ++ (⟨#[115, 101, 118, 101, 110, 98, 121, 116, 101, 115, 32, 111, 102, 32, 97, 110, 111, 116, 104, 101, 114, 32, 116, 101, 120, 116]⟩ : ByteArray)).extract 0 31) ++ (strOfNums y383)).toList then (if 0 ≤ x10_1 then (if x10_1 < (t394.length : Int) then (if (rdOf ByteArray.empty t394 x10_1).toList = (((((rdOf ByteArray.empty t370 (ji8)).extract 0 7) ++ (⟨#[115, 101, 118, 101, 110, 98, 121, 116, 101, 115, 32, 111, 102, 32, 97, 110, 111, 116, 104, 101, 114, 32, 116, 101, 120, 116]⟩ : ByteArray)).extract 0 31) ++ (strOfNums y383)).toList then (laws_FnSectors.l0 k1 ji8 (((((rdOf ByteArray.empty t370 (ji8)).extract 0 7) ++ (⟨#[115, 101, 118, 101, 110, 98, 121, 116, 101, 115, 32, 111, 102, 32, 97, 110, 111, 116, 104, 101, 114, 32, 116, 101, 120, 116]⟩ : ByteArray)).extract 0 31) ++ (strOfNums y383)) t392 (wrap64 (x10_1 + 1)) t370 t373 t386 t389 t394 t397) else (some false)) else (none)) else (none)) else (some false)) else (some false)) else (if t404.toList = t406.toList then (if t404.toList = t408.toList then (laws_FnSectors.l0 k1 ji8 (((((rdOf ByteArray.empty t370 (ji8)).extract 0 7) ++ (⟨#[115, 101, 118, 101, 110, 98, 121, 116, 101, 115, 32, 111, 102, 32, 97, 110, 111, 116, 104, 101, 114, 32, 116, 101, 120, 116]⟩ : ByteArray)).extract 0 31) ++ (strOfNums y383)) t392 (wrap64 (x10_1 + 1)) t370 t373 t386 t389 t394 t397) else (some false)) else (some false))) else (some false)) = some r := by rw [if_pos rfl] at H; exact H
                 clear H
                 have H := H1
                 clear H1
                 by_cases c52 : t409 = true
                 ·subst c52
                  have H1 : (if x10_1 = ji8 then (if t406.toList = (((((rdOf ByteArray.empty t370 (ji8)).extract 0 7) ++ (⟨#[115, 101, 118, 101, 110, 98, 121, 116, 101, 115, 32, 111, 102, 32, 97, 110, 111, 116, 104, 101, 114, 32, 116, 101, 120, 116]⟩ : ByteArray)).extract 0 31) ++ (strOfNums y383)).toList then (if t408.toList = (((((rdOf ByteArray.empty t370 (ji8)).extract 0 7) ++ (⟨#[115, 101, 118, 101, 110, 98, 121, 116, 101, 115, 32, 111, 102, 32, 97, 110, 111, 116, 104, 101, 114, 32, 116, 101, 120, 116]⟩ : ByteArray)).extract 0 31) ++ (strOfNums y383)).toList then (if 0 ≤ x10_1 then (if x10_1 < (t394.length : Int) then (if (rdOf ByteArray.empty t394 x10_1).toList = (((((rdOf ByteArray.empty t370 (ji8)).extract 0 7) ++ (⟨#[115, 101, 118, 101, 110, 98, 121, 116, 101, 115, 32, 111, 102, 32, 97, 110, 111, 116, 104, 101, 114, 32, 116, 101, 120, 116]⟩ : ByteArray)).extract 0 31) ++ (strOfNums y383)).toList then (laws_FnSectors.l0 k1 ji8 (((((rdOf ByteArray.empty t370 (ji8)).extract 0 7) ++ (⟨#[115, 101, 118, 101, 110, 98, 121, 116, 101, 115, 32, 111, 102, 32, 97, 110, 111, 116, 104, 101, 114, 32, 116, 101, 120, 116]⟩ : ByteArray)).extract 0 31) ++ (strOfNums y383)) t392 (wrap64 (x10_1 + 1)) t370 t373 t386 t389 t394 t397) else (some false)) else (none)) else (none)) else (some false)) else (some false)) else (if t404.toList = t406.toList then (if t404.toList = t408.toList then (laws_FnSectors.l0 k1 ji8 (((((rdOf ByteArray.empty t370 (ji8)).extract 0 7) ++ (⟨#[115, 101, 118, 101, 110, 98, 121, 116, 101, 115, 32, 111, 102, 32, 97, 110, 111, 116, 104, 101, 114, 32, 116, 101, 120, 116]⟩ : ByteArray)).extract 0 31) ++ (strOfNums y383)) t392 (wrap64 (x10_1 + 1)) t370 t373 t386 t389 t394 t397) else (some false)) else (some false))) = some r := by rw [if_pos rfl] at H; exact H
                  clear H
                  have H := H1
                  clear H1
                  by_cases c53 : x10_1 = ji8
                  ·rw [if_pos c53] at H
                   have c53b0 : (x10_1 == ji8) = true := beq_iff_eq.mpr c53
                   have c53b1 : (x10_1 != ji8) = false := bne_eq_false_iff_eq.mpr c53
                   clear c53
                   by_cases c54 : t406.toList = (((((rdOf ByteArray.empty t370 (ji8)).extract 0 7) ++ (⟨#[115, 101, 118, 101, 110, 98, 121, 116, 101, 115, 32, 111, 102, 32, 97, 110, 111, 116, 104, 101, 114, 32, 116, 101, 120, 116]⟩ : ByteArray)).extract 0 31) ++ (strOfNums y383)).toList
                   ·rw [if_pos c54] at H
                    have c54b0 : (t406.toList == (((((rdOf ByteArray.empty t370 (ji8)).extract 0 7) ++ (⟨#[115, 101, 118, 101, 110, 98, 121, 116, 101, 115, 32, 111, 102, 32, 97, 110, 111, 116, 104, 101, 114, 32, 116, 101, 120, 116]⟩ : ByteArray)).extract 0 31) ++ (strOfNums y383)).toList) = true := beq_iff_eq.mpr c54
                    have c54b1 : (t406.toList != (((((rdOf ByteArray.empty t370 (ji8)).extract 0 7) ++ (⟨#[115, 101, 118, 101, 110, 98, 121, 116, 101, 115, 32, 111, 102, 32, 97, 110, 111, 116, 104, 101, 114, 32, 116, 101, 120, 116]⟩ : ByteArray)).extract 0 31) ++ (strOfNums y383)).toList) = false := bne_eq_false_iff_eq.mpr c54
                    clear c54
                    by_cases c55 : t408.toList = (((((rdOf ByteArray.empty t370 (ji8)).extract 0 7) ++ (⟨#[115, 101, 118, 101, 110, 98, 121, 116, 101, 115, 32, 111, 102, 32, 97, 110, 111, 116, 104, 101, 114, 32, 116, 101, 120, 116]⟩ : ByteArray)).extract 0 31) ++ (strOfNums y383)).toList
                    ·rw [if_pos c55] at H
                     have c55b0 : (t408.toList == (((((rdOf ByteArray.empty t370 (ji8)).extract 0 7) ++ (⟨#[115, 101, 118, 101, 110, 98, 121, 116, 101, 115, 32, 111, 102, 32, 97, 110, 111, 116, 104, 101, 114, 32, 116, 101, 120, 116]⟩ : ByteArray)).extract 0 31) ++ (strOfNums y383)).toList) = true := beq_iff_eq.mpr c55
                     have c55b1 : (t408.toList != (((((rdOf ByteArray.empty t370 (ji8)).extract 0 7) ++ (⟨#[115, 101, 118, 101, 110, 98, 121, 116, 101, 115, 32, 111, 102, 32, 97, 110, 111, 116, 104, 101, 114, 32, 116, 101, 120, 116]⟩ : ByteArray)).extract 0 31) ++ (strOfNums y383)).toList) = false := bne_eq_false_iff_eq.mpr c55
                     clear c55
                     by_cases c56 : 0 ≤ x10_1
                     ·rw [if_pos c56] at H
                      have c56b0 : decide (0 ≤ x10_1) = true := decide_eq_true c56
                      clear c56
                      by_cases c57 : x10_1 < (t394.length : Int)
                      ·rw [if_pos c57] at H
                       have c57b0 : decide (x10_1 < (t394.length : Int)) = true := decide_eq_true c57
                       clear c57
                       by_cases c58 : (rdOf ByteArray.empty t394 x10_1).toList = (((((rdOf ByteArray.empty t370 (ji8)).extract 0 7) ++ (⟨#[115, 101, 118, 101, 110, 98, 121, 116, 101, 115, 32, 111, 102, 32, 97, 110, 111, 116, 104, 101, 114, 32, 116, 101, 120, 116]⟩ : ByteArray)).extract 0 31) ++ (strOfNums y383)).toList
                       ·rw [if_pos c58] at H
                        have c58b0 : ((rdOf ByteArray.empty t394 x10_1).toList == (((((rdOf ByteArray.empty t370 (ji8)).extract 0 7) ++ (⟨#[115, 101, 118, 101, 110, 98, 121, 116, 101, 115, 32, 111, 102, 32, 97, 110, 111, 116, 104, 101, 114, 32, 116, 101, 120, 116]⟩ : ByteArray)).extract 0 31) ++ (strOfNums y383)).toList) = true := beq_iff_eq.mpr c58
                        have c58b1 : ((rdOf ByteArray.empty t394 x10_1).toList != (((((rdOf ByteArray.empty t370 (ji8)).extract 0 7) ++ (⟨#[115, 101, 118, 101, 110, 98, 121, 116, 101, 115, 32, 111, 102, 32, 97, 110, 111, 116, 104, 101, 114, 32, 116, 101, 120, 116]⟩ : ByteArray)).extract 0 31) ++ (strOfNums y383)).toList) = false := bne_eq_false_iff_eq.mpr c58
                        clear c58
                        have H' := Aside0.mk H
                        clear H
                        have hnb59 := NB376_393.out
                        have hnc59 := NB393_376.out
                        have hnb60 := NB376_400.out
                        have hnc60 := NB400_376.out
                        have hcz61_0 : wr.cell? ⟨gb376, 0, none⟩ = some (.slice (some ad381) t370.length co22) := (blk_cell BK376.out 0).trans rfl
                        have hcz61_1 : wr.cell? ⟨gb376, 1, none⟩ = some (.slice Ao24 t373.length co24) := (blk_cell BK376.out 1).trans rfl
                        have hfz61_0 := blk_frozen BK376.out 0
                        have hfz61_1 := blk_frozen BK376.out 1
                        go_wp2_with (first | ((with_reducible refine gate_callee (f := 14) rfl ?_); refine goesL_ (some 65) rfl rfl Try.func14 (by kernel_rfl) rfl #[.agg #[.slice (some ad381) t370.length co22, .slice Ao24 t373.length co24], .int .i64 x10_1] rfl (by (try simp only [List.map_toArray, List.map_cons, List.map_nil]); first | done | rfl | (simp only [List.length_drop, List.length_take]; rfl)) ?_; (with_reducible refine (spec_ReadSector.calls k1 _ _ t370 _ _ t373 x10_1 t404 t405 _ ?side1 ?side2 ?side3 ?side4 A48.out).mono ?_); (case side1 => exact cG (Kd.R_reads' HO_377000.out).2.2); (case side2 => exact (Kd.R_reads' HO_377000.out).2.1); (case side3 => exact cG (Kd.R_reads' HO_377001.out).2.2); (case side4 => exact (Kd.R_reads' HO_377001.out).2.1); rintro e w62 ⟨rfl, hb⟩; refine ⟨_, rfl, ?_⟩; replace HO_377000 := rB HO_377000 hb; replace HO_377001 := rB HO_377001 hb; replace HO_394000 := rB HO_394000 hb; replace HO_394001 := rB HO_394001 hb; replace HO_401000 := rB HO_401000 hb; replace HO_401001 := rB HO_401001 hb; replace BK376 := bB BK376 hb; replace BK393 := bB BK393 hb; replace BK400 := bB BK400 hb; replace HB := ak (below_step (lT HB (gC GE376 (gC GE393 (gC GE400 gN)))) hb); (try clear hb); (try clear hb2); (try clear hk); (try clear hi); have hnb63 := NB393_400.out; have hnc63 := NB400_393.out; obtain ⟨hcz64_0, hcz64_1, hfz64_0, hfz64_1⟩ := bC2 BK393) | ((with_reducible refine gate_callee (f := 15) rfl ?_); refine goesL_ (some 71) rfl rfl Try.func15 (by kernel_rfl) rfl #[.agg #[.slice Ao36 t386.length co36, .slice Ao39 t389.length co39], .int .i64 x10_1] rfl (by (try simp only [List.map_toArray, List.map_cons, List.map_nil]); first | done | rfl | (simp only [List.length_drop, List.length_take]; rfl)) ?_; (with_reducible refine (impl_ReadSector.calls k1 _ _ t386 _ _ t389 x10_1 t406 true _ ?side1 ?side2 ?side3 ?side4 A49.out).mono ?_); (case side1 => exact cG (Kd.R_reads' HO_394000.out).2.2); (case side2 => exact (Kd.R_reads' HO_394000.out).2.1); (case side3 => exact cG (Kd.R_reads' HO_394001.out).2.2); (case side4 => exact (Kd.R_reads' HO_394001.out).2.1); rintro e w65 ⟨rfl, hb⟩; refine ⟨_, rfl, ?_⟩; replace HO_377000 := rB HO_377000 hb; replace HO_377001 := rB HO_377001 hb; replace HO_394000 := rB HO_394000 hb; replace HO_394001 := rB HO_394001 hb; replace HO_401000 := rB HO_401000 hb; replace HO_401001 := rB HO_401001 hb; replace BK376 := bB BK376 hb; replace BK393 := bB BK393 hb; replace BK400 := bB BK400 hb; replace HB := ak (below_step (lT HB (gC GE376 (gC GE393 (gC GE400 gN)))) hb); (try clear hb); (try clear hb2); (try clear hk); (try clear hi); obtain ⟨hcz66_0, hcz66_1, hfz66_0, hfz66_1⟩ := bC2 BK400) | ((with_reducible refine gate_callee (f := 15) rfl ?_); refine goesL_ (some 77) rfl rfl Try.func15 (by kernel_rfl) rfl #[.agg #[.slice Ao42 t394.length co42, .slice Ao46 t397.length co46], .int .i64 x10_1] rfl (by (try simp only [List.map_toArray, List.map_cons, List.map_nil]); first | done | rfl | (simp only [List.length_drop, List.length_take]; rfl)) ?_; (with_reducible refine (impl_ReadSector.calls k1 _ _ t394 _ _ t397 x10_1 t408 true _ ?side1 ?side2 ?side3 ?side4 A50.out).mono ?_); (case side1 => exact cG (Kd.R_reads' HO_401000.out).2.2); (case side2 => exact (Kd.R_reads' HO_401000.out).2.1); (case side3 => exact cG (Kd.R_reads' HO_401001.out).2.2); (case side4 => exact (Kd.R_reads' HO_401001.out).2.1); rintro e w67 ⟨rfl, hb⟩; refine ⟨_, rfl, ?_⟩; replace HO_377000 := rB HO_377000 hb; replace HO_377001 := rB HO_377001 hb; replace HO_394000 := rB HO_394000 hb; replace HO_394001 := rB HO_394001 hb; replace HO_401000 := rB HO_401000 hb; replace HO_401001 := rB HO_401001 hb; replace BK376 := bB BK376 hb; replace BK393 := bB BK393 hb; replace BK400 := bB BK400 hb; replace HB := ak (below_step (lT HB (gC GE376 (gC GE393 (gC GE400 gN)))) hb); (try clear hb); (try clear hb2); (try clear hk); (try clear hi); obtain ⟨hcz68_0, hcz68_1, hfz68_0, hfz68_1⟩ := bC2 BK400; have p410 : 0 ≤ (x10_1 : Int) := of_decide_eq_true (by first | (with_reducible assumption) | assumption); have q410 : x10_1 < (t394.length : Int) := of_decide_eq_true (by first | (with_reducible assumption) | assumption); obtain ⟨ad410, e410, hx410_0⟩ := Kd.at_string (Kd.R_reads' HO_401000.out).2.2 x10_1 p410 q410; cases e410; replace p410 := eq_true p410; replace q410 := eq_true q410))
                        go_roundg k1
                        case measure => have := HK1.out; omega
                        case rel => exact ⟨(wrap64 (x10_1 + 1)), (by first | rfl | (simp; done) | (simp [*]; done)), H', ⟨by have := HK1.out; omega⟩, ⟨by (with_reducible repeat (first | apply Kd.R_alloc | apply Kd.R_drewN | apply Kd.R_drew)); exact HO_377000.out⟩, ⟨by (with_reducible repeat (first | apply Kd.R_alloc | apply Kd.R_drewN | apply Kd.R_drew)); exact HO_377001.out⟩, ⟨by (with_reducible repeat (first | apply Kd.R_alloc | apply Kd.R_drewN | apply Kd.R_drew)); exact HO_394000.out⟩, ⟨by (with_reducible repeat (first | apply Kd.R_alloc | apply Kd.R_drewN | apply Kd.R_drew)); exact HO_394001.out⟩, ⟨by (with_reducible repeat (first | apply Kd.R_alloc | apply Kd.R_drewN | apply Kd.R_drew)); exact HO_401000.out⟩, ⟨by (with_reducible repeat (first | apply Kd.R_alloc | apply Kd.R_drewN | apply Kd.R_drew)); exact HO_401001.out⟩, ⟨by (with_reducible repeat (first | refine blk_drewN ?_ _ | refine blk_drew ?_ | refine blk_alloc ?_ _)); exact BK376.out⟩, ⟨by (with_reducible repeat (first | refine blk_drewN ?_ _ | refine blk_drew ?_ | refine blk_alloc ?_ _)); exact BK393.out⟩, ⟨by (with_reducible repeat (first | refine blk_drewN ?_ _ | refine blk_drew ?_ | refine blk_alloc ?_ _)); exact BK400.out⟩, ⟨by exact lT HB (gC GE376 (gC GE393 (gC GE400 gN)))⟩⟩
                       ·rw [if_neg c58] at H
                        have c58b0 : ((rdOf ByteArray.empty t394 x10_1).toList == (((((rdOf ByteArray.empty t370 (ji8)).extract 0 7) ++ (⟨#[115, 101, 118, 101, 110, 98, 121, 116, 101, 115, 32, 111, 102, 32, 97, 110, 111, 116, 104, 101, 114, 32, 116, 101, 120, 116]⟩ : ByteArray)).extract 0 31) ++ (strOfNums y383)).toList) = false := beq_eq_false_iff_ne.mpr c58
                        have c58b1 : ((rdOf ByteArray.empty t394 x10_1).toList != (((((rdOf ByteArray.empty t370 (ji8)).extract 0 7) ++ (⟨#[115, 101, 118, 101, 110, 98, 121, 116, 101, 115, 32, 111, 102, 32, 97, 110, 111, 116, 104, 101, 114, 32, 116, 101, 120, 116]⟩ : ByteArray)).extract 0 31) ++ (strOfNums y383)).toList) = true := bne_iff_ne.mpr c58
                        obtain rfl := Option.some.inj H
                        have hnb69 := NB376_393.out
                        have hnc69 := NB393_376.out
                        have hnb70 := NB376_400.out
                        have hnc70 := NB400_376.out
                        have hcz71_0 : wr.cell? ⟨gb376, 0, none⟩ = some (.slice (some ad381) t370.length co22) := (blk_cell BK376.out 0).trans rfl
                        have hcz71_1 : wr.cell? ⟨gb376, 1, none⟩ = some (.slice Ao24 t373.length co24) := (blk_cell BK376.out 1).trans rfl
                        have hfz71_0 := blk_frozen BK376.out 0
                        have hfz71_1 := blk_frozen BK376.out 1
                        go_wp2_with (first | ((with_reducible refine gate_callee (f := 14) rfl ?_); refine goesL_ (some 65) rfl rfl Try.func14 (by kernel_rfl) rfl #[.agg #[.slice (some ad381) t370.length co22, .slice Ao24 t373.length co24], .int .i64 x10_1] rfl (by (try simp only [List.map_toArray, List.map_cons, List.map_nil]); first | done | rfl | (simp only [List.length_drop, List.length_take]; rfl)) ?_; (with_reducible refine (spec_ReadSector.calls k1 _ _ t370 _ _ t373 x10_1 t404 t405 _ ?side1 ?side2 ?side3 ?side4 A48.out).mono ?_); (case side1 => exact cG (Kd.R_reads' HO_377000.out).2.2); (case side2 => exact (Kd.R_reads' HO_377000.out).2.1); (case side3 => exact cG (Kd.R_reads' HO_377001.out).2.2); (case side4 => exact (Kd.R_reads' HO_377001.out).2.1); rintro e w72 ⟨rfl, hb⟩; refine ⟨_, rfl, ?_⟩; replace HO_377000 := rB HO_377000 hb; replace HO_377001 := rB HO_377001 hb; replace HO_394000 := rB HO_394000 hb; replace HO_394001 := rB HO_394001 hb; replace HO_401000 := rB HO_401000 hb; replace HO_401001 := rB HO_401001 hb; replace BK376 := bB BK376 hb; replace BK393 := bB BK393 hb; replace BK400 := bB BK400 hb; replace HB := ak (below_step (lT HB (gC GE376 (gC GE393 (gC GE400 gN)))) hb); (try clear hb); (try clear hb2); (try clear hk); (try clear hi); have hnb73 := NB393_400.out; have hnc73 := NB400_393.out; obtain ⟨hcz74_0, hcz74_1, hfz74_0, hfz74_1⟩ := bC2 BK393) | ((with_reducible refine gate_callee (f := 15) rfl ?_); refine goesL_ (some 71) rfl rfl Try.func15 (by kernel_rfl) rfl #[.agg #[.slice Ao36 t386.length co36, .slice Ao39 t389.length co39], .int .i64 x10_1] rfl (by (try simp only [List.map_toArray, List.map_cons, List.map_nil]); first | done | rfl | (simp only [List.length_drop, List.length_take]; rfl)) ?_; (with_reducible refine (impl_ReadSector.calls k1 _ _ t386 _ _ t389 x10_1 t406 true _ ?side1 ?side2 ?side3 ?side4 A49.out).mono ?_); (case side1 => exact cG (Kd.R_reads' HO_394000.out).2.2); (case side2 => exact (Kd.R_reads' HO_394000.out).2.1); (case side3 => exact cG (Kd.R_reads' HO_394001.out).2.2); (case side4 => exact (Kd.R_reads' HO_394001.out).2.1); rintro e w75 ⟨rfl, hb⟩; refine ⟨_, rfl, ?_⟩; replace HO_377000 := rB HO_377000 hb; replace HO_377001 := rB HO_377001 hb; replace HO_394000 := rB HO_394000 hb; replace HO_394001 := rB HO_394001 hb; replace HO_401000 := rB HO_401000 hb; replace HO_401001 := rB HO_401001 hb; replace BK376 := bB BK376 hb; replace BK393 := bB BK393 hb; replace BK400 := bB BK400 hb; replace HB := ak (below_step (lT HB (gC GE376 (gC GE393 (gC GE400 gN)))) hb); (try clear hb); (try clear hb2); (try clear hk); (try clear hi); obtain ⟨hcz76_0, hcz76_1, hfz76_0, hfz76_1⟩ := bC2 BK400) | ((with_reducible refine gate_callee (f := 15) rfl ?_); refine goesL_ (some 77) rfl rfl Try.func15 (by kernel_rfl) rfl #[.agg #[.slice Ao42 t394.length co42, .slice Ao46 t397.length co46], .int .i64 x10_1] rfl (by (try simp only [List.map_toArray, List.map_cons, List.map_nil]); first | done | rfl | (simp only [List.length_drop, List.length_take]; rfl)) ?_; (with_reducible refine (impl_ReadSector.calls k1 _ _ t394 _ _ t397 x10_1 t408 true _ ?side1 ?side2 ?side3 ?side4 A50.out).mono ?_); (case side1 => exact cG (Kd.R_reads' HO_401000.out).2.2); (case side2 => exact (Kd.R_reads' HO_401000.out).2.1); (case side3 => exact cG (Kd.R_reads' HO_401001.out).2.2); (case side4 => exact (Kd.R_reads' HO_401001.out).2.1); rintro e w77 ⟨rfl, hb⟩; refine ⟨_, rfl, ?_⟩; replace HO_377000 := rB HO_377000 hb; replace HO_377001 := rB HO_377001 hb; replace HO_394000 := rB HO_394000 hb; replace HO_394001 := rB HO_394001 hb; replace HO_401000 := rB HO_401000 hb; replace HO_401001 := rB HO_401001 hb; replace BK376 := bB BK376 hb; replace BK393 := bB BK393 hb; replace BK400 := bB BK400 hb; replace HB := ak (below_step (lT HB (gC GE376 (gC GE393 (gC GE400 gN)))) hb); (try clear hb); (try clear hb2); (try clear hk); (try clear hi); obtain ⟨hcz78_0, hcz78_1, hfz78_0, hfz78_1⟩ := bC2 BK400; have p410 : 0 ≤ (x10_1 : Int) := of_decide_eq_true (by first | (with_reducible assumption) | assumption); have q410 : x10_1 < (t394.length : Int) := of_decide_eq_true (by first | (with_reducible assumption) | assumption); obtain ⟨ad410, e410, hx410_0⟩ := Kd.at_string (Kd.R_reads' HO_401000.out).2.2 x10_1 p410 q410; cases e410; replace p410 := eq_true p410; replace q410 := eq_true q410))
                        go_ret
                        exact ⟨by first | rfl | (simp [errW_none, errW_some] <;> rfl) | (simp only [← hji8]; first | rfl | (simp [errW_none, errW_some] <;> rfl)) | (simp [*, errW_none, errW_some] <;> rfl), by exact lT HB (gC GE376 (gC GE393 (gC GE400 gN)))⟩
                      ·rw [if_neg c57] at H
                       exact absurd H (by simp)
                     ·rw [if_neg c56] at H
                      exact absurd H (by simp)
                    ·rw [if_neg c55] at H
                     have c55b0 : (t408.toList == (((((rdOf ByteArray.empty t370 (ji8)).extract 0 7) ++ (⟨#[115, 101, 118, 101, 110, 98, 121, 116, 101, 115, 32, 111, 102, 32, 97, 110, 111, 116, 104, 101, 114, 32, 116, 101, 120, 116]⟩ : ByteArray)).extract 0 31) ++ (strOfNums y383)).toList) = false := beq_eq_false_iff_ne.mpr c55
                     have c55b1 : (t408.toList != (((((rdOf ByteArray.empty t370 (ji8)).extract 0 7) ++ (⟨#[115, 101, 118, 101, 110, 98, 121, 116, 101, 115, 32, 111, 102, 32, 97, 110, 111, 116, 104, 101, 114, 32, 116, 101, 120, 116]⟩ : ByteArray)).extract 0 31) ++ (strOfNums y383)).toList) = true := bne_iff_ne.mpr c55
                     obtain rfl := Option.some.inj H
                     have hnb79 := NB376_393.out
                     have hnc79 := NB393_376.out
                     have hnb80 := NB376_400.out
                     have hnc80 := NB400_376.out
                     have hcz81_0 : wr.cell? ⟨gb376, 0, none⟩ = some (.slice (some ad381) t370.length co22) := (blk_cell BK376.out 0).trans rfl
                     have hcz81_1 : wr.cell? ⟨gb376, 1, none⟩ = some (.slice Ao24 t373.length co24) := (blk_cell BK376.out 1).trans rfl
                     have hfz81_0 := blk_frozen BK376.out 0
                     have hfz81_1 := blk_frozen BK376.out 1
                     go_wp2_with (first | ((with_reducible refine gate_callee (f := 14) rfl ?_); refine goesL_ (some 65) rfl rfl Try.func14 (by kernel_rfl) rfl #[.agg #[.slice (some ad381) t370.length co22, .slice Ao24 t373.length co24], .int .i64 x10_1] rfl (by (try simp only [List.map_toArray, List.map_cons, List.map_nil]); first | done | rfl | (simp only [List.length_drop, List.length_take]; rfl)) ?_; (with_reducible refine (spec_ReadSector.calls k1 _ _ t370 _ _ t373 x10_1 t404 t405 _ ?side1 ?side2 ?side3 ?side4 A48.out).mono ?_); (case side1 => exact cG (Kd.R_reads' HO_377000.out).2.2); (case side2 => exact (Kd.R_reads' HO_377000.out).2.1); (case side3 => exact cG (Kd.R_reads' HO_377001.out).2.2); (case side4 => exact (Kd.R_reads' HO_377001.out).2.1); rintro e w82 ⟨rfl, hb⟩; refine ⟨_, rfl, ?_⟩; replace HO_377000 := rB HO_377000 hb; replace HO_377001 := rB HO_377001 hb; replace HO_394000 := rB HO_394000 hb; replace HO_394001 := rB HO_394001 hb; replace HO_401000 := rB HO_401000 hb; replace HO_401001 := rB HO_401001 hb; replace BK376 := bB BK376 hb; replace BK393 := bB BK393 hb; replace BK400 := bB BK400 hb; replace HB := ak (below_step (lT HB (gC GE376 (gC GE393 (gC GE400 gN)))) hb); (try clear hb); (try clear hb2); (try clear hk); (try clear hi); have hnb83 := NB393_400.out; have hnc83 := NB400_393.out; obtain ⟨hcz84_0, hcz84_1, hfz84_0, hfz84_1⟩ := bC2 BK393) | ((with_reducible refine gate_callee (f := 15) rfl ?_); refine goesL_ (some 71) rfl rfl Try.func15 (by kernel_rfl) rfl #[.agg #[.slice Ao36 t386.length co36, .slice Ao39 t389.length co39], .int .i64 x10_1] rfl (by (try simp only [List.map_toArray, List.map_cons, List.map_nil]); first | done | rfl | (simp only [List.length_drop, List.length_take]; rfl)) ?_; (with_reducible refine (impl_ReadSector.calls k1 _ _ t386 _ _ t389 x10_1 t406 true _ ?side1 ?side2 ?side3 ?side4 A49.out).mono ?_); (case side1 => exact cG (Kd.R_reads' HO_394000.out).2.2); (case side2 => exact (Kd.R_reads' HO_394000.out).2.1); (case side3 => exact cG (Kd.R_reads' HO_394001.out).2.2); (case side4 => exact (Kd.R_reads' HO_394001.out).2.1); rintro e w85 ⟨rfl, hb⟩; refine ⟨_, rfl, ?_⟩; replace HO_377000 := rB HO_377000 hb; replace HO_377001 := rB HO_377001 hb; replace HO_394000 := rB HO_394000 hb; replace HO_394001 := rB HO_394001 hb; replace HO_401000 := rB HO_401000 hb; replace HO_401001 := rB HO_401001 hb; replace BK376 := bB BK376 hb; replace BK393 := bB BK393 hb; replace BK400 := bB BK400 hb; replace HB := ak (below_step (lT HB (gC GE376 (gC GE393 (gC GE400 gN)))) hb); (try clear hb); (try clear hb2); (try clear hk); (try clear hi); obtain ⟨hcz86_0, hcz86_1, hfz86_0, hfz86_1⟩ := bC2 BK400) | ((with_reducible refine gate_callee (f := 15) rfl ?_); refine goesL_ (some 77) rfl rfl Try.func15 (by kernel_rfl) rfl #[.agg #[.slice Ao42 t394.length co42, .slice Ao46 t397.length co46], .int .i64 x10_1] rfl (by (try simp only [List.map_toArray, List.map_cons, List.map_nil]); first | done | rfl | (simp only [List.length_drop, List.length_take]; rfl)) ?_; (with_reducible refine (impl_ReadSector.calls k1 _ _ t394 _ _ t397 x10_1 t408 true _ ?side1 ?side2 ?side3 ?side4 A50.out).mono ?_); (case side1 => exact cG (Kd.R_reads' HO_401000.out).2.2); (case side2 => exact (Kd.R_reads' HO_401000.out).2.1); (case side3 => exact cG (Kd.R_reads' HO_401001.out).2.2); (case side4 => exact (Kd.R_reads' HO_401001.out).2.1); rintro e w87 ⟨rfl, hb⟩; refine ⟨_, rfl, ?_⟩; replace HO_377000 := rB HO_377000 hb; replace HO_377001 := rB HO_377001 hb; replace HO_394000 := rB HO_394000 hb; replace HO_394001 := rB HO_394001 hb; replace HO_401000 := rB HO_401000 hb; replace HO_401001 := rB HO_401001 hb; replace BK376 := bB BK376 hb; replace BK393 := bB BK393 hb; replace BK400 := bB BK400 hb; replace HB := ak (below_step (lT HB (gC GE376 (gC GE393 (gC GE400 gN)))) hb); (try clear hb); (try clear hb2); (try clear hk); (try clear hi)))
                     go_ret
                     exact ⟨by first | rfl | (simp [errW_none, errW_some] <;> rfl) | (simp only [← hji8]; first | rfl | (simp [errW_none, errW_some] <;> rfl)) | (simp [*, errW_none, errW_some] <;> rfl), by exact lT HB (gC GE376 (gC GE393 (gC GE400 gN)))⟩
                   ·rw [if_neg c54] at H
                    have c54b0 : (t406.toList == (((((rdOf ByteArray.empty t370 (ji8)).extract 0 7) ++ (⟨#[115, 101, 118, 101, 110, 98, 121, 116, 101, 115, 32, 111, 102, 32, 97, 110, 111, 116, 104, 101, 114, 32, 116, 101, 120, 116]⟩ : ByteArray)).extract 0 31) ++ (strOfNums y383)).toList) = false := beq_eq_false_iff_ne.mpr c54
                    have c54b1 : (t406.toList != (((((rdOf ByteArray.empty t370 (ji8)).extract 0 7) ++ (⟨#[115, 101, 118, 101, 110, 98, 121, 116, 101, 115, 32, 111, 102, 32, 97, 110, 111, 116, 104, 101, 114, 32, 116, 101, 120, 116]⟩ : ByteArray)).extract 0 31) ++ (strOfNums y383)).toList) = true := bne_iff_ne.mpr c54
                    obtain rfl := Option.some.inj H
                    have hnb88 := NB376_393.out
                    have hnc88 := NB393_376.out
                    have hnb89 := NB376_400.out
                    have hnc89 := NB400_376.out
                    have hcz90_0 : wr.cell? ⟨gb376, 0, none⟩ = some (.slice (some ad381) t370.length co22) := (blk_cell BK376.out 0).trans rfl
                    have hcz90_1 : wr.cell? ⟨gb376, 1, none⟩ = some (.slice Ao24 t373.length co24) := (blk_cell BK376.out 1).trans rfl
                    have hfz90_0 := blk_frozen BK376.out 0
                    have hfz90_1 := blk_frozen BK376.out 1
                    go_wp2_with (first | ((with_reducible refine gate_callee (f := 14) rfl ?_); refine goesL_ (some 65) rfl rfl Try.func14 (by kernel_rfl) rfl #[.agg #[.slice (some ad381) t370.length co22, .slice Ao24 t373.length co24], .int .i64 x10_1] rfl (by (try simp only [List.map_toArray, List.map_cons, List.map_nil]); first | done | rfl | (simp only [List.length_drop, List.length_take]; rfl)) ?_; (with_reducible refine (spec_ReadSector.calls k1 _ _ t370 _ _ t373 x10_1 t404 t405 _ ?side1 ?side2 ?side3 ?side4 A48.out).mono ?_); (case side1 => exact cG (Kd.R_reads' HO_377000.out).2.2); (case side2 => exact (Kd.R_reads' HO_377000.out).2.1); (case side3 => exact cG (Kd.R_reads' HO_377001.out).2.2); (case side4 => exact (Kd.R_reads' HO_377001.out).2.1); rintro e w91 ⟨rfl, hb⟩; refine ⟨_, rfl, ?_⟩; replace HO_377000 := rB HO_377000 hb; replace HO_377001 := rB HO_377001 hb; replace HO_394000 := rB HO_394000 hb; replace HO_394001 := rB HO_394001 hb; replace HO_401000 := rB HO_401000 hb; replace HO_401001 := rB HO_401001 hb; replace BK376 := bB BK376 hb; replace BK393 := bB BK393 hb; replace BK400 := bB BK400 hb; replace HB := ak (below_step (lT HB (gC GE376 (gC GE393 (gC GE400 gN)))) hb); (try clear hb); (try clear hb2); (try clear hk); (try clear hi); have hnb92 := NB393_400.out; have hnc92 := NB400_393.out; obtain ⟨hcz93_0, hcz93_1, hfz93_0, hfz93_1⟩ := bC2 BK393) | ((with_reducible refine gate_callee (f := 15) rfl ?_); refine goesL_ (some 71) rfl rfl Try.func15 (by kernel_rfl) rfl #[.agg #[.slice Ao36 t386.length co36, .slice Ao39 t389.length co39], .int .i64 x10_1] rfl (by (try simp only [List.map_toArray, List.map_cons, List.map_nil]); first | done | rfl | (simp only [List.length_drop, List.length_take]; rfl)) ?_; (with_reducible refine (impl_ReadSector.calls k1 _ _ t386 _ _ t389 x10_1 t406 true _ ?side1 ?side2 ?side3 ?side4 A49.out).mono ?_); (case side1 => exact cG (Kd.R_reads' HO_394000.out).2.2); (case side2 => exact (Kd.R_reads' HO_394000.out).2.1); (case side3 => exact cG (Kd.R_reads' HO_394001.out).2.2); (case side4 => exact (Kd.R_reads' HO_394001.out).2.1); rintro e w94 ⟨rfl, hb⟩; refine ⟨_, rfl, ?_⟩; replace HO_377000 := rB HO_377000 hb; replace HO_377001 := rB HO_377001 hb; replace HO_394000 := rB HO_394000 hb; replace HO_394001 := rB HO_394001 hb; replace HO_401000 := rB HO_401000 hb; replace HO_401001 := rB HO_401001 hb; replace BK376 := bB BK376 hb; replace BK393 := bB BK393 hb; replace BK400 := bB BK400 hb; replace HB := ak (below_step (lT HB (gC GE376 (gC GE393 (gC GE400 gN)))) hb); (try clear hb); (try clear hb2); (try clear hk); (try clear hi); obtain ⟨hcz95_0, hcz95_1, hfz95_0, hfz95_1⟩ := bC2 BK400) | ((with_reducible refine gate_callee (f := 15) rfl ?_); refine goesL_ (some 77) rfl rfl Try.func15 (by kernel_rfl) rfl #[.agg #[.slice Ao42 t394.length co42, .slice Ao46 t397.length co46], .int .i64 x10_1] rfl (by (try simp only [List.map_toArray, List.map_cons, List.map_nil]); first | done | rfl | (simp only [List.length_drop, List.length_take]; rfl)) ?_; (with_reducible refine (impl_ReadSector.calls k1 _ _ t394 _ _ t397 x10_1 t408 true _ ?side1 ?side2 ?side3 ?side4 A50.out).mono ?_); (case side1 => exact cG (Kd.R_reads' HO_401000.out).2.2); (case side2 => exact (Kd.R_reads' HO_401000.out).2.1); (case side3 => exact cG (Kd.R_reads' HO_401001.out).2.2); (case side4 => exact (Kd.R_reads' HO_401001.out).2.1); rintro e w96 ⟨rfl, hb⟩; refine ⟨_, rfl, ?_⟩; replace HO_377000 := rB HO_377000 hb; replace HO_377001 := rB HO_377001 hb; replace HO_394000 := rB HO_394000 hb; replace HO_394001 := rB HO_394001 hb; replace HO_401000 := rB HO_401000 hb; replace HO_401001 := rB HO_401001 hb; replace BK376 := bB BK376 hb; replace BK393 := bB BK393 hb; replace BK400 := bB BK400 hb; replace HB := ak (below_step (lT HB (gC GE376 (gC GE393 (gC GE400 gN)))) hb); (try clear hb); (try clear hb2); (try clear hk); (try clear hi)))
                    go_ret
                    exact ⟨by first | rfl | (simp [errW_none, errW_some] <;> rfl) | (simp only [← hji8]; first | rfl | (simp [errW_none, errW_some] <;> rfl)) | (simp [*, errW_none, errW_some] <;> rfl), by exact lT HB (gC GE376 (gC GE393 (gC GE400 gN)))⟩
                  ·rw [if_neg c53] at H
                   have c53b0 : (x10_1 == ji8) = false := beq_eq_false_iff_ne.mpr c53
                   have c53b1 : (x10_1 != ji8) = true := bne_iff_ne.mpr c53
                   by_cases c97 : t404.toList = t406.toList
                   ·rw [if_pos c97] at H
                    have c97b0 : (t404.toList == t406.toList) = true := beq_iff_eq.mpr c97
                    have c97b1 : (t404.toList != t406.toList) = false := bne_eq_false_iff_eq.mpr c97
                    clear c97
                    by_cases c98 : t404.toList = t408.toList
                    ·rw [if_pos c98] at H
                     have c98b0 : (t404.toList == t408.toList) = true := beq_iff_eq.mpr c98
                     have c98b1 : (t404.toList != t408.toList) = false := bne_eq_false_iff_eq.mpr c98
                     clear c98
                     have H' := Aside0.mk H
                     clear H
                     have hnb99 := NB376_393.out
                     have hnc99 := NB393_376.out
                     have hnb100 := NB376_400.out
                     have hnc100 := NB400_376.out
                     have hcz101_0 : wr.cell? ⟨gb376, 0, none⟩ = some (.slice (some ad381) t370.length co22) := (blk_cell BK376.out 0).trans rfl
                     have hcz101_1 : wr.cell? ⟨gb376, 1, none⟩ = some (.slice Ao24 t373.length co24) := (blk_cell BK376.out 1).trans rfl
                     have hfz101_0 := blk_frozen BK376.out 0
                     have hfz101_1 := blk_frozen BK376.out 1
                     go_wp2_with (first | ((with_reducible refine gate_callee (f := 14) rfl ?_); refine goesL_ (some 65) rfl rfl Try.func14 (by kernel_rfl) rfl #[.agg #[.slice (some ad381) t370.length co22, .slice Ao24 t373.length co24], .int .i64 x10_1] rfl (by (try simp only [List.map_toArray, List.map_cons, List.map_nil]); first | done | rfl | (simp only [List.length_drop, List.length_take]; rfl)) ?_; (with_reducible refine (spec_ReadSector.calls k1 _ _ t370 _ _ t373 x10_1 t404 t405 _ ?side1 ?side2 ?side3 ?side4 A48.out).mono ?_); (case side1 => exact cG (Kd.R_reads' HO_377000.out).2.2); (case side2 => exact (Kd.R_reads' HO_377000.out).2.1); (case side3 => exact cG (Kd.R_reads' HO_377001.out).2.2); (case side4 => exact (Kd.R_reads' HO_377001.out).2.1); rintro e w102 ⟨rfl, hb⟩; refine ⟨_, rfl, ?_⟩; replace HO_377000 := rB HO_377000 hb; replace HO_377001 := rB HO_377001 hb; replace HO_394000 := rB HO_394000 hb; replace HO_394001 := rB HO_394001 hb; replace HO_401000 := rB HO_401000 hb; replace HO_401001 := rB HO_401001 hb; replace BK376 := bB BK376 hb; replace BK393 := bB BK393 hb; replace BK400 := bB BK400 hb; replace HB := ak (below_step (lT HB (gC GE376 (gC GE393 (gC GE400 gN)))) hb); (try clear hb); (try clear hb2); (try clear hk); (try clear hi); have hnb103 := NB393_400.out; have hnc103 := NB400_393.out; obtain ⟨hcz104_0, hcz104_1, hfz104_0, hfz104_1⟩ := bC2 BK393) | ((with_reducible refine gate_callee (f := 15) rfl ?_); refine goesL_ (some 71) rfl rfl Try.func15 (by kernel_rfl) rfl #[.agg #[.slice Ao36 t386.length co36, .slice Ao39 t389.length co39], .int .i64 x10_1] rfl (by (try simp only [List.map_toArray, List.map_cons, List.map_nil]); first | done | rfl | (simp only [List.length_drop, List.length_take]; rfl)) ?_; (with_reducible refine (impl_ReadSector.calls k1 _ _ t386 _ _ t389 x10_1 t406 true _ ?side1 ?side2 ?side3 ?side4 A49.out).mono ?_); (case side1 => exact cG (Kd.R_reads' HO_394000.out).2.2); (case side2 => exact (Kd.R_reads' HO_394000.out).2.1); (case side3 => exact cG (Kd.R_reads' HO_394001.out).2.2); (case side4 => exact (Kd.R_reads' HO_394001.out).2.1); rintro e w105 ⟨rfl, hb⟩; refine ⟨_, rfl, ?_⟩; replace HO_377000 := rB HO_377000 hb; replace HO_377001 := rB HO_377001 hb; replace HO_394000 := rB HO_394000 hb; replace HO_394001 := rB HO_394001 hb; replace HO_401000 := rB HO_401000 hb; replace HO_401001 := rB HO_401001 hb; replace BK376 := bB BK376 hb; replace BK393 := bB BK393 hb; replace BK400 := bB BK400 hb; replace HB := ak (below_step (lT HB (gC GE376 (gC GE393 (gC GE400 gN)))) hb); (try clear hb); (try clear hb2); (try clear hk); (try clear hi); obtain ⟨hcz106_0, hcz106_1, hfz106_0, hfz106_1⟩ := bC2 BK400) | ((with_reducible refine gate_callee (f := 15) rfl ?_); refine goesL_ (some 77) rfl rfl Try.func15 (by kernel_rfl) rfl #[.agg #[.slice Ao42 t394.length co42, .slice Ao46 t397.length co46], .int .i64 x10_1] rfl (by (try simp only [List.map_toArray, List.map_cons, List.map_nil]); first | done | rfl | (simp only [List.length_drop, List.length_take]; rfl)) ?_; (with_reducible refine (impl_ReadSector.calls k1 _ _ t394 _ _ t397 x10_1 t408 true _ ?side1 ?side2 ?side3 ?side4 A50.out).mono ?_); (case side1 => exact cG (Kd.R_reads' HO_401000.out).2.2); (case side2 => exact (Kd.R_reads' HO_401000.out).2.1); (case side3 => exact cG (Kd.R_reads' HO_401001.out).2.2); (case side4 => exact (Kd.R_reads' HO_401001.out).2.1); rintro e w107 ⟨rfl, hb⟩; refine ⟨_, rfl, ?_⟩; replace HO_377000 := rB HO_377000 hb; replace HO_377001 := rB HO_377001 hb; replace HO_394000 := rB HO_394000 hb; replace HO_394001 := rB HO_394001 hb; replace HO_401000 := rB HO_401000 hb; replace HO_401001 := rB HO_401001 hb; replace BK376 := bB BK376 hb; replace BK393 := bB BK393 hb; replace BK400 := bB BK400 hb; replace HB := ak (below_step (lT HB (gC GE376 (gC GE393 (gC GE400 gN)))) hb); (try clear hb); (try clear hb2); (try clear hk); (try clear hi)))
                     go_roundg k1
                     case measure => have := HK1.out; omega
                     case rel => exact ⟨(wrap64 (x10_1 + 1)), (by first | rfl | (simp; done) | (simp [*]; done)), H', ⟨by have := HK1.out; omega⟩, ⟨by (with_reducible repeat (first | apply Kd.R_alloc | apply Kd.R_drewN | apply Kd.R_drew)); exact HO_377000.out⟩, ⟨by (with_reducible repeat (first | apply Kd.R_alloc | apply Kd.R_drewN | apply Kd.R_drew)); exact HO_377001.out⟩, ⟨by (with_reducible repeat (first | apply Kd.R_alloc | apply Kd.R_drewN | apply Kd.R_drew)); exact HO_394000.out⟩, ⟨by (with_reducible repeat (first | apply Kd.R_alloc | apply Kd.R_drewN | apply Kd.R_drew)); exact HO_394001.out⟩, ⟨by (with_reducible repeat (first | apply Kd.R_alloc | apply Kd.R_drewN | apply Kd.R_drew)); exact HO_401000.out⟩, ⟨by (with_reducible repeat (first | apply Kd.R_alloc | apply Kd.R_drewN | apply Kd.R_drew)); exact HO_401001.out⟩, ⟨by (with_reducible repeat (first | refine blk_drewN ?_ _ | refine blk_drew ?_ | refine blk_alloc ?_ _)); exact BK376.out⟩, ⟨by (with_reducible repeat (first | refine blk_drewN ?_ _ | refine blk_drew ?_ | refine blk_alloc ?_ _)); exact BK393.out⟩, ⟨by (with_reducible repeat (first | refine blk_drewN ?_ _ | refine blk_drew ?_ | refine blk_alloc ?_ _)); exact BK400.out⟩, ⟨by exact lT HB (gC GE376 (gC GE393 (gC GE400 gN)))⟩⟩
                    ·rw [if_neg c98] at H
                     have c98b0 : (t404.toList == t408.toList) = false := beq_eq_false_iff_ne.mpr c98
                     have c98b1 : (t404.toList != t408.toList) = true := bne_iff_ne.mpr c98
                     obtain rfl := Option.some.inj H
                     have hnb108 := NB376_393.out
                     have hnc108 := NB393_376.out
                     have hnb109 := NB376_400.out
                     have hnc109 := NB400_376.out
                     have hcz110_0 : wr.cell? ⟨gb376, 0, none⟩ = some (.slice (some ad381) t370.length co22) := (blk_cell BK376.out 0).trans rfl
                     have hcz110_1 : wr.cell? ⟨gb376, 1, none⟩ = some (.slice Ao24 t373.length co24) := (blk_cell BK376.out 1).trans rfl
                     have hfz110_0 := blk_frozen BK376.out 0
                     have hfz110_1 := blk_frozen BK376.out 1
                     go_wp2_with (first | ((with_reducible refine gate_callee (f := 14) rfl ?_); refine goesL_ (some 65) rfl rfl Try.func14 (by kernel_rfl) rfl #[.agg #[.slice (some ad381) t370.length co22, .slice Ao24 t373.length co24], .int .i64 x10_1] rfl (by (try simp only [List.map_toArray, List.map_cons, List.map_nil]); first | done | rfl | (simp only [List.length_drop, List.length_take]; rfl)) ?_; (with_reducible refine (spec_ReadSector.calls k1 _ _ t370 _ _ t373 x10_1 t404 t405 _ ?side1 ?side2 ?side3 ?side4 A48.out).mono ?_); (case side1 => exact cG (Kd.R_reads' HO_377000.out).2.2); (case side2 => exact (Kd.R_reads' HO_377000.out).2.1); (case side3 => exact cG (Kd.R_reads' HO_377001.out).2.2); (case side4 => exact (Kd.R_reads' HO_377001.out).2.1); rintro e w111 ⟨rfl, hb⟩; refine ⟨_, rfl, ?_⟩; replace HO_377000 := rB HO_377000 hb; replace HO_377001 := rB HO_377001 hb; replace HO_394000 := rB HO_394000 hb; replace HO_394001 := rB HO_394001 hb; replace HO_401000 := rB HO_401000 hb; replace HO_401001 := rB HO_401001 hb; replace BK376 := bB BK376 hb; replace BK393 := bB BK393 hb; replace BK400 := bB BK400 hb; replace HB := ak (below_step (lT HB (gC GE376 (gC GE393 (gC GE400 gN)))) hb); (try clear hb); (try clear hb2); (try clear hk); (try clear hi); have hnb112 := NB393_400.out; have hnc112 := NB400_393.out; obtain ⟨hcz113_0, hcz113_1, hfz113_0, hfz113_1⟩ := bC2 BK393) | ((with_reducible refine gate_callee (f := 15) rfl ?_); refine goesL_ (some 71) rfl rfl Try.func15 (by kernel_rfl) rfl #[.agg #[.slice Ao36 t386.length co36, .slice Ao39 t389.length co39], .int .i64 x10_1] rfl (by (try simp only [List.map_toArray, List.map_cons, List.map_nil]); first | done | rfl | (simp only [List.length_drop, List.length_take]; rfl)) ?_; (with_reducible refine (impl_ReadSector.calls k1 _ _ t386 _ _ t389 x10_1 t406 true _ ?side1 ?side2 ?side3 ?side4 A49.out).mono ?_); (case side1 => exact cG (Kd.R_reads' HO_394000.out).2.2); (case side2 => exact (Kd.R_reads' HO_394000.out).2.1); (case side3 => exact cG (Kd.R_reads' HO_394001.out).2.2); (case side4 => exact (Kd.R_reads' HO_394001.out).2.1); rintro e w114 ⟨rfl, hb⟩; refine ⟨_, rfl, ?_⟩; replace HO_377000 := rB HO_377000 hb; replace HO_377001 := rB HO_377001 hb; replace HO_394000 := rB HO_394000 hb; replace HO_394001 := rB HO_394001 hb; replace HO_401000 := rB HO_401000 hb; replace HO_401001 := rB HO_401001 hb; replace BK376 := bB BK376 hb; replace BK393 := bB BK393 hb; replace BK400 := bB BK400 hb; replace HB := ak (below_step (lT HB (gC GE376 (gC GE393 (gC GE400 gN)))) hb); (try clear hb); (try clear hb2); (try clear hk); (try clear hi); obtain ⟨hcz115_0, hcz115_1, hfz115_0, hfz115_1⟩ := bC2 BK400) | ((with_reducible refine gate_callee (f := 15) rfl ?_); refine goesL_ (some 77) rfl rfl Try.func15 (by kernel_rfl) rfl #[.agg #[.slice Ao42 t394.length co42, .slice Ao46 t397.length co46], .int .i64 x10_1] rfl (by (try simp only [List.map_toArray, List.map_cons, List.map_nil]); first | done | rfl | (simp only [List.length_drop, List.length_take]; rfl)) ?_; (with_reducible refine (impl_ReadSector.calls k1 _ _ t394 _ _ t397 x10_1 t408 true _ ?side1 ?side2 ?side3 ?side4 A50.out).mono ?_); (case side1 => exact cG (Kd.R_reads' HO_401000.out).2.2); (case side2 => exact (Kd.R_reads' HO_401000.out).2.1); (case side3 => exact cG (Kd.R_reads' HO_401001.out).2.2); (case side4 => exact (Kd.R_reads' HO_401001.out).2.1); rintro e w116 ⟨rfl, hb⟩; refine ⟨_, rfl, ?_⟩; replace HO_377000 := rB HO_377000 hb; replace HO_377001 := rB HO_377001 hb; replace HO_394000 := rB HO_394000 hb; replace HO_394001 := rB HO_394001 hb; replace HO_401000 := rB HO_401000 hb; replace HO_401001 := rB HO_401001 hb; replace BK376 := bB BK376 hb; replace BK393 := bB BK393 hb; replace BK400 := bB BK400 hb; replace HB := ak (below_step (lT HB (gC GE376 (gC GE393 (gC GE400 gN)))) hb); (try clear hb); (try clear hb2); (try clear hk); (try clear hi)))
                     go_ret
                     exact ⟨by first | rfl | (simp [errW_none, errW_some] <;> rfl) | (simp only [← hji8]; first | rfl | (simp [errW_none, errW_some] <;> rfl)) | (simp [*, errW_none, errW_some] <;> rfl), by exact lT HB (gC GE376 (gC GE393 (gC GE400 gN)))⟩
                   ·rw [if_neg c97] at H
                    have c97b0 : (t404.toList == t406.toList) = false := beq_eq_false_iff_ne.mpr c97
                    have c97b1 : (t404.toList != t406.toList) = true := bne_iff_ne.mpr c97
                    obtain rfl := Option.some.inj H
                    have hnb117 := NB376_393.out
                    have hnc117 := NB393_376.out
                    have hnb118 := NB376_400.out
                    have hnc118 := NB400_376.out
                    have hcz119_0 : wr.cell? ⟨gb376, 0, none⟩ = some (.slice (some ad381) t370.length co22) := (blk_cell BK376.out 0).trans rfl
                    have hcz119_1 : wr.cell? ⟨gb376, 1, none⟩ = some (.slice Ao24 t373.length co24) := (blk_cell BK376.out 1).trans rfl
                    have hfz119_0 := blk_frozen BK376.out 0
                    have hfz119_1 := blk_frozen BK376.out 1
                    go_wp2_with (first | ((with_reducible refine gate_callee (f := 14) rfl ?_); refine goesL_ (some 65) rfl rfl Try.func14 (by kernel_rfl) rfl #[.agg #[.slice (some ad381) t370.length co22, .slice Ao24 t373.length co24], .int .i64 x10_1] rfl (by (try simp only [List.map_toArray, List.map_cons, List.map_nil]); first | done | rfl | (simp only [List.length_drop, List.length_take]; rfl)) ?_; (with_reducible refine (spec_ReadSector.calls k1 _ _ t370 _ _ t373 x10_1 t404 t405 _ ?side1 ?side2 ?side3 ?side4 A48.out).mono ?_); (case side1 => exact cG (Kd.R_reads' HO_377000.out).2.2); (case side2 => exact (Kd.R_reads' HO_377000.out).2.1); (case side3 => exact cG (Kd.R_reads' HO_377001.out).2.2); (case side4 => exact (Kd.R_reads' HO_377001.out).2.1); rintro e w120 ⟨rfl, hb⟩; refine ⟨_, rfl, ?_⟩; replace HO_377000 := rB HO_377000 hb; replace HO_377001 := rB HO_377001 hb; replace HO_394000 := rB HO_394000 hb; replace HO_394001 := rB HO_394001 hb; replace HO_401000 := rB HO_401000 hb; replace HO_401001 := rB HO_401001 hb; replace BK376 := bB BK376 hb; replace BK393 := bB BK393 hb; replace BK400 := bB BK400 hb; replace HB := ak (below_step (lT HB (gC GE376 (gC GE393 (gC GE400 gN)))) hb); (try clear hb); (try clear hb2); (try clear hk); (try clear hi); have hnb121 := NB393_400.out; have hnc121 := NB400_393.out; obtain ⟨hcz122_0, hcz122_1, hfz122_0, hfz122_1⟩ := bC2 BK393) | ((with_reducible refine gate_callee (f := 15) rfl ?_); refine goesL_ (some 71) rfl rfl Try.func15 (by kernel_rfl) rfl #[.agg #[.slice Ao36 t386.length co36, .slice Ao39 t389.length co39], .int .i64 x10_1] rfl (by (try simp only [List.map_toArray, List.map_cons, List.map_nil]); first | done | rfl | (simp only [List.length_drop, List.length_take]; rfl)) ?_; (with_reducible refine (impl_ReadSector.calls k1 _ _ t386 _ _ t389 x10_1 t406 true _ ?side1 ?side2 ?side3 ?side4 A49.out).mono ?_); (case side1 => exact cG (Kd.R_reads' HO_394000.out).2.2); (case side2 => exact (Kd.R_reads' HO_394000.out).2.1); (case side3 => exact cG (Kd.R_reads' HO_394001.out).2.2); (case side4 => exact (Kd.R_reads' HO_394001.out).2.1); rintro e w123 ⟨rfl, hb⟩; refine ⟨_, rfl, ?_⟩; replace HO_377000 := rB HO_377000 hb; replace HO_377001 := rB HO_377001 hb; replace HO_394000 := rB HO_394000 hb; replace HO_394001 := rB HO_394001 hb; replace HO_401000 := rB HO_401000 hb; replace HO_401001 := rB HO_401001 hb; replace BK376 := bB BK376 hb; replace BK393 := bB BK393 hb; replace BK400 := bB BK400 hb; replace HB := ak (below_step (lT HB (gC GE376 (gC GE393 (gC GE400 gN)))) hb); (try clear hb); (try clear hb2); (try clear hk); (try clear hi); obtain ⟨hcz124_0, hcz124_1, hfz124_0, hfz124_1⟩ := bC2 BK400) | ((with_reducible refine gate_callee (f := 15) rfl ?_); refine goesL_ (some 77) rfl rfl Try.func15 (by kernel_rfl) rfl #[.agg #[.slice Ao42 t394.length co42, .slice Ao46 t397.length co46], .int .i64 x10_1] rfl (by (try simp only [List.map_toArray, List.map_cons, List.map_nil]); first | done | rfl | (simp only [List.length_drop, List.length_take]; rfl)) ?_; (with_reducible refine (impl_ReadSector.calls k1 _ _ t394 _ _ t397 x10_1 t408 true _ ?side1 ?side2 ?side3 ?side4 A50.out).mono ?_); (case side1 => exact cG (Kd.R_reads' HO_401000.out).2.2); (case side2 => exact (Kd.R_reads' HO_401000.out).2.1); (case side3 => exact cG (Kd.R_reads' HO_401001.out).2.2); (case side4 => exact (Kd.R_reads' HO_401001.out).2.1); rintro e w125 ⟨rfl, hb⟩; refine ⟨_, rfl, ?_⟩; replace HO_377000 := rB HO_377000 hb; replace HO_377001 := rB HO_377001 hb; replace HO_394000 := rB HO_394000 hb; replace HO_394001 := rB HO_394001 hb; replace HO_401000 := rB HO_401000 hb; replace HO_401001 := rB HO_401001 hb; replace BK376 := bB BK376 hb; replace BK393 := bB BK393 hb; replace BK400 := bB BK400 hb; replace HB := ak (below_step (lT HB (gC GE376 (gC GE393 (gC GE400 gN)))) hb); (try clear hb); (try clear hb2); (try clear hk); (try clear hi)))
                    go_ret
                    exact ⟨by first | rfl | (simp [errW_none, errW_some] <;> rfl) | (simp only [← hji8]; first | rfl | (simp [errW_none, errW_some] <;> rfl)) | (simp [*, errW_none, errW_some] <;> rfl), by exact lT HB (gC GE376 (gC GE393 (gC GE400 gN)))⟩
                 ·replace c52 := Bool.eq_false_iff.mpr c52
                  subst c52
                  have H1 : (some false) = some r := by rw [if_neg (show ¬ (false = true) by decide)] at H; exact H
                  clear H
                  have H := H1
                  clear H1
                  obtain rfl := Option.some.inj H
                  have hnb126 := NB376_393.out
                  have hnc126 := NB393_376.out
                  have hnb127 := NB376_400.out
                  have hnc127 := NB400_376.out
                  have hcz128_0 : wr.cell? ⟨gb376, 0, none⟩ = some (.slice (some ad381) t370.length co22) := (blk_cell BK376.out 0).trans rfl
                  have hcz128_1 : wr.cell? ⟨gb376, 1, none⟩ = some (.slice Ao24 t373.length co24) := (blk_cell BK376.out 1).trans rfl
                  have hfz128_0 := blk_frozen BK376.out 0
                  have hfz128_1 := blk_frozen BK376.out 1
                  go_wp2_with (first | ((with_reducible refine gate_callee (f := 14) rfl ?_); refine goesL_ (some 65) rfl rfl Try.func14 (by kernel_rfl) rfl #[.agg #[.slice (some ad381) t370.length co22, .slice Ao24 t373.length co24], .int .i64 x10_1] rfl (by (try simp only [List.map_toArray, List.map_cons, List.map_nil]); first | done | rfl | (simp only [List.length_drop, List.length_take]; rfl)) ?_; (with_reducible refine (spec_ReadSector.calls k1 _ _ t370 _ _ t373 x10_1 t404 t405 _ ?side1 ?side2 ?side3 ?side4 A48.out).mono ?_); (case side1 => exact cG (Kd.R_reads' HO_377000.out).2.2); (case side2 => exact (Kd.R_reads' HO_377000.out).2.1); (case side3 => exact cG (Kd.R_reads' HO_377001.out).2.2); (case side4 => exact (Kd.R_reads' HO_377001.out).2.1); rintro e w129 ⟨rfl, hb⟩; refine ⟨_, rfl, ?_⟩; replace HO_377000 := rB HO_377000 hb; replace HO_377001 := rB HO_377001 hb; replace HO_394000 := rB HO_394000 hb; replace HO_394001 := rB HO_394001 hb; replace HO_401000 := rB HO_401000 hb; replace HO_401001 := rB HO_401001 hb; replace BK376 := bB BK376 hb; replace BK393 := bB BK393 hb; replace BK400 := bB BK400 hb; replace HB := ak (below_step (lT HB (gC GE376 (gC GE393 (gC GE400 gN)))) hb); (try clear hb); (try clear hb2); (try clear hk); (try clear hi); have hnb130 := NB393_400.out; have hnc130 := NB400_393.out; obtain ⟨hcz131_0, hcz131_1, hfz131_0, hfz131_1⟩ := bC2 BK393) | ((with_reducible refine gate_callee (f := 15) rfl ?_); refine goesL_ (some 71) rfl rfl Try.func15 (by kernel_rfl) rfl #[.agg #[.slice Ao36 t386.length co36, .slice Ao39 t389.length co39], .int .i64 x10_1] rfl (by (try simp only [List.map_toArray, List.map_cons, List.map_nil]); first | done | rfl | (simp only [List.length_drop, List.length_take]; rfl)) ?_; (with_reducible refine (impl_ReadSector.calls k1 _ _ t386 _ _ t389 x10_1 t406 true _ ?side1 ?side2 ?side3 ?side4 A49.out).mono ?_); (case side1 => exact cG (Kd.R_reads' HO_394000.out).2.2); (case side2 => exact (Kd.R_reads' HO_394000.out).2.1); (case side3 => exact cG (Kd.R_reads' HO_394001.out).2.2); (case side4 => exact (Kd.R_reads' HO_394001.out).2.1); rintro e w132 ⟨rfl, hb⟩; refine ⟨_, rfl, ?_⟩; replace HO_377000 := rB HO_377000 hb; replace HO_377001 := rB HO_377001 hb; replace HO_394000 := rB HO_394000 hb; replace HO_394001 := rB HO_394001 hb; replace HO_401000 := rB HO_401000 hb; replace HO_401001 := rB HO_401001 hb; replace BK376 := bB BK376 hb; replace BK393 := bB BK393 hb; replace BK400 := bB BK400 hb; replace HB := ak (below_step (lT HB (gC GE376 (gC GE393 (gC GE400 gN)))) hb); (try clear hb); (try clear hb2); (try clear hk); (try clear hi); obtain ⟨hcz133_0, hcz133_1, hfz133_0, hfz133_1⟩ := bC2 BK400) | ((with_reducible refine gate_callee (f := 15) rfl ?_); refine goesL_ (some 77) rfl rfl Try.func15 (by kernel_rfl) rfl #[.agg #[.slice Ao42 t394.length co42, .slice Ao46 t397.length co46], .int .i64 x10_1] rfl (by (try simp only [List.map_toArray, List.map_cons, List.map_nil]); first | done | rfl | (simp only [List.length_drop, List.length_take]; rfl)) ?_; (with_reducible refine (impl_ReadSector.calls k1 _ _ t394 _ _ t397 x10_1 t408 false _ ?side1 ?side2 ?side3 ?side4 A50.out).mono ?_); (case side1 => exact cG (Kd.R_reads' HO_401000.out).2.2); (case side2 => exact (Kd.R_reads' HO_401000.out).2.1); (case side3 => exact cG (Kd.R_reads' HO_401001.out).2.2); (case side4 => exact (Kd.R_reads' HO_401001.out).2.1); rintro e w134 ⟨rfl, hb⟩; refine ⟨_, rfl, ?_⟩; replace HO_377000 := rB HO_377000 hb; replace HO_377001 := rB HO_377001 hb; replace HO_394000 := rB HO_394000 hb; replace HO_394001 := rB HO_394001 hb; replace HO_401000 := rB HO_401000 hb; replace HO_401001 := rB HO_401001 hb; replace BK376 := bB BK376 hb; replace BK393 := bB BK393 hb; replace BK400 := bB BK400 hb; replace HB := ak (below_step (lT HB (gC GE376 (gC GE393 (gC GE400 gN)))) hb); (try clear hb); (try clear hb2); (try clear hk); (try clear hi)))
                  go_ret
                  exact ⟨by first | rfl | (simp [errW_none, errW_some] <;> rfl) | (simp only [← hji8]; first | rfl | (simp [errW_none, errW_some] <;> rfl)) | (simp [*, errW_none, errW_some] <;> rfl), by exact lT HB (gC GE376 (gC GE393 (gC GE400 gN)))⟩
                ·replace c51 := Bool.eq_false_iff.mpr c51
                 subst c51
                 have H1 : (some false) = some r := by rw [if_neg (show ¬ (false = true) by decide)] at H; exact H
                 clear H
                 have H := H1
                 clear H1
                 obtain rfl := Option.some.inj H
                 have hnb135 := NB376_393.out
                 have hnc135 := NB393_376.out
                 have hnb136 := NB376_400.out
                 have hnc136 := NB400_376.out
                 have hcz137_0 : wr.cell? ⟨gb376, 0, none⟩ = some (.slice (some ad381) t370.length co22) := (blk_cell BK376.out 0).trans rfl
                 have hcz137_1 : wr.cell? ⟨gb376, 1, none⟩ = some (.slice Ao24 t373.length co24) := (blk_cell BK376.out 1).trans rfl
                 have hfz137_0 := blk_frozen BK376.out 0
                 have hfz137_1 := blk_frozen BK376.out 1
                 go_wp2_with (first | ((with_reducible refine gate_callee (f := 14) rfl ?_); refine goesL_ (some 65) rfl rfl Try.func14 (by kernel_rfl) rfl #[.agg #[.slice (some ad381) t370.length co22, .slice Ao24 t373.length co24], .int .i64 x10_1] rfl (by (try simp only [List.map_toArray, List.map_cons, List.map_nil]); first | done | rfl | (simp only [List.length_drop, List.length_take]; rfl)) ?_; (with_reducible refine (spec_ReadSector.calls k1 _ _ t370 _ _ t373 x10_1 t404 t405 _ ?side1 ?side2 ?side3 ?side4 A48.out).mono ?_); (case side1 => exact cG (Kd.R_reads' HO_377000.out).2.2); (case side2 => exact (Kd.R_reads' HO_377000.out).2.1); (case side3 => exact cG (Kd.R_reads' HO_377001.out).2.2); (case side4 => exact (Kd.R_reads' HO_377001.out).2.1); rintro e w138 ⟨rfl, hb⟩; refine ⟨_, rfl, ?_⟩; replace HO_377000 := rB HO_377000 hb; replace HO_377001 := rB HO_377001 hb; replace HO_394000 := rB HO_394000 hb; replace HO_394001 := rB HO_394001 hb; replace HO_401000 := rB HO_401000 hb; replace HO_401001 := rB HO_401001 hb; replace BK376 := bB BK376 hb; replace BK393 := bB BK393 hb; replace BK400 := bB BK400 hb; replace HB := ak (below_step (lT HB (gC GE376 (gC GE393 (gC GE400 gN)))) hb); (try clear hb); (try clear hb2); (try clear hk); (try clear hi); have hnb139 := NB393_400.out; have hnc139 := NB400_393.out; obtain ⟨hcz140_0, hcz140_1, hfz140_0, hfz140_1⟩ := bC2 BK393) | ((with_reducible refine gate_callee (f := 15) rfl ?_); refine goesL_ (some 71) rfl rfl Try.func15 (by kernel_rfl) rfl #[.agg #[.slice Ao36 t386.length co36, .slice Ao39 t389.length co39], .int .i64 x10_1] rfl (by (try simp only [List.map_toArray, List.map_cons, List.map_nil]); first | done | rfl | (simp only [List.length_drop, List.length_take]; rfl)) ?_; (with_reducible refine (impl_ReadSector.calls k1 _ _ t386 _ _ t389 x10_1 t406 false _ ?side1 ?side2 ?side3 ?side4 A49.out).mono ?_); (case side1 => exact cG (Kd.R_reads' HO_394000.out).2.2); (case side2 => exact (Kd.R_reads' HO_394000.out).2.1); (case side3 => exact cG (Kd.R_reads' HO_394001.out).2.2); (case side4 => exact (Kd.R_reads' HO_394001.out).2.1); rintro e w141 ⟨rfl, hb⟩; refine ⟨_, rfl, ?_⟩; replace HO_377000 := rB HO_377000 hb; replace HO_377001 := rB HO_377001 hb; replace HO_394000 := rB HO_394000 hb; replace HO_394001 := rB HO_394001 hb; replace HO_401000 := rB HO_401000 hb; replace HO_401001 := rB HO_401001 hb; replace BK376 := bB BK376 hb; replace BK393 := bB BK393 hb; replace BK400 := bB BK400 hb; replace HB := ak (below_step (lT HB (gC GE376 (gC GE393 (gC GE400 gN)))) hb); (try clear hb); (try clear hb2); (try clear hk); (try clear hi); obtain ⟨hcz142_0, hcz142_1, hfz142_0, hfz142_1⟩ := bC2 BK400) | ((with_reducible refine gate_callee (f := 15) rfl ?_); refine goesL_ (some 77) rfl rfl Try.func15 (by kernel_rfl) rfl #[.agg #[.slice Ao42 t394.length co42, .slice Ao46 t397.length co46], .int .i64 x10_1] rfl (by (try simp only [List.map_toArray, List.map_cons, List.map_nil]); first | done | rfl | (simp only [List.length_drop, List.length_take]; rfl)) ?_; (with_reducible refine (impl_ReadSector.calls k1 _ _ t394 _ _ t397 x10_1 t408 t409 _ ?side1 ?side2 ?side3 ?side4 A50.out).mono ?_); (case side1 => exact cG (Kd.R_reads' HO_401000.out).2.2); (case side2 => exact (Kd.R_reads' HO_401000.out).2.1); (case side3 => exact cG (Kd.R_reads' HO_401001.out).2.2); (case side4 => exact (Kd.R_reads' HO_401001.out).2.1); rintro e w143 ⟨rfl, hb⟩; refine ⟨_, rfl, ?_⟩; replace HO_377000 := rB HO_377000 hb; replace HO_377001 := rB HO_377001 hb; replace HO_394000 := rB HO_394000 hb; replace HO_394001 := rB HO_394001 hb; replace HO_401000 := rB HO_401000 hb; replace HO_401001 := rB HO_401001 hb; replace BK376 := bB BK376 hb; replace BK393 := bB BK393 hb; replace BK400 := bB BK400 hb; replace HB := ak (below_step (lT HB (gC GE376 (gC GE393 (gC GE400 gN)))) hb); (try clear hb); (try clear hb2); (try clear hk); (try clear hi)))
                 go_ret
                 exact ⟨by first | rfl | (simp [errW_none, errW_some] <;> rfl) | (simp only [← hji8]; first | rfl | (simp [errW_none, errW_some] <;> rfl)) | (simp [*, errW_none, errW_some] <;> rfl), by exact lT HB (gC GE376 (gC GE393 (gC GE400 gN)))⟩
               ·rw [if_neg c47] at H
                have c47b0 : decide (x10_1 < (t370.length : Int)) = false := decide_eq_false c47
                clear c47
                by_cases c144 : t392 = true
                ·subst c144
                 have H1 : (if (t397.length : Int) = 0 then ((impl_DiskOk.f t394 t397).bind fun t401 => (if t401 = true then (if 0 ≤ ji8 then (if ji8 < (t386.length : Int) then (if ji8 < (t370.length : Int) then (some ((rdOf ByteArray.empty t386 ji8).toList == (rdOf ByteArray.empty t370 ji8).toList)) else (none)) else (none)) else (none)) else (some false))) else (some false)) = some r := by rw [if_pos rfl] at H; exact H
                 clear H
                 have H := H1
                 clear H1
                 by_cases c145 : (t397.length : Int) = 0
                 ·rw [if_pos c145] at H
                  have c145b0 : ((t397.length : Int) == 0) = true := beq_iff_eq.mpr c145
                  have c145b1 : ((t397.length : Int) != 0) = false := bne_eq_false_iff_eq.mpr c145
                  clear c145
                  replace H := Option.bind_eq_some_iff.mp H
                  obtain ⟨t401, A1460, H⟩ := H
                  replace H : (if t401 = true then (if 0 ≤ ji8 then (if ji8 < (t386.length : Int) then (if ji8 < (t370.length : Int) then (some ((rdOf ByteArray.empty t386 ji8).toList == (rdOf ByteArray.empty t370 ji8).toList)) else (none)) else (none)) else (none)) else (some false)) = some r := H
                  have A146 := Aside0.mk A1460
                  clear A1460
                  by_cases c147 : t401 = true
                  ·subst c147
                   have H1 : (if 0 ≤ ji8 then (if ji8 < (t386.length : Int) then (if ji8 < (t370.length : Int) then (some ((rdOf ByteArray.empty t386 ji8).toList == (rdOf ByteArray.empty t370 ji8).toList)) else (none)) else (none)) else (none)) = some r := by rw [if_pos rfl] at H; exact H
                   clear H
                   have H := H1
                   clear H1
                   by_cases c148 : 0 ≤ ji8
                   ·rw [if_pos c148] at H
                    have c148b0 : decide (0 ≤ ji8) = true := decide_eq_true c148
                    clear c148
                    by_cases c149 : ji8 < (t386.length : Int)
                    ·rw [if_pos c149] at H
                     have c149b0 : decide (ji8 < (t386.length : Int)) = true := decide_eq_true c149
                     clear c149
                     by_cases c150 : ji8 < (t370.length : Int)
                     ·rw [if_pos c150] at H
                      have c150b0 : decide (ji8 < (t370.length : Int)) = true := decide_eq_true c150
                      clear c150
                      obtain rfl := Option.some.inj H
                      have hnb151 := NB376_393.out
                      have hnc151 := NB393_376.out
                      have hnb152 := NB376_400.out
                      have hnc152 := NB400_376.out
                      have hcz153_0 : wr.cell? ⟨gb376, 0, none⟩ = some (.slice (some ad381) t370.length co22) := (blk_cell BK376.out 0).trans rfl
                      have hcz153_1 : wr.cell? ⟨gb376, 1, none⟩ = some (.slice Ao24 t373.length co24) := (blk_cell BK376.out 1).trans rfl
                      have hfz153_0 := blk_frozen BK376.out 0
                      have hfz153_1 := blk_frozen BK376.out 1
                      try go_wp2
                      replace HO_377000 := ak (Kd.R_drew HO_377000.out)
                      replace HO_377001 := ak (Kd.R_drew HO_377001.out)
                      replace HO_394000 := ak (Kd.R_drew HO_394000.out)
                      replace HO_394001 := ak (Kd.R_drew HO_394001.out)
                      replace HO_401000 := ak (Kd.R_drew HO_401000.out)
                      replace HO_401001 := ak (Kd.R_drew HO_401001.out)
                      replace BK376 := ak (blk_drew BK376.out)
                      replace BK393 := ak (blk_drew BK393.out)
                      replace BK400 := ak (blk_drew BK400.out)
                      replace HB := ak (below_drew1 HB.out)
                      have p402 : 0 ≤ (ji8 : Int) := of_decide_eq_true (by first | (with_reducible assumption) | assumption)
                      have q402 : ji8 < (t386.length : Int) := of_decide_eq_true (by first | (with_reducible assumption) | assumption)
                      obtain ⟨ad402, e402, hx402_0⟩ := Kd.at_string (Kd.R_reads' HO_394000.out).2.2 ji8 p402 q402
                      cases e402
                      replace p402 := eq_true p402
                      replace q402 := eq_true q402
                      have p403 : 0 ≤ (ji8 : Int) := of_decide_eq_true (by first | (with_reducible assumption) | assumption)
                      have q403 : ji8 < (t370.length : Int) := of_decide_eq_true (by first | (with_reducible assumption) | assumption)
                      obtain ⟨ad403, e403, hx403_0⟩ := Kd.at_string (Kd.R_reads' HO_377000.out).2.2 ji8 p403 q403
                      obtain rfl : ad381 = ad403 := (by injection e403)
                      replace p403 := eq_true p403
                      replace q403 := eq_true q403
                      refine start_ (n := 25) (S := fun w' => w'.cell? ⟨gb400, 0, none⟩ = some (.slice Ao42 t394.length co42) ∧ w'.cell? ⟨gb400, 1, none⟩ = some (.slice Ao46 t397.length co46) ∧ w'.cell? ⟨gb393, 0, none⟩ = some (.slice (some ad402) t386.length co36) ∧ w'.cell? ⟨gb393, 1, none⟩ = some (.slice Ao39 t389.length co39) ∧ w'.cell? ⟨gb376, 0, none⟩ = some (.slice (some ad381) t370.length co22) ∧ w'.cell? ⟨gb376, 1, none⟩ = some (.slice Ao24 t373.length co24) ∧ w'.cell? (ad402.add (ji8).toNat) = some (.string (rdOf ByteArray.empty t386 ji8)) ∧ w'.cell? (ad381.add (ji8).toNat) = some (.string (rdOf ByteArray.empty t370 ji8))) (ds := []) #[f_,f_,f_,f_,f_,f_,f_,f_,f_,f_,f_,f_,f_,f_,f_,f_,f_,f_,f_,f_,f_,f_,f_,f_,f_] (by kernel_rfl) rfl rfl ⟨(blk_cell BK400.out 0).trans rfl, (blk_cell BK400.out 1).trans rfl, (blk_cell BK393.out 0).trans rfl, (blk_cell BK393.out 1).trans rfl, (blk_cell BK376.out 0).trans rfl, (blk_cell BK376.out 1).trans rfl, hx402_0, hx403_0⟩ (fun hHeld => ?_); refine with_tabW laws_FnSectors.tab18 laws_FnSectors.bits18 (fun HT_ HW_ => ?_)
                      generalize wr.drew = w154 at HO_377000 HO_377001 HO_394000 HO_394001 HO_401000 HO_401001 BK376 BK393 BK400 HB hx402_0 hx403_0 hHeld ⊢
                      refine pure_ (i := 0) (N := some 125) (v := ?_) (a' := ?_) #[t_,f_,f_,f_,f_,f_,f_,f_,f_,f_,f_,f_,f_,f_,f_,f_,f_,f_,f_,f_,f_,f_,f_,f_,f_] rfl rfl (any_of HT_.out (by kernel_rfl)) (fun _ _ _ h => h) (Or.inl ⟨by rfl, ?_⟩) ?_ ?_
                      rotate_left
                      ·intro w'
                       go_simp
                       with_reducible rfl
                      rotate_left
                      ·simp only [Act.put, List.setIfInBounds_toArray, List.set_cons_zero, List.set_cons_succ, i64_w, i32_w]
                       rfl
                      refine pure_ (i := 1) (N := some 126) (v := ?_) (a' := ?_) #[t_,t_,f_,f_,f_,f_,f_,f_,f_,f_,f_,f_,f_,f_,f_,f_,f_,f_,f_,f_,f_,f_,f_,f_,f_] rfl rfl (any_of HT_.out (by kernel_rfl)) (fun _ _ _ h => h) (Or.inl ⟨by rfl, ?_⟩) ?_ ?_
                      rotate_left
                      ·intro w'
                       go_simp
                       with_reducible rfl
                      rotate_left
                      ·simp only [Act.put, List.setIfInBounds_toArray, List.set_cons_zero, List.set_cons_succ, i64_w, i32_w]
                       rfl
                      refine pure_ (i := 2) (N := some 127) (v := ?_) (a' := ?_) #[t_,t_,t_,f_,f_,f_,f_,f_,f_,f_,f_,f_,f_,f_,f_,f_,f_,f_,f_,f_,f_,f_,f_,f_,f_] rfl rfl (any_of HT_.out (by kernel_rfl)) (fun _ _ _ h => h) (Or.inl ⟨by rfl, ?_⟩) ?_ ?_
                      rotate_left
                      ·intro w'
                       go_simp
                       with_reducible rfl
                      rotate_left
                      ·simp only [Act.put, List.setIfInBounds_toArray, List.set_cons_zero, List.set_cons_succ, i64_w, i32_w]
                       rfl
                      refine take_ (i := 3) (N := some 128) (v := ?_) (a' := ?_) #[t_,t_,t_,t_,f_,f_,f_,f_,f_,f_,f_,f_,f_,f_,f_,f_,f_,f_,f_,f_,f_,f_,f_,f_,f_] rfl rfl (take_ofW HT_.out HW_.out (by kernel_rfl)) (fun _ _ _ h => h) (Or.inl ⟨by rfl, ?_⟩) hHeld ?_ ?_
                      rotate_left
                      ·rintro w' ⟨s0, s1, s2, s3, s4, s5, s6, s7⟩
                       go_simp
                       with_reducible rfl
                      rotate_left
                      ·simp only [Act.put, List.setIfInBounds_toArray, List.set_cons_zero, List.set_cons_succ, i64_w, i32_w]
                       rfl
                      refine pure_ (i := 4) (N := some 129) (v := ?_) (a' := ?_) #[t_,t_,t_,t_,t_,f_,f_,f_,f_,f_,f_,f_,f_,f_,f_,f_,f_,f_,f_,f_,f_,f_,f_,f_,f_] rfl rfl (any_of HT_.out (by kernel_rfl)) (fun _ _ _ h => h) (Or.inl ⟨by rfl, ?_⟩) ?_ ?_
                      rotate_left
                      ·intro w'
                       go_simp
                       with_reducible rfl
                      rotate_left
                      ·simp only [Act.put, List.setIfInBounds_toArray, List.set_cons_zero, List.set_cons_succ, i64_w, i32_w]
                       rfl
                      refine pure_ (i := 5) (N := some 130) (v := ?_) (a' := ?_) #[t_,t_,t_,t_,t_,t_,f_,f_,f_,f_,f_,f_,f_,f_,f_,f_,f_,f_,f_,f_,f_,f_,f_,f_,f_] rfl rfl (any_of HT_.out (by kernel_rfl)) (fun _ _ _ h => h) (Or.inl ⟨by rfl, ?_⟩) ?_ ?_
                      rotate_left
                      ·intro w'
                       go_simp
                       with_reducible rfl
                      rotate_left
                      ·simp only [Act.put, List.setIfInBounds_toArray, List.set_cons_zero, List.set_cons_succ, i64_w, i32_w]
                       rfl
                      refine pure_ (i := 6) (N := some 131) (v := ?_) (a' := ?_) #[t_,t_,t_,t_,t_,t_,t_,f_,f_,f_,f_,f_,f_,f_,f_,f_,f_,f_,f_,f_,f_,f_,f_,f_,f_] rfl rfl (any_of HT_.out (by kernel_rfl)) (fun _ _ _ h => h) (Or.inl ⟨by rfl, ?_⟩) ?_ ?_
                      rotate_left
                      ·intro w'
                       go_simp
                       with_reducible rfl
                      rotate_left
                      ·simp only [Act.put, List.setIfInBounds_toArray, List.set_cons_zero, List.set_cons_succ, i64_w, i32_w]
                       rfl
                      refine pure_ (i := 7) (N := some 132) (v := ?_) (a' := ?_) #[t_,t_,t_,t_,t_,t_,t_,t_,f_,f_,f_,f_,f_,f_,f_,f_,f_,f_,f_,f_,f_,f_,f_,f_,f_] rfl rfl (any_of HT_.out (by kernel_rfl)) (fun _ _ _ h => h) (Or.inl ⟨by rfl, ?_⟩) ?_ ?_
                      rotate_left
                      ·intro w'
                       go_simp
                       with_reducible rfl
                      rotate_left
                      ·simp only [Act.put, List.setIfInBounds_toArray, List.set_cons_zero, List.set_cons_succ, i64_w, i32_w]
                       rfl
                      refine take_ (i := 8) (N := some 133) (v := ?_) (a' := ?_) #[t_,t_,t_,t_,t_,t_,t_,t_,t_,f_,f_,f_,f_,f_,f_,f_,f_,f_,f_,f_,f_,f_,f_,f_,f_] rfl rfl (take_ofW HT_.out HW_.out (by kernel_rfl)) (fun _ _ _ h => h) (Or.inl ⟨by rfl, ?_⟩) hHeld ?_ ?_
                      rotate_left
                      ·rintro w' ⟨s0, s1, s2, s3, s4, s5, s6, s7⟩
                       go_simp
                       with_reducible rfl
                      rotate_left
                      ·simp only [Act.put, List.setIfInBounds_toArray, List.set_cons_zero, List.set_cons_succ, i64_w, i32_w]
                       rfl
                      refine one_ (i := 9) (N := some 134) #[t_,t_,t_,t_,t_,t_,t_,t_,t_,t_,f_,f_,f_,f_,f_,f_,f_,f_,f_,f_,f_,f_,f_,f_,f_] rfl rfl (one_of HT_.out (by kernel_rfl)) (by decide) (fun K hK => ?_)
                      refine goes_ Try.func16 (by kernel_rfl) rfl #[.agg #[.slice Ao42 t394.length co42, .slice Ao46 t397.length co46]] (by rfl) rfl rfl (by (try simp only [List.map_toArray, List.map_cons, List.map_nil]); first | done | rfl | (simp only [List.length_drop, List.length_take]; rfl)) ?_
                      with_reducible refine (impl_DiskOk.calls _ _ t394 _ _ t397 true _ ?side1 ?side2 ?side3 ?side4 A146.out).mono ?_
                      (case side1 => exact cG (Kd.R_reads' HO_401000.out).2.2)
                      (case side2 => exact (Kd.R_reads' HO_401000.out).2.1)
                      (case side3 => exact cG (Kd.R_reads' HO_401001.out).2.2)
                      (case side4 => exact (Kd.R_reads' HO_401001.out).2.1)
                      rintro e w155 ⟨rfl, hb⟩
                      have HS6_ := (hb.cell (World.block_lt_of_cell? _ _ (hHeld.2.2.2.2.2.2.1))).trans (hHeld.2.2.2.2.2.2.1)
                      have HS7_ := (hb.cell (World.block_lt_of_cell? _ _ (hHeld.2.2.2.2.2.2.2))).trans (hHeld.2.2.2.2.2.2.2)
                      refine ⟨_, rfl, ?_⟩
                      replace HO_377000 := rB HO_377000 hb
                      replace HO_377001 := rB HO_377001 hb
                      replace HO_394000 := rB HO_394000 hb
                      replace HO_394001 := rB HO_394001 hb
                      replace HO_401000 := rB HO_401000 hb
                      replace HO_401001 := rB HO_401001 hb
                      replace BK376 := bB BK376 hb
                      replace BK393 := bB BK393 hb
                      replace BK400 := bB BK400 hb
                      replace HB := ak (below_step (lT HB (gC GE376 (gC GE393 (gC GE400 gN)))) hb)
                      (try clear hb)
                      (try clear hb2)
                      (try clear hk)
                      (try clear hi)
                      refine hK.out _ _ ⟨(blk_cell BK400.out 0).trans rfl, (blk_cell BK400.out 1).trans rfl, (blk_cell BK393.out 0).trans rfl, (blk_cell BK393.out 1).trans rfl, (blk_cell BK376.out 0).trans rfl, (blk_cell BK376.out 1).trans rfl, HS6_, HS7_⟩ (fun hHeld => ?_)
                      clear hK K
                      refine norm_ (a' := ?_) ?_ ?_
                      rotate_left
                      ·show Act.put _ (some 134) _ = _
                       simp only [Act.put, List.setIfInBounds_toArray, List.set_cons_zero, List.set_cons_succ, i64_w, i32_w]
                       rfl
                      refine pure_ (i := 10) (N := some 135) (v := ?_) (a' := ?_) #[t_,t_,t_,t_,t_,t_,t_,t_,t_,t_,t_,f_,f_,f_,f_,f_,f_,f_,f_,f_,f_,f_,f_,f_,f_] rfl rfl (any_of HT_.out (by kernel_rfl)) (fun _ _ _ h => h) (Or.inl ⟨by rfl, ?_⟩) ?_ ?_
                      rotate_left
                      ·intro w'
                       go_simp
                       with_reducible rfl
                      rotate_left
                      ·simp only [Act.put, List.setIfInBounds_toArray, List.set_cons_zero, List.set_cons_succ, i64_w, i32_w]
                       rfl
                      refine pure_ (i := 11) (N := some 136) (v := ?_) (a' := ?_) #[t_,t_,t_,t_,t_,t_,t_,t_,t_,t_,t_,t_,f_,f_,f_,f_,f_,f_,f_,f_,f_,f_,f_,f_,f_] rfl rfl (any_of HT_.out (by kernel_rfl)) (fun _ _ _ h => h) (Or.inl ⟨by rfl, ?_⟩) ?_ ?_
                      rotate_left
                      ·intro w'
                       go_simp
                       with_reducible rfl
                      rotate_left
                      ·simp only [Act.put, List.setIfInBounds_toArray, List.set_cons_zero, List.set_cons_succ, i64_w, i32_w]
                       rfl
                      refine pure_ (i := 12) (N := some 137) (v := ?_) (a' := ?_) #[t_,t_,t_,t_,t_,t_,t_,t_,t_,t_,t_,t_,t_,f_,f_,f_,f_,f_,f_,f_,f_,f_,f_,f_,f_] rfl rfl (any_of HT_.out (by kernel_rfl)) (fun _ _ _ h => h) (Or.inl ⟨by rfl, ?_⟩) ?_ ?_
                      rotate_left
                      ·intro w'
                       go_simp
                       with_reducible rfl
                      rotate_left
                      ·simp only [Act.put, List.setIfInBounds_toArray, List.set_cons_zero, List.set_cons_succ, i64_w, i32_w]
                       rfl
                      refine pure_ (i := 14) (N := some 139) (v := ?_) (a' := ?_) #[t_,t_,t_,t_,t_,t_,t_,t_,t_,t_,t_,t_,t_,f_,t_,f_,f_,f_,f_,f_,f_,f_,f_,f_,f_] rfl rfl (any_of HT_.out (by kernel_rfl)) (fun _ _ _ h => h) (Or.inl ⟨by rfl, ?_⟩) ?_ ?_
                      rotate_left
                      ·intro w'
                       go_simp
                       with_reducible rfl
                      rotate_left
                      ·simp only [Act.put, List.setIfInBounds_toArray, List.set_cons_zero, List.set_cons_succ, i64_w, i32_w]
                       rfl
                      refine pure_ (i := 17) (N := some 142) (v := ?_) (a' := ?_) #[t_,t_,t_,t_,t_,t_,t_,t_,t_,t_,t_,t_,t_,f_,t_,f_,f_,t_,f_,f_,f_,f_,f_,f_,f_] rfl rfl (any_of HT_.out (by kernel_rfl)) (fun _ _ _ h => h) (Or.inl ⟨by rfl, ?_⟩) ?_ ?_
                      rotate_left
                      ·intro w'
                       go_simp
                       with_reducible rfl
                      rotate_left
                      ·simp only [Act.put, List.setIfInBounds_toArray, List.set_cons_zero, List.set_cons_succ, i64_w, i32_w]
                       rfl
                      refine pure_ (i := 19) (N := some 144) (v := ?_) (a' := ?_) #[t_,t_,t_,t_,t_,t_,t_,t_,t_,t_,t_,t_,t_,f_,t_,f_,f_,t_,f_,t_,f_,f_,f_,f_,f_] rfl rfl (any_of HT_.out (by kernel_rfl)) (fun _ _ _ h => h) (Or.inl ⟨by rfl, ?_⟩) ?_ ?_
                      rotate_left
                      ·intro w'
                       go_simp
                       with_reducible rfl
                      rotate_left
                      ·simp only [Act.put, List.setIfInBounds_toArray, List.set_cons_zero, List.set_cons_succ, i64_w, i32_w]
                       rfl
                      refine take_ (i := 13) (N := some 138) (v := ?_) (a' := ?_) #[t_,t_,t_,t_,t_,t_,t_,t_,t_,t_,t_,t_,t_,t_,t_,f_,f_,t_,f_,t_,f_,f_,f_,f_,f_] rfl rfl (take_ofW HT_.out HW_.out (by kernel_rfl)) (fun _ _ _ h => h) (Or.inl ⟨by rfl, ?_⟩) hHeld ?_ ?_
                      rotate_left
                      ·rintro w' ⟨s0, s1, s2, s3, s4, s5, s6, s7⟩
                       go_simp
                       with_reducible rfl
                      rotate_left
                      ·simp only [Act.put, List.setIfInBounds_toArray, List.set_cons_zero, List.set_cons_succ, i64_w, i32_w]
                       rfl
                      refine pure_ (i := 15) (N := some 140) (v := ?_) (a' := ?_) #[t_,t_,t_,t_,t_,t_,t_,t_,t_,t_,t_,t_,t_,t_,t_,t_,f_,t_,f_,t_,f_,f_,f_,f_,f_] rfl rfl (any_of HT_.out (by kernel_rfl)) (fun _ _ _ h => h) (Or.inl ⟨by rfl, ?_⟩) ?_ ?_
                      rotate_left
                      ·intro w'
                       go_simp
                       with_reducible rfl
                      rotate_left
                      ·simp only [Act.put, List.setIfInBounds_toArray, List.set_cons_zero, List.set_cons_succ, i64_w, i32_w]
                       rfl
                      refine take_ (i := 16) (N := some 141) (v := ?_) (a' := ?_) #[t_,t_,t_,t_,t_,t_,t_,t_,t_,t_,t_,t_,t_,t_,t_,t_,t_,t_,f_,t_,f_,f_,f_,f_,f_] rfl rfl (take_ofW HT_.out HW_.out (by kernel_rfl)) (fun _ _ _ h => h) (Or.inl ⟨by rfl, ?_⟩) hHeld ?_ ?_
                      rotate_left
                      ·rintro w' ⟨s0, s1, s2, s3, s4, s5, s6, s7⟩
                       go_simp
                       with_reducible rfl
                      rotate_left
                      ·simp only [Act.put, List.setIfInBounds_toArray, List.set_cons_zero, List.set_cons_succ, i64_w, i32_w]
                       rfl
                      refine take_ (i := 18) (N := some 143) (v := ?_) (a' := ?_) #[t_,t_,t_,t_,t_,t_,t_,t_,t_,t_,t_,t_,t_,t_,t_,t_,t_,t_,t_,t_,f_,f_,f_,f_,f_] rfl rfl (take_ofW HT_.out HW_.out (by kernel_rfl)) (fun _ _ _ h => h) (Or.inl ⟨by rfl, ?_⟩) hHeld ?_ ?_
                      rotate_left
                      ·rintro w' ⟨s0, s1, s2, s3, s4, s5, s6, s7⟩
                       go_simp
                       with_reducible rfl
                      rotate_left
                      ·simp only [Act.put, List.setIfInBounds_toArray, List.set_cons_zero, List.set_cons_succ, i64_w, i32_w]
                       rfl
                      refine pure_ (i := 20) (N := some 145) (v := ?_) (a' := ?_) #[t_,t_,t_,t_,t_,t_,t_,t_,t_,t_,t_,t_,t_,t_,t_,t_,t_,t_,t_,t_,t_,f_,f_,f_,f_] rfl rfl (any_of HT_.out (by kernel_rfl)) (fun _ _ _ h => h) (Or.inl ⟨by rfl, ?_⟩) ?_ ?_
                      rotate_left
                      ·intro w'
                       go_simp
                       with_reducible rfl
                      rotate_left
                      ·simp only [Act.put, List.setIfInBounds_toArray, List.set_cons_zero, List.set_cons_succ, i64_w, i32_w]
                       rfl
                      refine take_ (i := 21) (N := some 146) (v := ?_) (a' := ?_) #[t_,t_,t_,t_,t_,t_,t_,t_,t_,t_,t_,t_,t_,t_,t_,t_,t_,t_,t_,t_,t_,t_,f_,f_,f_] rfl rfl (take_ofW HT_.out HW_.out (by kernel_rfl)) (fun _ _ _ h => h) (Or.inl ⟨by rfl, ?_⟩) hHeld ?_ ?_
                      rotate_left
                      ·rintro w' ⟨s0, s1, s2, s3, s4, s5, s6, s7⟩
                       go_simp
                       with_reducible rfl
                      rotate_left
                      ·simp only [Act.put, List.setIfInBounds_toArray, List.set_cons_zero, List.set_cons_succ, i64_w, i32_w]
                       rfl
                      refine pure_ (i := 22) (N := some 147) (v := ?_) (a' := ?_) #[t_,t_,t_,t_,t_,t_,t_,t_,t_,t_,t_,t_,t_,t_,t_,t_,t_,t_,t_,t_,t_,t_,t_,f_,f_] rfl rfl (any_of HT_.out (by kernel_rfl)) (fun _ _ _ h => h) (Or.inl ⟨by rfl, ?_⟩) ?_ ?_
                      rotate_left
                      ·intro w'
                       go_simp
                       with_reducible rfl
                      rotate_left
                      ·simp only [Act.put, List.setIfInBounds_toArray, List.set_cons_zero, List.set_cons_succ, i64_w, i32_w]
                       rfl
                      refine pure_ (i := 23) (N := some 148) (v := ?_) (a' := ?_) #[t_,t_,t_,t_,t_,t_,t_,t_,t_,t_,t_,t_,t_,t_,t_,t_,t_,t_,t_,t_,t_,t_,t_,t_,f_] rfl rfl (any_of HT_.out (by kernel_rfl)) (fun _ _ _ h => h) (Or.inl ⟨by rfl, ?_⟩) ?_ ?_
                      rotate_left
                      ·intro w'
                       go_simp
                       with_reducible rfl
                      rotate_left
                      ·simp only [Act.put, List.setIfInBounds_toArray, List.set_cons_zero, List.set_cons_succ, i64_w, i32_w]
                       rfl
                      refine pure_ (i := 24) (N := some 2) (v := ?_) (a' := ?_) #[t_,t_,t_,t_,t_,t_,t_,t_,t_,t_,t_,t_,t_,t_,t_,t_,t_,t_,t_,t_,t_,t_,t_,t_,t_] rfl rfl (any_of HT_.out (by kernel_rfl)) (fun _ _ _ h => h) (Or.inl ⟨by rfl, ?_⟩) ?_ ?_
                      rotate_left
                      ·intro w'
                       go_simp
                       with_reducible rfl
                      rotate_left
                      ·simp only [Act.put, List.setIfInBounds_toArray, List.set_cons_zero, List.set_cons_succ, i64_w, i32_w]
                       rfl
                      refine done_ (done_of HT_.out (by kernel_rfl)) ?_
                      try go_wp2
                      go_ret
                      exact ⟨by first | rfl | (simp [errW_none, errW_some] <;> rfl) | (simp only [← hji8]; first | rfl | (simp [errW_none, errW_some] <;> rfl)) | (simp [*, errW_none, errW_some] <;> rfl), by exact lT HB (gC GE376 (gC GE393 (gC GE400 gN)))⟩
                     ·rw [if_neg c150] at H
                      exact absurd H (by simp)
                    ·rw [if_neg c149] at H
                     exact absurd H (by simp)
                   ·rw [if_neg c148] at H
                    exact absurd H (by simp)
                  ·replace c147 := Bool.eq_false_iff.mpr c147
                   subst c147
                   have H1 : (some false) = some r := by rw [if_neg (show ¬ (false = true) by decide)] at H; exact H
                   clear H
                   have H := H1
                   clear H1
                   obtain rfl := Option.some.inj H
                   have hnb156 := NB376_393.out
                   have hnc156 := NB393_376.out
                   have hnb157 := NB376_400.out
                   have hnc157 := NB400_376.out
                   have hcz158_0 : wr.cell? ⟨gb376, 0, none⟩ = some (.slice (some ad381) t370.length co22) := (blk_cell BK376.out 0).trans rfl
                   have hcz158_1 : wr.cell? ⟨gb376, 1, none⟩ = some (.slice Ao24 t373.length co24) := (blk_cell BK376.out 1).trans rfl
                   have hfz158_0 := blk_frozen BK376.out 0
                   have hfz158_1 := blk_frozen BK376.out 1
                   try go_wp2
                   replace HO_377000 := ak (Kd.R_drew HO_377000.out)
                   replace HO_377001 := ak (Kd.R_drew HO_377001.out)
                   replace HO_394000 := ak (Kd.R_drew HO_394000.out)
                   replace HO_394001 := ak (Kd.R_drew HO_394001.out)
                   replace HO_401000 := ak (Kd.R_drew HO_401000.out)
                   replace HO_401001 := ak (Kd.R_drew HO_401001.out)
                   replace BK376 := ak (blk_drew BK376.out)
                   replace BK393 := ak (blk_drew BK393.out)
                   replace BK400 := ak (blk_drew BK400.out)
                   replace HB := ak (below_drew1 HB.out)
                   refine start_ (n := 25) (S := fun w' => w'.cell? ⟨gb400, 0, none⟩ = some (.slice Ao42 t394.length co42) ∧ w'.cell? ⟨gb400, 1, none⟩ = some (.slice Ao46 t397.length co46)) (ds := []) #[f_,f_,f_,f_,f_,f_,f_,f_,f_,f_,f_,f_,f_,f_,f_,f_,f_,f_,f_,f_,f_,f_,f_,f_,f_] (by kernel_rfl) rfl rfl ⟨(blk_cell BK400.out 0).trans rfl, (blk_cell BK400.out 1).trans rfl⟩ (fun hHeld => ?_); refine with_tabW laws_FnSectors.tab18 laws_FnSectors.bits18 (fun HT_ HW_ => ?_)
                   generalize wr.drew = w159 at HO_377000 HO_377001 HO_394000 HO_394001 HO_401000 HO_401001 BK376 BK393 BK400 HB hHeld ⊢
                   refine pure_ (i := 0) (N := some 125) (v := ?_) (a' := ?_) #[t_,f_,f_,f_,f_,f_,f_,f_,f_,f_,f_,f_,f_,f_,f_,f_,f_,f_,f_,f_,f_,f_,f_,f_,f_] rfl rfl (any_of HT_.out (by kernel_rfl)) (fun _ _ _ h => h) (Or.inl ⟨by rfl, ?_⟩) ?_ ?_
                   rotate_left
                   ·intro w'
                    go_simp
                    with_reducible rfl
                   rotate_left
                   ·simp only [Act.put, List.setIfInBounds_toArray, List.set_cons_zero, List.set_cons_succ, i64_w, i32_w]
                    rfl
                   refine pure_ (i := 1) (N := some 126) (v := ?_) (a' := ?_) #[t_,t_,f_,f_,f_,f_,f_,f_,f_,f_,f_,f_,f_,f_,f_,f_,f_,f_,f_,f_,f_,f_,f_,f_,f_] rfl rfl (any_of HT_.out (by kernel_rfl)) (fun _ _ _ h => h) (Or.inl ⟨by rfl, ?_⟩) ?_ ?_
                   rotate_left
                   ·intro w'
                    go_simp
                    with_reducible rfl
                   rotate_left
                   ·simp only [Act.put, List.setIfInBounds_toArray, List.set_cons_zero, List.set_cons_succ, i64_w, i32_w]
                    rfl
                   refine pure_ (i := 2) (N := some 127) (v := ?_) (a' := ?_) #[t_,t_,t_,f_,f_,f_,f_,f_,f_,f_,f_,f_,f_,f_,f_,f_,f_,f_,f_,f_,f_,f_,f_,f_,f_] rfl rfl (any_of HT_.out (by kernel_rfl)) (fun _ _ _ h => h) (Or.inl ⟨by rfl, ?_⟩) ?_ ?_
                   rotate_left
                   ·intro w'
                    go_simp
                    with_reducible rfl
                   rotate_left
                   ·simp only [Act.put, List.setIfInBounds_toArray, List.set_cons_zero, List.set_cons_succ, i64_w, i32_w]
                    rfl
                   refine take_ (i := 3) (N := some 128) (v := ?_) (a' := ?_) #[t_,t_,t_,t_,f_,f_,f_,f_,f_,f_,f_,f_,f_,f_,f_,f_,f_,f_,f_,f_,f_,f_,f_,f_,f_] rfl rfl (take_ofW HT_.out HW_.out (by kernel_rfl)) (fun _ _ _ h => h) (Or.inl ⟨by rfl, ?_⟩) hHeld ?_ ?_
                   rotate_left
                   ·rintro w' ⟨s0, s1⟩
                    go_simp
                    with_reducible rfl
                   rotate_left
                   ·simp only [Act.put, List.setIfInBounds_toArray, List.set_cons_zero, List.set_cons_succ, i64_w, i32_w]
                    rfl
                   refine pure_ (i := 4) (N := some 129) (v := ?_) (a' := ?_) #[t_,t_,t_,t_,t_,f_,f_,f_,f_,f_,f_,f_,f_,f_,f_,f_,f_,f_,f_,f_,f_,f_,f_,f_,f_] rfl rfl (any_of HT_.out (by kernel_rfl)) (fun _ _ _ h => h) (Or.inl ⟨by rfl, ?_⟩) ?_ ?_
                   rotate_left
                   ·intro w'
                    go_simp
                    with_reducible rfl
                   rotate_left
                   ·simp only [Act.put, List.setIfInBounds_toArray, List.set_cons_zero, List.set_cons_succ, i64_w, i32_w]
                    rfl
                   refine pure_ (i := 5) (N := some 130) (v := ?_) (a' := ?_) #[t_,t_,t_,t_,t_,t_,f_,f_,f_,f_,f_,f_,f_,f_,f_,f_,f_,f_,f_,f_,f_,f_,f_,f_,f_] rfl rfl (any_of HT_.out (by kernel_rfl)) (fun _ _ _ h => h) (Or.inl ⟨by rfl, ?_⟩) ?_ ?_
                   rotate_left
                   ·intro w'
                    go_simp
                    with_reducible rfl
                   rotate_left
                   ·simp only [Act.put, List.setIfInBounds_toArray, List.set_cons_zero, List.set_cons_succ, i64_w, i32_w]
                    rfl
                   refine pure_ (i := 6) (N := some 131) (v := ?_) (a' := ?_) #[t_,t_,t_,t_,t_,t_,t_,f_,f_,f_,f_,f_,f_,f_,f_,f_,f_,f_,f_,f_,f_,f_,f_,f_,f_] rfl rfl (any_of HT_.out (by kernel_rfl)) (fun _ _ _ h => h) (Or.inl ⟨by rfl, ?_⟩) ?_ ?_
                   rotate_left
                   ·intro w'
                    go_simp
                    with_reducible rfl
                   rotate_left
                   ·simp only [Act.put, List.setIfInBounds_toArray, List.set_cons_zero, List.set_cons_succ, i64_w, i32_w]
                    rfl
                   refine pure_ (i := 7) (N := some 132) (v := ?_) (a' := ?_) #[t_,t_,t_,t_,t_,t_,t_,t_,f_,f_,f_,f_,f_,f_,f_,f_,f_,f_,f_,f_,f_,f_,f_,f_,f_] rfl rfl (any_of HT_.out (by kernel_rfl)) (fun _ _ _ h => h) (Or.inl ⟨by rfl, ?_⟩) ?_ ?_
                   rotate_left
                   ·intro w'
                    go_simp
                    with_reducible rfl
                   rotate_left
                   ·simp only [Act.put, List.setIfInBounds_toArray, List.set_cons_zero, List.set_cons_succ, i64_w, i32_w]
                    rfl
                   refine take_ (i := 8) (N := some 133) (v := ?_) (a' := ?_) #[t_,t_,t_,t_,t_,t_,t_,t_,t_,f_,f_,f_,f_,f_,f_,f_,f_,f_,f_,f_,f_,f_,f_,f_,f_] rfl rfl (take_ofW HT_.out HW_.out (by kernel_rfl)) (fun _ _ _ h => h) (Or.inl ⟨by rfl, ?_⟩) hHeld ?_ ?_
                   rotate_left
                   ·rintro w' ⟨s0, s1⟩
                    go_simp
                    with_reducible rfl
                   rotate_left
                   ·simp only [Act.put, List.setIfInBounds_toArray, List.set_cons_zero, List.set_cons_succ, i64_w, i32_w]
                    rfl
                   refine one_ (i := 9) (N := some 134) #[t_,t_,t_,t_,t_,t_,t_,t_,t_,t_,f_,f_,f_,f_,f_,f_,f_,f_,f_,f_,f_,f_,f_,f_,f_] rfl rfl (one_of HT_.out (by kernel_rfl)) (by decide) (fun K hK => ?_)
                   refine goes_ Try.func16 (by kernel_rfl) rfl #[.agg #[.slice Ao42 t394.length co42, .slice Ao46 t397.length co46]] (by rfl) rfl rfl (by (try simp only [List.map_toArray, List.map_cons, List.map_nil]); first | done | rfl | (simp only [List.length_drop, List.length_take]; rfl)) ?_
                   with_reducible refine (impl_DiskOk.calls _ _ t394 _ _ t397 false _ ?side1 ?side2 ?side3 ?side4 A146.out).mono ?_
                   (case side1 => exact cG (Kd.R_reads' HO_401000.out).2.2)
                   (case side2 => exact (Kd.R_reads' HO_401000.out).2.1)
                   (case side3 => exact cG (Kd.R_reads' HO_401001.out).2.2)
                   (case side4 => exact (Kd.R_reads' HO_401001.out).2.1)
                   rintro e w160 ⟨rfl, hb⟩
                   refine ⟨_, rfl, ?_⟩
                   replace HO_377000 := rB HO_377000 hb
                   replace HO_377001 := rB HO_377001 hb
                   replace HO_394000 := rB HO_394000 hb
                   replace HO_394001 := rB HO_394001 hb
                   replace HO_401000 := rB HO_401000 hb
                   replace HO_401001 := rB HO_401001 hb
                   replace BK376 := bB BK376 hb
                   replace BK393 := bB BK393 hb
                   replace BK400 := bB BK400 hb
                   replace HB := ak (below_step (lT HB (gC GE376 (gC GE393 (gC GE400 gN)))) hb)
                   (try clear hb)
                   (try clear hb2)
                   (try clear hk)
                   (try clear hi)
                   refine hK.out _ _ ⟨(blk_cell BK400.out 0).trans rfl, (blk_cell BK400.out 1).trans rfl⟩ (fun hHeld => ?_)
                   clear hK K
                   refine norm_ (a' := ?_) ?_ ?_
                   rotate_left
                   ·show Act.put _ (some 134) _ = _
                    simp only [Act.put, List.setIfInBounds_toArray, List.set_cons_zero, List.set_cons_succ, i64_w, i32_w]
                    rfl
                   refine pure_ (i := 10) (N := some 135) (v := ?_) (a' := ?_) #[t_,t_,t_,t_,t_,t_,t_,t_,t_,t_,t_,f_,f_,f_,f_,f_,f_,f_,f_,f_,f_,f_,f_,f_,f_] rfl rfl (any_of HT_.out (by kernel_rfl)) (fun _ _ _ h => h) (Or.inl ⟨by rfl, ?_⟩) ?_ ?_
                   rotate_left
                   ·intro w'
                    go_simp
                    with_reducible rfl
                   rotate_left
                   ·simp only [Act.put, List.setIfInBounds_toArray, List.set_cons_zero, List.set_cons_succ, i64_w, i32_w]
                    rfl
                   refine pure_ (i := 11) (N := some 136) (v := ?_) (a' := ?_) #[t_,t_,t_,t_,t_,t_,t_,t_,t_,t_,t_,t_,f_,f_,f_,f_,f_,f_,f_,f_,f_,f_,f_,f_,f_] rfl rfl (any_of HT_.out (by kernel_rfl)) (fun _ _ _ h => h) (Or.inl ⟨by rfl, ?_⟩) ?_ ?_
                   rotate_left
                   ·intro w'
                    go_simp
                    with_reducible rfl
                   rotate_left
                   ·simp only [Act.put, List.setIfInBounds_toArray, List.set_cons_zero, List.set_cons_succ, i64_w, i32_w]
                    rfl
                   refine pure_ (i := 12) (N := some 137) (v := undef) (a' := ?_) #[t_,t_,t_,t_,t_,t_,t_,t_,t_,t_,t_,t_,t_,f_,f_,f_,f_,f_,f_,f_,f_,f_,f_,f_,f_] rfl rfl (any_of HT_.out (by kernel_rfl)) (fun _ _ _ h => h) (Or.inr ⟨by rfl, rfl⟩) ?_ ?_
                   rotate_left
                   ·simp only [Act.put, List.setIfInBounds_toArray, List.set_cons_zero, List.set_cons_succ, i64_w, i32_w]
                    rfl
                   refine pure_ (i := 13) (N := some 138) (v := undef) (a' := ?_) #[t_,t_,t_,t_,t_,t_,t_,t_,t_,t_,t_,t_,t_,t_,f_,f_,f_,f_,f_,f_,f_,f_,f_,f_,f_] rfl rfl (any_of HT_.out (by kernel_rfl)) (fun _ _ _ h => h) (Or.inr ⟨by rfl, rfl⟩) ?_ ?_
                   rotate_left
                   ·simp only [Act.put, List.setIfInBounds_toArray, List.set_cons_zero, List.set_cons_succ, i64_w, i32_w]
                    rfl
                   refine pure_ (i := 14) (N := some 139) (v := undef) (a' := ?_) #[t_,t_,t_,t_,t_,t_,t_,t_,t_,t_,t_,t_,t_,t_,t_,f_,f_,f_,f_,f_,f_,f_,f_,f_,f_] rfl rfl (any_of HT_.out (by kernel_rfl)) (fun _ _ _ h => h) (Or.inr ⟨by rfl, rfl⟩) ?_ ?_
                   rotate_left
                   ·simp only [Act.put, List.setIfInBounds_toArray, List.set_cons_zero, List.set_cons_succ, i64_w, i32_w]
                    rfl
                   refine pure_ (i := 15) (N := some 140) (v := undef) (a' := ?_) #[t_,t_,t_,t_,t_,t_,t_,t_,t_,t_,t_,t_,t_,t_,t_,t_,f_,f_,f_,f_,f_,f_,f_,f_,f_] rfl rfl (any_of HT_.out (by kernel_rfl)) (fun _ _ _ h => h) (Or.inr ⟨by rfl, rfl⟩) ?_ ?_
                   rotate_left
                   ·simp only [Act.put, List.setIfInBounds_toArray, List.set_cons_zero, List.set_cons_succ, i64_w, i32_w]
                    rfl
                   refine pure_ (i := 16) (N := some 141) (v := undef) (a' := ?_) #[t_,t_,t_,t_,t_,t_,t_,t_,t_,t_,t_,t_,t_,t_,t_,t_,t_,f_,f_,f_,f_,f_,f_,f_,f_] rfl rfl (any_of HT_.out (by kernel_rfl)) (fun _ _ _ h => h) (Or.inr ⟨by rfl, rfl⟩) ?_ ?_
                   rotate_left
                   ·simp only [Act.put, List.setIfInBounds_toArray, List.set_cons_zero, List.set_cons_succ, i64_w, i32_w]
                    rfl
                   refine pure_ (i := 17) (N := some 142) (v := undef) (a' := ?_) #[t_,t_,t_,t_,t_,t_,t_,t_,t_,t_,t_,t_,t_,t_,t_,t_,t_,t_,f_,f_,f_,f_,f_,f_,f_] rfl rfl (any_of HT_.out (by kernel_rfl)) (fun _ _ _ h => h) (Or.inr ⟨by rfl, rfl⟩) ?_ ?_
                   rotate_left
                   ·simp only [Act.put, List.setIfInBounds_toArray, List.set_cons_zero, List.set_cons_succ, i64_w, i32_w]
                    rfl
                   refine pure_ (i := 18) (N := some 143) (v := undef) (a' := ?_) #[t_,t_,t_,t_,t_,t_,t_,t_,t_,t_,t_,t_,t_,t_,t_,t_,t_,t_,t_,f_,f_,f_,f_,f_,f_] rfl rfl (any_of HT_.out (by kernel_rfl)) (fun _ _ _ h => h) (Or.inr ⟨by rfl, rfl⟩) ?_ ?_
                   rotate_left
                   ·simp only [Act.put, List.setIfInBounds_toArray, List.set_cons_zero, List.set_cons_succ, i64_w, i32_w]
                    rfl
                   refine pure_ (i := 19) (N := some 144) (v := undef) (a' := ?_) #[t_,t_,t_,t_,t_,t_,t_,t_,t_,t_,t_,t_,t_,t_,t_,t_,t_,t_,t_,t_,f_,f_,f_,f_,f_] rfl rfl (any_of HT_.out (by kernel_rfl)) (fun _ _ _ h => h) (Or.inr ⟨by rfl, rfl⟩) ?_ ?_
                   rotate_left
                   ·simp only [Act.put, List.setIfInBounds_toArray, List.set_cons_zero, List.set_cons_succ, i64_w, i32_w]
                    rfl
                   refine pure_ (i := 20) (N := some 145) (v := undef) (a' := ?_) #[t_,t_,t_,t_,t_,t_,t_,t_,t_,t_,t_,t_,t_,t_,t_,t_,t_,t_,t_,t_,t_,f_,f_,f_,f_] rfl rfl (any_of HT_.out (by kernel_rfl)) (fun _ _ _ h => h) (Or.inr ⟨by rfl, rfl⟩) ?_ ?_
                   rotate_left
                   ·simp only [Act.put, List.setIfInBounds_toArray, List.set_cons_zero, List.set_cons_succ, i64_w, i32_w]
                    rfl
                   refine pure_ (i := 21) (N := some 146) (v := undef) (a' := ?_) #[t_,t_,t_,t_,t_,t_,t_,t_,t_,t_,t_,t_,t_,t_,t_,t_,t_,t_,t_,t_,t_,t_,f_,f_,f_] rfl rfl (any_of HT_.out (by kernel_rfl)) (fun _ _ _ h => h) (Or.inr ⟨by rfl, rfl⟩) ?_ ?_
                   rotate_left
                   ·simp only [Act.put, List.setIfInBounds_toArray, List.set_cons_zero, List.set_cons_succ, i64_w, i32_w]
                    rfl
                   refine pure_ (i := 22) (N := some 147) (v := undef) (a' := ?_) #[t_,t_,t_,t_,t_,t_,t_,t_,t_,t_,t_,t_,t_,t_,t_,t_,t_,t_,t_,t_,t_,t_,t_,f_,f_] rfl rfl (any_of HT_.out (by kernel_rfl)) (fun _ _ _ h => h) (Or.inr ⟨by rfl, rfl⟩) ?_ ?_
                   rotate_left
                   ·simp only [Act.put, List.setIfInBounds_toArray, List.set_cons_zero, List.set_cons_succ, i64_w, i32_w]
                    rfl
                   refine pure_ (i := 23) (N := some 148) (v := ?_) (a' := ?_) #[t_,t_,t_,t_,t_,t_,t_,t_,t_,t_,t_,t_,t_,t_,t_,t_,t_,t_,t_,t_,t_,t_,t_,t_,f_] rfl rfl (any_of HT_.out (by kernel_rfl)) (fun _ _ _ h => h) (Or.inl ⟨by rfl, ?_⟩) ?_ ?_
                   rotate_left
                   ·intro w'
                    go_simp
                    with_reducible rfl
                   rotate_left
                   ·simp only [Act.put, List.setIfInBounds_toArray, List.set_cons_zero, List.set_cons_succ, i64_w, i32_w]
                    rfl
                   refine pure_ (i := 24) (N := some 2) (v := ?_) (a' := ?_) #[t_,t_,t_,t_,t_,t_,t_,t_,t_,t_,t_,t_,t_,t_,t_,t_,t_,t_,t_,t_,t_,t_,t_,t_,t_] rfl rfl (any_of HT_.out (by kernel_rfl)) (fun _ _ _ h => h) (Or.inl ⟨by rfl, ?_⟩) ?_ ?_
                   rotate_left
                   ·intro w'
                    go_simp
                    with_reducible rfl
                   rotate_left
                   ·simp only [Act.put, List.setIfInBounds_toArray, List.set_cons_zero, List.set_cons_succ, i64_w, i32_w]
                    rfl
                   refine done_ (done_of HT_.out (by kernel_rfl)) ?_
                   try go_wp2
                   go_ret
                   exact ⟨by first | rfl | (simp [errW_none, errW_some] <;> rfl) | (simp only [← hji8]; first | rfl | (simp [errW_none, errW_some] <;> rfl)) | (simp [*, errW_none, errW_some] <;> rfl), by exact lT HB (gC GE376 (gC GE393 (gC GE400 gN)))⟩
                 ·rw [if_neg c145] at H
                  have c145b0 : ((t397.length : Int) == 0) = false := beq_eq_false_iff_ne.mpr c145
                  have c145b1 : ((t397.length : Int) != 0) = true := bne_iff_ne.mpr c145
                  have c145b2 : ¬ (t397 = []) := fun h_ => c145 (by rw [h_]; rfl)
                  obtain rfl := Option.some.inj H
                  have hnb161 := NB376_393.out
                  have hnc161 := NB393_376.out
                  have hnb162 := NB376_400.out
                  have hnc162 := NB400_376.out
                  have hcz163_0 : wr.cell? ⟨gb376, 0, none⟩ = some (.slice (some ad381) t370.length co22) := (blk_cell BK376.out 0).trans rfl
                  have hcz163_1 : wr.cell? ⟨gb376, 1, none⟩ = some (.slice Ao24 t373.length co24) := (blk_cell BK376.out 1).trans rfl
                  have hfz163_0 := blk_frozen BK376.out 0
                  have hfz163_1 := blk_frozen BK376.out 1
                  try go_wp2
                  replace HO_377000 := ak (Kd.R_drew HO_377000.out)
                  replace HO_377001 := ak (Kd.R_drew HO_377001.out)
                  replace HO_394000 := ak (Kd.R_drew HO_394000.out)
                  replace HO_394001 := ak (Kd.R_drew HO_394001.out)
                  replace HO_401000 := ak (Kd.R_drew HO_401000.out)
                  replace HO_401001 := ak (Kd.R_drew HO_401001.out)
                  replace BK376 := ak (blk_drew BK376.out)
                  replace BK393 := ak (blk_drew BK393.out)
                  replace BK400 := ak (blk_drew BK400.out)
                  replace HB := ak (below_drew1 HB.out)
                  refine start_ (n := 25) (S := fun w' => w'.cell? ⟨gb400, 0, none⟩ = some (.slice Ao42 t394.length co42) ∧ w'.cell? ⟨gb400, 1, none⟩ = some (.slice Ao46 t397.length co46)) (ds := []) #[f_,f_,f_,f_,f_,f_,f_,f_,f_,f_,f_,f_,f_,f_,f_,f_,f_,f_,f_,f_,f_,f_,f_,f_,f_] (by kernel_rfl) rfl rfl ⟨(blk_cell BK400.out 0).trans rfl, (blk_cell BK400.out 1).trans rfl⟩ (fun hHeld => ?_); refine with_tabW laws_FnSectors.tab18 laws_FnSectors.bits18 (fun HT_ HW_ => ?_)
                  generalize wr.drew = w164 at HO_377000 HO_377001 HO_394000 HO_394001 HO_401000 HO_401001 BK376 BK393 BK400 HB hHeld ⊢
                  refine pure_ (i := 0) (N := some 125) (v := ?_) (a' := ?_) #[t_,f_,f_,f_,f_,f_,f_,f_,f_,f_,f_,f_,f_,f_,f_,f_,f_,f_,f_,f_,f_,f_,f_,f_,f_] rfl rfl (any_of HT_.out (by kernel_rfl)) (fun _ _ _ h => h) (Or.inl ⟨by rfl, ?_⟩) ?_ ?_
                  rotate_left
                  ·intro w'
                   go_simp
                   with_reducible rfl
                  rotate_left
                  ·simp only [Act.put, List.setIfInBounds_toArray, List.set_cons_zero, List.set_cons_succ, i64_w, i32_w]
                   rfl
                  refine pure_ (i := 1) (N := some 126) (v := ?_) (a' := ?_) #[t_,t_,f_,f_,f_,f_,f_,f_,f_,f_,f_,f_,f_,f_,f_,f_,f_,f_,f_,f_,f_,f_,f_,f_,f_] rfl rfl (any_of HT_.out (by kernel_rfl)) (fun _ _ _ h => h) (Or.inl ⟨by rfl, ?_⟩) ?_ ?_
                  rotate_left
                  ·intro w'
                   go_simp
                   with_reducible rfl
                  rotate_left
                  ·simp only [Act.put, List.setIfInBounds_toArray, List.set_cons_zero, List.set_cons_succ, i64_w, i32_w]
                   rfl
                  refine pure_ (i := 2) (N := some 127) (v := ?_) (a' := ?_) #[t_,t_,t_,f_,f_,f_,f_,f_,f_,f_,f_,f_,f_,f_,f_,f_,f_,f_,f_,f_,f_,f_,f_,f_,f_] rfl rfl (any_of HT_.out (by kernel_rfl)) (fun _ _ _ h => h) (Or.inl ⟨by rfl, ?_⟩) ?_ ?_
                  rotate_left
                  ·intro w'
                   go_simp
                   with_reducible rfl
                  rotate_left
                  ·simp only [Act.put, List.setIfInBounds_toArray, List.set_cons_zero, List.set_cons_succ, i64_w, i32_w]
                   rfl
                  refine take_ (i := 3) (N := some 128) (v := ?_) (a' := ?_) #[t_,t_,t_,t_,f_,f_,f_,f_,f_,f_,f_,f_,f_,f_,f_,f_,f_,f_,f_,f_,f_,f_,f_,f_,f_] rfl rfl (take_ofW HT_.out HW_.out (by kernel_rfl)) (fun _ _ _ h => h) (Or.inl ⟨by rfl, ?_⟩) hHeld ?_ ?_
                  rotate_left
                  ·rintro w' ⟨s0, s1⟩
                   go_simp
                   with_reducible rfl
                  rotate_left
                  ·simp only [Act.put, List.setIfInBounds_toArray, List.set_cons_zero, List.set_cons_succ, i64_w, i32_w]
                   rfl
                  refine pure_ (i := 4) (N := some 129) (v := ?_) (a' := ?_) #[t_,t_,t_,t_,t_,f_,f_,f_,f_,f_,f_,f_,f_,f_,f_,f_,f_,f_,f_,f_,f_,f_,f_,f_,f_] rfl rfl (any_of HT_.out (by kernel_rfl)) (fun _ _ _ h => h) (Or.inl ⟨by rfl, ?_⟩) ?_ ?_
                  rotate_left
                  ·intro w'
                   go_simp
                   with_reducible rfl
                  rotate_left
                  ·simp only [Act.put, List.setIfInBounds_toArray, List.set_cons_zero, List.set_cons_succ, i64_w, i32_w]
                   rfl
                  refine pure_ (i := 5) (N := some 130) (v := ?_) (a' := ?_) #[t_,t_,t_,t_,t_,t_,f_,f_,f_,f_,f_,f_,f_,f_,f_,f_,f_,f_,f_,f_,f_,f_,f_,f_,f_] rfl rfl (any_of HT_.out (by kernel_rfl)) (fun _ _ _ h => h) (Or.inl ⟨by rfl, ?_⟩) ?_ ?_
                  rotate_left
                  ·intro w'
                   go_simp
                   with_reducible rfl
                  rotate_left
                  ·simp only [Act.put, List.setIfInBounds_toArray, List.set_cons_zero, List.set_cons_succ, i64_w, i32_w]
                   rfl
                  refine pure_ (i := 6) (N := some 131) (v := ?_) (a' := ?_) #[t_,t_,t_,t_,t_,t_,t_,f_,f_,f_,f_,f_,f_,f_,f_,f_,f_,f_,f_,f_,f_,f_,f_,f_,f_] rfl rfl (any_of HT_.out (by kernel_rfl)) (fun _ _ _ h => h) (Or.inl ⟨by rfl, ?_⟩) ?_ ?_
                  rotate_left
                  ·intro w'
                   go_simp
                   with_reducible rfl
                  rotate_left
                  ·simp only [Act.put, List.setIfInBounds_toArray, List.set_cons_zero, List.set_cons_succ, i64_w, i32_w]
                   rfl
                  refine pure_ (i := 7) (N := some 132) (v := ?_) (a' := ?_) #[t_,t_,t_,t_,t_,t_,t_,t_,f_,f_,f_,f_,f_,f_,f_,f_,f_,f_,f_,f_,f_,f_,f_,f_,f_] rfl rfl (any_of HT_.out (by kernel_rfl)) (fun _ _ _ h => h) (Or.inl ⟨by rfl, ?_⟩) ?_ ?_
                  rotate_left
                  ·intro w'
                   go_simp
                   with_reducible rfl
                  rotate_left
                  ·simp only [Act.put, List.setIfInBounds_toArray, List.set_cons_zero, List.set_cons_succ, i64_w, i32_w]
                   rfl
                  refine pure_ (i := 8) (N := some 133) (v := undef) (a' := ?_) #[t_,t_,t_,t_,t_,t_,t_,t_,t_,f_,f_,f_,f_,f_,f_,f_,f_,f_,f_,f_,f_,f_,f_,f_,f_] rfl rfl (any_of HT_.out (by kernel_rfl)) (fun _ _ _ h => h) (Or.inr ⟨by rfl, rfl⟩) ?_ ?_
                  rotate_left
                  ·simp only [Act.put, List.setIfInBounds_toArray, List.set_cons_zero, List.set_cons_succ, i64_w, i32_w]
                   rfl
                  refine pure_ (i := 9) (N := some 134) (v := undef) (a' := ?_) #[t_,t_,t_,t_,t_,t_,t_,t_,t_,t_,f_,f_,f_,f_,f_,f_,f_,f_,f_,f_,f_,f_,f_,f_,f_] rfl rfl (any_of HT_.out (by kernel_rfl)) (fun _ _ _ h => h) (Or.inr ⟨by rfl, rfl⟩) ?_ ?_
                  rotate_left
                  ·simp only [Act.put, List.setIfInBounds_toArray, List.set_cons_zero, List.set_cons_succ, i64_w, i32_w]
                   rfl
                  refine pure_ (i := 10) (N := some 135) (v := ?_) (a' := ?_) #[t_,t_,t_,t_,t_,t_,t_,t_,t_,t_,t_,f_,f_,f_,f_,f_,f_,f_,f_,f_,f_,f_,f_,f_,f_] rfl rfl (any_of HT_.out (by kernel_rfl)) (fun _ _ _ h => h) (Or.inl ⟨by rfl, ?_⟩) ?_ ?_
                  rotate_left
                  ·intro w'
                   go_simp
                   with_reducible rfl
                  rotate_left
                  ·simp only [Act.put, List.setIfInBounds_toArray, List.set_cons_zero, List.set_cons_succ, i64_w, i32_w]
                   rfl
                  refine pure_ (i := 11) (N := some 136) (v := ?_) (a' := ?_) #[t_,t_,t_,t_,t_,t_,t_,t_,t_,t_,t_,t_,f_,f_,f_,f_,f_,f_,f_,f_,f_,f_,f_,f_,f_] rfl rfl (any_of HT_.out (by kernel_rfl)) (fun _ _ _ h => h) (Or.inl ⟨by rfl, ?_⟩) ?_ ?_
                  rotate_left
                  ·intro w'
                   go_simp
                   with_reducible rfl
                  rotate_left
                  ·simp only [Act.put, List.setIfInBounds_toArray, List.set_cons_zero, List.set_cons_succ, i64_w, i32_w]
                   rfl
                  refine pure_ (i := 12) (N := some 137) (v := undef) (a' := ?_) #[t_,t_,t_,t_,t_,t_,t_,t_,t_,t_,t_,t_,t_,f_,f_,f_,f_,f_,f_,f_,f_,f_,f_,f_,f_] rfl rfl (any_of HT_.out (by kernel_rfl)) (fun _ _ _ h => h) (Or.inr ⟨by rfl, rfl⟩) ?_ ?_
                  rotate_left
                  ·simp only [Act.put, List.setIfInBounds_toArray, List.set_cons_zero, List.set_cons_succ, i64_w, i32_w]
                   rfl
                  refine pure_ (i := 13) (N := some 138) (v := undef) (a' := ?_) #[t_,t_,t_,t_,t_,t_,t_,t_,t_,t_,t_,t_,t_,t_,f_,f_,f_,f_,f_,f_,f_,f_,f_,f_,f_] rfl rfl (any_of HT_.out (by kernel_rfl)) (fun _ _ _ h => h) (Or.inr ⟨by rfl, rfl⟩) ?_ ?_
                  rotate_left
                  ·simp only [Act.put, List.setIfInBounds_toArray, List.set_cons_zero, List.set_cons_succ, i64_w, i32_w]
                   rfl
                  refine pure_ (i := 14) (N := some 139) (v := undef) (a' := ?_) #[t_,t_,t_,t_,t_,t_,t_,t_,t_,t_,t_,t_,t_,t_,t_,f_,f_,f_,f_,f_,f_,f_,f_,f_,f_] rfl rfl (any_of HT_.out (by kernel_rfl)) (fun _ _ _ h => h) (Or.inr ⟨by rfl, rfl⟩) ?_ ?_
                  rotate_left
                  ·simp only [Act.put, List.setIfInBounds_toArray, List.set_cons_zero, List.set_cons_succ, i64_w, i32_w]
                   rfl
                  refine pure_ (i := 15) (N := some 140) (v := undef) (a' := ?_) #[t_,t_,t_,t_,t_,t_,t_,t_,t_,t_,t_,t_,t_,t_,t_,t_,f_,f_,f_,f_,f_,f_,f_,f_,f_] rfl rfl (any_of HT_.out (by kernel_rfl)) (fun _ _ _ h => h) (Or.inr ⟨by rfl, rfl⟩) ?_ ?_
                  rotate_left
                  ·simp only [Act.put, List.setIfInBounds_toArray, List.set_cons_zero, List.set_cons_succ, i64_w, i32_w]
                   rfl
                  refine pure_ (i := 16) (N := some 141) (v := undef) (a' := ?_) #[t_,t_,t_,t_,t_,t_,t_,t_,t_,t_,t_,t_,t_,t_,t_,t_,t_,f_,f_,f_,f_,f_,f_,f_,f_] rfl rfl (any_of HT_.out (by kernel_rfl)) (fun _ _ _ h => h) (Or.inr ⟨by rfl, rfl⟩) ?_ ?_
                  rotate_left
                  ·simp only [Act.put, List.setIfInBounds_toArray, List.set_cons_zero, List.set_cons_succ, i64_w, i32_w]
                   rfl
                  refine pure_ (i := 17) (N := some 142) (v := undef) (a' := ?_) #[t_,t_,t_,t_,t_,t_,t_,t_,t_,t_,t_,t_,t_,t_,t_,t_,t_,t_,f_,f_,f_,f_,f_,f_,f_] rfl rfl (any_of HT_.out (by kernel_rfl)) (fun _ _ _ h => h) (Or.inr ⟨by rfl, rfl⟩) ?_ ?_
                  rotate_left
                  ·simp only [Act.put, List.setIfInBounds_toArray, List.set_cons_zero, List.set_cons_succ, i64_w, i32_w]
                   rfl
                  refine pure_ (i := 18) (N := some 143) (v := undef) (a' := ?_) #[t_,t_,t_,t_,t_,t_,t_,t_,t_,t_,t_,t_,t_,t_,t_,t_,t_,t_,t_,f_,f_,f_,f_,f_,f_] rfl rfl (any_of HT_.out (by kernel_rfl)) (fun _ _ _ h => h) (Or.inr ⟨by rfl, rfl⟩) ?_ ?_
                  rotate_left
                  ·simp only [Act.put, List.setIfInBounds_toArray, List.set_cons_zero, List.set_cons_succ, i64_w, i32_w]
                   rfl
                  refine pure_ (i := 19) (N := some 144) (v := undef) (a' := ?_) #[t_,t_,t_,t_,t_,t_,t_,t_,t_,t_,t_,t_,t_,t_,t_,t_,t_,t_,t_,t_,f_,f_,f_,f_,f_] rfl rfl (any_of HT_.out (by kernel_rfl)) (fun _ _ _ h => h) (Or.inr ⟨by rfl, rfl⟩) ?_ ?_
                  rotate_left
                  ·simp only [Act.put, List.setIfInBounds_toArray, List.set_cons_zero, List.set_cons_succ, i64_w, i32_w]
                   rfl
                  refine pure_ (i := 20) (N := some 145) (v := undef) (a' := ?_) #[t_,t_,t_,t_,t_,t_,t_,t_,t_,t_,t_,t_,t_,t_,t_,t_,t_,t_,t_,t_,t_,f_,f_,f_,f_] rfl rfl (any_of HT_.out (by kernel_rfl)) (fun _ _ _ h => h) (Or.inr ⟨by rfl, rfl⟩) ?_ ?_
                  rotate_left
                  ·simp only [Act.put, List.setIfInBounds_toArray, List.set_cons_zero, List.set_cons_succ, i64_w, i32_w]
                   rfl
                  refine pure_ (i := 21) (N := some 146) (v := undef) (a' := ?_) #[t_,t_,t_,t_,t_,t_,t_,t_,t_,t_,t_,t_,t_,t_,t_,t_,t_,t_,t_,t_,t_,t_,f_,f_,f_] rfl rfl (any_of HT_.out (by kernel_rfl)) (fun _ _ _ h => h) (Or.inr ⟨by rfl, rfl⟩) ?_ ?_
                  rotate_left
                  ·simp only [Act.put, List.setIfInBounds_toArray, List.set_cons_zero, List.set_cons_succ, i64_w, i32_w]
                   rfl
                  refine pure_ (i := 22) (N := some 147) (v := undef) (a' := ?_) #[t_,t_,t_,t_,t_,t_,t_,t_,t_,t_,t_,t_,t_,t_,t_,t_,t_,t_,t_,t_,t_,t_,t_,f_,f_] rfl rfl (any_of HT_.out (by kernel_rfl)) (fun _ _ _ h => h) (Or.inr ⟨by rfl, rfl⟩) ?_ ?_
                  rotate_left
                  ·simp only [Act.put, List.setIfInBounds_toArray, List.set_cons_zero, List.set_cons_succ, i64_w, i32_w]
                   rfl
                  refine pure_ (i := 23) (N := some 148) (v := ?_) (a' := ?_) #[t_,t_,t_,t_,t_,t_,t_,t_,t_,t_,t_,t_,t_,t_,t_,t_,t_,t_,t_,t_,t_,t_,t_,t_,f_] rfl rfl (any_of HT_.out (by kernel_rfl)) (fun _ _ _ h => h) (Or.inl ⟨by rfl, ?_⟩) ?_ ?_
                  rotate_left
                  ·intro w'
                   go_simp
                   with_reducible rfl
                  rotate_left
                  ·simp only [Act.put, List.setIfInBounds_toArray, List.set_cons_zero, List.set_cons_succ, i64_w, i32_w]
                   rfl
                  refine pure_ (i := 24) (N := some 2) (v := ?_) (a' := ?_) #[t_,t_,t_,t_,t_,t_,t_,t_,t_,t_,t_,t_,t_,t_,t_,t_,t_,t_,t_,t_,t_,t_,t_,t_,t_] rfl rfl (any_of HT_.out (by kernel_rfl)) (fun _ _ _ h => h) (Or.inl ⟨by rfl, ?_⟩) ?_ ?_
                  rotate_left
                  ·intro w'
                   go_simp
                   with_reducible rfl
                  rotate_left
                  ·simp only [Act.put, List.setIfInBounds_toArray, List.set_cons_zero, List.set_cons_succ, i64_w, i32_w]
                   rfl
                  refine done_ (done_of HT_.out (by kernel_rfl)) ?_
                  try go_wp2
                  go_ret
                  exact ⟨by first | rfl | (simp [errW_none, errW_some] <;> rfl) | (simp only [← hji8]; first | rfl | (simp [errW_none, errW_some] <;> rfl)) | (simp [*, errW_none, errW_some] <;> rfl), by exact lT HB (gC GE376 (gC GE393 (gC GE400 gN)))⟩
                ·replace c144 := Bool.eq_false_iff.mpr c144
                 subst c144
                 have H1 : (some false) = some r := by rw [if_neg (show ¬ (false = true) by decide)] at H; exact H
                 clear H
                 have H := H1
                 clear H1
                 obtain rfl := Option.some.inj H
                 have hnb165 := NB376_393.out
                 have hnc165 := NB393_376.out
                 have hnb166 := NB376_400.out
                 have hnc166 := NB400_376.out
                 have hcz167_0 : wr.cell? ⟨gb376, 0, none⟩ = some (.slice (some ad381) t370.length co22) := (blk_cell BK376.out 0).trans rfl
                 have hcz167_1 : wr.cell? ⟨gb376, 1, none⟩ = some (.slice Ao24 t373.length co24) := (blk_cell BK376.out 1).trans rfl
                 have hfz167_0 := blk_frozen BK376.out 0
                 have hfz167_1 := blk_frozen BK376.out 1
                 try go_wp2
                 replace HO_377000 := ak (Kd.R_drew HO_377000.out)
                 replace HO_377001 := ak (Kd.R_drew HO_377001.out)
                 replace HO_394000 := ak (Kd.R_drew HO_394000.out)
                 replace HO_394001 := ak (Kd.R_drew HO_394001.out)
                 replace HO_401000 := ak (Kd.R_drew HO_401000.out)
                 replace HO_401001 := ak (Kd.R_drew HO_401001.out)
                 replace BK376 := ak (blk_drew BK376.out)
                 replace BK393 := ak (blk_drew BK393.out)
                 replace BK400 := ak (blk_drew BK400.out)
                 replace HB := ak (below_drew1 HB.out)
                 refine start_ (n := 25) (S := fun w' => True) (ds := []) #[f_,f_,f_,f_,f_,f_,f_,f_,f_,f_,f_,f_,f_,f_,f_,f_,f_,f_,f_,f_,f_,f_,f_,f_,f_] (by kernel_rfl) rfl rfl trivial (fun hHeld => ?_); refine with_tabW laws_FnSectors.tab18 laws_FnSectors.bits18 (fun HT_ HW_ => ?_)
                 generalize wr.drew = w168 at HO_377000 HO_377001 HO_394000 HO_394001 HO_401000 HO_401001 BK376 BK393 BK400 HB hHeld ⊢
                 refine pure_ (i := 0) (N := some 125) (v := ?_) (a' := ?_) #[t_,f_,f_,f_,f_,f_,f_,f_,f_,f_,f_,f_,f_,f_,f_,f_,f_,f_,f_,f_,f_,f_,f_,f_,f_] rfl rfl (any_of HT_.out (by kernel_rfl)) (fun _ _ _ h => h) (Or.inl ⟨by rfl, ?_⟩) ?_ ?_
                 rotate_left
                 ·intro w'
                  go_simp
                  with_reducible rfl
                 rotate_left
                 ·simp only [Act.put, List.setIfInBounds_toArray, List.set_cons_zero, List.set_cons_succ, i64_w, i32_w]
                  rfl
                 refine pure_ (i := 1) (N := some 126) (v := ?_) (a' := ?_) #[t_,t_,f_,f_,f_,f_,f_,f_,f_,f_,f_,f_,f_,f_,f_,f_,f_,f_,f_,f_,f_,f_,f_,f_,f_] rfl rfl (any_of HT_.out (by kernel_rfl)) (fun _ _ _ h => h) (Or.inl ⟨by rfl, ?_⟩) ?_ ?_
                 rotate_left
                 ·intro w'
                  go_simp
                  with_reducible rfl
                 rotate_left
                 ·simp only [Act.put, List.setIfInBounds_toArray, List.set_cons_zero, List.set_cons_succ, i64_w, i32_w]
                  rfl
                 refine pure_ (i := 2) (N := some 127) (v := undef) (a' := ?_) #[t_,t_,t_,f_,f_,f_,f_,f_,f_,f_,f_,f_,f_,f_,f_,f_,f_,f_,f_,f_,f_,f_,f_,f_,f_] rfl rfl (any_of HT_.out (by kernel_rfl)) (fun _ _ _ h => h) (Or.inr ⟨by rfl, rfl⟩) ?_ ?_
                 rotate_left
                 ·simp only [Act.put, List.setIfInBounds_toArray, List.set_cons_zero, List.set_cons_succ, i64_w, i32_w]
                  rfl
                 refine pure_ (i := 3) (N := some 128) (v := undef) (a' := ?_) #[t_,t_,t_,t_,f_,f_,f_,f_,f_,f_,f_,f_,f_,f_,f_,f_,f_,f_,f_,f_,f_,f_,f_,f_,f_] rfl rfl (any_of HT_.out (by kernel_rfl)) (fun _ _ _ h => h) (Or.inr ⟨by rfl, rfl⟩) ?_ ?_
                 rotate_left
                 ·simp only [Act.put, List.setIfInBounds_toArray, List.set_cons_zero, List.set_cons_succ, i64_w, i32_w]
                  rfl
                 refine pure_ (i := 4) (N := some 129) (v := undef) (a' := ?_) #[t_,t_,t_,t_,t_,f_,f_,f_,f_,f_,f_,f_,f_,f_,f_,f_,f_,f_,f_,f_,f_,f_,f_,f_,f_] rfl rfl (any_of HT_.out (by kernel_rfl)) (fun _ _ _ h => h) (Or.inr ⟨by rfl, rfl⟩) ?_ ?_
                 rotate_left
                 ·simp only [Act.put, List.setIfInBounds_toArray, List.set_cons_zero, List.set_cons_succ, i64_w, i32_w]
                  rfl
                 refine pure_ (i := 5) (N := some 130) (v := undef) (a' := ?_) #[t_,t_,t_,t_,t_,t_,f_,f_,f_,f_,f_,f_,f_,f_,f_,f_,f_,f_,f_,f_,f_,f_,f_,f_,f_] rfl rfl (any_of HT_.out (by kernel_rfl)) (fun _ _ _ h => h) (Or.inr ⟨by rfl, rfl⟩) ?_ ?_
                 rotate_left
                 ·simp only [Act.put, List.setIfInBounds_toArray, List.set_cons_zero, List.set_cons_succ, i64_w, i32_w]
                  rfl
                 refine pure_ (i := 6) (N := some 131) (v := ?_) (a' := ?_) #[t_,t_,t_,t_,t_,t_,t_,f_,f_,f_,f_,f_,f_,f_,f_,f_,f_,f_,f_,f_,f_,f_,f_,f_,f_] rfl rfl (any_of HT_.out (by kernel_rfl)) (fun _ _ _ h => h) (Or.inl ⟨by rfl, ?_⟩) ?_ ?_
                 rotate_left
                 ·intro w'
                  go_simp
                  with_reducible rfl
                 rotate_left
                 ·simp only [Act.put, List.setIfInBounds_toArray, List.set_cons_zero, List.set_cons_succ, i64_w, i32_w]
                  rfl
                 refine pure_ (i := 7) (N := some 132) (v := ?_) (a' := ?_) #[t_,t_,t_,t_,t_,t_,t_,t_,f_,f_,f_,f_,f_,f_,f_,f_,f_,f_,f_,f_,f_,f_,f_,f_,f_] rfl rfl (any_of HT_.out (by kernel_rfl)) (fun _ _ _ h => h) (Or.inl ⟨by rfl, ?_⟩) ?_ ?_
                 rotate_left
                 ·intro w'
                  go_simp
                  with_reducible rfl
                 rotate_left
                 ·simp only [Act.put, List.setIfInBounds_toArray, List.set_cons_zero, List.set_cons_succ, i64_w, i32_w]
                  rfl
                 refine pure_ (i := 8) (N := some 133) (v := undef) (a' := ?_) #[t_,t_,t_,t_,t_,t_,t_,t_,t_,f_,f_,f_,f_,f_,f_,f_,f_,f_,f_,f_,f_,f_,f_,f_,f_] rfl rfl (any_of HT_.out (by kernel_rfl)) (fun _ _ _ h => h) (Or.inr ⟨by rfl, rfl⟩) ?_ ?_
                 rotate_left
                 ·simp only [Act.put, List.setIfInBounds_toArray, List.set_cons_zero, List.set_cons_succ, i64_w, i32_w]
                  rfl
                 refine pure_ (i := 9) (N := some 134) (v := undef) (a' := ?_) #[t_,t_,t_,t_,t_,t_,t_,t_,t_,t_,f_,f_,f_,f_,f_,f_,f_,f_,f_,f_,f_,f_,f_,f_,f_] rfl rfl (any_of HT_.out (by kernel_rfl)) (fun _ _ _ h => h) (Or.inr ⟨by rfl, rfl⟩) ?_ ?_
                 rotate_left
                 ·simp only [Act.put, List.setIfInBounds_toArray, List.set_cons_zero, List.set_cons_succ, i64_w, i32_w]
                  rfl
                 refine pure_ (i := 10) (N := some 135) (v := ?_) (a' := ?_) #[t_,t_,t_,t_,t_,t_,t_,t_,t_,t_,t_,f_,f_,f_,f_,f_,f_,f_,f_,f_,f_,f_,f_,f_,f_] rfl rfl (any_of HT_.out (by kernel_rfl)) (fun _ _ _ h => h) (Or.inl ⟨by rfl, ?_⟩) ?_ ?_
                 rotate_left
                 ·intro w'
                  go_simp
                  with_reducible rfl
                 rotate_left
                 ·simp only [Act.put, List.setIfInBounds_toArray, List.set_cons_zero, List.set_cons_succ, i64_w, i32_w]
                  rfl
                 refine pure_ (i := 11) (N := some 136) (v := ?_) (a' := ?_) #[t_,t_,t_,t_,t_,t_,t_,t_,t_,t_,t_,t_,f_,f_,f_,f_,f_,f_,f_,f_,f_,f_,f_,f_,f_] rfl rfl (any_of HT_.out (by kernel_rfl)) (fun _ _ _ h => h) (Or.inl ⟨by rfl, ?_⟩) ?_ ?_
                 rotate_left
                 ·intro w'
                  go_simp
                  with_reducible rfl
                 rotate_left
                 ·simp only [Act.put, List.setIfInBounds_toArray, List.set_cons_zero, List.set_cons_succ, i64_w, i32_w]
                  rfl
                 refine pure_ (i := 12) (N := some 137) (v := undef) (a' := ?_) #[t_,t_,t_,t_,t_,t_,t_,t_,t_,t_,t_,t_,t_,f_,f_,f_,f_,f_,f_,f_,f_,f_,f_,f_,f_] rfl rfl (any_of HT_.out (by kernel_rfl)) (fun _ _ _ h => h) (Or.inr ⟨by rfl, rfl⟩) ?_ ?_
                 rotate_left
                 ·simp only [Act.put, List.setIfInBounds_toArray, List.set_cons_zero, List.set_cons_succ, i64_w, i32_w]
                  rfl
                 refine pure_ (i := 13) (N := some 138) (v := undef) (a' := ?_) #[t_,t_,t_,t_,t_,t_,t_,t_,t_,t_,t_,t_,t_,t_,f_,f_,f_,f_,f_,f_,f_,f_,f_,f_,f_] rfl rfl (any_of HT_.out (by kernel_rfl)) (fun _ _ _ h => h) (Or.inr ⟨by rfl, rfl⟩) ?_ ?_
                 rotate_left
                 ·simp only [Act.put, List.setIfInBounds_toArray, List.set_cons_zero, List.set_cons_succ, i64_w, i32_w]
                  rfl
                 refine pure_ (i := 14) (N := some 139) (v := undef) (a' := ?_) #[t_,t_,t_,t_,t_,t_,t_,t_,t_,t_,t_,t_,t_,t_,t_,f_,f_,f_,f_,f_,f_,f_,f_,f_,f_] rfl rfl (any_of HT_.out (by kernel_rfl)) (fun _ _ _ h => h) (Or.inr ⟨by rfl, rfl⟩) ?_ ?_
                 rotate_left
                 ·simp only [Act.put, List.setIfInBounds_toArray, List.set_cons_zero, List.set_cons_succ, i64_w, i32_w]
                  rfl
                 refine pure_ (i := 15) (N := some 140) (v := undef) (a' := ?_) #[t_,t_,t_,t_,t_,t_,t_,t_,t_,t_,t_,t_,t_,t_,t_,t_,f_,f_,f_,f_,f_,f_,f_,f_,f_] rfl rfl (any_of HT_.out (by kernel_rfl)) (fun _ _ _ h => h) (Or.inr ⟨by rfl, rfl⟩) ?_ ?_
                 rotate_left
                 ·simp only [Act.put, List.setIfInBounds_toArray, List.set_cons_zero, List.set_cons_succ, i64_w, i32_w]
                  rfl
                 refine pure_ (i := 16) (N := some 141) (v := undef) (a' := ?_) #[t_,t_,t_,t_,t_,t_,t_,t_,t_,t_,t_,t_,t_,t_,t_,t_,t_,f_,f_,f_,f_,f_,f_,f_,f_] rfl rfl (any_of HT_.out (by kernel_rfl)) (fun _ _ _ h => h) (Or.inr ⟨by rfl, rfl⟩) ?_ ?_
                 rotate_left
                 ·simp only [Act.put, List.setIfInBounds_toArray, List.set_cons_zero, List.set_cons_succ, i64_w, i32_w]
                  rfl
                 refine pure_ (i := 17) (N := some 142) (v := undef) (a' := ?_) #[t_,t_,t_,t_,t_,t_,t_,t_,t_,t_,t_,t_,t_,t_,t_,t_,t_,t_,f_,f_,f_,f_,f_,f_,f_] rfl rfl (any_of HT_.out (by kernel_rfl)) (fun _ _ _ h => h) (Or.inr ⟨by rfl, rfl⟩) ?_ ?_
                 rotate_left
                 ·simp only [Act.put, List.setIfInBounds_toArray, List.set_cons_zero, List.set_cons_succ, i64_w, i32_w]
                  rfl
                 refine pure_ (i := 18) (N := some 143) (v := undef) (a' := ?_) #[t_,t_,t_,t_,t_,t_,t_,t_,t_,t_,t_,t_,t_,t_,t_,t_,t_,t_,t_,f_,f_,f_,f_,f_,f_] rfl rfl (any_of HT_.out (by kernel_rfl)) (fun _ _ _ h => h) (Or.inr ⟨by rfl, rfl⟩) ?_ ?_
                 rotate_left
                 ·simp only [Act.put, List.setIfInBounds_toArray, List.set_cons_zero, List.set_cons_succ, i64_w, i32_w]
                  rfl
                 refine pure_ (i := 19) (N := some 144) (v := undef) (a' := ?_) #[t_,t_,t_,t_,t_,t_,t_,t_,t_,t_,t_,t_,t_,t_,t_,t_,t_,t_,t_,t_,f_,f_,f_,f_,f_] rfl rfl (any_of HT_.out (by kernel_rfl)) (fun _ _ _ h => h) (Or.inr ⟨by rfl, rfl⟩) ?_ ?_
                 rotate_left
                 ·simp only [Act.put, List.setIfInBounds_toArray, List.set_cons_zero, List.set_cons_succ, i64_w, i32_w]
                  rfl
                 refine pure_ (i := 20) (N := some 145) (v := undef) (a' := ?_) #[t_,t_,t_,t_,t_,t_,t_,t_,t_,t_,t_,t_,t_,t_,t_,t_,t_,t_,t_,t_,t_,f_,f_,f_,f_] rfl rfl (any_of HT_.out (by kernel_rfl)) (fun _ _ _ h => h) (Or.inr ⟨by rfl, rfl⟩) ?_ ?_
                 rotate_left
                 ·simp only [Act.put, List.setIfInBounds_toArray, List.set_cons_zero, List.set_cons_succ, i64_w, i32_w]
                  rfl
                 refine pure_ (i := 21) (N := some 146) (v := undef) (a' := ?_) #[t_,t_,t_,t_,t_,t_,t_,t_,t_,t_,t_,t_,t_,t_,t_,t_,t_,t_,t_,t_,t_,t_,f_,f_,f_] rfl rfl (any_of HT_.out (by kernel_rfl)) (fun _ _ _ h => h) (Or.inr ⟨by rfl, rfl⟩) ?_ ?_
                 rotate_left
                 ·simp only [Act.put, List.setIfInBounds_toArray, List.set_cons_zero, List.set_cons_succ, i64_w, i32_w]
                  rfl
                 refine pure_ (i := 22) (N := some 147) (v := undef) (a' := ?_) #[t_,t_,t_,t_,t_,t_,t_,t_,t_,t_,t_,t_,t_,t_,t_,t_,t_,t_,t_,t_,t_,t_,t_,f_,f_] rfl rfl (any_of HT_.out (by kernel_rfl)) (fun _ _ _ h => h) (Or.inr ⟨by rfl, rfl⟩) ?_ ?_
                 rotate_left
                 ·simp only [Act.put, List.setIfInBounds_toArray, List.set_cons_zero, List.set_cons_succ, i64_w, i32_w]
                  rfl
                 refine pure_ (i := 23) (N := some 148) (v := ?_) (a' := ?_) #[t_,t_,t_,t_,t_,t_,t_,t_,t_,t_,t_,t_,t_,t_,t_,t_,t_,t_,t_,t_,t_,t_,t_,t_,f_] rfl rfl (any_of HT_.out (by kernel_rfl)) (fun _ _ _ h => h) (Or.inl ⟨by rfl, ?_⟩) ?_ ?_
                 rotate_left
                 ·intro w'
                  go_simp
                  with_reducible rfl
                 rotate_left
                 ·simp only [Act.put, List.setIfInBounds_toArray, List.set_cons_zero, List.set_cons_succ, i64_w, i32_w]
                  rfl
                 refine pure_ (i := 24) (N := some 2) (v := ?_) (a' := ?_) #[t_,t_,t_,t_,t_,t_,t_,t_,t_,t_,t_,t_,t_,t_,t_,t_,t_,t_,t_,t_,t_,t_,t_,t_,t_] rfl rfl (any_of HT_.out (by kernel_rfl)) (fun _ _ _ h => h) (Or.inl ⟨by rfl, ?_⟩) ?_ ?_
                 rotate_left
                 ·intro w'
                  go_simp
                  with_reducible rfl
                 rotate_left
                 ·simp only [Act.put, List.setIfInBounds_toArray, List.set_cons_zero, List.set_cons_succ, i64_w, i32_w]
                  rfl
                 refine done_ (done_of HT_.out (by kernel_rfl)) ?_
                 try go_wp2
                 go_ret
                 exact ⟨by first | rfl | (simp [errW_none, errW_some] <;> rfl) | (simp only [← hji8]; first | rfl | (simp [errW_none, errW_some] <;> rfl)) | (simp [*, errW_none, errW_some] <;> rfl), by exact lT HB (gC GE376 (gC GE393 (gC GE400 gN)))⟩
            ·rw [if_neg c17] at H
             exact absurd H (by simp)
           ·rw [if_neg c16] at H
            exact absurd H (by simp)
          ·rw [if_neg c15] at H
           exact absurd H (by simp)
         ·rw [if_neg c14] at H
          exact absurd H (by simp)
        ·rw [if_neg c13] at H
         exact absurd H (by simp)
       ·rw [if_neg c12] at H
        exact absurd H (by simp)
      ·rw [if_neg c11] at H
       exact absurd H (by simp)
     ·rw [if_neg c10] at H
      exact absurd H (by simp)
    ·rw [if_neg c9] at H
     exact absurd H (by simp)
  ·rw [if_neg c6] at H
   exact absurd H (by simp)

/-- THE ONE PURE STATEMENT of laws_FnSectors: yours. -/
def laws_FnSectors.Pure : Prop := ∀ (l0 : List Int), l0.length ≤ maxLen → l0.length * 1 ≤ 140737488351232 → (∀ x ∈ l0, (Lit.int .u8 x).wf = true) → ∃ k, laws_FnSectors.f k l0 = some true
theorem laws_FnSectors.walk (P : laws_FnSectors.Pure) (a0 : Option Addr) (len0 cap0 : Nat) (z0 : List Int) (w : World) (w0 : (a0 = none ∧ len0 = 0 ∧ cap0 = 0 ∧ z0 = []) ∨ ∃ x, a0 = some x ∧ len0 ≤ cap0 ∧ cap0 ≤ maxLen ∧ z0.length = cap0 ∧ (∀ i, i < z0.length → w.cell? (x.add i) = some (.int .u8 (z0.getD i 0))) ∧ ∀ n ∈ z0, (Lit.int .u8 n).wf = true) (y0 : len0 * 1 ≤ 140737488351232) :
  Calls Try.prog 3 #[.slice a0 len0 cap0] w fun e w' => e = .returned (.bool true) ∧ Below w.heap.size w w' := by
 obtain ⟨l0, rfl, hr0, hm0, hw0, hc0⟩ := ReadsInt.ofRowC w0
 obtain ⟨k, h⟩ := P l0 hm0 y0 hw0
 refine (laws_FnSectors.calls k _ _ l0 true w (Kd.C_of_reads (d := (0 : Int)) (h1 := fun _ => rfl) hr0) hc0 h).mono ?_
 rintro e w' ⟨rfl, hd⟩
 exact ⟨rfl, hd⟩

end Go.Proofs.Ytjpngldnkgofaaa.PFnSectors
