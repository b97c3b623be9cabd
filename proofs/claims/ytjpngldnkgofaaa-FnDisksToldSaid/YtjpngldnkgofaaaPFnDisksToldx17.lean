-- Written for this claim by a program of mine (a turned copy of the kit's print): functions as plain Lean, and their contracts. Lean checks it.
import Derived.Test.YtjpngldnkgofaaaPFnDisksToldx16
namespace Go.Proofs.Ytjpngldnkgofaaa.PFnDisksTold
open Go.RowKit Go.Proofs.YtjpngldnkgofaaaW.PrintWords Go.Proofs.YtjpngldnkgofaaaW.PrintLast Go.Proofs.YtjpngldnkgofaaaW.PrintMore
attribute [local go_sem] max2_int min2_int max_two min_two max_three min_three max_four min_four   -- for this text's walks alone
set_option linter.unusedVariables false
set_option linter.unusedSimpArgs false
set_option maxHeartbeats 8000000 in
set_option maxRecDepth 100000 in
theorem laws_FnDisksTold.calls (k : Nat) (A0 : Option Addr) (c0 : Nat) (l0 : List Int) (r : Bool) (w : World) (hr0 : Kd.C (Kd.int .u8) w A0 l0.length l0) (hc0 : l0.length ≤ c0) (h : laws_FnDisksTold.f k l0 = some r) :
  Calls Try.prog 7 #[.slice A0 l0.length c0] w fun e w' => e = .returned (.bool r) ∧ Below w.heap.size w w' := by
 have hu27 := Try.underlying27
 have HR0 := Aside0.mk hr0
 have HC0 := Aside0.mk hc0
 clear hr0 hc0
 have HB := ak (Below.refl w.heap.size w)
 have H : ((laws_big.f l0).bind fun t441 => (if t441 = true then (some true) else ((spec_DrawDiskOk.f k l0).bind fun bt442 => ((spec_DrawReadSector.f k l0).bind fun bt449 => ((impl_ReadSector.f k bt449.1 bt449.2.1 bt449.2.2).bind fun bt457 => ((spec_ReadSector.f k bt449.1 bt449.2.1 bt449.2.2).bind fun bt459 => ((spec_DrawSectorText.f k l0).bind fun bt461 => ((impl_SectorText.f k bt461.1 bt461.2.1 bt461.2.2.1 bt461.2.2.2).bind fun bt470 => ((spec_SectorText.f k bt461.1 bt461.2.1 bt461.2.2.1 bt461.2.2.2).bind fun bt472 => ((impl_DiskNew.f k 3).bind fun bt474 => ((impl_DiskNew.f k 0).bind fun bt482 => ((impl_DiskOk.f bt442.1 bt442.2).bind fun t490 => ((spec_DiskOk.f k bt442.1 bt442.2).bind fun t491 => (if (t490 == t491) = true then (if (bt457.2 == bt459.2) = true then (if bt457.1.toList = bt459.1.toList then (if (bt470.2 == bt472.2) = true then (if bt470.1.toList = bt472.1.toList then ((impl_FlushDisk.f k bt442.1 bt442.2).bind fun bt492 => ((spec_FlushDisk.f k bt442.1 bt442.2).bind fun bt498 => ((laws_sameDisk.f k bt492.1 bt492.2 bt498.1 bt498.2).bind fun t504 => (if t504 = true then (if bt474.2.2 = true then (if bt482.2.2 = true then (some false) else (some ((bt474.1.length : Int) == 3))) else (some false)) else (some false))))) else (some false)) else (some false)) else (some false)) else (some false)) else (some false))))))))))))))) = some r := h
 clear h
 replace H := Option.bind_eq_some_iff.mp H
 obtain ⟨t441, A20, H⟩ := H
 replace H : (if t441 = true then (some true) else ((spec_DrawDiskOk.f k l0).bind fun bt442 => ((spec_DrawReadSector.f k l0).bind fun bt449 => ((impl_ReadSector.f k bt449.1 bt449.2.1 bt449.2.2).bind fun bt457 => ((spec_ReadSector.f k bt449.1 bt449.2.1 bt449.2.2).bind fun bt459 => ((spec_DrawSectorText.f k l0).bind fun bt461 => ((impl_SectorText.f k bt461.1 bt461.2.1 bt461.2.2.1 bt461.2.2.2).bind fun bt470 => ((spec_SectorText.f k bt461.1 bt461.2.1 bt461.2.2.1 bt461.2.2.2).bind fun bt472 => ((impl_DiskNew.f k 3).bind fun bt474 => ((impl_DiskNew.f k 0).bind fun bt482 => ((impl_DiskOk.f bt442.1 bt442.2).bind fun t490 => ((spec_DiskOk.f k bt442.1 bt442.2).bind fun t491 => (if (t490 == t491) = true then (if (bt457.2 == bt459.2) = true then (if bt457.1.toList = bt459.1.toList then (if (bt470.2 == bt472.2) = true then (if bt470.1.toList = bt472.1.toList then ((impl_FlushDisk.f k bt442.1 bt442.2).bind fun bt492 => ((spec_FlushDisk.f k bt442.1 bt442.2).bind fun bt498 => ((laws_sameDisk.f k bt492.1 bt492.2 bt498.1 bt498.2).bind fun t504 => (if t504 = true then (if bt474.2.2 = true then (if bt482.2.2 = true then (some false) else (some ((bt474.1.length : Int) == 3))) else (some false)) else (some false))))) else (some false)) else (some false)) else (some false)) else (some false)) else (some false)))))))))))))) = some r := H
 have A2 := Aside0.mk A20
 clear A20
 by_cases c3 : t441 = true
 ·subst c3
  have H1 : (some true) = some r := by rw [if_pos rfl] at H; exact H
  clear H
  have H := H1
  clear H1
  obtain rfl := Option.some.inj H
  exact laws_FnDisksTold.leaf0 k A0 c0 l0 w HR0 HC0 HB A2 H
 ·replace c3 := Bool.eq_false_iff.mpr c3
  subst c3
  have H1 : ((spec_DrawDiskOk.f k l0).bind fun bt442 => ((spec_DrawReadSector.f k l0).bind fun bt449 => ((impl_ReadSector.f k bt449.1 bt449.2.1 bt449.2.2).bind fun bt457 => ((spec_ReadSector.f k bt449.1 bt449.2.1 bt449.2.2).bind fun bt459 => ((spec_DrawSectorText.f k l0).bind fun bt461 => ((impl_SectorText.f k bt461.1 bt461.2.1 bt461.2.2.1 bt461.2.2.2).bind fun bt470 => ((spec_SectorText.f k bt461.1 bt461.2.1 bt461.2.2.1 bt461.2.2.2).bind fun bt472 => ((impl_DiskNew.f k 3).bind fun bt474 => ((impl_DiskNew.f k 0).bind fun bt482 => ((impl_DiskOk.f bt442.1 bt442.2).bind fun t490 => ((spec_DiskOk.f k bt442.1 bt442.2).bind fun t491 => (if (t490 == t491) = true then (if (bt457.2 == bt459.2) = true then (if bt457.1.toList = bt459.1.toList then (if (bt470.2 == bt472.2) = true then (if bt470.1.toList = bt472.1.toList then ((impl_FlushDisk.f k bt442.1 bt442.2).bind fun bt492 => ((spec_FlushDisk.f k bt442.1 bt442.2).bind fun bt498 => ((laws_sameDisk.f k bt492.1 bt492.2 bt498.1 bt498.2).bind fun t504 => (if t504 = true then (if bt474.2.2 = true then (if bt482.2.2 = true then (some false) else (some ((bt474.1.length : Int) == 3))) else (some false)) else (some false))))) else (some false)) else (some false)) else (some false)) else (some false)) else (some false))))))))))))) = some r := by rw [if_neg (show ¬ (false = true) by decide)] at H; exact H
  clear H
  have H := H1
  clear H1
  replace H := Option.bind_eq_some_iff.mp H
  obtain ⟨⟨t442, t445⟩, A40, H⟩ := H
  replace H : ((spec_DrawReadSector.f k l0).bind fun bt449 => ((impl_ReadSector.f k bt449.1 bt449.2.1 bt449.2.2).bind fun bt457 => ((spec_ReadSector.f k bt449.1 bt449.2.1 bt449.2.2).bind fun bt459 => ((spec_DrawSectorText.f k l0).bind fun bt461 => ((impl_SectorText.f k bt461.1 bt461.2.1 bt461.2.2.1 bt461.2.2.2).bind fun bt470 => ((spec_SectorText.f k bt461.1 bt461.2.1 bt461.2.2.1 bt461.2.2.2).bind fun bt472 => ((impl_DiskNew.f k 3).bind fun bt474 => ((impl_DiskNew.f k 0).bind fun bt482 => ((impl_DiskOk.f t442 t445).bind fun t490 => ((spec_DiskOk.f k t442 t445).bind fun t491 => (if (t490 == t491) = true then (if (bt457.2 == bt459.2) = true then (if bt457.1.toList = bt459.1.toList then (if (bt470.2 == bt472.2) = true then (if bt470.1.toList = bt472.1.toList then ((impl_FlushDisk.f k t442 t445).bind fun bt492 => ((spec_FlushDisk.f k t442 t445).bind fun bt498 => ((laws_sameDisk.f k bt492.1 bt492.2 bt498.1 bt498.2).bind fun t504 => (if t504 = true then (if bt474.2.2 = true then (if bt482.2.2 = true then (some false) else (some ((bt474.1.length : Int) == 3))) else (some false)) else (some false))))) else (some false)) else (some false)) else (some false)) else (some false)) else (some false)))))))))))) = some r := H
  have A4 := Aside0.mk A40
  clear A40
  replace H := Option.bind_eq_some_iff.mp H
  obtain ⟨⟨t449, t452, t455⟩, A50, H⟩ := H
  replace H : ((impl_ReadSector.f k t449 t452 t455).bind fun bt457 => ((spec_ReadSector.f k t449 t452 t455).bind fun bt459 => ((spec_DrawSectorText.f k l0).bind fun bt461 => ((impl_SectorText.f k bt461.1 bt461.2.1 bt461.2.2.1 bt461.2.2.2).bind fun bt470 => ((spec_SectorText.f k bt461.1 bt461.2.1 bt461.2.2.1 bt461.2.2.2).bind fun bt472 => ((impl_DiskNew.f k 3).bind fun bt474 => ((impl_DiskNew.f k 0).bind fun bt482 => ((impl_DiskOk.f t442 t445).bind fun t490 => ((spec_DiskOk.f k t442 t445).bind fun t491 => (if (t490 == t491) = true then (if (bt457.2 == bt459.2) = true then (if bt457.1.toList = bt459.1.toList then (if (bt470.2 == bt472.2) = true then (if bt470.1.toList = bt472.1.toList then ((impl_FlushDisk.f k t442 t445).bind fun bt492 => ((spec_FlushDisk.f k t442 t445).bind fun bt498 => ((laws_sameDisk.f k bt492.1 bt492.2 bt498.1 bt498.2).bind fun t504 => (if t504 = true then (if bt474.2.2 = true then (if bt482.2.2 = true then (some false) else (some ((bt474.1.length : Int) == 3))) else (some false)) else (some false))))) else (some false)) else (some false)) else (some false)) else (some false)) else (some false))))))))))) = some r := H
  have A5 := Aside0.mk A50
  clear A50
  replace H := Option.bind_eq_some_iff.mp H
  obtain ⟨⟨t457, t458⟩, A60, H⟩ := H
  replace H : ((spec_ReadSector.f k t449 t452 t455).bind fun bt459 => ((spec_DrawSectorText.f k l0).bind fun bt461 => ((impl_SectorText.f k bt461.1 bt461.2.1 bt461.2.2.1 bt461.2.2.2).bind fun bt470 => ((spec_SectorText.f k bt461.1 bt461.2.1 bt461.2.2.1 bt461.2.2.2).bind fun bt472 => ((impl_DiskNew.f k 3).bind fun bt474 => ((impl_DiskNew.f k 0).bind fun bt482 => ((impl_DiskOk.f t442 t445).bind fun t490 => ((spec_DiskOk.f k t442 t445).bind fun t491 => (if (t490 == t491) = true then (if (t458 == bt459.2) = true then (if t457.toList = bt459.1.toList then (if (bt470.2 == bt472.2) = true then (if bt470.1.toList = bt472.1.toList then ((impl_FlushDisk.f k t442 t445).bind fun bt492 => ((spec_FlushDisk.f k t442 t445).bind fun bt498 => ((laws_sameDisk.f k bt492.1 bt492.2 bt498.1 bt498.2).bind fun t504 => (if t504 = true then (if bt474.2.2 = true then (if bt482.2.2 = true then (some false) else (some ((bt474.1.length : Int) == 3))) else (some false)) else (some false))))) else (some false)) else (some false)) else (some false)) else (some false)) else (some false)))))))))) = some r := H
  have A6 := Aside0.mk A60
  clear A60
  replace H := Option.bind_eq_some_iff.mp H
  obtain ⟨⟨t459, t460⟩, A70, H⟩ := H
  replace H : ((spec_DrawSectorText.f k l0).bind fun bt461 => ((impl_SectorText.f k bt461.1 bt461.2.1 bt461.2.2.1 bt461.2.2.2).bind fun bt470 => ((spec_SectorText.f k bt461.1 bt461.2.1 bt461.2.2.1 bt461.2.2.2).bind fun bt472 => ((impl_DiskNew.f k 3).bind fun bt474 => ((impl_DiskNew.f k 0).bind fun bt482 => ((impl_DiskOk.f t442 t445).bind fun t490 => ((spec_DiskOk.f k t442 t445).bind fun t491 => (if (t490 == t491) = true then (if (t458 == t460) = true then (if t457.toList = t459.toList then (if (bt470.2 == bt472.2) = true then (if bt470.1.toList = bt472.1.toList then ((impl_FlushDisk.f k t442 t445).bind fun bt492 => ((spec_FlushDisk.f k t442 t445).bind fun bt498 => ((laws_sameDisk.f k bt492.1 bt492.2 bt498.1 bt498.2).bind fun t504 => (if t504 = true then (if bt474.2.2 = true then (if bt482.2.2 = true then (some false) else (some ((bt474.1.length : Int) == 3))) else (some false)) else (some false))))) else (some false)) else (some false)) else (some false)) else (some false)) else (some false))))))))) = some r := H
  have A7 := Aside0.mk A70
  clear A70
  replace H := Option.bind_eq_some_iff.mp H
  obtain ⟨⟨t461, t464, t467, t468⟩, A80, H⟩ := H
  replace H : ((impl_SectorText.f k t461 t464 t467 t468).bind fun bt470 => ((spec_SectorText.f k t461 t464 t467 t468).bind fun bt472 => ((impl_DiskNew.f k 3).bind fun bt474 => ((impl_DiskNew.f k 0).bind fun bt482 => ((impl_DiskOk.f t442 t445).bind fun t490 => ((spec_DiskOk.f k t442 t445).bind fun t491 => (if (t490 == t491) = true then (if (t458 == t460) = true then (if t457.toList = t459.toList then (if (bt470.2 == bt472.2) = true then (if bt470.1.toList = bt472.1.toList then ((impl_FlushDisk.f k t442 t445).bind fun bt492 => ((spec_FlushDisk.f k t442 t445).bind fun bt498 => ((laws_sameDisk.f k bt492.1 bt492.2 bt498.1 bt498.2).bind fun t504 => (if t504 = true then (if bt474.2.2 = true then (if bt482.2.2 = true then (some false) else (some ((bt474.1.length : Int) == 3))) else (some false)) else (some false))))) else (some false)) else (some false)) else (some false)) else (some false)) else (some false)))))))) = some r := H
  have A8 := Aside0.mk A80
  clear A80
  replace H := Option.bind_eq_some_iff.mp H
  obtain ⟨⟨t470, t471⟩, A90, H⟩ := H
  replace H : ((spec_SectorText.f k t461 t464 t467 t468).bind fun bt472 => ((impl_DiskNew.f k 3).bind fun bt474 => ((impl_DiskNew.f k 0).bind fun bt482 => ((impl_DiskOk.f t442 t445).bind fun t490 => ((spec_DiskOk.f k t442 t445).bind fun t491 => (if (t490 == t491) = true then (if (t458 == t460) = true then (if t457.toList = t459.toList then (if (t471 == bt472.2) = true then (if t470.toList = bt472.1.toList then ((impl_FlushDisk.f k t442 t445).bind fun bt492 => ((spec_FlushDisk.f k t442 t445).bind fun bt498 => ((laws_sameDisk.f k bt492.1 bt492.2 bt498.1 bt498.2).bind fun t504 => (if t504 = true then (if bt474.2.2 = true then (if bt482.2.2 = true then (some false) else (some ((bt474.1.length : Int) == 3))) else (some false)) else (some false))))) else (some false)) else (some false)) else (some false)) else (some false)) else (some false))))))) = some r := H
  have A9 := Aside0.mk A90
  clear A90
  replace H := Option.bind_eq_some_iff.mp H
  obtain ⟨⟨t472, t473⟩, A100, H⟩ := H
  replace H : ((impl_DiskNew.f k 3).bind fun bt474 => ((impl_DiskNew.f k 0).bind fun bt482 => ((impl_DiskOk.f t442 t445).bind fun t490 => ((spec_DiskOk.f k t442 t445).bind fun t491 => (if (t490 == t491) = true then (if (t458 == t460) = true then (if t457.toList = t459.toList then (if (t471 == t473) = true then (if t470.toList = t472.toList then ((impl_FlushDisk.f k t442 t445).bind fun bt492 => ((spec_FlushDisk.f k t442 t445).bind fun bt498 => ((laws_sameDisk.f k bt492.1 bt492.2 bt498.1 bt498.2).bind fun t504 => (if t504 = true then (if bt474.2.2 = true then (if bt482.2.2 = true then (some false) else (some ((bt474.1.length : Int) == 3))) else (some false)) else (some false))))) else (some false)) else (some false)) else (some false)) else (some false)) else (some false)))))) = some r := H
  have A10 := Aside0.mk A100
  clear A100
  replace H := Option.bind_eq_some_iff.mp H
  obtain ⟨⟨t474, t477, t480⟩, A110, H⟩ := H
  replace H : ((impl_DiskNew.f k 0).bind fun bt482 => ((impl_DiskOk.f t442 t445).bind fun t490 => ((spec_DiskOk.f k t442 t445).bind fun t491 => (if (t490 == t491) = true then (if (t458 == t460) = true then (if t457.toList = t459.toList then (if (t471 == t473) = true then (if t470.toList = t472.toList then ((impl_FlushDisk.f k t442 t445).bind fun bt492 => ((spec_FlushDisk.f k t442 t445).bind fun bt498 => ((laws_sameDisk.f k bt492.1 bt492.2 bt498.1 bt498.2).bind fun t504 => (if t504 = true then (if t480 = true then (if bt482.2.2 = true then (some false) else (some ((t474.length : Int) == 3))) else (some false)) else (some false))))) else (some false)) else (some false)) else (some false)) else (some false)) else (some false))))) = some r := H
  have A11 := Aside0.mk A110
  clear A110
  replace H := Option.bind_eq_some_iff.mp H
  obtain ⟨⟨t482, t485, t488⟩, A120, H⟩ := H
  replace H : ((impl_DiskOk.f t442 t445).bind fun t490 => ((spec_DiskOk.f k t442 t445).bind fun t491 => (if (t490 == t491) = true then (if (t458 == t460) = true then (if t457.toList = t459.toList then (if (t471 == t473) = true then (if t470.toList = t472.toList then ((impl_FlushDisk.f k t442 t445).bind fun bt492 => ((spec_FlushDisk.f k t442 t445).bind fun bt498 => ((laws_sameDisk.f k bt492.1 bt492.2 bt498.1 bt498.2).bind fun t504 => (if t504 = true then (if t480 = true then (if t488 = true then (some false) else (some ((t474.length : Int) == 3))) else (some false)) else (some false))))) else (some false)) else (some false)) else (some false)) else (some false)) else (some false)))) = some r := H
  have A12 := Aside0.mk A120
  clear A120
  replace H := Option.bind_eq_some_iff.mp H
  obtain ⟨t490, A130, H⟩ := H
  replace H : ((spec_DiskOk.f k t442 t445).bind fun t491 => (if (t490 == t491) = true then (if (t458 == t460) = true then (if t457.toList = t459.toList then (if (t471 == t473) = true then (if t470.toList = t472.toList then ((impl_FlushDisk.f k t442 t445).bind fun bt492 => ((spec_FlushDisk.f k t442 t445).bind fun bt498 => ((laws_sameDisk.f k bt492.1 bt492.2 bt498.1 bt498.2).bind fun t504 => (if t504 = true then (if t480 = true then (if t488 = true then (some false) else (some ((t474.length : Int) == 3))) else (some false)) else (some false))))) else (some false)) else (some false)) else (some false)) else (some false)) else (some false))) = some r := H
  have A13 := Aside0.mk A130
  clear A130
  replace H := Option.bind_eq_some_iff.mp H
  obtain ⟨t491, A140, H⟩ := H
  replace H : (if (t490 == t491) = true then (if (t458 == t460) = true then (if t457.toList = t459.toList then (if (t471 == t473) = true then (if t470.toList = t472.toList then ((impl_FlushDisk.f k t442 t445).bind fun bt492 => ((spec_FlushDisk.f k t442 t445).bind fun bt498 => ((laws_sameDisk.f k bt492.1 bt492.2 bt498.1 bt498.2).bind fun t504 => (if t504 = true then (if t480 = true then (if t488 = true then (some false) else (some ((t474.length : Int) == 3))) else (some false)) else (some false))))) else (some false)) else (some false)) else (some false)) else (some false)) else (some false)) = some r := H
  have A14 := Aside0.mk A140
  clear A140
  by_cases c15 : (t490 == t491) = true
  ·rw [if_pos c15] at H
   have c15b0 : (t490 == t491) = true := c15
   (try (have c15b1 : decide (t490 = t491) = true := by simpa using c15))
   (try (have c15b2 : (t490 == t491) = true := by simpa using c15))
   clear c15
   by_cases c16 : (t458 == t460) = true
   ·rw [if_pos c16] at H
    have c16b0 : (t458 == t460) = true := c16
    (try (have c16b1 : decide (t458 = t460) = true := by simpa using c16))
    (try (have c16b2 : (t458 == t460) = true := by simpa using c16))
    clear c16
    by_cases c17 : t457.toList = t459.toList
    ·rw [if_pos c17] at H
     have c17b0 : (t457.toList == t459.toList) = true := beq_iff_eq.mpr c17
     have c17b1 : (t457.toList != t459.toList) = false := bne_eq_false_iff_eq.mpr c17
     clear c17
     by_cases c18 : (t471 == t473) = true
     ·rw [if_pos c18] at H
      have c18b0 : (t471 == t473) = true := c18
      (try (have c18b1 : decide (t471 = t473) = true := by simpa using c18))
      (try (have c18b2 : (t471 == t473) = true := by simpa using c18))
      clear c18
      by_cases c19 : t470.toList = t472.toList
      ·rw [if_pos c19] at H
       have c19b0 : (t470.toList == t472.toList) = true := beq_iff_eq.mpr c19
       have c19b1 : (t470.toList != t472.toList) = false := bne_eq_false_iff_eq.mpr c19
       clear c19
       replace H := Option.bind_eq_some_iff.mp H
       obtain ⟨⟨t492, t495⟩, A200, H⟩ := H
       replace H : ((spec_FlushDisk.f k t442 t445).bind fun bt498 => ((laws_sameDisk.f k t492 t495 bt498.1 bt498.2).bind fun t504 => (if t504 = true then (if t480 = true then (if t488 = true then (some false) else (some ((t474.length : Int) == 3))) else (some false)) else (some false)))) = some r := H
       have A20 := Aside0.mk A200
       clear A200
       replace H := Option.bind_eq_some_iff.mp H
       obtain ⟨⟨t498, t501⟩, A210, H⟩ := H
       replace H : ((laws_sameDisk.f k t492 t495 t498 t501).bind fun t504 => (if t504 = true then (if t480 = true then (if t488 = true then (some false) else (some ((t474.length : Int) == 3))) else (some false)) else (some false))) = some r := H
       have A21 := Aside0.mk A210
       clear A210
       replace H := Option.bind_eq_some_iff.mp H
       obtain ⟨t504, A220, H⟩ := H
       replace H : (if t504 = true then (if t480 = true then (if t488 = true then (some false) else (some ((t474.length : Int) == 3))) else (some false)) else (some false)) = some r := H
       have A22 := Aside0.mk A220
       clear A220
       by_cases c23 : t504 = true
       ·subst c23
        have H1 : (if t480 = true then (if t488 = true then (some false) else (some ((t474.length : Int) == 3))) else (some false)) = some r := by rw [if_pos rfl] at H; exact H
        clear H
        have H := H1
        clear H1
        by_cases c24 : t480 = true
        ·subst c24
         have H1 : (if t488 = true then (some false) else (some ((t474.length : Int) == 3))) = some r := by rw [if_pos rfl] at H; exact H
         clear H
         have H := H1
         clear H1
         by_cases c25 : t488 = true
         ·subst c25
          have H1 : (some false) = some r := by rw [if_pos rfl] at H; exact H
          clear H
          have H := H1
          clear H1
          obtain rfl := Option.some.inj H
          exact laws_FnDisksTold.leaf1 k A0 c0 l0 w HR0 HC0 HB A2 t442 t445 A4 t449 t452 t455 A5 t457 t458 A6 t459 t460 A7 t461 t464 t467 t468 A8 t470 t471 A9 t472 t473 A10 t474 t477 t482 t485 t490 A13 t491 A14 c15b0 c15b1 c15b2 c16b0 c16b1 c16b2 c17b0 c17b1 c18b0 c18b1 c18b2 c19b0 c19b1 t492 t495 A20 t498 t501 A21 A22 A11 A12 H
         ·replace c25 := Bool.eq_false_iff.mpr c25
          subst c25
          have H1 : (some ((t474.length : Int) == 3)) = some r := by rw [if_neg (show ¬ (false = true) by decide)] at H; exact H
          clear H
          have H := H1
          clear H1
          obtain rfl := Option.some.inj H
          exact laws_FnDisksTold.leaf2 k A0 c0 l0 w HR0 HC0 HB A2 t442 t445 A4 t449 t452 t455 A5 t457 t458 A6 t459 t460 A7 t461 t464 t467 t468 A8 t470 t471 A9 t472 t473 A10 t474 t477 t482 t485 t490 A13 t491 A14 c15b0 c15b1 c15b2 c16b0 c16b1 c16b2 c17b0 c17b1 c18b0 c18b1 c18b2 c19b0 c19b1 t492 t495 A20 t498 t501 A21 A22 A11 A12 H
        ·replace c24 := Bool.eq_false_iff.mpr c24
         subst c24
         have H1 : (some false) = some r := by rw [if_neg (show ¬ (false = true) by decide)] at H; exact H
         clear H
         have H := H1
         clear H1
         obtain rfl := Option.some.inj H
         exact laws_FnDisksTold.leaf3 k A0 c0 l0 w HR0 HC0 HB A2 t442 t445 A4 t449 t452 t455 A5 t457 t458 A6 t459 t460 A7 t461 t464 t467 t468 A8 t470 t471 A9 t472 t473 A10 t474 t477 t482 t485 t488 A12 t490 A13 t491 A14 c15b0 c15b1 c15b2 c16b0 c16b1 c16b2 c17b0 c17b1 c18b0 c18b1 c18b2 c19b0 c19b1 t492 t495 A20 t498 t501 A21 A22 A11 H
       ·replace c23 := Bool.eq_false_iff.mpr c23
        subst c23
        have H1 : (some false) = some r := by rw [if_neg (show ¬ (false = true) by decide)] at H; exact H
        clear H
        have H := H1
        clear H1
        obtain rfl := Option.some.inj H
        exact laws_FnDisksTold.leaf4 k A0 c0 l0 w HR0 HC0 HB A2 t442 t445 A4 t449 t452 t455 A5 t457 t458 A6 t459 t460 A7 t461 t464 t467 t468 A8 t470 t471 A9 t472 t473 A10 t474 t477 t480 A11 t482 t485 t488 A12 t490 A13 t491 A14 c15b0 c15b1 c15b2 c16b0 c16b1 c16b2 c17b0 c17b1 c18b0 c18b1 c18b2 c19b0 c19b1 t492 t495 A20 t498 t501 A21 A22 H
      ·rw [if_neg c19] at H
       have c19b0 : (t470.toList == t472.toList) = false := beq_eq_false_iff_ne.mpr c19
       have c19b1 : (t470.toList != t472.toList) = true := bne_iff_ne.mpr c19
       obtain rfl := Option.some.inj H
       exact laws_FnDisksTold.leaf5 k A0 c0 l0 w HR0 HC0 HB A2 t442 t445 A4 t449 t452 t455 A5 t457 t458 A6 t459 t460 A7 t461 t464 t467 t468 A8 t470 t471 A9 t472 t473 A10 t474 t477 t480 A11 t482 t485 t488 A12 t490 A13 t491 A14 c15b0 c15b1 c15b2 c16b0 c16b1 c16b2 c17b0 c17b1 c18b0 c18b1 c18b2 c19 c19b0 c19b1 H
     ·rw [if_neg c18] at H
      have c18b0 : (t471 == t473) = false := by simpa using c18
      (try (have c18b1 : decide (t471 = t473) = false := by simpa using c18))
      (try (have c18b2 : (t471 == t473) = false := by simpa using c18))
      (try (have c18b3 : ¬ (t471 = t473) := by simpa using c18))
      clear c18
      obtain rfl := Option.some.inj H
      exact laws_FnDisksTold.leaf6 k A0 c0 l0 w HR0 HC0 HB A2 t442 t445 A4 t449 t452 t455 A5 t457 t458 A6 t459 t460 A7 t461 t464 t467 t468 A8 t470 t471 A9 t472 t473 A10 t474 t477 t480 A11 t482 t485 t488 A12 t490 A13 t491 A14 c15b0 c15b1 c15b2 c16b0 c16b1 c16b2 c17b0 c17b1 c18b0 c18b1 c18b2 c18b3 H
    ·rw [if_neg c17] at H
     have c17b0 : (t457.toList == t459.toList) = false := beq_eq_false_iff_ne.mpr c17
     have c17b1 : (t457.toList != t459.toList) = true := bne_iff_ne.mpr c17
     obtain rfl := Option.some.inj H
     exact laws_FnDisksTold.leaf7 k A0 c0 l0 w HR0 HC0 HB A2 t442 t445 A4 t449 t452 t455 A5 t457 t458 A6 t459 t460 A7 t461 t464 t467 t468 A8 t470 t471 A9 t472 t473 A10 t474 t477 t480 A11 t482 t485 t488 A12 t490 A13 t491 A14 c15b0 c15b1 c15b2 c16b0 c16b1 c16b2 c17 c17b0 c17b1 H
   ·rw [if_neg c16] at H
    have c16b0 : (t458 == t460) = false := by simpa using c16
    (try (have c16b1 : decide (t458 = t460) = false := by simpa using c16))
    (try (have c16b2 : (t458 == t460) = false := by simpa using c16))
    (try (have c16b3 : ¬ (t458 = t460) := by simpa using c16))
    clear c16
    obtain rfl := Option.some.inj H
    exact laws_FnDisksTold.leaf8 k A0 c0 l0 w HR0 HC0 HB A2 t442 t445 A4 t449 t452 t455 A5 t457 t458 A6 t459 t460 A7 t461 t464 t467 t468 A8 t470 t471 A9 t472 t473 A10 t474 t477 t480 A11 t482 t485 t488 A12 t490 A13 t491 A14 c15b0 c15b1 c15b2 c16b0 c16b1 c16b2 c16b3 H
  ·rw [if_neg c15] at H
   have c15b0 : (t490 == t491) = false := by simpa using c15
   (try (have c15b1 : decide (t490 = t491) = false := by simpa using c15))
   (try (have c15b2 : (t490 == t491) = false := by simpa using c15))
   (try (have c15b3 : ¬ (t490 = t491) := by simpa using c15))
   clear c15
   obtain rfl := Option.some.inj H
   exact laws_FnDisksTold.leaf9 k A0 c0 l0 w HR0 HC0 HB A2 t442 t445 A4 t449 t452 t455 A5 t457 t458 A6 t459 t460 A7 t461 t464 t467 t468 A8 t470 t471 A9 t472 t473 A10 t474 t477 t480 A11 t482 t485 t488 A12 t490 A13 t491 A14 c15b0 c15b1 c15b2 c15b3 H
/-- THE ONE PURE STATEMENT of laws_FnDisksTold: yours. -/
def laws_FnDisksTold.Pure : Prop := ∀ (l0 : List Int), l0.length ≤ maxLen → l0.length * 1 ≤ 140737488351232 → (∀ x ∈ l0, (Lit.int .u8 x).wf = true) → ∃ k, laws_FnDisksTold.f k l0 = some true
theorem laws_FnDisksTold.walk (P : laws_FnDisksTold.Pure) (a0 : Option Addr) (len0 cap0 : Nat) (z0 : List Int) (w : World) (w0 : (a0 = none ∧ len0 = 0 ∧ cap0 = 0 ∧ z0 = []) ∨ ∃ x, a0 = some x ∧ len0 ≤ cap0 ∧ cap0 ≤ maxLen ∧ z0.length = cap0 ∧ (∀ i, i < z0.length → w.cell? (x.add i) = some (.int .u8 (z0.getD i 0))) ∧ ∀ n ∈ z0, (Lit.int .u8 n).wf = true) (y0 : len0 * 1 ≤ 140737488351232) :
  Calls Try.prog 7 #[.slice a0 len0 cap0] w fun e w' => e = .returned (.bool true) ∧ Below w.heap.size w w' := by
 obtain ⟨l0, rfl, hr0, hm0, hw0, hc0⟩ := ReadsInt.ofRowC w0
 obtain ⟨k, h⟩ := P l0 hm0 y0 hw0
 refine (laws_FnDisksTold.calls k _ _ l0 true w (Kd.C_of_reads (d := (0 : Int)) (h1 := fun _ => rfl) hr0) hc0 h).mono ?_
 rintro e w' ⟨rfl, hd⟩
 exact ⟨rfl, hd⟩

end Go.Proofs.Ytjpngldnkgofaaa.PFnDisksTold
