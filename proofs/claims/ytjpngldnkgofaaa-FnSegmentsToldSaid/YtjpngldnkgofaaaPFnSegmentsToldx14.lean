-- Written by a program of mine (a turned copy of the kit's print): functions as plain Lean, their contracts.
import Derived.Test.YtjpngldnkgofaaaPFnSegmentsToldx13
import Derived.Test.YtjpngldnkgofaaaVFnSegmentsTold1
namespace Go.Proofs.Ytjpngldnkgofaaa.PFnSegmentsTold
open Go.RowKit Go.Proofs.YtjpngldnkgofaaaW.PrintWords Go.Proofs.YtjpngldnkgofaaaW.PrintLast Go.Proofs.YtjpngldnkgofaaaW.PrintMore
attribute [local go_sem] max2_int min2_int max_two min_two max_three min_three max_four min_four   -- for this text's walks alone
set_option maxHeartbeats 8000000
set_option maxRecDepth 100000
set_option linter.unusedVariables false
set_option linter.unusedSimpArgs false
/-! ### spec_l05Any: function 68 -/
def spec_l05Any.f (k : Nat) (s0_0 : List Int) (s0_1 : Int) (s0_2 : Int) : Option (List ByteArray × (List (S63)) × Int × Int) := (spec_l01Below.f s0_0 s0_1 s0_2 10).bind fun bt459 => ((spec_l01Below.f s0_0 bt459.2.1 bt459.2.2 60).bind fun bt462 => ((spec_l05Disk.f k s0_0 bt462.2.1 bt462.2.2).bind fun bt465 => ((spec_l03Copy.f bt465.1 bt465.2.1).bind fun bt473 => (if bt459.1 = 0 then (if (bt473.1.length : Int) = 0 then (none) else (if 0 ≤ (Int.tmod bt462.1 (bt473.1.length : Int)) then (if (Int.tmod bt462.1 (bt473.1.length : Int)) ≤ (bt473.1.length : Int) then (some ((bt473.1.take ((Int.tmod bt462.1 (bt473.1.length : Int)) : Int).toNat), bt473.2, bt465.2.2.1, bt465.2.2.2)) else (none)) else (none))) else (if bt459.1 = 1 then (if (wrap64 (8 + (Int.tmod bt462.1 30))) < (bt473.1.length : Int) then ((spec_l01Long.f k 32 ((bt462.1) % 256)).bind fun t483 => (if 0 ≤ (wrap64 (8 + (Int.tmod bt462.1 30))) then (some ((bt473.1.set ((wrap64 (8 + (Int.tmod bt462.1 30))) : Int).toNat t483), bt473.2, bt465.2.2.1, bt465.2.2.2)) else (none))) else (some (bt473.1, bt473.2, bt465.2.2.1, bt465.2.2.2))) else (if bt459.1 = 2 then ((spec_l03Any.f k s0_0 bt465.2.2.1 bt465.2.2.2).bind fun bt485 => (some (bt485.1, bt485.2.1, bt485.2.2.1, bt485.2.2.2))) else (some (bt473.1, bt473.2, bt465.2.2.1, bt465.2.2.2))))))))
theorem spec_l05Any.mono : ∀ a0 a1 a2 k, LeO (spec_l05Any.f k a0 a1 a2) (spec_l05Any.f (k + 1) a0 a1 a2) := by
 intro a0 a1 a2 k
 unfold spec_l05Any.f
 repeat' first
   | (with_reducible exact spec_l01Long.mono _ _ _)
   | (with_reducible exact spec_l03Any.mono _ _ _ _)
   | (with_reducible exact spec_l05Disk.mono _ _ _ _)
   | (with_reducible exact LeO.refl _)
   | (with_reducible exact LeO.none _)
   | (with_reducible refine LeO.ite ?_ ?_)
   | (with_reducible refine LeO.bind ?_ (fun _ => ?_))
   | exact spec_l01Long.mono _ _ _
   | exact spec_l03Any.mono _ _ _ _
   | exact spec_l05Disk.mono _ _ _ _
   | exact LeO.none _
   | refine LeO.ite ?_ ?_
   | refine LeO.bind ?_ (fun _ => ?_)
def spec_l05Any.T6 : Bool × List (List Nat × List Nat) := (true, [([], []), ([0], [0]), ([], []), ([], []), ([3], [3]), ([4], [4]), ([2, 5], [2, 5]), ([1, 6], [1, 6]), ([0, 1, 2, 3, 4, 5, 6, 7], []), ([8, 7, 0, 1, 2, 3, 4, 5, 6, 7], [7, 8])])
def spec_l05Any.B6 : List Nat := [0, 1, 0, 0, 8, 24, 60, 127, 255, 511]
theorem spec_l05Any.tab6 : rtab .any (opsOf Try.f68 6) = spec_l05Any.T6 := by kernel_rfl
theorem spec_l05Any.bits6 : waitsOk spec_l05Any.T6.2 spec_l05Any.B6 = true := by kernel_rfl
def spec_l05Any.T10 : Bool × List (List Nat × List Nat) := (true, [([], []), ([0], [0]), ([], []), ([], []), ([3], [3]), ([4], [4]), ([1, 2, 0, 1, 2, 3, 4, 5], [1, 2]), ([6, 5, 5, 0, 1, 2, 3, 4, 5], [5, 6])])
def spec_l05Any.B10 : List Nat := [0, 1, 0, 0, 8, 24, 63, 127]
theorem spec_l05Any.tab10 : rtab .any (opsOf Try.f68 10) = spec_l05Any.T10 := by kernel_rfl
theorem spec_l05Any.bits10 : waitsOk spec_l05Any.T10.2 spec_l05Any.B10 = true := by kernel_rfl
theorem spec_l05Any.calls (k : Nat) (g : Nat) (s0_0 : List Int) (s0_1 : Int) (s0_2 : Int) (r1 : List ByteArray) (r2 : List (S63)) (r3 : Int) (r4 : Int) (w0 w : World) (hI : IsS80 w0 w g s0_0 s0_1 s0_2) (hB : Below w0.heap.size w0 w) (h : spec_l05Any.f k s0_0 s0_1 s0_2 = some (r1, r2, r3, r4)) :
  Calls Try.prog 68 #[.pointer (some ⟨g, 0, none⟩)] w fun e w' => ∃ v0_ v1_ : Value, e = .returned (.agg #[v0_, v1_]) ∧ Kd.R Kd.string 9 w' w.heap.size (fun _ => True) v0_ r1 ∧ Kd.R k63 63 w' w.heap.size (fun _ => True) v1_ r2 ∧ IsS80 w0 w' g s0_0 r3 r4 ∧ Below w0.heap.size w0 w' ∧ KeepBut w w' g none := by
 have hu27 := Try.underlying27
 have HI0 := Aside0.mk hI
 have HK := ak (KeepBut.refl w g none)
 have HL := Aside0.mk hB.size
 clear hI
 have HW0 := Aside0.mk hB.size
 have HB := Aside0.mk hB
 clear hB
 have H : ((spec_l01Below.f s0_0 s0_1 s0_2 10).bind fun bt459 => ((spec_l01Below.f s0_0 bt459.2.1 bt459.2.2 60).bind fun bt462 => ((spec_l05Disk.f k s0_0 bt462.2.1 bt462.2.2).bind fun bt465 => ((spec_l03Copy.f bt465.1 bt465.2.1).bind fun bt473 => (if bt459.1 = 0 then (if (bt473.1.length : Int) = 0 then (none) else (if 0 ≤ (Int.tmod bt462.1 (bt473.1.length : Int)) then (if (Int.tmod bt462.1 (bt473.1.length : Int)) ≤ (bt473.1.length : Int) then (some ((bt473.1.take ((Int.tmod bt462.1 (bt473.1.length : Int)) : Int).toNat), bt473.2, bt465.2.2.1, bt465.2.2.2)) else (none)) else (none))) else (if bt459.1 = 1 then (if (wrap64 (8 + (Int.tmod bt462.1 30))) < (bt473.1.length : Int) then ((spec_l01Long.f k 32 ((bt462.1) % 256)).bind fun t483 => (if 0 ≤ (wrap64 (8 + (Int.tmod bt462.1 30))) then (some ((bt473.1.set ((wrap64 (8 + (Int.tmod bt462.1 30))) : Int).toNat t483), bt473.2, bt465.2.2.1, bt465.2.2.2)) else (none))) else (some (bt473.1, bt473.2, bt465.2.2.1, bt465.2.2.2))) else (if bt459.1 = 2 then ((spec_l03Any.f k s0_0 bt465.2.2.1 bt465.2.2.2).bind fun bt485 => (some (bt485.1, bt485.2.1, bt485.2.2.1, bt485.2.2.2))) else (some (bt473.1, bt473.2, bt465.2.2.1, bt465.2.2.2))))))))) = some (r1, r2, r3, r4) := h
 clear h
 replace H := Option.bind_eq_some_iff.mp H
 obtain ⟨⟨t459, t460, t461⟩, A20, H⟩ := H
 replace H : ((spec_l01Below.f s0_0 t460 t461 60).bind fun bt462 => ((spec_l05Disk.f k s0_0 bt462.2.1 bt462.2.2).bind fun bt465 => ((spec_l03Copy.f bt465.1 bt465.2.1).bind fun bt473 => (if t459 = 0 then (if (bt473.1.length : Int) = 0 then (none) else (if 0 ≤ (Int.tmod bt462.1 (bt473.1.length : Int)) then (if (Int.tmod bt462.1 (bt473.1.length : Int)) ≤ (bt473.1.length : Int) then (some ((bt473.1.take ((Int.tmod bt462.1 (bt473.1.length : Int)) : Int).toNat), bt473.2, bt465.2.2.1, bt465.2.2.2)) else (none)) else (none))) else (if t459 = 1 then (if (wrap64 (8 + (Int.tmod bt462.1 30))) < (bt473.1.length : Int) then ((spec_l01Long.f k 32 ((bt462.1) % 256)).bind fun t483 => (if 0 ≤ (wrap64 (8 + (Int.tmod bt462.1 30))) then (some ((bt473.1.set ((wrap64 (8 + (Int.tmod bt462.1 30))) : Int).toNat t483), bt473.2, bt465.2.2.1, bt465.2.2.2)) else (none))) else (some (bt473.1, bt473.2, bt465.2.2.1, bt465.2.2.2))) else (if t459 = 2 then ((spec_l03Any.f k s0_0 bt465.2.2.1 bt465.2.2.2).bind fun bt485 => (some (bt485.1, bt485.2.1, bt485.2.2.1, bt485.2.2.2))) else (some (bt473.1, bt473.2, bt465.2.2.1, bt465.2.2.2)))))))) = some (r1, r2, r3, r4) := H
 have A2 := Aside0.mk A20
 clear A20
 replace H := Option.bind_eq_some_iff.mp H
 obtain ⟨⟨t462, t463, t464⟩, A30, H⟩ := H
 replace H : ((spec_l05Disk.f k s0_0 t463 t464).bind fun bt465 => ((spec_l03Copy.f bt465.1 bt465.2.1).bind fun bt473 => (if t459 = 0 then (if (bt473.1.length : Int) = 0 then (none) else (if 0 ≤ (Int.tmod t462 (bt473.1.length : Int)) then (if (Int.tmod t462 (bt473.1.length : Int)) ≤ (bt473.1.length : Int) then (some ((bt473.1.take ((Int.tmod t462 (bt473.1.length : Int)) : Int).toNat), bt473.2, bt465.2.2.1, bt465.2.2.2)) else (none)) else (none))) else (if t459 = 1 then (if (wrap64 (8 + (Int.tmod t462 30))) < (bt473.1.length : Int) then ((spec_l01Long.f k 32 ((t462) % 256)).bind fun t483 => (if 0 ≤ (wrap64 (8 + (Int.tmod t462 30))) then (some ((bt473.1.set ((wrap64 (8 + (Int.tmod t462 30))) : Int).toNat t483), bt473.2, bt465.2.2.1, bt465.2.2.2)) else (none))) else (some (bt473.1, bt473.2, bt465.2.2.1, bt465.2.2.2))) else (if t459 = 2 then ((spec_l03Any.f k s0_0 bt465.2.2.1 bt465.2.2.2).bind fun bt485 => (some (bt485.1, bt485.2.1, bt485.2.2.1, bt485.2.2.2))) else (some (bt473.1, bt473.2, bt465.2.2.1, bt465.2.2.2))))))) = some (r1, r2, r3, r4) := H
 have A3 := Aside0.mk A30
 clear A30
 replace H := Option.bind_eq_some_iff.mp H
 obtain ⟨⟨t465, t468, t471, t472⟩, A40, H⟩ := H
 replace H : ((spec_l03Copy.f t465 t468).bind fun bt473 => (if t459 = 0 then (if (bt473.1.length : Int) = 0 then (none) else (if 0 ≤ (Int.tmod t462 (bt473.1.length : Int)) then (if (Int.tmod t462 (bt473.1.length : Int)) ≤ (bt473.1.length : Int) then (some ((bt473.1.take ((Int.tmod t462 (bt473.1.length : Int)) : Int).toNat), bt473.2, t471, t472)) else (none)) else (none))) else (if t459 = 1 then (if (wrap64 (8 + (Int.tmod t462 30))) < (bt473.1.length : Int) then ((spec_l01Long.f k 32 ((t462) % 256)).bind fun t483 => (if 0 ≤ (wrap64 (8 + (Int.tmod t462 30))) then (some ((bt473.1.set ((wrap64 (8 + (Int.tmod t462 30))) : Int).toNat t483), bt473.2, t471, t472)) else (none))) else (some (bt473.1, bt473.2, t471, t472))) else (if t459 = 2 then ((spec_l03Any.f k s0_0 t471 t472).bind fun bt485 => (some (bt485.1, bt485.2.1, bt485.2.2.1, bt485.2.2.2))) else (some (bt473.1, bt473.2, t471, t472)))))) = some (r1, r2, r3, r4) := H
 have A4 := Aside0.mk A40
 clear A40
 replace H := Option.bind_eq_some_iff.mp H
 obtain ⟨⟨t473, t476⟩, A50, H⟩ := H
 replace H : (if t459 = 0 then (if (t473.length : Int) = 0 then (none) else (if 0 ≤ (Int.tmod t462 (t473.length : Int)) then (if (Int.tmod t462 (t473.length : Int)) ≤ (t473.length : Int) then (some ((t473.take ((Int.tmod t462 (t473.length : Int)) : Int).toNat), t476, t471, t472)) else (none)) else (none))) else (if t459 = 1 then (if (wrap64 (8 + (Int.tmod t462 30))) < (t473.length : Int) then ((spec_l01Long.f k 32 ((t462) % 256)).bind fun t483 => (if 0 ≤ (wrap64 (8 + (Int.tmod t462 30))) then (some ((t473.set ((wrap64 (8 + (Int.tmod t462 30))) : Int).toNat t483), t476, t471, t472)) else (none))) else (some (t473, t476, t471, t472))) else (if t459 = 2 then ((spec_l03Any.f k s0_0 t471 t472).bind fun bt485 => (some (bt485.1, bt485.2.1, bt485.2.2.1, bt485.2.2.2))) else (some (t473, t476, t471, t472))))) = some (r1, r2, r3, r4) := H
 have A5 := Aside0.mk A50
 clear A50
 by_cases c6 : t459 = 0
 ·rw [if_pos c6] at H
  have c6b0 : (t459 == 0) = true := beq_iff_eq.mpr c6
  have c6b1 : (t459 != 0) = false := bne_eq_false_iff_eq.mpr c6
  clear c6
  by_cases c7 : (t473.length : Int) = 0
  ·rw [if_pos c7] at H
   exact absurd H (by simp)
  ·rw [if_neg c7] at H
   have c7b0 : ((t473.length : Int) == 0) = false := beq_eq_false_iff_ne.mpr c7
   have c7b1 : ((t473.length : Int) != 0) = true := bne_iff_ne.mpr c7
   have c7b2 : ¬ (t473 = []) := fun h_ => c7 (by rw [h_]; rfl)
   obtain ⟨ji8, hji8⟩ : ∃ j_ : Int, (Int.tmod t462 (t473.length : Int)) = j_ := ⟨_, rfl⟩
   replace H : (if 0 ≤ (ji8) then (if (ji8) ≤ (t473.length : Int) then (some ((t473.take ((ji8) : Int).toNat), t476, t471, t472)) else (none)) else (none)) = some (r1, r2, r3, r4) := by first | (rw [hji8] at H; exact H) | (simp only [hji8] at H ⊢; exact H)
   (try rw [hji8] at A2)
   (try rw [hji8] at A3)
   (try rw [hji8] at A4)
   (try rw [hji8] at A5)
   by_cases c9 : 0 ≤ (ji8)
   ·rw [if_pos c9] at H
    have c9b0 := eq_true c9
    have c9b1 : decide (0 ≤ (ji8)) = true := decide_eq_true c9
    clear c9
    by_cases c10 : (ji8) ≤ (t473.length : Int)
    ·rw [if_pos c10] at H
     have c10b0 := eq_true c10
     have c10b1 : decide ((ji8) ≤ (t473.length : Int)) = true := decide_eq_true c10
     clear c10
     obtain ⟨y480, hy480⟩ : ∃ y_ : List ByteArray, y_ = (t473.take ((ji8) : Int).toNat) := ⟨_, rfl⟩
     replace H : (some (y480, t476, t471, t472)) = some (r1, r2, r3, r4) := by first | (rw [hy480]; with_reducible exact H) | (have H2_ := (Option.bind_some _ _).symm.trans H; rw [hy480]; with_reducible exact H2_) | (have H2_ := (Option.bind_some _ _).symm.trans H; with_reducible exact H2_) | with_reducible exact H | (rw [hy480]; exact H) | exact H
     have Ny480 := Aside0.mk hy480
     clear hy480
     simp only [Option.some.injEq, Prod.mk.injEq] at H
     obtain ⟨rfl, rfl, rfl, rfl⟩ := H
     go_enter Try.func68, Try.ntmps68
     try go_wp2_with (first | ((with_reducible refine gate_dst (N := 2) rfl ?_); refine bx 2 #[.slice none 0 0, .slice none 0 0] 27 ?_; intro gb458 hg w11 hbox hb; replace HB := ak (below_step (lT HB gN) hb); replace BK458 := ak (hbox); replace GW458 := ak ((by rw [hg]; exact (keep_size (w := w) (g := g) (row := none) (kT HK gN)) : w.heap.size ≤ gb458)); replace GE458 := ak ((Nat.le_trans HW0.out (by rw [hg]; exact (keep_size (w := w) (g := g) (row := none) (kT HK gN)) : w.heap.size ≤ gb458) : w0.heap.size ≤ gb458)); replace HK := ak (KeepBut.trans (kT HK gN) (KeepBut.of_below hb g none) (.inl rfl)); replace NB0_458 := ak ((by rw [hg]; exact Nat.ne_of_lt (IsS80.lt (show IsS80 w0 _ g s0_0 s0_1 s0_2 from IsS80.T_ HI0 nN)) : g ≠ gb458)); replace NB458_0 := ak ((by rw [hg]; exact Nat.ne_of_gt (IsS80.lt (show IsS80 w0 _ g s0_0 s0_1 s0_2 from IsS80.T_ HI0 nN)) : gb458 ≠ g)); replace HI0 := ak (IsS80.below (IsS80.T_ HI0 nN) hb); clear hb hbox hg) | ((with_reducible refine gate_callee (f := 47) rfl ?_); refine gl (some 8) Try.func47 #[.pointer (some ⟨g, 0, none⟩), .int .i64 10] ?_; (with_reducible refine (spec_l01Below.calls g s0_0 s0_1 s0_2 10 t459 t460 t461 w0 _ ?side1 ?side2 A2.out).mono ?_); (case side1 => exact IsS80.T_ HI0 (nC NB0_458 nN)); (case side2 => exact lT HB (gC GE458 gN)); rintro e w12 ⟨rfl, hi, hb, hk⟩; refine ⟨_, rfl, ?_⟩; replace BK458 := ak (KeepBut.blk hk (g' := gb458) (o := .cells #[.slice none 0 0, .slice none 0 0] 27 (0, 0)) (bG BK458) NB458_0.out (by simp)); replace HK := ak (KeepBut.trans (kT HK (gC GW458 gN)) hk (.inl rfl)); replace HB := ak (hb); replace HI0 := ak (hi); (try clear hb); (try clear hk); (try clear hi)) | ((with_reducible refine gate_callee (f := 47) rfl ?_); refine gl (some 10) Try.func47 #[.pointer (some ⟨g, 0, none⟩), .int .i64 60] ?_; (with_reducible refine (spec_l01Below.calls g s0_0 t460 t461 60 t462 t463 t464 w0 _ ?side1 ?side2 A3.out).mono ?_); (case side1 => exact IsS80.T_ HI0 (nC NB0_458 nN)); (case side2 => exact lT HB (gC GE458 gN)); rintro e w13 ⟨rfl, hi, hb, hk⟩; refine ⟨_, rfl, ?_⟩; replace BK458 := ak (KeepBut.blk hk (g' := gb458) (o := .cells #[.slice none 0 0, .slice none 0 0] 27 (0, 0)) (bG BK458) NB458_0.out (by simp)); replace HK := ak (KeepBut.trans (kT HK (gC GW458 gN)) hk (.inl rfl)); replace HB := ak (hb); replace HI0 := ak (hi); (try clear hb); (try clear hk); (try clear hi)) | ((with_reducible refine gate_callee (f := 59) rfl ?_); refine gl (some 12) Try.func59 #[.pointer (some ⟨g, 0, none⟩)] ?_; (with_reducible refine (spec_l05Disk.calls k g s0_0 t463 t464 t465 t468 t471 t472 w0 _ ?side1 ?side2 A4.out).mono ?_); (case side1 => exact IsS80.T_ HI0 (nC NB0_458 nN)); (case side2 => exact lT HB (gC GE458 gN)); rintro e w14 ⟨v466, v469, rfl, ho0, ho1, hi, hb, hk⟩; refine ⟨_, rfl, ?_⟩; replace BK458 := ak (KeepBut.blk hk (g' := gb458) (o := .cells #[.slice none 0 0, .slice none 0 0] 27 (0, 0)) (bG BK458) NB458_0.out (by simp)); replace HO467 := ak (Kd.R_lower ho0 (keep_size (w := w) (g := g) (row := none) (kT HK (gC GW458 gN)))); replace HO470 := ak (Kd.R_lower ho1 (keep_size (w := w) (g := g) (row := none) (kT HK (gC GW458 gN)))); replace HK := ak (KeepBut.trans (kT HK (gC GW458 gN)) hk (.inl rfl)); replace HB := ak (hb); replace HI0 := ak (hi); (try clear hb); (try clear hk); (try clear hi); (try clear ho0); (try clear ho1); obtain ⟨Ao15, co15, eo15⟩ := Kd.R_slice HO467.out; subst eo15; obtain ⟨Ao16, co16, eo16⟩ := Kd.R_slice HO470.out; subst eo16) | ((with_reducible refine gate_callee (f := 58) rfl ?_); refine gl (some 13) Try.func58 #[.agg #[.slice Ao15 t465.length co15, .slice Ao16 t468.length co16]] ?_; (with_reducible refine (spec_l03Copy.calls _ _ t465 _ _ t468 t473 t476 _ ?side1 ?side2 ?side3 ?side4 A5.out).mono ?_); (case side1 => exact cG (Kd.R_reads' HO467.out).2.2); (case side2 => exact (Kd.R_reads' HO467.out).2.1); (case side3 => exact cG (Kd.R_reads' HO470.out).2.2); (case side4 => exact (Kd.R_reads' HO470.out).2.1); rintro e w17 ⟨v474, v477, rfl, ho0, ho1, hb⟩; refine ⟨_, rfl, ?_⟩; replace HO475 := ak (Kd.R_lower (Kd.R_new' ho0 (Kd.R_lt (rG HO467))) (keep_size (w := w) (g := g) (row := none) (kT HK (gC GW458 gN)))); replace HO467 := ak (Kd.R_elder' (rG HO467) (Kd.R_base ho0) hb); replace HO478 := ak (Kd.R_lower (Kd.R_new' ho1 (Kd.R_lt (rG HO470))) (keep_size (w := w) (g := g) (row := none) (kT HK (gC GW458 gN)))); replace HO470 := ak (Kd.R_elder' (rG HO470) (Kd.R_base ho1) hb); replace BK458 := bB BK458 hb; replace HK := ak (KeepBut.trans (kT HK (gC GW458 gN)) (KeepBut.of_below hb g none) (.inl rfl)); replace HB := ak (below_step (lT HB (gC GE458 gN)) hb); replace HI0 := ak (IsS80.below (IsS80.T_ HI0 (nC NB0_458 nN)) hb); (try clear hb); (try clear hk); (try clear hi); (try clear ho0); (try clear ho1)) | ((with_reducible refine gate_dst (N := 5) rfl ?_); refine bx 5 #[.slice none 0 0, .slice none 0 0] 27 ?_; intro gb479 hg w18 hbox hb; replace HO467 := rB HO467 hb; replace HO470 := rB HO470 hb; replace HO475 := rB HO475 hb; replace HO478 := rB HO478 hb; replace HB := ak (below_step (lT HB (gC GE458 gN)) hb); replace BK479 := ak (hbox); replace GW479 := ak ((by rw [hg]; exact (keep_size (w := w) (g := g) (row := none) (kT HK (gC GW458 gN))) : w.heap.size ≤ gb479)); replace GE479 := ak ((Nat.le_trans HW0.out (by rw [hg]; exact (keep_size (w := w) (g := g) (row := none) (kT HK (gC GW458 gN))) : w.heap.size ≤ gb479) : w0.heap.size ≤ gb479)); replace HK := ak (KeepBut.trans (kT HK (gC GW458 gN)) (KeepBut.of_below hb g none) (.inl rfl)); replace NB458_479 := ak (nl hg (bG BK458)); replace NB479_458 := ak (ng hg (bG BK458)); replace BK458 := bB BK458 hb; replace NB0_479 := ak ((by rw [hg]; exact Nat.ne_of_lt (IsS80.lt (show IsS80 w0 _ g s0_0 t471 t472 from IsS80.T_ HI0 (nC NB0_458 nN))) : g ≠ gb479)); replace NB479_0 := ak ((by rw [hg]; exact Nat.ne_of_gt (IsS80.lt (show IsS80 w0 _ g s0_0 t471 t472 from IsS80.T_ HI0 (nC NB0_458 nN))) : gb479 ≠ g)); replace HI0 := ak (IsS80.below (IsS80.T_ HI0 (nC NB0_458 nN)) hb); clear hb hbox hg; obtain ⟨Ao19, co19, eo19⟩ := Kd.R_slice HO475.out; subst eo19; have hnb20 := NB479_458.out; have hnc20 := NB458_479.out; have hnb21 := NB479_0.out; have hnc21 := NB0_479.out; obtain ⟨hcz22_0, hcz22_1, hfz22_0, hfz22_1⟩ := bC2 BK479; obtain ⟨Ao23, co23, eo23⟩ := Kd.R_slice HO478.out; subst eo23))
     have n0_ : Aside0 (Kd.R Kd.string 9 ((w18.setCell ⟨gb479, 0, none⟩ (.slice Ao19 t473.length co19)).setCell ⟨gb479, 1, none⟩ (.slice Ao23 t476.length co23)) w.heap.size (fun k_ => some k_ ≠ (.slice Ao19 t473.length co19 : Value).ownBlock) (.slice Ao15 t465.length co15) t465) := ⟨by (with_reducible repeat (first | apply Kd.R_alloc | apply Kd.R_drewN | apply Kd.R_drew)); exact Kd.R_mono (Kd.R_far (p := ⟨gb479, 1, none⟩) (Kd.R_far (p := ⟨gb479, 0, none⟩) (Kd.R_types HO467.out BK479.out (by decide)) (fun _ hk => hk.2) (.slice Ao19 t473.length co19)) (fun _ hk => hk.2) (.slice Ao23 t476.length co23)) (fun _ hk => hk.1.2)⟩
     have n1_ : Aside0 (Kd.R k63 63 ((w18.setCell ⟨gb479, 0, none⟩ (.slice Ao19 t473.length co19)).setCell ⟨gb479, 1, none⟩ (.slice Ao23 t476.length co23)) w.heap.size (fun k_ => some k_ ≠ (.slice Ao23 t476.length co23 : Value).ownBlock) (.slice Ao16 t468.length co16) t468) := ⟨by (with_reducible repeat (first | apply Kd.R_alloc | apply Kd.R_drewN | apply Kd.R_drew)); exact Kd.R_mono (Kd.R_far (p := ⟨gb479, 1, none⟩) (Kd.R_far (p := ⟨gb479, 0, none⟩) (Kd.R_types HO470.out BK479.out (by decide)) (fun _ hk => hk.2) (.slice Ao19 t473.length co19)) (fun _ hk => hk.2) (.slice Ao23 t476.length co23)) (fun _ hk => hk.1.2)⟩
     have n2_ : Aside0 (Kd.R Kd.string 9 ((w18.setCell ⟨gb479, 0, none⟩ (.slice Ao19 t473.length co19)).setCell ⟨gb479, 1, none⟩ (.slice Ao23 t476.length co23)) w.heap.size (fun k_ => some k_ ≠ (.slice Ao15 t465.length co15 : Value).ownBlock) (.slice Ao19 t473.length co19) t473) := ⟨by (with_reducible repeat (first | apply Kd.R_alloc | apply Kd.R_drewN | apply Kd.R_drew)); exact Kd.R_mono (Kd.R_far (p := ⟨gb479, 1, none⟩) (Kd.R_far (p := ⟨gb479, 0, none⟩) (Kd.R_types HO475.out BK479.out (by decide)) (fun _ hk => hk.2) (.slice Ao19 t473.length co19)) (fun _ hk => hk.2) (.slice Ao23 t476.length co23)) (fun _ hk => hk.1.2)⟩
     have n3_ : Aside0 (Kd.R k63 63 ((w18.setCell ⟨gb479, 0, none⟩ (.slice Ao19 t473.length co19)).setCell ⟨gb479, 1, none⟩ (.slice Ao23 t476.length co23)) w.heap.size (fun k_ => some k_ ≠ (.slice Ao16 t468.length co16 : Value).ownBlock) (.slice Ao23 t476.length co23) t476) := ⟨by (with_reducible repeat (first | apply Kd.R_alloc | apply Kd.R_drewN | apply Kd.R_drew)); exact Kd.R_mono (Kd.R_far (p := ⟨gb479, 1, none⟩) (Kd.R_far (p := ⟨gb479, 0, none⟩) (Kd.R_types HO478.out BK479.out (by decide)) (fun _ hk => hk.2) (.slice Ao19 t473.length co19)) (fun _ hk => hk.2) (.slice Ao23 t476.length co23)) (fun _ hk => hk.1.2)⟩
     have n4_ : Aside0 (((w18.setCell ⟨gb479, 0, none⟩ (.slice Ao19 t473.length co19)).setCell ⟨gb479, 1, none⟩ (.slice Ao23 t476.length co23)).heap[gb458]? = some (.cells #[.slice none 0 0, .slice none 0 0] 27 (0, 0))) := ⟨by (with_reducible repeat (first | refine blk_drewN ?_ _ | refine blk_drew ?_ | refine blk_alloc ?_ _)); refine blk_far ?_ NB458_479.out _; (with_reducible repeat (first | refine blk_drewN ?_ _ | refine blk_drew ?_ | refine blk_alloc ?_ _)); refine blk_far ?_ NB458_479.out _; (with_reducible repeat (first | refine blk_drewN ?_ _ | refine blk_drew ?_ | refine blk_alloc ?_ _)); exact BK458.out⟩
     have n5_ : Aside0 (((w18.setCell ⟨gb479, 0, none⟩ (.slice Ao19 t473.length co19)).setCell ⟨gb479, 1, none⟩ (.slice Ao23 t476.length co23)).heap[gb479]? = some (.cells #[.slice Ao19 t473.length co19, .slice Ao23 t476.length co23] 27 (0, 0))) := ⟨bW BK479⟩
     have n6_ : Aside0 (IsS80 w0 ((w18.setCell ⟨gb479, 0, none⟩ (.slice Ao19 t473.length co19)).setCell ⟨gb479, 1, none⟩ (.slice Ao23 t476.length co23)) g s0_0 t471 t472) := ⟨IsS80.T_ HI0 (nC NB0_458 (nC NB0_479 nN))⟩
     have n7_ : Aside0 (KeepBut w ((w18.setCell ⟨gb479, 0, none⟩ (.slice Ao19 t473.length co19)).setCell ⟨gb479, 1, none⟩ (.slice Ao23 t476.length co23)) g none) := ⟨kT HK (gC GW458 (gC GW479 gN))⟩
     have n8_ : Aside0 (Below w0.heap.size w0 ((w18.setCell ⟨gb479, 0, none⟩ (.slice Ao19 t473.length co19)).setCell ⟨gb479, 1, none⟩ (.slice Ao23 t476.length co23))) := ⟨lT HB (gC GE458 (gC GE479 gN))⟩
     (try clear HO467)
     (try clear HO470)
     (try clear HO475)
     (try clear HO478)
     (try clear BK458)
     (try clear BK479)
     (try clear HI0)
     (try clear HK)
     (try clear HB)
     generalize ((w18.setCell ⟨gb479, 0, none⟩ (.slice Ao19 t473.length co19)).setCell ⟨gb479, 1, none⟩ (.slice Ao23 t476.length co23)) = w24 at n0_ n1_ n2_ n3_ n4_ n5_ n6_ n7_ n8_ ⊢
     have HO467 := n0_
     have HO470 := n1_
     have HO475 := n2_
     have HO478 := n3_
     have BK458 := n4_
     have BK479 := n5_
     have HI0 := n6_
     have HK := n7_
     have HB := n8_
     clear n0_ n1_ n2_ n3_ n4_ n5_ n6_ n7_ n8_
     replace HO467 := ak (Kd.R_drew HO467.out)
     replace HO470 := ak (Kd.R_drew HO470.out)
     replace HO475 := ak (Kd.R_drew HO475.out)
     replace HO478 := ak (Kd.R_drew HO478.out)
     replace BK458 := ak (blk_drew BK458.out)
     replace BK479 := ak (blk_drew BK479.out)
     replace HI0 := ak (IsS80.drew HI0.out)
     replace HK := ak (keep_drew HK.out)
     replace HB := ak (below_drew1 HB.out)
     have q26 : ((ji8) : Int) ≤ ((t473.length : Int) : Int) := of_decide_eq_true (by first | (with_reducible assumption) | assumption)
     obtain ⟨i026, hi026, _, hsz26, _⟩ := info_parts info9
     have hcut26 := cut_to (P := Try.prog) 24 9 .i64 Try.underlying24 hi026 Ao19 t473.length co19 (ji8) (of_decide_eq_true (by first | (with_reducible assumption) | assumption)) q26 (Kd.R_reads' HO475.out).2.1
     have hr26 := Kd.R_take (m := ((ji8) : Int).toNat) HO475.out (by omega)
     have hy26 : y480.length = ((ji8) : Int).toNat := (by rw [Ny480.out, List.length_take]; omega)
     rw [← Ny480.out] at hr26
     rw [← hy26] at hr26 hcut26
     clear hy26 hi026 hsz26 HO475
     have HO482 := Aside0.mk hr26
     clear hr26
     replace q26 := eq_true q26
     refine start_ (n := 10) (S := fun w' => w'.cell? ⟨gb479, 0, none⟩ = some (.slice Ao19 t473.length co19) ∧ w'.cell? ⟨gb479, 1, none⟩ = some (.slice Ao23 t476.length co23)) (ds := [9]) #[f_,f_,f_,f_,f_,f_,f_,f_,f_,f_] (by kernel_rfl) rfl rfl ⟨bc BK479 0, bc BK479 1⟩ (fun hHeld => ?_); refine with_tabW spec_l05Any.tab6 spec_l05Any.bits6 (fun HT_ HW_ => ?_)
     generalize w24.drew = w25 at HO467 HO470 HO478 BK458 BK479 HI0 HK HB HO482 hHeld ⊢
     refine pu 0 17 (fb 10 1) HT_ ?_
     refine pu 2 19 (fb 10 5) HT_ ?_
     refine pu 3 20 (fb 10 13) HT_ ?_
     refine tk 1 18 (fb 10 15) HT_ HW_ hHeld ?_
     refine tk 4 21 (fb 10 31) HT_ HW_ hHeld ?_
     refine pu 5 22 (fb 10 63) HT_ ?_
     refine pu 6 23 (fb 10 127) HT_ ?_
     refine pu 7 24 (fb 10 255) HT_ ?_
     refine pu 8 25 (fb 10 511) HT_ ?_
     refine last_ (i := 9) (N := none) #[t_,t_,t_,t_,t_,t_,t_,t_,t_,t_] rfl rfl (one_of HT_.out (by kernel_rfl)) (by decide) (fun K hK => ?_)
     have hs27 : w25.cell? ⟨gb479, 0, none⟩ = some (.slice Ao19 t473.length co19) := bc BK479 0
     have hfs27 := blk_frozen BK479.out 0
     have hns27_0 := NB458_479.out
     have hms27_0 := NB479_458.out
     refine skip_ (w1 := ?_) (by rfl) rfl ?_ ?_
     rotate_left
     ·go_simp
      rfl
     refine hK.out _ _ ?_
     clear hK K
     refine done_ (done_of HT_.out (by kernel_rfl)) ?_
     have hcz28_0 : w25.cell? ⟨gb479, 0, none⟩ = some (.slice Ao19 t473.length co19) := bc BK479 0
     have hcz28_1 : w25.cell? ⟨gb479, 1, none⟩ = some (.slice Ao23 t476.length co23) := bc BK479 1
     have hfz28_0 := blk_frozen BK479.out 0
     have hfz28_1 := blk_frozen BK479.out 1
     have hnb29 := NB458_0.out
     have hnc29 := NB0_458.out
     have hcz30_0 : w25.cell? ⟨gb458, 0, none⟩ = some (.slice none 0 0) := bc BK458 0
     have hcz30_1 : w25.cell? ⟨gb458, 1, none⟩ = some (.slice none 0 0) := bc BK458 1
     have hfz30_0 := blk_frozen BK458.out 0
     have hfz30_1 := blk_frozen BK458.out 1
     try go_wp2
     refine bodyPost_ret (results_cell_row rfl _ _ gb458 27 #[.slice Ao19 y480.length co19, .slice Ao23 t476.length co23] (0, 0) _ rfl (by (with_reducible repeat (first | refine blk_drewN ?_ _ | refine blk_drew ?_ | refine blk_alloc ?_ _)); refine blk_put (cs := #[.slice Ao19 y480.length co19, .slice none 0 0]) ?_ 1 _ rfl; (with_reducible repeat (first | refine blk_drewN ?_ _ | refine blk_drew ?_ | refine blk_alloc ?_ _)); refine blk_put (cs := #[.slice none 0 0, .slice none 0 0]) ?_ 0 _ rfl; (with_reducible repeat (first | refine blk_drewN ?_ _ | refine blk_drew ?_ | refine blk_alloc ?_ _)); refine blk_far ?_ NB458_479.out _; (with_reducible repeat (first | refine blk_drewN ?_ _ | refine blk_drew ?_ | refine blk_alloc ?_ _)); exact BK458.out) Try.underlying27 rfl (by kernel_rfl)) rfl ?_
     exact ⟨_, _, by first | rfl | (simp [errW_none, errW_some] <;> rfl) | (simp only [← hji8]; first | rfl | (simp [errW_none, errW_some] <;> rfl)) | (simp [*, errW_none, errW_some] <;> rfl), by exact Kd.R_mono (rT2 HO482 BK479 BK458 (by decide) (by decide)) (fun _ hk => trivial), by exact Kd.R_mono (rT2 HO478 BK479 BK458 (by decide) (by decide)) (fun _ hk => trivial), IsS80.T_ HI0 (nC NB0_458 (nC NB0_479 nN)), lT HB (gC GE458 (gC GE479 gN)), kT HK (gC GW458 (gC GW479 gN))⟩
    ·rw [if_neg c10] at H
     exact absurd H (by simp)
   ·rw [if_neg c9] at H
    exact absurd H (by simp)
 ·rw [if_neg c6] at H
  have c6b0 : (t459 == 0) = false := beq_eq_false_iff_ne.mpr c6
  have c6b1 : (t459 != 0) = true := bne_iff_ne.mpr c6
  by_cases c31 : t459 = 1
  ·rw [if_pos c31] at H
   have c31b0 : (t459 == 1) = true := beq_iff_eq.mpr c31
   have c31b1 : (t459 != 1) = false := bne_eq_false_iff_eq.mpr c31
   clear c31
   by_cases c32 : (wrap64 (8 + (Int.tmod t462 30))) < (t473.length : Int)
   ·rw [if_pos c32] at H
    have c32b0 : decide ((wrap64 (8 + (Int.tmod t462 30))) < (t473.length : Int)) = true := decide_eq_true c32
    clear c32
    replace H := Option.bind_eq_some_iff.mp H
    obtain ⟨t483, A330, H⟩ := H
    replace H : (if 0 ≤ (wrap64 (8 + (Int.tmod t462 30))) then (some ((t473.set ((wrap64 (8 + (Int.tmod t462 30))) : Int).toNat t483), t476, t471, t472)) else (none)) = some (r1, r2, r3, r4) := H
    have A33 := Aside0.mk A330
    clear A330
    obtain ⟨ji34, hji34⟩ : ∃ j_ : Int, (wrap64 (8 + (Int.tmod t462 30))) = j_ := ⟨_, rfl⟩
    replace H : (if 0 ≤ (ji34) then (some ((t473.set ((ji34) : Int).toNat t483), t476, t471, t472)) else (none)) = some (r1, r2, r3, r4) := by first | (rw [hji34] at H; exact H) | (simp only [hji34] at H ⊢; exact H)
    (try rw [hji34] at c32b0)
    (try rw [hji34] at A2)
    (try rw [hji34] at A3)
    (try rw [hji34] at A4)
    (try rw [hji34] at A5)
    (try rw [hji34] at A33)
    have hji34w : (IntKind.i64.wrap (8 + (Int.tmod t462 30))) = ji34 := (i64_w _).trans hji34
    by_cases c35 : 0 ≤ (ji34)
    ·rw [if_pos c35] at H
     have c35b0 : decide (0 ≤ (ji34)) = true := decide_eq_true c35
     clear c35
     obtain ⟨y484, hy484⟩ : ∃ y_ : List ByteArray, y_ = (t473.set ((ji34) : Int).toNat t483) := ⟨_, rfl⟩
     replace H : (some (y484, t476, t471, t472)) = some (r1, r2, r3, r4) := by first | (rw [hy484]; with_reducible exact H) | (have H2_ := (Option.bind_some _ _).symm.trans H; rw [hy484]; with_reducible exact H2_) | (have H2_ := (Option.bind_some _ _).symm.trans H; with_reducible exact H2_) | with_reducible exact H | (rw [hy484]; exact H) | exact H
     have Ny484 := Aside0.mk hy484
     clear hy484
     simp only [Option.some.injEq, Prod.mk.injEq] at H
     obtain ⟨rfl, rfl, rfl, rfl⟩ := H
     go_enter Try.func68, Try.ntmps68
     try go_wp2_with (first | ((with_reducible refine gate_dst (N := 2) rfl ?_); refine bx 2 #[.slice none 0 0, .slice none 0 0] 27 ?_; intro gb458 hg w37 hbox hb; replace HB := ak (below_step (lT HB gN) hb); replace BK458 := ak (hbox); replace GW458 := ak ((by rw [hg]; exact (keep_size (w := w) (g := g) (row := none) (kT HK gN)) : w.heap.size ≤ gb458)); replace GE458 := ak ((Nat.le_trans HW0.out (by rw [hg]; exact (keep_size (w := w) (g := g) (row := none) (kT HK gN)) : w.heap.size ≤ gb458) : w0.heap.size ≤ gb458)); replace HK := ak (KeepBut.trans (kT HK gN) (KeepBut.of_below hb g none) (.inl rfl)); replace NB0_458 := ak ((by rw [hg]; exact Nat.ne_of_lt (IsS80.lt (show IsS80 w0 _ g s0_0 s0_1 s0_2 from IsS80.T_ HI0 nN)) : g ≠ gb458)); replace NB458_0 := ak ((by rw [hg]; exact Nat.ne_of_gt (IsS80.lt (show IsS80 w0 _ g s0_0 s0_1 s0_2 from IsS80.T_ HI0 nN)) : gb458 ≠ g)); replace HI0 := ak (IsS80.below (IsS80.T_ HI0 nN) hb); clear hb hbox hg) | ((with_reducible refine gate_callee (f := 47) rfl ?_); refine gl (some 8) Try.func47 #[.pointer (some ⟨g, 0, none⟩), .int .i64 10] ?_; (with_reducible refine (spec_l01Below.calls g s0_0 s0_1 s0_2 10 t459 t460 t461 w0 _ ?side1 ?side2 A2.out).mono ?_); (case side1 => exact IsS80.T_ HI0 (nC NB0_458 nN)); (case side2 => exact lT HB (gC GE458 gN)); rintro e w38 ⟨rfl, hi, hb, hk⟩; refine ⟨_, rfl, ?_⟩; replace BK458 := ak (KeepBut.blk hk (g' := gb458) (o := .cells #[.slice none 0 0, .slice none 0 0] 27 (0, 0)) (bG BK458) NB458_0.out (by simp)); replace HK := ak (KeepBut.trans (kT HK (gC GW458 gN)) hk (.inl rfl)); replace HB := ak (hb); replace HI0 := ak (hi); (try clear hb); (try clear hk); (try clear hi)) | ((with_reducible refine gate_callee (f := 47) rfl ?_); refine gl (some 10) Try.func47 #[.pointer (some ⟨g, 0, none⟩), .int .i64 60] ?_; (with_reducible refine (spec_l01Below.calls g s0_0 t460 t461 60 t462 t463 t464 w0 _ ?side1 ?side2 A3.out).mono ?_); (case side1 => exact IsS80.T_ HI0 (nC NB0_458 nN)); (case side2 => exact lT HB (gC GE458 gN)); rintro e w39 ⟨rfl, hi, hb, hk⟩; refine ⟨_, rfl, ?_⟩; replace BK458 := ak (KeepBut.blk hk (g' := gb458) (o := .cells #[.slice none 0 0, .slice none 0 0] 27 (0, 0)) (bG BK458) NB458_0.out (by simp)); replace HK := ak (KeepBut.trans (kT HK (gC GW458 gN)) hk (.inl rfl)); replace HB := ak (hb); replace HI0 := ak (hi); (try clear hb); (try clear hk); (try clear hi)) | ((with_reducible refine gate_callee (f := 59) rfl ?_); refine gl (some 12) Try.func59 #[.pointer (some ⟨g, 0, none⟩)] ?_; (with_reducible refine (spec_l05Disk.calls k g s0_0 t463 t464 t465 t468 t471 t472 w0 _ ?side1 ?side2 A4.out).mono ?_); (case side1 => exact IsS80.T_ HI0 (nC NB0_458 nN)); (case side2 => exact lT HB (gC GE458 gN)); rintro e w40 ⟨v466, v469, rfl, ho0, ho1, hi, hb, hk⟩; refine ⟨_, rfl, ?_⟩; replace BK458 := ak (KeepBut.blk hk (g' := gb458) (o := .cells #[.slice none 0 0, .slice none 0 0] 27 (0, 0)) (bG BK458) NB458_0.out (by simp)); replace HO467 := ak (Kd.R_lower ho0 (keep_size (w := w) (g := g) (row := none) (kT HK (gC GW458 gN)))); replace HO470 := ak (Kd.R_lower ho1 (keep_size (w := w) (g := g) (row := none) (kT HK (gC GW458 gN)))); replace HK := ak (KeepBut.trans (kT HK (gC GW458 gN)) hk (.inl rfl)); replace HB := ak (hb); replace HI0 := ak (hi); (try clear hb); (try clear hk); (try clear hi); (try clear ho0); (try clear ho1); obtain ⟨Ao41, co41, eo41⟩ := Kd.R_slice HO467.out; subst eo41; obtain ⟨Ao42, co42, eo42⟩ := Kd.R_slice HO470.out; subst eo42) | ((with_reducible refine gate_callee (f := 58) rfl ?_); refine gl (some 13) Try.func58 #[.agg #[.slice Ao41 t465.length co41, .slice Ao42 t468.length co42]] ?_; (with_reducible refine (spec_l03Copy.calls _ _ t465 _ _ t468 t473 t476 _ ?side1 ?side2 ?side3 ?side4 A5.out).mono ?_); (case side1 => exact cG (Kd.R_reads' HO467.out).2.2); (case side2 => exact (Kd.R_reads' HO467.out).2.1); (case side3 => exact cG (Kd.R_reads' HO470.out).2.2); (case side4 => exact (Kd.R_reads' HO470.out).2.1); rintro e w43 ⟨v474, v477, rfl, ho0, ho1, hb⟩; refine ⟨_, rfl, ?_⟩; replace HO475 := ak (Kd.R_lower (Kd.R_new' ho0 (Kd.R_lt (rG HO467))) (keep_size (w := w) (g := g) (row := none) (kT HK (gC GW458 gN)))); replace HO467 := ak (Kd.R_elder' (rG HO467) (Kd.R_base ho0) hb); replace HO478 := ak (Kd.R_lower (Kd.R_new' ho1 (Kd.R_lt (rG HO470))) (keep_size (w := w) (g := g) (row := none) (kT HK (gC GW458 gN)))); replace HO470 := ak (Kd.R_elder' (rG HO470) (Kd.R_base ho1) hb); replace BK458 := bB BK458 hb; replace HK := ak (KeepBut.trans (kT HK (gC GW458 gN)) (KeepBut.of_below hb g none) (.inl rfl)); replace HB := ak (below_step (lT HB (gC GE458 gN)) hb); replace HI0 := ak (IsS80.below (IsS80.T_ HI0 (nC NB0_458 nN)) hb); (try clear hb); (try clear hk); (try clear hi); (try clear ho0); (try clear ho1)) | ((with_reducible refine gate_dst (N := 5) rfl ?_); refine bx 5 #[.slice none 0 0, .slice none 0 0] 27 ?_; intro gb479 hg w44 hbox hb; replace HO467 := rB HO467 hb; replace HO470 := rB HO470 hb; replace HO475 := rB HO475 hb; replace HO478 := rB HO478 hb; replace HB := ak (below_step (lT HB (gC GE458 gN)) hb); replace BK479 := ak (hbox); replace GW479 := ak ((by rw [hg]; exact (keep_size (w := w) (g := g) (row := none) (kT HK (gC GW458 gN))) : w.heap.size ≤ gb479)); replace GE479 := ak ((Nat.le_trans HW0.out (by rw [hg]; exact (keep_size (w := w) (g := g) (row := none) (kT HK (gC GW458 gN))) : w.heap.size ≤ gb479) : w0.heap.size ≤ gb479)); replace HK := ak (KeepBut.trans (kT HK (gC GW458 gN)) (KeepBut.of_below hb g none) (.inl rfl)); replace NB458_479 := ak (nl hg (bG BK458)); replace NB479_458 := ak (ng hg (bG BK458)); replace BK458 := bB BK458 hb; replace NB0_479 := ak ((by rw [hg]; exact Nat.ne_of_lt (IsS80.lt (show IsS80 w0 _ g s0_0 t471 t472 from IsS80.T_ HI0 (nC NB0_458 nN))) : g ≠ gb479)); replace NB479_0 := ak ((by rw [hg]; exact Nat.ne_of_gt (IsS80.lt (show IsS80 w0 _ g s0_0 t471 t472 from IsS80.T_ HI0 (nC NB0_458 nN))) : gb479 ≠ g)); replace HI0 := ak (IsS80.below (IsS80.T_ HI0 (nC NB0_458 nN)) hb); clear hb hbox hg; obtain ⟨Ao45, co45, eo45⟩ := Kd.R_slice HO475.out; subst eo45; have hnb46 := NB479_458.out; have hnc46 := NB458_479.out; have hnb47 := NB479_0.out; have hnc47 := NB0_479.out; obtain ⟨hcz48_0, hcz48_1, hfz48_0, hfz48_1⟩ := bC2 BK479; obtain ⟨Ao49, co49, eo49⟩ := Kd.R_slice HO478.out; subst eo49))
     have n0_ : Aside0 (Kd.R Kd.string 9 ((w44.setCell ⟨gb479, 0, none⟩ (.slice Ao45 t473.length co45)).setCell ⟨gb479, 1, none⟩ (.slice Ao49 t476.length co49)) w.heap.size (fun k_ => some k_ ≠ (.slice Ao45 t473.length co45 : Value).ownBlock) (.slice Ao41 t465.length co41) t465) := ⟨by (with_reducible repeat (first | apply Kd.R_alloc | apply Kd.R_drewN | apply Kd.R_drew)); exact Kd.R_mono (Kd.R_far (p := ⟨gb479, 1, none⟩) (Kd.R_far (p := ⟨gb479, 0, none⟩) (Kd.R_types HO467.out BK479.out (by decide)) (fun _ hk => hk.2) (.slice Ao45 t473.length co45)) (fun _ hk => hk.2) (.slice Ao49 t476.length co49)) (fun _ hk => hk.1.2)⟩
     have n1_ : Aside0 (Kd.R k63 63 ((w44.setCell ⟨gb479, 0, none⟩ (.slice Ao45 t473.length co45)).setCell ⟨gb479, 1, none⟩ (.slice Ao49 t476.length co49)) w.heap.size (fun k_ => some k_ ≠ (.slice Ao49 t476.length co49 : Value).ownBlock) (.slice Ao42 t468.length co42) t468) := ⟨by (with_reducible repeat (first | apply Kd.R_alloc | apply Kd.R_drewN | apply Kd.R_drew)); exact Kd.R_mono (Kd.R_far (p := ⟨gb479, 1, none⟩) (Kd.R_far (p := ⟨gb479, 0, none⟩) (Kd.R_types HO470.out BK479.out (by decide)) (fun _ hk => hk.2) (.slice Ao45 t473.length co45)) (fun _ hk => hk.2) (.slice Ao49 t476.length co49)) (fun _ hk => hk.1.2)⟩
     have n2_ : Aside0 (Kd.R Kd.string 9 ((w44.setCell ⟨gb479, 0, none⟩ (.slice Ao45 t473.length co45)).setCell ⟨gb479, 1, none⟩ (.slice Ao49 t476.length co49)) w.heap.size (fun k_ => some k_ ≠ (.slice Ao41 t465.length co41 : Value).ownBlock) (.slice Ao45 t473.length co45) t473) := ⟨by (with_reducible repeat (first | apply Kd.R_alloc | apply Kd.R_drewN | apply Kd.R_drew)); exact Kd.R_mono (Kd.R_far (p := ⟨gb479, 1, none⟩) (Kd.R_far (p := ⟨gb479, 0, none⟩) (Kd.R_types HO475.out BK479.out (by decide)) (fun _ hk => hk.2) (.slice Ao45 t473.length co45)) (fun _ hk => hk.2) (.slice Ao49 t476.length co49)) (fun _ hk => hk.1.2)⟩
     have n3_ : Aside0 (Kd.R k63 63 ((w44.setCell ⟨gb479, 0, none⟩ (.slice Ao45 t473.length co45)).setCell ⟨gb479, 1, none⟩ (.slice Ao49 t476.length co49)) w.heap.size (fun k_ => some k_ ≠ (.slice Ao42 t468.length co42 : Value).ownBlock) (.slice Ao49 t476.length co49) t476) := ⟨by (with_reducible repeat (first | apply Kd.R_alloc | apply Kd.R_drewN | apply Kd.R_drew)); exact Kd.R_mono (Kd.R_far (p := ⟨gb479, 1, none⟩) (Kd.R_far (p := ⟨gb479, 0, none⟩) (Kd.R_types HO478.out BK479.out (by decide)) (fun _ hk => hk.2) (.slice Ao45 t473.length co45)) (fun _ hk => hk.2) (.slice Ao49 t476.length co49)) (fun _ hk => hk.1.2)⟩
     have n4_ : Aside0 (((w44.setCell ⟨gb479, 0, none⟩ (.slice Ao45 t473.length co45)).setCell ⟨gb479, 1, none⟩ (.slice Ao49 t476.length co49)).heap[gb458]? = some (.cells #[.slice none 0 0, .slice none 0 0] 27 (0, 0))) := ⟨by (with_reducible repeat (first | refine blk_drewN ?_ _ | refine blk_drew ?_ | refine blk_alloc ?_ _)); refine blk_far ?_ NB458_479.out _; (with_reducible repeat (first | refine blk_drewN ?_ _ | refine blk_drew ?_ | refine blk_alloc ?_ _)); refine blk_far ?_ NB458_479.out _; (with_reducible repeat (first | refine blk_drewN ?_ _ | refine blk_drew ?_ | refine blk_alloc ?_ _)); exact BK458.out⟩
     have n5_ : Aside0 (((w44.setCell ⟨gb479, 0, none⟩ (.slice Ao45 t473.length co45)).setCell ⟨gb479, 1, none⟩ (.slice Ao49 t476.length co49)).heap[gb479]? = some (.cells #[.slice Ao45 t473.length co45, .slice Ao49 t476.length co49] 27 (0, 0))) := ⟨bW BK479⟩
     have n6_ : Aside0 (IsS80 w0 ((w44.setCell ⟨gb479, 0, none⟩ (.slice Ao45 t473.length co45)).setCell ⟨gb479, 1, none⟩ (.slice Ao49 t476.length co49)) g s0_0 t471 t472) := ⟨IsS80.T_ HI0 (nC NB0_458 (nC NB0_479 nN))⟩
     have n7_ : Aside0 (KeepBut w ((w44.setCell ⟨gb479, 0, none⟩ (.slice Ao45 t473.length co45)).setCell ⟨gb479, 1, none⟩ (.slice Ao49 t476.length co49)) g none) := ⟨kT HK (gC GW458 (gC GW479 gN))⟩
     have n8_ : Aside0 (Below w0.heap.size w0 ((w44.setCell ⟨gb479, 0, none⟩ (.slice Ao45 t473.length co45)).setCell ⟨gb479, 1, none⟩ (.slice Ao49 t476.length co49))) := ⟨lT HB (gC GE458 (gC GE479 gN))⟩
     (try clear HO467)
     (try clear HO470)
     (try clear HO475)
     (try clear HO478)
     (try clear BK458)
     (try clear BK479)
     (try clear HI0)
     (try clear HK)
     (try clear HB)
     generalize ((w44.setCell ⟨gb479, 0, none⟩ (.slice Ao45 t473.length co45)).setCell ⟨gb479, 1, none⟩ (.slice Ao49 t476.length co49)) = w50 at n0_ n1_ n2_ n3_ n4_ n5_ n6_ n7_ n8_ ⊢
     have HO467 := n0_
     have HO470 := n1_
     have HO475 := n2_
     have HO478 := n3_
     have BK458 := n4_
     have BK479 := n5_
     have HI0 := n6_
     have HK := n7_
     have HB := n8_
     clear n0_ n1_ n2_ n3_ n4_ n5_ n6_ n7_ n8_
     replace HO467 := ak (Kd.R_drew HO467.out)
     replace HO470 := ak (Kd.R_drew HO470.out)
     replace HO475 := ak (Kd.R_drew HO475.out)
     replace HO478 := ak (Kd.R_drew HO478.out)
     replace BK458 := ak (blk_drew BK458.out)
     replace BK479 := ak (blk_drew BK479.out)
     replace HI0 := ak (IsS80.drew HI0.out)
     replace HK := ak (keep_drew HK.out)
     replace HB := ak (below_drew1 HB.out)
     refine start_ (n := 8) (S := fun w' => w'.cell? ⟨gb479, 0, none⟩ = some (.slice Ao45 t473.length co45) ∧ w'.cell? ⟨gb479, 1, none⟩ = some (.slice Ao49 t476.length co49)) (ds := [7]) #[f_,f_,f_,f_,f_,f_,f_,f_] (by kernel_rfl) rfl rfl ⟨bc BK479 0, bc BK479 1⟩ (fun hHeld => ?_); refine with_tabW spec_l05Any.tab10 spec_l05Any.bits10 (fun HT_ HW_ => ?_)
     generalize w50.drew = w51 at HO467 HO470 HO475 HO478 BK458 BK479 HI0 HK HB hHeld ⊢
     refine pu 0 36 (fb 8 1) HT_ ?_
     refine pu 2 38 (fb 8 5) HT_ ?_
     refine pu 3 39 (fb 8 13) HT_ ?_
     refine pu 4 40 (fb 8 29) HT_ ?_
     refine tk 1 37 (fb 8 31) HT_ HW_ hHeld ?_
     refine on 5 (some 41) (fb 8 63) HT_ (fun K hK => ?_)
     refine goes_ Try.func78 (by kernel_rfl) rfl #[.int .i64 32, .int .u8 ((t462) % 256)] (by rfl) rfl rfl (by (try simp only [List.map_toArray, List.map_cons, List.map_nil]); first | done | rfl | (simp only [List.length_drop, List.length_take]; rfl)) ?_
     with_reducible refine (spec_l01Long.calls k 32 ((t462) % 256) t483 _ A33.out).mono ?_
     rintro e w52 ⟨rfl, hb⟩
     refine ⟨_, rfl, ?_⟩
     replace HO467 := rB HO467 hb
     replace HO470 := rB HO470 hb
     replace HO475 := rB HO475 hb
     replace HO478 := rB HO478 hb
     replace BK458 := bB BK458 hb
     replace BK479 := bB BK479 hb
     replace HK := ak (KeepBut.trans (kT HK (gC GW458 (gC GW479 gN))) (KeepBut.of_below hb g none) (.inl rfl))
     replace HB := ak (below_step (lT HB (gC GE458 (gC GE479 gN))) hb)
     replace HI0 := ak (IsS80.below (IsS80.T_ HI0 (nC NB0_458 (nC NB0_479 nN))) hb)
     (try clear hb)
     (try clear hb2)
     (try clear hk)
     (try clear hi)
     have p36 : 0 ≤ ((ji34) : Int) := of_decide_eq_true (by first | (with_reducible assumption) | assumption)
     have q36 : ((ji34) : Int) < ((t473.length : Int) : Int) := of_decide_eq_true (by first | (with_reducible assumption) | assumption)
     obtain ⟨go36, co36, eo36, gb36, gl36, cl36, HG36⟩ := Kd.R_form HO475.out (by omega)
     (first | cases eo36 | (injection eo36 with ea_ en_ ec_; (first | subst ea_ | (injection ea_ with ea_; subst ea_)); subst ec_; clear en_))
     have GB36 := Aside0.mk gb36
     have GG36 := Aside0.mk HG36
     clear gb36 gl36 HG36
     obtain ⟨hx36_0, hf36_0⟩ := Kd.R_celln (⟨#[]⟩ : ByteArray) HO475.out ((ji34) : Int) p36 q36
     replace p36 := eq_true p36
     replace q36 := eq_true q36
     have HN0_go36 := ak (show g ≠ go36 from by have h_ := IsS80.own_ne HI0.out HO475.out (by decide); intro e_; exact h_ (by rw [e_]; rfl))
     have HP53 := Kd.R_putn HO475.out ((ji34) : Int) t483
     rw [← Ny484.out] at HP53
     have HQ53 := Aside0.mk HP53
     clear HP53
     refine hK.out _ _ ⟨bc BK479 0, bc BK479 1⟩ (fun hHeld => ?_)
     clear hK K
     refine nm ?_
     refine pu 6 42 (fb 8 127) HT_ ?_
     refine last_ (i := 7) (N := none) #[t_,t_,t_,t_,t_,t_,t_,t_] rfl rfl (one_of HT_.out (by kernel_rfl)) (by decide) (fun K hK => ?_)
     refine skip_ (w1 := ?_) (by rfl) rfl ?_ ?_
     rotate_left
     ·go_simp
      rfl
     refine hK.out _ _ ?_
     clear hK K
     refine done_ (done_of HT_.out (by kernel_rfl)) ?_
     have n0_ : Aside0 (Kd.R Kd.string 9 (w52.setCell ⟨go36, ((ji34) : Int).toNat, none⟩ (.string t483)) w.heap.size (fun k_ => some k_ ≠ (.slice (some ⟨go36, 0, none⟩) t473.length co45 : Value).ownBlock) (.slice Ao41 t465.length co41) t465) := ⟨by (with_reducible repeat (first | apply Kd.R_alloc | apply Kd.R_drewN | apply Kd.R_drew)); exact Kd.R_mono (Kd.R_far (p := ⟨go36, ((ji34) : Int).toNat, none⟩) (Kd.R_mono HO467.out (fun k_ hk => (⟨hk, fun e_ => hk (by rw [e_]; rfl)⟩ : _ ∧ k_ ≠ go36))) (fun _ hk => hk.2) (.string t483)) (fun _ hk => hk.1)⟩
     have n1_ : Aside0 (Kd.R k63 63 (w52.setCell ⟨go36, ((ji34) : Int).toNat, none⟩ (.string t483)) w.heap.size (fun k_ => some k_ ≠ (.slice Ao49 t476.length co49 : Value).ownBlock) (.slice Ao42 t468.length co42) t468) := ⟨by (with_reducible repeat (first | apply Kd.R_alloc | apply Kd.R_drewN | apply Kd.R_drew)); exact Kd.R_mono (Kd.R_far (p := ⟨go36, ((ji34) : Int).toNat, none⟩) (Kd.R_types HO470.out GG36.out (by decide)) (fun _ hk => hk.2) (.string t483)) (fun _ hk => hk.1)⟩
     have n2_ : Aside0 (Kd.R Kd.string 9 (w52.setCell ⟨go36, ((ji34) : Int).toNat, none⟩ (.string t483)) w.heap.size (fun k_ => some k_ ≠ (.slice Ao41 t465.length co41 : Value).ownBlock) (.slice (some ⟨go36, 0, none⟩) t473.length co45) y484) := ⟨by (with_reducible repeat (first | apply Kd.R_alloc | apply Kd.R_drewN | apply Kd.R_drew)); exact HQ53.out⟩
     have n3_ : Aside0 (Kd.R k63 63 (w52.setCell ⟨go36, ((ji34) : Int).toNat, none⟩ (.string t483)) w.heap.size (fun k_ => some k_ ≠ (.slice Ao42 t468.length co42 : Value).ownBlock) (.slice Ao49 t476.length co49) t476) := ⟨by (with_reducible repeat (first | apply Kd.R_alloc | apply Kd.R_drewN | apply Kd.R_drew)); exact Kd.R_mono (Kd.R_far (p := ⟨go36, ((ji34) : Int).toNat, none⟩) (Kd.R_types HO478.out GG36.out (by decide)) (fun _ hk => hk.2) (.string t483)) (fun _ hk => hk.1)⟩
     have n4_ : Aside0 ((w52.setCell ⟨go36, ((ji34) : Int).toNat, none⟩ (.string t483)).heap[gb458]? = some (.cells #[.slice none 0 0, .slice none 0 0] 27 (0, 0))) := ⟨by (with_reducible repeat (first | refine blk_drewN ?_ _ | refine blk_drew ?_ | refine blk_alloc ?_ _)); refine blk_far ?_ (by have h_ := Kd.R_ne HO475.out BK458.out (by decide); intro e_; exact h_ (by rw [e_]; rfl)) _; (with_reducible repeat (first | refine blk_drewN ?_ _ | refine blk_drew ?_ | refine blk_alloc ?_ _)); exact BK458.out⟩
     have n5_ : Aside0 ((w52.setCell ⟨go36, ((ji34) : Int).toNat, none⟩ (.string t483)).heap[gb479]? = some (.cells #[.slice (some ⟨go36, 0, none⟩) t473.length co45, .slice Ao49 t476.length co49] 27 (0, 0))) := ⟨by (with_reducible repeat (first | refine blk_drewN ?_ _ | refine blk_drew ?_ | refine blk_alloc ?_ _)); refine blk_far ?_ (by have h_ := Kd.R_ne HO475.out BK479.out (by decide); intro e_; exact h_ (by rw [e_]; rfl)) _; (with_reducible repeat (first | refine blk_drewN ?_ _ | refine blk_drew ?_ | refine blk_alloc ?_ _)); exact BK479.out⟩
     have n6_ : Aside0 (IsS80 w0 (w52.setCell ⟨go36, ((ji34) : Int).toNat, none⟩ (.string t483)) g s0_0 t471 t472) := ⟨by repeat (first | (with_reducible first | exact HI0.out | apply IsS80.alloc | apply IsS80.drewN | apply IsS80.drew | apply IsS80.set_1 | apply IsS80.set_2 | refine IsS80.far ?_ HN0_go36.out _ | refine IsS80.far ?_ NB0_458.out _ | refine IsS80.far ?_ NB0_479.out _) | exact HI0.out)⟩
     have n7_ : Aside0 (KeepBut w (w52.setCell ⟨go36, ((ji34) : Int).toNat, none⟩ (.string t483)) g none) := ⟨by repeat (first | (with_reducible first | exact HK.out | apply KeepBut.set_ | apply keep_drewN | apply keep_drew | apply keep_alloc | refine keep_far ?_ GB36.out _ | refine keep_far ?_ GW458.out _ | refine keep_far ?_ GW479.out _) | exact HK.out)⟩
     have n8_ : Aside0 (Below w0.heap.size w0 (w52.setCell ⟨go36, ((ji34) : Int).toNat, none⟩ (.string t483))) := ⟨by repeat (first | (with_reducible first | exact HB.out | apply below_alloc | apply pw_below_drewN | apply below_drew1 | refine below_set ?_ (Nat.le_trans HL.out GB36.out) | refine below_set ?_ (IsS80.ge HI0.out) | refine below_set ?_ GE458.out | refine below_set ?_ GE479.out) | exact HB.out)⟩
     (try clear HO467)
     (try clear HO470)
     (try clear HO475)
     (try clear HO478)
     (try clear BK458)
     (try clear BK479)
     (try clear HI0)
     (try clear HK)
     (try clear HB)
     generalize (w52.setCell ⟨go36, ((ji34) : Int).toNat, none⟩ (.string t483)) = w54 at n0_ n1_ n2_ n3_ n4_ n5_ n6_ n7_ n8_ ⊢
     have HO467 := n0_
     have HO470 := n1_
     have HO475 := n2_
     have HO478 := n3_
     have BK458 := n4_
     have BK479 := n5_
     have HI0 := n6_
     have HK := n7_
     have HB := n8_
     clear n0_ n1_ n2_ n3_ n4_ n5_ n6_ n7_ n8_
     have hcz55_0 : w54.cell? ⟨gb479, 0, none⟩ = some (.slice (some ⟨go36, 0, none⟩) t473.length co45) := bc BK479 0
     have hcz55_1 : w54.cell? ⟨gb479, 1, none⟩ = some (.slice Ao49 t476.length co49) := bc BK479 1
     have hfz55_0 := blk_frozen BK479.out 0
     have hfz55_1 := blk_frozen BK479.out 1
     have hnb56 := NB458_0.out
     have hnc56 := NB0_458.out
     have hcz57_0 : w54.cell? ⟨gb458, 0, none⟩ = some (.slice none 0 0) := bc BK458 0
     have hcz57_1 : w54.cell? ⟨gb458, 1, none⟩ = some (.slice none 0 0) := bc BK458 1
     have hfz57_0 := blk_frozen BK458.out 0
     have hfz57_1 := blk_frozen BK458.out 1
     try go_wp2
     refine bodyPost_ret (results_cell_row rfl _ _ gb458 27 #[.slice (some ⟨go36, 0, none⟩) t473.length co45, .slice Ao49 t476.length co49] (0, 0) _ rfl (bW BK458) Try.underlying27 rfl (by kernel_rfl)) rfl ?_
     exact ⟨_, _, by first | rfl | (simp [errW_none, errW_some] <;> rfl) | (simp only [← hji34]; first | rfl | (simp [errW_none, errW_some] <;> rfl)) | (simp [*, errW_none, errW_some] <;> rfl), by exact Kd.R_mono (rT HO475 BK458 (by decide)) (fun _ hk => trivial), by exact Kd.R_mono (rT HO478 BK458 (by decide)) (fun _ hk => trivial), IsS80.T_ HI0 (nC NB0_458 (nC NB0_479 nN)), lT HB (gC GE458 (gC GE479 gN)), kT HK (gC GW458 (gC GW479 gN))⟩
    ·rw [if_neg c35] at H
     exact absurd H (by simp)
   ·rw [if_neg c32] at H
    have c32b0 : decide ((wrap64 (8 + (Int.tmod t462 30))) < (t473.length : Int)) = false := decide_eq_false c32
    clear c32
    simp only [Option.some.injEq, Prod.mk.injEq] at H
    obtain ⟨rfl, rfl, rfl, rfl⟩ := H
    go_enter Try.func68, Try.ntmps68
    go_wp2_with (first | ((with_reducible refine gate_dst (N := 2) rfl ?_); refine bx 2 #[.slice none 0 0, .slice none 0 0] 27 ?_; intro gb458 hg w58 hbox hb; replace HB := ak (below_step (lT HB gN) hb); replace BK458 := ak (hbox); replace GW458 := ak ((by rw [hg]; exact (keep_size (w := w) (g := g) (row := none) (kT HK gN)) : w.heap.size ≤ gb458)); replace GE458 := ak ((Nat.le_trans HW0.out (by rw [hg]; exact (keep_size (w := w) (g := g) (row := none) (kT HK gN)) : w.heap.size ≤ gb458) : w0.heap.size ≤ gb458)); replace HK := ak (KeepBut.trans (kT HK gN) (KeepBut.of_below hb g none) (.inl rfl)); replace NB0_458 := ak ((by rw [hg]; exact Nat.ne_of_lt (IsS80.lt (show IsS80 w0 _ g s0_0 s0_1 s0_2 from IsS80.T_ HI0 nN)) : g ≠ gb458)); replace NB458_0 := ak ((by rw [hg]; exact Nat.ne_of_gt (IsS80.lt (show IsS80 w0 _ g s0_0 s0_1 s0_2 from IsS80.T_ HI0 nN)) : gb458 ≠ g)); replace HI0 := ak (IsS80.below (IsS80.T_ HI0 nN) hb); clear hb hbox hg) | ((with_reducible refine gate_callee (f := 47) rfl ?_); refine gl (some 8) Try.func47 #[.pointer (some ⟨g, 0, none⟩), .int .i64 10] ?_; (with_reducible refine (spec_l01Below.calls g s0_0 s0_1 s0_2 10 t459 t460 t461 w0 _ ?side1 ?side2 A2.out).mono ?_); (case side1 => exact IsS80.T_ HI0 (nC NB0_458 nN)); (case side2 => exact lT HB (gC GE458 gN)); rintro e w59 ⟨rfl, hi, hb, hk⟩; refine ⟨_, rfl, ?_⟩; replace BK458 := ak (KeepBut.blk hk (g' := gb458) (o := .cells #[.slice none 0 0, .slice none 0 0] 27 (0, 0)) (bG BK458) NB458_0.out (by simp)); replace HK := ak (KeepBut.trans (kT HK (gC GW458 gN)) hk (.inl rfl)); replace HB := ak (hb); replace HI0 := ak (hi); (try clear hb); (try clear hk); (try clear hi)) | ((with_reducible refine gate_callee (f := 47) rfl ?_); refine gl (some 10) Try.func47 #[.pointer (some ⟨g, 0, none⟩), .int .i64 60] ?_; (with_reducible refine (spec_l01Below.calls g s0_0 t460 t461 60 t462 t463 t464 w0 _ ?side1 ?side2 A3.out).mono ?_); (case side1 => exact IsS80.T_ HI0 (nC NB0_458 nN)); (case side2 => exact lT HB (gC GE458 gN)); rintro e w60 ⟨rfl, hi, hb, hk⟩; refine ⟨_, rfl, ?_⟩; replace BK458 := ak (KeepBut.blk hk (g' := gb458) (o := .cells #[.slice none 0 0, .slice none 0 0] 27 (0, 0)) (bG BK458) NB458_0.out (by simp)); replace HK := ak (KeepBut.trans (kT HK (gC GW458 gN)) hk (.inl rfl)); replace HB := ak (hb); replace HI0 := ak (hi); (try clear hb); (try clear hk); (try clear hi)) | ((with_reducible refine gate_callee (f := 59) rfl ?_); refine gl (some 12) Try.func59 #[.pointer (some ⟨g, 0, none⟩)] ?_; (with_reducible refine (spec_l05Disk.calls k g s0_0 t463 t464 t465 t468 t471 t472 w0 _ ?side1 ?side2 A4.out).mono ?_); (case side1 => exact IsS80.T_ HI0 (nC NB0_458 nN)); (case side2 => exact lT HB (gC GE458 gN)); rintro e w61 ⟨v466, v469, rfl, ho0, ho1, hi, hb, hk⟩; refine ⟨_, rfl, ?_⟩; replace BK458 := ak (KeepBut.blk hk (g' := gb458) (o := .cells #[.slice none 0 0, .slice none 0 0] 27 (0, 0)) (bG BK458) NB458_0.out (by simp)); replace HO467 := ak (Kd.R_lower ho0 (keep_size (w := w) (g := g) (row := none) (kT HK (gC GW458 gN)))); replace HO470 := ak (Kd.R_lower ho1 (keep_size (w := w) (g := g) (row := none) (kT HK (gC GW458 gN)))); replace HK := ak (KeepBut.trans (kT HK (gC GW458 gN)) hk (.inl rfl)); replace HB := ak (hb); replace HI0 := ak (hi); (try clear hb); (try clear hk); (try clear hi); (try clear ho0); (try clear ho1); obtain ⟨Ao62, co62, eo62⟩ := Kd.R_slice HO467.out; subst eo62; obtain ⟨Ao63, co63, eo63⟩ := Kd.R_slice HO470.out; subst eo63) | ((with_reducible refine gate_callee (f := 58) rfl ?_); refine gl (some 13) Try.func58 #[.agg #[.slice Ao62 t465.length co62, .slice Ao63 t468.length co63]] ?_; (with_reducible refine (spec_l03Copy.calls _ _ t465 _ _ t468 t473 t476 _ ?side1 ?side2 ?side3 ?side4 A5.out).mono ?_); (case side1 => exact cG (Kd.R_reads' HO467.out).2.2); (case side2 => exact (Kd.R_reads' HO467.out).2.1); (case side3 => exact cG (Kd.R_reads' HO470.out).2.2); (case side4 => exact (Kd.R_reads' HO470.out).2.1); rintro e w64 ⟨v474, v477, rfl, ho0, ho1, hb⟩; refine ⟨_, rfl, ?_⟩; replace HO475 := ak (Kd.R_lower (Kd.R_new' ho0 (Kd.R_lt (rG HO467))) (keep_size (w := w) (g := g) (row := none) (kT HK (gC GW458 gN)))); replace HO467 := ak (Kd.R_elder' (rG HO467) (Kd.R_base ho0) hb); replace HO478 := ak (Kd.R_lower (Kd.R_new' ho1 (Kd.R_lt (rG HO470))) (keep_size (w := w) (g := g) (row := none) (kT HK (gC GW458 gN)))); replace HO470 := ak (Kd.R_elder' (rG HO470) (Kd.R_base ho1) hb); replace BK458 := bB BK458 hb; replace HK := ak (KeepBut.trans (kT HK (gC GW458 gN)) (KeepBut.of_below hb g none) (.inl rfl)); replace HB := ak (below_step (lT HB (gC GE458 gN)) hb); replace HI0 := ak (IsS80.below (IsS80.T_ HI0 (nC NB0_458 nN)) hb); (try clear hb); (try clear hk); (try clear hi); (try clear ho0); (try clear ho1)) | ((with_reducible refine gate_dst (N := 5) rfl ?_); refine bx 5 #[.slice none 0 0, .slice none 0 0] 27 ?_; intro gb479 hg w65 hbox hb; replace HO467 := rB HO467 hb; replace HO470 := rB HO470 hb; replace HO475 := rB HO475 hb; replace HO478 := rB HO478 hb; replace HB := ak (below_step (lT HB (gC GE458 gN)) hb); replace BK479 := ak (hbox); replace GW479 := ak ((by rw [hg]; exact (keep_size (w := w) (g := g) (row := none) (kT HK (gC GW458 gN))) : w.heap.size ≤ gb479)); replace GE479 := ak ((Nat.le_trans HW0.out (by rw [hg]; exact (keep_size (w := w) (g := g) (row := none) (kT HK (gC GW458 gN))) : w.heap.size ≤ gb479) : w0.heap.size ≤ gb479)); replace HK := ak (KeepBut.trans (kT HK (gC GW458 gN)) (KeepBut.of_below hb g none) (.inl rfl)); replace NB458_479 := ak (nl hg (bG BK458)); replace NB479_458 := ak (ng hg (bG BK458)); replace BK458 := bB BK458 hb; replace NB0_479 := ak ((by rw [hg]; exact Nat.ne_of_lt (IsS80.lt (show IsS80 w0 _ g s0_0 t471 t472 from IsS80.T_ HI0 (nC NB0_458 nN))) : g ≠ gb479)); replace NB479_0 := ak ((by rw [hg]; exact Nat.ne_of_gt (IsS80.lt (show IsS80 w0 _ g s0_0 t471 t472 from IsS80.T_ HI0 (nC NB0_458 nN))) : gb479 ≠ g)); replace HI0 := ak (IsS80.below (IsS80.T_ HI0 (nC NB0_458 nN)) hb); clear hb hbox hg; obtain ⟨Ao66, co66, eo66⟩ := Kd.R_slice HO475.out; subst eo66; have hnb67 := NB479_458.out; have hnc67 := NB458_479.out; have hnb68 := NB479_0.out; have hnc68 := NB0_479.out; obtain ⟨hcz69_0, hcz69_1, hfz69_0, hfz69_1⟩ := bC2 BK479; obtain ⟨Ao70, co70, eo70⟩ := Kd.R_slice HO478.out; subst eo70; have hnb71 := NB458_0.out; have hnc71 := NB0_458.out; obtain ⟨hcz72_0, hcz72_1, hfz72_0, hfz72_1⟩ := bC2 BK458))
    refine bodyPost_ret (results_cell_row rfl _ _ gb458 27 #[.slice Ao66 t473.length co66, .slice Ao70 t476.length co70] (0, 0) _ rfl (by (with_reducible repeat (first | refine blk_drewN ?_ _ | refine blk_drew ?_ | refine blk_alloc ?_ _)); refine blk_put (cs := #[.slice Ao66 t473.length co66, .slice none 0 0]) ?_ 1 _ rfl; (with_reducible repeat (first | refine blk_drewN ?_ _ | refine blk_drew ?_ | refine blk_alloc ?_ _)); refine blk_put (cs := #[.slice none 0 0, .slice none 0 0]) ?_ 0 _ rfl; (with_reducible repeat (first | refine blk_drewN ?_ _ | refine blk_drew ?_ | refine blk_alloc ?_ _)); refine blk_far ?_ NB458_479.out _; (with_reducible repeat (first | refine blk_drewN ?_ _ | refine blk_drew ?_ | refine blk_alloc ?_ _)); refine blk_far ?_ NB458_479.out _; (with_reducible repeat (first | refine blk_drewN ?_ _ | refine blk_drew ?_ | refine blk_alloc ?_ _)); exact BK458.out) Try.underlying27 rfl (by kernel_rfl)) rfl ?_
    exact ⟨_, _, ew, by exact Kd.R_mono (rT2 HO475 BK479 BK458 (by decide) (by decide)) (fun _ hk => trivial), by exact Kd.R_mono (rT2 HO478 BK479 BK458 (by decide) (by decide)) (fun _ hk => trivial), IsS80.T_ HI0 (nC NB0_458 (nC NB0_479 nN)), lT HB (gC GE458 (gC GE479 gN)), kT HK (gC GW458 (gC GW479 gN))⟩
  ·rw [if_neg c31] at H
   have c31b0 : (t459 == 1) = false := beq_eq_false_iff_ne.mpr c31
   have c31b1 : (t459 != 1) = true := bne_iff_ne.mpr c31
   by_cases c73 : t459 = 2
   ·rw [if_pos c73] at H
    have c73b0 : (t459 == 2) = true := beq_iff_eq.mpr c73
    have c73b1 : (t459 != 2) = false := bne_eq_false_iff_eq.mpr c73
    clear c73
    replace H := Option.bind_eq_some_iff.mp H
    obtain ⟨⟨t485, t488, t491, t492⟩, A740, H⟩ := H
    replace H : (some (t485, t488, t491, t492)) = some (r1, r2, r3, r4) := H
    have A74 := Aside0.mk A740
    clear A740
    simp only [Option.some.injEq, Prod.mk.injEq] at H
    obtain ⟨rfl, rfl, rfl, rfl⟩ := H
    go_enter Try.func68, Try.ntmps68
    go_wp2_with (first | ((with_reducible refine gate_dst (N := 2) rfl ?_); refine bx 2 #[.slice none 0 0, .slice none 0 0] 27 ?_; intro gb458 hg w75 hbox hb; replace HB := ak (below_step (lT HB gN) hb); replace BK458 := ak (hbox); replace GW458 := ak ((by rw [hg]; exact (keep_size (w := w) (g := g) (row := none) (kT HK gN)) : w.heap.size ≤ gb458)); replace GE458 := ak ((Nat.le_trans HW0.out (by rw [hg]; exact (keep_size (w := w) (g := g) (row := none) (kT HK gN)) : w.heap.size ≤ gb458) : w0.heap.size ≤ gb458)); replace HK := ak (KeepBut.trans (kT HK gN) (KeepBut.of_below hb g none) (.inl rfl)); replace NB0_458 := ak ((by rw [hg]; exact Nat.ne_of_lt (IsS80.lt (show IsS80 w0 _ g s0_0 s0_1 s0_2 from IsS80.T_ HI0 nN)) : g ≠ gb458)); replace NB458_0 := ak ((by rw [hg]; exact Nat.ne_of_gt (IsS80.lt (show IsS80 w0 _ g s0_0 s0_1 s0_2 from IsS80.T_ HI0 nN)) : gb458 ≠ g)); replace HI0 := ak (IsS80.below (IsS80.T_ HI0 nN) hb); clear hb hbox hg) | ((with_reducible refine gate_callee (f := 47) rfl ?_); refine gl (some 8) Try.func47 #[.pointer (some ⟨g, 0, none⟩), .int .i64 10] ?_; (with_reducible refine (spec_l01Below.calls g s0_0 s0_1 s0_2 10 t459 t460 t461 w0 _ ?side1 ?side2 A2.out).mono ?_); (case side1 => exact IsS80.T_ HI0 (nC NB0_458 nN)); (case side2 => exact lT HB (gC GE458 gN)); rintro e w76 ⟨rfl, hi, hb, hk⟩; refine ⟨_, rfl, ?_⟩; replace BK458 := ak (KeepBut.blk hk (g' := gb458) (o := .cells #[.slice none 0 0, .slice none 0 0] 27 (0, 0)) (bG BK458) NB458_0.out (by simp)); replace HK := ak (KeepBut.trans (kT HK (gC GW458 gN)) hk (.inl rfl)); replace HB := ak (hb); replace HI0 := ak (hi); (try clear hb); (try clear hk); (try clear hi)) | ((with_reducible refine gate_callee (f := 47) rfl ?_); refine gl (some 10) Try.func47 #[.pointer (some ⟨g, 0, none⟩), .int .i64 60] ?_; (with_reducible refine (spec_l01Below.calls g s0_0 t460 t461 60 t462 t463 t464 w0 _ ?side1 ?side2 A3.out).mono ?_); (case side1 => exact IsS80.T_ HI0 (nC NB0_458 nN)); (case side2 => exact lT HB (gC GE458 gN)); rintro e w77 ⟨rfl, hi, hb, hk⟩; refine ⟨_, rfl, ?_⟩; replace BK458 := ak (KeepBut.blk hk (g' := gb458) (o := .cells #[.slice none 0 0, .slice none 0 0] 27 (0, 0)) (bG BK458) NB458_0.out (by simp)); replace HK := ak (KeepBut.trans (kT HK (gC GW458 gN)) hk (.inl rfl)); replace HB := ak (hb); replace HI0 := ak (hi); (try clear hb); (try clear hk); (try clear hi)) | ((with_reducible refine gate_callee (f := 59) rfl ?_); refine gl (some 12) Try.func59 #[.pointer (some ⟨g, 0, none⟩)] ?_; (with_reducible refine (spec_l05Disk.calls k g s0_0 t463 t464 t465 t468 t471 t472 w0 _ ?side1 ?side2 A4.out).mono ?_); (case side1 => exact IsS80.T_ HI0 (nC NB0_458 nN)); (case side2 => exact lT HB (gC GE458 gN)); rintro e w78 ⟨v466, v469, rfl, ho0, ho1, hi, hb, hk⟩; refine ⟨_, rfl, ?_⟩; replace BK458 := ak (KeepBut.blk hk (g' := gb458) (o := .cells #[.slice none 0 0, .slice none 0 0] 27 (0, 0)) (bG BK458) NB458_0.out (by simp)); replace HO467 := ak (Kd.R_lower ho0 (keep_size (w := w) (g := g) (row := none) (kT HK (gC GW458 gN)))); replace HO470 := ak (Kd.R_lower ho1 (keep_size (w := w) (g := g) (row := none) (kT HK (gC GW458 gN)))); replace HK := ak (KeepBut.trans (kT HK (gC GW458 gN)) hk (.inl rfl)); replace HB := ak (hb); replace HI0 := ak (hi); (try clear hb); (try clear hk); (try clear hi); (try clear ho0); (try clear ho1); obtain ⟨Ao79, co79, eo79⟩ := Kd.R_slice HO467.out; subst eo79; obtain ⟨Ao80, co80, eo80⟩ := Kd.R_slice HO470.out; subst eo80) | ((with_reducible refine gate_callee (f := 58) rfl ?_); refine gl (some 13) Try.func58 #[.agg #[.slice Ao79 t465.length co79, .slice Ao80 t468.length co80]] ?_; (with_reducible refine (spec_l03Copy.calls _ _ t465 _ _ t468 t473 t476 _ ?side1 ?side2 ?side3 ?side4 A5.out).mono ?_); (case side1 => exact cG (Kd.R_reads' HO467.out).2.2); (case side2 => exact (Kd.R_reads' HO467.out).2.1); (case side3 => exact cG (Kd.R_reads' HO470.out).2.2); (case side4 => exact (Kd.R_reads' HO470.out).2.1); rintro e w81 ⟨v474, v477, rfl, ho0, ho1, hb⟩; refine ⟨_, rfl, ?_⟩; replace HO475 := ak (Kd.R_lower (Kd.R_new' ho0 (Kd.R_lt (rG HO467))) (keep_size (w := w) (g := g) (row := none) (kT HK (gC GW458 gN)))); replace HO467 := ak (Kd.R_elder' (rG HO467) (Kd.R_base ho0) hb); replace HO478 := ak (Kd.R_lower (Kd.R_new' ho1 (Kd.R_lt (rG HO470))) (keep_size (w := w) (g := g) (row := none) (kT HK (gC GW458 gN)))); replace HO470 := ak (Kd.R_elder' (rG HO470) (Kd.R_base ho1) hb); replace BK458 := bB BK458 hb; replace HK := ak (KeepBut.trans (kT HK (gC GW458 gN)) (KeepBut.of_below hb g none) (.inl rfl)); replace HB := ak (below_step (lT HB (gC GE458 gN)) hb); replace HI0 := ak (IsS80.below (IsS80.T_ HI0 (nC NB0_458 nN)) hb); (try clear hb); (try clear hk); (try clear hi); (try clear ho0); (try clear ho1)) | ((with_reducible refine gate_dst (N := 5) rfl ?_); refine bx 5 #[.slice none 0 0, .slice none 0 0] 27 ?_; intro gb479 hg w82 hbox hb; replace HO467 := rB HO467 hb; replace HO470 := rB HO470 hb; replace HO475 := rB HO475 hb; replace HO478 := rB HO478 hb; replace HB := ak (below_step (lT HB (gC GE458 gN)) hb); replace BK479 := ak (hbox); replace GW479 := ak ((by rw [hg]; exact (keep_size (w := w) (g := g) (row := none) (kT HK (gC GW458 gN))) : w.heap.size ≤ gb479)); replace GE479 := ak ((Nat.le_trans HW0.out (by rw [hg]; exact (keep_size (w := w) (g := g) (row := none) (kT HK (gC GW458 gN))) : w.heap.size ≤ gb479) : w0.heap.size ≤ gb479)); replace HK := ak (KeepBut.trans (kT HK (gC GW458 gN)) (KeepBut.of_below hb g none) (.inl rfl)); replace NB458_479 := ak (nl hg (bG BK458)); replace NB479_458 := ak (ng hg (bG BK458)); replace BK458 := bB BK458 hb; replace NB0_479 := ak ((by rw [hg]; exact Nat.ne_of_lt (IsS80.lt (show IsS80 w0 _ g s0_0 t471 t472 from IsS80.T_ HI0 (nC NB0_458 nN))) : g ≠ gb479)); replace NB479_0 := ak ((by rw [hg]; exact Nat.ne_of_gt (IsS80.lt (show IsS80 w0 _ g s0_0 t471 t472 from IsS80.T_ HI0 (nC NB0_458 nN))) : gb479 ≠ g)); replace HI0 := ak (IsS80.below (IsS80.T_ HI0 (nC NB0_458 nN)) hb); clear hb hbox hg; obtain ⟨Ao83, co83, eo83⟩ := Kd.R_slice HO475.out; subst eo83; have hnb84 := NB479_458.out; have hnc84 := NB458_479.out; have hnb85 := NB479_0.out; have hnc85 := NB0_479.out; obtain ⟨hcz86_0, hcz86_1, hfz86_0, hfz86_1⟩ := bC2 BK479; obtain ⟨Ao87, co87, eo87⟩ := Kd.R_slice HO478.out; subst eo87) | ((with_reducible refine gate_callee (f := 57) rfl ?_); refine gl (some 46) Try.func57 #[.pointer (some ⟨g, 0, none⟩)] ?_; (with_reducible refine (spec_l03Any.calls k g s0_0 t471 t472 t485 t488 t491 t492 w0 _ ?side1 ?side2 A74.out).mono ?_); (case side1 => exact IsS80.T_ HI0 (nC NB0_458 (nC NB0_479 nN))); (case side2 => exact lT HB (gC GE458 (gC GE479 gN))); rintro e w88 ⟨v486, v489, rfl, ho0, ho1, hi, hb, hk⟩; refine ⟨_, rfl, ?_⟩; replace BK458 := ak (KeepBut.blk hk (g' := gb458) (o := .cells #[.slice none 0 0, .slice none 0 0] 27 (0, 0)) (bT BK458 (nC NB458_479 nN)) NB458_0.out (by simp)); replace HO487 := ak (Kd.R_lower (Kd.R_new' (Kd.R_new' ho0 (Kd.R_lt (rT HO467 BK479 (by decide)))) (Kd.R_lt (rT HO475 BK479 (by decide)))) (keep_size (w := w) (g := g) (row := none) (kT HK (gC GW458 (gC GW479 gN))))); replace HO467 := ak (Kd.R_mono (Kd.R_told (Kd.R_oldK (IsS80.apart (show IsS80 w0 _ g s0_0 t471 t472 from IsS80.T_ HI0 (nC NB0_458 (nC NB0_479 nN))) (rT HO467 BK479 (by decide)) (by decide)) hk) (Kd.R_base ho0)) (fun _ h_ => h_.1)); replace HO475 := ak (Kd.R_mono (Kd.R_told (Kd.R_oldK (IsS80.apart (show IsS80 w0 _ g s0_0 t471 t472 from IsS80.T_ HI0 (nC NB0_458 (nC NB0_479 nN))) (rT HO475 BK479 (by decide)) (by decide)) hk) (Kd.R_base ho0)) (fun _ h_ => h_.1)); replace HO490 := ak (Kd.R_lower (Kd.R_new' (Kd.R_new' ho1 (Kd.R_lt (rT HO470 BK479 (by decide)))) (Kd.R_lt (rT HO478 BK479 (by decide)))) (keep_size (w := w) (g := g) (row := none) (kT HK (gC GW458 (gC GW479 gN))))); replace HO470 := ak (Kd.R_mono (Kd.R_told (Kd.R_oldK (IsS80.apart (show IsS80 w0 _ g s0_0 t471 t472 from IsS80.T_ HI0 (nC NB0_458 (nC NB0_479 nN))) (rT HO470 BK479 (by decide)) (by decide)) hk) (Kd.R_base ho1)) (fun _ h_ => h_.1)); replace HO478 := ak (Kd.R_mono (Kd.R_told (Kd.R_oldK (IsS80.apart (show IsS80 w0 _ g s0_0 t471 t472 from IsS80.T_ HI0 (nC NB0_458 (nC NB0_479 nN))) (rT HO478 BK479 (by decide)) (by decide)) hk) (Kd.R_base ho1)) (fun _ h_ => h_.1)); replace BK479 := ak (KeepBut.blk hk (g' := gb479) (o := .cells #[.slice Ao83 t473.length co83, .slice Ao87 t476.length co87] 27 (0, 0)) (bW BK479) NB479_0.out (by simp)); replace HK := ak (KeepBut.trans (kT HK (gC GW458 (gC GW479 gN))) hk (.inl rfl)); replace HB := ak (hb); replace HI0 := ak (hi); (try clear hb); (try clear hk); (try clear hi); (try clear ho0); (try clear ho1); obtain ⟨Ao89, co89, eo89⟩ := Kd.R_slice HO487.out; subst eo89; have hnb90 := NB458_0.out; have hnc90 := NB0_458.out; obtain ⟨hcz91_0, hcz91_1, hfz91_0, hfz91_1⟩ := bC2 BK458; obtain ⟨Ao92, co92, eo92⟩ := Kd.R_slice HO490.out; subst eo92))
    refine bodyPost_ret (results_cell_row rfl _ _ gb458 27 #[.slice Ao89 t485.length co89, .slice Ao92 t488.length co92] (0, 0) _ rfl (bW BK458) Try.underlying27 rfl (by kernel_rfl)) rfl ?_
    exact ⟨_, _, ew, by exact Kd.R_mono (rT HO487 BK458 (by decide)) (fun _ hk => trivial), by exact Kd.R_mono (rT HO490 BK458 (by decide)) (fun _ hk => trivial), IsS80.T_ HI0 (nC NB0_458 (nC NB0_479 nN)), lT HB (gC GE458 (gC GE479 gN)), kT HK (gC GW458 (gC GW479 gN))⟩
   ·rw [if_neg c73] at H
    have c73b0 : (t459 == 2) = false := beq_eq_false_iff_ne.mpr c73
    have c73b1 : (t459 != 2) = true := bne_iff_ne.mpr c73
    simp only [Option.some.injEq, Prod.mk.injEq] at H
    obtain ⟨rfl, rfl, rfl, rfl⟩ := H
    go_enter Try.func68, Try.ntmps68
    go_wp2_with (first | ((with_reducible refine gate_dst (N := 2) rfl ?_); refine bx 2 #[.slice none 0 0, .slice none 0 0] 27 ?_; intro gb458 hg w93 hbox hb; replace HB := ak (below_step (lT HB gN) hb); replace BK458 := ak (hbox); replace GW458 := ak ((by rw [hg]; exact (keep_size (w := w) (g := g) (row := none) (kT HK gN)) : w.heap.size ≤ gb458)); replace GE458 := ak ((Nat.le_trans HW0.out (by rw [hg]; exact (keep_size (w := w) (g := g) (row := none) (kT HK gN)) : w.heap.size ≤ gb458) : w0.heap.size ≤ gb458)); replace HK := ak (KeepBut.trans (kT HK gN) (KeepBut.of_below hb g none) (.inl rfl)); replace NB0_458 := ak ((by rw [hg]; exact Nat.ne_of_lt (IsS80.lt (show IsS80 w0 _ g s0_0 s0_1 s0_2 from IsS80.T_ HI0 nN)) : g ≠ gb458)); replace NB458_0 := ak ((by rw [hg]; exact Nat.ne_of_gt (IsS80.lt (show IsS80 w0 _ g s0_0 s0_1 s0_2 from IsS80.T_ HI0 nN)) : gb458 ≠ g)); replace HI0 := ak (IsS80.below (IsS80.T_ HI0 nN) hb); clear hb hbox hg) | ((with_reducible refine gate_callee (f := 47) rfl ?_); refine gl (some 8) Try.func47 #[.pointer (some ⟨g, 0, none⟩), .int .i64 10] ?_; (with_reducible refine (spec_l01Below.calls g s0_0 s0_1 s0_2 10 t459 t460 t461 w0 _ ?side1 ?side2 A2.out).mono ?_); (case side1 => exact IsS80.T_ HI0 (nC NB0_458 nN)); (case side2 => exact lT HB (gC GE458 gN)); rintro e w94 ⟨rfl, hi, hb, hk⟩; refine ⟨_, rfl, ?_⟩; replace BK458 := ak (KeepBut.blk hk (g' := gb458) (o := .cells #[.slice none 0 0, .slice none 0 0] 27 (0, 0)) (bG BK458) NB458_0.out (by simp)); replace HK := ak (KeepBut.trans (kT HK (gC GW458 gN)) hk (.inl rfl)); replace HB := ak (hb); replace HI0 := ak (hi); (try clear hb); (try clear hk); (try clear hi)) | ((with_reducible refine gate_callee (f := 47) rfl ?_); refine gl (some 10) Try.func47 #[.pointer (some ⟨g, 0, none⟩), .int .i64 60] ?_; (with_reducible refine (spec_l01Below.calls g s0_0 t460 t461 60 t462 t463 t464 w0 _ ?side1 ?side2 A3.out).mono ?_); (case side1 => exact IsS80.T_ HI0 (nC NB0_458 nN)); (case side2 => exact lT HB (gC GE458 gN)); rintro e w95 ⟨rfl, hi, hb, hk⟩; refine ⟨_, rfl, ?_⟩; replace BK458 := ak (KeepBut.blk hk (g' := gb458) (o := .cells #[.slice none 0 0, .slice none 0 0] 27 (0, 0)) (bG BK458) NB458_0.out (by simp)); replace HK := ak (KeepBut.trans (kT HK (gC GW458 gN)) hk (.inl rfl)); replace HB := ak (hb); replace HI0 := ak (hi); (try clear hb); (try clear hk); (try clear hi)) | ((with_reducible refine gate_callee (f := 59) rfl ?_); refine gl (some 12) Try.func59 #[.pointer (some ⟨g, 0, none⟩)] ?_; (with_reducible refine (spec_l05Disk.calls k g s0_0 t463 t464 t465 t468 t471 t472 w0 _ ?side1 ?side2 A4.out).mono ?_); (case side1 => exact IsS80.T_ HI0 (nC NB0_458 nN)); (case side2 => exact lT HB (gC GE458 gN)); rintro e w96 ⟨v466, v469, rfl, ho0, ho1, hi, hb, hk⟩; refine ⟨_, rfl, ?_⟩; replace BK458 := ak (KeepBut.blk hk (g' := gb458) (o := .cells #[.slice none 0 0, .slice none 0 0] 27 (0, 0)) (bG BK458) NB458_0.out (by simp)); replace HO467 := ak (Kd.R_lower ho0 (keep_size (w := w) (g := g) (row := none) (kT HK (gC GW458 gN)))); replace HO470 := ak (Kd.R_lower ho1 (keep_size (w := w) (g := g) (row := none) (kT HK (gC GW458 gN)))); replace HK := ak (KeepBut.trans (kT HK (gC GW458 gN)) hk (.inl rfl)); replace HB := ak (hb); replace HI0 := ak (hi); (try clear hb); (try clear hk); (try clear hi); (try clear ho0); (try clear ho1); obtain ⟨Ao97, co97, eo97⟩ := Kd.R_slice HO467.out; subst eo97; obtain ⟨Ao98, co98, eo98⟩ := Kd.R_slice HO470.out; subst eo98) | ((with_reducible refine gate_callee (f := 58) rfl ?_); refine gl (some 13) Try.func58 #[.agg #[.slice Ao97 t465.length co97, .slice Ao98 t468.length co98]] ?_; (with_reducible refine (spec_l03Copy.calls _ _ t465 _ _ t468 t473 t476 _ ?side1 ?side2 ?side3 ?side4 A5.out).mono ?_); (case side1 => exact cG (Kd.R_reads' HO467.out).2.2); (case side2 => exact (Kd.R_reads' HO467.out).2.1); (case side3 => exact cG (Kd.R_reads' HO470.out).2.2); (case side4 => exact (Kd.R_reads' HO470.out).2.1); rintro e w99 ⟨v474, v477, rfl, ho0, ho1, hb⟩; refine ⟨_, rfl, ?_⟩; replace HO475 := ak (Kd.R_lower (Kd.R_new' ho0 (Kd.R_lt (rG HO467))) (keep_size (w := w) (g := g) (row := none) (kT HK (gC GW458 gN)))); replace HO467 := ak (Kd.R_elder' (rG HO467) (Kd.R_base ho0) hb); replace HO478 := ak (Kd.R_lower (Kd.R_new' ho1 (Kd.R_lt (rG HO470))) (keep_size (w := w) (g := g) (row := none) (kT HK (gC GW458 gN)))); replace HO470 := ak (Kd.R_elder' (rG HO470) (Kd.R_base ho1) hb); replace BK458 := bB BK458 hb; replace HK := ak (KeepBut.trans (kT HK (gC GW458 gN)) (KeepBut.of_below hb g none) (.inl rfl)); replace HB := ak (below_step (lT HB (gC GE458 gN)) hb); replace HI0 := ak (IsS80.below (IsS80.T_ HI0 (nC NB0_458 nN)) hb); (try clear hb); (try clear hk); (try clear hi); (try clear ho0); (try clear ho1)) | ((with_reducible refine gate_dst (N := 5) rfl ?_); refine bx 5 #[.slice none 0 0, .slice none 0 0] 27 ?_; intro gb479 hg w100 hbox hb; replace HO467 := rB HO467 hb; replace HO470 := rB HO470 hb; replace HO475 := rB HO475 hb; replace HO478 := rB HO478 hb; replace HB := ak (below_step (lT HB (gC GE458 gN)) hb); replace BK479 := ak (hbox); replace GW479 := ak ((by rw [hg]; exact (keep_size (w := w) (g := g) (row := none) (kT HK (gC GW458 gN))) : w.heap.size ≤ gb479)); replace GE479 := ak ((Nat.le_trans HW0.out (by rw [hg]; exact (keep_size (w := w) (g := g) (row := none) (kT HK (gC GW458 gN))) : w.heap.size ≤ gb479) : w0.heap.size ≤ gb479)); replace HK := ak (KeepBut.trans (kT HK (gC GW458 gN)) (KeepBut.of_below hb g none) (.inl rfl)); replace NB458_479 := ak (nl hg (bG BK458)); replace NB479_458 := ak (ng hg (bG BK458)); replace BK458 := bB BK458 hb; replace NB0_479 := ak ((by rw [hg]; exact Nat.ne_of_lt (IsS80.lt (show IsS80 w0 _ g s0_0 t471 t472 from IsS80.T_ HI0 (nC NB0_458 nN))) : g ≠ gb479)); replace NB479_0 := ak ((by rw [hg]; exact Nat.ne_of_gt (IsS80.lt (show IsS80 w0 _ g s0_0 t471 t472 from IsS80.T_ HI0 (nC NB0_458 nN))) : gb479 ≠ g)); replace HI0 := ak (IsS80.below (IsS80.T_ HI0 (nC NB0_458 nN)) hb); clear hb hbox hg; obtain ⟨Ao101, co101, eo101⟩ := Kd.R_slice HO475.out; subst eo101; have hnb102 := NB479_458.out; have hnc102 := NB458_479.out; have hnb103 := NB479_0.out; have hnc103 := NB0_479.out; obtain ⟨hcz104_0, hcz104_1, hfz104_0, hfz104_1⟩ := bC2 BK479; obtain ⟨Ao105, co105, eo105⟩ := Kd.R_slice HO478.out; subst eo105; have hnb106 := NB458_0.out; have hnc106 := NB0_458.out; obtain ⟨hcz107_0, hcz107_1, hfz107_0, hfz107_1⟩ := bC2 BK458))
    refine bodyPost_ret (results_cell_row rfl _ _ gb458 27 #[.slice Ao101 t473.length co101, .slice Ao105 t476.length co105] (0, 0) _ rfl (by (with_reducible repeat (first | refine blk_drewN ?_ _ | refine blk_drew ?_ | refine blk_alloc ?_ _)); refine blk_put (cs := #[.slice Ao101 t473.length co101, .slice none 0 0]) ?_ 1 _ rfl; (with_reducible repeat (first | refine blk_drewN ?_ _ | refine blk_drew ?_ | refine blk_alloc ?_ _)); refine blk_put (cs := #[.slice none 0 0, .slice none 0 0]) ?_ 0 _ rfl; (with_reducible repeat (first | refine blk_drewN ?_ _ | refine blk_drew ?_ | refine blk_alloc ?_ _)); refine blk_far ?_ NB458_479.out _; (with_reducible repeat (first | refine blk_drewN ?_ _ | refine blk_drew ?_ | refine blk_alloc ?_ _)); refine blk_far ?_ NB458_479.out _; (with_reducible repeat (first | refine blk_drewN ?_ _ | refine blk_drew ?_ | refine blk_alloc ?_ _)); exact BK458.out) Try.underlying27 rfl (by kernel_rfl)) rfl ?_
    exact ⟨_, _, ew, by exact Kd.R_mono (rT2 HO475 BK479 BK458 (by decide) (by decide)) (fun _ hk => trivial), by exact Kd.R_mono (rT2 HO478 BK479 BK458 (by decide) (by decide)) (fun _ hk => trivial), IsS80.T_ HI0 (nC NB0_458 (nC NB0_479 nN)), lT HB (gC GE458 (gC GE479 gN)), kT HK (gC GW458 (gC GW479 gN))⟩
/-! ### spec_l05Pair: function 64 -/
def spec_l05Pair.f (k : Nat) (l0 : List Int) : Option (List ByteArray × (List (S63)) × Int) := (spec_l01New.f k l0).bind fun bt494 => ((spec_l01PickInt.f bt494.1 bt494.2.1 bt494.2.2 (([0, 1, 2, 3, 4, 5, 10, 11, (-1)] : List Int))).bind fun bt501 => ((spec_l05Any.f k bt494.1 bt501.2.1 bt501.2.2).bind fun bt504 => (some (bt504.1, bt504.2.1, bt501.1))))
theorem spec_l05Pair.mono : ∀ a0 k, LeO (spec_l05Pair.f k a0) (spec_l05Pair.f (k + 1) a0) := by
 intro a0 k
 unfold spec_l05Pair.f
 repeat' first
   | (with_reducible exact spec_l01New.mono _ _)
   | (with_reducible exact spec_l05Any.mono _ _ _ _)
   | (with_reducible exact LeO.refl _)
   | (with_reducible exact LeO.none _)
   | (with_reducible refine LeO.ite ?_ ?_)
   | (with_reducible refine LeO.bind ?_ (fun _ => ?_))
   | exact spec_l01New.mono _ _
   | exact spec_l05Any.mono _ _ _ _
   | exact LeO.none _
   | refine LeO.ite ?_ ?_
   | refine LeO.bind ?_ (fun _ => ?_)
theorem spec_l05Pair.calls (k : Nat) (A0 : Option Addr) (c0 : Nat) (l0 : List Int) (r1 : List ByteArray) (r2 : List (S63)) (r3 : Int) (w : World) (hr0 : Kd.C (Kd.int .u8) w A0 l0.length l0) (hc0 : l0.length ≤ c0) (h : spec_l05Pair.f k l0 = some (r1, r2, r3)) :
  Calls Try.prog 64 #[.slice A0 l0.length c0] w fun e w' => ∃ v0_ v1_ : Value, e = .returned (.tuple #[.agg #[v0_, v1_], .int .i64 r3]) ∧ Kd.R Kd.string 9 w' w.heap.size (fun _ => True) v0_ r1 ∧ Kd.R k63 63 w' w.heap.size (fun _ => True) v1_ r2 ∧ Below w.heap.size w w' := by
 have hu27 := Try.underlying27
 have HR0 := Aside0.mk hr0
 have HC0 := Aside0.mk hc0
 clear hr0 hc0
 have HB := ak (Below.refl w.heap.size w)
 have H : ((spec_l01New.f k l0).bind fun bt494 => ((spec_l01PickInt.f bt494.1 bt494.2.1 bt494.2.2 (([0, 1, 2, 3, 4, 5, 10, 11, (-1)] : List Int))).bind fun bt501 => ((spec_l05Any.f k bt494.1 bt501.2.1 bt501.2.2).bind fun bt504 => (some (bt504.1, bt504.2.1, bt501.1))))) = some (r1, r2, r3) := h
 clear h
 replace H := Option.bind_eq_some_iff.mp H
 obtain ⟨⟨t494, t495, t496⟩, A20, H⟩ := H
 replace H : ((spec_l01PickInt.f t494 t495 t496 (([0, 1, 2, 3, 4, 5, 10, 11, (-1)] : List Int))).bind fun bt501 => ((spec_l05Any.f k t494 bt501.2.1 bt501.2.2).bind fun bt504 => (some (bt504.1, bt504.2.1, bt501.1)))) = some (r1, r2, r3) := H
 have A2 := Aside0.mk A20
 clear A20
 obtain ⟨y498, hy498⟩ : ∃ y_ : List Int, y_ = (([0, 1, 2, 3, 4, 5, 10, 11, (-1)] : List Int)) := ⟨_, rfl⟩
 replace H : ((spec_l01PickInt.f t494 t495 t496 y498).bind fun bt501 => ((spec_l05Any.f k t494 bt501.2.1 bt501.2.2).bind fun bt504 => (some (bt504.1, bt504.2.1, bt501.1)))) = some (r1, r2, r3) := by first | (rw [hy498]; with_reducible exact H) | (have H2_ := (Option.bind_some _ _).symm.trans H; rw [hy498]; with_reducible exact H2_) | (have H2_ := (Option.bind_some _ _).symm.trans H; with_reducible exact H2_) | with_reducible exact H | (rw [hy498]; exact H) | exact H
 have Ny498 := Aside0.mk hy498
 clear hy498
 replace H := Option.bind_eq_some_iff.mp H
 obtain ⟨⟨t501, t502, t503⟩, A30, H⟩ := H
 replace H : ((spec_l05Any.f k t494 t502 t503).bind fun bt504 => (some (bt504.1, bt504.2.1, t501))) = some (r1, r2, r3) := H
 have A3 := Aside0.mk A30
 clear A30
 replace H := Option.bind_eq_some_iff.mp H
 obtain ⟨⟨t504, t507, t510, t511⟩, A40, H⟩ := H
 replace H : (some (t504, t507, t501)) = some (r1, r2, r3) := H
 have A4 := Aside0.mk A40
 clear A40
 simp only [Option.some.injEq, Prod.mk.injEq] at H
 obtain ⟨rfl, rfl, rfl⟩ := H
 go_enter Try.func64, Try.ntmps64
 go_wp2_with (first | ((with_reducible refine gate_dst (N := 2) rfl ?_); refine bx 2 #[.slice none 0 0, .slice none 0 0] 27 ?_; intro gb493 hg w5 hbox hb; replace BK493 := ak (hbox); replace GW493 := ak (bz hg (lG HB)); replace GE493 := ak (bz hg (lG HB)); replace HB := lB HB hb; clear hb hbox hg) | ((with_reducible refine gate_callee (f := 45) rfl ?_); refine gl (some 7) Try.func45 #[.slice A0 l0.length c0] ?_; (with_reducible refine (spec_l01New.calls k _ _ l0 t494 t495 t496 w _ ?side1 ?side2 ?side3 A2.out).mono ?_); (case side1 => exact lT HB (gC GE493 gN)); (case side2 => exact HR0.out); (case side3 => exact HC0.out); rintro e w6 ⟨g497, rfl, hi, hb, hb2⟩; refine ⟨_, rfl, ?_⟩; replace HB := ak (hb); replace HI497 := ak (hi); replace NB497_493 := ak (IsS80.ne_blk hi (blk_below (bG BK493) hb2) (by decide)); replace NB493_497 := ak (Ne.symm (IsS80.ne_blk hi (blk_below (bG BK493) hb2) (by decide))); replace BK493 := ak (blk_below (bG BK493) hb2); (try clear hb); (try clear hb2); (try clear hk); (try clear hi)) | ((with_reducible refine gate_dst (N := 9) rfl ?_); refine Kd.R_lit (Kd.int .i64) _ 3 ?hg (N := 9) ?hd (xs := ([0, 1, 2, 3, 4, 5, 10, 11, (-1)] : List Int)) (inner := [.int .i64 0, .int .i64 1, .int .i64 2, .int .i64 3, .int .i64 4, .int .i64 5, .int .i64 10, .int .i64 11, .int .i64 (-1)]) (ok := fun _ => True) (okp := fun _ => True) ?hr ?hp (fun _ hk => hk) trivial (Below.refl _ _) (Nat.le_refl _) (by simp) ?_; (case hd => rfl); (case hg => rfl); (case hr => first | (go_simp; done) | (go_simp; rfl)); (case hp => exact (Reps.one (show Kd.M (Kd.int .i64) _ _ _ 0 [.int .i64 0] from rfl) (Reps.one (show Kd.M (Kd.int .i64) _ _ _ 1 [.int .i64 1] from rfl) (Reps.one (show Kd.M (Kd.int .i64) _ _ _ 2 [.int .i64 2] from rfl) (Reps.one (show Kd.M (Kd.int .i64) _ _ _ 3 [.int .i64 3] from rfl) (Reps.one (show Kd.M (Kd.int .i64) _ _ _ 4 [.int .i64 4] from rfl) (Reps.one (show Kd.M (Kd.int .i64) _ _ _ 5 [.int .i64 5] from rfl) (Reps.one (show Kd.M (Kd.int .i64) _ _ _ 10 [.int .i64 10] from rfl) (Reps.one (show Kd.M (Kd.int .i64) _ _ _ 11 [.int .i64 11] from rfl) (Reps.one (show Kd.M (Kd.int .i64) _ _ _ (-1) [.int .i64 (-1)] from rfl) (Reps.none _ _))))))))))); intro v499 w7 ho8 hb hg_ hnew_; clear hg_ hnew_; (first | rw [← Ny498.out] at ho8 | (simp only [Int.reduceToNat] at ho8; rw [← Ny498.out] at ho8)); replace HO500 := ak (Kd.R_lower ho8 (below_size (by repeat (first | (with_reducible first | exact HB.out | apply below_alloc | apply pw_below_drewN | apply below_drew1 | refine below_set ?_ (IsS80.ge HI497.out) | refine below_set ?_ GE493.out) | exact HB.out)))); replace BK493 := bB BK493 hb; replace HB := ak (below_step (by repeat (first | (with_reducible first | exact HB.out | apply below_alloc | apply pw_below_drewN | apply below_drew1 | refine below_set ?_ (IsS80.ge HI497.out) | refine below_set ?_ GE493.out) | exact HB.out)) hb); replace HI497 := ak (IsS80.below (by repeat (first | (with_reducible first | exact HI497.out | apply IsS80.alloc | apply IsS80.drewN | apply IsS80.drew | apply IsS80.set_1 | apply IsS80.set_2 | refine IsS80.far ?_ NB497_493.out _) | exact HI497.out)) hb); clear hb ho8; obtain ⟨Ao9, co9, eo9⟩ := Kd.R_slice HO500.out; subst eo9) | ((with_reducible refine gate_callee (f := 56) rfl ?_); refine gl (some 10) Try.func56 #[.pointer (some ⟨g497, 0, none⟩), .slice Ao9 y498.length co9] ?_; (with_reducible refine (spec_l01PickInt.calls g497 t494 t495 t496 _ _ y498 t501 t502 t503 w _ ?side1 ?side2 ?side3 ?side4 ?side5 A3.out).mono ?_); (case side1 => repeat (first | (with_reducible first | exact HI497.out | apply IsS80.alloc | apply IsS80.drewN | apply IsS80.drew | apply IsS80.set_1 | apply IsS80.set_2 | refine IsS80.far ?_ NB497_493.out _) | exact HI497.out)); (case side2 => repeat (first | (with_reducible first | exact HB.out | apply below_alloc | apply pw_below_drewN | apply below_drew1 | refine below_set ?_ (IsS80.ge HI497.out) | refine below_set ?_ GE493.out) | exact HB.out)); (case side3 => exact cG (Kd.R_reads' HO500.out).2.2); (case side4 => exact (Kd.R_reads' HO500.out).2.1); (case side5 => exact far_slice (IsS80.own_ne HI497.out HO500.out (by decide))); rintro e w10 ⟨rfl, hi, hb, hk⟩; refine ⟨_, rfl, ?_⟩; replace BK493 := ak (KeepBut.blk hk (g' := gb493) (o := .cells #[.slice none 0 0, .slice none 0 0] 27 (0, 0)) (bG BK493) NB493_497.out (by simp)); replace HO500 := ak (Kd.R_mono (Kd.R_keep (IsS80.apart (show IsS80 w _ g497 t494 t495 t496 from by repeat (first | (with_reducible first | exact HI497.out | apply IsS80.alloc | apply IsS80.drewN | apply IsS80.drew | apply IsS80.set_1 | apply IsS80.set_2 | refine IsS80.far ?_ NB497_493.out _) | exact HI497.out)) (rG HO500) (by decide)) hk (fun _ h => h.2)) (fun _ h => h.1)); replace HB := ak (hb); replace HI497 := ak (hi); (try clear hb); (try clear hb2); (try clear hk); (try clear hi)) | ((with_reducible refine gate_callee (f := 68) rfl ?_); refine gl (some 12) Try.func68 #[.pointer (some ⟨g497, 0, none⟩)] ?_; (with_reducible refine (spec_l05Any.calls k g497 t494 t502 t503 t504 t507 t510 t511 w _ ?side1 ?side2 A4.out).mono ?_); (case side1 => repeat (first | (with_reducible first | exact HI497.out | apply IsS80.alloc | apply IsS80.drewN | apply IsS80.drew | apply IsS80.set_1 | apply IsS80.set_2 | refine IsS80.far ?_ NB497_493.out _) | exact HI497.out)); (case side2 => repeat (first | (with_reducible first | exact HB.out | apply below_alloc | apply pw_below_drewN | apply below_drew1 | refine below_set ?_ (IsS80.ge HI497.out) | refine below_set ?_ GE493.out) | exact HB.out)); rintro e w11 ⟨v505, v508, rfl, ho0, ho1, hi, hb, hk⟩; refine ⟨_, rfl, ?_⟩; replace BK493 := ak (KeepBut.blk hk (g' := gb493) (o := .cells #[.slice none 0 0, .slice none 0 0] 27 (0, 0)) (bG BK493) NB493_497.out (by simp)); replace HO500 := ak (Kd.R_mono (Kd.R_keep (IsS80.apart (show IsS80 w _ g497 t494 t502 t503 from by repeat (first | (with_reducible first | exact HI497.out | apply IsS80.alloc | apply IsS80.drewN | apply IsS80.drew | apply IsS80.set_1 | apply IsS80.set_2 | refine IsS80.far ?_ NB497_493.out _) | exact HI497.out)) (rG HO500) (by decide)) hk (fun _ h => h.2)) (fun _ h => h.1)); replace HO506 := ak (Kd.R_lower ho0 (below_size (by repeat (first | (with_reducible first | exact HB.out | apply below_alloc | apply pw_below_drewN | apply below_drew1 | refine below_set ?_ (IsS80.ge HI497.out) | refine below_set ?_ GE493.out) | exact HB.out)))); replace HO509 := ak (Kd.R_lower ho1 (below_size (by repeat (first | (with_reducible first | exact HB.out | apply below_alloc | apply pw_below_drewN | apply below_drew1 | refine below_set ?_ (IsS80.ge HI497.out) | refine below_set ?_ GE493.out) | exact HB.out)))); replace HB := ak (hb); replace HI497 := ak (hi); (try clear hb); (try clear hb2); (try clear hk); (try clear hi); (try clear ho0); (try clear ho1); obtain ⟨Ao12, co12, eo12⟩ := Kd.R_slice HO506.out; subst eo12; have hnb13 := NB493_497.out; have hnc13 := NB497_493.out; obtain ⟨hcz14_0, hcz14_1, hfz14_0, hfz14_1⟩ := bC2 BK493; obtain ⟨Ao15, co15, eo15⟩ := Kd.R_slice HO509.out; subst eo15))
 refine bodyPost_ret (results_ct rfl _ _ gb493 27 #[.slice Ao12 t504.length co12, .slice Ao15 t507.length co15] (0, 0) _ rfl (bW BK493) Try.underlying27 rfl (by kernel_rfl)) rfl ?_
 exact ⟨_, _, ew, by exact Kd.R_mono (rT HO506 BK493 (by decide)) (fun _ hk => trivial), by exact Kd.R_mono (rT HO509 BK493 (by decide)) (fun _ hk => trivial), by repeat (first | (with_reducible first | exact HB.out | apply below_alloc | apply pw_below_drewN | apply below_drew1 | refine below_set ?_ (IsS80.ge HI497.out) | refine below_set ?_ GE493.out) | exact HB.out)⟩
/-! ### spec_DrawSegFrames: function 37 -/
def spec_DrawSegFrames.f (k : Nat) (l0 : List Int) : Option (List ByteArray × (List (S63)) × Int) := (spec_l05Pair.f k l0).bind fun bt513 => (some (bt513.1, bt513.2.1, bt513.2.2))
theorem spec_DrawSegFrames.mono : ∀ a0 k, LeO (spec_DrawSegFrames.f k a0) (spec_DrawSegFrames.f (k + 1) a0) := by
 intro a0 k
 unfold spec_DrawSegFrames.f
 repeat' first
   | (with_reducible exact spec_l05Pair.mono _ _)
   | (with_reducible exact LeO.refl _)
   | (with_reducible exact LeO.none _)
   | (with_reducible refine LeO.ite ?_ ?_)
   | (with_reducible refine LeO.bind ?_ (fun _ => ?_))
   | exact spec_l05Pair.mono _ _
   | exact LeO.none _
   | refine LeO.ite ?_ ?_
   | refine LeO.bind ?_ (fun _ => ?_)
theorem spec_DrawSegFrames.calls (k : Nat) (A0 : Option Addr) (c0 : Nat) (l0 : List Int) (r1 : List ByteArray) (r2 : List (S63)) (r3 : Int) (w : World) (hr0 : Kd.C (Kd.int .u8) w A0 l0.length l0) (hc0 : l0.length ≤ c0) (h : spec_DrawSegFrames.f k l0 = some (r1, r2, r3)) :
  Calls Try.prog 37 #[.slice A0 l0.length c0] w fun e w' => ∃ v0_ v1_ : Value, e = .returned (.tuple #[.agg #[v0_, v1_], .int .i64 r3]) ∧ Kd.R Kd.string 9 w' w.heap.size (fun _ => True) v0_ r1 ∧ Kd.R k63 63 w' w.heap.size (fun _ => True) v1_ r2 ∧ Below w.heap.size w w' := by
 have hu27 := Try.underlying27
 have HR0 := Aside0.mk hr0
 have HC0 := Aside0.mk hc0
 clear hr0 hc0
 have HB := ak (Below.refl w.heap.size w)
 have H : ((spec_l05Pair.f k l0).bind fun bt513 => (some (bt513.1, bt513.2.1, bt513.2.2))) = some (r1, r2, r3) := h
 clear h
 replace H := Option.bind_eq_some_iff.mp H
 obtain ⟨⟨t513, t516, t519⟩, A20, H⟩ := H
 replace H : (some (t513, t516, t519)) = some (r1, r2, r3) := H
 have A2 := Aside0.mk A20
 clear A20
 simp only [Option.some.injEq, Prod.mk.injEq] at H
 obtain ⟨rfl, rfl, rfl⟩ := H
 go_enter Try.func37, Try.ntmps37
 go_wp2_with (first | ((with_reducible refine gate_dst (N := 2) rfl ?_); refine bx 2 #[.slice none 0 0, .slice none 0 0] 27 ?_; intro gb512 hg w3 hbox hb; replace BK512 := ak (hbox); replace GW512 := ak (bz hg (lG HB)); replace GE512 := ak (bz hg (lG HB)); replace HB := lB HB hb; clear hb hbox hg) | ((with_reducible refine gate_callee (f := 64) rfl ?_); refine gl (some 5) Try.func64 #[.slice A0 l0.length c0] ?_; (with_reducible refine (spec_l05Pair.calls k _ _ l0 t513 t516 t519 _ ?side1 ?side2 A2.out).mono ?_); (case side1 => exact cG (Kd.C_below HR0.out HB.out)); (case side2 => exact HC0.out); rintro e w4 ⟨v514, v517, rfl, ho0, ho1, hb⟩; refine ⟨_, rfl, ?_⟩; replace HO515 := ak (Kd.R_lower ho0 (below_size (lT HB (gC GE512 gN)))); replace HO518 := ak (Kd.R_lower ho1 (below_size (lT HB (gC GE512 gN)))); replace BK512 := bB BK512 hb; replace HB := ak (below_step (lT HB (gC GE512 gN)) hb); (try clear hb); (try clear hk); (try clear ho0); (try clear ho1); obtain ⟨Ao5, co5, eo5⟩ := Kd.R_slice HO515.out; subst eo5; obtain ⟨hcz6_0, hcz6_1, hfz6_0, hfz6_1⟩ := bC2 BK512; obtain ⟨Ao7, co7, eo7⟩ := Kd.R_slice HO518.out; subst eo7))
 refine bodyPost_ret (results_ct rfl _ _ gb512 27 #[.slice Ao5 t513.length co5, .slice Ao7 t516.length co7] (0, 0) _ rfl (bW BK512) Try.underlying27 rfl (by kernel_rfl)) rfl ?_
 exact ⟨_, _, ew, by exact Kd.R_mono (rT HO515 BK512 (by decide)) (fun _ hk => trivial), by exact Kd.R_mono (rT HO518 BK512 (by decide)) (fun _ hk => trivial), by exact lT HB (gC GE512 gN)⟩
end Go.Proofs.Ytjpngldnkgofaaa.PFnSegmentsTold
