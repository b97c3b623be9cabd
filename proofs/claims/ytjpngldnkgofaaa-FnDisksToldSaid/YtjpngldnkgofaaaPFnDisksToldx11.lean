-- Written for this claim by a program of mine (a turned copy of the kit's print): functions as plain Lean, and their contracts. Lean checks it.
import Derived.Test.YtjpngldnkgofaaaPFnDisksToldx0
import Derived.Test.YtjpngldnkgofaaaPFnDisksToldx4
import Derived.Test.YtjpngldnkgofaaaPFnDisksToldx6
import Derived.Test.YtjpngldnkgofaaaPFnDisksToldx7
import Derived.Test.YtjpngldnkgofaaaPFnDisksToldx10
import Derived.Test.YtjpngldnkgofaaaVFnDisksTold1
namespace Go.Proofs.Ytjpngldnkgofaaa.PFnDisksTold
open Go.RowKit Go.Proofs.YtjpngldnkgofaaaW.PrintWords Go.Proofs.YtjpngldnkgofaaaW.PrintLast Go.Proofs.YtjpngldnkgofaaaW.PrintMore
attribute [local go_sem] max2_int min2_int max_two min_two max_three min_three max_four min_four   -- for this text's walks alone
set_option linter.unusedVariables false
set_option linter.unusedSimpArgs false

/-! ### spec_l03Any: function 57 -/
def spec_l03Any.l0 : Nat → Int → List Int → Int → Int → List ByteArray → List (S63) → Option (List ByteArray × (List (S63)) × Int × Int)
 | 0, _, _, _, _, _, _ => none
 | k + 1, x4, x1000, x1001, x1002, x343000, x343001 => if (x343001.length : Int) < (wrap64 (59 + (Int.tmod x4 3))) then ((spec_l03Zero.f k).bind fun t349 => (if x343001.length < 5864062014805 then (spec_l03Any.l0 k x4 x1000 x1001 x1002 x343000 (x343001 ++ [(⟨0, t349⟩ : S63)])) else (none))) else (some (x343000, x343001, x1001, x1002))
def spec_l03Any.f (k : Nat) (s0_0 : List Int) (s0_1 : Int) (s0_2 : Int) : Option (List ByteArray × (List (S63)) × Int × Int) := (spec_l01Below.f s0_0 s0_1 s0_2 12).bind fun bt322 => ((spec_l01Below.f s0_0 bt322.2.1 bt322.2.2 60).bind fun bt325 => ((spec_l03Disk.f k s0_0 bt325.2.1 bt325.2.2).bind fun bt328 => ((spec_l03Copy.f bt328.1 bt328.2.1).bind fun bt336 => (if bt322.1 = 0 then (if (bt336.1.length : Int) = 0 then (none) else ((spec_l01Long.f k (wrap64 (31 + (Int.tmod bt325.1 3))) 97).bind fun t343 => (if 0 ≤ (Int.tmod bt325.1 (bt336.1.length : Int)) then (if (Int.tmod bt325.1 (bt336.1.length : Int)) < (bt336.1.length : Int) then (some ((bt336.1.set ((Int.tmod bt325.1 (bt336.1.length : Int)) : Int).toNat t343), bt336.2, bt328.2.2.1, bt328.2.2.2)) else (none)) else (none)))) else (if bt322.1 = 1 then ((spec_l01Long.f k (wrap64 (31 + (Int.tmod bt325.1 3))) 98).bind fun t345 => (if bt336.2.length < 5864062014805 then (some (bt336.1, (bt336.2 ++ [(⟨wrap64 ((Int.tmod bt325.1 9) - 1), t345⟩ : S63)]), bt328.2.2.1, bt328.2.2.2)) else (none))) else (if bt322.1 = 2 then (spec_l03Any.l0 k bt325.1 s0_0 bt328.2.2.1 bt328.2.2.2 bt336.1 bt336.2) else (if bt322.1 = 3 then (if 0 ≤ (bt336.1.length : Int) then (some ((bt336.1.take (0 : Int).toNat), bt336.2, bt328.2.2.1, bt328.2.2.2)) else (none)) else (some (bt336.1, bt336.2, bt328.2.2.1, bt328.2.2.2)))))))))
theorem spec_l03Any.mono_l : ∀ k, (∀ y0 y1 y2 y3 y4 y5, LeO (spec_l03Any.l0 k y0 y1 y2 y3 y4 y5) (spec_l03Any.l0 (k + 1) y0 y1 y2 y3 y4 y5))
 | 0 => fun _ _ _ _ _ _ r h => by simp [spec_l03Any.l0] at h
 | k + 1 => by
  have ih0 := spec_l03Any.mono_l k
  ·intro y0 y1 y2 y3 y4 y5
   unfold spec_l03Any.l0
   repeat' first
   | (with_reducible exact ih0 _ _ _ _ _ _)
   | (with_reducible exact spec_l01Long.mono _ _ _)
   | (with_reducible exact spec_l03Disk.mono _ _ _ _)
   | (with_reducible exact spec_l03Zero.mono _)
   | (with_reducible exact LeO.refl _)
   | (with_reducible exact LeO.none _)
   | (with_reducible refine LeO.ite ?_ ?_)
   | (with_reducible refine LeO.bind ?_ (fun _ => ?_))
   | exact ih0 _ _ _ _ _ _
   | exact spec_l01Long.mono _ _ _
   | exact spec_l03Disk.mono _ _ _ _
   | exact spec_l03Zero.mono _
   | exact LeO.none _
   | refine LeO.ite ?_ ?_
   | refine LeO.bind ?_ (fun _ => ?_)
theorem spec_l03Any.mono : ∀ a0 a1 a2 k, LeO (spec_l03Any.f k a0 a1 a2) (spec_l03Any.f (k + 1) a0 a1 a2) := by
 intro a0 a1 a2 k
 have ih0 := spec_l03Any.mono_l k
 unfold spec_l03Any.f
 repeat' first
   | (with_reducible exact ih0 _ _ _ _ _ _)
   | (with_reducible exact spec_l01Long.mono _ _ _)
   | (with_reducible exact spec_l03Disk.mono _ _ _ _)
   | (with_reducible exact spec_l03Zero.mono _)
   | (with_reducible exact LeO.refl _)
   | (with_reducible exact LeO.none _)
   | (with_reducible refine LeO.ite ?_ ?_)
   | (with_reducible refine LeO.bind ?_ (fun _ => ?_))
   | exact ih0 _ _ _ _ _ _
   | exact spec_l01Long.mono _ _ _
   | exact spec_l03Disk.mono _ _ _ _
   | exact spec_l03Zero.mono _
   | exact LeO.none _
   | refine LeO.ite ?_ ?_
   | refine LeO.bind ?_ (fun _ => ?_)
def spec_l03Any.T6 : Bool × List (List Nat × List Nat) := (true, [([], []), ([0], [0]), ([], []), ([], []), ([3], [3]), ([4], [4]), ([2, 5], [2, 5]), ([], []), ([7], [7]), ([8], [8]), ([9], [9]), ([1, 6, 0, 1, 2, 3, 4, 5, 6, 7, 8, 9, 10], [1, 6]), ([11, 10, 10, 0, 1, 2, 3, 4, 5, 6, 7, 8, 9, 10], [10, 11])])
def spec_l03Any.B6 : List Nat := [0, 1, 0, 0, 8, 24, 60, 0, 128, 384, 896, 2047, 4095]
theorem spec_l03Any.tab6 : rtab .any (opsOf Try.f57 6) = spec_l03Any.T6 := by kernel_rfl
theorem spec_l03Any.bits6 : waitsOk spec_l03Any.T6.2 spec_l03Any.B6 = true := by kernel_rfl
def spec_l03Any.T8 : Bool × List (List Nat × List Nat) := (true, [([], []), ([0], [0]), ([], []), ([2], [2]), ([3], [3]), ([], []), ([5], [5]), ([6], [6]), ([7], [7]), ([4, 8], [4, 8]), ([9], [9]), ([1, 10, 8], [1, 10]), ([0, 1, 2, 3, 4, 5, 6, 7, 8, 9, 10, 11], []), ([12, 11, 11, 0, 1, 2, 3, 4, 5, 6, 7, 8, 9, 10, 11], [11, 12])])
def spec_l03Any.B8 : List Nat := [0, 1, 0, 4, 12, 0, 32, 96, 224, 508, 1020, 2047, 4095, 8191]
theorem spec_l03Any.tab8 : rtab .any (opsOf Try.f57 8) = spec_l03Any.T8 := by kernel_rfl
theorem spec_l03Any.bits8 : waitsOk spec_l03Any.T8.2 spec_l03Any.B8 = true := by kernel_rfl
def spec_l03Any.T11 : Bool × List (List Nat × List Nat) := (true, [([], []), ([0], [0]), ([], []), ([2], [2]), ([3], [3]), ([1, 4, 2], [1, 4]), ([0, 1, 2, 3, 4, 5], []), ([6, 5, 5, 0, 1, 2, 3, 4, 5], [5, 6])])
def spec_l03Any.B11 : List Nat := [0, 1, 0, 4, 12, 31, 63, 127]
theorem spec_l03Any.tab11 : rtab .any (opsOf Try.f57 11) = spec_l03Any.T11 := by kernel_rfl
theorem spec_l03Any.bits11 : waitsOk spec_l03Any.T11.2 spec_l03Any.B11 = true := by kernel_rfl
set_option maxHeartbeats 8000000 in
set_option maxRecDepth 100000 in
theorem spec_l03Any.calls (k : Nat) (g : Nat) (s0_0 : List Int) (s0_1 : Int) (s0_2 : Int) (r1 : List ByteArray) (r2 : List (S63)) (r3 : Int) (r4 : Int) (w0 w : World) (hI : IsS80 w0 w g s0_0 s0_1 s0_2) (hB : Below w0.heap.size w0 w) (h : spec_l03Any.f k s0_0 s0_1 s0_2 = some (r1, r2, r3, r4)) :
  Calls Try.prog 57 #[.pointer (some ⟨g, 0, none⟩)] w fun e w' => ∃ v0_ v1_ : Value, e = .returned (.agg #[v0_, v1_]) ∧ Kd.R Kd.string 9 w' w.heap.size (fun _ => True) v0_ r1 ∧ Kd.R k63 63 w' w.heap.size (fun _ => True) v1_ r2 ∧ IsS80 w0 w' g s0_0 r3 r4 ∧ Below w0.heap.size w0 w' ∧ KeepBut w w' g none := by
 have hu27 := Try.underlying27
 have hu63 := Try.underlying63
 have HI0 := Aside0.mk hI
 have HK := ak (KeepBut.refl w g none)
 have HL := Aside0.mk hB.size
 clear hI
 have HW0 := Aside0.mk hB.size
 have HB := Aside0.mk hB
 clear hB
 have H : ((spec_l01Below.f s0_0 s0_1 s0_2 12).bind fun bt322 => ((spec_l01Below.f s0_0 bt322.2.1 bt322.2.2 60).bind fun bt325 => ((spec_l03Disk.f k s0_0 bt325.2.1 bt325.2.2).bind fun bt328 => ((spec_l03Copy.f bt328.1 bt328.2.1).bind fun bt336 => (if bt322.1 = 0 then (if (bt336.1.length : Int) = 0 then (none) else ((spec_l01Long.f k (wrap64 (31 + (Int.tmod bt325.1 3))) 97).bind fun t343 => (if 0 ≤ (Int.tmod bt325.1 (bt336.1.length : Int)) then (if (Int.tmod bt325.1 (bt336.1.length : Int)) < (bt336.1.length : Int) then (some ((bt336.1.set ((Int.tmod bt325.1 (bt336.1.length : Int)) : Int).toNat t343), bt336.2, bt328.2.2.1, bt328.2.2.2)) else (none)) else (none)))) else (if bt322.1 = 1 then ((spec_l01Long.f k (wrap64 (31 + (Int.tmod bt325.1 3))) 98).bind fun t345 => (if bt336.2.length < 5864062014805 then (some (bt336.1, (bt336.2 ++ [(⟨wrap64 ((Int.tmod bt325.1 9) - 1), t345⟩ : S63)]), bt328.2.2.1, bt328.2.2.2)) else (none))) else (if bt322.1 = 2 then (spec_l03Any.l0 k bt325.1 s0_0 bt328.2.2.1 bt328.2.2.2 bt336.1 bt336.2) else (if bt322.1 = 3 then (if 0 ≤ (bt336.1.length : Int) then (some ((bt336.1.take (0 : Int).toNat), bt336.2, bt328.2.2.1, bt328.2.2.2)) else (none)) else (some (bt336.1, bt336.2, bt328.2.2.1, bt328.2.2.2)))))))))) = some (r1, r2, r3, r4) := h
 clear h
 replace H := Option.bind_eq_some_iff.mp H
 obtain ⟨⟨t322, t323, t324⟩, A20, H⟩ := H
 replace H : ((spec_l01Below.f s0_0 t323 t324 60).bind fun bt325 => ((spec_l03Disk.f k s0_0 bt325.2.1 bt325.2.2).bind fun bt328 => ((spec_l03Copy.f bt328.1 bt328.2.1).bind fun bt336 => (if t322 = 0 then (if (bt336.1.length : Int) = 0 then (none) else ((spec_l01Long.f k (wrap64 (31 + (Int.tmod bt325.1 3))) 97).bind fun t343 => (if 0 ≤ (Int.tmod bt325.1 (bt336.1.length : Int)) then (if (Int.tmod bt325.1 (bt336.1.length : Int)) < (bt336.1.length : Int) then (some ((bt336.1.set ((Int.tmod bt325.1 (bt336.1.length : Int)) : Int).toNat t343), bt336.2, bt328.2.2.1, bt328.2.2.2)) else (none)) else (none)))) else (if t322 = 1 then ((spec_l01Long.f k (wrap64 (31 + (Int.tmod bt325.1 3))) 98).bind fun t345 => (if bt336.2.length < 5864062014805 then (some (bt336.1, (bt336.2 ++ [(⟨wrap64 ((Int.tmod bt325.1 9) - 1), t345⟩ : S63)]), bt328.2.2.1, bt328.2.2.2)) else (none))) else (if t322 = 2 then (spec_l03Any.l0 k bt325.1 s0_0 bt328.2.2.1 bt328.2.2.2 bt336.1 bt336.2) else (if t322 = 3 then (if 0 ≤ (bt336.1.length : Int) then (some ((bt336.1.take (0 : Int).toNat), bt336.2, bt328.2.2.1, bt328.2.2.2)) else (none)) else (some (bt336.1, bt336.2, bt328.2.2.1, bt328.2.2.2))))))))) = some (r1, r2, r3, r4) := H
 have A2 := Aside0.mk A20
 clear A20
 replace H := Option.bind_eq_some_iff.mp H
 obtain ⟨⟨t325, t326, t327⟩, A30, H⟩ := H
 replace H : ((spec_l03Disk.f k s0_0 t326 t327).bind fun bt328 => ((spec_l03Copy.f bt328.1 bt328.2.1).bind fun bt336 => (if t322 = 0 then (if (bt336.1.length : Int) = 0 then (none) else ((spec_l01Long.f k (wrap64 (31 + (Int.tmod t325 3))) 97).bind fun t343 => (if 0 ≤ (Int.tmod t325 (bt336.1.length : Int)) then (if (Int.tmod t325 (bt336.1.length : Int)) < (bt336.1.length : Int) then (some ((bt336.1.set ((Int.tmod t325 (bt336.1.length : Int)) : Int).toNat t343), bt336.2, bt328.2.2.1, bt328.2.2.2)) else (none)) else (none)))) else (if t322 = 1 then ((spec_l01Long.f k (wrap64 (31 + (Int.tmod t325 3))) 98).bind fun t345 => (if bt336.2.length < 5864062014805 then (some (bt336.1, (bt336.2 ++ [(⟨wrap64 ((Int.tmod t325 9) - 1), t345⟩ : S63)]), bt328.2.2.1, bt328.2.2.2)) else (none))) else (if t322 = 2 then (spec_l03Any.l0 k t325 s0_0 bt328.2.2.1 bt328.2.2.2 bt336.1 bt336.2) else (if t322 = 3 then (if 0 ≤ (bt336.1.length : Int) then (some ((bt336.1.take (0 : Int).toNat), bt336.2, bt328.2.2.1, bt328.2.2.2)) else (none)) else (some (bt336.1, bt336.2, bt328.2.2.1, bt328.2.2.2)))))))) = some (r1, r2, r3, r4) := H
 have A3 := Aside0.mk A30
 clear A30
 replace H := Option.bind_eq_some_iff.mp H
 obtain ⟨⟨t328, t331, t334, t335⟩, A40, H⟩ := H
 replace H : ((spec_l03Copy.f t328 t331).bind fun bt336 => (if t322 = 0 then (if (bt336.1.length : Int) = 0 then (none) else ((spec_l01Long.f k (wrap64 (31 + (Int.tmod t325 3))) 97).bind fun t343 => (if 0 ≤ (Int.tmod t325 (bt336.1.length : Int)) then (if (Int.tmod t325 (bt336.1.length : Int)) < (bt336.1.length : Int) then (some ((bt336.1.set ((Int.tmod t325 (bt336.1.length : Int)) : Int).toNat t343), bt336.2, t334, t335)) else (none)) else (none)))) else (if t322 = 1 then ((spec_l01Long.f k (wrap64 (31 + (Int.tmod t325 3))) 98).bind fun t345 => (if bt336.2.length < 5864062014805 then (some (bt336.1, (bt336.2 ++ [(⟨wrap64 ((Int.tmod t325 9) - 1), t345⟩ : S63)]), t334, t335)) else (none))) else (if t322 = 2 then (spec_l03Any.l0 k t325 s0_0 t334 t335 bt336.1 bt336.2) else (if t322 = 3 then (if 0 ≤ (bt336.1.length : Int) then (some ((bt336.1.take (0 : Int).toNat), bt336.2, t334, t335)) else (none)) else (some (bt336.1, bt336.2, t334, t335))))))) = some (r1, r2, r3, r4) := H
 have A4 := Aside0.mk A40
 clear A40
 replace H := Option.bind_eq_some_iff.mp H
 obtain ⟨⟨t336, t339⟩, A50, H⟩ := H
 replace H : (if t322 = 0 then (if (t336.length : Int) = 0 then (none) else ((spec_l01Long.f k (wrap64 (31 + (Int.tmod t325 3))) 97).bind fun t343 => (if 0 ≤ (Int.tmod t325 (t336.length : Int)) then (if (Int.tmod t325 (t336.length : Int)) < (t336.length : Int) then (some ((t336.set ((Int.tmod t325 (t336.length : Int)) : Int).toNat t343), t339, t334, t335)) else (none)) else (none)))) else (if t322 = 1 then ((spec_l01Long.f k (wrap64 (31 + (Int.tmod t325 3))) 98).bind fun t345 => (if t339.length < 5864062014805 then (some (t336, (t339 ++ [(⟨wrap64 ((Int.tmod t325 9) - 1), t345⟩ : S63)]), t334, t335)) else (none))) else (if t322 = 2 then (spec_l03Any.l0 k t325 s0_0 t334 t335 t336 t339) else (if t322 = 3 then (if 0 ≤ (t336.length : Int) then (some ((t336.take (0 : Int).toNat), t339, t334, t335)) else (none)) else (some (t336, t339, t334, t335)))))) = some (r1, r2, r3, r4) := H
 have A5 := Aside0.mk A50
 clear A50
 by_cases c6 : t322 = 0
 ·rw [if_pos c6] at H
  have c6b0 : (t322 == 0) = true := beq_iff_eq.mpr c6
  have c6b1 : (t322 != 0) = false := bne_eq_false_iff_eq.mpr c6
  clear c6
  by_cases c7 : (t336.length : Int) = 0
  ·rw [if_pos c7] at H
   exact absurd H (by simp)
  ·rw [if_neg c7] at H
   have c7b0 : ((t336.length : Int) == 0) = false := beq_eq_false_iff_ne.mpr c7
   have c7b1 : ((t336.length : Int) != 0) = true := bne_iff_ne.mpr c7
   have c7b2 : ¬ (t336 = []) := fun h_ => c7 (by rw [h_]; rfl)
   replace H := Option.bind_eq_some_iff.mp H
   obtain ⟨t343, A80, H⟩ := H
   replace H : (if 0 ≤ (Int.tmod t325 (t336.length : Int)) then (if (Int.tmod t325 (t336.length : Int)) < (t336.length : Int) then (some ((t336.set ((Int.tmod t325 (t336.length : Int)) : Int).toNat t343), t339, t334, t335)) else (none)) else (none)) = some (r1, r2, r3, r4) := H
   have A8 := Aside0.mk A80
   clear A80
   obtain ⟨ji9, hji9⟩ : ∃ j_ : Int, (Int.tmod t325 (t336.length : Int)) = j_ := ⟨_, rfl⟩
   replace H : (if 0 ≤ (ji9) then (if (ji9) < (t336.length : Int) then (some ((t336.set ((ji9) : Int).toNat t343), t339, t334, t335)) else (none)) else (none)) = some (r1, r2, r3, r4) := by first | (rw [hji9] at H; exact H) | (simp only [hji9] at H ⊢; exact H)
   (try rw [hji9] at A2)
   (try rw [hji9] at A3)
   (try rw [hji9] at A4)
   (try rw [hji9] at A5)
   (try rw [hji9] at A8)
   by_cases c10 : 0 ≤ (ji9)
   ·rw [if_pos c10] at H
    have c10b0 : decide (0 ≤ (ji9)) = true := decide_eq_true c10
    clear c10
    by_cases c11 : (ji9) < (t336.length : Int)
    ·rw [if_pos c11] at H
     have c11b0 : decide ((ji9) < (t336.length : Int)) = true := decide_eq_true c11
     clear c11
     obtain ⟨y344, hy344⟩ : ∃ y_ : List ByteArray, y_ = (t336.set ((ji9) : Int).toNat t343) := ⟨_, rfl⟩
     replace H : (some (y344, t339, t334, t335)) = some (r1, r2, r3, r4) := by first | (rw [hy344]; with_reducible exact H) | (have H2_ := (Option.bind_some _ _).symm.trans H; rw [hy344]; with_reducible exact H2_) | (have H2_ := (Option.bind_some _ _).symm.trans H; with_reducible exact H2_) | with_reducible exact H | (rw [hy344]; exact H) | exact H
     have Ny344 := Aside0.mk hy344
     clear hy344
     simp only [Option.some.injEq, Prod.mk.injEq] at H
     obtain ⟨rfl, rfl, rfl, rfl⟩ := H
     go_enter Try.func57, Try.ntmps57
     try go_wp2_with (first | ((with_reducible refine gate_dst (N := 2) rfl ?_); refine bx 2 #[.slice none 0 0, .slice none 0 0] 27 ?_; intro gb321 hg w13 hbox hb; replace HB := ak (below_step (lT HB gN) hb); replace BK321 := ak (hbox); replace GW321 := ak ((by rw [hg]; exact (keep_size (w := w) (g := g) (row := none) (kT HK gN)) : w.heap.size ≤ gb321)); replace GE321 := ak ((Nat.le_trans HW0.out (by rw [hg]; exact (keep_size (w := w) (g := g) (row := none) (kT HK gN)) : w.heap.size ≤ gb321) : w0.heap.size ≤ gb321)); replace HK := ak (KeepBut.trans (kT HK gN) (KeepBut.of_below hb g none) (.inl rfl)); replace NB0_321 := ak ((by rw [hg]; exact Nat.ne_of_lt (IsS80.lt (show IsS80 w0 _ g s0_0 s0_1 s0_2 from IsS80.T_ HI0 nN)) : g ≠ gb321)); replace NB321_0 := ak ((by rw [hg]; exact Nat.ne_of_gt (IsS80.lt (show IsS80 w0 _ g s0_0 s0_1 s0_2 from IsS80.T_ HI0 nN)) : gb321 ≠ g)); replace HI0 := ak (IsS80.below (IsS80.T_ HI0 nN) hb); clear hb hbox hg) | ((with_reducible refine gate_callee (f := 47) rfl ?_); refine gl (some 7) Try.func47 #[.pointer (some ⟨g, 0, none⟩), .int .i64 12] ?_; (with_reducible refine (spec_l01Below.calls g s0_0 s0_1 s0_2 12 t322 t323 t324 w0 _ ?side1 ?side2 A2.out).mono ?_); (case side1 => exact IsS80.T_ HI0 (nC NB0_321 nN)); (case side2 => exact lT HB (gC GE321 gN)); rintro e w14 ⟨rfl, hi, hb, hk⟩; refine ⟨_, rfl, ?_⟩; replace BK321 := ak (KeepBut.blk hk (g' := gb321) (o := .cells #[.slice none 0 0, .slice none 0 0] 27 (0, 0)) (bG BK321) NB321_0.out (by simp)); replace HK := ak (KeepBut.trans (kT HK (gC GW321 gN)) hk (.inl rfl)); replace HB := ak (hb); replace HI0 := ak (hi); (try clear hb); (try clear hk); (try clear hi)) | ((with_reducible refine gate_callee (f := 47) rfl ?_); refine gl (some 9) Try.func47 #[.pointer (some ⟨g, 0, none⟩), .int .i64 60] ?_; (with_reducible refine (spec_l01Below.calls g s0_0 t323 t324 60 t325 t326 t327 w0 _ ?side1 ?side2 A3.out).mono ?_); (case side1 => exact IsS80.T_ HI0 (nC NB0_321 nN)); (case side2 => exact lT HB (gC GE321 gN)); rintro e w15 ⟨rfl, hi, hb, hk⟩; refine ⟨_, rfl, ?_⟩; replace BK321 := ak (KeepBut.blk hk (g' := gb321) (o := .cells #[.slice none 0 0, .slice none 0 0] 27 (0, 0)) (bG BK321) NB321_0.out (by simp)); replace HK := ak (KeepBut.trans (kT HK (gC GW321 gN)) hk (.inl rfl)); replace HB := ak (hb); replace HI0 := ak (hi); (try clear hb); (try clear hk); (try clear hi)) | ((with_reducible refine gate_callee (f := 44) rfl ?_); refine gl (some 11) Try.func44 #[.pointer (some ⟨g, 0, none⟩)] ?_; (with_reducible refine (spec_l03Disk.calls k g s0_0 t326 t327 t328 t331 t334 t335 w0 _ ?side1 ?side2 A4.out).mono ?_); (case side1 => exact IsS80.T_ HI0 (nC NB0_321 nN)); (case side2 => exact lT HB (gC GE321 gN)); rintro e w16 ⟨v329, v332, rfl, ho0, ho1, hi, hb, hk⟩; refine ⟨_, rfl, ?_⟩; replace BK321 := ak (KeepBut.blk hk (g' := gb321) (o := .cells #[.slice none 0 0, .slice none 0 0] 27 (0, 0)) (bG BK321) NB321_0.out (by simp)); replace HO330 := ak (Kd.R_lower ho0 (keep_size (w := w) (g := g) (row := none) (kT HK (gC GW321 gN)))); replace HO333 := ak (Kd.R_lower ho1 (keep_size (w := w) (g := g) (row := none) (kT HK (gC GW321 gN)))); replace HK := ak (KeepBut.trans (kT HK (gC GW321 gN)) hk (.inl rfl)); replace HB := ak (hb); replace HI0 := ak (hi); (try clear hb); (try clear hk); (try clear hi); (try clear ho0); (try clear ho1); obtain ⟨Ao17, co17, eo17⟩ := Kd.R_slice HO330.out; subst eo17; obtain ⟨Ao18, co18, eo18⟩ := Kd.R_slice HO333.out; subst eo18) | ((with_reducible refine gate_callee (f := 58) rfl ?_); refine gl (some 12) Try.func58 #[.agg #[.slice Ao17 t328.length co17, .slice Ao18 t331.length co18]] ?_; (with_reducible refine (spec_l03Copy.calls _ _ t328 _ _ t331 t336 t339 _ ?side1 ?side2 ?side3 ?side4 A5.out).mono ?_); (case side1 => exact cG (Kd.R_reads' HO330.out).2.2); (case side2 => exact (Kd.R_reads' HO330.out).2.1); (case side3 => exact cG (Kd.R_reads' HO333.out).2.2); (case side4 => exact (Kd.R_reads' HO333.out).2.1); rintro e w19 ⟨v337, v340, rfl, ho0, ho1, hb⟩; refine ⟨_, rfl, ?_⟩; replace HO338 := ak (Kd.R_lower (Kd.R_new' ho0 (Kd.R_lt (rG HO330))) (keep_size (w := w) (g := g) (row := none) (kT HK (gC GW321 gN)))); replace HO330 := ak (Kd.R_elder' (rG HO330) (Kd.R_base ho0) hb); replace HO341 := ak (Kd.R_lower (Kd.R_new' ho1 (Kd.R_lt (rG HO333))) (keep_size (w := w) (g := g) (row := none) (kT HK (gC GW321 gN)))); replace HO333 := ak (Kd.R_elder' (rG HO333) (Kd.R_base ho1) hb); replace BK321 := bB BK321 hb; replace HK := ak (KeepBut.trans (kT HK (gC GW321 gN)) (KeepBut.of_below hb g none) (.inl rfl)); replace HB := ak (below_step (lT HB (gC GE321 gN)) hb); replace HI0 := ak (IsS80.below (IsS80.T_ HI0 (nC NB0_321 nN)) hb); (try clear hb); (try clear hk); (try clear hi); (try clear ho0); (try clear ho1)) | ((with_reducible refine gate_dst (N := 5) rfl ?_); refine bx 5 #[.slice none 0 0, .slice none 0 0] 27 ?_; intro gb342 hg w20 hbox hb; replace HO330 := rB HO330 hb; replace HO333 := rB HO333 hb; replace HO338 := rB HO338 hb; replace HO341 := rB HO341 hb; replace HB := ak (below_step (lT HB (gC GE321 gN)) hb); replace BK342 := ak (hbox); replace GW342 := ak ((by rw [hg]; exact (keep_size (w := w) (g := g) (row := none) (kT HK (gC GW321 gN))) : w.heap.size ≤ gb342)); replace GE342 := ak ((Nat.le_trans HW0.out (by rw [hg]; exact (keep_size (w := w) (g := g) (row := none) (kT HK (gC GW321 gN))) : w.heap.size ≤ gb342) : w0.heap.size ≤ gb342)); replace HK := ak (KeepBut.trans (kT HK (gC GW321 gN)) (KeepBut.of_below hb g none) (.inl rfl)); replace NB321_342 := ak (nl hg (bG BK321)); replace NB342_321 := ak (ng hg (bG BK321)); replace BK321 := bB BK321 hb; replace NB0_342 := ak ((by rw [hg]; exact Nat.ne_of_lt (IsS80.lt (show IsS80 w0 _ g s0_0 t334 t335 from IsS80.T_ HI0 (nC NB0_321 nN))) : g ≠ gb342)); replace NB342_0 := ak ((by rw [hg]; exact Nat.ne_of_gt (IsS80.lt (show IsS80 w0 _ g s0_0 t334 t335 from IsS80.T_ HI0 (nC NB0_321 nN))) : gb342 ≠ g)); replace HI0 := ak (IsS80.below (IsS80.T_ HI0 (nC NB0_321 nN)) hb); clear hb hbox hg; obtain ⟨Ao21, co21, eo21⟩ := Kd.R_slice HO338.out; subst eo21; have hnb22 := NB342_321.out; have hnc22 := NB321_342.out; have hnb23 := NB342_0.out; have hnc23 := NB0_342.out; obtain ⟨hcz24_0, hcz24_1, hfz24_0, hfz24_1⟩ := bC2 BK342; obtain ⟨Ao25, co25, eo25⟩ := Kd.R_slice HO341.out; subst eo25))
     have n0_ : Aside0 (Kd.R Kd.string 9 ((w20.setCell ⟨gb342, 0, none⟩ (.slice Ao21 t336.length co21)).setCell ⟨gb342, 1, none⟩ (.slice Ao25 t339.length co25)) w.heap.size (fun k_ => some k_ ≠ (.slice Ao21 t336.length co21 : Value).ownBlock) (.slice Ao17 t328.length co17) t328) := ⟨by (with_reducible repeat (first | apply Kd.R_alloc | apply Kd.R_drewN | apply Kd.R_drew)); exact Kd.R_mono (Kd.R_far (p := ⟨gb342, 1, none⟩) (Kd.R_far (p := ⟨gb342, 0, none⟩) (Kd.R_types HO330.out BK342.out (by decide)) (fun _ hk => hk.2) (.slice Ao21 t336.length co21)) (fun _ hk => hk.2) (.slice Ao25 t339.length co25)) (fun _ hk => hk.1.2)⟩
     have n1_ : Aside0 (Kd.R k63 63 ((w20.setCell ⟨gb342, 0, none⟩ (.slice Ao21 t336.length co21)).setCell ⟨gb342, 1, none⟩ (.slice Ao25 t339.length co25)) w.heap.size (fun k_ => some k_ ≠ (.slice Ao25 t339.length co25 : Value).ownBlock) (.slice Ao18 t331.length co18) t331) := ⟨by (with_reducible repeat (first | apply Kd.R_alloc | apply Kd.R_drewN | apply Kd.R_drew)); exact Kd.R_mono (Kd.R_far (p := ⟨gb342, 1, none⟩) (Kd.R_far (p := ⟨gb342, 0, none⟩) (Kd.R_types HO333.out BK342.out (by decide)) (fun _ hk => hk.2) (.slice Ao21 t336.length co21)) (fun _ hk => hk.2) (.slice Ao25 t339.length co25)) (fun _ hk => hk.1.2)⟩
     have n2_ : Aside0 (Kd.R Kd.string 9 ((w20.setCell ⟨gb342, 0, none⟩ (.slice Ao21 t336.length co21)).setCell ⟨gb342, 1, none⟩ (.slice Ao25 t339.length co25)) w.heap.size (fun k_ => some k_ ≠ (.slice Ao17 t328.length co17 : Value).ownBlock) (.slice Ao21 t336.length co21) t336) := ⟨by (with_reducible repeat (first | apply Kd.R_alloc | apply Kd.R_drewN | apply Kd.R_drew)); exact Kd.R_mono (Kd.R_far (p := ⟨gb342, 1, none⟩) (Kd.R_far (p := ⟨gb342, 0, none⟩) (Kd.R_types HO338.out BK342.out (by decide)) (fun _ hk => hk.2) (.slice Ao21 t336.length co21)) (fun _ hk => hk.2) (.slice Ao25 t339.length co25)) (fun _ hk => hk.1.2)⟩
     have n3_ : Aside0 (Kd.R k63 63 ((w20.setCell ⟨gb342, 0, none⟩ (.slice Ao21 t336.length co21)).setCell ⟨gb342, 1, none⟩ (.slice Ao25 t339.length co25)) w.heap.size (fun k_ => some k_ ≠ (.slice Ao18 t331.length co18 : Value).ownBlock) (.slice Ao25 t339.length co25) t339) := ⟨by (with_reducible repeat (first | apply Kd.R_alloc | apply Kd.R_drewN | apply Kd.R_drew)); exact Kd.R_mono (Kd.R_far (p := ⟨gb342, 1, none⟩) (Kd.R_far (p := ⟨gb342, 0, none⟩) (Kd.R_types HO341.out BK342.out (by decide)) (fun _ hk => hk.2) (.slice Ao21 t336.length co21)) (fun _ hk => hk.2) (.slice Ao25 t339.length co25)) (fun _ hk => hk.1.2)⟩
     have n4_ : Aside0 (((w20.setCell ⟨gb342, 0, none⟩ (.slice Ao21 t336.length co21)).setCell ⟨gb342, 1, none⟩ (.slice Ao25 t339.length co25)).heap[gb321]? = some (.cells #[.slice none 0 0, .slice none 0 0] 27 (0, 0))) := ⟨by (with_reducible repeat (first | refine blk_drewN ?_ _ | refine blk_drew ?_ | refine blk_alloc ?_ _)); refine blk_far ?_ NB321_342.out _; (with_reducible repeat (first | refine blk_drewN ?_ _ | refine blk_drew ?_ | refine blk_alloc ?_ _)); refine blk_far ?_ NB321_342.out _; (with_reducible repeat (first | refine blk_drewN ?_ _ | refine blk_drew ?_ | refine blk_alloc ?_ _)); exact BK321.out⟩
     have n5_ : Aside0 (((w20.setCell ⟨gb342, 0, none⟩ (.slice Ao21 t336.length co21)).setCell ⟨gb342, 1, none⟩ (.slice Ao25 t339.length co25)).heap[gb342]? = some (.cells #[.slice Ao21 t336.length co21, .slice Ao25 t339.length co25] 27 (0, 0))) := ⟨bW BK342⟩
     have n6_ : Aside0 (IsS80 w0 ((w20.setCell ⟨gb342, 0, none⟩ (.slice Ao21 t336.length co21)).setCell ⟨gb342, 1, none⟩ (.slice Ao25 t339.length co25)) g s0_0 t334 t335) := ⟨IsS80.T_ HI0 (nC NB0_321 (nC NB0_342 nN))⟩
     have n7_ : Aside0 (KeepBut w ((w20.setCell ⟨gb342, 0, none⟩ (.slice Ao21 t336.length co21)).setCell ⟨gb342, 1, none⟩ (.slice Ao25 t339.length co25)) g none) := ⟨kT HK (gC GW321 (gC GW342 gN))⟩
     have n8_ : Aside0 (Below w0.heap.size w0 ((w20.setCell ⟨gb342, 0, none⟩ (.slice Ao21 t336.length co21)).setCell ⟨gb342, 1, none⟩ (.slice Ao25 t339.length co25))) := ⟨lT HB (gC GE321 (gC GE342 gN))⟩
     (try clear HO330)
     (try clear HO333)
     (try clear HO338)
     (try clear HO341)
     (try clear BK321)
     (try clear BK342)
     (try clear HI0)
     (try clear HK)
     (try clear HB)
     generalize ((w20.setCell ⟨gb342, 0, none⟩ (.slice Ao21 t336.length co21)).setCell ⟨gb342, 1, none⟩ (.slice Ao25 t339.length co25)) = w26 at n0_ n1_ n2_ n3_ n4_ n5_ n6_ n7_ n8_ ⊢
     have HO330 := n0_
     have HO333 := n1_
     have HO338 := n2_
     have HO341 := n3_
     have BK321 := n4_
     have BK342 := n5_
     have HI0 := n6_
     have HK := n7_
     have HB := n8_
     clear n0_ n1_ n2_ n3_ n4_ n5_ n6_ n7_ n8_
     replace HO330 := ak (Kd.R_drew HO330.out)
     replace HO333 := ak (Kd.R_drew HO333.out)
     replace HO338 := ak (Kd.R_drew HO338.out)
     replace HO341 := ak (Kd.R_drew HO341.out)
     replace BK321 := ak (blk_drew BK321.out)
     replace BK342 := ak (blk_drew BK342.out)
     replace HI0 := ak (IsS80.drew HI0.out)
     replace HK := ak (keep_drew HK.out)
     replace HB := ak (below_drew1 HB.out)
     refine start_ (n := 13) (S := fun w' => w'.cell? ⟨gb342, 0, none⟩ = some (.slice Ao21 t336.length co21) ∧ w'.cell? ⟨gb342, 1, none⟩ = some (.slice Ao25 t339.length co25)) (ds := [12]) #[f_,f_,f_,f_,f_,f_,f_,f_,f_,f_,f_,f_,f_] (by kernel_rfl) rfl rfl ⟨bc BK342 0, bc BK342 1⟩ (fun hHeld => ?_); refine with_tabW spec_l03Any.tab6 spec_l03Any.bits6 (fun HT_ HW_ => ?_)
     generalize w26.drew = w27 at HO330 HO333 HO338 HO341 BK321 BK342 HI0 HK HB hHeld ⊢
     refine pu 0 16 (fb 13 1) HT_ ?_
     refine pu 2 18 (fb 13 5) HT_ ?_
     refine pu 3 19 (fb 13 13) HT_ ?_
     refine pu 7 23 (fb 13 141) HT_ ?_
     refine pu 8 24 (fb 13 397) HT_ ?_
     refine pu 9 25 (fb 13 909) HT_ ?_
     refine tk 1 17 (fb 13 911) HT_ HW_ hHeld ?_
     refine tk 4 20 (fb 13 927) HT_ HW_ hHeld ?_
     refine pu 5 21 (fb 13 959) HT_ ?_
     refine pu 6 22 (fb 13 1023) HT_ ?_
     refine on 10 (some 26) (fb 13 2047) HT_ (fun K hK => ?_)
     refine goes_ Try.func78 (by kernel_rfl) rfl #[.int .i64 (wrap64 (31 + (Int.tmod t325 3))), .int .u8 97] (by rfl) rfl rfl (by (try simp only [List.map_toArray, List.map_cons, List.map_nil]); first | done | rfl | (simp only [List.length_drop, List.length_take]; rfl)) ?_
     with_reducible refine (spec_l01Long.calls k (wrap64 (31 + (Int.tmod t325 3))) 97 t343 _ A8.out).mono ?_
     rintro e w28 ⟨rfl, hb⟩
     refine ⟨_, rfl, ?_⟩
     replace HO330 := rB HO330 hb
     replace HO333 := rB HO333 hb
     replace HO338 := rB HO338 hb
     replace HO341 := rB HO341 hb
     replace BK321 := bB BK321 hb
     replace BK342 := bB BK342 hb
     replace HK := ak (KeepBut.trans (kT HK (gC GW321 (gC GW342 gN))) (KeepBut.of_below hb g none) (.inl rfl))
     replace HB := ak (below_step (lT HB (gC GE321 (gC GE342 gN))) hb)
     replace HI0 := ak (IsS80.below (IsS80.T_ HI0 (nC NB0_321 (nC NB0_342 nN))) hb)
     (try clear hb)
     (try clear hb2)
     (try clear hk)
     (try clear hi)
     have p12 : 0 ≤ ((ji9) : Int) := of_decide_eq_true (by first | (with_reducible assumption) | assumption)
     have q12 : ((ji9) : Int) < ((t336.length : Int) : Int) := of_decide_eq_true (by first | (with_reducible assumption) | assumption)
     obtain ⟨go12, co12, eo12, gb12, gl12, cl12, HG12⟩ := Kd.R_form HO338.out (by omega)
     (first | cases eo12 | (injection eo12 with ea_ en_ ec_; (first | subst ea_ | (injection ea_ with ea_; subst ea_)); subst ec_; clear en_))
     have GB12 := Aside0.mk gb12
     have GG12 := Aside0.mk HG12
     clear gb12 gl12 HG12
     obtain ⟨hx12_0, hf12_0⟩ := Kd.R_celln (⟨#[]⟩ : ByteArray) HO338.out ((ji9) : Int) p12 q12
     replace p12 := eq_true p12
     replace q12 := eq_true q12
     have HN0_go12 := ak (show g ≠ go12 from by have h_ := IsS80.own_ne HI0.out HO338.out (by decide); intro e_; exact h_ (by rw [e_]; rfl))
     have HP29 := Kd.R_putn HO338.out ((ji9) : Int) t343
     rw [← Ny344.out] at HP29
     have HQ29 := Aside0.mk HP29
     clear HP29
     refine hK.out _ _ ⟨bc BK342 0, bc BK342 1⟩ (fun hHeld => ?_)
     clear hK K
     refine nm ?_
     refine pu 11 27 (fb 13 4095) HT_ ?_
     refine last_ (i := 12) (N := none) #[t_,t_,t_,t_,t_,t_,t_,t_,t_,t_,t_,t_,t_] rfl rfl (one_of HT_.out (by kernel_rfl)) (by decide) (fun K hK => ?_)
     refine skip_ (w1 := ?_) (by rfl) rfl ?_ ?_
     rotate_left
     ·go_simp
      rfl
     refine hK.out _ _ ?_
     clear hK K
     refine done_ (done_of HT_.out (by kernel_rfl)) ?_
     have n0_ : Aside0 (Kd.R Kd.string 9 (w28.setCell ⟨go12, ((ji9) : Int).toNat, none⟩ (.string t343)) w.heap.size (fun k_ => some k_ ≠ (.slice (some ⟨go12, 0, none⟩) t336.length co21 : Value).ownBlock) (.slice Ao17 t328.length co17) t328) := ⟨by (with_reducible repeat (first | apply Kd.R_alloc | apply Kd.R_drewN | apply Kd.R_drew)); exact Kd.R_mono (Kd.R_far (p := ⟨go12, ((ji9) : Int).toNat, none⟩) (Kd.R_mono HO330.out (fun k_ hk => (⟨hk, fun e_ => hk (by rw [e_]; rfl)⟩ : _ ∧ k_ ≠ go12))) (fun _ hk => hk.2) (.string t343)) (fun _ hk => hk.1)⟩
     have n1_ : Aside0 (Kd.R k63 63 (w28.setCell ⟨go12, ((ji9) : Int).toNat, none⟩ (.string t343)) w.heap.size (fun k_ => some k_ ≠ (.slice Ao25 t339.length co25 : Value).ownBlock) (.slice Ao18 t331.length co18) t331) := ⟨by (with_reducible repeat (first | apply Kd.R_alloc | apply Kd.R_drewN | apply Kd.R_drew)); exact Kd.R_mono (Kd.R_far (p := ⟨go12, ((ji9) : Int).toNat, none⟩) (Kd.R_types HO333.out GG12.out (by decide)) (fun _ hk => hk.2) (.string t343)) (fun _ hk => hk.1)⟩
     have n2_ : Aside0 (Kd.R Kd.string 9 (w28.setCell ⟨go12, ((ji9) : Int).toNat, none⟩ (.string t343)) w.heap.size (fun k_ => some k_ ≠ (.slice Ao17 t328.length co17 : Value).ownBlock) (.slice (some ⟨go12, 0, none⟩) t336.length co21) y344) := ⟨by (with_reducible repeat (first | apply Kd.R_alloc | apply Kd.R_drewN | apply Kd.R_drew)); exact HQ29.out⟩
     have n3_ : Aside0 (Kd.R k63 63 (w28.setCell ⟨go12, ((ji9) : Int).toNat, none⟩ (.string t343)) w.heap.size (fun k_ => some k_ ≠ (.slice Ao18 t331.length co18 : Value).ownBlock) (.slice Ao25 t339.length co25) t339) := ⟨by (with_reducible repeat (first | apply Kd.R_alloc | apply Kd.R_drewN | apply Kd.R_drew)); exact Kd.R_mono (Kd.R_far (p := ⟨go12, ((ji9) : Int).toNat, none⟩) (Kd.R_types HO341.out GG12.out (by decide)) (fun _ hk => hk.2) (.string t343)) (fun _ hk => hk.1)⟩
     have n4_ : Aside0 ((w28.setCell ⟨go12, ((ji9) : Int).toNat, none⟩ (.string t343)).heap[gb321]? = some (.cells #[.slice none 0 0, .slice none 0 0] 27 (0, 0))) := ⟨by (with_reducible repeat (first | refine blk_drewN ?_ _ | refine blk_drew ?_ | refine blk_alloc ?_ _)); refine blk_far ?_ (by have h_ := Kd.R_ne HO338.out BK321.out (by decide); intro e_; exact h_ (by rw [e_]; rfl)) _; (with_reducible repeat (first | refine blk_drewN ?_ _ | refine blk_drew ?_ | refine blk_alloc ?_ _)); exact BK321.out⟩
     have n5_ : Aside0 ((w28.setCell ⟨go12, ((ji9) : Int).toNat, none⟩ (.string t343)).heap[gb342]? = some (.cells #[.slice (some ⟨go12, 0, none⟩) t336.length co21, .slice Ao25 t339.length co25] 27 (0, 0))) := ⟨by (with_reducible repeat (first | refine blk_drewN ?_ _ | refine blk_drew ?_ | refine blk_alloc ?_ _)); refine blk_far ?_ (by have h_ := Kd.R_ne HO338.out BK342.out (by decide); intro e_; exact h_ (by rw [e_]; rfl)) _; (with_reducible repeat (first | refine blk_drewN ?_ _ | refine blk_drew ?_ | refine blk_alloc ?_ _)); exact BK342.out⟩
     have n6_ : Aside0 (IsS80 w0 (w28.setCell ⟨go12, ((ji9) : Int).toNat, none⟩ (.string t343)) g s0_0 t334 t335) := ⟨by repeat (first | (with_reducible first | exact HI0.out | apply IsS80.alloc | apply IsS80.drewN | apply IsS80.drew | apply IsS80.set_1 | apply IsS80.set_2 | refine IsS80.far ?_ HN0_go12.out _ | refine IsS80.far ?_ NB0_321.out _ | refine IsS80.far ?_ NB0_342.out _) | exact HI0.out)⟩
     have n7_ : Aside0 (KeepBut w (w28.setCell ⟨go12, ((ji9) : Int).toNat, none⟩ (.string t343)) g none) := ⟨by repeat (first | (with_reducible first | exact HK.out | apply KeepBut.set_ | apply keep_drewN | apply keep_drew | apply keep_alloc | refine keep_far ?_ GB12.out _ | refine keep_far ?_ GW321.out _ | refine keep_far ?_ GW342.out _) | exact HK.out)⟩
     have n8_ : Aside0 (Below w0.heap.size w0 (w28.setCell ⟨go12, ((ji9) : Int).toNat, none⟩ (.string t343))) := ⟨by repeat (first | (with_reducible first | exact HB.out | apply below_alloc | apply pw_below_drewN | apply below_drew1 | refine below_set ?_ (Nat.le_trans HL.out GB12.out) | refine below_set ?_ (IsS80.ge HI0.out) | refine below_set ?_ GE321.out | refine below_set ?_ GE342.out) | exact HB.out)⟩
     (try clear HO330)
     (try clear HO333)
     (try clear HO338)
     (try clear HO341)
     (try clear BK321)
     (try clear BK342)
     (try clear HI0)
     (try clear HK)
     (try clear HB)
     generalize (w28.setCell ⟨go12, ((ji9) : Int).toNat, none⟩ (.string t343)) = w30 at n0_ n1_ n2_ n3_ n4_ n5_ n6_ n7_ n8_ ⊢
     have HO330 := n0_
     have HO333 := n1_
     have HO338 := n2_
     have HO341 := n3_
     have BK321 := n4_
     have BK342 := n5_
     have HI0 := n6_
     have HK := n7_
     have HB := n8_
     clear n0_ n1_ n2_ n3_ n4_ n5_ n6_ n7_ n8_
     have hcz31_0 : w30.cell? ⟨gb342, 0, none⟩ = some (.slice (some ⟨go12, 0, none⟩) t336.length co21) := bc BK342 0
     have hcz31_1 : w30.cell? ⟨gb342, 1, none⟩ = some (.slice Ao25 t339.length co25) := bc BK342 1
     have hfz31_0 := blk_frozen BK342.out 0
     have hfz31_1 := blk_frozen BK342.out 1
     have hnb32 := NB321_0.out
     have hnc32 := NB0_321.out
     have hcz33_0 : w30.cell? ⟨gb321, 0, none⟩ = some (.slice none 0 0) := bc BK321 0
     have hcz33_1 : w30.cell? ⟨gb321, 1, none⟩ = some (.slice none 0 0) := bc BK321 1
     have hfz33_0 := blk_frozen BK321.out 0
     have hfz33_1 := blk_frozen BK321.out 1
     try go_wp2
     refine bodyPost_ret (results_cell_row rfl _ _ gb321 27 #[.slice (some ⟨go12, 0, none⟩) t336.length co21, .slice Ao25 t339.length co25] (0, 0) _ rfl (bW BK321) Try.underlying27 rfl (by kernel_rfl)) rfl ?_
     exact ⟨_, _, by first | rfl | (simp [errW_none, errW_some] <;> rfl) | (simp only [← hji9]; first | rfl | (simp [errW_none, errW_some] <;> rfl)) | (simp [*, errW_none, errW_some] <;> rfl), by exact Kd.R_mono (rT HO338 BK321 (by decide)) (fun _ hk => trivial), by exact Kd.R_mono (rT HO341 BK321 (by decide)) (fun _ hk => trivial), IsS80.T_ HI0 (nC NB0_321 (nC NB0_342 nN)), lT HB (gC GE321 (gC GE342 gN)), kT HK (gC GW321 (gC GW342 gN))⟩
    ·rw [if_neg c11] at H
     exact absurd H (by simp)
   ·rw [if_neg c10] at H
    exact absurd H (by simp)
 ·rw [if_neg c6] at H
  have c6b0 : (t322 == 0) = false := beq_eq_false_iff_ne.mpr c6
  have c6b1 : (t322 != 0) = true := bne_iff_ne.mpr c6
  by_cases c34 : t322 = 1
  ·rw [if_pos c34] at H
   have c34b0 : (t322 == 1) = true := beq_iff_eq.mpr c34
   have c34b1 : (t322 != 1) = false := bne_eq_false_iff_eq.mpr c34
   clear c34
   replace H := Option.bind_eq_some_iff.mp H
   obtain ⟨t345, A350, H⟩ := H
   replace H : (if t339.length < 5864062014805 then (some (t336, (t339 ++ [(⟨wrap64 ((Int.tmod t325 9) - 1), t345⟩ : S63)]), t334, t335)) else (none)) = some (r1, r2, r3, r4) := H
   have A35 := Aside0.mk A350
   clear A350
   by_cases c36 : t339.length < 5864062014805
   ·rw [if_pos c36] at H
    have LMc36 := Aside0.mk c36
    clear c36
    obtain ⟨y346, hy346⟩ : ∃ y_ : List (S63), y_ = (t339 ++ [(⟨wrap64 ((Int.tmod t325 9) - 1), t345⟩ : S63)]) := ⟨_, rfl⟩
    replace H : (some (t336, y346, t334, t335)) = some (r1, r2, r3, r4) := by first | (rw [hy346]; with_reducible exact H) | (have H2_ := (Option.bind_some _ _).symm.trans H; rw [hy346]; with_reducible exact H2_) | (have H2_ := (Option.bind_some _ _).symm.trans H; with_reducible exact H2_) | with_reducible exact H | (rw [hy346]; exact H) | exact H
    have Ny346 := Aside0.mk hy346
    clear hy346
    simp only [Option.some.injEq, Prod.mk.injEq] at H
    obtain ⟨rfl, rfl, rfl, rfl⟩ := H
    go_enter Try.func57, Try.ntmps57
    try go_wp2_with (first | ((with_reducible refine gate_dst (N := 2) rfl ?_); refine bx 2 #[.slice none 0 0, .slice none 0 0] 27 ?_; intro gb321 hg w37 hbox hb; replace HB := ak (below_step (lT HB gN) hb); replace BK321 := ak (hbox); replace GW321 := ak ((by rw [hg]; exact (keep_size (w := w) (g := g) (row := none) (kT HK gN)) : w.heap.size ≤ gb321)); replace GE321 := ak ((Nat.le_trans HW0.out (by rw [hg]; exact (keep_size (w := w) (g := g) (row := none) (kT HK gN)) : w.heap.size ≤ gb321) : w0.heap.size ≤ gb321)); replace HK := ak (KeepBut.trans (kT HK gN) (KeepBut.of_below hb g none) (.inl rfl)); replace NB0_321 := ak ((by rw [hg]; exact Nat.ne_of_lt (IsS80.lt (show IsS80 w0 _ g s0_0 s0_1 s0_2 from IsS80.T_ HI0 nN)) : g ≠ gb321)); replace NB321_0 := ak ((by rw [hg]; exact Nat.ne_of_gt (IsS80.lt (show IsS80 w0 _ g s0_0 s0_1 s0_2 from IsS80.T_ HI0 nN)) : gb321 ≠ g)); replace HI0 := ak (IsS80.below (IsS80.T_ HI0 nN) hb); clear hb hbox hg) | ((with_reducible refine gate_callee (f := 47) rfl ?_); refine gl (some 7) Try.func47 #[.pointer (some ⟨g, 0, none⟩), .int .i64 12] ?_; (with_reducible refine (spec_l01Below.calls g s0_0 s0_1 s0_2 12 t322 t323 t324 w0 _ ?side1 ?side2 A2.out).mono ?_); (case side1 => exact IsS80.T_ HI0 (nC NB0_321 nN)); (case side2 => exact lT HB (gC GE321 gN)); rintro e w38 ⟨rfl, hi, hb, hk⟩; refine ⟨_, rfl, ?_⟩; replace BK321 := ak (KeepBut.blk hk (g' := gb321) (o := .cells #[.slice none 0 0, .slice none 0 0] 27 (0, 0)) (bG BK321) NB321_0.out (by simp)); replace HK := ak (KeepBut.trans (kT HK (gC GW321 gN)) hk (.inl rfl)); replace HB := ak (hb); replace HI0 := ak (hi); (try clear hb); (try clear hk); (try clear hi)) | ((with_reducible refine gate_callee (f := 47) rfl ?_); refine gl (some 9) Try.func47 #[.pointer (some ⟨g, 0, none⟩), .int .i64 60] ?_; (with_reducible refine (spec_l01Below.calls g s0_0 t323 t324 60 t325 t326 t327 w0 _ ?side1 ?side2 A3.out).mono ?_); (case side1 => exact IsS80.T_ HI0 (nC NB0_321 nN)); (case side2 => exact lT HB (gC GE321 gN)); rintro e w39 ⟨rfl, hi, hb, hk⟩; refine ⟨_, rfl, ?_⟩; replace BK321 := ak (KeepBut.blk hk (g' := gb321) (o := .cells #[.slice none 0 0, .slice none 0 0] 27 (0, 0)) (bG BK321) NB321_0.out (by simp)); replace HK := ak (KeepBut.trans (kT HK (gC GW321 gN)) hk (.inl rfl)); replace HB := ak (hb); replace HI0 := ak (hi); (try clear hb); (try clear hk); (try clear hi)) | ((with_reducible refine gate_callee (f := 44) rfl ?_); refine gl (some 11) Try.func44 #[.pointer (some ⟨g, 0, none⟩)] ?_; (with_reducible refine (spec_l03Disk.calls k g s0_0 t326 t327 t328 t331 t334 t335 w0 _ ?side1 ?side2 A4.out).mono ?_); (case side1 => exact IsS80.T_ HI0 (nC NB0_321 nN)); (case side2 => exact lT HB (gC GE321 gN)); rintro e w40 ⟨v329, v332, rfl, ho0, ho1, hi, hb, hk⟩; refine ⟨_, rfl, ?_⟩; replace BK321 := ak (KeepBut.blk hk (g' := gb321) (o := .cells #[.slice none 0 0, .slice none 0 0] 27 (0, 0)) (bG BK321) NB321_0.out (by simp)); replace HO330 := ak (Kd.R_lower ho0 (keep_size (w := w) (g := g) (row := none) (kT HK (gC GW321 gN)))); replace HO333 := ak (Kd.R_lower ho1 (keep_size (w := w) (g := g) (row := none) (kT HK (gC GW321 gN)))); replace HK := ak (KeepBut.trans (kT HK (gC GW321 gN)) hk (.inl rfl)); replace HB := ak (hb); replace HI0 := ak (hi); (try clear hb); (try clear hk); (try clear hi); (try clear ho0); (try clear ho1); obtain ⟨Ao41, co41, eo41⟩ := Kd.R_slice HO330.out; subst eo41; obtain ⟨Ao42, co42, eo42⟩ := Kd.R_slice HO333.out; subst eo42) | ((with_reducible refine gate_callee (f := 58) rfl ?_); refine gl (some 12) Try.func58 #[.agg #[.slice Ao41 t328.length co41, .slice Ao42 t331.length co42]] ?_; (with_reducible refine (spec_l03Copy.calls _ _ t328 _ _ t331 t336 t339 _ ?side1 ?side2 ?side3 ?side4 A5.out).mono ?_); (case side1 => exact cG (Kd.R_reads' HO330.out).2.2); (case side2 => exact (Kd.R_reads' HO330.out).2.1); (case side3 => exact cG (Kd.R_reads' HO333.out).2.2); (case side4 => exact (Kd.R_reads' HO333.out).2.1); rintro e w43 ⟨v337, v340, rfl, ho0, ho1, hb⟩; refine ⟨_, rfl, ?_⟩; replace HO338 := ak (Kd.R_lower (Kd.R_new' ho0 (Kd.R_lt (rG HO330))) (keep_size (w := w) (g := g) (row := none) (kT HK (gC GW321 gN)))); replace HO330 := ak (Kd.R_elder' (rG HO330) (Kd.R_base ho0) hb); replace HO341 := ak (Kd.R_lower (Kd.R_new' ho1 (Kd.R_lt (rG HO333))) (keep_size (w := w) (g := g) (row := none) (kT HK (gC GW321 gN)))); replace HO333 := ak (Kd.R_elder' (rG HO333) (Kd.R_base ho1) hb); replace BK321 := bB BK321 hb; replace HK := ak (KeepBut.trans (kT HK (gC GW321 gN)) (KeepBut.of_below hb g none) (.inl rfl)); replace HB := ak (below_step (lT HB (gC GE321 gN)) hb); replace HI0 := ak (IsS80.below (IsS80.T_ HI0 (nC NB0_321 nN)) hb); (try clear hb); (try clear hk); (try clear hi); (try clear ho0); (try clear ho1)) | ((with_reducible refine gate_dst (N := 5) rfl ?_); refine bx 5 #[.slice none 0 0, .slice none 0 0] 27 ?_; intro gb342 hg w44 hbox hb; replace HO330 := rB HO330 hb; replace HO333 := rB HO333 hb; replace HO338 := rB HO338 hb; replace HO341 := rB HO341 hb; replace HB := ak (below_step (lT HB (gC GE321 gN)) hb); replace BK342 := ak (hbox); replace GW342 := ak ((by rw [hg]; exact (keep_size (w := w) (g := g) (row := none) (kT HK (gC GW321 gN))) : w.heap.size ≤ gb342)); replace GE342 := ak ((Nat.le_trans HW0.out (by rw [hg]; exact (keep_size (w := w) (g := g) (row := none) (kT HK (gC GW321 gN))) : w.heap.size ≤ gb342) : w0.heap.size ≤ gb342)); replace HK := ak (KeepBut.trans (kT HK (gC GW321 gN)) (KeepBut.of_below hb g none) (.inl rfl)); replace NB321_342 := ak (nl hg (bG BK321)); replace NB342_321 := ak (ng hg (bG BK321)); replace BK321 := bB BK321 hb; replace NB0_342 := ak ((by rw [hg]; exact Nat.ne_of_lt (IsS80.lt (show IsS80 w0 _ g s0_0 t334 t335 from IsS80.T_ HI0 (nC NB0_321 nN))) : g ≠ gb342)); replace NB342_0 := ak ((by rw [hg]; exact Nat.ne_of_gt (IsS80.lt (show IsS80 w0 _ g s0_0 t334 t335 from IsS80.T_ HI0 (nC NB0_321 nN))) : gb342 ≠ g)); replace HI0 := ak (IsS80.below (IsS80.T_ HI0 (nC NB0_321 nN)) hb); clear hb hbox hg; obtain ⟨Ao45, co45, eo45⟩ := Kd.R_slice HO338.out; subst eo45; have hnb46 := NB342_321.out; have hnc46 := NB321_342.out; have hnb47 := NB342_0.out; have hnc47 := NB0_342.out; obtain ⟨hcz48_0, hcz48_1, hfz48_0, hfz48_1⟩ := bC2 BK342; obtain ⟨Ao49, co49, eo49⟩ := Kd.R_slice HO341.out; subst eo49))
    have n0_ : Aside0 (Kd.R Kd.string 9 ((w44.setCell ⟨gb342, 0, none⟩ (.slice Ao45 t336.length co45)).setCell ⟨gb342, 1, none⟩ (.slice Ao49 t339.length co49)) w.heap.size (fun k_ => some k_ ≠ (.slice Ao45 t336.length co45 : Value).ownBlock) (.slice Ao41 t328.length co41) t328) := ⟨by (with_reducible repeat (first | apply Kd.R_alloc | apply Kd.R_drewN | apply Kd.R_drew)); exact Kd.R_mono (Kd.R_far (p := ⟨gb342, 1, none⟩) (Kd.R_far (p := ⟨gb342, 0, none⟩) (Kd.R_types HO330.out BK342.out (by decide)) (fun _ hk => hk.2) (.slice Ao45 t336.length co45)) (fun _ hk => hk.2) (.slice Ao49 t339.length co49)) (fun _ hk => hk.1.2)⟩
    have n1_ : Aside0 (Kd.R k63 63 ((w44.setCell ⟨gb342, 0, none⟩ (.slice Ao45 t336.length co45)).setCell ⟨gb342, 1, none⟩ (.slice Ao49 t339.length co49)) w.heap.size (fun k_ => some k_ ≠ (.slice Ao49 t339.length co49 : Value).ownBlock) (.slice Ao42 t331.length co42) t331) := ⟨by (with_reducible repeat (first | apply Kd.R_alloc | apply Kd.R_drewN | apply Kd.R_drew)); exact Kd.R_mono (Kd.R_far (p := ⟨gb342, 1, none⟩) (Kd.R_far (p := ⟨gb342, 0, none⟩) (Kd.R_types HO333.out BK342.out (by decide)) (fun _ hk => hk.2) (.slice Ao45 t336.length co45)) (fun _ hk => hk.2) (.slice Ao49 t339.length co49)) (fun _ hk => hk.1.2)⟩
    have n2_ : Aside0 (Kd.R Kd.string 9 ((w44.setCell ⟨gb342, 0, none⟩ (.slice Ao45 t336.length co45)).setCell ⟨gb342, 1, none⟩ (.slice Ao49 t339.length co49)) w.heap.size (fun k_ => some k_ ≠ (.slice Ao41 t328.length co41 : Value).ownBlock) (.slice Ao45 t336.length co45) t336) := ⟨by (with_reducible repeat (first | apply Kd.R_alloc | apply Kd.R_drewN | apply Kd.R_drew)); exact Kd.R_mono (Kd.R_far (p := ⟨gb342, 1, none⟩) (Kd.R_far (p := ⟨gb342, 0, none⟩) (Kd.R_types HO338.out BK342.out (by decide)) (fun _ hk => hk.2) (.slice Ao45 t336.length co45)) (fun _ hk => hk.2) (.slice Ao49 t339.length co49)) (fun _ hk => hk.1.2)⟩
    have n3_ : Aside0 (Kd.R k63 63 ((w44.setCell ⟨gb342, 0, none⟩ (.slice Ao45 t336.length co45)).setCell ⟨gb342, 1, none⟩ (.slice Ao49 t339.length co49)) w.heap.size (fun k_ => some k_ ≠ (.slice Ao42 t331.length co42 : Value).ownBlock) (.slice Ao49 t339.length co49) t339) := ⟨by (with_reducible repeat (first | apply Kd.R_alloc | apply Kd.R_drewN | apply Kd.R_drew)); exact Kd.R_mono (Kd.R_far (p := ⟨gb342, 1, none⟩) (Kd.R_far (p := ⟨gb342, 0, none⟩) (Kd.R_types HO341.out BK342.out (by decide)) (fun _ hk => hk.2) (.slice Ao45 t336.length co45)) (fun _ hk => hk.2) (.slice Ao49 t339.length co49)) (fun _ hk => hk.1.2)⟩
    have n4_ : Aside0 (((w44.setCell ⟨gb342, 0, none⟩ (.slice Ao45 t336.length co45)).setCell ⟨gb342, 1, none⟩ (.slice Ao49 t339.length co49)).heap[gb321]? = some (.cells #[.slice none 0 0, .slice none 0 0] 27 (0, 0))) := ⟨by (with_reducible repeat (first | refine blk_drewN ?_ _ | refine blk_drew ?_ | refine blk_alloc ?_ _)); refine blk_far ?_ NB321_342.out _; (with_reducible repeat (first | refine blk_drewN ?_ _ | refine blk_drew ?_ | refine blk_alloc ?_ _)); refine blk_far ?_ NB321_342.out _; (with_reducible repeat (first | refine blk_drewN ?_ _ | refine blk_drew ?_ | refine blk_alloc ?_ _)); exact BK321.out⟩
    have n5_ : Aside0 (((w44.setCell ⟨gb342, 0, none⟩ (.slice Ao45 t336.length co45)).setCell ⟨gb342, 1, none⟩ (.slice Ao49 t339.length co49)).heap[gb342]? = some (.cells #[.slice Ao45 t336.length co45, .slice Ao49 t339.length co49] 27 (0, 0))) := ⟨bW BK342⟩
    have n6_ : Aside0 (IsS80 w0 ((w44.setCell ⟨gb342, 0, none⟩ (.slice Ao45 t336.length co45)).setCell ⟨gb342, 1, none⟩ (.slice Ao49 t339.length co49)) g s0_0 t334 t335) := ⟨IsS80.T_ HI0 (nC NB0_321 (nC NB0_342 nN))⟩
    have n7_ : Aside0 (KeepBut w ((w44.setCell ⟨gb342, 0, none⟩ (.slice Ao45 t336.length co45)).setCell ⟨gb342, 1, none⟩ (.slice Ao49 t339.length co49)) g none) := ⟨kT HK (gC GW321 (gC GW342 gN))⟩
    have n8_ : Aside0 (Below w0.heap.size w0 ((w44.setCell ⟨gb342, 0, none⟩ (.slice Ao45 t336.length co45)).setCell ⟨gb342, 1, none⟩ (.slice Ao49 t339.length co49))) := ⟨lT HB (gC GE321 (gC GE342 gN))⟩
    (try clear HO330)
    (try clear HO333)
    (try clear HO338)
    (try clear HO341)
    (try clear BK321)
    (try clear BK342)
    (try clear HI0)
    (try clear HK)
    (try clear HB)
    generalize ((w44.setCell ⟨gb342, 0, none⟩ (.slice Ao45 t336.length co45)).setCell ⟨gb342, 1, none⟩ (.slice Ao49 t339.length co49)) = w50 at n0_ n1_ n2_ n3_ n4_ n5_ n6_ n7_ n8_ ⊢
    have HO330 := n0_
    have HO333 := n1_
    have HO338 := n2_
    have HO341 := n3_
    have BK321 := n4_
    have BK342 := n5_
    have HI0 := n6_
    have HK := n7_
    have HB := n8_
    clear n0_ n1_ n2_ n3_ n4_ n5_ n6_ n7_ n8_
    replace HO330 := ak (Kd.R_drew HO330.out)
    replace HO333 := ak (Kd.R_drew HO333.out)
    replace HO338 := ak (Kd.R_drew HO338.out)
    replace HO341 := ak (Kd.R_drew HO341.out)
    replace BK321 := ak (blk_drew BK321.out)
    replace BK342 := ak (blk_drew BK342.out)
    replace HI0 := ak (IsS80.drew HI0.out)
    replace HK := ak (keep_drew HK.out)
    replace HB := ak (below_drew1 HB.out)
    refine start_ (n := 14) (S := fun w' => w'.cell? ⟨gb342, 0, none⟩ = some (.slice Ao45 t336.length co45) ∧ w'.cell? ⟨gb342, 1, none⟩ = some (.slice Ao49 t339.length co49)) (ds := [13]) #[f_,f_,f_,f_,f_,f_,f_,f_,f_,f_,f_,f_,f_,f_] (by kernel_rfl) rfl rfl ⟨bc BK342 0, bc BK342 1⟩ (fun hHeld => ?_); refine with_tabW spec_l03Any.tab8 spec_l03Any.bits8 (fun HT_ HW_ => ?_)
    generalize w50.drew = w51 at HO330 HO333 HO338 HO341 BK321 BK342 HI0 HK HB hHeld ⊢
    refine pu 0 30 (fb 14 1) HT_ ?_
    refine pu 2 32 (fb 14 5) HT_ ?_
    refine pu 3 33 (fb 14 13) HT_ ?_
    refine pu 4 34 (fb 14 29) HT_ ?_
    refine pu 5 35 (fb 14 61) HT_ ?_
    refine pu 6 36 (fb 14 125) HT_ ?_
    refine pu 7 37 (fb 14 253) HT_ ?_
    refine tk 1 31 (fb 14 255) HT_ HW_ hHeld ?_
    refine on 8 (some 38) (fb 14 511) HT_ (fun K hK => ?_)
    refine goes_ Try.func78 (by kernel_rfl) rfl #[.int .i64 (wrap64 (31 + (Int.tmod t325 3))), .int .u8 98] (by rfl) rfl rfl (by (try simp only [List.map_toArray, List.map_cons, List.map_nil]); first | done | rfl | (simp only [List.length_drop, List.length_take]; rfl)) ?_
    with_reducible refine (spec_l01Long.calls k (wrap64 (31 + (Int.tmod t325 3))) 98 t345 _ A35.out).mono ?_
    rintro e w52 ⟨rfl, hb⟩
    refine ⟨_, rfl, ?_⟩
    replace HO330 := rB HO330 hb
    replace HO333 := rB HO333 hb
    replace HO338 := rB HO338 hb
    replace HO341 := rB HO341 hb
    replace BK321 := bB BK321 hb
    replace BK342 := bB BK342 hb
    replace HK := ak (KeepBut.trans (kT HK (gC GW321 (gC GW342 gN))) (KeepBut.of_below hb g none) (.inl rfl))
    replace HB := ak (below_step (lT HB (gC GE321 (gC GE342 gN))) hb)
    replace HI0 := ak (IsS80.below (IsS80.T_ HI0 (nC NB0_321 (nC NB0_342 nN))) hb)
    (try clear hb)
    (try clear hb2)
    (try clear hk)
    (try clear hi)
    refine hK.out _ _ ⟨bc BK342 0, bc BK342 1⟩ (fun hHeld => ?_)
    clear hK K
    refine nm ?_
    refine pu 9 39 (fb 14 1023) HT_ ?_
    refine on 10 (some 40) (fb 14 2047) HT_ (fun K hK => ?_)
    refine value_ (w1 := ?_) (v := ?_) (by rfl) rfl ?_ ?_
    rotate_left 2
    ·go_simp
     constructor
     ·rfl
     ·rfl
    refine hK.out _ _ ⟨(blk_cell (blk_alloc BK342.out _) 0).trans rfl, (blk_cell (blk_alloc BK342.out _) 1).trans rfl⟩ (fun hHeld => ?_)
    clear hK K
    refine nm ?_
    refine on 11 (some 41) (fb 14 4095) HT_ (fun K hK => ?_)
    refine Kd.R_append_step k63 w.heap.size (by rfl) (.tmp 31) (.tmp 40) 25 63 (.agg #[(.int .i64 0), (.string ⟨#[]⟩)]) 24 rfl Try.underlying25 info63 rfl (by decide) (by omega) (.slice Ao49 t339.length co49) t339 (⟨wrap64 ((Int.tmod t325 9) - 1), t345⟩ : S63) [.int .i64 (wrap64 ((Int.tmod t325 9) - 1)), .string t345] (fun k_ => some k_ ≠ (.slice Ao42 t331.length co42 : Value).ownBlock) (fun _ => False) rfl rfl ?aP (fun _ hk => hk.elim) ?aF ?aO (Below.refl _ _) ?aS ?aL ?_
    (case aP => exact k63_mkM _ _ _ (⟨wrap64 ((Int.tmod t325 9) - 1), t345⟩ : S63))
    (case aF => exact (fun k_ hk => Kd.fresh' (Kd.R_lt (rG HO333)) k_ hk))
    (case aO => exact (rG HO341))
    (case aS => exact (keep_size (w := w) (g := g) (row := none) (kT HK (gC GW321 (gC GW342 gN)))))
    (case aL => have := LMc36.out; omega)
    intro v347 w53 ho hb hg hat
    rw [← Ny346.out] at ho
    have n0_ := ak (IsS80.grown (IsS80.T_ HI0 (nC NB0_321 (nC NB0_342 nN))) hg (IsS80.own_ne HI0.out HO341.out (by decide)))
    have n1_ := ak (blk_grown (g := gb321) (o := .cells #[.slice none 0 0, .slice none 0 0] 27 (0, 0)) (bG BK321) hg (Kd.R_ne HO341.out BK321.out (by decide)))
    have n2_ := ak (Kd.R_over' (rG HO330) (Kd.R_typed (rG HO341)) (by decide) hg)
    have n3_ := ak (Kd.R_after (ok := (fun _ => True)) (by (with_reducible repeat (first | apply Kd.R_alloc | apply Kd.R_drewN | apply Kd.R_drew)); exact Kd.R_mono HO333.out (fun _ hk => ⟨trivial, hk⟩)) hg hat)
    have n4_ := ak (Kd.R_over' (rG HO338) (Kd.R_typed (rG HO341)) (by decide) hg)
    have n5_ := ak (blk_grown (g := gb342) (o := .cells #[.slice Ao45 t336.length co45, .slice Ao49 t339.length co49] 27 (0, 0)) (bG BK342) hg (Kd.R_ne HO341.out BK342.out (by decide)))
    have n6_ := ak (below_weaken (lT HB (gC GE321 (gC GE342 gN))) HL.out hb)
    have n7_ := ak (KeepBut.trans (kT HK (gC GW321 (gC GW342 gN))) (KeepBut.of_grown hg g) (Kd.R_base2 HO341.out))
    have n8_ := ak (ho)
    clear HI0
    clear BK321
    clear HO330
    clear HO333
    clear HO338
    clear BK342
    clear HB
    clear HK
    clear HO341
    have HI0 := n0_
    have BK321 := n1_
    have HO330 := n2_
    have HO333 := n3_
    have HO338 := n4_
    have BK342 := n5_
    have HB := n6_
    have HK := n7_
    have HO348 := n8_
    clear n0_ n1_ n2_ n3_ n4_ n5_ n6_ n7_ n8_
    clear ho hb hg hat
    obtain ⟨Ao54, co54, eo54⟩ := Kd.R_slice HO348.out
    (first | subst eo54 | (injection eo54 with f1_ f2_ f3_; have f4_ := f1_.symm; have f5_ := f3_.symm; clear f1_ f2_ f3_; subst f4_; subst f5_))
    refine hK.out _ _ ⟨bc BK342 0, bc BK342 1⟩ (fun hHeld => ?_)
    clear hK K
    refine nm ?_
    refine pu 12 42 (fb 14 8191) HT_ ?_
    refine last_ (i := 13) (N := none) #[t_,t_,t_,t_,t_,t_,t_,t_,t_,t_,t_,t_,t_,t_] rfl rfl (one_of HT_.out (by kernel_rfl)) (by decide) (fun K hK => ?_)
    have hs55 : w53.cell? ⟨gb342, 1, none⟩ = some (.slice Ao49 t339.length co49) := bc BK342 1
    have hfs55 := blk_frozen BK342.out 1
    have hns55_0 := NB321_342.out
    have hms55_0 := NB342_321.out
    refine skip_ (w1 := ?_) (by rfl) rfl ?_ ?_
    rotate_left
    ·go_simp
     rfl
    refine hK.out _ _ ?_
    clear hK K
    refine done_ (done_of HT_.out (by kernel_rfl)) ?_
    have hcz56_0 : w53.cell? ⟨gb342, 0, none⟩ = some (.slice Ao45 t336.length co45) := bc BK342 0
    have hcz56_1 : w53.cell? ⟨gb342, 1, none⟩ = some (.slice Ao49 t339.length co49) := bc BK342 1
    have hfz56_0 := blk_frozen BK342.out 0
    have hfz56_1 := blk_frozen BK342.out 1
    have hnb57 := NB321_0.out
    have hnc57 := NB0_321.out
    have hcz58_0 : w53.cell? ⟨gb321, 0, none⟩ = some (.slice none 0 0) := bc BK321 0
    have hcz58_1 : w53.cell? ⟨gb321, 1, none⟩ = some (.slice none 0 0) := bc BK321 1
    have hfz58_0 := blk_frozen BK321.out 0
    have hfz58_1 := blk_frozen BK321.out 1
    try go_wp2
    refine bodyPost_ret (results_cell_row rfl _ _ gb321 27 #[.slice Ao45 t336.length co45, .slice Ao54 y346.length co54] (0, 0) _ rfl (by (with_reducible repeat (first | refine blk_drewN ?_ _ | refine blk_drew ?_ | refine blk_alloc ?_ _)); refine blk_put (cs := #[.slice Ao45 t336.length co45, .slice none 0 0]) ?_ 1 _ rfl; (with_reducible repeat (first | refine blk_drewN ?_ _ | refine blk_drew ?_ | refine blk_alloc ?_ _)); refine blk_put (cs := #[.slice none 0 0, .slice none 0 0]) ?_ 0 _ rfl; (with_reducible repeat (first | refine blk_drewN ?_ _ | refine blk_drew ?_ | refine blk_alloc ?_ _)); refine blk_far ?_ NB321_342.out _; (with_reducible repeat (first | refine blk_drewN ?_ _ | refine blk_drew ?_ | refine blk_alloc ?_ _)); exact BK321.out) Try.underlying27 rfl (by kernel_rfl)) rfl ?_
    exact ⟨_, _, ew, by exact Kd.R_mono (rT2 HO338 BK342 BK321 (by decide) (by decide)) (fun _ hk => trivial), by exact Kd.R_mono (rT2 HO348 BK342 BK321 (by decide) (by decide)) (fun _ hk => trivial), IsS80.T_ HI0 (nC NB0_321 (nC NB0_342 nN)), lT HB (gC GE321 (gC GE342 gN)), kT HK (gC GW321 (gC GW342 gN))⟩
   ·rw [if_neg c36] at H
    exact absurd H (by simp)
  ·rw [if_neg c34] at H
   have c34b0 : (t322 == 1) = false := beq_eq_false_iff_ne.mpr c34
   have c34b1 : (t322 != 1) = true := bne_iff_ne.mpr c34
   by_cases c59 : t322 = 2
   ·rw [if_pos c59] at H
    have c59b0 : (t322 == 2) = true := beq_iff_eq.mpr c59
    have c59b1 : (t322 != 2) = false := bne_eq_false_iff_eq.mpr c59
    clear c59
    have H' := Aside0.mk H
    clear H
    go_enter Try.func57, Try.ntmps57
    go_wp2_with (first | ((with_reducible refine gate_dst (N := 2) rfl ?_); refine bx 2 #[.slice none 0 0, .slice none 0 0] 27 ?_; intro gb321 hg w60 hbox hb; replace HB := ak (below_step (lT HB gN) hb); replace BK321 := ak (hbox); replace GW321 := ak ((by rw [hg]; exact (keep_size (w := w) (g := g) (row := none) (kT HK gN)) : w.heap.size ≤ gb321)); replace GE321 := ak ((Nat.le_trans HW0.out (by rw [hg]; exact (keep_size (w := w) (g := g) (row := none) (kT HK gN)) : w.heap.size ≤ gb321) : w0.heap.size ≤ gb321)); replace HK := ak (KeepBut.trans (kT HK gN) (KeepBut.of_below hb g none) (.inl rfl)); replace NB0_321 := ak ((by rw [hg]; exact Nat.ne_of_lt (IsS80.lt (show IsS80 w0 _ g s0_0 s0_1 s0_2 from IsS80.T_ HI0 nN)) : g ≠ gb321)); replace NB321_0 := ak ((by rw [hg]; exact Nat.ne_of_gt (IsS80.lt (show IsS80 w0 _ g s0_0 s0_1 s0_2 from IsS80.T_ HI0 nN)) : gb321 ≠ g)); replace HI0 := ak (IsS80.below (IsS80.T_ HI0 nN) hb); clear hb hbox hg) | ((with_reducible refine gate_callee (f := 47) rfl ?_); refine gl (some 7) Try.func47 #[.pointer (some ⟨g, 0, none⟩), .int .i64 12] ?_; (with_reducible refine (spec_l01Below.calls g s0_0 s0_1 s0_2 12 t322 t323 t324 w0 _ ?side1 ?side2 A2.out).mono ?_); (case side1 => exact IsS80.T_ HI0 (nC NB0_321 nN)); (case side2 => exact lT HB (gC GE321 gN)); rintro e w61 ⟨rfl, hi, hb, hk⟩; refine ⟨_, rfl, ?_⟩; replace BK321 := ak (KeepBut.blk hk (g' := gb321) (o := .cells #[.slice none 0 0, .slice none 0 0] 27 (0, 0)) (bG BK321) NB321_0.out (by simp)); replace HK := ak (KeepBut.trans (kT HK (gC GW321 gN)) hk (.inl rfl)); replace HB := ak (hb); replace HI0 := ak (hi); (try clear hb); (try clear hk); (try clear hi)) | ((with_reducible refine gate_callee (f := 47) rfl ?_); refine gl (some 9) Try.func47 #[.pointer (some ⟨g, 0, none⟩), .int .i64 60] ?_; (with_reducible refine (spec_l01Below.calls g s0_0 t323 t324 60 t325 t326 t327 w0 _ ?side1 ?side2 A3.out).mono ?_); (case side1 => exact IsS80.T_ HI0 (nC NB0_321 nN)); (case side2 => exact lT HB (gC GE321 gN)); rintro e w62 ⟨rfl, hi, hb, hk⟩; refine ⟨_, rfl, ?_⟩; replace BK321 := ak (KeepBut.blk hk (g' := gb321) (o := .cells #[.slice none 0 0, .slice none 0 0] 27 (0, 0)) (bG BK321) NB321_0.out (by simp)); replace HK := ak (KeepBut.trans (kT HK (gC GW321 gN)) hk (.inl rfl)); replace HB := ak (hb); replace HI0 := ak (hi); (try clear hb); (try clear hk); (try clear hi)) | ((with_reducible refine gate_callee (f := 44) rfl ?_); refine gl (some 11) Try.func44 #[.pointer (some ⟨g, 0, none⟩)] ?_; (with_reducible refine (spec_l03Disk.calls k g s0_0 t326 t327 t328 t331 t334 t335 w0 _ ?side1 ?side2 A4.out).mono ?_); (case side1 => exact IsS80.T_ HI0 (nC NB0_321 nN)); (case side2 => exact lT HB (gC GE321 gN)); rintro e w63 ⟨v329, v332, rfl, ho0, ho1, hi, hb, hk⟩; refine ⟨_, rfl, ?_⟩; replace BK321 := ak (KeepBut.blk hk (g' := gb321) (o := .cells #[.slice none 0 0, .slice none 0 0] 27 (0, 0)) (bG BK321) NB321_0.out (by simp)); replace HO330 := ak (Kd.R_lower ho0 (keep_size (w := w) (g := g) (row := none) (kT HK (gC GW321 gN)))); replace HO333 := ak (Kd.R_lower ho1 (keep_size (w := w) (g := g) (row := none) (kT HK (gC GW321 gN)))); replace HK := ak (KeepBut.trans (kT HK (gC GW321 gN)) hk (.inl rfl)); replace HB := ak (hb); replace HI0 := ak (hi); (try clear hb); (try clear hk); (try clear hi); (try clear ho0); (try clear ho1); obtain ⟨Ao64, co64, eo64⟩ := Kd.R_slice HO330.out; subst eo64; obtain ⟨Ao65, co65, eo65⟩ := Kd.R_slice HO333.out; subst eo65) | ((with_reducible refine gate_callee (f := 58) rfl ?_); refine gl (some 12) Try.func58 #[.agg #[.slice Ao64 t328.length co64, .slice Ao65 t331.length co65]] ?_; (with_reducible refine (spec_l03Copy.calls _ _ t328 _ _ t331 t336 t339 _ ?side1 ?side2 ?side3 ?side4 A5.out).mono ?_); (case side1 => exact cG (Kd.R_reads' HO330.out).2.2); (case side2 => exact (Kd.R_reads' HO330.out).2.1); (case side3 => exact cG (Kd.R_reads' HO333.out).2.2); (case side4 => exact (Kd.R_reads' HO333.out).2.1); rintro e w66 ⟨v337, v340, rfl, ho0, ho1, hb⟩; refine ⟨_, rfl, ?_⟩; replace HO338 := ak (Kd.R_lower (Kd.R_new' ho0 (Kd.R_lt (rG HO330))) (keep_size (w := w) (g := g) (row := none) (kT HK (gC GW321 gN)))); replace HO330 := ak (Kd.R_elder' (rG HO330) (Kd.R_base ho0) hb); replace HO341 := ak (Kd.R_lower (Kd.R_new' ho1 (Kd.R_lt (rG HO333))) (keep_size (w := w) (g := g) (row := none) (kT HK (gC GW321 gN)))); replace HO333 := ak (Kd.R_elder' (rG HO333) (Kd.R_base ho1) hb); replace BK321 := bB BK321 hb; replace HK := ak (KeepBut.trans (kT HK (gC GW321 gN)) (KeepBut.of_below hb g none) (.inl rfl)); replace HB := ak (below_step (lT HB (gC GE321 gN)) hb); replace HI0 := ak (IsS80.below (IsS80.T_ HI0 (nC NB0_321 nN)) hb); (try clear hb); (try clear hk); (try clear hi); (try clear ho0); (try clear ho1)) | ((with_reducible refine gate_dst (N := 5) rfl ?_); refine bx 5 #[.slice none 0 0, .slice none 0 0] 27 ?_; intro gb342 hg w67 hbox hb; replace HO330 := rB HO330 hb; replace HO333 := rB HO333 hb; replace HO338 := rB HO338 hb; replace HO341 := rB HO341 hb; replace HB := ak (below_step (lT HB (gC GE321 gN)) hb); replace BK342 := ak (hbox); replace GW342 := ak ((by rw [hg]; exact (keep_size (w := w) (g := g) (row := none) (kT HK (gC GW321 gN))) : w.heap.size ≤ gb342)); replace GE342 := ak ((Nat.le_trans HW0.out (by rw [hg]; exact (keep_size (w := w) (g := g) (row := none) (kT HK (gC GW321 gN))) : w.heap.size ≤ gb342) : w0.heap.size ≤ gb342)); replace HK := ak (KeepBut.trans (kT HK (gC GW321 gN)) (KeepBut.of_below hb g none) (.inl rfl)); replace NB321_342 := ak (nl hg (bG BK321)); replace NB342_321 := ak (ng hg (bG BK321)); replace BK321 := bB BK321 hb; replace NB0_342 := ak ((by rw [hg]; exact Nat.ne_of_lt (IsS80.lt (show IsS80 w0 _ g s0_0 t334 t335 from IsS80.T_ HI0 (nC NB0_321 nN))) : g ≠ gb342)); replace NB342_0 := ak ((by rw [hg]; exact Nat.ne_of_gt (IsS80.lt (show IsS80 w0 _ g s0_0 t334 t335 from IsS80.T_ HI0 (nC NB0_321 nN))) : gb342 ≠ g)); replace HI0 := ak (IsS80.below (IsS80.T_ HI0 (nC NB0_321 nN)) hb); clear hb hbox hg; obtain ⟨Ao68, co68, eo68⟩ := Kd.R_slice HO338.out; subst eo68; have hnb69 := NB342_321.out; have hnc69 := NB321_342.out; have hnb70 := NB342_0.out; have hnc70 := NB0_342.out; obtain ⟨hcz71_0, hcz71_1, hfz71_0, hfz71_1⟩ := bC2 BK342; obtain ⟨Ao72, co72, eo72⟩ := Kd.R_slice HO341.out; subst eo72))
    go_loopg [] k (fun kq w' => ∃ (x343001_1 : List (S63)) (u343001 : Value), Aside0 (spec_l03Any.l0 kq t325 s0_0 t334 t335 t336 x343001_1 = some (r1, r2, r3, r4)) ∧ Aside0 (kq ≤ k) ∧ Aside0 (Kd.R Kd.string 9 w' w.heap.size (fun _ => True) (.slice Ao68 t336.length co68) t336) ∧ Aside0 (Kd.R k63 63 w' w.heap.size (fun _ => True) u343001 x343001_1) ∧ Aside0 (w'.heap[gb321]? = some (.cells #[(.slice none 0 0), (.slice none 0 0)] 27 (0, 0))) ∧ Aside0 (w'.heap[gb342]? = some (.cells #[(.slice Ao68 t336.length co68), u343001] 27 (0, 0))) ∧ Aside0 (IsS80 w0 w' g s0_0 t334 t335) ∧ Aside0 (KeepBut w w' g none) ∧ Aside0 (Below w0.heap.size w0 w'))
    case atStart => exact ⟨(t339), (.slice Ao72 t339.length co72), H', ⟨Nat.le_refl _⟩, ⟨by exact Kd.R_mono (rT HO338 BK342 (by decide)) (fun _ hk => trivial)⟩, ⟨by exact Kd.R_mono (rT HO341 BK342 (by decide)) (fun _ hk => trivial)⟩, ⟨by (with_reducible repeat (first | refine blk_drewN ?_ _ | refine blk_drew ?_ | refine blk_alloc ?_ _)); refine blk_far ?_ NB321_342.out _; (with_reducible repeat (first | refine blk_drewN ?_ _ | refine blk_drew ?_ | refine blk_alloc ?_ _)); refine blk_far ?_ NB321_342.out _; (with_reducible repeat (first | refine blk_drewN ?_ _ | refine blk_drew ?_ | refine blk_alloc ?_ _)); exact BK321.out⟩, ⟨bW BK342⟩, ⟨IsS80.T_ HI0 (nC NB0_321 (nC NB0_342 nN))⟩, ⟨kT HK (gC GW321 (gC GW342 gN))⟩, ⟨lT HB (gC GE321 (gC GE342 gN))⟩⟩
    case round =>
     clear H'
     try clear c1
     try clear p1
     try clear q1
     try clear hx1
     try clear hf1
     try clear c2
     try clear p2
     try clear c3
     try clear c4
     try clear c5
     try clear c6
     try clear c6b0
     try clear c6b1
     try clear p6
     try clear c7
     try clear c10
     try clear c10b0
     try clear c11
     try clear c11b0
     try clear p12
     try clear q12
     try clear hx12
     try clear hf12
     try clear c22
     try clear c23
     try clear c32
     try clear c34
     try clear c34b0
     try clear c34b1
     try clear c36
     try clear c44
     try clear c46
     try clear c47
     try clear c57
     try clear c58
     try clear c59
     try clear c59b0
     try clear c59b1
     try clear p64
     try clear c69
     try clear c70
     try clear hcz24_0
     try clear hcz24_1
     try clear hcz31_0
     try clear hcz31_1
     try clear hcz33_0
     try clear hcz33_1
     try clear hcz48_0
     try clear hcz48_1
     try clear hcz56_0
     try clear hcz56_1
     try clear hcz58_0
     try clear hcz58_1
     try clear hcz71_0
     try clear hcz71_1
     try clear hfz24_0
     try clear hfz24_1
     try clear hfz31_0
     try clear hfz31_1
     try clear hfz33_0
     try clear hfz33_1
     try clear hfz48_0
     try clear hfz48_1
     try clear hfz56_0
     try clear hfz56_1
     try clear hfz58_0
     try clear hfz58_1
     try clear hfz71_0
     try clear hfz71_1
     try clear hx12_0
     try clear p12
     try clear q12
     obtain ⟨x343001_1, u343001, HA, HK1, HO_343000, HO_343001, BK321, BK342, HI0, HK, HB⟩ := hrel
     cases gk with
     | zero => exact absurd HA.out (by simp [spec_l03Any.l0])
     | succ k1 =>
      have H := HA.out
      clear HA
      simp only [spec_l03Any.l0] at H
      by_cases c73 : (x343001_1.length : Int) < (wrap64 (59 + (Int.tmod t325 3)))
      ·rw [if_pos c73] at H
       have c73b0 : decide ((x343001_1.length : Int) < (wrap64 (59 + (Int.tmod t325 3)))) = true := decide_eq_true c73
       clear c73
       replace H := Option.bind_eq_some_iff.mp H
       obtain ⟨t349, A740, H⟩ := H
       replace H : (if x343001_1.length < 5864062014805 then (spec_l03Any.l0 k1 t325 s0_0 t334 t335 t336 (x343001_1 ++ [(⟨0, t349⟩ : S63)])) else (none)) = some (r1, r2, r3, r4) := H
       have A74 := Aside0.mk A740
       clear A740
       by_cases c75 : x343001_1.length < 5864062014805
       ·rw [if_pos c75] at H
        have LMc75 := Aside0.mk c75
        clear c75
        obtain ⟨y350, hy350⟩ : ∃ y_ : List (S63), y_ = (x343001_1 ++ [(⟨0, t349⟩ : S63)]) := ⟨_, rfl⟩
        replace H : (spec_l03Any.l0 k1 t325 s0_0 t334 t335 t336 y350) = some (r1, r2, r3, r4) := by first | (rw [hy350]; with_reducible exact H) | (have H2_ := (Option.bind_some _ _).symm.trans H; rw [hy350]; with_reducible exact H2_) | (have H2_ := (Option.bind_some _ _).symm.trans H; with_reducible exact H2_) | with_reducible exact H | (rw [hy350]; exact H) | exact H
        have Ny350 := Aside0.mk hy350
        clear hy350
        have H' := Aside0.mk H
        clear H
        have hnb76 := NB342_321.out
        have hnc76 := NB321_342.out
        have hnb77 := NB342_0.out
        have hnc77 := NB0_342.out
        have hcz78_0 : wr.cell? ⟨gb342, 0, none⟩ = some (.slice Ao68 t336.length co68) := bc BK342 0
        have hcz78_1 : wr.cell? ⟨gb342, 1, none⟩ = some (u343001) := bc BK342 1
        have hfz78_0 := blk_frozen BK342.out 0
        have hfz78_1 := blk_frozen BK342.out 1
        obtain ⟨Ao79, co79, eo79⟩ := Kd.R_slice HO_343001.out
        subst eo79
        try go_wp2
        replace HO_343000 := ak (Kd.R_drew HO_343000.out)
        replace HO_343001 := ak (Kd.R_drew HO_343001.out)
        replace BK321 := ak (blk_drew BK321.out)
        replace BK342 := ak (blk_drew BK342.out)
        replace HI0 := ak (IsS80.drew HI0.out)
        replace HK := ak (keep_drew HK.out)
        replace HB := ak (below_drew1 HB.out)
        refine start_ (n := 8) (S := fun w' => w'.cell? ⟨gb342, 0, none⟩ = some (.slice Ao68 t336.length co68) ∧ w'.cell? ⟨gb342, 1, none⟩ = some (.slice Ao79 x343001_1.length co79)) (ds := [7]) #[f_,f_,f_,f_,f_,f_,f_,f_] (by kernel_rfl) rfl rfl ⟨bc BK342 0, bc BK342 1⟩ (fun hHeld => ?_); refine with_tabW spec_l03Any.tab11 spec_l03Any.bits11 (fun HT_ HW_ => ?_)
        generalize wr.drew = w80 at HO_343000 HO_343001 BK321 BK342 HI0 HK HB hHeld ⊢
        refine pu 0 52 (fb 8 1) HT_ ?_
        refine tk 1 53 (fb 8 3) HT_ HW_ hHeld ?_
        refine on 2 (some 54) (fb 8 7) HT_ (fun K hK => ?_)
        refine goes_ Try.func79 (by kernel_rfl) rfl #[] (by rfl) rfl rfl (by (try simp only [List.map_toArray, List.map_cons, List.map_nil]); first | done | rfl | (simp only [List.length_drop, List.length_take]; rfl)) ?_
        with_reducible refine (spec_l03Zero.calls k1  t349 _ A74.out).mono ?_
        rintro e w81 ⟨rfl, hb⟩
        refine ⟨_, rfl, ?_⟩
        replace HO_343000 := rB HO_343000 hb
        replace HO_343001 := rB HO_343001 hb
        replace BK321 := bB BK321 hb
        replace BK342 := bB BK342 hb
        replace HK := ak (KeepBut.trans (kT HK (gC GW321 (gC GW342 gN))) (KeepBut.of_below hb g none) (.inl rfl))
        replace HB := ak (below_step (lT HB (gC GE321 (gC GE342 gN))) hb)
        replace HI0 := ak (IsS80.below (IsS80.T_ HI0 (nC NB0_321 (nC NB0_342 nN))) hb)
        (try clear hb)
        (try clear hb2)
        (try clear hk)
        (try clear hi)
        refine hK.out _ _ ⟨bc BK342 0, bc BK342 1⟩ (fun hHeld => ?_)
        clear hK K
        refine nm ?_
        refine pu 3 55 (fb 8 15) HT_ ?_
        refine on 4 (some 56) (fb 8 31) HT_ (fun K hK => ?_)
        refine value_ (w1 := ?_) (v := ?_) (by rfl) rfl ?_ ?_
        rotate_left 2
        ·go_simp
         constructor
         ·rfl
         ·rfl
        refine hK.out _ _ ⟨(blk_cell (blk_alloc BK342.out _) 0).trans rfl, (blk_cell (blk_alloc BK342.out _) 1).trans rfl⟩ (fun hHeld => ?_)
        clear hK K
        refine nm ?_
        refine on 5 (some 57) (fb 8 63) HT_ (fun K hK => ?_)
        refine Kd.R_append_step k63 w.heap.size (by rfl) (.tmp 53) (.tmp 56) 25 63 (.agg #[(.int .i64 0), (.string ⟨#[]⟩)]) 24 rfl Try.underlying25 info63 rfl (by decide) (by omega) (.slice Ao79 x343001_1.length co79) x343001_1 (⟨0, t349⟩ : S63) [.int .i64 0, .string t349] (fun _ => True) (fun _ => False) rfl rfl ?aP (fun _ hk => hk.elim) ?aF ?aO (Below.refl _ _) ?aS ?aL ?_
        (case aP => exact k63_mkM _ _ _ (⟨0, t349⟩ : S63))
        (case aF => exact (fun _ _ => trivial))
        (case aO => exact (rG HO_343001))
        (case aS => exact (keep_size (w := w) (g := g) (row := none) (kT HK (gC GW321 (gC GW342 gN)))))
        (case aL => have := LMc75.out; omega)
        intro v351 w82 ho hb hg hat
        rw [← Ny350.out] at ho
        have n0_ := ak (Kd.R_over' (rG HO_343000) (Kd.R_typed (rG HO_343001)) (by decide) hg)
        have n1_ := ak (blk_grown (g := gb321) (o := .cells #[.slice none 0 0, .slice none 0 0] 27 (0, 0)) (bG BK321) hg (Kd.R_ne HO_343001.out BK321.out (by decide)))
        have n2_ := ak (blk_grown (g := gb342) (o := .cells #[.slice Ao68 t336.length co68, .slice Ao79 x343001_1.length co79] 27 (0, 0)) (bG BK342) hg (Kd.R_ne HO_343001.out BK342.out (by decide)))
        have n3_ := ak (IsS80.grown (IsS80.T_ HI0 (nC NB0_321 (nC NB0_342 nN))) hg (IsS80.own_ne HI0.out HO_343001.out (by decide)))
        have n4_ := ak (below_weaken (lT HB (gC GE321 (gC GE342 gN))) HL.out hb)
        have n5_ := ak (KeepBut.trans (kT HK (gC GW321 (gC GW342 gN))) (KeepBut.of_grown hg g) (Kd.R_base2 HO_343001.out))
        have n6_ := ak (ho)
        clear HO_343000
        clear BK321
        clear BK342
        clear HI0
        clear HB
        clear HK
        clear HO_343001
        have HO_343000 := n0_
        have BK321 := n1_
        have BK342 := n2_
        have HI0 := n3_
        have HB := n4_
        have HK := n5_
        have HO352 := n6_
        clear n0_ n1_ n2_ n3_ n4_ n5_ n6_
        clear ho hb hg hat
        obtain ⟨Ao83, co83, eo83⟩ := Kd.R_slice HO352.out
        (first | subst eo83 | (injection eo83 with f1_ f2_ f3_; have f4_ := f1_.symm; have f5_ := f3_.symm; clear f1_ f2_ f3_; subst f4_; subst f5_))
        refine hK.out _ _ ⟨bc BK342 0, bc BK342 1⟩ (fun hHeld => ?_)
        clear hK K
        refine nm ?_
        refine pu 6 58 (fb 8 127) HT_ ?_
        refine last_ (i := 7) (N := none) #[t_,t_,t_,t_,t_,t_,t_,t_] rfl rfl (one_of HT_.out (by kernel_rfl)) (by decide) (fun K hK => ?_)
        have hs84 : w82.cell? ⟨gb342, 1, none⟩ = some (.slice Ao79 x343001_1.length co79) := bc BK342 1
        have hfs84 := blk_frozen BK342.out 1
        have hns84_0 := NB321_342.out
        have hms84_0 := NB342_321.out
        refine skip_ (w1 := ?_) (by rfl) rfl ?_ ?_
        rotate_left
        ·go_simp
         rfl
        refine hK.out _ _ ?_
        clear hK K
        refine done_ (done_of HT_.out (by kernel_rfl)) ?_
        try go_wp2
        go_roundg k1
        case measure => have := HK1.out; omega
        case rel => exact ⟨(y350), (.slice Ao83 y350.length co83), H', ⟨by have := HK1.out; omega⟩, ⟨by exact Kd.R_mono (rT HO_343000 BK342 (by decide)) (fun _ hk => trivial)⟩, ⟨by exact Kd.R_mono (rT HO352 BK342 (by decide)) (fun _ hk => trivial)⟩, ⟨by (with_reducible repeat (first | refine blk_drewN ?_ _ | refine blk_drew ?_ | refine blk_alloc ?_ _)); refine blk_far ?_ NB321_342.out _; (with_reducible repeat (first | refine blk_drewN ?_ _ | refine blk_drew ?_ | refine blk_alloc ?_ _)); exact BK321.out⟩, ⟨bW BK342⟩, ⟨IsS80.T_ HI0 (nC NB0_321 (nC NB0_342 nN))⟩, ⟨kT HK (gC GW321 (gC GW342 gN))⟩, ⟨lT HB (gC GE321 (gC GE342 gN))⟩⟩
       ·rw [if_neg c75] at H
        exact absurd H (by simp)
      ·rw [if_neg c73] at H
       have c73b0 : decide ((x343001_1.length : Int) < (wrap64 (59 + (Int.tmod t325 3)))) = false := decide_eq_false c73
       clear c73
       simp only [Option.some.injEq, Prod.mk.injEq] at H
       obtain ⟨rfl, rfl, rfl, rfl⟩ := H
       have hnb85 := NB342_321.out
       have hnc85 := NB321_342.out
       have hnb86 := NB342_0.out
       have hnc86 := NB0_342.out
       have hcz87_0 : wr.cell? ⟨gb342, 0, none⟩ = some (.slice Ao68 t336.length co68) := bc BK342 0
       have hcz87_1 : wr.cell? ⟨gb342, 1, none⟩ = some (u343001) := bc BK342 1
       have hfz87_0 := blk_frozen BK342.out 0
       have hfz87_1 := blk_frozen BK342.out 1
       obtain ⟨Ao88, co88, eo88⟩ := Kd.R_slice HO_343001.out
       subst eo88
       have hnb89 := NB321_0.out
       have hnc89 := NB0_321.out
       have hcz90_0 : wr.cell? ⟨gb321, 0, none⟩ = some (.slice none 0 0) := bc BK321 0
       have hcz90_1 : wr.cell? ⟨gb321, 1, none⟩ = some (.slice none 0 0) := bc BK321 1
       have hfz90_0 := blk_frozen BK321.out 0
       have hfz90_1 := blk_frozen BK321.out 1
       go_wp2
       refine bodyPost_ret (results_cell_row rfl _ _ gb321 27 #[.slice Ao68 t336.length co68, .slice Ao88 x343001_1.length co88] (0, 0) _ rfl (bW BK321) Try.underlying27 rfl (by kernel_rfl)) rfl ?_
       exact ⟨_, _, ew, by exact Kd.R_mono (rT HO_343000 BK321 (by decide)) (fun _ hk => trivial), by exact Kd.R_mono (rT HO_343001 BK321 (by decide)) (fun _ hk => trivial), IsS80.T_ HI0 (nC NB0_321 (nC NB0_342 nN)), lT HB (gC GE321 (gC GE342 gN)), kT HK (gC GW321 (gC GW342 gN))⟩
   ·rw [if_neg c59] at H
    have c59b0 : (t322 == 2) = false := beq_eq_false_iff_ne.mpr c59
    have c59b1 : (t322 != 2) = true := bne_iff_ne.mpr c59
    by_cases c91 : t322 = 3
    ·rw [if_pos c91] at H
     have c91b0 : (t322 == 3) = true := beq_iff_eq.mpr c91
     have c91b1 : (t322 != 3) = false := bne_eq_false_iff_eq.mpr c91
     clear c91
     by_cases c92 : 0 ≤ (t336.length : Int)
     ·rw [if_pos c92] at H
      have c92b0 := eq_true c92
      have c92b1 : decide (0 ≤ (t336.length : Int)) = true := decide_eq_true c92
      clear c92
      obtain ⟨y353, hy353⟩ : ∃ y_ : List ByteArray, y_ = (t336.take (0 : Int).toNat) := ⟨_, rfl⟩
      replace H : (some (y353, t339, t334, t335)) = some (r1, r2, r3, r4) := by first | (rw [hy353]; with_reducible exact H) | (have H2_ := (Option.bind_some _ _).symm.trans H; rw [hy353]; with_reducible exact H2_) | (have H2_ := (Option.bind_some _ _).symm.trans H; with_reducible exact H2_) | with_reducible exact H | (rw [hy353]; exact H) | exact H
      have Ny353 := Aside0.mk hy353
      clear hy353
      simp only [Option.some.injEq, Prod.mk.injEq] at H
      obtain ⟨rfl, rfl, rfl, rfl⟩ := H
      go_enter Try.func57, Try.ntmps57
      go_wp2_with (first | ((with_reducible refine gate_dst (N := 2) rfl ?_); refine bx 2 #[.slice none 0 0, .slice none 0 0] 27 ?_; intro gb321 hg w93 hbox hb; replace HB := ak (below_step (lT HB gN) hb); replace BK321 := ak (hbox); replace GW321 := ak ((by rw [hg]; exact (keep_size (w := w) (g := g) (row := none) (kT HK gN)) : w.heap.size ≤ gb321)); replace GE321 := ak ((Nat.le_trans HW0.out (by rw [hg]; exact (keep_size (w := w) (g := g) (row := none) (kT HK gN)) : w.heap.size ≤ gb321) : w0.heap.size ≤ gb321)); replace HK := ak (KeepBut.trans (kT HK gN) (KeepBut.of_below hb g none) (.inl rfl)); replace NB0_321 := ak ((by rw [hg]; exact Nat.ne_of_lt (IsS80.lt (show IsS80 w0 _ g s0_0 s0_1 s0_2 from IsS80.T_ HI0 nN)) : g ≠ gb321)); replace NB321_0 := ak ((by rw [hg]; exact Nat.ne_of_gt (IsS80.lt (show IsS80 w0 _ g s0_0 s0_1 s0_2 from IsS80.T_ HI0 nN)) : gb321 ≠ g)); replace HI0 := ak (IsS80.below (IsS80.T_ HI0 nN) hb); clear hb hbox hg) | ((with_reducible refine gate_callee (f := 47) rfl ?_); refine gl (some 7) Try.func47 #[.pointer (some ⟨g, 0, none⟩), .int .i64 12] ?_; (with_reducible refine (spec_l01Below.calls g s0_0 s0_1 s0_2 12 t322 t323 t324 w0 _ ?side1 ?side2 A2.out).mono ?_); (case side1 => exact IsS80.T_ HI0 (nC NB0_321 nN)); (case side2 => exact lT HB (gC GE321 gN)); rintro e w94 ⟨rfl, hi, hb, hk⟩; refine ⟨_, rfl, ?_⟩; replace BK321 := ak (KeepBut.blk hk (g' := gb321) (o := .cells #[.slice none 0 0, .slice none 0 0] 27 (0, 0)) (bG BK321) NB321_0.out (by simp)); replace HK := ak (KeepBut.trans (kT HK (gC GW321 gN)) hk (.inl rfl)); replace HB := ak (hb); replace HI0 := ak (hi); (try clear hb); (try clear hk); (try clear hi)) | ((with_reducible refine gate_callee (f := 47) rfl ?_); refine gl (some 9) Try.func47 #[.pointer (some ⟨g, 0, none⟩), .int .i64 60] ?_; (with_reducible refine (spec_l01Below.calls g s0_0 t323 t324 60 t325 t326 t327 w0 _ ?side1 ?side2 A3.out).mono ?_); (case side1 => exact IsS80.T_ HI0 (nC NB0_321 nN)); (case side2 => exact lT HB (gC GE321 gN)); rintro e w95 ⟨rfl, hi, hb, hk⟩; refine ⟨_, rfl, ?_⟩; replace BK321 := ak (KeepBut.blk hk (g' := gb321) (o := .cells #[.slice none 0 0, .slice none 0 0] 27 (0, 0)) (bG BK321) NB321_0.out (by simp)); replace HK := ak (KeepBut.trans (kT HK (gC GW321 gN)) hk (.inl rfl)); replace HB := ak (hb); replace HI0 := ak (hi); (try clear hb); (try clear hk); (try clear hi)) | ((with_reducible refine gate_callee (f := 44) rfl ?_); refine gl (some 11) Try.func44 #[.pointer (some ⟨g, 0, none⟩)] ?_; (with_reducible refine (spec_l03Disk.calls k g s0_0 t326 t327 t328 t331 t334 t335 w0 _ ?side1 ?side2 A4.out).mono ?_); (case side1 => exact IsS80.T_ HI0 (nC NB0_321 nN)); (case side2 => exact lT HB (gC GE321 gN)); rintro e w96 ⟨v329, v332, rfl, ho0, ho1, hi, hb, hk⟩; refine ⟨_, rfl, ?_⟩; replace BK321 := ak (KeepBut.blk hk (g' := gb321) (o := .cells #[.slice none 0 0, .slice none 0 0] 27 (0, 0)) (bG BK321) NB321_0.out (by simp)); replace HO330 := ak (Kd.R_lower ho0 (keep_size (w := w) (g := g) (row := none) (kT HK (gC GW321 gN)))); replace HO333 := ak (Kd.R_lower ho1 (keep_size (w := w) (g := g) (row := none) (kT HK (gC GW321 gN)))); replace HK := ak (KeepBut.trans (kT HK (gC GW321 gN)) hk (.inl rfl)); replace HB := ak (hb); replace HI0 := ak (hi); (try clear hb); (try clear hk); (try clear hi); (try clear ho0); (try clear ho1); obtain ⟨Ao97, co97, eo97⟩ := Kd.R_slice HO330.out; subst eo97; obtain ⟨Ao98, co98, eo98⟩ := Kd.R_slice HO333.out; subst eo98) | ((with_reducible refine gate_callee (f := 58) rfl ?_); refine gl (some 12) Try.func58 #[.agg #[.slice Ao97 t328.length co97, .slice Ao98 t331.length co98]] ?_; (with_reducible refine (spec_l03Copy.calls _ _ t328 _ _ t331 t336 t339 _ ?side1 ?side2 ?side3 ?side4 A5.out).mono ?_); (case side1 => exact cG (Kd.R_reads' HO330.out).2.2); (case side2 => exact (Kd.R_reads' HO330.out).2.1); (case side3 => exact cG (Kd.R_reads' HO333.out).2.2); (case side4 => exact (Kd.R_reads' HO333.out).2.1); rintro e w99 ⟨v337, v340, rfl, ho0, ho1, hb⟩; refine ⟨_, rfl, ?_⟩; replace HO338 := ak (Kd.R_lower (Kd.R_new' ho0 (Kd.R_lt (rG HO330))) (keep_size (w := w) (g := g) (row := none) (kT HK (gC GW321 gN)))); replace HO330 := ak (Kd.R_elder' (rG HO330) (Kd.R_base ho0) hb); replace HO341 := ak (Kd.R_lower (Kd.R_new' ho1 (Kd.R_lt (rG HO333))) (keep_size (w := w) (g := g) (row := none) (kT HK (gC GW321 gN)))); replace HO333 := ak (Kd.R_elder' (rG HO333) (Kd.R_base ho1) hb); replace BK321 := bB BK321 hb; replace HK := ak (KeepBut.trans (kT HK (gC GW321 gN)) (KeepBut.of_below hb g none) (.inl rfl)); replace HB := ak (below_step (lT HB (gC GE321 gN)) hb); replace HI0 := ak (IsS80.below (IsS80.T_ HI0 (nC NB0_321 nN)) hb); (try clear hb); (try clear hk); (try clear hi); (try clear ho0); (try clear ho1)) | ((with_reducible refine gate_dst (N := 5) rfl ?_); refine bx 5 #[.slice none 0 0, .slice none 0 0] 27 ?_; intro gb342 hg w100 hbox hb; replace HO330 := rB HO330 hb; replace HO333 := rB HO333 hb; replace HO338 := rB HO338 hb; replace HO341 := rB HO341 hb; replace HB := ak (below_step (lT HB (gC GE321 gN)) hb); replace BK342 := ak (hbox); replace GW342 := ak ((by rw [hg]; exact (keep_size (w := w) (g := g) (row := none) (kT HK (gC GW321 gN))) : w.heap.size ≤ gb342)); replace GE342 := ak ((Nat.le_trans HW0.out (by rw [hg]; exact (keep_size (w := w) (g := g) (row := none) (kT HK (gC GW321 gN))) : w.heap.size ≤ gb342) : w0.heap.size ≤ gb342)); replace HK := ak (KeepBut.trans (kT HK (gC GW321 gN)) (KeepBut.of_below hb g none) (.inl rfl)); replace NB321_342 := ak (nl hg (bG BK321)); replace NB342_321 := ak (ng hg (bG BK321)); replace BK321 := bB BK321 hb; replace NB0_342 := ak ((by rw [hg]; exact Nat.ne_of_lt (IsS80.lt (show IsS80 w0 _ g s0_0 t334 t335 from IsS80.T_ HI0 (nC NB0_321 nN))) : g ≠ gb342)); replace NB342_0 := ak ((by rw [hg]; exact Nat.ne_of_gt (IsS80.lt (show IsS80 w0 _ g s0_0 t334 t335 from IsS80.T_ HI0 (nC NB0_321 nN))) : gb342 ≠ g)); replace HI0 := ak (IsS80.below (IsS80.T_ HI0 (nC NB0_321 nN)) hb); clear hb hbox hg; obtain ⟨Ao101, co101, eo101⟩ := Kd.R_slice HO338.out; subst eo101; have hnb102 := NB342_321.out; have hnc102 := NB321_342.out; have hnb103 := NB342_0.out; have hnc103 := NB0_342.out; obtain ⟨hcz104_0, hcz104_1, hfz104_0, hfz104_1⟩ := bC2 BK342; obtain ⟨Ao105, co105, eo105⟩ := Kd.R_slice HO341.out; subst eo105) | ((with_reducible refine gate_store (t := 27) (p := 5) rfl ?_); refine store_event (t := 27) (p := 5) (v := ?vo_w106) (w1 := ((w100.setCell ⟨gb342, 0, none⟩ (.slice Ao101 t336.length co101)).setCell ⟨gb342, 1, none⟩ (.slice Ao105 t339.length co105))) ?hg ?ho ?hn ?hr ?_; (case ho => rfl); (case hg => rfl); (case hn => rfl); (case hr => first | (go_simp; done) | (go_simp; rfl)); intro w106 hw; have n0_ : Aside0 (Kd.R Kd.string 9 w106 w.heap.size (fun k_ => some k_ ≠ (.slice Ao101 t336.length co101 : Value).ownBlock) (.slice Ao97 t328.length co97) t328) := ⟨(by rw [hw]; exact (by (with_reducible repeat (first | apply Kd.R_alloc | apply Kd.R_drewN | apply Kd.R_drew)); exact Kd.R_mono (Kd.R_far (p := ⟨gb342, 1, none⟩) (Kd.R_far (p := ⟨gb342, 0, none⟩) (Kd.R_types HO330.out BK342.out (by decide)) (fun _ hk => hk.2) (.slice Ao101 t336.length co101)) (fun _ hk => hk.2) (.slice Ao105 t339.length co105)) (fun _ hk => hk.1.2)))⟩; have n1_ : Aside0 (Kd.R k63 63 w106 w.heap.size (fun k_ => some k_ ≠ (.slice Ao105 t339.length co105 : Value).ownBlock) (.slice Ao98 t331.length co98) t331) := ⟨(by rw [hw]; exact (by (with_reducible repeat (first | apply Kd.R_alloc | apply Kd.R_drewN | apply Kd.R_drew)); exact Kd.R_mono (Kd.R_far (p := ⟨gb342, 1, none⟩) (Kd.R_far (p := ⟨gb342, 0, none⟩) (Kd.R_types HO333.out BK342.out (by decide)) (fun _ hk => hk.2) (.slice Ao101 t336.length co101)) (fun _ hk => hk.2) (.slice Ao105 t339.length co105)) (fun _ hk => hk.1.2)))⟩; have n2_ : Aside0 (Kd.R Kd.string 9 w106 w.heap.size (fun k_ => some k_ ≠ (.slice Ao97 t328.length co97 : Value).ownBlock) (.slice Ao101 t336.length co101) t336) := ⟨(by rw [hw]; exact (by (with_reducible repeat (first | apply Kd.R_alloc | apply Kd.R_drewN | apply Kd.R_drew)); exact Kd.R_mono (Kd.R_far (p := ⟨gb342, 1, none⟩) (Kd.R_far (p := ⟨gb342, 0, none⟩) (Kd.R_types HO338.out BK342.out (by decide)) (fun _ hk => hk.2) (.slice Ao101 t336.length co101)) (fun _ hk => hk.2) (.slice Ao105 t339.length co105)) (fun _ hk => hk.1.2)))⟩; have n3_ : Aside0 (Kd.R k63 63 w106 w.heap.size (fun k_ => some k_ ≠ (.slice Ao98 t331.length co98 : Value).ownBlock) (.slice Ao105 t339.length co105) t339) := ⟨(by rw [hw]; exact (by (with_reducible repeat (first | apply Kd.R_alloc | apply Kd.R_drewN | apply Kd.R_drew)); exact Kd.R_mono (Kd.R_far (p := ⟨gb342, 1, none⟩) (Kd.R_far (p := ⟨gb342, 0, none⟩) (Kd.R_types HO341.out BK342.out (by decide)) (fun _ hk => hk.2) (.slice Ao101 t336.length co101)) (fun _ hk => hk.2) (.slice Ao105 t339.length co105)) (fun _ hk => hk.1.2)))⟩; have n4_ : Aside0 (w106.heap[gb321]? = some (.cells #[.slice none 0 0, .slice none 0 0] 27 (0, 0))) := ⟨(by rw [hw]; exact (bT BK321 (nC NB321_342 nN)))⟩; have n5_ : Aside0 (w106.heap[gb342]? = some (.cells #[.slice Ao101 t336.length co101, .slice Ao105 t339.length co105] 27 (0, 0))) := ⟨(by rw [hw]; exact (bW BK342))⟩; have n6_ : Aside0 (IsS80 w0 w106 g s0_0 t334 t335) := ⟨(by rw [hw]; exact (IsS80.T_ HI0 (nC NB0_321 (nC NB0_342 nN))))⟩; have n7_ : Aside0 (KeepBut w w106 g none) := ⟨(by rw [hw]; exact (kT HK (gC GW321 (gC GW342 gN))))⟩; have n8_ : Aside0 (Below w0.heap.size w0 w106) := ⟨(by rw [hw]; exact (lT HB (gC GE321 (gC GE342 gN))))⟩; clear hw; clear HO330; clear HO333; clear HO338; clear HO341; clear BK321; clear BK342; clear HI0; clear HK; clear HB; have HO330 := n0_; have HO333 := n1_; have HO338 := n2_; have HO341 := n3_; have BK321 := n4_; have BK342 := n5_; have HI0 := n6_; have HK := n7_; have HB := n8_; clear n0_ n1_ n2_ n3_ n4_ n5_ n6_ n7_ n8_; obtain ⟨hcz107_0, hcz107_1, hfz107_0, hfz107_1⟩ := bC2 BK342; have q108 : (0 : Int) ≤ ((t336.length : Int) : Int) := of_decide_eq_true (by first | (with_reducible assumption) | assumption); obtain ⟨i0108, hi0108, _, hsz108, _⟩ := info_parts info9; have hcut108 := cut_to (P := Try.prog) 24 9 .i64 Try.underlying24 hi0108 Ao101 t336.length co101 0 (by omega) q108 (Kd.R_reads' HO338.out).2.1; have hr108 := Kd.R_take (m := (0 : Int).toNat) HO338.out (by omega); have hy108 : y353.length = (0 : Int).toNat := (by rw [Ny353.out, List.length_take]; omega); rw [← Ny353.out] at hr108; rw [← hy108] at hr108 hcut108; clear hy108 hi0108 hsz108 HO338; have HO355 := Aside0.mk hr108; clear hr108; replace q108 := eq_true q108; have hnb109 := NB321_0.out; have hnc109 := NB0_321.out; obtain ⟨hcz110_0, hcz110_1, hfz110_0, hfz110_1⟩ := bC2 BK321))
      refine bodyPost_ret (results_cell_row rfl _ _ gb321 27 #[.slice Ao101 y353.length co101, .slice Ao105 t339.length co105] (0, 0) _ rfl (by (with_reducible repeat (first | refine blk_drewN ?_ _ | refine blk_drew ?_ | refine blk_alloc ?_ _)); refine blk_put (cs := #[.slice Ao101 y353.length co101, .slice none 0 0]) ?_ 1 _ rfl; (with_reducible repeat (first | refine blk_drewN ?_ _ | refine blk_drew ?_ | refine blk_alloc ?_ _)); refine blk_put (cs := #[.slice none 0 0, .slice none 0 0]) ?_ 0 _ rfl; (with_reducible repeat (first | refine blk_drewN ?_ _ | refine blk_drew ?_ | refine blk_alloc ?_ _)); refine blk_far ?_ NB321_342.out _; (with_reducible repeat (first | refine blk_drewN ?_ _ | refine blk_drew ?_ | refine blk_alloc ?_ _)); exact BK321.out) Try.underlying27 rfl (by kernel_rfl)) rfl ?_
      exact ⟨_, _, ew, by exact Kd.R_mono (rT2 HO355 BK342 BK321 (by decide) (by decide)) (fun _ hk => trivial), by exact Kd.R_mono (rT2 HO341 BK342 BK321 (by decide) (by decide)) (fun _ hk => trivial), IsS80.T_ HI0 (nC NB0_321 (nC NB0_342 nN)), lT HB (gC GE321 (gC GE342 gN)), kT HK (gC GW321 (gC GW342 gN))⟩
     ·rw [if_neg c92] at H
      exact absurd H (by simp)
    ·rw [if_neg c91] at H
     have c91b0 : (t322 == 3) = false := beq_eq_false_iff_ne.mpr c91
     have c91b1 : (t322 != 3) = true := bne_iff_ne.mpr c91
     simp only [Option.some.injEq, Prod.mk.injEq] at H
     obtain ⟨rfl, rfl, rfl, rfl⟩ := H
     go_enter Try.func57, Try.ntmps57
     go_wp2_with (first | ((with_reducible refine gate_dst (N := 2) rfl ?_); refine bx 2 #[.slice none 0 0, .slice none 0 0] 27 ?_; intro gb321 hg w111 hbox hb; replace HB := ak (below_step (lT HB gN) hb); replace BK321 := ak (hbox); replace GW321 := ak ((by rw [hg]; exact (keep_size (w := w) (g := g) (row := none) (kT HK gN)) : w.heap.size ≤ gb321)); replace GE321 := ak ((Nat.le_trans HW0.out (by rw [hg]; exact (keep_size (w := w) (g := g) (row := none) (kT HK gN)) : w.heap.size ≤ gb321) : w0.heap.size ≤ gb321)); replace HK := ak (KeepBut.trans (kT HK gN) (KeepBut.of_below hb g none) (.inl rfl)); replace NB0_321 := ak ((by rw [hg]; exact Nat.ne_of_lt (IsS80.lt (show IsS80 w0 _ g s0_0 s0_1 s0_2 from IsS80.T_ HI0 nN)) : g ≠ gb321)); replace NB321_0 := ak ((by rw [hg]; exact Nat.ne_of_gt (IsS80.lt (show IsS80 w0 _ g s0_0 s0_1 s0_2 from IsS80.T_ HI0 nN)) : gb321 ≠ g)); replace HI0 := ak (IsS80.below (IsS80.T_ HI0 nN) hb); clear hb hbox hg) | ((with_reducible refine gate_callee (f := 47) rfl ?_); refine gl (some 7) Try.func47 #[.pointer (some ⟨g, 0, none⟩), .int .i64 12] ?_; (with_reducible refine (spec_l01Below.calls g s0_0 s0_1 s0_2 12 t322 t323 t324 w0 _ ?side1 ?side2 A2.out).mono ?_); (case side1 => exact IsS80.T_ HI0 (nC NB0_321 nN)); (case side2 => exact lT HB (gC GE321 gN)); rintro e w112 ⟨rfl, hi, hb, hk⟩; refine ⟨_, rfl, ?_⟩; replace BK321 := ak (KeepBut.blk hk (g' := gb321) (o := .cells #[.slice none 0 0, .slice none 0 0] 27 (0, 0)) (bG BK321) NB321_0.out (by simp)); replace HK := ak (KeepBut.trans (kT HK (gC GW321 gN)) hk (.inl rfl)); replace HB := ak (hb); replace HI0 := ak (hi); (try clear hb); (try clear hk); (try clear hi)) | ((with_reducible refine gate_callee (f := 47) rfl ?_); refine gl (some 9) Try.func47 #[.pointer (some ⟨g, 0, none⟩), .int .i64 60] ?_; (with_reducible refine (spec_l01Below.calls g s0_0 t323 t324 60 t325 t326 t327 w0 _ ?side1 ?side2 A3.out).mono ?_); (case side1 => exact IsS80.T_ HI0 (nC NB0_321 nN)); (case side2 => exact lT HB (gC GE321 gN)); rintro e w113 ⟨rfl, hi, hb, hk⟩; refine ⟨_, rfl, ?_⟩; replace BK321 := ak (KeepBut.blk hk (g' := gb321) (o := .cells #[.slice none 0 0, .slice none 0 0] 27 (0, 0)) (bG BK321) NB321_0.out (by simp)); replace HK := ak (KeepBut.trans (kT HK (gC GW321 gN)) hk (.inl rfl)); replace HB := ak (hb); replace HI0 := ak (hi); (try clear hb); (try clear hk); (try clear hi)) | ((with_reducible refine gate_callee (f := 44) rfl ?_); refine gl (some 11) Try.func44 #[.pointer (some ⟨g, 0, none⟩)] ?_; (with_reducible refine (spec_l03Disk.calls k g s0_0 t326 t327 t328 t331 t334 t335 w0 _ ?side1 ?side2 A4.out).mono ?_); (case side1 => exact IsS80.T_ HI0 (nC NB0_321 nN)); (case side2 => exact lT HB (gC GE321 gN)); rintro e w114 ⟨v329, v332, rfl, ho0, ho1, hi, hb, hk⟩; refine ⟨_, rfl, ?_⟩; replace BK321 := ak (KeepBut.blk hk (g' := gb321) (o := .cells #[.slice none 0 0, .slice none 0 0] 27 (0, 0)) (bG BK321) NB321_0.out (by simp)); replace HO330 := ak (Kd.R_lower ho0 (keep_size (w := w) (g := g) (row := none) (kT HK (gC GW321 gN)))); replace HO333 := ak (Kd.R_lower ho1 (keep_size (w := w) (g := g) (row := none) (kT HK (gC GW321 gN)))); replace HK := ak (KeepBut.trans (kT HK (gC GW321 gN)) hk (.inl rfl)); replace HB := ak (hb); replace HI0 := ak (hi); (try clear hb); (try clear hk); (try clear hi); (try clear ho0); (try clear ho1); obtain ⟨Ao115, co115, eo115⟩ := Kd.R_slice HO330.out; subst eo115; obtain ⟨Ao116, co116, eo116⟩ := Kd.R_slice HO333.out; subst eo116) | ((with_reducible refine gate_callee (f := 58) rfl ?_); refine gl (some 12) Try.func58 #[.agg #[.slice Ao115 t328.length co115, .slice Ao116 t331.length co116]] ?_; (with_reducible refine (spec_l03Copy.calls _ _ t328 _ _ t331 t336 t339 _ ?side1 ?side2 ?side3 ?side4 A5.out).mono ?_); (case side1 => exact cG (Kd.R_reads' HO330.out).2.2); (case side2 => exact (Kd.R_reads' HO330.out).2.1); (case side3 => exact cG (Kd.R_reads' HO333.out).2.2); (case side4 => exact (Kd.R_reads' HO333.out).2.1); rintro e w117 ⟨v337, v340, rfl, ho0, ho1, hb⟩; refine ⟨_, rfl, ?_⟩; replace HO338 := ak (Kd.R_lower (Kd.R_new' ho0 (Kd.R_lt (rG HO330))) (keep_size (w := w) (g := g) (row := none) (kT HK (gC GW321 gN)))); replace HO330 := ak (Kd.R_elder' (rG HO330) (Kd.R_base ho0) hb); replace HO341 := ak (Kd.R_lower (Kd.R_new' ho1 (Kd.R_lt (rG HO333))) (keep_size (w := w) (g := g) (row := none) (kT HK (gC GW321 gN)))); replace HO333 := ak (Kd.R_elder' (rG HO333) (Kd.R_base ho1) hb); replace BK321 := bB BK321 hb; replace HK := ak (KeepBut.trans (kT HK (gC GW321 gN)) (KeepBut.of_below hb g none) (.inl rfl)); replace HB := ak (below_step (lT HB (gC GE321 gN)) hb); replace HI0 := ak (IsS80.below (IsS80.T_ HI0 (nC NB0_321 nN)) hb); (try clear hb); (try clear hk); (try clear hi); (try clear ho0); (try clear ho1)) | ((with_reducible refine gate_dst (N := 5) rfl ?_); refine bx 5 #[.slice none 0 0, .slice none 0 0] 27 ?_; intro gb342 hg w118 hbox hb; replace HO330 := rB HO330 hb; replace HO333 := rB HO333 hb; replace HO338 := rB HO338 hb; replace HO341 := rB HO341 hb; replace HB := ak (below_step (lT HB (gC GE321 gN)) hb); replace BK342 := ak (hbox); replace GW342 := ak ((by rw [hg]; exact (keep_size (w := w) (g := g) (row := none) (kT HK (gC GW321 gN))) : w.heap.size ≤ gb342)); replace GE342 := ak ((Nat.le_trans HW0.out (by rw [hg]; exact (keep_size (w := w) (g := g) (row := none) (kT HK (gC GW321 gN))) : w.heap.size ≤ gb342) : w0.heap.size ≤ gb342)); replace HK := ak (KeepBut.trans (kT HK (gC GW321 gN)) (KeepBut.of_below hb g none) (.inl rfl)); replace NB321_342 := ak (nl hg (bG BK321)); replace NB342_321 := ak (ng hg (bG BK321)); replace BK321 := bB BK321 hb; replace NB0_342 := ak ((by rw [hg]; exact Nat.ne_of_lt (IsS80.lt (show IsS80 w0 _ g s0_0 t334 t335 from IsS80.T_ HI0 (nC NB0_321 nN))) : g ≠ gb342)); replace NB342_0 := ak ((by rw [hg]; exact Nat.ne_of_gt (IsS80.lt (show IsS80 w0 _ g s0_0 t334 t335 from IsS80.T_ HI0 (nC NB0_321 nN))) : gb342 ≠ g)); replace HI0 := ak (IsS80.below (IsS80.T_ HI0 (nC NB0_321 nN)) hb); clear hb hbox hg; obtain ⟨Ao119, co119, eo119⟩ := Kd.R_slice HO338.out; subst eo119; have hnb120 := NB342_321.out; have hnc120 := NB321_342.out; have hnb121 := NB342_0.out; have hnc121 := NB0_342.out; obtain ⟨hcz122_0, hcz122_1, hfz122_0, hfz122_1⟩ := bC2 BK342; obtain ⟨Ao123, co123, eo123⟩ := Kd.R_slice HO341.out; subst eo123; have hnb124 := NB321_0.out; have hnc124 := NB0_321.out; obtain ⟨hcz125_0, hcz125_1, hfz125_0, hfz125_1⟩ := bC2 BK321))
     refine bodyPost_ret (results_cell_row rfl _ _ gb321 27 #[.slice Ao119 t336.length co119, .slice Ao123 t339.length co123] (0, 0) _ rfl (by (with_reducible repeat (first | refine blk_drewN ?_ _ | refine blk_drew ?_ | refine blk_alloc ?_ _)); refine blk_put (cs := #[.slice Ao119 t336.length co119, .slice none 0 0]) ?_ 1 _ rfl; (with_reducible repeat (first | refine blk_drewN ?_ _ | refine blk_drew ?_ | refine blk_alloc ?_ _)); refine blk_put (cs := #[.slice none 0 0, .slice none 0 0]) ?_ 0 _ rfl; (with_reducible repeat (first | refine blk_drewN ?_ _ | refine blk_drew ?_ | refine blk_alloc ?_ _)); refine blk_far ?_ NB321_342.out _; (with_reducible repeat (first | refine blk_drewN ?_ _ | refine blk_drew ?_ | refine blk_alloc ?_ _)); refine blk_far ?_ NB321_342.out _; (with_reducible repeat (first | refine blk_drewN ?_ _ | refine blk_drew ?_ | refine blk_alloc ?_ _)); exact BK321.out) Try.underlying27 rfl (by kernel_rfl)) rfl ?_
     exact ⟨_, _, ew, by exact Kd.R_mono (rT2 HO338 BK342 BK321 (by decide) (by decide)) (fun _ hk => trivial), by exact Kd.R_mono (rT2 HO341 BK342 BK321 (by decide) (by decide)) (fun _ hk => trivial), IsS80.T_ HI0 (nC NB0_321 (nC NB0_342 nN)), lT HB (gC GE321 (gC GE342 gN)), kT HK (gC GW321 (gC GW342 gN))⟩

end Go.Proofs.Ytjpngldnkgofaaa.PFnDisksTold
