-- Written by a program of mine (a turned copy of the kit's print): functions as plain Lean, their contracts.
import Derived.Test.YtjpngldnkgofaaaPFnSegmentsToldx16
import Derived.Test.YtjpngldnkgofaaaPFnSegmentsToldx18
import Derived.Test.YtjpngldnkgofaaaVFnSegmentsTold1
namespace Go.Proofs.Ytjpngldnkgofaaa.PFnSegmentsTold
open Go.RowKit Go.Proofs.YtjpngldnkgofaaaW.PrintWords Go.Proofs.YtjpngldnkgofaaaW.PrintLast Go.Proofs.YtjpngldnkgofaaaW.PrintMore
attribute [local go_sem] max2_int min2_int max_two min_two max_three min_three max_four min_four   -- for this text's walks alone
set_option maxHeartbeats 8000000
set_option maxRecDepth 100000
set_option linter.unusedVariables false
set_option linter.unusedSimpArgs false
/-! ### laws_FnSegmentsTold: function 8 -/
def laws_FnSegmentsTold.l0 : Nat → Int → List (S74) → Int → List (S74) → Int → Bool → Int → List ByteArray → List (S63) → List ByteArray → List (S63) → List ByteArray → List (S63) → Option (Bool)
 | 0, _, _, _, _, _, _, _, _, _, _, _, _, _ => none
 | k + 1, x4, x5, x6, x7, x8, x11, x12, x693000, x693001, x708000, x708001, x715000, x715001 => if x12 < 11 then (if x11 = true then (laws_FnSegmentsTold.l0 k x4 x5 x6 x7 x8 true (wrap64 (x12 + 1)) x693000 x693001 x708000 x708001 x715000 x715001) else ((impl_SegGen.f k x715000 x715001 x12).bind fun t715 => ((spec_SegGen.f k x715000 x715001 x12).bind fun t716 => (laws_FnSegmentsTold.l0 k x4 x5 x6 x7 x8 (t715 != t716) (wrap64 (x12 + 1)) x693000 x693001 x708000 x708001 x715000 x715001)))) else ((laws_sameFrames.f k x5 x7).bind fun t717 => (if t717 = true then (if x6 = x8 then ((impl_SegGen.f k x693000 x693001 x4).bind fun t718 => ((spec_SegGen.f k x693000 x693001 x4).bind fun t719 => (if t718 = t719 then ((impl_SegText.f k x693000 x693001 x4).bind fun t720 => ((spec_SegText.f k x693000 x693001 x4).bind fun t721 => (if t720.toList = t721.toList then ((impl_SegsOf.f x708000 x708001).bind fun t722 => ((spec_SegsOf.f x708000 x708001).bind fun t723 => (if t722 = t723 then (if x11 = true then (some false) else ((impl_SegFirst.f 1).bind fun t724 => (some (t724 == 16)))) else (some false)))) else (some false)))) else (some false)))) else (some false)) else (some false)))
def laws_FnSegmentsTold.f (k : Nat) (l0 : List Int) : Option (Bool) := (laws_big.f l0).bind fun t684 => (if t684 = true then (some true) else ((spec_DrawSegFrames.f k l0).bind fun bt685 => ((impl_SegFrames.f k bt685.1 bt685.2.1 bt685.2.2).bind fun bt693 => ((spec_SegFrames.f k bt685.1 bt685.2.1 bt685.2.2).bind fun bt697 => ((spec_DrawSegsOf.f k l0).bind fun bt701 => ((spec_DrawSegDisk.f k l0).bind fun bt708 => (laws_FnSegmentsTold.l0 k bt685.2.2 bt693.1 bt693.2 bt697.1 bt697.2 false 0 bt685.1 bt685.2.1 bt701.1 bt701.2 bt708.1 bt708.2)))))))
theorem laws_FnSegmentsTold.mono_l : ∀ k, (∀ y0 y1 y2 y3 y4 y5 y6 y7 y8 y9 y10 y11 y12, LeO (laws_FnSegmentsTold.l0 k y0 y1 y2 y3 y4 y5 y6 y7 y8 y9 y10 y11 y12) (laws_FnSegmentsTold.l0 (k + 1) y0 y1 y2 y3 y4 y5 y6 y7 y8 y9 y10 y11 y12))
 | 0 => fun _ _ _ _ _ _ _ _ _ _ _ _ _ r h => by simp [laws_FnSegmentsTold.l0] at h
 | k + 1 => by
  have ih0 := laws_FnSegmentsTold.mono_l k
  ·intro y0 y1 y2 y3 y4 y5 y6 y7 y8 y9 y10 y11 y12
   unfold laws_FnSegmentsTold.l0
   repeat' first
   | (with_reducible exact ih0 _ _ _ _ _ _ _ _ _ _ _ _ _)
   | (with_reducible exact impl_SegFrames.mono _ _ _ _)
   | (with_reducible exact impl_SegGen.mono _ _ _ _)
   | (with_reducible exact impl_SegText.mono _ _ _ _)
   | (with_reducible exact laws_sameFrames.mono _ _ _)
   | (with_reducible exact spec_DrawSegDisk.mono _ _)
   | (with_reducible exact spec_DrawSegFrames.mono _ _)
   | (with_reducible exact spec_DrawSegsOf.mono _ _)
   | (with_reducible exact spec_SegFrames.mono _ _ _ _)
   | (with_reducible exact spec_SegGen.mono _ _ _ _)
   | (with_reducible exact spec_SegText.mono _ _ _ _)
   | (with_reducible exact LeO.refl _)
   | (with_reducible exact LeO.none _)
   | (with_reducible refine LeO.ite ?_ ?_)
   | (with_reducible refine LeO.bind ?_ (fun _ => ?_))
   | exact ih0 _ _ _ _ _ _ _ _ _ _ _ _ _
   | exact impl_SegFrames.mono _ _ _ _
   | exact impl_SegGen.mono _ _ _ _
   | exact impl_SegText.mono _ _ _ _
   | exact laws_sameFrames.mono _ _ _
   | exact spec_DrawSegDisk.mono _ _
   | exact spec_DrawSegFrames.mono _ _
   | exact spec_DrawSegsOf.mono _ _
   | exact spec_SegFrames.mono _ _ _ _
   | exact spec_SegGen.mono _ _ _ _
   | exact spec_SegText.mono _ _ _ _
   | exact LeO.none _
   | refine LeO.ite ?_ ?_
   | refine LeO.bind ?_ (fun _ => ?_)
theorem laws_FnSegmentsTold.mono : ∀ a0 k, LeO (laws_FnSegmentsTold.f k a0) (laws_FnSegmentsTold.f (k + 1) a0) := by
 intro a0 k
 have ih0 := laws_FnSegmentsTold.mono_l k
 unfold laws_FnSegmentsTold.f
 repeat' first
   | (with_reducible exact ih0 _ _ _ _ _ _ _ _ _ _ _ _ _)
   | (with_reducible exact impl_SegFrames.mono _ _ _ _)
   | (with_reducible exact impl_SegGen.mono _ _ _ _)
   | (with_reducible exact impl_SegText.mono _ _ _ _)
   | (with_reducible exact laws_sameFrames.mono _ _ _)
   | (with_reducible exact spec_DrawSegDisk.mono _ _)
   | (with_reducible exact spec_DrawSegFrames.mono _ _)
   | (with_reducible exact spec_DrawSegsOf.mono _ _)
   | (with_reducible exact spec_SegFrames.mono _ _ _ _)
   | (with_reducible exact spec_SegGen.mono _ _ _ _)
   | (with_reducible exact spec_SegText.mono _ _ _ _)
   | (with_reducible exact LeO.refl _)
   | (with_reducible exact LeO.none _)
   | (with_reducible refine LeO.ite ?_ ?_)
   | (with_reducible refine LeO.bind ?_ (fun _ => ?_))
   | exact ih0 _ _ _ _ _ _ _ _ _ _ _ _ _
   | exact impl_SegFrames.mono _ _ _ _
   | exact impl_SegGen.mono _ _ _ _
   | exact impl_SegText.mono _ _ _ _
   | exact laws_sameFrames.mono _ _ _
   | exact spec_DrawSegDisk.mono _ _
   | exact spec_DrawSegFrames.mono _ _
   | exact spec_DrawSegsOf.mono _ _
   | exact spec_SegFrames.mono _ _ _ _
   | exact spec_SegGen.mono _ _ _ _
   | exact spec_SegText.mono _ _ _ _
   | exact LeO.none _
   | refine LeO.ite ?_ ?_
   | refine LeO.bind ?_ (fun _ => ?_)
def laws_FnSegmentsTold.T12 : Bool × List (List Nat × List Nat) := (true, [([], []), ([0], [0]), ([1], [1]), ([1], [1]), ([2, 3, 1, 1], [1, 2, 3]), ([1], [1]), ([1], [1]), ([5, 6, 4, 1], [1, 5, 6]), ([4, 7, 1], [1, 4, 7]), ([1, 8], [1, 8]), ([9, 7, 0, 1, 2, 3, 4, 5, 6, 7, 8, 9], [0, 9])])
def laws_FnSegmentsTold.B12 : List Nat := [0, 1, 3, 3, 15, 3, 3, 127, 255, 511, 1023]
theorem laws_FnSegmentsTold.tab12 : rtab .any (opsOf Try.f8 12) = laws_FnSegmentsTold.T12 := by kernel_rfl
theorem laws_FnSegmentsTold.bits12 : waitsOk laws_FnSegmentsTold.T12.2 laws_FnSegmentsTold.B12 = true := by kernel_rfl
def laws_FnSegmentsTold.T13 : Bool × List (List Nat × List Nat) := (true, [([], []), ([], []), ([0, 1], [0, 1]), ([2, 2], [2]), ([3], [3]), ([3], [3]), ([4, 5, 3], [3, 4, 5]), ([3, 6], [3, 6]), ([7, 3], [7]), ([8], [8]), ([8], [8]), ([9, 10, 8, 8], [8, 9, 10]), ([8], [8]), ([8], [8]), ([12, 13, 11, 8], [8, 12, 13]), ([11, 14, 8], [8, 11, 14]), ([8, 15], [8, 15]), ([16, 14], [16]), ([17], [17]), ([17], [17]), ([18, 19, 17, 17], [17, 18, 19]), ([17], [17]), ([17], [17]), ([21, 22, 20, 17], [17, 21, 22]), ([20, 23, 17], [17, 20, 23]), ([17, 24], [17, 24]), ([25, 23], [25]), ([26], [26]), ([27, 26, 26], [26, 27]), ([26], [26]), ([29, 28, 26], [26, 29]), ([28, 30, 26], [26, 28, 30]), ([26, 31], [26, 31]), ([32, 30], [32]), ([33], [33]), ([34, 33], [33, 34]), ([33, 35], [33, 35]), ([36, 33], [36]), ([37, 37], [37]), ([38, 37], [37, 38]), ([37, 39], [37, 39]), ([40, 38, 0, 1, 2, 3, 4, 5, 6, 7, 8, 9, 10, 11, 12, 13, 14, 15, 16, 17, 18, 19, 20, 21, 22, 23, 24, 25, 26, 27, 28, 29, 30, 31, 32, 33, 34, 35, 36, 37, 38, 39, 40], [40])])
def laws_FnSegmentsTold.B13 : List Nat := [0, 0, 3, 7, 15, 15, 63, 127, 255, 511, 511, 2047, 511, 511, 16383, 32767, 65535, 131071, 262143, 262143, 1048575, 262143, 262143, 8388607, 16777215, 33554431, 67108863, 134217727, 268435455, 134217727, 1073741823, 2147483647, 4294967295, 8589934591, 17179869183, 34359738367, 68719476735, 137438953471, 274877906943, 549755813887, 1099511627775, 2199023255551]
theorem laws_FnSegmentsTold.tab13 : rtab .any (opsOf Try.f8 13) = laws_FnSegmentsTold.T13 := by kernel_rfl
theorem laws_FnSegmentsTold.bits13 : waitsOk laws_FnSegmentsTold.T13.2 laws_FnSegmentsTold.B13 = true := by kernel_rfl
theorem laws_FnSegmentsTold.calls (k : Nat) (A0 : Option Addr) (c0 : Nat) (l0 : List Int) (r : Bool) (w : World) (hr0 : Kd.C (Kd.int .u8) w A0 l0.length l0) (hc0 : l0.length ≤ c0) (h : laws_FnSegmentsTold.f k l0 = some r) :
  Calls Try.prog 8 #[.slice A0 l0.length c0] w fun e w' => e = .returned (.bool r) ∧ Below w.heap.size w w' := by
 have hu27 := Try.underlying27
 have HR0 := Aside0.mk hr0
 have HC0 := Aside0.mk hc0
 clear hr0 hc0
 have HB := ak (Below.refl w.heap.size w)
 have H : ((laws_big.f l0).bind fun t684 => (if t684 = true then (some true) else ((spec_DrawSegFrames.f k l0).bind fun bt685 => ((impl_SegFrames.f k bt685.1 bt685.2.1 bt685.2.2).bind fun bt693 => ((spec_SegFrames.f k bt685.1 bt685.2.1 bt685.2.2).bind fun bt697 => ((spec_DrawSegsOf.f k l0).bind fun bt701 => ((spec_DrawSegDisk.f k l0).bind fun bt708 => (laws_FnSegmentsTold.l0 k bt685.2.2 bt693.1 bt693.2 bt697.1 bt697.2 false 0 bt685.1 bt685.2.1 bt701.1 bt701.2 bt708.1 bt708.2)))))))) = some r := h
 clear h
 replace H := Option.bind_eq_some_iff.mp H
 obtain ⟨t684, A20, H⟩ := H
 replace H : (if t684 = true then (some true) else ((spec_DrawSegFrames.f k l0).bind fun bt685 => ((impl_SegFrames.f k bt685.1 bt685.2.1 bt685.2.2).bind fun bt693 => ((spec_SegFrames.f k bt685.1 bt685.2.1 bt685.2.2).bind fun bt697 => ((spec_DrawSegsOf.f k l0).bind fun bt701 => ((spec_DrawSegDisk.f k l0).bind fun bt708 => (laws_FnSegmentsTold.l0 k bt685.2.2 bt693.1 bt693.2 bt697.1 bt697.2 false 0 bt685.1 bt685.2.1 bt701.1 bt701.2 bt708.1 bt708.2))))))) = some r := H
 have A2 := Aside0.mk A20
 clear A20
 by_cases c3 : t684 = true
 ·subst c3
  have H1 : (some true) = some r := by rw [if_pos rfl] at H; exact H
  clear H
  have H := H1
  clear H1
  obtain rfl := Option.some.inj H
  go_enter Try.func8, Try.ntmps8
  go_wp2_with (first | ((with_reducible refine gate_callee (f := 9) rfl ?_); refine gl (some 14) Try.func9 #[.slice A0 l0.length c0] ?_; (with_reducible refine (laws_big.calls _ _ l0 true _ ?side1 ?side2 A2.out).mono ?_); (case side1 => repeat (first | exact HR0.out | (with_reducible refine Kd.C_alloc ?_ _) | (with_reducible refine Kd.C_drewN ?_ _) | (with_reducible refine Kd.C_drew ?_))); (case side2 => exact HC0.out); rintro e w' ⟨rfl, ⟨nd, rfl⟩⟩; refine ⟨_, rfl, ?_⟩))
  go_ret
  exact ⟨ew, by exact lG HB⟩
 ·replace c3 := Bool.eq_false_iff.mpr c3
  subst c3
  have H1 : ((spec_DrawSegFrames.f k l0).bind fun bt685 => ((impl_SegFrames.f k bt685.1 bt685.2.1 bt685.2.2).bind fun bt693 => ((spec_SegFrames.f k bt685.1 bt685.2.1 bt685.2.2).bind fun bt697 => ((spec_DrawSegsOf.f k l0).bind fun bt701 => ((spec_DrawSegDisk.f k l0).bind fun bt708 => (laws_FnSegmentsTold.l0 k bt685.2.2 bt693.1 bt693.2 bt697.1 bt697.2 false 0 bt685.1 bt685.2.1 bt701.1 bt701.2 bt708.1 bt708.2)))))) = some r := by rw [if_neg (show ¬ (false = true) by decide)] at H; exact H
  clear H
  have H := H1
  clear H1
  replace H := Option.bind_eq_some_iff.mp H
  obtain ⟨⟨t685, t688, t691⟩, A40, H⟩ := H
  replace H : ((impl_SegFrames.f k t685 t688 t691).bind fun bt693 => ((spec_SegFrames.f k t685 t688 t691).bind fun bt697 => ((spec_DrawSegsOf.f k l0).bind fun bt701 => ((spec_DrawSegDisk.f k l0).bind fun bt708 => (laws_FnSegmentsTold.l0 k t691 bt693.1 bt693.2 bt697.1 bt697.2 false 0 t685 t688 bt701.1 bt701.2 bt708.1 bt708.2))))) = some r := H
  have A4 := Aside0.mk A40
  clear A40
  replace H := Option.bind_eq_some_iff.mp H
  obtain ⟨⟨t693, t696⟩, A50, H⟩ := H
  replace H : ((spec_SegFrames.f k t685 t688 t691).bind fun bt697 => ((spec_DrawSegsOf.f k l0).bind fun bt701 => ((spec_DrawSegDisk.f k l0).bind fun bt708 => (laws_FnSegmentsTold.l0 k t691 t693 t696 bt697.1 bt697.2 false 0 t685 t688 bt701.1 bt701.2 bt708.1 bt708.2)))) = some r := H
  have A5 := Aside0.mk A50
  clear A50
  replace H := Option.bind_eq_some_iff.mp H
  obtain ⟨⟨t697, t700⟩, A60, H⟩ := H
  replace H : ((spec_DrawSegsOf.f k l0).bind fun bt701 => ((spec_DrawSegDisk.f k l0).bind fun bt708 => (laws_FnSegmentsTold.l0 k t691 t693 t696 t697 t700 false 0 t685 t688 bt701.1 bt701.2 bt708.1 bt708.2))) = some r := H
  have A6 := Aside0.mk A60
  clear A60
  replace H := Option.bind_eq_some_iff.mp H
  obtain ⟨⟨t701, t704⟩, A70, H⟩ := H
  replace H : ((spec_DrawSegDisk.f k l0).bind fun bt708 => (laws_FnSegmentsTold.l0 k t691 t693 t696 t697 t700 false 0 t685 t688 t701 t704 bt708.1 bt708.2)) = some r := H
  have A7 := Aside0.mk A70
  clear A70
  replace H := Option.bind_eq_some_iff.mp H
  obtain ⟨⟨t708, t711⟩, A80, H⟩ := H
  replace H : (laws_FnSegmentsTold.l0 k t691 t693 t696 t697 t700 false 0 t685 t688 t701 t704 t708 t711) = some r := H
  have A8 := Aside0.mk A80
  clear A80
  have H' := Aside0.mk H
  clear H
  go_enter Try.func8, Try.ntmps8
  go_wp2_with (first | ((with_reducible refine gate_callee (f := 9) rfl ?_); refine gl (some 14) Try.func9 #[.slice A0 l0.length c0] ?_; (with_reducible refine (laws_big.calls _ _ l0 false _ ?side1 ?side2 A2.out).mono ?_); (case side1 => repeat (first | exact HR0.out | (with_reducible refine Kd.C_alloc ?_ _) | (with_reducible refine Kd.C_drewN ?_ _) | (with_reducible refine Kd.C_drew ?_))); (case side2 => exact HC0.out); rintro e w' ⟨rfl, ⟨nd, rfl⟩⟩; refine ⟨_, rfl, ?_⟩) | ((with_reducible refine gate_callee (f := 37) rfl ?_); refine gl (some 17) Try.func37 #[.slice A0 l0.length c0] ?_; (with_reducible refine (spec_DrawSegFrames.calls k _ _ l0 t685 t688 t691 _ ?side1 ?side2 A4.out).mono ?_); (case side1 => repeat (first | exact HR0.out | (with_reducible refine Kd.C_alloc ?_ _) | (with_reducible refine Kd.C_drewN ?_ _) | (with_reducible refine Kd.C_drew ?_))); (case side2 => exact HC0.out); rintro e w9 ⟨v686, v689, rfl, ho0, ho1, hb⟩; refine ⟨_, rfl, ?_⟩; replace HO687 := ak (Kd.R_lower ho0 (below_size (lG HB))); replace HO690 := ak (Kd.R_lower ho1 (below_size (lG HB))); replace HB := lB HB hb; (try clear hb); (try clear hk); (try clear ho0); (try clear ho1)) | ((with_reducible refine gate_dst (N := 3) rfl ?_); refine bx 3 #[.slice none 0 0, .slice none 0 0] 27 ?_; intro gb692 hg w10 hbox hb; replace HO687 := rB HO687 hb; replace HO690 := rB HO690 hb; replace BK692 := ak (hbox); replace GW692 := ak (bz hg (lG HB)); replace GE692 := ak (bz hg (lG HB)); replace HB := lB HB hb; clear hb hbox hg; obtain ⟨Ao11, co11, eo11⟩ := Kd.R_slice HO687.out; subst eo11; obtain ⟨hcz12_0, hcz12_1, hfz12_0, hfz12_1⟩ := bC2 BK692; obtain ⟨Ao13, co13, eo13⟩ := Kd.R_slice HO690.out; subst eo13) | ((with_reducible refine gate_callee (f := 38) rfl ?_); refine gl (some 23) Try.func38 #[.agg #[.slice Ao11 t685.length co11, .slice Ao13 t688.length co13], .int .i64 t691] ?_; (with_reducible refine (impl_SegFrames.calls k _ _ t685 _ _ t688 t691 t693 t696 _ ?side1 ?side2 ?side3 ?side4 A5.out).mono ?_); (case side1 => exact (Kd.R_reads' (rT HO687 BK692 (by decide))).2.2); (case side2 => exact (Kd.R_reads' HO687.out).2.1); (case side3 => exact (Kd.R_reads' (rT HO690 BK692 (by decide))).2.2); (case side4 => exact (Kd.R_reads' HO690.out).2.1); rintro e w14 ⟨v694, rfl, ho0, hb⟩; refine ⟨_, rfl, ?_⟩; replace HO687 := ak (Kd.R_below (rT HO687 BK692 (by decide)) hb); replace HO690 := ak (Kd.R_below (rT HO690 BK692 (by decide)) hb); replace HO695 := ak (Kd.Q_lower ho0 (below_size (lT HB (gC GE692 gN)))); replace BK692 := ak (blk_below (g := gb692) (o := .cells #[.slice Ao11 t685.length co11, .slice Ao13 t688.length co13] 27 (0, 0)) (bW BK692) hb); replace HB := ak (below_step (lT HB (gC GE692 gN)) hb); (try clear hb); (try clear hk); (try clear ho0); obtain ⟨hcz15_0, hcz15_1, hfz15_0, hfz15_1⟩ := bC2 BK692) | ((with_reducible refine gate_callee (f := 39) rfl ?_); refine gl (some 29) Try.func39 #[.agg #[.slice Ao11 t685.length co11, .slice Ao13 t688.length co13], .int .i64 t691] ?_; (with_reducible refine (spec_SegFrames.calls k _ _ t685 _ _ t688 t691 t697 t700 _ ?side1 ?side2 ?side3 ?side4 A6.out).mono ?_); (case side1 => exact cG (Kd.R_reads' HO687.out).2.2); (case side2 => exact (Kd.R_reads' HO687.out).2.1); (case side3 => exact cG (Kd.R_reads' HO690.out).2.2); (case side4 => exact (Kd.R_reads' HO690.out).2.1); rintro e w16 ⟨v698, rfl, ho0, hb⟩; refine ⟨_, rfl, ?_⟩; replace HO687 := rB HO687 hb; replace HO690 := rB HO690 hb; replace HO699 := ak (Kd.R_lower (Kd.R_new' ho0 (Kd.Q_lt (by (with_reducible repeat (first | apply Kd.Q_alloc | apply Kd.Q_drewN | apply Kd.Q_drew)); exact HO695.out))) (below_size (lT HB (gC GE692 gN)))); replace HO695 := ak (Kd.Q_elder' (by (with_reducible repeat (first | apply Kd.Q_alloc | apply Kd.Q_drewN | apply Kd.Q_drew)); exact HO695.out) (Kd.R_base ho0) hb); replace BK692 := bB BK692 hb; replace HB := ak (below_step (lT HB (gC GE692 gN)) hb); (try clear hb); (try clear hk); (try clear ho0)) | ((with_reducible refine gate_callee (f := 40) rfl ?_); refine gl (some 33) Try.func40 #[.slice A0 l0.length c0] ?_; (with_reducible refine (spec_DrawSegsOf.calls k _ _ l0 t701 t704 _ ?side1 ?side2 A7.out).mono ?_); (case side1 => exact cG (Kd.C_below HR0.out HB.out)); (case side2 => exact HC0.out); rintro e w17 ⟨v702, v705, rfl, ho0, ho1, hb⟩; refine ⟨_, rfl, ?_⟩; replace HO695 := ak (Kd.Q_below (by (with_reducible repeat (first | apply Kd.Q_alloc | apply Kd.Q_drewN | apply Kd.Q_drew)); exact HO695.out) hb); replace HO699 := rB HO699 hb; replace HO703 := ak (Kd.R_lower (Kd.R_new' ho0 (Kd.R_lt (rG HO687))) (below_size (lT HB (gC GE692 gN)))); replace HO687 := ak (Kd.R_elder' (rG HO687) (Kd.R_base ho0) hb); replace HO706 := ak (Kd.R_lower (Kd.R_new' ho1 (Kd.R_lt (rG HO690))) (below_size (lT HB (gC GE692 gN)))); replace HO690 := ak (Kd.R_elder' (rG HO690) (Kd.R_base ho1) hb); replace BK692 := bB BK692 hb; replace HB := ak (below_step (lT HB (gC GE692 gN)) hb); (try clear hb); (try clear hk); (try clear ho0); (try clear ho1)) | ((with_reducible refine gate_dst (N := 9) rfl ?_); refine bx 9 #[.slice none 0 0, .slice none 0 0] 27 ?_; intro gb707 hg w18 hbox hb; replace HO687 := rB HO687 hb; replace HO690 := rB HO690 hb; replace HO695 := ak (Kd.Q_below (by (with_reducible repeat (first | apply Kd.Q_alloc | apply Kd.Q_drewN | apply Kd.Q_drew)); exact HO695.out) hb); replace HO699 := rB HO699 hb; replace HO703 := rB HO703 hb; replace HO706 := rB HO706 hb; replace BK707 := ak (hbox); replace GW707 := ak (bz hg (lT HB (gC GE692 gN))); replace GE707 := ak (bz hg (lT HB (gC GE692 gN))); replace HB := ak (below_step (lT HB (gC GE692 gN)) hb); replace NB692_707 := ak (nl hg (bG BK692)); replace NB707_692 := ak (ng hg (bG BK692)); replace BK692 := bB BK692 hb; clear hb hbox hg; obtain ⟨Ao19, co19, eo19⟩ := Kd.R_slice HO703.out; subst eo19; have hnb20 := NB707_692.out; have hnc20 := NB692_707.out; obtain ⟨hcz21_0, hcz21_1, hfz21_0, hfz21_1⟩ := bC2 BK707; obtain ⟨Ao22, co22, eo22⟩ := Kd.R_slice HO706.out; subst eo22) | ((with_reducible refine gate_callee (f := 22) rfl ?_); refine gl (some 35) Try.func22 #[.slice A0 l0.length c0] ?_; (with_reducible refine (spec_DrawSegDisk.calls k _ _ l0 t708 t711 _ ?side1 ?side2 A8.out).mono ?_); (case side1 => exact Kd.C_below HR0.out (lT HB (gC GE692 (gC GE707 gN)))); (case side2 => exact HC0.out); rintro e w23 ⟨v709, v712, rfl, ho0, ho1, hb⟩; refine ⟨_, rfl, ?_⟩; replace HO695 := ak (Kd.Q_below (by (with_reducible repeat (first | apply Kd.Q_alloc | apply Kd.Q_drewN | apply Kd.Q_drew)); exact (Kd.Q_mono (Kd.Q_far (p := ⟨gb707, 1, none⟩) (Kd.Q_far (p := ⟨gb707, 0, none⟩) (Kd.Q_types HO695.out BK707.out (by decide)) (fun _ hk => hk.2) (.slice Ao19 t701.length co19)) (fun _ hk => hk.2) (.slice Ao22 t704.length co22)) (fun _ h_ => h_.1))) hb); replace HO699 := ak (Kd.R_below (rT HO699 BK707 (by decide)) hb); replace HO710 := ak (Kd.R_lower (Kd.R_new' (Kd.R_new' ho0 (Kd.R_lt (rT HO687 BK707 (by decide)))) (Kd.R_lt (rT HO703 BK707 (by decide)))) (below_size (lT HB (gC GE692 (gC GE707 gN))))); replace HO687 := ak (Kd.R_elder' (rT HO687 BK707 (by decide)) (Kd.R_base ho0) hb); replace HO703 := ak (Kd.R_elder' (rT HO703 BK707 (by decide)) (Kd.R_base ho0) hb); replace HO713 := ak (Kd.R_lower (Kd.R_new' (Kd.R_new' ho1 (Kd.R_lt (rT HO690 BK707 (by decide)))) (Kd.R_lt (rT HO706 BK707 (by decide)))) (below_size (lT HB (gC GE692 (gC GE707 gN))))); replace HO690 := ak (Kd.R_elder' (rT HO690 BK707 (by decide)) (Kd.R_base ho1) hb); replace HO706 := ak (Kd.R_elder' (rT HO706 BK707 (by decide)) (Kd.R_base ho1) hb); replace BK692 := ak (blk_below (bT BK692 (nC NB692_707 nN)) hb); replace BK707 := ak (blk_below (g := gb707) (o := .cells #[.slice Ao19 t701.length co19, .slice Ao22 t704.length co22] 27 (0, 0)) (bW BK707) hb); replace HB := ak (below_step (lT HB (gC GE692 (gC GE707 gN))) hb); (try clear hb); (try clear hk); (try clear ho0); (try clear ho1)) | ((with_reducible refine gate_dst (N := 10) rfl ?_); refine bx 10 #[.slice none 0 0, .slice none 0 0] 27 ?_; intro gb714 hg w24 hbox hb; replace HO687 := rB HO687 hb; replace HO690 := rB HO690 hb; replace HO695 := ak (Kd.Q_below (by (with_reducible repeat (first | apply Kd.Q_alloc | apply Kd.Q_drewN | apply Kd.Q_drew)); exact HO695.out) hb); replace HO699 := rB HO699 hb; replace HO703 := rB HO703 hb; replace HO706 := rB HO706 hb; replace HO710 := rB HO710 hb; replace HO713 := rB HO713 hb; replace BK714 := ak (hbox); replace GW714 := ak (bz hg (lT HB (gC GE692 (gC GE707 gN)))); replace GE714 := ak (bz hg (lT HB (gC GE692 (gC GE707 gN)))); replace HB := ak (below_step (lT HB (gC GE692 (gC GE707 gN))) hb); replace NB692_714 := ak (nl hg (bG BK692)); replace NB714_692 := ak (ng hg (bG BK692)); replace BK692 := bB BK692 hb; replace NB707_714 := ak (nl hg (bG BK707)); replace NB714_707 := ak (ng hg (bG BK707)); replace BK707 := bB BK707 hb; clear hb hbox hg; obtain ⟨Ao25, co25, eo25⟩ := Kd.R_slice HO710.out; subst eo25; have hnb26 := NB714_692.out; have hnc26 := NB692_714.out; have hnb27 := NB714_707.out; have hnc27 := NB707_714.out; obtain ⟨hcz28_0, hcz28_1, hfz28_0, hfz28_1⟩ := bC2 BK714; obtain ⟨Ao29, co29, eo29⟩ := Kd.R_slice HO713.out; subst eo29))
  go_loopg [11, 12] k (fun kq v11 v12 w' => ∃ (x11_1 : Bool) (x12_1 : Int), v11 = .bool x11_1 ∧ v12 = .int .i64 x12_1 ∧ Aside0 (laws_FnSegmentsTold.l0 kq t691 t693 t696 t697 t700 x11_1 x12_1 t685 t688 t701 t704 t708 t711 = some r) ∧ Aside0 (kq ≤ k) ∧ Aside0 (Kd.Q k74 74 w' w.heap.size (fun k_ => some k_ ≠ (v698 : Value).ownBlock) v694 t693) ∧ Aside0 (Kd.R k74 74 w' w.heap.size (fun k_ => some k_ ≠ (v694 : Value).ownBlock) v698 t697) ∧ Aside0 (Kd.R Kd.string 9 w' w.heap.size (fun k_ => some k_ ≠ ((.slice Ao19 t701.length co19) : Value).ownBlock ∧ some k_ ≠ ((.slice Ao25 t708.length co25) : Value).ownBlock) (.slice Ao11 t685.length co11) t685) ∧ Aside0 (Kd.R k63 63 w' w.heap.size (fun k_ => some k_ ≠ ((.slice Ao22 t704.length co22) : Value).ownBlock ∧ some k_ ≠ ((.slice Ao29 t711.length co29) : Value).ownBlock) (.slice Ao13 t688.length co13) t688) ∧ Aside0 (Kd.R Kd.string 9 w' w.heap.size (fun k_ => some k_ ≠ ((.slice Ao11 t685.length co11) : Value).ownBlock ∧ some k_ ≠ ((.slice Ao25 t708.length co25) : Value).ownBlock) (.slice Ao19 t701.length co19) t701) ∧ Aside0 (Kd.R k63 63 w' w.heap.size (fun k_ => some k_ ≠ ((.slice Ao13 t688.length co13) : Value).ownBlock ∧ some k_ ≠ ((.slice Ao29 t711.length co29) : Value).ownBlock) (.slice Ao22 t704.length co22) t704) ∧ Aside0 (Kd.R Kd.string 9 w' w.heap.size (fun k_ => some k_ ≠ ((.slice Ao11 t685.length co11) : Value).ownBlock ∧ some k_ ≠ ((.slice Ao19 t701.length co19) : Value).ownBlock) (.slice Ao25 t708.length co25) t708) ∧ Aside0 (Kd.R k63 63 w' w.heap.size (fun k_ => some k_ ≠ ((.slice Ao13 t688.length co13) : Value).ownBlock ∧ some k_ ≠ ((.slice Ao22 t704.length co22) : Value).ownBlock) (.slice Ao29 t711.length co29) t711) ∧ Aside0 (w'.heap[gb692]? = some (.cells #[(.slice Ao11 t685.length co11), (.slice Ao13 t688.length co13)] 27 (0, 0))) ∧ Aside0 (w'.heap[gb707]? = some (.cells #[(.slice Ao19 t701.length co19), (.slice Ao22 t704.length co22)] 27 (0, 0))) ∧ Aside0 (w'.heap[gb714]? = some (.cells #[(.slice Ao25 t708.length co25), (.slice Ao29 t711.length co29)] 27 (0, 0))) ∧ Aside0 (Below w.heap.size w w'))
  case atStart => exact ⟨(false), (0), (by first | rfl | (simp; done) | (simp [*]; done)), (by first | rfl | (simp; done) | (simp [*]; done)), H', ⟨Nat.le_refl _⟩, ⟨by (with_reducible repeat (first | apply Kd.Q_alloc | apply Kd.Q_drewN | apply Kd.Q_drew)); exact Kd.Q_mono (Kd.Q_far (p := ⟨gb714, 1, none⟩) (Kd.Q_far (p := ⟨gb714, 0, none⟩) (Kd.Q_types HO695.out BK714.out (by decide)) (fun _ hk => hk.2) (.slice Ao25 t708.length co25)) (fun _ hk => hk.2) (.slice Ao29 t711.length co29)) (fun _ hk => hk.1.2)⟩, ⟨by (with_reducible repeat (first | apply Kd.R_alloc | apply Kd.R_drewN | apply Kd.R_drew)); exact Kd.R_mono (Kd.R_far (p := ⟨gb714, 1, none⟩) (Kd.R_far (p := ⟨gb714, 0, none⟩) (Kd.R_types HO699.out BK714.out (by decide)) (fun _ hk => hk.2) (.slice Ao25 t708.length co25)) (fun _ hk => hk.2) (.slice Ao29 t711.length co29)) (fun _ hk => hk.1.2)⟩, ⟨by (with_reducible repeat (first | apply Kd.R_alloc | apply Kd.R_drewN | apply Kd.R_drew)); exact Kd.R_mono (Kd.R_far (p := ⟨gb714, 1, none⟩) (Kd.R_far (p := ⟨gb714, 0, none⟩) (Kd.R_types HO687.out BK714.out (by decide)) (fun _ hk => hk.2) (.slice Ao25 t708.length co25)) (fun _ hk => hk.2) (.slice Ao29 t711.length co29)) (fun _ hk => ⟨hk.1.1.2, hk.1.2⟩)⟩, ⟨by (with_reducible repeat (first | apply Kd.R_alloc | apply Kd.R_drewN | apply Kd.R_drew)); exact Kd.R_mono (Kd.R_far (p := ⟨gb714, 1, none⟩) (Kd.R_far (p := ⟨gb714, 0, none⟩) (Kd.R_types HO690.out BK714.out (by decide)) (fun _ hk => hk.2) (.slice Ao25 t708.length co25)) (fun _ hk => hk.2) (.slice Ao29 t711.length co29)) (fun _ hk => ⟨hk.1.1.2, hk.1.2⟩)⟩, ⟨by (with_reducible repeat (first | apply Kd.R_alloc | apply Kd.R_drewN | apply Kd.R_drew)); exact Kd.R_mono (Kd.R_far (p := ⟨gb714, 1, none⟩) (Kd.R_far (p := ⟨gb714, 0, none⟩) (Kd.R_types HO703.out BK714.out (by decide)) (fun _ hk => hk.2) (.slice Ao25 t708.length co25)) (fun _ hk => hk.2) (.slice Ao29 t711.length co29)) (fun _ hk => ⟨hk.1.1.2, hk.1.2⟩)⟩, ⟨by (with_reducible repeat (first | apply Kd.R_alloc | apply Kd.R_drewN | apply Kd.R_drew)); exact Kd.R_mono (Kd.R_far (p := ⟨gb714, 1, none⟩) (Kd.R_far (p := ⟨gb714, 0, none⟩) (Kd.R_types HO706.out BK714.out (by decide)) (fun _ hk => hk.2) (.slice Ao25 t708.length co25)) (fun _ hk => hk.2) (.slice Ao29 t711.length co29)) (fun _ hk => ⟨hk.1.1.2, hk.1.2⟩)⟩, ⟨by (with_reducible repeat (first | apply Kd.R_alloc | apply Kd.R_drewN | apply Kd.R_drew)); exact Kd.R_mono (Kd.R_far (p := ⟨gb714, 1, none⟩) (Kd.R_far (p := ⟨gb714, 0, none⟩) (Kd.R_types HO710.out BK714.out (by decide)) (fun _ hk => hk.2) (.slice Ao25 t708.length co25)) (fun _ hk => hk.2) (.slice Ao29 t711.length co29)) (fun _ hk => ⟨hk.1.1.2, hk.1.2⟩)⟩, ⟨by (with_reducible repeat (first | apply Kd.R_alloc | apply Kd.R_drewN | apply Kd.R_drew)); exact Kd.R_mono (Kd.R_far (p := ⟨gb714, 1, none⟩) (Kd.R_far (p := ⟨gb714, 0, none⟩) (Kd.R_types HO713.out BK714.out (by decide)) (fun _ hk => hk.2) (.slice Ao25 t708.length co25)) (fun _ hk => hk.2) (.slice Ao29 t711.length co29)) (fun _ hk => ⟨hk.1.1.2, hk.1.2⟩)⟩, ⟨by (with_reducible repeat (first | refine blk_drewN ?_ _ | refine blk_drew ?_ | refine blk_alloc ?_ _)); refine blk_far ?_ NB692_714.out _; (with_reducible repeat (first | refine blk_drewN ?_ _ | refine blk_drew ?_ | refine blk_alloc ?_ _)); refine blk_far ?_ NB692_714.out _; (with_reducible repeat (first | refine blk_drewN ?_ _ | refine blk_drew ?_ | refine blk_alloc ?_ _)); exact BK692.out⟩, ⟨by (with_reducible repeat (first | refine blk_drewN ?_ _ | refine blk_drew ?_ | refine blk_alloc ?_ _)); refine blk_far ?_ NB707_714.out _; (with_reducible repeat (first | refine blk_drewN ?_ _ | refine blk_drew ?_ | refine blk_alloc ?_ _)); refine blk_far ?_ NB707_714.out _; (with_reducible repeat (first | refine blk_drewN ?_ _ | refine blk_drew ?_ | refine blk_alloc ?_ _)); exact BK707.out⟩, ⟨bW BK714⟩, ⟨by exact lT HB (gC GE692 (gC GE707 (gC GE714 gN)))⟩⟩
  case round =>
   clear H'
   try clear c2
   try clear p2
   try clear c3
   try clear c4
   try clear c8
   try clear c9
   try clear c20
   try clear c22
   try clear c26
   try clear c27
   try clear hcz12_0
   try clear hcz12_1
   try clear hcz15_0
   try clear hcz15_1
   try clear hcz21_0
   try clear hcz21_1
   try clear hcz28_0
   try clear hcz28_1
   try clear hfz12_0
   try clear hfz12_1
   try clear hfz15_0
   try clear hfz15_1
   try clear hfz21_0
   try clear hfz21_1
   try clear hfz28_0
   try clear hfz28_1
   obtain ⟨x11_1, x12_1, rfl, rfl, HA, HK1, HO_5, HO_7, HO_693000, HO_693001, HO_708000, HO_708001, HO_715000, HO_715001, BK692, BK707, BK714, HB⟩ := hrel
   cases gk with
   | zero => exact absurd HA.out (by simp [laws_FnSegmentsTold.l0])
   | succ k1 =>
    have H := HA.out
    clear HA
    simp only [laws_FnSegmentsTold.l0] at H
    by_cases c30 : x12_1 < 11
    ·rw [if_pos c30] at H
     have c30b0 : decide (x12_1 < 11) = true := decide_eq_true c30
     clear c30
     by_cases c31 : x11_1 = true
     ·subst c31
      have H1 : (laws_FnSegmentsTold.l0 k1 t691 t693 t696 t697 t700 true (wrap64 (x12_1 + 1)) t685 t688 t701 t704 t708 t711) = some r := by rw [if_pos rfl] at H; exact H
      clear H
      have H := H1
      clear H1
      have H' := Aside0.mk H
      clear H
      try go_wp2
      replace HO_5 := ak (Kd.Q_drew HO_5.out)
      replace HO_7 := ak (Kd.R_drew HO_7.out)
      replace HO_693000 := ak (Kd.R_drew HO_693000.out)
      replace HO_693001 := ak (Kd.R_drew HO_693001.out)
      replace HO_708000 := ak (Kd.R_drew HO_708000.out)
      replace HO_708001 := ak (Kd.R_drew HO_708001.out)
      replace HO_715000 := ak (Kd.R_drew HO_715000.out)
      replace HO_715001 := ak (Kd.R_drew HO_715001.out)
      replace BK692 := ak (blk_drew BK692.out)
      replace BK707 := ak (blk_drew BK707.out)
      replace BK714 := ak (blk_drew BK714.out)
      replace HB := ak (below_drew1 HB.out)
      refine start_ (n := 11) (S := fun w' => True) (ds := []) #[f_,f_,f_,f_,f_,f_,f_,f_,f_,f_,f_] (by kernel_rfl) rfl rfl trivial (fun hHeld => ?_); refine with_tabW laws_FnSegmentsTold.tab12 laws_FnSegmentsTold.bits12 (fun HT_ HW_ => ?_)
      generalize wr.drew = w32 at HO_5 HO_7 HO_693000 HO_693001 HO_708000 HO_708001 HO_715000 HO_715001 BK692 BK707 BK714 HB hHeld ⊢
      refine pu 0 40 (fb 11 1) HT_ ?_
      refine pu 1 41 (fb 11 3) HT_ ?_
      refine pn 2 42 (fb 11 7) HT_ ?_
      refine pn 3 43 (fb 11 15) HT_ ?_
      refine pn 4 44 (fb 11 31) HT_ ?_
      refine pn 5 45 (fb 11 63) HT_ ?_
      refine pn 6 46 (fb 11 127) HT_ ?_
      refine pn 7 47 (fb 11 255) HT_ ?_
      refine pn 8 48 (fb 11 511) HT_ ?_
      refine pu 9 49 (fb 11 1023) HT_ ?_
      refine pu 10 11 (fb 11 2047) HT_ ?_
      refine done_ (done_of HT_.out (by kernel_rfl)) ?_
      try go_wp2
      go_roundg k1
      case measure => have := HK1.out; omega
      case rel => exact ⟨(true), (wrap64 (x12_1 + 1)), (by first | rfl | (simp; done) | (simp [*]; done)), (by first | rfl | (simp; done) | (simp [*]; done)), H', ⟨by have := HK1.out; omega⟩, ⟨by (with_reducible repeat (first | apply Kd.Q_alloc | apply Kd.Q_drewN | apply Kd.Q_drew)); exact HO_5.out⟩, ⟨by (with_reducible repeat (first | apply Kd.R_alloc | apply Kd.R_drewN | apply Kd.R_drew)); exact HO_7.out⟩, ⟨by (with_reducible repeat (first | apply Kd.R_alloc | apply Kd.R_drewN | apply Kd.R_drew)); exact HO_693000.out⟩, ⟨by (with_reducible repeat (first | apply Kd.R_alloc | apply Kd.R_drewN | apply Kd.R_drew)); exact HO_693001.out⟩, ⟨by (with_reducible repeat (first | apply Kd.R_alloc | apply Kd.R_drewN | apply Kd.R_drew)); exact HO_708000.out⟩, ⟨by (with_reducible repeat (first | apply Kd.R_alloc | apply Kd.R_drewN | apply Kd.R_drew)); exact HO_708001.out⟩, ⟨by (with_reducible repeat (first | apply Kd.R_alloc | apply Kd.R_drewN | apply Kd.R_drew)); exact HO_715000.out⟩, ⟨by (with_reducible repeat (first | apply Kd.R_alloc | apply Kd.R_drewN | apply Kd.R_drew)); exact HO_715001.out⟩, ⟨bG BK692⟩, ⟨bG BK707⟩, ⟨bG BK714⟩, ⟨by exact lT HB (gC GE692 (gC GE707 (gC GE714 gN)))⟩⟩
     ·replace c31 := Bool.eq_false_iff.mpr c31
      subst c31
      have H1 : ((impl_SegGen.f k1 t708 t711 x12_1).bind fun t715 => ((spec_SegGen.f k1 t708 t711 x12_1).bind fun t716 => (laws_FnSegmentsTold.l0 k1 t691 t693 t696 t697 t700 (t715 != t716) (wrap64 (x12_1 + 1)) t685 t688 t701 t704 t708 t711))) = some r := by rw [if_neg (show ¬ (false = true) by decide)] at H; exact H
      clear H
      have H := H1
      clear H1
      replace H := Option.bind_eq_some_iff.mp H
      obtain ⟨t715, A330, H⟩ := H
      replace H : ((spec_SegGen.f k1 t708 t711 x12_1).bind fun t716 => (laws_FnSegmentsTold.l0 k1 t691 t693 t696 t697 t700 (t715 != t716) (wrap64 (x12_1 + 1)) t685 t688 t701 t704 t708 t711)) = some r := H
      have A33 := Aside0.mk A330
      clear A330
      replace H := Option.bind_eq_some_iff.mp H
      obtain ⟨t716, A340, H⟩ := H
      replace H : (laws_FnSegmentsTold.l0 k1 t691 t693 t696 t697 t700 (t715 != t716) (wrap64 (x12_1 + 1)) t685 t688 t701 t704 t708 t711) = some r := H
      have A34 := Aside0.mk A340
      clear A340
      have H' := Aside0.mk H
      clear H
      try go_wp2
      replace HO_5 := ak (Kd.Q_drew HO_5.out)
      replace HO_7 := ak (Kd.R_drew HO_7.out)
      replace HO_693000 := ak (Kd.R_drew HO_693000.out)
      replace HO_693001 := ak (Kd.R_drew HO_693001.out)
      replace HO_708000 := ak (Kd.R_drew HO_708000.out)
      replace HO_708001 := ak (Kd.R_drew HO_708001.out)
      replace HO_715000 := ak (Kd.R_drew HO_715000.out)
      replace HO_715001 := ak (Kd.R_drew HO_715001.out)
      replace BK692 := ak (blk_drew BK692.out)
      replace BK707 := ak (blk_drew BK707.out)
      replace BK714 := ak (blk_drew BK714.out)
      replace HB := ak (below_drew1 HB.out)
      refine start_ (n := 11) (S := fun w' => w'.cell? ⟨gb714, 0, none⟩ = some (.slice Ao25 t708.length co25) ∧ w'.cell? ⟨gb714, 1, none⟩ = some (.slice Ao29 t711.length co29)) (ds := []) #[f_,f_,f_,f_,f_,f_,f_,f_,f_,f_,f_] (by kernel_rfl) rfl rfl ⟨bc BK714 0, bc BK714 1⟩ (fun hHeld => ?_); refine with_tabW laws_FnSegmentsTold.tab12 laws_FnSegmentsTold.bits12 (fun HT_ HW_ => ?_)
      generalize wr.drew = w35 at HO_5 HO_7 HO_693000 HO_693001 HO_708000 HO_708001 HO_715000 HO_715001 BK692 BK707 BK714 HB hHeld ⊢
      refine pu 0 40 (fb 11 1) HT_ ?_
      refine pu 1 41 (fb 11 3) HT_ ?_
      refine pu 3 43 (fb 11 11) HT_ ?_
      refine pu 6 46 (fb 11 75) HT_ ?_
      refine tk 2 42 (fb 11 79) HT_ HW_ hHeld ?_
      refine tk 5 45 (fb 11 111) HT_ HW_ hHeld ?_
      refine on 4 (some 44) (fb 11 127) HT_ (fun K hK => ?_)
      refine goes_ Try.func41 (by kernel_rfl) rfl #[.agg #[.slice Ao25 t708.length co25, .slice Ao29 t711.length co29], .int .i64 x12_1] (by rfl) rfl rfl (by (try simp only [List.map_toArray, List.map_cons, List.map_nil]); first | done | rfl | (simp only [List.length_drop, List.length_take]; rfl)) ?_
      with_reducible refine (impl_SegGen.calls k1 _ _ t708 _ _ t711 x12_1 t715 _ ?side1 ?side2 ?side3 ?side4 A33.out).mono ?_
      (case side1 => exact cG (Kd.R_reads' HO_715000.out).2.2)
      (case side2 => exact (Kd.R_reads' HO_715000.out).2.1)
      (case side3 => exact cG (Kd.R_reads' HO_715001.out).2.2)
      (case side4 => exact (Kd.R_reads' HO_715001.out).2.1)
      rintro e w36 ⟨rfl, hb⟩
      refine ⟨_, rfl, ?_⟩
      replace HO_5 := ak (Kd.Q_below (by (with_reducible repeat (first | apply Kd.Q_alloc | apply Kd.Q_drewN | apply Kd.Q_drew)); exact HO_5.out) hb)
      replace HO_7 := rB HO_7 hb
      replace HO_693000 := rB HO_693000 hb
      replace HO_693001 := rB HO_693001 hb
      replace HO_708000 := rB HO_708000 hb
      replace HO_708001 := rB HO_708001 hb
      replace HO_715000 := rB HO_715000 hb
      replace HO_715001 := rB HO_715001 hb
      replace BK692 := bB BK692 hb
      replace BK707 := bB BK707 hb
      replace BK714 := bB BK714 hb
      replace HB := ak (below_step (lT HB (gC GE692 (gC GE707 (gC GE714 gN)))) hb)
      (try clear hb)
      (try clear hb2)
      (try clear hk)
      (try clear hi)
      refine hK.out _ _ ⟨bc BK714 0, bc BK714 1⟩ (fun hHeld => ?_)
      clear hK K
      refine nm ?_
      refine on 7 (some 47) (fb 11 255) HT_ (fun K hK => ?_)
      refine goes_ Try.func42 (by kernel_rfl) rfl #[.agg #[.slice Ao25 t708.length co25, .slice Ao29 t711.length co29], .int .i64 x12_1] (by rfl) rfl rfl (by (try simp only [List.map_toArray, List.map_cons, List.map_nil]); first | done | rfl | (simp only [List.length_drop, List.length_take]; rfl)) ?_
      with_reducible refine (spec_SegGen.calls k1 _ _ t708 _ _ t711 x12_1 t716 _ ?side1 ?side2 ?side3 ?side4 A34.out).mono ?_
      (case side1 => exact cG (Kd.R_reads' HO_715000.out).2.2)
      (case side2 => exact (Kd.R_reads' HO_715000.out).2.1)
      (case side3 => exact cG (Kd.R_reads' HO_715001.out).2.2)
      (case side4 => exact (Kd.R_reads' HO_715001.out).2.1)
      rintro e w37 ⟨rfl, hb⟩
      refine ⟨_, rfl, ?_⟩
      replace HO_5 := ak (Kd.Q_below (by (with_reducible repeat (first | apply Kd.Q_alloc | apply Kd.Q_drewN | apply Kd.Q_drew)); exact HO_5.out) hb)
      replace HO_7 := rB HO_7 hb
      replace HO_693000 := rB HO_693000 hb
      replace HO_693001 := rB HO_693001 hb
      replace HO_708000 := rB HO_708000 hb
      replace HO_708001 := rB HO_708001 hb
      replace HO_715000 := rB HO_715000 hb
      replace HO_715001 := rB HO_715001 hb
      replace BK692 := bB BK692 hb
      replace BK707 := bB BK707 hb
      replace BK714 := bB BK714 hb
      replace HB := ak (below_step (lT HB (gC GE692 (gC GE707 (gC GE714 gN)))) hb)
      (try clear hb)
      (try clear hb2)
      (try clear hk)
      (try clear hi)
      refine hK.out _ _ ⟨bc BK714 0, bc BK714 1⟩ (fun hHeld => ?_)
      clear hK K
      refine nm ?_
      refine pu 8 48 (fb 11 511) HT_ ?_
      refine pu 9 49 (fb 11 1023) HT_ ?_
      refine pu 10 11 (fb 11 2047) HT_ ?_
      refine done_ (done_of HT_.out (by kernel_rfl)) ?_
      try go_wp2
      go_roundg k1
      case measure => have := HK1.out; omega
      case rel => exact ⟨((t715 != t716)), (wrap64 (x12_1 + 1)), (by first | rfl | (simp; done) | (simp [*]; done)), (by first | rfl | (simp; done) | (simp [*]; done)), H', ⟨by have := HK1.out; omega⟩, ⟨by (with_reducible repeat (first | apply Kd.Q_alloc | apply Kd.Q_drewN | apply Kd.Q_drew)); exact HO_5.out⟩, ⟨by (with_reducible repeat (first | apply Kd.R_alloc | apply Kd.R_drewN | apply Kd.R_drew)); exact HO_7.out⟩, ⟨by (with_reducible repeat (first | apply Kd.R_alloc | apply Kd.R_drewN | apply Kd.R_drew)); exact HO_693000.out⟩, ⟨by (with_reducible repeat (first | apply Kd.R_alloc | apply Kd.R_drewN | apply Kd.R_drew)); exact HO_693001.out⟩, ⟨by (with_reducible repeat (first | apply Kd.R_alloc | apply Kd.R_drewN | apply Kd.R_drew)); exact HO_708000.out⟩, ⟨by (with_reducible repeat (first | apply Kd.R_alloc | apply Kd.R_drewN | apply Kd.R_drew)); exact HO_708001.out⟩, ⟨by (with_reducible repeat (first | apply Kd.R_alloc | apply Kd.R_drewN | apply Kd.R_drew)); exact HO_715000.out⟩, ⟨by (with_reducible repeat (first | apply Kd.R_alloc | apply Kd.R_drewN | apply Kd.R_drew)); exact HO_715001.out⟩, ⟨bG BK692⟩, ⟨bG BK707⟩, ⟨bG BK714⟩, ⟨by exact lT HB (gC GE692 (gC GE707 (gC GE714 gN)))⟩⟩
    ·rw [if_neg c30] at H
     have c30b0 : decide (x12_1 < 11) = false := decide_eq_false c30
     clear c30
     replace H := Option.bind_eq_some_iff.mp H
     obtain ⟨t717, A380, H⟩ := H
     replace H : (if t717 = true then (if t696 = t700 then ((impl_SegGen.f k1 t685 t688 t691).bind fun t718 => ((spec_SegGen.f k1 t685 t688 t691).bind fun t719 => (if t718 = t719 then ((impl_SegText.f k1 t685 t688 t691).bind fun t720 => ((spec_SegText.f k1 t685 t688 t691).bind fun t721 => (if t720.toList = t721.toList then ((impl_SegsOf.f t701 t704).bind fun t722 => ((spec_SegsOf.f t701 t704).bind fun t723 => (if t722 = t723 then (if x11_1 = true then (some false) else ((impl_SegFirst.f 1).bind fun t724 => (some (t724 == 16)))) else (some false)))) else (some false)))) else (some false)))) else (some false)) else (some false)) = some r := H
     have A38 := Aside0.mk A380
     clear A380
     by_cases c39 : t717 = true
     ·subst c39
      have H1 : (if t696 = t700 then ((impl_SegGen.f k1 t685 t688 t691).bind fun t718 => ((spec_SegGen.f k1 t685 t688 t691).bind fun t719 => (if t718 = t719 then ((impl_SegText.f k1 t685 t688 t691).bind fun t720 => ((spec_SegText.f k1 t685 t688 t691).bind fun t721 => (if t720.toList = t721.toList then ((impl_SegsOf.f t701 t704).bind fun t722 => ((spec_SegsOf.f t701 t704).bind fun t723 => (if t722 = t723 then (if x11_1 = true then (some false) else ((impl_SegFirst.f 1).bind fun t724 => (some (t724 == 16)))) else (some false)))) else (some false)))) else (some false)))) else (some false)) = some r := by rw [if_pos rfl] at H; exact H
      clear H
      have H := H1
      clear H1
      by_cases c40 : t696 = t700
      ·rw [if_pos c40] at H
       have c40b0 : (t696 == t700) = true := beq_iff_eq.mpr c40
       have c40b1 : (t696 != t700) = false := bne_eq_false_iff_eq.mpr c40
       clear c40
       replace H := Option.bind_eq_some_iff.mp H
       obtain ⟨t718, A410, H⟩ := H
       replace H : ((spec_SegGen.f k1 t685 t688 t691).bind fun t719 => (if t718 = t719 then ((impl_SegText.f k1 t685 t688 t691).bind fun t720 => ((spec_SegText.f k1 t685 t688 t691).bind fun t721 => (if t720.toList = t721.toList then ((impl_SegsOf.f t701 t704).bind fun t722 => ((spec_SegsOf.f t701 t704).bind fun t723 => (if t722 = t723 then (if x11_1 = true then (some false) else ((impl_SegFirst.f 1).bind fun t724 => (some (t724 == 16)))) else (some false)))) else (some false)))) else (some false))) = some r := H
       have A41 := Aside0.mk A410
       clear A410
       replace H := Option.bind_eq_some_iff.mp H
       obtain ⟨t719, A420, H⟩ := H
       replace H : (if t718 = t719 then ((impl_SegText.f k1 t685 t688 t691).bind fun t720 => ((spec_SegText.f k1 t685 t688 t691).bind fun t721 => (if t720.toList = t721.toList then ((impl_SegsOf.f t701 t704).bind fun t722 => ((spec_SegsOf.f t701 t704).bind fun t723 => (if t722 = t723 then (if x11_1 = true then (some false) else ((impl_SegFirst.f 1).bind fun t724 => (some (t724 == 16)))) else (some false)))) else (some false)))) else (some false)) = some r := H
       have A42 := Aside0.mk A420
       clear A420
       by_cases c43 : t718 = t719
       ·rw [if_pos c43] at H
        have c43b0 : (t718 == t719) = true := beq_iff_eq.mpr c43
        have c43b1 : (t718 != t719) = false := bne_eq_false_iff_eq.mpr c43
        clear c43
        replace H := Option.bind_eq_some_iff.mp H
        obtain ⟨t720, A440, H⟩ := H
        replace H : ((spec_SegText.f k1 t685 t688 t691).bind fun t721 => (if t720.toList = t721.toList then ((impl_SegsOf.f t701 t704).bind fun t722 => ((spec_SegsOf.f t701 t704).bind fun t723 => (if t722 = t723 then (if x11_1 = true then (some false) else ((impl_SegFirst.f 1).bind fun t724 => (some (t724 == 16)))) else (some false)))) else (some false))) = some r := H
        have A44 := Aside0.mk A440
        clear A440
        replace H := Option.bind_eq_some_iff.mp H
        obtain ⟨t721, A450, H⟩ := H
        replace H : (if t720.toList = t721.toList then ((impl_SegsOf.f t701 t704).bind fun t722 => ((spec_SegsOf.f t701 t704).bind fun t723 => (if t722 = t723 then (if x11_1 = true then (some false) else ((impl_SegFirst.f 1).bind fun t724 => (some (t724 == 16)))) else (some false)))) else (some false)) = some r := H
        have A45 := Aside0.mk A450
        clear A450
        by_cases c46 : t720.toList = t721.toList
        ·rw [if_pos c46] at H
         have c46b0 : (t720.toList == t721.toList) = true := beq_iff_eq.mpr c46
         have c46b1 : (t720.toList != t721.toList) = false := bne_eq_false_iff_eq.mpr c46
         clear c46
         replace H := Option.bind_eq_some_iff.mp H
         obtain ⟨t722, A470, H⟩ := H
         replace H : ((spec_SegsOf.f t701 t704).bind fun t723 => (if t722 = t723 then (if x11_1 = true then (some false) else ((impl_SegFirst.f 1).bind fun t724 => (some (t724 == 16)))) else (some false))) = some r := H
         have A47 := Aside0.mk A470
         clear A470
         replace H := Option.bind_eq_some_iff.mp H
         obtain ⟨t723, A480, H⟩ := H
         replace H : (if t722 = t723 then (if x11_1 = true then (some false) else ((impl_SegFirst.f 1).bind fun t724 => (some (t724 == 16)))) else (some false)) = some r := H
         have A48 := Aside0.mk A480
         clear A480
         by_cases c49 : t722 = t723
         ·rw [if_pos c49] at H
          have c49b0 : (t722 == t723) = true := beq_iff_eq.mpr c49
          have c49b1 : (t722 != t723) = false := bne_eq_false_iff_eq.mpr c49
          clear c49
          by_cases c50 : x11_1 = true
          ·subst c50
           have H1 : (some false) = some r := by rw [if_pos rfl] at H; exact H
           clear H
           have H := H1
           clear H1
           obtain rfl := Option.some.inj H
           try go_wp2
           replace HO_5 := ak (Kd.Q_drew HO_5.out)
           replace HO_7 := ak (Kd.R_drew HO_7.out)
           replace HO_693000 := ak (Kd.R_drew HO_693000.out)
           replace HO_693001 := ak (Kd.R_drew HO_693001.out)
           replace HO_708000 := ak (Kd.R_drew HO_708000.out)
           replace HO_708001 := ak (Kd.R_drew HO_708001.out)
           replace HO_715000 := ak (Kd.R_drew HO_715000.out)
           replace HO_715001 := ak (Kd.R_drew HO_715001.out)
           replace BK692 := ak (blk_drew BK692.out)
           replace BK707 := ak (blk_drew BK707.out)
           replace BK714 := ak (blk_drew BK714.out)
           replace HB := ak (below_drew1 HB.out)
           obtain ⟨Ao52, co52, eo52, _⟩ := Kd.Q_slice HO_5.out
           (first | subst eo52 | (injection eo52 with f1_ f2_ f3_; have f4_ := f1_.symm; have f5_ := f3_.symm; clear f1_ f2_ f3_; subst f4_; subst f5_))
           obtain ⟨Ao53, co53, eo53⟩ := Kd.R_slice HO_7.out
           (first | subst eo53 | (injection eo53 with f1_ f2_ f3_; have f4_ := f1_.symm; have f5_ := f3_.symm; clear f1_ f2_ f3_; subst f4_; subst f5_))
           refine start_ (n := 42) (S := fun w' => w'.cell? ⟨gb692, 0, none⟩ = some (.slice Ao11 t685.length co11) ∧ w'.cell? ⟨gb692, 1, none⟩ = some (.slice Ao13 t688.length co13) ∧ w'.cell? ⟨gb707, 0, none⟩ = some (.slice Ao19 t701.length co19) ∧ w'.cell? ⟨gb707, 1, none⟩ = some (.slice Ao22 t704.length co22)) (ds := []) #[f_,f_,f_,f_,f_,f_,f_,f_,f_,f_,f_,f_,f_,f_,f_,f_,f_,f_,f_,f_,f_,f_,f_,f_,f_,f_,f_,f_,f_,f_,f_,f_,f_,f_,f_,f_,f_,f_,f_,f_,f_,f_] (by kernel_rfl) rfl rfl ⟨bc BK692 0, bc BK692 1, bc BK707 0, bc BK707 1⟩ (fun hHeld => ?_); refine with_tabW laws_FnSegmentsTold.tab13 laws_FnSegmentsTold.bits13 (fun HT_ HW_ => ?_)
           generalize wr.drew = w51 at HO_5 HO_7 HO_693000 HO_693001 HO_708000 HO_708001 HO_715000 HO_715001 BK692 BK707 BK714 HB hHeld ⊢
           refine pu 0 50 (fb 42 1) HT_ ?_
           refine pu 1 51 (fb 42 3) HT_ ?_
           refine on 2 (some 52) (fb 42 7) HT_ (fun K hK => ?_)
           refine goes_ Try.func43 (by kernel_rfl) rfl #[.slice Ao52 t693.length co52, .slice Ao53 t697.length co53] (by rfl) rfl rfl (by (try simp only [List.map_toArray, List.map_cons, List.map_nil]); first | done | rfl | (simp only [List.length_drop, List.length_take]; rfl)) ?_
           with_reducible refine (laws_sameFrames.calls k1 _ _ t693 _ _ t697 true _ ?side1 ?side2 ?side3 ?side4 A38.out).mono ?_
           (case side1 => repeat (first | exact (Kd.Q_reads' HO_5.out).2.2 | (with_reducible refine Kd.C_alloc ?_ _) | (with_reducible refine Kd.C_drewN ?_ _) | (with_reducible refine Kd.C_drew ?_)))
           (case side2 => exact (Kd.Q_reads' HO_5.out).2.1)
           (case side3 => exact cG (Kd.R_reads' HO_7.out).2.2)
           (case side4 => exact (Kd.R_reads' HO_7.out).2.1)
           rintro e w' ⟨rfl, ⟨nd, rfl⟩⟩
           refine ⟨_, rfl, ?_⟩
           refine hK.out _ _ ⟨bc BK692 0, bc BK692 1, bc BK707 0, bc BK707 1⟩ (fun hHeld => ?_)
           clear hK K
           refine nm ?_
           refine pu 3 53 (fb 42 15) HT_ ?_
           refine pu 4 54 (fb 42 31) HT_ ?_
           refine pu 5 55 (fb 42 63) HT_ ?_
           refine pu 6 56 (fb 42 127) HT_ ?_
           refine pu 7 57 (fb 42 255) HT_ ?_
           refine pu 8 58 (fb 42 511) HT_ ?_
           refine pu 10 60 (fb 42 1535) HT_ ?_
           refine pu 13 63 (fb 42 9727) HT_ ?_
           refine tk 9 59 (fb 42 10239) HT_ HW_ hHeld ?_
           refine tk 12 62 (fb 42 14335) HT_ HW_ hHeld ?_
           refine on 11 (some 61) (fb 42 16383) HT_ (fun K hK => ?_)
           refine goes_ Try.func41 (by kernel_rfl) rfl #[.agg #[.slice Ao11 t685.length co11, .slice Ao13 t688.length co13], .int .i64 t691] (by rfl) rfl rfl (by (try simp only [List.map_toArray, List.map_cons, List.map_nil]); first | done | rfl | (simp only [List.length_drop, List.length_take]; rfl)) ?_
           with_reducible refine (impl_SegGen.calls k1 _ _ t685 _ _ t688 t691 t718 _ ?side1 ?side2 ?side3 ?side4 A41.out).mono ?_
           (case side1 => exact cG (Kd.R_reads' HO_693000.out).2.2)
           (case side2 => exact (Kd.R_reads' HO_693000.out).2.1)
           (case side3 => exact cG (Kd.R_reads' HO_693001.out).2.2)
           (case side4 => exact (Kd.R_reads' HO_693001.out).2.1)
           rintro e w54 ⟨rfl, hb⟩
           refine ⟨_, rfl, ?_⟩
           replace HO_5 := ak (Kd.Q_below (by (with_reducible repeat (first | apply Kd.Q_alloc | apply Kd.Q_drewN | apply Kd.Q_drew)); exact HO_5.out) hb)
           replace HO_7 := rB HO_7 hb
           replace HO_693000 := rB HO_693000 hb
           replace HO_693001 := rB HO_693001 hb
           replace HO_708000 := rB HO_708000 hb
           replace HO_708001 := rB HO_708001 hb
           replace HO_715000 := rB HO_715000 hb
           replace HO_715001 := rB HO_715001 hb
           replace BK692 := bB BK692 hb
           replace BK707 := bB BK707 hb
           replace BK714 := bB BK714 hb
           replace HB := ak (below_step (lT HB (gC GE692 (gC GE707 (gC GE714 gN)))) hb)
           (try clear hb)
           (try clear hb2)
           (try clear hk)
           (try clear hi)
           refine hK.out _ _ ⟨bc BK692 0, bc BK692 1, bc BK707 0, bc BK707 1⟩ (fun hHeld => ?_)
           clear hK K
           refine nm ?_
           refine on 14 (some 64) (fb 42 32767) HT_ (fun K hK => ?_)
           refine goes_ Try.func42 (by kernel_rfl) rfl #[.agg #[.slice Ao11 t685.length co11, .slice Ao13 t688.length co13], .int .i64 t691] (by rfl) rfl rfl (by (try simp only [List.map_toArray, List.map_cons, List.map_nil]); first | done | rfl | (simp only [List.length_drop, List.length_take]; rfl)) ?_
           with_reducible refine (spec_SegGen.calls k1 _ _ t685 _ _ t688 t691 t719 _ ?side1 ?side2 ?side3 ?side4 A42.out).mono ?_
           (case side1 => exact cG (Kd.R_reads' HO_693000.out).2.2)
           (case side2 => exact (Kd.R_reads' HO_693000.out).2.1)
           (case side3 => exact cG (Kd.R_reads' HO_693001.out).2.2)
           (case side4 => exact (Kd.R_reads' HO_693001.out).2.1)
           rintro e w55 ⟨rfl, hb⟩
           refine ⟨_, rfl, ?_⟩
           replace HO_5 := ak (Kd.Q_below (by (with_reducible repeat (first | apply Kd.Q_alloc | apply Kd.Q_drewN | apply Kd.Q_drew)); exact HO_5.out) hb)
           replace HO_7 := rB HO_7 hb
           replace HO_693000 := rB HO_693000 hb
           replace HO_693001 := rB HO_693001 hb
           replace HO_708000 := rB HO_708000 hb
           replace HO_708001 := rB HO_708001 hb
           replace HO_715000 := rB HO_715000 hb
           replace HO_715001 := rB HO_715001 hb
           replace BK692 := bB BK692 hb
           replace BK707 := bB BK707 hb
           replace BK714 := bB BK714 hb
           replace HB := ak (below_step (lT HB (gC GE692 (gC GE707 (gC GE714 gN)))) hb)
           (try clear hb)
           (try clear hb2)
           (try clear hk)
           (try clear hi)
           refine hK.out _ _ ⟨bc BK692 0, bc BK692 1, bc BK707 0, bc BK707 1⟩ (fun hHeld => ?_)
           clear hK K
           refine nm ?_
           refine pu 15 65 (fb 42 65535) HT_ ?_
           refine pu 16 66 (fb 42 131071) HT_ ?_
           refine pu 17 67 (fb 42 262143) HT_ ?_
           refine pu 19 69 (fb 42 786431) HT_ ?_
           refine pu 22 72 (fb 42 4980735) HT_ ?_
           refine tk 18 68 (fb 42 5242879) HT_ HW_ hHeld ?_
           refine tk 21 71 (fb 42 7340031) HT_ HW_ hHeld ?_
           refine on 20 (some 70) (fb 42 8388607) HT_ (fun K hK => ?_)
           refine goes_ Try.func26 (by kernel_rfl) rfl #[.agg #[.slice Ao11 t685.length co11, .slice Ao13 t688.length co13], .int .i64 t691] (by rfl) rfl rfl (by (try simp only [List.map_toArray, List.map_cons, List.map_nil]); first | done | rfl | (simp only [List.length_drop, List.length_take]; rfl)) ?_
           with_reducible refine (impl_SegText.calls k1 _ _ t685 _ _ t688 t691 t720 _ ?side1 ?side2 ?side3 ?side4 A44.out).mono ?_
           (case side1 => exact cG (Kd.R_reads' HO_693000.out).2.2)
           (case side2 => exact (Kd.R_reads' HO_693000.out).2.1)
           (case side3 => exact cG (Kd.R_reads' HO_693001.out).2.2)
           (case side4 => exact (Kd.R_reads' HO_693001.out).2.1)
           rintro e w56 ⟨rfl, hb⟩
           refine ⟨_, rfl, ?_⟩
           replace HO_5 := ak (Kd.Q_below (by (with_reducible repeat (first | apply Kd.Q_alloc | apply Kd.Q_drewN | apply Kd.Q_drew)); exact HO_5.out) hb)
           replace HO_7 := rB HO_7 hb
           replace HO_693000 := rB HO_693000 hb
           replace HO_693001 := rB HO_693001 hb
           replace HO_708000 := rB HO_708000 hb
           replace HO_708001 := rB HO_708001 hb
           replace HO_715000 := rB HO_715000 hb
           replace HO_715001 := rB HO_715001 hb
           replace BK692 := bB BK692 hb
           replace BK707 := bB BK707 hb
           replace BK714 := bB BK714 hb
           replace HB := ak (below_step (lT HB (gC GE692 (gC GE707 (gC GE714 gN)))) hb)
           (try clear hb)
           (try clear hb2)
           (try clear hk)
           (try clear hi)
           refine hK.out _ _ ⟨bc BK692 0, bc BK692 1, bc BK707 0, bc BK707 1⟩ (fun hHeld => ?_)
           clear hK K
           refine nm ?_
           refine on 23 (some 73) (fb 42 16777215) HT_ (fun K hK => ?_)
           refine goes_ Try.func25 (by kernel_rfl) rfl #[.agg #[.slice Ao11 t685.length co11, .slice Ao13 t688.length co13], .int .i64 t691] (by rfl) rfl rfl (by (try simp only [List.map_toArray, List.map_cons, List.map_nil]); first | done | rfl | (simp only [List.length_drop, List.length_take]; rfl)) ?_
           with_reducible refine (spec_SegText.calls k1 _ _ t685 _ _ t688 t691 t721 _ ?side1 ?side2 ?side3 ?side4 A45.out).mono ?_
           (case side1 => exact cG (Kd.R_reads' HO_693000.out).2.2)
           (case side2 => exact (Kd.R_reads' HO_693000.out).2.1)
           (case side3 => exact cG (Kd.R_reads' HO_693001.out).2.2)
           (case side4 => exact (Kd.R_reads' HO_693001.out).2.1)
           rintro e w57 ⟨rfl, hb⟩
           refine ⟨_, rfl, ?_⟩
           replace HO_5 := ak (Kd.Q_below (by (with_reducible repeat (first | apply Kd.Q_alloc | apply Kd.Q_drewN | apply Kd.Q_drew)); exact HO_5.out) hb)
           replace HO_7 := rB HO_7 hb
           replace HO_693000 := rB HO_693000 hb
           replace HO_693001 := rB HO_693001 hb
           replace HO_708000 := rB HO_708000 hb
           replace HO_708001 := rB HO_708001 hb
           replace HO_715000 := rB HO_715000 hb
           replace HO_715001 := rB HO_715001 hb
           replace BK692 := bB BK692 hb
           replace BK707 := bB BK707 hb
           replace BK714 := bB BK714 hb
           replace HB := ak (below_step (lT HB (gC GE692 (gC GE707 (gC GE714 gN)))) hb)
           (try clear hb)
           (try clear hb2)
           (try clear hk)
           (try clear hi)
           refine hK.out _ _ ⟨bc BK692 0, bc BK692 1, bc BK707 0, bc BK707 1⟩ (fun hHeld => ?_)
           clear hK K
           refine nm ?_
           refine pu 24 74 (fb 42 33554431) HT_ ?_
           refine pu 25 75 (fb 42 67108863) HT_ ?_
           refine pu 26 76 (fb 42 134217727) HT_ ?_
           refine tk 27 77 (fb 42 268435455) HT_ HW_ hHeld ?_
           refine tk 29 79 (fb 42 805306367) HT_ HW_ hHeld ?_
           refine on 28 (some 78) (fb 42 1073741823) HT_ (fun K hK => ?_)
           refine goes_ Try.func23 (by kernel_rfl) rfl #[.agg #[.slice Ao19 t701.length co19, .slice Ao22 t704.length co22]] (by rfl) rfl rfl (by (try simp only [List.map_toArray, List.map_cons, List.map_nil]); first | done | rfl | (simp only [List.length_drop, List.length_take]; rfl)) ?_
           with_reducible refine (impl_SegsOf.calls _ _ t701 _ _ t704 t722 _ ?side1 ?side2 ?side3 ?side4 A47.out).mono ?_
           (case side1 => exact cG (Kd.R_reads' HO_708000.out).2.2)
           (case side2 => exact (Kd.R_reads' HO_708000.out).2.1)
           (case side3 => exact cG (Kd.R_reads' HO_708001.out).2.2)
           (case side4 => exact (Kd.R_reads' HO_708001.out).2.1)
           rintro e w58 ⟨rfl, hb⟩
           refine ⟨_, rfl, ?_⟩
           replace HO_5 := ak (Kd.Q_below (by (with_reducible repeat (first | apply Kd.Q_alloc | apply Kd.Q_drewN | apply Kd.Q_drew)); exact HO_5.out) hb)
           replace HO_7 := rB HO_7 hb
           replace HO_693000 := rB HO_693000 hb
           replace HO_693001 := rB HO_693001 hb
           replace HO_708000 := rB HO_708000 hb
           replace HO_708001 := rB HO_708001 hb
           replace HO_715000 := rB HO_715000 hb
           replace HO_715001 := rB HO_715001 hb
           replace BK692 := bB BK692 hb
           replace BK707 := bB BK707 hb
           replace BK714 := bB BK714 hb
           replace HB := ak (below_step (lT HB (gC GE692 (gC GE707 (gC GE714 gN)))) hb)
           (try clear hb)
           (try clear hb2)
           (try clear hk)
           (try clear hi)
           refine hK.out _ _ ⟨bc BK692 0, bc BK692 1, bc BK707 0, bc BK707 1⟩ (fun hHeld => ?_)
           clear hK K
           refine nm ?_
           refine on 30 (some 80) (fb 42 2147483647) HT_ (fun K hK => ?_)
           refine goes_ Try.func27 (by kernel_rfl) rfl #[.agg #[.slice Ao19 t701.length co19, .slice Ao22 t704.length co22]] (by rfl) rfl rfl (by (try simp only [List.map_toArray, List.map_cons, List.map_nil]); first | done | rfl | (simp only [List.length_drop, List.length_take]; rfl)) ?_
           with_reducible refine (spec_SegsOf.calls _ _ t701 _ _ t704 t723 _ ?side1 ?side2 ?side3 ?side4 A48.out).mono ?_
           (case side1 => exact cG (Kd.R_reads' HO_708000.out).2.2)
           (case side2 => exact (Kd.R_reads' HO_708000.out).2.1)
           (case side3 => exact cG (Kd.R_reads' HO_708001.out).2.2)
           (case side4 => exact (Kd.R_reads' HO_708001.out).2.1)
           rintro e w59 ⟨rfl, hb⟩
           refine ⟨_, rfl, ?_⟩
           replace HO_5 := ak (Kd.Q_below (by (with_reducible repeat (first | apply Kd.Q_alloc | apply Kd.Q_drewN | apply Kd.Q_drew)); exact HO_5.out) hb)
           replace HO_7 := rB HO_7 hb
           replace HO_693000 := rB HO_693000 hb
           replace HO_693001 := rB HO_693001 hb
           replace HO_708000 := rB HO_708000 hb
           replace HO_708001 := rB HO_708001 hb
           replace HO_715000 := rB HO_715000 hb
           replace HO_715001 := rB HO_715001 hb
           replace BK692 := bB BK692 hb
           replace BK707 := bB BK707 hb
           replace BK714 := bB BK714 hb
           replace HB := ak (below_step (lT HB (gC GE692 (gC GE707 (gC GE714 gN)))) hb)
           (try clear hb)
           (try clear hb2)
           (try clear hk)
           (try clear hi)
           refine hK.out _ _ ⟨bc BK692 0, bc BK692 1, bc BK707 0, bc BK707 1⟩ (fun hHeld => ?_)
           clear hK K
           refine nm ?_
           refine pu 31 81 (fb 42 4294967295) HT_ ?_
           refine pu 32 82 (fb 42 8589934591) HT_ ?_
           refine pu 33 83 (fb 42 17179869183) HT_ ?_
           refine pu 34 84 (fb 42 34359738367) HT_ ?_
           refine pu 35 85 (fb 42 68719476735) HT_ ?_
           refine pu 36 86 (fb 42 137438953471) HT_ ?_
           refine pu 37 87 (fb 42 274877906943) HT_ ?_
           refine pn 38 88 (fb 42 549755813887) HT_ ?_
           refine pn 39 89 (fb 42 1099511627775) HT_ ?_
           refine pu 40 90 (fb 42 2199023255551) HT_ ?_
           refine pu 41 2 (fb 42 4398046511103) HT_ ?_
           refine done_ (done_of HT_.out (by kernel_rfl)) ?_
           try go_wp2
           go_ret
           exact ⟨ew, by exact lT HB (gC GE692 (gC GE707 (gC GE714 gN)))⟩
          ·replace c50 := Bool.eq_false_iff.mpr c50
           subst c50
           have H1 : ((impl_SegFirst.f 1).bind fun t724 => (some (t724 == 16))) = some r := by rw [if_neg (show ¬ (false = true) by decide)] at H; exact H
           clear H
           have H := H1
           clear H1
           replace H := Option.bind_eq_some_iff.mp H
           obtain ⟨t724, A600, H⟩ := H
           replace H : (some (t724 == 16)) = some r := H
           have A60 := Aside0.mk A600
           clear A600
           obtain rfl := Option.some.inj H
           try go_wp2
           replace HO_5 := ak (Kd.Q_drew HO_5.out)
           replace HO_7 := ak (Kd.R_drew HO_7.out)
           replace HO_693000 := ak (Kd.R_drew HO_693000.out)
           replace HO_693001 := ak (Kd.R_drew HO_693001.out)
           replace HO_708000 := ak (Kd.R_drew HO_708000.out)
           replace HO_708001 := ak (Kd.R_drew HO_708001.out)
           replace HO_715000 := ak (Kd.R_drew HO_715000.out)
           replace HO_715001 := ak (Kd.R_drew HO_715001.out)
           replace BK692 := ak (blk_drew BK692.out)
           replace BK707 := ak (blk_drew BK707.out)
           replace BK714 := ak (blk_drew BK714.out)
           replace HB := ak (below_drew1 HB.out)
           obtain ⟨Ao62, co62, eo62, _⟩ := Kd.Q_slice HO_5.out
           (first | subst eo62 | (injection eo62 with f1_ f2_ f3_; have f4_ := f1_.symm; have f5_ := f3_.symm; clear f1_ f2_ f3_; subst f4_; subst f5_))
           obtain ⟨Ao63, co63, eo63⟩ := Kd.R_slice HO_7.out
           (first | subst eo63 | (injection eo63 with f1_ f2_ f3_; have f4_ := f1_.symm; have f5_ := f3_.symm; clear f1_ f2_ f3_; subst f4_; subst f5_))
           refine start_ (n := 42) (S := fun w' => w'.cell? ⟨gb692, 0, none⟩ = some (.slice Ao11 t685.length co11) ∧ w'.cell? ⟨gb692, 1, none⟩ = some (.slice Ao13 t688.length co13) ∧ w'.cell? ⟨gb707, 0, none⟩ = some (.slice Ao19 t701.length co19) ∧ w'.cell? ⟨gb707, 1, none⟩ = some (.slice Ao22 t704.length co22)) (ds := []) #[f_,f_,f_,f_,f_,f_,f_,f_,f_,f_,f_,f_,f_,f_,f_,f_,f_,f_,f_,f_,f_,f_,f_,f_,f_,f_,f_,f_,f_,f_,f_,f_,f_,f_,f_,f_,f_,f_,f_,f_,f_,f_] (by kernel_rfl) rfl rfl ⟨bc BK692 0, bc BK692 1, bc BK707 0, bc BK707 1⟩ (fun hHeld => ?_); refine with_tabW laws_FnSegmentsTold.tab13 laws_FnSegmentsTold.bits13 (fun HT_ HW_ => ?_)
           generalize wr.drew = w61 at HO_5 HO_7 HO_693000 HO_693001 HO_708000 HO_708001 HO_715000 HO_715001 BK692 BK707 BK714 HB hHeld ⊢
           refine pu 0 50 (fb 42 1) HT_ ?_
           refine pu 1 51 (fb 42 3) HT_ ?_
           refine on 2 (some 52) (fb 42 7) HT_ (fun K hK => ?_)
           refine goes_ Try.func43 (by kernel_rfl) rfl #[.slice Ao62 t693.length co62, .slice Ao63 t697.length co63] (by rfl) rfl rfl (by (try simp only [List.map_toArray, List.map_cons, List.map_nil]); first | done | rfl | (simp only [List.length_drop, List.length_take]; rfl)) ?_
           with_reducible refine (laws_sameFrames.calls k1 _ _ t693 _ _ t697 true _ ?side1 ?side2 ?side3 ?side4 A38.out).mono ?_
           (case side1 => repeat (first | exact (Kd.Q_reads' HO_5.out).2.2 | (with_reducible refine Kd.C_alloc ?_ _) | (with_reducible refine Kd.C_drewN ?_ _) | (with_reducible refine Kd.C_drew ?_)))
           (case side2 => exact (Kd.Q_reads' HO_5.out).2.1)
           (case side3 => exact cG (Kd.R_reads' HO_7.out).2.2)
           (case side4 => exact (Kd.R_reads' HO_7.out).2.1)
           rintro e w' ⟨rfl, ⟨nd, rfl⟩⟩
           refine ⟨_, rfl, ?_⟩
           refine hK.out _ _ ⟨bc BK692 0, bc BK692 1, bc BK707 0, bc BK707 1⟩ (fun hHeld => ?_)
           clear hK K
           refine nm ?_
           refine pu 3 53 (fb 42 15) HT_ ?_
           refine pu 4 54 (fb 42 31) HT_ ?_
           refine pu 5 55 (fb 42 63) HT_ ?_
           refine pu 6 56 (fb 42 127) HT_ ?_
           refine pu 7 57 (fb 42 255) HT_ ?_
           refine pu 8 58 (fb 42 511) HT_ ?_
           refine pu 10 60 (fb 42 1535) HT_ ?_
           refine pu 13 63 (fb 42 9727) HT_ ?_
           refine tk 9 59 (fb 42 10239) HT_ HW_ hHeld ?_
           refine tk 12 62 (fb 42 14335) HT_ HW_ hHeld ?_
           refine on 11 (some 61) (fb 42 16383) HT_ (fun K hK => ?_)
           refine goes_ Try.func41 (by kernel_rfl) rfl #[.agg #[.slice Ao11 t685.length co11, .slice Ao13 t688.length co13], .int .i64 t691] (by rfl) rfl rfl (by (try simp only [List.map_toArray, List.map_cons, List.map_nil]); first | done | rfl | (simp only [List.length_drop, List.length_take]; rfl)) ?_
           with_reducible refine (impl_SegGen.calls k1 _ _ t685 _ _ t688 t691 t718 _ ?side1 ?side2 ?side3 ?side4 A41.out).mono ?_
           (case side1 => exact cG (Kd.R_reads' HO_693000.out).2.2)
           (case side2 => exact (Kd.R_reads' HO_693000.out).2.1)
           (case side3 => exact cG (Kd.R_reads' HO_693001.out).2.2)
           (case side4 => exact (Kd.R_reads' HO_693001.out).2.1)
           rintro e w64 ⟨rfl, hb⟩
           refine ⟨_, rfl, ?_⟩
           replace HO_5 := ak (Kd.Q_below (by (with_reducible repeat (first | apply Kd.Q_alloc | apply Kd.Q_drewN | apply Kd.Q_drew)); exact HO_5.out) hb)
           replace HO_7 := rB HO_7 hb
           replace HO_693000 := rB HO_693000 hb
           replace HO_693001 := rB HO_693001 hb
           replace HO_708000 := rB HO_708000 hb
           replace HO_708001 := rB HO_708001 hb
           replace HO_715000 := rB HO_715000 hb
           replace HO_715001 := rB HO_715001 hb
           replace BK692 := bB BK692 hb
           replace BK707 := bB BK707 hb
           replace BK714 := bB BK714 hb
           replace HB := ak (below_step (lT HB (gC GE692 (gC GE707 (gC GE714 gN)))) hb)
           (try clear hb)
           (try clear hb2)
           (try clear hk)
           (try clear hi)
           refine hK.out _ _ ⟨bc BK692 0, bc BK692 1, bc BK707 0, bc BK707 1⟩ (fun hHeld => ?_)
           clear hK K
           refine nm ?_
           refine on 14 (some 64) (fb 42 32767) HT_ (fun K hK => ?_)
           refine goes_ Try.func42 (by kernel_rfl) rfl #[.agg #[.slice Ao11 t685.length co11, .slice Ao13 t688.length co13], .int .i64 t691] (by rfl) rfl rfl (by (try simp only [List.map_toArray, List.map_cons, List.map_nil]); first | done | rfl | (simp only [List.length_drop, List.length_take]; rfl)) ?_
           with_reducible refine (spec_SegGen.calls k1 _ _ t685 _ _ t688 t691 t719 _ ?side1 ?side2 ?side3 ?side4 A42.out).mono ?_
           (case side1 => exact cG (Kd.R_reads' HO_693000.out).2.2)
           (case side2 => exact (Kd.R_reads' HO_693000.out).2.1)
           (case side3 => exact cG (Kd.R_reads' HO_693001.out).2.2)
           (case side4 => exact (Kd.R_reads' HO_693001.out).2.1)
           rintro e w65 ⟨rfl, hb⟩
           refine ⟨_, rfl, ?_⟩
           replace HO_5 := ak (Kd.Q_below (by (with_reducible repeat (first | apply Kd.Q_alloc | apply Kd.Q_drewN | apply Kd.Q_drew)); exact HO_5.out) hb)
           replace HO_7 := rB HO_7 hb
           replace HO_693000 := rB HO_693000 hb
           replace HO_693001 := rB HO_693001 hb
           replace HO_708000 := rB HO_708000 hb
           replace HO_708001 := rB HO_708001 hb
           replace HO_715000 := rB HO_715000 hb
           replace HO_715001 := rB HO_715001 hb
           replace BK692 := bB BK692 hb
           replace BK707 := bB BK707 hb
           replace BK714 := bB BK714 hb
           replace HB := ak (below_step (lT HB (gC GE692 (gC GE707 (gC GE714 gN)))) hb)
           (try clear hb)
           (try clear hb2)
           (try clear hk)
           (try clear hi)
           refine hK.out _ _ ⟨bc BK692 0, bc BK692 1, bc BK707 0, bc BK707 1⟩ (fun hHeld => ?_)
           clear hK K
           refine nm ?_
           refine pu 15 65 (fb 42 65535) HT_ ?_
           refine pu 16 66 (fb 42 131071) HT_ ?_
           refine pu 17 67 (fb 42 262143) HT_ ?_
           refine pu 19 69 (fb 42 786431) HT_ ?_
           refine pu 22 72 (fb 42 4980735) HT_ ?_
           refine tk 18 68 (fb 42 5242879) HT_ HW_ hHeld ?_
           refine tk 21 71 (fb 42 7340031) HT_ HW_ hHeld ?_
           refine on 20 (some 70) (fb 42 8388607) HT_ (fun K hK => ?_)
           refine goes_ Try.func26 (by kernel_rfl) rfl #[.agg #[.slice Ao11 t685.length co11, .slice Ao13 t688.length co13], .int .i64 t691] (by rfl) rfl rfl (by (try simp only [List.map_toArray, List.map_cons, List.map_nil]); first | done | rfl | (simp only [List.length_drop, List.length_take]; rfl)) ?_
           with_reducible refine (impl_SegText.calls k1 _ _ t685 _ _ t688 t691 t720 _ ?side1 ?side2 ?side3 ?side4 A44.out).mono ?_
           (case side1 => exact cG (Kd.R_reads' HO_693000.out).2.2)
           (case side2 => exact (Kd.R_reads' HO_693000.out).2.1)
           (case side3 => exact cG (Kd.R_reads' HO_693001.out).2.2)
           (case side4 => exact (Kd.R_reads' HO_693001.out).2.1)
           rintro e w66 ⟨rfl, hb⟩
           refine ⟨_, rfl, ?_⟩
           replace HO_5 := ak (Kd.Q_below (by (with_reducible repeat (first | apply Kd.Q_alloc | apply Kd.Q_drewN | apply Kd.Q_drew)); exact HO_5.out) hb)
           replace HO_7 := rB HO_7 hb
           replace HO_693000 := rB HO_693000 hb
           replace HO_693001 := rB HO_693001 hb
           replace HO_708000 := rB HO_708000 hb
           replace HO_708001 := rB HO_708001 hb
           replace HO_715000 := rB HO_715000 hb
           replace HO_715001 := rB HO_715001 hb
           replace BK692 := bB BK692 hb
           replace BK707 := bB BK707 hb
           replace BK714 := bB BK714 hb
           replace HB := ak (below_step (lT HB (gC GE692 (gC GE707 (gC GE714 gN)))) hb)
           (try clear hb)
           (try clear hb2)
           (try clear hk)
           (try clear hi)
           refine hK.out _ _ ⟨bc BK692 0, bc BK692 1, bc BK707 0, bc BK707 1⟩ (fun hHeld => ?_)
           clear hK K
           refine nm ?_
           refine on 23 (some 73) (fb 42 16777215) HT_ (fun K hK => ?_)
           refine goes_ Try.func25 (by kernel_rfl) rfl #[.agg #[.slice Ao11 t685.length co11, .slice Ao13 t688.length co13], .int .i64 t691] (by rfl) rfl rfl (by (try simp only [List.map_toArray, List.map_cons, List.map_nil]); first | done | rfl | (simp only [List.length_drop, List.length_take]; rfl)) ?_
           with_reducible refine (spec_SegText.calls k1 _ _ t685 _ _ t688 t691 t721 _ ?side1 ?side2 ?side3 ?side4 A45.out).mono ?_
           (case side1 => exact cG (Kd.R_reads' HO_693000.out).2.2)
           (case side2 => exact (Kd.R_reads' HO_693000.out).2.1)
           (case side3 => exact cG (Kd.R_reads' HO_693001.out).2.2)
           (case side4 => exact (Kd.R_reads' HO_693001.out).2.1)
           rintro e w67 ⟨rfl, hb⟩
           refine ⟨_, rfl, ?_⟩
           replace HO_5 := ak (Kd.Q_below (by (with_reducible repeat (first | apply Kd.Q_alloc | apply Kd.Q_drewN | apply Kd.Q_drew)); exact HO_5.out) hb)
           replace HO_7 := rB HO_7 hb
           replace HO_693000 := rB HO_693000 hb
           replace HO_693001 := rB HO_693001 hb
           replace HO_708000 := rB HO_708000 hb
           replace HO_708001 := rB HO_708001 hb
           replace HO_715000 := rB HO_715000 hb
           replace HO_715001 := rB HO_715001 hb
           replace BK692 := bB BK692 hb
           replace BK707 := bB BK707 hb
           replace BK714 := bB BK714 hb
           replace HB := ak (below_step (lT HB (gC GE692 (gC GE707 (gC GE714 gN)))) hb)
           (try clear hb)
           (try clear hb2)
           (try clear hk)
           (try clear hi)
           refine hK.out _ _ ⟨bc BK692 0, bc BK692 1, bc BK707 0, bc BK707 1⟩ (fun hHeld => ?_)
           clear hK K
           refine nm ?_
           refine pu 24 74 (fb 42 33554431) HT_ ?_
           refine pu 25 75 (fb 42 67108863) HT_ ?_
           refine pu 26 76 (fb 42 134217727) HT_ ?_
           refine tk 27 77 (fb 42 268435455) HT_ HW_ hHeld ?_
           refine tk 29 79 (fb 42 805306367) HT_ HW_ hHeld ?_
           refine on 28 (some 78) (fb 42 1073741823) HT_ (fun K hK => ?_)
           refine goes_ Try.func23 (by kernel_rfl) rfl #[.agg #[.slice Ao19 t701.length co19, .slice Ao22 t704.length co22]] (by rfl) rfl rfl (by (try simp only [List.map_toArray, List.map_cons, List.map_nil]); first | done | rfl | (simp only [List.length_drop, List.length_take]; rfl)) ?_
           with_reducible refine (impl_SegsOf.calls _ _ t701 _ _ t704 t722 _ ?side1 ?side2 ?side3 ?side4 A47.out).mono ?_
           (case side1 => exact cG (Kd.R_reads' HO_708000.out).2.2)
           (case side2 => exact (Kd.R_reads' HO_708000.out).2.1)
           (case side3 => exact cG (Kd.R_reads' HO_708001.out).2.2)
           (case side4 => exact (Kd.R_reads' HO_708001.out).2.1)
           rintro e w68 ⟨rfl, hb⟩
           refine ⟨_, rfl, ?_⟩
           replace HO_5 := ak (Kd.Q_below (by (with_reducible repeat (first | apply Kd.Q_alloc | apply Kd.Q_drewN | apply Kd.Q_drew)); exact HO_5.out) hb)
           replace HO_7 := rB HO_7 hb
           replace HO_693000 := rB HO_693000 hb
           replace HO_693001 := rB HO_693001 hb
           replace HO_708000 := rB HO_708000 hb
           replace HO_708001 := rB HO_708001 hb
           replace HO_715000 := rB HO_715000 hb
           replace HO_715001 := rB HO_715001 hb
           replace BK692 := bB BK692 hb
           replace BK707 := bB BK707 hb
           replace BK714 := bB BK714 hb
           replace HB := ak (below_step (lT HB (gC GE692 (gC GE707 (gC GE714 gN)))) hb)
           (try clear hb)
           (try clear hb2)
           (try clear hk)
           (try clear hi)
           refine hK.out _ _ ⟨bc BK692 0, bc BK692 1, bc BK707 0, bc BK707 1⟩ (fun hHeld => ?_)
           clear hK K
           refine nm ?_
           refine on 30 (some 80) (fb 42 2147483647) HT_ (fun K hK => ?_)
           refine goes_ Try.func27 (by kernel_rfl) rfl #[.agg #[.slice Ao19 t701.length co19, .slice Ao22 t704.length co22]] (by rfl) rfl rfl (by (try simp only [List.map_toArray, List.map_cons, List.map_nil]); first | done | rfl | (simp only [List.length_drop, List.length_take]; rfl)) ?_
           with_reducible refine (spec_SegsOf.calls _ _ t701 _ _ t704 t723 _ ?side1 ?side2 ?side3 ?side4 A48.out).mono ?_
           (case side1 => exact cG (Kd.R_reads' HO_708000.out).2.2)
           (case side2 => exact (Kd.R_reads' HO_708000.out).2.1)
           (case side3 => exact cG (Kd.R_reads' HO_708001.out).2.2)
           (case side4 => exact (Kd.R_reads' HO_708001.out).2.1)
           rintro e w69 ⟨rfl, hb⟩
           refine ⟨_, rfl, ?_⟩
           replace HO_5 := ak (Kd.Q_below (by (with_reducible repeat (first | apply Kd.Q_alloc | apply Kd.Q_drewN | apply Kd.Q_drew)); exact HO_5.out) hb)
           replace HO_7 := rB HO_7 hb
           replace HO_693000 := rB HO_693000 hb
           replace HO_693001 := rB HO_693001 hb
           replace HO_708000 := rB HO_708000 hb
           replace HO_708001 := rB HO_708001 hb
           replace HO_715000 := rB HO_715000 hb
           replace HO_715001 := rB HO_715001 hb
           replace BK692 := bB BK692 hb
           replace BK707 := bB BK707 hb
           replace BK714 := bB BK714 hb
           replace HB := ak (below_step (lT HB (gC GE692 (gC GE707 (gC GE714 gN)))) hb)
           (try clear hb)
           (try clear hb2)
           (try clear hk)
           (try clear hi)
           refine hK.out _ _ ⟨bc BK692 0, bc BK692 1, bc BK707 0, bc BK707 1⟩ (fun hHeld => ?_)
           clear hK K
           refine nm ?_
           refine pu 31 81 (fb 42 4294967295) HT_ ?_
           refine pu 32 82 (fb 42 8589934591) HT_ ?_
           refine pu 33 83 (fb 42 17179869183) HT_ ?_
           refine pu 34 84 (fb 42 34359738367) HT_ ?_
           refine pu 35 85 (fb 42 68719476735) HT_ ?_
           refine pu 36 86 (fb 42 137438953471) HT_ ?_
           refine pu 37 87 (fb 42 274877906943) HT_ ?_
           refine on 38 (some 88) (fb 42 549755813887) HT_ (fun K hK => ?_)
           refine goes_ Try.func28 (by kernel_rfl) rfl #[.int .i64 1] (by rfl) rfl rfl (by (try simp only [List.map_toArray, List.map_cons, List.map_nil]); first | done | rfl | (simp only [List.length_drop, List.length_take]; rfl)) ?_
           with_reducible refine (impl_SegFirst.calls 1 t724 _ A60.out).mono ?_
           rintro e w' ⟨rfl, ⟨nd, rfl⟩⟩
           refine ⟨_, rfl, ?_⟩
           refine hK.out _ _ ⟨bc BK692 0, bc BK692 1, bc BK707 0, bc BK707 1⟩ (fun hHeld => ?_)
           clear hK K
           refine nm ?_
           refine pu 39 89 (fb 42 1099511627775) HT_ ?_
           refine pu 40 90 (fb 42 2199023255551) HT_ ?_
           refine pu 41 2 (fb 42 4398046511103) HT_ ?_
           refine done_ (done_of HT_.out (by kernel_rfl)) ?_
           try go_wp2
           go_ret
           exact ⟨ew, by exact lT HB (gC GE692 (gC GE707 (gC GE714 gN)))⟩
         ·rw [if_neg c49] at H
          have c49b0 : (t722 == t723) = false := beq_eq_false_iff_ne.mpr c49
          have c49b1 : (t722 != t723) = true := bne_iff_ne.mpr c49
          obtain rfl := Option.some.inj H
          try go_wp2
          replace HO_5 := ak (Kd.Q_drew HO_5.out)
          replace HO_7 := ak (Kd.R_drew HO_7.out)
          replace HO_693000 := ak (Kd.R_drew HO_693000.out)
          replace HO_693001 := ak (Kd.R_drew HO_693001.out)
          replace HO_708000 := ak (Kd.R_drew HO_708000.out)
          replace HO_708001 := ak (Kd.R_drew HO_708001.out)
          replace HO_715000 := ak (Kd.R_drew HO_715000.out)
          replace HO_715001 := ak (Kd.R_drew HO_715001.out)
          replace BK692 := ak (blk_drew BK692.out)
          replace BK707 := ak (blk_drew BK707.out)
          replace BK714 := ak (blk_drew BK714.out)
          replace HB := ak (below_drew1 HB.out)
          obtain ⟨Ao71, co71, eo71, _⟩ := Kd.Q_slice HO_5.out
          (first | subst eo71 | (injection eo71 with f1_ f2_ f3_; have f4_ := f1_.symm; have f5_ := f3_.symm; clear f1_ f2_ f3_; subst f4_; subst f5_))
          obtain ⟨Ao72, co72, eo72⟩ := Kd.R_slice HO_7.out
          (first | subst eo72 | (injection eo72 with f1_ f2_ f3_; have f4_ := f1_.symm; have f5_ := f3_.symm; clear f1_ f2_ f3_; subst f4_; subst f5_))
          refine start_ (n := 42) (S := fun w' => w'.cell? ⟨gb692, 0, none⟩ = some (.slice Ao11 t685.length co11) ∧ w'.cell? ⟨gb692, 1, none⟩ = some (.slice Ao13 t688.length co13) ∧ w'.cell? ⟨gb707, 0, none⟩ = some (.slice Ao19 t701.length co19) ∧ w'.cell? ⟨gb707, 1, none⟩ = some (.slice Ao22 t704.length co22)) (ds := []) #[f_,f_,f_,f_,f_,f_,f_,f_,f_,f_,f_,f_,f_,f_,f_,f_,f_,f_,f_,f_,f_,f_,f_,f_,f_,f_,f_,f_,f_,f_,f_,f_,f_,f_,f_,f_,f_,f_,f_,f_,f_,f_] (by kernel_rfl) rfl rfl ⟨bc BK692 0, bc BK692 1, bc BK707 0, bc BK707 1⟩ (fun hHeld => ?_); refine with_tabW laws_FnSegmentsTold.tab13 laws_FnSegmentsTold.bits13 (fun HT_ HW_ => ?_)
          generalize wr.drew = w70 at HO_5 HO_7 HO_693000 HO_693001 HO_708000 HO_708001 HO_715000 HO_715001 BK692 BK707 BK714 HB hHeld ⊢
          refine pu 0 50 (fb 42 1) HT_ ?_
          refine pu 1 51 (fb 42 3) HT_ ?_
          refine on 2 (some 52) (fb 42 7) HT_ (fun K hK => ?_)
          refine goes_ Try.func43 (by kernel_rfl) rfl #[.slice Ao71 t693.length co71, .slice Ao72 t697.length co72] (by rfl) rfl rfl (by (try simp only [List.map_toArray, List.map_cons, List.map_nil]); first | done | rfl | (simp only [List.length_drop, List.length_take]; rfl)) ?_
          with_reducible refine (laws_sameFrames.calls k1 _ _ t693 _ _ t697 true _ ?side1 ?side2 ?side3 ?side4 A38.out).mono ?_
          (case side1 => repeat (first | exact (Kd.Q_reads' HO_5.out).2.2 | (with_reducible refine Kd.C_alloc ?_ _) | (with_reducible refine Kd.C_drewN ?_ _) | (with_reducible refine Kd.C_drew ?_)))
          (case side2 => exact (Kd.Q_reads' HO_5.out).2.1)
          (case side3 => exact cG (Kd.R_reads' HO_7.out).2.2)
          (case side4 => exact (Kd.R_reads' HO_7.out).2.1)
          rintro e w' ⟨rfl, ⟨nd, rfl⟩⟩
          refine ⟨_, rfl, ?_⟩
          refine hK.out _ _ ⟨bc BK692 0, bc BK692 1, bc BK707 0, bc BK707 1⟩ (fun hHeld => ?_)
          clear hK K
          refine nm ?_
          refine pu 3 53 (fb 42 15) HT_ ?_
          refine pu 4 54 (fb 42 31) HT_ ?_
          refine pu 5 55 (fb 42 63) HT_ ?_
          refine pu 6 56 (fb 42 127) HT_ ?_
          refine pu 7 57 (fb 42 255) HT_ ?_
          refine pu 8 58 (fb 42 511) HT_ ?_
          refine pu 10 60 (fb 42 1535) HT_ ?_
          refine pu 13 63 (fb 42 9727) HT_ ?_
          refine tk 9 59 (fb 42 10239) HT_ HW_ hHeld ?_
          refine tk 12 62 (fb 42 14335) HT_ HW_ hHeld ?_
          refine on 11 (some 61) (fb 42 16383) HT_ (fun K hK => ?_)
          refine goes_ Try.func41 (by kernel_rfl) rfl #[.agg #[.slice Ao11 t685.length co11, .slice Ao13 t688.length co13], .int .i64 t691] (by rfl) rfl rfl (by (try simp only [List.map_toArray, List.map_cons, List.map_nil]); first | done | rfl | (simp only [List.length_drop, List.length_take]; rfl)) ?_
          with_reducible refine (impl_SegGen.calls k1 _ _ t685 _ _ t688 t691 t718 _ ?side1 ?side2 ?side3 ?side4 A41.out).mono ?_
          (case side1 => exact cG (Kd.R_reads' HO_693000.out).2.2)
          (case side2 => exact (Kd.R_reads' HO_693000.out).2.1)
          (case side3 => exact cG (Kd.R_reads' HO_693001.out).2.2)
          (case side4 => exact (Kd.R_reads' HO_693001.out).2.1)
          rintro e w73 ⟨rfl, hb⟩
          refine ⟨_, rfl, ?_⟩
          replace HO_5 := ak (Kd.Q_below (by (with_reducible repeat (first | apply Kd.Q_alloc | apply Kd.Q_drewN | apply Kd.Q_drew)); exact HO_5.out) hb)
          replace HO_7 := rB HO_7 hb
          replace HO_693000 := rB HO_693000 hb
          replace HO_693001 := rB HO_693001 hb
          replace HO_708000 := rB HO_708000 hb
          replace HO_708001 := rB HO_708001 hb
          replace HO_715000 := rB HO_715000 hb
          replace HO_715001 := rB HO_715001 hb
          replace BK692 := bB BK692 hb
          replace BK707 := bB BK707 hb
          replace BK714 := bB BK714 hb
          replace HB := ak (below_step (lT HB (gC GE692 (gC GE707 (gC GE714 gN)))) hb)
          (try clear hb)
          (try clear hb2)
          (try clear hk)
          (try clear hi)
          refine hK.out _ _ ⟨bc BK692 0, bc BK692 1, bc BK707 0, bc BK707 1⟩ (fun hHeld => ?_)
          clear hK K
          refine nm ?_
          refine on 14 (some 64) (fb 42 32767) HT_ (fun K hK => ?_)
          refine goes_ Try.func42 (by kernel_rfl) rfl #[.agg #[.slice Ao11 t685.length co11, .slice Ao13 t688.length co13], .int .i64 t691] (by rfl) rfl rfl (by (try simp only [List.map_toArray, List.map_cons, List.map_nil]); first | done | rfl | (simp only [List.length_drop, List.length_take]; rfl)) ?_
          with_reducible refine (spec_SegGen.calls k1 _ _ t685 _ _ t688 t691 t719 _ ?side1 ?side2 ?side3 ?side4 A42.out).mono ?_
          (case side1 => exact cG (Kd.R_reads' HO_693000.out).2.2)
          (case side2 => exact (Kd.R_reads' HO_693000.out).2.1)
          (case side3 => exact cG (Kd.R_reads' HO_693001.out).2.2)
          (case side4 => exact (Kd.R_reads' HO_693001.out).2.1)
          rintro e w74 ⟨rfl, hb⟩
          refine ⟨_, rfl, ?_⟩
          replace HO_5 := ak (Kd.Q_below (by (with_reducible repeat (first | apply Kd.Q_alloc | apply Kd.Q_drewN | apply Kd.Q_drew)); exact HO_5.out) hb)
          replace HO_7 := rB HO_7 hb
          replace HO_693000 := rB HO_693000 hb
          replace HO_693001 := rB HO_693001 hb
          replace HO_708000 := rB HO_708000 hb
          replace HO_708001 := rB HO_708001 hb
          replace HO_715000 := rB HO_715000 hb
          replace HO_715001 := rB HO_715001 hb
          replace BK692 := bB BK692 hb
          replace BK707 := bB BK707 hb
          replace BK714 := bB BK714 hb
          replace HB := ak (below_step (lT HB (gC GE692 (gC GE707 (gC GE714 gN)))) hb)
          (try clear hb)
          (try clear hb2)
          (try clear hk)
          (try clear hi)
          refine hK.out _ _ ⟨bc BK692 0, bc BK692 1, bc BK707 0, bc BK707 1⟩ (fun hHeld => ?_)
          clear hK K
          refine nm ?_
          refine pu 15 65 (fb 42 65535) HT_ ?_
          refine pu 16 66 (fb 42 131071) HT_ ?_
          refine pu 17 67 (fb 42 262143) HT_ ?_
          refine pu 19 69 (fb 42 786431) HT_ ?_
          refine pu 22 72 (fb 42 4980735) HT_ ?_
          refine tk 18 68 (fb 42 5242879) HT_ HW_ hHeld ?_
          refine tk 21 71 (fb 42 7340031) HT_ HW_ hHeld ?_
          refine on 20 (some 70) (fb 42 8388607) HT_ (fun K hK => ?_)
          refine goes_ Try.func26 (by kernel_rfl) rfl #[.agg #[.slice Ao11 t685.length co11, .slice Ao13 t688.length co13], .int .i64 t691] (by rfl) rfl rfl (by (try simp only [List.map_toArray, List.map_cons, List.map_nil]); first | done | rfl | (simp only [List.length_drop, List.length_take]; rfl)) ?_
          with_reducible refine (impl_SegText.calls k1 _ _ t685 _ _ t688 t691 t720 _ ?side1 ?side2 ?side3 ?side4 A44.out).mono ?_
          (case side1 => exact cG (Kd.R_reads' HO_693000.out).2.2)
          (case side2 => exact (Kd.R_reads' HO_693000.out).2.1)
          (case side3 => exact cG (Kd.R_reads' HO_693001.out).2.2)
          (case side4 => exact (Kd.R_reads' HO_693001.out).2.1)
          rintro e w75 ⟨rfl, hb⟩
          refine ⟨_, rfl, ?_⟩
          replace HO_5 := ak (Kd.Q_below (by (with_reducible repeat (first | apply Kd.Q_alloc | apply Kd.Q_drewN | apply Kd.Q_drew)); exact HO_5.out) hb)
          replace HO_7 := rB HO_7 hb
          replace HO_693000 := rB HO_693000 hb
          replace HO_693001 := rB HO_693001 hb
          replace HO_708000 := rB HO_708000 hb
          replace HO_708001 := rB HO_708001 hb
          replace HO_715000 := rB HO_715000 hb
          replace HO_715001 := rB HO_715001 hb
          replace BK692 := bB BK692 hb
          replace BK707 := bB BK707 hb
          replace BK714 := bB BK714 hb
          replace HB := ak (below_step (lT HB (gC GE692 (gC GE707 (gC GE714 gN)))) hb)
          (try clear hb)
          (try clear hb2)
          (try clear hk)
          (try clear hi)
          refine hK.out _ _ ⟨bc BK692 0, bc BK692 1, bc BK707 0, bc BK707 1⟩ (fun hHeld => ?_)
          clear hK K
          refine nm ?_
          refine on 23 (some 73) (fb 42 16777215) HT_ (fun K hK => ?_)
          refine goes_ Try.func25 (by kernel_rfl) rfl #[.agg #[.slice Ao11 t685.length co11, .slice Ao13 t688.length co13], .int .i64 t691] (by rfl) rfl rfl (by (try simp only [List.map_toArray, List.map_cons, List.map_nil]); first | done | rfl | (simp only [List.length_drop, List.length_take]; rfl)) ?_
          with_reducible refine (spec_SegText.calls k1 _ _ t685 _ _ t688 t691 t721 _ ?side1 ?side2 ?side3 ?side4 A45.out).mono ?_
          (case side1 => exact cG (Kd.R_reads' HO_693000.out).2.2)
          (case side2 => exact (Kd.R_reads' HO_693000.out).2.1)
          (case side3 => exact cG (Kd.R_reads' HO_693001.out).2.2)
          (case side4 => exact (Kd.R_reads' HO_693001.out).2.1)
          rintro e w76 ⟨rfl, hb⟩
          refine ⟨_, rfl, ?_⟩
          replace HO_5 := ak (Kd.Q_below (by (with_reducible repeat (first | apply Kd.Q_alloc | apply Kd.Q_drewN | apply Kd.Q_drew)); exact HO_5.out) hb)
          replace HO_7 := rB HO_7 hb
          replace HO_693000 := rB HO_693000 hb
          replace HO_693001 := rB HO_693001 hb
          replace HO_708000 := rB HO_708000 hb
          replace HO_708001 := rB HO_708001 hb
          replace HO_715000 := rB HO_715000 hb
          replace HO_715001 := rB HO_715001 hb
          replace BK692 := bB BK692 hb
          replace BK707 := bB BK707 hb
          replace BK714 := bB BK714 hb
          replace HB := ak (below_step (lT HB (gC GE692 (gC GE707 (gC GE714 gN)))) hb)
          (try clear hb)
          (try clear hb2)
          (try clear hk)
          (try clear hi)
          refine hK.out _ _ ⟨bc BK692 0, bc BK692 1, bc BK707 0, bc BK707 1⟩ (fun hHeld => ?_)
          clear hK K
          refine nm ?_
          refine pu 24 74 (fb 42 33554431) HT_ ?_
          refine pu 25 75 (fb 42 67108863) HT_ ?_
          refine pu 26 76 (fb 42 134217727) HT_ ?_
          refine tk 27 77 (fb 42 268435455) HT_ HW_ hHeld ?_
          refine tk 29 79 (fb 42 805306367) HT_ HW_ hHeld ?_
          refine on 28 (some 78) (fb 42 1073741823) HT_ (fun K hK => ?_)
          refine goes_ Try.func23 (by kernel_rfl) rfl #[.agg #[.slice Ao19 t701.length co19, .slice Ao22 t704.length co22]] (by rfl) rfl rfl (by (try simp only [List.map_toArray, List.map_cons, List.map_nil]); first | done | rfl | (simp only [List.length_drop, List.length_take]; rfl)) ?_
          with_reducible refine (impl_SegsOf.calls _ _ t701 _ _ t704 t722 _ ?side1 ?side2 ?side3 ?side4 A47.out).mono ?_
          (case side1 => exact cG (Kd.R_reads' HO_708000.out).2.2)
          (case side2 => exact (Kd.R_reads' HO_708000.out).2.1)
          (case side3 => exact cG (Kd.R_reads' HO_708001.out).2.2)
          (case side4 => exact (Kd.R_reads' HO_708001.out).2.1)
          rintro e w77 ⟨rfl, hb⟩
          refine ⟨_, rfl, ?_⟩
          replace HO_5 := ak (Kd.Q_below (by (with_reducible repeat (first | apply Kd.Q_alloc | apply Kd.Q_drewN | apply Kd.Q_drew)); exact HO_5.out) hb)
          replace HO_7 := rB HO_7 hb
          replace HO_693000 := rB HO_693000 hb
          replace HO_693001 := rB HO_693001 hb
          replace HO_708000 := rB HO_708000 hb
          replace HO_708001 := rB HO_708001 hb
          replace HO_715000 := rB HO_715000 hb
          replace HO_715001 := rB HO_715001 hb
          replace BK692 := bB BK692 hb
          replace BK707 := bB BK707 hb
          replace BK714 := bB BK714 hb
          replace HB := ak (below_step (lT HB (gC GE692 (gC GE707 (gC GE714 gN)))) hb)
          (try clear hb)
          (try clear hb2)
          (try clear hk)
          (try clear hi)
          refine hK.out _ _ ⟨bc BK692 0, bc BK692 1, bc BK707 0, bc BK707 1⟩ (fun hHeld => ?_)
          clear hK K
          refine nm ?_
          refine on 30 (some 80) (fb 42 2147483647) HT_ (fun K hK => ?_)
          refine goes_ Try.func27 (by kernel_rfl) rfl #[.agg #[.slice Ao19 t701.length co19, .slice Ao22 t704.length co22]] (by rfl) rfl rfl (by (try simp only [List.map_toArray, List.map_cons, List.map_nil]); first | done | rfl | (simp only [List.length_drop, List.length_take]; rfl)) ?_
          with_reducible refine (spec_SegsOf.calls _ _ t701 _ _ t704 t723 _ ?side1 ?side2 ?side3 ?side4 A48.out).mono ?_
          (case side1 => exact cG (Kd.R_reads' HO_708000.out).2.2)
          (case side2 => exact (Kd.R_reads' HO_708000.out).2.1)
          (case side3 => exact cG (Kd.R_reads' HO_708001.out).2.2)
          (case side4 => exact (Kd.R_reads' HO_708001.out).2.1)
          rintro e w78 ⟨rfl, hb⟩
          refine ⟨_, rfl, ?_⟩
          replace HO_5 := ak (Kd.Q_below (by (with_reducible repeat (first | apply Kd.Q_alloc | apply Kd.Q_drewN | apply Kd.Q_drew)); exact HO_5.out) hb)
          replace HO_7 := rB HO_7 hb
          replace HO_693000 := rB HO_693000 hb
          replace HO_693001 := rB HO_693001 hb
          replace HO_708000 := rB HO_708000 hb
          replace HO_708001 := rB HO_708001 hb
          replace HO_715000 := rB HO_715000 hb
          replace HO_715001 := rB HO_715001 hb
          replace BK692 := bB BK692 hb
          replace BK707 := bB BK707 hb
          replace BK714 := bB BK714 hb
          replace HB := ak (below_step (lT HB (gC GE692 (gC GE707 (gC GE714 gN)))) hb)
          (try clear hb)
          (try clear hb2)
          (try clear hk)
          (try clear hi)
          refine hK.out _ _ ⟨bc BK692 0, bc BK692 1, bc BK707 0, bc BK707 1⟩ (fun hHeld => ?_)
          clear hK K
          refine nm ?_
          refine pu 31 81 (fb 42 4294967295) HT_ ?_
          refine pu 32 82 (fb 42 8589934591) HT_ ?_
          refine pu 33 83 (fb 42 17179869183) HT_ ?_
          refine pn 34 84 (fb 42 34359738367) HT_ ?_
          refine pn 35 85 (fb 42 68719476735) HT_ ?_
          refine pu 36 86 (fb 42 137438953471) HT_ ?_
          refine pu 37 87 (fb 42 274877906943) HT_ ?_
          refine pn 38 88 (fb 42 549755813887) HT_ ?_
          refine pn 39 89 (fb 42 1099511627775) HT_ ?_
          refine pu 40 90 (fb 42 2199023255551) HT_ ?_
          refine pu 41 2 (fb 42 4398046511103) HT_ ?_
          refine done_ (done_of HT_.out (by kernel_rfl)) ?_
          try go_wp2
          go_ret
          exact ⟨ew, by exact lT HB (gC GE692 (gC GE707 (gC GE714 gN)))⟩
        ·rw [if_neg c46] at H
         have c46b0 : (t720.toList == t721.toList) = false := beq_eq_false_iff_ne.mpr c46
         have c46b1 : (t720.toList != t721.toList) = true := bne_iff_ne.mpr c46
         obtain rfl := Option.some.inj H
         try go_wp2
         replace HO_5 := ak (Kd.Q_drew HO_5.out)
         replace HO_7 := ak (Kd.R_drew HO_7.out)
         replace HO_693000 := ak (Kd.R_drew HO_693000.out)
         replace HO_693001 := ak (Kd.R_drew HO_693001.out)
         replace HO_708000 := ak (Kd.R_drew HO_708000.out)
         replace HO_708001 := ak (Kd.R_drew HO_708001.out)
         replace HO_715000 := ak (Kd.R_drew HO_715000.out)
         replace HO_715001 := ak (Kd.R_drew HO_715001.out)
         replace BK692 := ak (blk_drew BK692.out)
         replace BK707 := ak (blk_drew BK707.out)
         replace BK714 := ak (blk_drew BK714.out)
         replace HB := ak (below_drew1 HB.out)
         obtain ⟨Ao80, co80, eo80, _⟩ := Kd.Q_slice HO_5.out
         (first | subst eo80 | (injection eo80 with f1_ f2_ f3_; have f4_ := f1_.symm; have f5_ := f3_.symm; clear f1_ f2_ f3_; subst f4_; subst f5_))
         obtain ⟨Ao81, co81, eo81⟩ := Kd.R_slice HO_7.out
         (first | subst eo81 | (injection eo81 with f1_ f2_ f3_; have f4_ := f1_.symm; have f5_ := f3_.symm; clear f1_ f2_ f3_; subst f4_; subst f5_))
         refine start_ (n := 42) (S := fun w' => w'.cell? ⟨gb692, 0, none⟩ = some (.slice Ao11 t685.length co11) ∧ w'.cell? ⟨gb692, 1, none⟩ = some (.slice Ao13 t688.length co13)) (ds := []) #[f_,f_,f_,f_,f_,f_,f_,f_,f_,f_,f_,f_,f_,f_,f_,f_,f_,f_,f_,f_,f_,f_,f_,f_,f_,f_,f_,f_,f_,f_,f_,f_,f_,f_,f_,f_,f_,f_,f_,f_,f_,f_] (by kernel_rfl) rfl rfl ⟨bc BK692 0, bc BK692 1⟩ (fun hHeld => ?_); refine with_tabW laws_FnSegmentsTold.tab13 laws_FnSegmentsTold.bits13 (fun HT_ HW_ => ?_)
         generalize wr.drew = w79 at HO_5 HO_7 HO_693000 HO_693001 HO_708000 HO_708001 HO_715000 HO_715001 BK692 BK707 BK714 HB hHeld ⊢
         refine pu 0 50 (fb 42 1) HT_ ?_
         refine pu 1 51 (fb 42 3) HT_ ?_
         refine on 2 (some 52) (fb 42 7) HT_ (fun K hK => ?_)
         refine goes_ Try.func43 (by kernel_rfl) rfl #[.slice Ao80 t693.length co80, .slice Ao81 t697.length co81] (by rfl) rfl rfl (by (try simp only [List.map_toArray, List.map_cons, List.map_nil]); first | done | rfl | (simp only [List.length_drop, List.length_take]; rfl)) ?_
         with_reducible refine (laws_sameFrames.calls k1 _ _ t693 _ _ t697 true _ ?side1 ?side2 ?side3 ?side4 A38.out).mono ?_
         (case side1 => repeat (first | exact (Kd.Q_reads' HO_5.out).2.2 | (with_reducible refine Kd.C_alloc ?_ _) | (with_reducible refine Kd.C_drewN ?_ _) | (with_reducible refine Kd.C_drew ?_)))
         (case side2 => exact (Kd.Q_reads' HO_5.out).2.1)
         (case side3 => exact cG (Kd.R_reads' HO_7.out).2.2)
         (case side4 => exact (Kd.R_reads' HO_7.out).2.1)
         rintro e w' ⟨rfl, ⟨nd, rfl⟩⟩
         refine ⟨_, rfl, ?_⟩
         refine hK.out _ _ ⟨bc BK692 0, bc BK692 1⟩ (fun hHeld => ?_)
         clear hK K
         refine nm ?_
         refine pu 3 53 (fb 42 15) HT_ ?_
         refine pu 4 54 (fb 42 31) HT_ ?_
         refine pu 5 55 (fb 42 63) HT_ ?_
         refine pu 6 56 (fb 42 127) HT_ ?_
         refine pu 7 57 (fb 42 255) HT_ ?_
         refine pu 8 58 (fb 42 511) HT_ ?_
         refine pu 10 60 (fb 42 1535) HT_ ?_
         refine pu 13 63 (fb 42 9727) HT_ ?_
         refine tk 9 59 (fb 42 10239) HT_ HW_ hHeld ?_
         refine tk 12 62 (fb 42 14335) HT_ HW_ hHeld ?_
         refine on 11 (some 61) (fb 42 16383) HT_ (fun K hK => ?_)
         refine goes_ Try.func41 (by kernel_rfl) rfl #[.agg #[.slice Ao11 t685.length co11, .slice Ao13 t688.length co13], .int .i64 t691] (by rfl) rfl rfl (by (try simp only [List.map_toArray, List.map_cons, List.map_nil]); first | done | rfl | (simp only [List.length_drop, List.length_take]; rfl)) ?_
         with_reducible refine (impl_SegGen.calls k1 _ _ t685 _ _ t688 t691 t718 _ ?side1 ?side2 ?side3 ?side4 A41.out).mono ?_
         (case side1 => exact cG (Kd.R_reads' HO_693000.out).2.2)
         (case side2 => exact (Kd.R_reads' HO_693000.out).2.1)
         (case side3 => exact cG (Kd.R_reads' HO_693001.out).2.2)
         (case side4 => exact (Kd.R_reads' HO_693001.out).2.1)
         rintro e w82 ⟨rfl, hb⟩
         refine ⟨_, rfl, ?_⟩
         replace HO_5 := ak (Kd.Q_below (by (with_reducible repeat (first | apply Kd.Q_alloc | apply Kd.Q_drewN | apply Kd.Q_drew)); exact HO_5.out) hb)
         replace HO_7 := rB HO_7 hb
         replace HO_693000 := rB HO_693000 hb
         replace HO_693001 := rB HO_693001 hb
         replace HO_708000 := rB HO_708000 hb
         replace HO_708001 := rB HO_708001 hb
         replace HO_715000 := rB HO_715000 hb
         replace HO_715001 := rB HO_715001 hb
         replace BK692 := bB BK692 hb
         replace BK707 := bB BK707 hb
         replace BK714 := bB BK714 hb
         replace HB := ak (below_step (lT HB (gC GE692 (gC GE707 (gC GE714 gN)))) hb)
         (try clear hb)
         (try clear hb2)
         (try clear hk)
         (try clear hi)
         refine hK.out _ _ ⟨bc BK692 0, bc BK692 1⟩ (fun hHeld => ?_)
         clear hK K
         refine nm ?_
         refine on 14 (some 64) (fb 42 32767) HT_ (fun K hK => ?_)
         refine goes_ Try.func42 (by kernel_rfl) rfl #[.agg #[.slice Ao11 t685.length co11, .slice Ao13 t688.length co13], .int .i64 t691] (by rfl) rfl rfl (by (try simp only [List.map_toArray, List.map_cons, List.map_nil]); first | done | rfl | (simp only [List.length_drop, List.length_take]; rfl)) ?_
         with_reducible refine (spec_SegGen.calls k1 _ _ t685 _ _ t688 t691 t719 _ ?side1 ?side2 ?side3 ?side4 A42.out).mono ?_
         (case side1 => exact cG (Kd.R_reads' HO_693000.out).2.2)
         (case side2 => exact (Kd.R_reads' HO_693000.out).2.1)
         (case side3 => exact cG (Kd.R_reads' HO_693001.out).2.2)
         (case side4 => exact (Kd.R_reads' HO_693001.out).2.1)
         rintro e w83 ⟨rfl, hb⟩
         refine ⟨_, rfl, ?_⟩
         replace HO_5 := ak (Kd.Q_below (by (with_reducible repeat (first | apply Kd.Q_alloc | apply Kd.Q_drewN | apply Kd.Q_drew)); exact HO_5.out) hb)
         replace HO_7 := rB HO_7 hb
         replace HO_693000 := rB HO_693000 hb
         replace HO_693001 := rB HO_693001 hb
         replace HO_708000 := rB HO_708000 hb
         replace HO_708001 := rB HO_708001 hb
         replace HO_715000 := rB HO_715000 hb
         replace HO_715001 := rB HO_715001 hb
         replace BK692 := bB BK692 hb
         replace BK707 := bB BK707 hb
         replace BK714 := bB BK714 hb
         replace HB := ak (below_step (lT HB (gC GE692 (gC GE707 (gC GE714 gN)))) hb)
         (try clear hb)
         (try clear hb2)
         (try clear hk)
         (try clear hi)
         refine hK.out _ _ ⟨bc BK692 0, bc BK692 1⟩ (fun hHeld => ?_)
         clear hK K
         refine nm ?_
         refine pu 15 65 (fb 42 65535) HT_ ?_
         refine pu 16 66 (fb 42 131071) HT_ ?_
         refine pu 17 67 (fb 42 262143) HT_ ?_
         refine pu 19 69 (fb 42 786431) HT_ ?_
         refine pu 22 72 (fb 42 4980735) HT_ ?_
         refine tk 18 68 (fb 42 5242879) HT_ HW_ hHeld ?_
         refine tk 21 71 (fb 42 7340031) HT_ HW_ hHeld ?_
         refine on 20 (some 70) (fb 42 8388607) HT_ (fun K hK => ?_)
         refine goes_ Try.func26 (by kernel_rfl) rfl #[.agg #[.slice Ao11 t685.length co11, .slice Ao13 t688.length co13], .int .i64 t691] (by rfl) rfl rfl (by (try simp only [List.map_toArray, List.map_cons, List.map_nil]); first | done | rfl | (simp only [List.length_drop, List.length_take]; rfl)) ?_
         with_reducible refine (impl_SegText.calls k1 _ _ t685 _ _ t688 t691 t720 _ ?side1 ?side2 ?side3 ?side4 A44.out).mono ?_
         (case side1 => exact cG (Kd.R_reads' HO_693000.out).2.2)
         (case side2 => exact (Kd.R_reads' HO_693000.out).2.1)
         (case side3 => exact cG (Kd.R_reads' HO_693001.out).2.2)
         (case side4 => exact (Kd.R_reads' HO_693001.out).2.1)
         rintro e w84 ⟨rfl, hb⟩
         refine ⟨_, rfl, ?_⟩
         replace HO_5 := ak (Kd.Q_below (by (with_reducible repeat (first | apply Kd.Q_alloc | apply Kd.Q_drewN | apply Kd.Q_drew)); exact HO_5.out) hb)
         replace HO_7 := rB HO_7 hb
         replace HO_693000 := rB HO_693000 hb
         replace HO_693001 := rB HO_693001 hb
         replace HO_708000 := rB HO_708000 hb
         replace HO_708001 := rB HO_708001 hb
         replace HO_715000 := rB HO_715000 hb
         replace HO_715001 := rB HO_715001 hb
         replace BK692 := bB BK692 hb
         replace BK707 := bB BK707 hb
         replace BK714 := bB BK714 hb
         replace HB := ak (below_step (lT HB (gC GE692 (gC GE707 (gC GE714 gN)))) hb)
         (try clear hb)
         (try clear hb2)
         (try clear hk)
         (try clear hi)
         refine hK.out _ _ ⟨bc BK692 0, bc BK692 1⟩ (fun hHeld => ?_)
         clear hK K
         refine nm ?_
         refine on 23 (some 73) (fb 42 16777215) HT_ (fun K hK => ?_)
         refine goes_ Try.func25 (by kernel_rfl) rfl #[.agg #[.slice Ao11 t685.length co11, .slice Ao13 t688.length co13], .int .i64 t691] (by rfl) rfl rfl (by (try simp only [List.map_toArray, List.map_cons, List.map_nil]); first | done | rfl | (simp only [List.length_drop, List.length_take]; rfl)) ?_
         with_reducible refine (spec_SegText.calls k1 _ _ t685 _ _ t688 t691 t721 _ ?side1 ?side2 ?side3 ?side4 A45.out).mono ?_
         (case side1 => exact cG (Kd.R_reads' HO_693000.out).2.2)
         (case side2 => exact (Kd.R_reads' HO_693000.out).2.1)
         (case side3 => exact cG (Kd.R_reads' HO_693001.out).2.2)
         (case side4 => exact (Kd.R_reads' HO_693001.out).2.1)
         rintro e w85 ⟨rfl, hb⟩
         refine ⟨_, rfl, ?_⟩
         replace HO_5 := ak (Kd.Q_below (by (with_reducible repeat (first | apply Kd.Q_alloc | apply Kd.Q_drewN | apply Kd.Q_drew)); exact HO_5.out) hb)
         replace HO_7 := rB HO_7 hb
         replace HO_693000 := rB HO_693000 hb
         replace HO_693001 := rB HO_693001 hb
         replace HO_708000 := rB HO_708000 hb
         replace HO_708001 := rB HO_708001 hb
         replace HO_715000 := rB HO_715000 hb
         replace HO_715001 := rB HO_715001 hb
         replace BK692 := bB BK692 hb
         replace BK707 := bB BK707 hb
         replace BK714 := bB BK714 hb
         replace HB := ak (below_step (lT HB (gC GE692 (gC GE707 (gC GE714 gN)))) hb)
         (try clear hb)
         (try clear hb2)
         (try clear hk)
         (try clear hi)
         refine hK.out _ _ ⟨bc BK692 0, bc BK692 1⟩ (fun hHeld => ?_)
         clear hK K
         refine nm ?_
         refine pu 24 74 (fb 42 33554431) HT_ ?_
         refine pu 25 75 (fb 42 67108863) HT_ ?_
         refine pu 26 76 (fb 42 134217727) HT_ ?_
         refine pn 27 77 (fb 42 268435455) HT_ ?_
         refine pn 28 78 (fb 42 536870911) HT_ ?_
         refine pn 29 79 (fb 42 1073741823) HT_ ?_
         refine pn 30 80 (fb 42 2147483647) HT_ ?_
         refine pn 31 81 (fb 42 4294967295) HT_ ?_
         refine pu 32 82 (fb 42 8589934591) HT_ ?_
         refine pu 33 83 (fb 42 17179869183) HT_ ?_
         refine pn 34 84 (fb 42 34359738367) HT_ ?_
         refine pn 35 85 (fb 42 68719476735) HT_ ?_
         refine pu 36 86 (fb 42 137438953471) HT_ ?_
         refine pu 37 87 (fb 42 274877906943) HT_ ?_
         refine pn 38 88 (fb 42 549755813887) HT_ ?_
         refine pn 39 89 (fb 42 1099511627775) HT_ ?_
         refine pu 40 90 (fb 42 2199023255551) HT_ ?_
         refine pu 41 2 (fb 42 4398046511103) HT_ ?_
         refine done_ (done_of HT_.out (by kernel_rfl)) ?_
         try go_wp2
         go_ret
         exact ⟨ew, by exact lT HB (gC GE692 (gC GE707 (gC GE714 gN)))⟩
       ·rw [if_neg c43] at H
        have c43b0 : (t718 == t719) = false := beq_eq_false_iff_ne.mpr c43
        have c43b1 : (t718 != t719) = true := bne_iff_ne.mpr c43
        obtain rfl := Option.some.inj H
        try go_wp2
        replace HO_5 := ak (Kd.Q_drew HO_5.out)
        replace HO_7 := ak (Kd.R_drew HO_7.out)
        replace HO_693000 := ak (Kd.R_drew HO_693000.out)
        replace HO_693001 := ak (Kd.R_drew HO_693001.out)
        replace HO_708000 := ak (Kd.R_drew HO_708000.out)
        replace HO_708001 := ak (Kd.R_drew HO_708001.out)
        replace HO_715000 := ak (Kd.R_drew HO_715000.out)
        replace HO_715001 := ak (Kd.R_drew HO_715001.out)
        replace BK692 := ak (blk_drew BK692.out)
        replace BK707 := ak (blk_drew BK707.out)
        replace BK714 := ak (blk_drew BK714.out)
        replace HB := ak (below_drew1 HB.out)
        obtain ⟨Ao87, co87, eo87, _⟩ := Kd.Q_slice HO_5.out
        (first | subst eo87 | (injection eo87 with f1_ f2_ f3_; have f4_ := f1_.symm; have f5_ := f3_.symm; clear f1_ f2_ f3_; subst f4_; subst f5_))
        obtain ⟨Ao88, co88, eo88⟩ := Kd.R_slice HO_7.out
        (first | subst eo88 | (injection eo88 with f1_ f2_ f3_; have f4_ := f1_.symm; have f5_ := f3_.symm; clear f1_ f2_ f3_; subst f4_; subst f5_))
        refine start_ (n := 42) (S := fun w' => w'.cell? ⟨gb692, 0, none⟩ = some (.slice Ao11 t685.length co11) ∧ w'.cell? ⟨gb692, 1, none⟩ = some (.slice Ao13 t688.length co13)) (ds := []) #[f_,f_,f_,f_,f_,f_,f_,f_,f_,f_,f_,f_,f_,f_,f_,f_,f_,f_,f_,f_,f_,f_,f_,f_,f_,f_,f_,f_,f_,f_,f_,f_,f_,f_,f_,f_,f_,f_,f_,f_,f_,f_] (by kernel_rfl) rfl rfl ⟨bc BK692 0, bc BK692 1⟩ (fun hHeld => ?_); refine with_tabW laws_FnSegmentsTold.tab13 laws_FnSegmentsTold.bits13 (fun HT_ HW_ => ?_)
        generalize wr.drew = w86 at HO_5 HO_7 HO_693000 HO_693001 HO_708000 HO_708001 HO_715000 HO_715001 BK692 BK707 BK714 HB hHeld ⊢
        refine pu 0 50 (fb 42 1) HT_ ?_
        refine pu 1 51 (fb 42 3) HT_ ?_
        refine on 2 (some 52) (fb 42 7) HT_ (fun K hK => ?_)
        refine goes_ Try.func43 (by kernel_rfl) rfl #[.slice Ao87 t693.length co87, .slice Ao88 t697.length co88] (by rfl) rfl rfl (by (try simp only [List.map_toArray, List.map_cons, List.map_nil]); first | done | rfl | (simp only [List.length_drop, List.length_take]; rfl)) ?_
        with_reducible refine (laws_sameFrames.calls k1 _ _ t693 _ _ t697 true _ ?side1 ?side2 ?side3 ?side4 A38.out).mono ?_
        (case side1 => repeat (first | exact (Kd.Q_reads' HO_5.out).2.2 | (with_reducible refine Kd.C_alloc ?_ _) | (with_reducible refine Kd.C_drewN ?_ _) | (with_reducible refine Kd.C_drew ?_)))
        (case side2 => exact (Kd.Q_reads' HO_5.out).2.1)
        (case side3 => exact cG (Kd.R_reads' HO_7.out).2.2)
        (case side4 => exact (Kd.R_reads' HO_7.out).2.1)
        rintro e w' ⟨rfl, ⟨nd, rfl⟩⟩
        refine ⟨_, rfl, ?_⟩
        refine hK.out _ _ ⟨bc BK692 0, bc BK692 1⟩ (fun hHeld => ?_)
        clear hK K
        refine nm ?_
        refine pu 3 53 (fb 42 15) HT_ ?_
        refine pu 4 54 (fb 42 31) HT_ ?_
        refine pu 5 55 (fb 42 63) HT_ ?_
        refine pu 6 56 (fb 42 127) HT_ ?_
        refine pu 7 57 (fb 42 255) HT_ ?_
        refine pu 8 58 (fb 42 511) HT_ ?_
        refine pu 10 60 (fb 42 1535) HT_ ?_
        refine pu 13 63 (fb 42 9727) HT_ ?_
        refine tk 9 59 (fb 42 10239) HT_ HW_ hHeld ?_
        refine tk 12 62 (fb 42 14335) HT_ HW_ hHeld ?_
        refine on 11 (some 61) (fb 42 16383) HT_ (fun K hK => ?_)
        refine goes_ Try.func41 (by kernel_rfl) rfl #[.agg #[.slice Ao11 t685.length co11, .slice Ao13 t688.length co13], .int .i64 t691] (by rfl) rfl rfl (by (try simp only [List.map_toArray, List.map_cons, List.map_nil]); first | done | rfl | (simp only [List.length_drop, List.length_take]; rfl)) ?_
        with_reducible refine (impl_SegGen.calls k1 _ _ t685 _ _ t688 t691 t718 _ ?side1 ?side2 ?side3 ?side4 A41.out).mono ?_
        (case side1 => exact cG (Kd.R_reads' HO_693000.out).2.2)
        (case side2 => exact (Kd.R_reads' HO_693000.out).2.1)
        (case side3 => exact cG (Kd.R_reads' HO_693001.out).2.2)
        (case side4 => exact (Kd.R_reads' HO_693001.out).2.1)
        rintro e w89 ⟨rfl, hb⟩
        refine ⟨_, rfl, ?_⟩
        replace HO_5 := ak (Kd.Q_below (by (with_reducible repeat (first | apply Kd.Q_alloc | apply Kd.Q_drewN | apply Kd.Q_drew)); exact HO_5.out) hb)
        replace HO_7 := rB HO_7 hb
        replace HO_693000 := rB HO_693000 hb
        replace HO_693001 := rB HO_693001 hb
        replace HO_708000 := rB HO_708000 hb
        replace HO_708001 := rB HO_708001 hb
        replace HO_715000 := rB HO_715000 hb
        replace HO_715001 := rB HO_715001 hb
        replace BK692 := bB BK692 hb
        replace BK707 := bB BK707 hb
        replace BK714 := bB BK714 hb
        replace HB := ak (below_step (lT HB (gC GE692 (gC GE707 (gC GE714 gN)))) hb)
        (try clear hb)
        (try clear hb2)
        (try clear hk)
        (try clear hi)
        refine hK.out _ _ ⟨bc BK692 0, bc BK692 1⟩ (fun hHeld => ?_)
        clear hK K
        refine nm ?_
        refine on 14 (some 64) (fb 42 32767) HT_ (fun K hK => ?_)
        refine goes_ Try.func42 (by kernel_rfl) rfl #[.agg #[.slice Ao11 t685.length co11, .slice Ao13 t688.length co13], .int .i64 t691] (by rfl) rfl rfl (by (try simp only [List.map_toArray, List.map_cons, List.map_nil]); first | done | rfl | (simp only [List.length_drop, List.length_take]; rfl)) ?_
        with_reducible refine (spec_SegGen.calls k1 _ _ t685 _ _ t688 t691 t719 _ ?side1 ?side2 ?side3 ?side4 A42.out).mono ?_
        (case side1 => exact cG (Kd.R_reads' HO_693000.out).2.2)
        (case side2 => exact (Kd.R_reads' HO_693000.out).2.1)
        (case side3 => exact cG (Kd.R_reads' HO_693001.out).2.2)
        (case side4 => exact (Kd.R_reads' HO_693001.out).2.1)
        rintro e w90 ⟨rfl, hb⟩
        refine ⟨_, rfl, ?_⟩
        replace HO_5 := ak (Kd.Q_below (by (with_reducible repeat (first | apply Kd.Q_alloc | apply Kd.Q_drewN | apply Kd.Q_drew)); exact HO_5.out) hb)
        replace HO_7 := rB HO_7 hb
        replace HO_693000 := rB HO_693000 hb
        replace HO_693001 := rB HO_693001 hb
        replace HO_708000 := rB HO_708000 hb
        replace HO_708001 := rB HO_708001 hb
        replace HO_715000 := rB HO_715000 hb
        replace HO_715001 := rB HO_715001 hb
        replace BK692 := bB BK692 hb
        replace BK707 := bB BK707 hb
        replace BK714 := bB BK714 hb
        replace HB := ak (below_step (lT HB (gC GE692 (gC GE707 (gC GE714 gN)))) hb)
        (try clear hb)
        (try clear hb2)
        (try clear hk)
        (try clear hi)
        refine hK.out _ _ ⟨bc BK692 0, bc BK692 1⟩ (fun hHeld => ?_)
        clear hK K
        refine nm ?_
        refine pu 15 65 (fb 42 65535) HT_ ?_
        refine pu 16 66 (fb 42 131071) HT_ ?_
        refine pu 17 67 (fb 42 262143) HT_ ?_
        refine pn 18 68 (fb 42 524287) HT_ ?_
        refine pn 19 69 (fb 42 1048575) HT_ ?_
        refine pn 20 70 (fb 42 2097151) HT_ ?_
        refine pn 21 71 (fb 42 4194303) HT_ ?_
        refine pn 22 72 (fb 42 8388607) HT_ ?_
        refine pn 23 73 (fb 42 16777215) HT_ ?_
        refine pn 24 74 (fb 42 33554431) HT_ ?_
        refine pu 25 75 (fb 42 67108863) HT_ ?_
        refine pu 26 76 (fb 42 134217727) HT_ ?_
        refine pn 27 77 (fb 42 268435455) HT_ ?_
        refine pn 28 78 (fb 42 536870911) HT_ ?_
        refine pn 29 79 (fb 42 1073741823) HT_ ?_
        refine pn 30 80 (fb 42 2147483647) HT_ ?_
        refine pn 31 81 (fb 42 4294967295) HT_ ?_
        refine pu 32 82 (fb 42 8589934591) HT_ ?_
        refine pu 33 83 (fb 42 17179869183) HT_ ?_
        refine pn 34 84 (fb 42 34359738367) HT_ ?_
        refine pn 35 85 (fb 42 68719476735) HT_ ?_
        refine pu 36 86 (fb 42 137438953471) HT_ ?_
        refine pu 37 87 (fb 42 274877906943) HT_ ?_
        refine pn 38 88 (fb 42 549755813887) HT_ ?_
        refine pn 39 89 (fb 42 1099511627775) HT_ ?_
        refine pu 40 90 (fb 42 2199023255551) HT_ ?_
        refine pu 41 2 (fb 42 4398046511103) HT_ ?_
        refine done_ (done_of HT_.out (by kernel_rfl)) ?_
        try go_wp2
        go_ret
        exact ⟨ew, by exact lT HB (gC GE692 (gC GE707 (gC GE714 gN)))⟩
      ·rw [if_neg c40] at H
       have c40b0 : (t696 == t700) = false := beq_eq_false_iff_ne.mpr c40
       have c40b1 : (t696 != t700) = true := bne_iff_ne.mpr c40
       obtain rfl := Option.some.inj H
       try go_wp2
       replace HO_5 := ak (Kd.Q_drew HO_5.out)
       replace HO_7 := ak (Kd.R_drew HO_7.out)
       replace HO_693000 := ak (Kd.R_drew HO_693000.out)
       replace HO_693001 := ak (Kd.R_drew HO_693001.out)
       replace HO_708000 := ak (Kd.R_drew HO_708000.out)
       replace HO_708001 := ak (Kd.R_drew HO_708001.out)
       replace HO_715000 := ak (Kd.R_drew HO_715000.out)
       replace HO_715001 := ak (Kd.R_drew HO_715001.out)
       replace BK692 := ak (blk_drew BK692.out)
       replace BK707 := ak (blk_drew BK707.out)
       replace BK714 := ak (blk_drew BK714.out)
       replace HB := ak (below_drew1 HB.out)
       obtain ⟨Ao92, co92, eo92, _⟩ := Kd.Q_slice HO_5.out
       (first | subst eo92 | (injection eo92 with f1_ f2_ f3_; have f4_ := f1_.symm; have f5_ := f3_.symm; clear f1_ f2_ f3_; subst f4_; subst f5_))
       obtain ⟨Ao93, co93, eo93⟩ := Kd.R_slice HO_7.out
       (first | subst eo93 | (injection eo93 with f1_ f2_ f3_; have f4_ := f1_.symm; have f5_ := f3_.symm; clear f1_ f2_ f3_; subst f4_; subst f5_))
       refine start_ (n := 42) (S := fun w' => True) (ds := []) #[f_,f_,f_,f_,f_,f_,f_,f_,f_,f_,f_,f_,f_,f_,f_,f_,f_,f_,f_,f_,f_,f_,f_,f_,f_,f_,f_,f_,f_,f_,f_,f_,f_,f_,f_,f_,f_,f_,f_,f_,f_,f_] (by kernel_rfl) rfl rfl trivial (fun hHeld => ?_); refine with_tabW laws_FnSegmentsTold.tab13 laws_FnSegmentsTold.bits13 (fun HT_ HW_ => ?_)
       generalize wr.drew = w91 at HO_5 HO_7 HO_693000 HO_693001 HO_708000 HO_708001 HO_715000 HO_715001 BK692 BK707 BK714 HB hHeld ⊢
       refine pu 0 50 (fb 42 1) HT_ ?_
       refine pu 1 51 (fb 42 3) HT_ ?_
       refine on 2 (some 52) (fb 42 7) HT_ (fun K hK => ?_)
       refine goes_ Try.func43 (by kernel_rfl) rfl #[.slice Ao92 t693.length co92, .slice Ao93 t697.length co93] (by rfl) rfl rfl (by (try simp only [List.map_toArray, List.map_cons, List.map_nil]); first | done | rfl | (simp only [List.length_drop, List.length_take]; rfl)) ?_
       with_reducible refine (laws_sameFrames.calls k1 _ _ t693 _ _ t697 true _ ?side1 ?side2 ?side3 ?side4 A38.out).mono ?_
       (case side1 => repeat (first | exact (Kd.Q_reads' HO_5.out).2.2 | (with_reducible refine Kd.C_alloc ?_ _) | (with_reducible refine Kd.C_drewN ?_ _) | (with_reducible refine Kd.C_drew ?_)))
       (case side2 => exact (Kd.Q_reads' HO_5.out).2.1)
       (case side3 => exact cG (Kd.R_reads' HO_7.out).2.2)
       (case side4 => exact (Kd.R_reads' HO_7.out).2.1)
       rintro e w' ⟨rfl, ⟨nd, rfl⟩⟩
       refine ⟨_, rfl, ?_⟩
       refine hK.out _ _ trivial (fun hHeld => ?_)
       clear hK K
       refine nm ?_
       refine pu 3 53 (fb 42 15) HT_ ?_
       refine pu 4 54 (fb 42 31) HT_ ?_
       refine pu 5 55 (fb 42 63) HT_ ?_
       refine pu 6 56 (fb 42 127) HT_ ?_
       refine pu 7 57 (fb 42 255) HT_ ?_
       refine pu 8 58 (fb 42 511) HT_ ?_
       refine pn 9 59 (fb 42 1023) HT_ ?_
       refine pn 10 60 (fb 42 2047) HT_ ?_
       refine pn 11 61 (fb 42 4095) HT_ ?_
       refine pn 12 62 (fb 42 8191) HT_ ?_
       refine pn 13 63 (fb 42 16383) HT_ ?_
       refine pn 14 64 (fb 42 32767) HT_ ?_
       refine pn 15 65 (fb 42 65535) HT_ ?_
       refine pu 16 66 (fb 42 131071) HT_ ?_
       refine pu 17 67 (fb 42 262143) HT_ ?_
       refine pn 18 68 (fb 42 524287) HT_ ?_
       refine pn 19 69 (fb 42 1048575) HT_ ?_
       refine pn 20 70 (fb 42 2097151) HT_ ?_
       refine pn 21 71 (fb 42 4194303) HT_ ?_
       refine pn 22 72 (fb 42 8388607) HT_ ?_
       refine pn 23 73 (fb 42 16777215) HT_ ?_
       refine pn 24 74 (fb 42 33554431) HT_ ?_
       refine pu 25 75 (fb 42 67108863) HT_ ?_
       refine pu 26 76 (fb 42 134217727) HT_ ?_
       refine pn 27 77 (fb 42 268435455) HT_ ?_
       refine pn 28 78 (fb 42 536870911) HT_ ?_
       refine pn 29 79 (fb 42 1073741823) HT_ ?_
       refine pn 30 80 (fb 42 2147483647) HT_ ?_
       refine pn 31 81 (fb 42 4294967295) HT_ ?_
       refine pu 32 82 (fb 42 8589934591) HT_ ?_
       refine pu 33 83 (fb 42 17179869183) HT_ ?_
       refine pn 34 84 (fb 42 34359738367) HT_ ?_
       refine pn 35 85 (fb 42 68719476735) HT_ ?_
       refine pu 36 86 (fb 42 137438953471) HT_ ?_
       refine pu 37 87 (fb 42 274877906943) HT_ ?_
       refine pn 38 88 (fb 42 549755813887) HT_ ?_
       refine pn 39 89 (fb 42 1099511627775) HT_ ?_
       refine pu 40 90 (fb 42 2199023255551) HT_ ?_
       refine pu 41 2 (fb 42 4398046511103) HT_ ?_
       refine done_ (done_of HT_.out (by kernel_rfl)) ?_
       try go_wp2
       go_ret
       exact ⟨ew, by exact lT HB (gC GE692 (gC GE707 (gC GE714 gN)))⟩
     ·replace c39 := Bool.eq_false_iff.mpr c39
      subst c39
      have H1 : (some false) = some r := by rw [if_neg (show ¬ (false = true) by decide)] at H; exact H
      clear H
      have H := H1
      clear H1
      obtain rfl := Option.some.inj H
      try go_wp2
      replace HO_5 := ak (Kd.Q_drew HO_5.out)
      replace HO_7 := ak (Kd.R_drew HO_7.out)
      replace HO_693000 := ak (Kd.R_drew HO_693000.out)
      replace HO_693001 := ak (Kd.R_drew HO_693001.out)
      replace HO_708000 := ak (Kd.R_drew HO_708000.out)
      replace HO_708001 := ak (Kd.R_drew HO_708001.out)
      replace HO_715000 := ak (Kd.R_drew HO_715000.out)
      replace HO_715001 := ak (Kd.R_drew HO_715001.out)
      replace BK692 := ak (blk_drew BK692.out)
      replace BK707 := ak (blk_drew BK707.out)
      replace BK714 := ak (blk_drew BK714.out)
      replace HB := ak (below_drew1 HB.out)
      obtain ⟨Ao95, co95, eo95, _⟩ := Kd.Q_slice HO_5.out
      (first | subst eo95 | (injection eo95 with f1_ f2_ f3_; have f4_ := f1_.symm; have f5_ := f3_.symm; clear f1_ f2_ f3_; subst f4_; subst f5_))
      obtain ⟨Ao96, co96, eo96⟩ := Kd.R_slice HO_7.out
      (first | subst eo96 | (injection eo96 with f1_ f2_ f3_; have f4_ := f1_.symm; have f5_ := f3_.symm; clear f1_ f2_ f3_; subst f4_; subst f5_))
      refine start_ (n := 42) (S := fun w' => True) (ds := []) #[f_,f_,f_,f_,f_,f_,f_,f_,f_,f_,f_,f_,f_,f_,f_,f_,f_,f_,f_,f_,f_,f_,f_,f_,f_,f_,f_,f_,f_,f_,f_,f_,f_,f_,f_,f_,f_,f_,f_,f_,f_,f_] (by kernel_rfl) rfl rfl trivial (fun hHeld => ?_); refine with_tabW laws_FnSegmentsTold.tab13 laws_FnSegmentsTold.bits13 (fun HT_ HW_ => ?_)
      generalize wr.drew = w94 at HO_5 HO_7 HO_693000 HO_693001 HO_708000 HO_708001 HO_715000 HO_715001 BK692 BK707 BK714 HB hHeld ⊢
      refine pu 0 50 (fb 42 1) HT_ ?_
      refine pu 1 51 (fb 42 3) HT_ ?_
      refine on 2 (some 52) (fb 42 7) HT_ (fun K hK => ?_)
      refine goes_ Try.func43 (by kernel_rfl) rfl #[.slice Ao95 t693.length co95, .slice Ao96 t697.length co96] (by rfl) rfl rfl (by (try simp only [List.map_toArray, List.map_cons, List.map_nil]); first | done | rfl | (simp only [List.length_drop, List.length_take]; rfl)) ?_
      with_reducible refine (laws_sameFrames.calls k1 _ _ t693 _ _ t697 false _ ?side1 ?side2 ?side3 ?side4 A38.out).mono ?_
      (case side1 => repeat (first | exact (Kd.Q_reads' HO_5.out).2.2 | (with_reducible refine Kd.C_alloc ?_ _) | (with_reducible refine Kd.C_drewN ?_ _) | (with_reducible refine Kd.C_drew ?_)))
      (case side2 => exact (Kd.Q_reads' HO_5.out).2.1)
      (case side3 => exact cG (Kd.R_reads' HO_7.out).2.2)
      (case side4 => exact (Kd.R_reads' HO_7.out).2.1)
      rintro e w' ⟨rfl, ⟨nd, rfl⟩⟩
      refine ⟨_, rfl, ?_⟩
      refine hK.out _ _ trivial (fun hHeld => ?_)
      clear hK K
      refine nm ?_
      refine pu 3 53 (fb 42 15) HT_ ?_
      refine pn 4 54 (fb 42 31) HT_ ?_
      refine pn 5 55 (fb 42 63) HT_ ?_
      refine pn 6 56 (fb 42 127) HT_ ?_
      refine pu 7 57 (fb 42 255) HT_ ?_
      refine pu 8 58 (fb 42 511) HT_ ?_
      refine pn 9 59 (fb 42 1023) HT_ ?_
      refine pn 10 60 (fb 42 2047) HT_ ?_
      refine pn 11 61 (fb 42 4095) HT_ ?_
      refine pn 12 62 (fb 42 8191) HT_ ?_
      refine pn 13 63 (fb 42 16383) HT_ ?_
      refine pn 14 64 (fb 42 32767) HT_ ?_
      refine pn 15 65 (fb 42 65535) HT_ ?_
      refine pu 16 66 (fb 42 131071) HT_ ?_
      refine pu 17 67 (fb 42 262143) HT_ ?_
      refine pn 18 68 (fb 42 524287) HT_ ?_
      refine pn 19 69 (fb 42 1048575) HT_ ?_
      refine pn 20 70 (fb 42 2097151) HT_ ?_
      refine pn 21 71 (fb 42 4194303) HT_ ?_
      refine pn 22 72 (fb 42 8388607) HT_ ?_
      refine pn 23 73 (fb 42 16777215) HT_ ?_
      refine pn 24 74 (fb 42 33554431) HT_ ?_
      refine pu 25 75 (fb 42 67108863) HT_ ?_
      refine pu 26 76 (fb 42 134217727) HT_ ?_
      refine pn 27 77 (fb 42 268435455) HT_ ?_
      refine pn 28 78 (fb 42 536870911) HT_ ?_
      refine pn 29 79 (fb 42 1073741823) HT_ ?_
      refine pn 30 80 (fb 42 2147483647) HT_ ?_
      refine pn 31 81 (fb 42 4294967295) HT_ ?_
      refine pu 32 82 (fb 42 8589934591) HT_ ?_
      refine pu 33 83 (fb 42 17179869183) HT_ ?_
      refine pn 34 84 (fb 42 34359738367) HT_ ?_
      refine pn 35 85 (fb 42 68719476735) HT_ ?_
      refine pu 36 86 (fb 42 137438953471) HT_ ?_
      refine pu 37 87 (fb 42 274877906943) HT_ ?_
      refine pn 38 88 (fb 42 549755813887) HT_ ?_
      refine pn 39 89 (fb 42 1099511627775) HT_ ?_
      refine pu 40 90 (fb 42 2199023255551) HT_ ?_
      refine pu 41 2 (fb 42 4398046511103) HT_ ?_
      refine done_ (done_of HT_.out (by kernel_rfl)) ?_
      try go_wp2
      go_ret
      exact ⟨ew, by exact lT HB (gC GE692 (gC GE707 (gC GE714 gN)))⟩
/-- THE ONE PURE STATEMENT of laws_FnSegmentsTold: yours. -/
def laws_FnSegmentsTold.Pure : Prop := ∀ (l0 : List Int), l0.length ≤ maxLen → l0.length * 1 ≤ 140737488351232 → (∀ x ∈ l0, (Lit.int .u8 x).wf = true) → ∃ k, laws_FnSegmentsTold.f k l0 = some true
theorem laws_FnSegmentsTold.walk (P : laws_FnSegmentsTold.Pure) (a0 : Option Addr) (len0 cap0 : Nat) (z0 : List Int) (w : World) (w0 : (a0 = none ∧ len0 = 0 ∧ cap0 = 0 ∧ z0 = []) ∨ ∃ x, a0 = some x ∧ len0 ≤ cap0 ∧ cap0 ≤ maxLen ∧ z0.length = cap0 ∧ (∀ i, i < z0.length → w.cell? (x.add i) = some (.int .u8 (z0.getD i 0))) ∧ ∀ n ∈ z0, (Lit.int .u8 n).wf = true) (y0 : len0 * 1 ≤ 140737488351232) :
  Calls Try.prog 8 #[.slice a0 len0 cap0] w fun e w' => e = .returned (.bool true) ∧ Below w.heap.size w w' := by
 obtain ⟨l0, rfl, hr0, hm0, hw0, hc0⟩ := ReadsInt.ofRowC w0
 obtain ⟨k, h⟩ := P l0 hm0 y0 hw0
 refine (laws_FnSegmentsTold.calls k _ _ l0 true w (Kd.C_of_reads (d := (0 : Int)) (h1 := fun _ => rfl) hr0) hc0 h).mono ?_
 rintro e w' ⟨rfl, hd⟩
 exact ⟨rfl, hd⟩
end Go.Proofs.Ytjpngldnkgofaaa.PFnSegmentsTold
