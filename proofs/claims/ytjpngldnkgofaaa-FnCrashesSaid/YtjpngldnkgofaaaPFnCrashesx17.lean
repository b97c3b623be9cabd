-- Written for this claim by a program of mine (a turned copy of the kit's print): functions as plain Lean, and their contracts. Lean checks it.
import Derived.Test.YtjpngldnkgofaaaPFnCrashesx0
import Derived.Test.YtjpngldnkgofaaaPFnCrashesx2
import Derived.Test.YtjpngldnkgofaaaPFnCrashesx10
import Derived.Test.YtjpngldnkgofaaaPFnCrashesx11
import Derived.Test.YtjpngldnkgofaaaPFnCrashesx12
import Derived.Test.YtjpngldnkgofaaaPFnCrashesx15
import Derived.Test.YtjpngldnkgofaaaPFnCrashesx16
import Derived.Test.YtjpngldnkgofaaaVFnCrashes1
namespace Go.Proofs.Ytjpngldnkgofaaa.PFnCrashes
open Go.RowKit Go.Proofs.YtjpngldnkgofaaaW.PrintWords Go.Proofs.YtjpngldnkgofaaaW.PrintLast Go.Proofs.YtjpngldnkgofaaaW.PrintMore
attribute [local go_sem] max2_int min2_int max_two min_two max_three min_three max_four min_four   -- for this text's walks alone
set_option linter.unusedVariables false
set_option linter.unusedSimpArgs false

/-! ### laws_FnCrashes: function 5 -/
def laws_FnCrashes.l0 : Nat → List Int → List Int → Int → List ByteArray → List (S63) → Option (Bool)
 | 0, _, _, _, _, _ => none
 | k + 1, x0, x4, x5, x457000, x457001 => if x5 < (x457001.length : Int) then (if x4.length < 17592186044416 then (laws_FnCrashes.l0 k x0 (x4 ++ [1]) (wrap64 (x5 + 1)) x457000 x457001) else (none)) else ((impl_CrashDisk.f k x457000 x457001 (([] : List Int)) 5).bind fun bt466 => ((impl_CrashDisk.f k x457000 x457001 x4 32).bind fun bt473 => ((spec_DrawCrashDisk.f k x0).bind fun bt480 => ((laws_sameTexts.f k bt466.1 x457000).bind fun t491 => (if t491 = true then (if (bt466.2.length : Int) = 0 then ((impl_FlushDisk.f k x457000 x457001).bind fun bt492 => ((laws_sameDisk.f k bt473.1 bt473.2 bt492.1 bt492.2).bind fun t498 => (if t498 = true then ((impl_CrashDisk.f k bt480.1 bt480.2.1 bt480.2.2.1 bt480.2.2.2).bind fun bt499 => ((spec_CrashDisk.f k bt480.1 bt480.2.1 bt480.2.2.1 bt480.2.2.2).bind fun bt505 => ((laws_sameDisk.f k bt499.1 bt499.2 bt505.1 bt505.2).bind fun t511 => (if t511 = true then ((impl_DiskOk.f bt473.1 bt473.2).bind fun t512 => (some t512)) else (some false))))) else (some false)))) else (some false)) else (some false))))))
def laws_FnCrashes.f (k : Nat) (l0 : List Int) : Option (Bool) := (laws_big.f l0).bind fun t449 => (if t449 = true then (some true) else ((spec_DrawDisk.f k l0).bind fun bt450 => (laws_FnCrashes.l0 k l0 (([] : List Int)) 0 bt450.1 bt450.2)))
theorem laws_FnCrashes.mono_l : ∀ k, (∀ y0 y1 y2 y3 y4, LeO (laws_FnCrashes.l0 k y0 y1 y2 y3 y4) (laws_FnCrashes.l0 (k + 1) y0 y1 y2 y3 y4))
 | 0 => fun _ _ _ _ _ r h => by simp [laws_FnCrashes.l0] at h
 | k + 1 => by
  have ih0 := laws_FnCrashes.mono_l k
  ·intro y0 y1 y2 y3 y4
   unfold laws_FnCrashes.l0
   repeat' first
   | (with_reducible exact ih0 _ _ _ _ _)
   | (with_reducible exact impl_CrashDisk.mono _ _ _ _ _)
   | (with_reducible exact impl_FlushDisk.mono _ _ _)
   | (with_reducible exact laws_sameDisk.mono _ _ _ _ _)
   | (with_reducible exact laws_sameTexts.mono _ _ _)
   | (with_reducible exact spec_CrashDisk.mono _ _ _ _ _)
   | (with_reducible exact spec_DrawCrashDisk.mono _ _)
   | (with_reducible exact spec_DrawDisk.mono _ _)
   | (with_reducible exact LeO.refl _)
   | (with_reducible exact LeO.none _)
   | (with_reducible refine LeO.ite ?_ ?_)
   | (with_reducible refine LeO.bind ?_ (fun _ => ?_))
   | exact ih0 _ _ _ _ _
   | exact impl_CrashDisk.mono _ _ _ _ _
   | exact impl_FlushDisk.mono _ _ _
   | exact laws_sameDisk.mono _ _ _ _ _
   | exact laws_sameTexts.mono _ _ _
   | exact spec_CrashDisk.mono _ _ _ _ _
   | exact spec_DrawCrashDisk.mono _ _
   | exact spec_DrawDisk.mono _ _
   | exact LeO.none _
   | refine LeO.ite ?_ ?_
   | refine LeO.bind ?_ (fun _ => ?_)
theorem laws_FnCrashes.mono : ∀ a0 k, LeO (laws_FnCrashes.f k a0) (laws_FnCrashes.f (k + 1) a0) := by
 intro a0 k
 have ih0 := laws_FnCrashes.mono_l k
 unfold laws_FnCrashes.f
 repeat' first
   | (with_reducible exact ih0 _ _ _ _ _)
   | (with_reducible exact impl_CrashDisk.mono _ _ _ _ _)
   | (with_reducible exact impl_FlushDisk.mono _ _ _)
   | (with_reducible exact laws_sameDisk.mono _ _ _ _ _)
   | (with_reducible exact laws_sameTexts.mono _ _ _)
   | (with_reducible exact spec_CrashDisk.mono _ _ _ _ _)
   | (with_reducible exact spec_DrawCrashDisk.mono _ _)
   | (with_reducible exact spec_DrawDisk.mono _ _)
   | (with_reducible exact LeO.refl _)
   | (with_reducible exact LeO.none _)
   | (with_reducible refine LeO.ite ?_ ?_)
   | (with_reducible refine LeO.bind ?_ (fun _ => ?_))
   | exact ih0 _ _ _ _ _
   | exact impl_CrashDisk.mono _ _ _ _ _
   | exact impl_FlushDisk.mono _ _ _
   | exact laws_sameDisk.mono _ _ _ _ _
   | exact laws_sameTexts.mono _ _ _
   | exact spec_CrashDisk.mono _ _ _ _ _
   | exact spec_DrawCrashDisk.mono _ _
   | exact spec_DrawDisk.mono _ _
   | exact LeO.none _
   | refine LeO.ite ?_ ?_
   | refine LeO.bind ?_ (fun _ => ?_)
def laws_FnCrashes.T12 : Bool × List (List Nat × List Nat) := (true, [([], []), ([0], [0]), ([], []), ([2], [2]), ([1, 3], [1, 3]), ([4, 4], [4]), ([5], [5]), ([6, 5], [5, 6]), ([7, 5], [5, 7]), ([8, 5], [5, 8]), ([5, 9], [5, 9]), ([10, 5], [10]), ([11], [11]), ([11], [11]), ([13, 11, 11], [11, 13]), ([12, 14, 14, 11], [11, 12, 14]), ([11, 15], [11, 15]), ([16, 15], [16]), ([17], [17]), ([17], [17]), ([17], [17]), ([18, 19, 20, 17, 17], [17, 18, 19, 20]), ([17], [17]), ([17], [17]), ([17], [17]), ([22, 23, 24, 21, 17], [17, 22, 23, 24]), ([21, 25, 25, 17], [17, 21, 25]), ([17, 26], [17, 26]), ([27, 26], [27]), ([28], [28]), ([29, 28, 28], [28, 29]), ([28, 30], [28, 30]), ([31, 30, 0, 1, 2, 3, 4, 5, 6, 7, 8, 9, 10, 11, 12, 13, 14, 15, 16, 17, 18, 19, 20, 21, 22, 23, 24, 25, 26, 27, 28, 29, 30, 31], [31])])
def laws_FnCrashes.B12 : List Nat := [0, 1, 0, 4, 15, 31, 63, 127, 255, 511, 1023, 2047, 4095, 4095, 12287, 32767, 65535, 131071, 262143, 262143, 262143, 2097151, 262143, 262143, 262143, 33554431, 67108863, 134217727, 268435455, 536870911, 1073741823, 2147483647, 4294967295]
theorem laws_FnCrashes.tab12 : rtab .any (opsOf Try.f5 12) = laws_FnCrashes.T12 := by kernel_rfl
theorem laws_FnCrashes.bits12 : waitsOk laws_FnCrashes.T12.2 laws_FnCrashes.B12 = true := by kernel_rfl
set_option maxHeartbeats 8000000 in
set_option maxRecDepth 100000 in
theorem laws_FnCrashes.calls (k : Nat) (A0 : Option Addr) (c0 : Nat) (l0 : List Int) (r : Bool) (w : World) (hr0 : Kd.C (Kd.int .u8) w A0 l0.length l0) (hc0 : l0.length ≤ c0) (h : laws_FnCrashes.f k l0 = some r) :
  Calls Try.prog 5 #[.slice A0 l0.length c0] w fun e w' => e = .returned (.bool r) ∧ Below w.heap.size w w' := by
 have hu27 := Try.underlying27
 have HR0 := Aside0.mk hr0
 have HC0 := Aside0.mk hc0
 clear hr0 hc0
 have HB := ak (Below.refl w.heap.size w)
 have H : ((laws_big.f l0).bind fun t449 => (if t449 = true then (some true) else ((spec_DrawDisk.f k l0).bind fun bt450 => (laws_FnCrashes.l0 k l0 (([] : List Int)) 0 bt450.1 bt450.2)))) = some r := h
 clear h
 replace H := Option.bind_eq_some_iff.mp H
 obtain ⟨t449, A20, H⟩ := H
 replace H : (if t449 = true then (some true) else ((spec_DrawDisk.f k l0).bind fun bt450 => (laws_FnCrashes.l0 k l0 (([] : List Int)) 0 bt450.1 bt450.2))) = some r := H
 have A2 := Aside0.mk A20
 clear A20
 by_cases c3 : t449 = true
 ·subst c3
  have H1 : (some true) = some r := by rw [if_pos rfl] at H; exact H
  clear H
  have H := H1
  clear H1
  obtain rfl := Option.some.inj H
  go_enter Try.func5, Try.ntmps5
  go_wp2_with (first | ((with_reducible refine gate_callee (f := 9) rfl ?_); refine gl (some 12) Try.func9 #[.slice A0 l0.length c0] ?_; (with_reducible refine (laws_big.calls _ _ l0 true _ ?side1 ?side2 A2.out).mono ?_); (case side1 => repeat (first | exact HR0.out | (with_reducible refine Kd.C_alloc ?_ _) | (with_reducible refine Kd.C_drewN ?_ _) | (with_reducible refine Kd.C_drew ?_))); (case side2 => exact HC0.out); rintro e w' ⟨rfl, ⟨nd, rfl⟩⟩; refine ⟨_, rfl, ?_⟩))
  go_ret
  exact ⟨by first | rfl | (simp [errW_none, errW_some] <;> rfl) | (simp [*, errW_none, errW_some] <;> rfl), by exact lG HB⟩
 ·replace c3 := Bool.eq_false_iff.mpr c3
  subst c3
  have H1 : ((spec_DrawDisk.f k l0).bind fun bt450 => (laws_FnCrashes.l0 k l0 (([] : List Int)) 0 bt450.1 bt450.2)) = some r := by rw [if_neg (show ¬ (false = true) by decide)] at H; exact H
  clear H
  have H := H1
  clear H1
  replace H := Option.bind_eq_some_iff.mp H
  obtain ⟨⟨t450, t453⟩, A40, H⟩ := H
  replace H : (laws_FnCrashes.l0 k l0 (([] : List Int)) 0 t450 t453) = some r := H
  have A4 := Aside0.mk A40
  clear A40
  obtain ⟨y457, hy457⟩ : ∃ y_ : List Int, y_ = (([] : List Int)) := ⟨_, rfl⟩
  replace H : (laws_FnCrashes.l0 k l0 y457 0 t450 t453) = some r := by first | (rw [hy457]; with_reducible exact H) | (have H2_ := (Option.bind_some _ _).symm.trans H; rw [hy457]; with_reducible exact H2_) | (have H2_ := (Option.bind_some _ _).symm.trans H; with_reducible exact H2_) | with_reducible exact H | (rw [hy457]; exact H) | exact H
  have Ny457 := Aside0.mk hy457
  clear hy457
  have H' := Aside0.mk H
  clear H
  go_enter Try.func5, Try.ntmps5
  go_wp2_with (first | ((with_reducible refine gate_callee (f := 9) rfl ?_); refine gl (some 12) Try.func9 #[.slice A0 l0.length c0] ?_; (with_reducible refine (laws_big.calls _ _ l0 false _ ?side1 ?side2 A2.out).mono ?_); (case side1 => repeat (first | exact HR0.out | (with_reducible refine Kd.C_alloc ?_ _) | (with_reducible refine Kd.C_drewN ?_ _) | (with_reducible refine Kd.C_drew ?_))); (case side2 => exact HC0.out); rintro e w' ⟨rfl, ⟨nd, rfl⟩⟩; refine ⟨_, rfl, ?_⟩) | ((with_reducible refine gate_callee (f := 10) rfl ?_); refine gl (some 14) Try.func10 #[.slice A0 l0.length c0] ?_; (with_reducible refine (spec_DrawDisk.calls k _ _ l0 t450 t453 _ ?side1 ?side2 A4.out).mono ?_); (case side1 => repeat (first | exact HR0.out | (with_reducible refine Kd.C_alloc ?_ _) | (with_reducible refine Kd.C_drewN ?_ _) | (with_reducible refine Kd.C_drew ?_))); (case side2 => exact HC0.out); rintro e w5 ⟨v451, v454, rfl, ho0, ho1, hb⟩; refine ⟨_, rfl, ?_⟩; replace HO452 := ak (Kd.R_lower ho0 (below_size (lG HB))); replace HO455 := ak (Kd.R_lower ho1 (below_size (lG HB))); replace HB := lB HB hb; (try clear hb); (try clear hk); (try clear ho0); (try clear ho1)) | ((with_reducible refine gate_dst (N := 3) rfl ?_); (try (refine gate_guard (by rfl) ?_; dsimp only)); refine bx 3 #[.slice none 0 0, .slice none 0 0] 27 ?_; intro gb456 hg w6 hbox hb; replace HO452 := rB HO452 hb; replace HO455 := rB HO455 hb; replace BK456 := ak (hbox); replace GW456 := ak (bz hg (lG HB)); replace GE456 := ak (bz hg (lG HB)); replace HB := lB HB hb; clear hb hbox hg; obtain ⟨Ao7, co7, eo7⟩ := Kd.R_slice HO452.out; subst eo7; obtain ⟨hcz8_0, hcz8_1, hfz8_0, hfz8_1⟩ := bC2 BK456; obtain ⟨Ao9, co9, eo9⟩ := Kd.R_slice HO455.out; subst eo9) | ((with_reducible refine gate_dst (N := 15) rfl ?_); (try (refine gate_guard (by rfl) ?_; dsimp only)); refine Kd.R_lit (Kd.int .i64) _ 3 ?hg (N := 15) ?hd (xs := ([] : List Int)) (inner := []) (ok := fun _ => True) (okp := fun _ => True) ?hr ?hp (fun _ hk => hk) trivial (Below.refl _ _) (Nat.le_refl _) (by simp) ?_; (case hd => rfl); (case hg => rfl); (case hr => first | (go_simp; done) | (go_simp; rfl)); (case hp => exact (Reps.none _ _)); intro v458 w10 ho11 hb hg_ hnew_; clear hg_ hnew_; (first | rw [← Ny457.out] at ho11 | (simp only [Int.reduceToNat] at ho11; rw [← Ny457.out] at ho11)); replace HO452 := ak (Kd.R_below (rT HO452 BK456 (by decide)) hb); replace HO455 := ak (Kd.R_below (rT HO455 BK456 (by decide)) hb); replace HO459 := ak (Kd.R_lower ho11 (below_size (lT HB (gC GE456 gN)))); replace BK456 := ak (blk_below (g := gb456) (o := .cells #[.slice Ao7 t450.length co7, .slice Ao9 t453.length co9] 27 (0, 0)) (by (with_reducible repeat (first | refine blk_drewN ?_ _ | refine blk_drew ?_ | refine blk_alloc ?_ _)); refine blk_put (cs := #[.slice Ao7 t450.length co7, .slice none 0 0]) ?_ 1 _ rfl; (with_reducible repeat (first | refine blk_drewN ?_ _ | refine blk_drew ?_ | refine blk_alloc ?_ _)); refine blk_put (cs := #[.slice none 0 0, .slice none 0 0]) ?_ 0 _ rfl; (with_reducible repeat (first | refine blk_drewN ?_ _ | refine blk_drew ?_ | refine blk_alloc ?_ _)); exact BK456.out) hb); replace HB := ak (below_step (lT HB (gC GE456 gN)) hb); clear hb ho11))
  go_loopg [4, 5] k (fun kq v4 v5 w' => ∃ (x4_1 : List Int) (x5_1 : Int), v5 = .int .i64 x5_1 ∧ Aside0 (laws_FnCrashes.l0 kq l0 x4_1 x5_1 t450 t453 = some r) ∧ Aside0 (kq ≤ k) ∧ Aside0 (Kd.R (Kd.int .i64) 3 w' w.heap.size (fun _ => True) v4 x4_1) ∧ Aside0 (Kd.R Kd.string 9 w' w.heap.size (fun _ => True) (.slice Ao7 t450.length co7) t450) ∧ Aside0 (Kd.R k63 63 w' w.heap.size (fun _ => True) (.slice Ao9 t453.length co9) t453) ∧ Aside0 (w'.heap[gb456]? = some (.cells #[(.slice Ao7 t450.length co7), (.slice Ao9 t453.length co9)] 27 (0, 0))) ∧ Aside0 (Below w.heap.size w w'))
  case atStart => exact ⟨(y457), (0), (by first | rfl | (simp; done) | (simp [*]; done)), H', ⟨Nat.le_refl _⟩, ⟨by (with_reducible repeat (first | apply Kd.R_alloc | apply Kd.R_drewN | apply Kd.R_drew)); exact HO459.out⟩, ⟨by (with_reducible repeat (first | apply Kd.R_alloc | apply Kd.R_drewN | apply Kd.R_drew)); exact HO452.out⟩, ⟨by (with_reducible repeat (first | apply Kd.R_alloc | apply Kd.R_drewN | apply Kd.R_drew)); exact HO455.out⟩, ⟨by (with_reducible repeat (first | refine blk_drewN ?_ _ | refine blk_drew ?_ | refine blk_alloc ?_ _)); exact BK456.out⟩, ⟨by exact lT HB (gC GE456 gN)⟩⟩
  case round =>
   clear H'
   try clear c1
   try clear p2
   try clear c3
   try clear c5
   try clear c9
   try clear c10
   try clear hcz8_0
   try clear hcz8_1
   try clear hfz8_0
   try clear hfz8_1
   obtain ⟨x4_1, x5_1, rfl, HA, HK1, HO_4, HO_457000, HO_457001, BK456, HB⟩ := hrel
   cases gk with
   | zero => exact absurd HA.out (by simp [laws_FnCrashes.l0])
   | succ k1 =>
    have H := HA.out
    clear HA
    simp only [laws_FnCrashes.l0] at H
    by_cases c12 : x5_1 < (t453.length : Int)
    ·rw [if_pos c12] at H
     have c12b0 : decide (x5_1 < (t453.length : Int)) = true := decide_eq_true c12
     clear c12
     by_cases c13 : x4_1.length < 17592186044416
     ·rw [if_pos c13] at H
      have LMc13 := Aside0.mk c13
      clear c13
      obtain ⟨y460, hy460⟩ : ∃ y_ : List Int, y_ = (x4_1 ++ [1]) := ⟨_, rfl⟩
      replace H : (laws_FnCrashes.l0 k1 l0 y460 (wrap64 (x5_1 + 1)) t450 t453) = some r := by first | (rw [hy460]; with_reducible exact H) | (have H2_ := (Option.bind_some _ _).symm.trans H; rw [hy460]; with_reducible exact H2_) | (have H2_ := (Option.bind_some _ _).symm.trans H; with_reducible exact H2_) | with_reducible exact H | (rw [hy460]; exact H) | exact H
      have Ny460 := Aside0.mk hy460
      clear hy460
      have H' := Aside0.mk H
      clear H
      have hcz14_0 : wr.cell? ⟨gb456, 0, none⟩ = some (.slice Ao7 t450.length co7) := (blk_cell BK456.out 0).trans rfl
      have hcz14_1 : wr.cell? ⟨gb456, 1, none⟩ = some (.slice Ao9 t453.length co9) := (blk_cell BK456.out 1).trans rfl
      have hfz14_0 := blk_frozen BK456.out 0
      have hfz14_1 := blk_frozen BK456.out 1
      go_wp2_with (first | ((with_reducible refine gate_builtin (b := .append) (xs := #[.tmp 23, .tmp 24]) rfl ?_); (try (refine gate_guard (by rfl) ?_; dsimp only)); at_builtin; refine Kd.R_append (Kd.int .i64) (w0 := w) w.heap.size rfl (.tmp 23) (.tmp 24) 29 3 (.int .i64 0) 8 rfl Try.underlying29 info3 rfl (by decide) (by omega) u4 x4_1 1 [.int .i64 1] (fun _ => True) (fun _ => False) rfl rfl ?aP (fun _ hk => hk.elim) ?aF ?aO ?aB ?aS ?aL ?_; (case aP => exact rfl); (case aB => exact (lT HB (gC GE456 gN))); (case aF => exact (fun _ _ => trivial)); (case aO => exact (rG HO_4)); (case aS => exact (below_size (lT HB (gC GE456 gN)))); (case aL => have := LMc13.out; omega); intro v461 w15 ho hb hg hat; rw [← Ny460.out] at ho; have n0_ := ak (Kd.R_over' (rG HO_457000) (Kd.R_typed (rG HO_4)) (by decide) hg); have n1_ := ak (Kd.R_over' (rG HO_457001) (Kd.R_typed (rG HO_4)) (by decide) hg); have n2_ := ak (blk_grown (g := gb456) (o := .cells #[.slice Ao7 t450.length co7, .slice Ao9 t453.length co9] 27 (0, 0)) (bG BK456) hg (Kd.R_ne HO_4.out BK456.out (by decide))); have n3_ := ak (hb); have n4_ := ak (ho); clear HO_457000; clear HO_457001; clear BK456; clear HB; clear HO_4; have HO_457000 := n0_; have HO_457001 := n1_; have BK456 := n2_; have HB := n3_; have HO462 := n4_; clear n0_ n1_ n2_ n3_ n4_; clear ho hb hg hat))
      go_roundg k1
      case measure => have := HK1.out; omega
      case rel => exact ⟨(y460), (wrap64 (x5_1 + 1)), (by first | rfl | (simp; done) | (simp [*]; done)), H', ⟨by have := HK1.out; omega⟩, ⟨by (with_reducible repeat (first | apply Kd.R_alloc | apply Kd.R_drewN | apply Kd.R_drew)); exact HO462.out⟩, ⟨by (with_reducible repeat (first | apply Kd.R_alloc | apply Kd.R_drewN | apply Kd.R_drew)); exact HO_457000.out⟩, ⟨by (with_reducible repeat (first | apply Kd.R_alloc | apply Kd.R_drewN | apply Kd.R_drew)); exact HO_457001.out⟩, ⟨by (with_reducible repeat (first | refine blk_drewN ?_ _ | refine blk_drew ?_ | refine blk_alloc ?_ _)); exact BK456.out⟩, ⟨by exact lT HB (gC GE456 gN)⟩⟩
     ·rw [if_neg c13] at H
      exact absurd H (by simp)
    ·rw [if_neg c12] at H
     have c12b0 : decide (x5_1 < (t453.length : Int)) = false := decide_eq_false c12
     clear c12
     obtain ⟨y463, hy463⟩ : ∃ y_ : List Int, y_ = (([] : List Int)) := ⟨_, rfl⟩
     replace H : ((impl_CrashDisk.f k1 t450 t453 y463 5).bind fun bt466 => ((impl_CrashDisk.f k1 t450 t453 x4_1 32).bind fun bt473 => ((spec_DrawCrashDisk.f k1 l0).bind fun bt480 => ((laws_sameTexts.f k1 bt466.1 t450).bind fun t491 => (if t491 = true then (if (bt466.2.length : Int) = 0 then ((impl_FlushDisk.f k1 t450 t453).bind fun bt492 => ((laws_sameDisk.f k1 bt473.1 bt473.2 bt492.1 bt492.2).bind fun t498 => (if t498 = true then ((impl_CrashDisk.f k1 bt480.1 bt480.2.1 bt480.2.2.1 bt480.2.2.2).bind fun bt499 => ((spec_CrashDisk.f k1 bt480.1 bt480.2.1 bt480.2.2.1 bt480.2.2.2).bind fun bt505 => ((laws_sameDisk.f k1 bt499.1 bt499.2 bt505.1 bt505.2).bind fun t511 => (if t511 = true then ((impl_DiskOk.f bt473.1 bt473.2).bind fun t512 => (some t512)) else (some false))))) else (some false)))) else (some false)) else (some false)))))) = some r := by first | (rw [hy463]; with_reducible exact H) | (have H2_ := (Option.bind_some _ _).symm.trans H; rw [hy463]; with_reducible exact H2_) | (have H2_ := (Option.bind_some _ _).symm.trans H; with_reducible exact H2_) | with_reducible exact H | (rw [hy463]; exact H) | exact H
     have Ny463 := Aside0.mk hy463
     clear hy463
     replace H := Option.bind_eq_some_iff.mp H
     obtain ⟨⟨t466, t469⟩, A160, H⟩ := H
     replace H : ((impl_CrashDisk.f k1 t450 t453 x4_1 32).bind fun bt473 => ((spec_DrawCrashDisk.f k1 l0).bind fun bt480 => ((laws_sameTexts.f k1 t466 t450).bind fun t491 => (if t491 = true then (if (t469.length : Int) = 0 then ((impl_FlushDisk.f k1 t450 t453).bind fun bt492 => ((laws_sameDisk.f k1 bt473.1 bt473.2 bt492.1 bt492.2).bind fun t498 => (if t498 = true then ((impl_CrashDisk.f k1 bt480.1 bt480.2.1 bt480.2.2.1 bt480.2.2.2).bind fun bt499 => ((spec_CrashDisk.f k1 bt480.1 bt480.2.1 bt480.2.2.1 bt480.2.2.2).bind fun bt505 => ((laws_sameDisk.f k1 bt499.1 bt499.2 bt505.1 bt505.2).bind fun t511 => (if t511 = true then ((impl_DiskOk.f bt473.1 bt473.2).bind fun t512 => (some t512)) else (some false))))) else (some false)))) else (some false)) else (some false))))) = some r := H
     have A16 := Aside0.mk A160
     clear A160
     replace H := Option.bind_eq_some_iff.mp H
     obtain ⟨⟨t473, t476⟩, A170, H⟩ := H
     replace H : ((spec_DrawCrashDisk.f k1 l0).bind fun bt480 => ((laws_sameTexts.f k1 t466 t450).bind fun t491 => (if t491 = true then (if (t469.length : Int) = 0 then ((impl_FlushDisk.f k1 t450 t453).bind fun bt492 => ((laws_sameDisk.f k1 t473 t476 bt492.1 bt492.2).bind fun t498 => (if t498 = true then ((impl_CrashDisk.f k1 bt480.1 bt480.2.1 bt480.2.2.1 bt480.2.2.2).bind fun bt499 => ((spec_CrashDisk.f k1 bt480.1 bt480.2.1 bt480.2.2.1 bt480.2.2.2).bind fun bt505 => ((laws_sameDisk.f k1 bt499.1 bt499.2 bt505.1 bt505.2).bind fun t511 => (if t511 = true then ((impl_DiskOk.f t473 t476).bind fun t512 => (some t512)) else (some false))))) else (some false)))) else (some false)) else (some false)))) = some r := H
     have A17 := Aside0.mk A170
     clear A170
     replace H := Option.bind_eq_some_iff.mp H
     obtain ⟨⟨t480, t483, t486, t489⟩, A180, H⟩ := H
     replace H : ((laws_sameTexts.f k1 t466 t450).bind fun t491 => (if t491 = true then (if (t469.length : Int) = 0 then ((impl_FlushDisk.f k1 t450 t453).bind fun bt492 => ((laws_sameDisk.f k1 t473 t476 bt492.1 bt492.2).bind fun t498 => (if t498 = true then ((impl_CrashDisk.f k1 t480 t483 t486 t489).bind fun bt499 => ((spec_CrashDisk.f k1 t480 t483 t486 t489).bind fun bt505 => ((laws_sameDisk.f k1 bt499.1 bt499.2 bt505.1 bt505.2).bind fun t511 => (if t511 = true then ((impl_DiskOk.f t473 t476).bind fun t512 => (some t512)) else (some false))))) else (some false)))) else (some false)) else (some false))) = some r := H
     have A18 := Aside0.mk A180
     clear A180
     replace H := Option.bind_eq_some_iff.mp H
     obtain ⟨t491, A190, H⟩ := H
     replace H : (if t491 = true then (if (t469.length : Int) = 0 then ((impl_FlushDisk.f k1 t450 t453).bind fun bt492 => ((laws_sameDisk.f k1 t473 t476 bt492.1 bt492.2).bind fun t498 => (if t498 = true then ((impl_CrashDisk.f k1 t480 t483 t486 t489).bind fun bt499 => ((spec_CrashDisk.f k1 t480 t483 t486 t489).bind fun bt505 => ((laws_sameDisk.f k1 bt499.1 bt499.2 bt505.1 bt505.2).bind fun t511 => (if t511 = true then ((impl_DiskOk.f t473 t476).bind fun t512 => (some t512)) else (some false))))) else (some false)))) else (some false)) else (some false)) = some r := H
     have A19 := Aside0.mk A190
     clear A190
     by_cases c20 : t491 = true
     ·subst c20
      have H1 : (if (t469.length : Int) = 0 then ((impl_FlushDisk.f k1 t450 t453).bind fun bt492 => ((laws_sameDisk.f k1 t473 t476 bt492.1 bt492.2).bind fun t498 => (if t498 = true then ((impl_CrashDisk.f k1 t480 t483 t486 t489).bind fun bt499 => ((spec_CrashDisk.f k1 t480 t483 t486 t489).bind fun bt505 => ((laws_sameDisk.f k1 bt499.1 bt499.2 bt505.1 bt505.2).bind fun t511 => (if t511 = true then ((impl_DiskOk.f t473 t476).bind fun t512 => (some t512)) else (some false))))) else (some false)))) else (some false)) = some r := by rw [if_pos rfl] at H; exact H
      clear H
      have H := H1
      clear H1
      by_cases c21 : (t469.length : Int) = 0
      ·rw [if_pos c21] at H
       have c21b0 : ((t469.length : Int) == 0) = true := beq_iff_eq.mpr c21
       have c21b1 : ((t469.length : Int) != 0) = false := bne_eq_false_iff_eq.mpr c21
       clear c21
       replace H := Option.bind_eq_some_iff.mp H
       obtain ⟨⟨t492, t495⟩, A220, H⟩ := H
       replace H : ((laws_sameDisk.f k1 t473 t476 t492 t495).bind fun t498 => (if t498 = true then ((impl_CrashDisk.f k1 t480 t483 t486 t489).bind fun bt499 => ((spec_CrashDisk.f k1 t480 t483 t486 t489).bind fun bt505 => ((laws_sameDisk.f k1 bt499.1 bt499.2 bt505.1 bt505.2).bind fun t511 => (if t511 = true then ((impl_DiskOk.f t473 t476).bind fun t512 => (some t512)) else (some false))))) else (some false))) = some r := H
       have A22 := Aside0.mk A220
       clear A220
       replace H := Option.bind_eq_some_iff.mp H
       obtain ⟨t498, A230, H⟩ := H
       replace H : (if t498 = true then ((impl_CrashDisk.f k1 t480 t483 t486 t489).bind fun bt499 => ((spec_CrashDisk.f k1 t480 t483 t486 t489).bind fun bt505 => ((laws_sameDisk.f k1 bt499.1 bt499.2 bt505.1 bt505.2).bind fun t511 => (if t511 = true then ((impl_DiskOk.f t473 t476).bind fun t512 => (some t512)) else (some false))))) else (some false)) = some r := H
       have A23 := Aside0.mk A230
       clear A230
       by_cases c24 : t498 = true
       ·subst c24
        have H1 : ((impl_CrashDisk.f k1 t480 t483 t486 t489).bind fun bt499 => ((spec_CrashDisk.f k1 t480 t483 t486 t489).bind fun bt505 => ((laws_sameDisk.f k1 bt499.1 bt499.2 bt505.1 bt505.2).bind fun t511 => (if t511 = true then ((impl_DiskOk.f t473 t476).bind fun t512 => (some t512)) else (some false))))) = some r := by rw [if_pos rfl] at H; exact H
        clear H
        have H := H1
        clear H1
        replace H := Option.bind_eq_some_iff.mp H
        obtain ⟨⟨t499, t502⟩, A250, H⟩ := H
        replace H : ((spec_CrashDisk.f k1 t480 t483 t486 t489).bind fun bt505 => ((laws_sameDisk.f k1 t499 t502 bt505.1 bt505.2).bind fun t511 => (if t511 = true then ((impl_DiskOk.f t473 t476).bind fun t512 => (some t512)) else (some false)))) = some r := H
        have A25 := Aside0.mk A250
        clear A250
        replace H := Option.bind_eq_some_iff.mp H
        obtain ⟨⟨t505, t508⟩, A260, H⟩ := H
        replace H : ((laws_sameDisk.f k1 t499 t502 t505 t508).bind fun t511 => (if t511 = true then ((impl_DiskOk.f t473 t476).bind fun t512 => (some t512)) else (some false))) = some r := H
        have A26 := Aside0.mk A260
        clear A260
        replace H := Option.bind_eq_some_iff.mp H
        obtain ⟨t511, A270, H⟩ := H
        replace H : (if t511 = true then ((impl_DiskOk.f t473 t476).bind fun t512 => (some t512)) else (some false)) = some r := H
        have A27 := Aside0.mk A270
        clear A270
        by_cases c28 : t511 = true
        ·subst c28
         have H1 : ((impl_DiskOk.f t473 t476).bind fun t512 => (some t512)) = some r := by rw [if_pos rfl] at H; exact H
         clear H
         have H := H1
         clear H1
         replace H := Option.bind_eq_some_iff.mp H
         obtain ⟨t512, A290, H⟩ := H
         replace H : (some t512) = some r := H
         have A29 := Aside0.mk A290
         clear A290
         obtain rfl := Option.some.inj H
         have hcz30_0 : wr.cell? ⟨gb456, 0, none⟩ = some (.slice Ao7 t450.length co7) := (blk_cell BK456.out 0).trans rfl
         have hcz30_1 : wr.cell? ⟨gb456, 1, none⟩ = some (.slice Ao9 t453.length co9) := (blk_cell BK456.out 1).trans rfl
         have hfz30_0 := blk_frozen BK456.out 0
         have hfz30_1 := blk_frozen BK456.out 1
         try go_wp2_with (first | ((with_reducible refine gate_dst (N := 27) rfl ?_); (try (refine gate_guard (by rfl) ?_; dsimp only)); refine Kd.R_lit (Kd.int .i64) _ 3 ?hg (N := 27) ?hd (xs := ([] : List Int)) (inner := []) (ok := fun _ => True) (okp := fun _ => True) ?hr ?hp (fun _ hk => hk) trivial (Below.refl _ _) (Nat.le_refl _) (by simp) ?_; (case hd => rfl); (case hg => rfl); (case hr => first | (go_simp; done) | (go_simp; rfl)); (case hp => exact (Reps.none _ _)); intro v464 w31 ho32 hb hg_ hnew_; clear hg_ hnew_; (first | rw [← Ny463.out] at ho32 | (simp only [Int.reduceToNat] at ho32; rw [← Ny463.out] at ho32)); replace HO_457000 := rB HO_457000 hb; replace HO_457001 := rB HO_457001 hb; replace HO465 := ak (Kd.R_lower (Kd.R_new' ho32 (Kd.R_lt (rG HO_4))) (below_size (lT HB (gC GE456 gN)))); replace HO_4 := ak (Kd.R_elder' (rG HO_4) (Kd.R_base ho32) hb); replace BK456 := bB BK456 hb; replace HB := ak (below_step (lT HB (gC GE456 gN)) hb); clear hb ho32; obtain ⟨Ao33, co33, eo33⟩ := Kd.R_slice HO465.out; subst eo33) | ((with_reducible refine gate_callee (f := 17) rfl ?_); refine gl (some 28) Try.func17 #[.agg #[.slice Ao7 t450.length co7, .slice Ao9 t453.length co9], .slice Ao33 y463.length co33, .int .i64 5] ?_; (with_reducible refine (impl_CrashDisk.calls k1 _ _ t450 _ _ t453 _ _ y463 5 t466 t469 _ ?side1 ?side2 ?side3 ?side4 ?side5 ?side6 A16.out).mono ?_); (case side1 => exact cG (Kd.R_reads' HO_457000.out).2.2); (case side2 => exact (Kd.R_reads' HO_457000.out).2.1); (case side3 => exact cG (Kd.R_reads' HO_457001.out).2.2); (case side4 => exact (Kd.R_reads' HO_457001.out).2.1); (case side5 => exact cG (Kd.R_reads' HO465.out).2.2); (case side6 => exact (Kd.R_reads' HO465.out).2.1); rintro e w34 ⟨v467, v470, rfl, ho0, ho1, hb⟩; refine ⟨_, rfl, ?_⟩; replace HO_4 := rB HO_4 hb; replace HO465 := rB HO465 hb; replace HO468 := ak (Kd.R_lower (Kd.R_new' ho0 (Kd.R_lt (rG HO_457000))) (below_size (lT HB (gC GE456 gN)))); replace HO_457000 := ak (Kd.R_elder' (rG HO_457000) (Kd.R_base ho0) hb); replace HO471 := ak (Kd.R_lower (Kd.R_new' ho1 (Kd.R_lt (rG HO_457001))) (below_size (lT HB (gC GE456 gN)))); replace HO_457001 := ak (Kd.R_elder' (rG HO_457001) (Kd.R_base ho1) hb); replace BK456 := bB BK456 hb; replace HB := ak (below_step (lT HB (gC GE456 gN)) hb); (try clear hb); (try clear hk); (try clear ho0); (try clear ho1)) | ((with_reducible refine gate_dst (N := 6) rfl ?_); (try (refine gate_guard (by rfl) ?_; dsimp only)); refine bx 6 #[.slice none 0 0, .slice none 0 0] 27 ?_; intro gb472 hg w35 hbox hb; replace HO_4 := rB HO_4 hb; replace HO_457000 := rB HO_457000 hb; replace HO_457001 := rB HO_457001 hb; replace HO465 := rB HO465 hb; replace HO468 := rB HO468 hb; replace HO471 := rB HO471 hb; replace BK472 := ak (hbox); replace GW472 := ak (bz hg (lT HB (gC GE456 gN))); replace GE472 := ak (bz hg (lT HB (gC GE456 gN))); replace HB := ak (below_step (lT HB (gC GE456 gN)) hb); replace NB456_472 := ak (nl hg (bG BK456)); replace NB472_456 := ak (ng hg (bG BK456)); replace BK456 := bB BK456 hb; clear hb hbox hg; obtain ⟨Ao36, co36, eo36⟩ := Kd.R_slice HO468.out; subst eo36; have hnb37 := NB472_456.out; have hnc37 := NB456_472.out; obtain ⟨hcz38_0, hcz38_1, hfz38_0, hfz38_1⟩ := bC2 BK472; obtain ⟨Ao39, co39, eo39⟩ := Kd.R_slice HO471.out; subst eo39; obtain ⟨hcz40_0, hcz40_1, hfz40_0, hfz40_1⟩ := bC2 BK456; obtain ⟨Ao41, co41, eo41⟩ := Kd.R_slice HO_4.out; subst eo41) | ((with_reducible refine gate_callee (f := 17) rfl ?_); refine gl (some 31) Try.func17 #[.agg #[.slice Ao7 t450.length co7, .slice Ao9 t453.length co9], .slice Ao41 x4_1.length co41, .int .i64 32] ?_; (with_reducible refine (impl_CrashDisk.calls k1 _ _ t450 _ _ t453 _ _ x4_1 32 t473 t476 _ ?side1 ?side2 ?side3 ?side4 ?side5 ?side6 A17.out).mono ?_); (case side1 => exact (Kd.R_reads' (rT HO_457000 BK472 (by decide))).2.2); (case side2 => exact (Kd.R_reads' HO_457000.out).2.1); (case side3 => exact (Kd.R_reads' (rT HO_457001 BK472 (by decide))).2.2); (case side4 => exact (Kd.R_reads' HO_457001.out).2.1); (case side5 => exact (Kd.R_reads' (rT HO_4 BK472 (by decide))).2.2); (case side6 => exact (Kd.R_reads' HO_4.out).2.1); rintro e w42 ⟨v474, v477, rfl, ho0, ho1, hb⟩; refine ⟨_, rfl, ?_⟩; replace HO_4 := ak (Kd.R_below (rT HO_4 BK472 (by decide)) hb); replace HO465 := ak (Kd.R_below (rT HO465 BK472 (by decide)) hb); replace HO475 := ak (Kd.R_lower (Kd.R_new' (Kd.R_new' ho0 (Kd.R_lt (rT HO_457000 BK472 (by decide)))) (Kd.R_lt (rT HO468 BK472 (by decide)))) (below_size (lT HB (gC GE456 (gC GE472 gN))))); replace HO_457000 := ak (Kd.R_elder' (rT HO_457000 BK472 (by decide)) (Kd.R_base ho0) hb); replace HO468 := ak (Kd.R_elder' (rT HO468 BK472 (by decide)) (Kd.R_base ho0) hb); replace HO478 := ak (Kd.R_lower (Kd.R_new' (Kd.R_new' ho1 (Kd.R_lt (rT HO_457001 BK472 (by decide)))) (Kd.R_lt (rT HO471 BK472 (by decide)))) (below_size (lT HB (gC GE456 (gC GE472 gN))))); replace HO_457001 := ak (Kd.R_elder' (rT HO_457001 BK472 (by decide)) (Kd.R_base ho1) hb); replace HO471 := ak (Kd.R_elder' (rT HO471 BK472 (by decide)) (Kd.R_base ho1) hb); replace BK456 := ak (blk_below (bT BK456 (nC NB456_472 nN)) hb); replace BK472 := ak (blk_below (g := gb472) (o := .cells #[.slice Ao36 t466.length co36, .slice Ao39 t469.length co39] 27 (0, 0)) (by (with_reducible repeat (first | refine blk_drewN ?_ _ | refine blk_drew ?_ | refine blk_alloc ?_ _)); refine blk_put (cs := #[.slice Ao36 t466.length co36, .slice none 0 0]) ?_ 1 _ rfl; (with_reducible repeat (first | refine blk_drewN ?_ _ | refine blk_drew ?_ | refine blk_alloc ?_ _)); refine blk_put (cs := #[.slice none 0 0, .slice none 0 0]) ?_ 0 _ rfl; (with_reducible repeat (first | refine blk_drewN ?_ _ | refine blk_drew ?_ | refine blk_alloc ?_ _)); exact BK472.out) hb); replace HB := ak (below_step (lT HB (gC GE456 (gC GE472 gN))) hb); (try clear hb); (try clear hk); (try clear ho0); (try clear ho1)) | ((with_reducible refine gate_dst (N := 7) rfl ?_); (try (refine gate_guard (by rfl) ?_; dsimp only)); refine bx 7 #[.slice none 0 0, .slice none 0 0] 27 ?_; intro gb479 hg w43 hbox hb; replace HO_4 := rB HO_4 hb; replace HO_457000 := rB HO_457000 hb; replace HO_457001 := rB HO_457001 hb; replace HO465 := rB HO465 hb; replace HO468 := rB HO468 hb; replace HO471 := rB HO471 hb; replace HO475 := rB HO475 hb; replace HO478 := rB HO478 hb; replace BK479 := ak (hbox); replace GW479 := ak (bz hg (lT HB (gC GE456 (gC GE472 gN)))); replace GE479 := ak (bz hg (lT HB (gC GE456 (gC GE472 gN)))); replace HB := ak (below_step (lT HB (gC GE456 (gC GE472 gN))) hb); replace NB456_479 := ak (nl hg (bG BK456)); replace NB479_456 := ak (ng hg (bG BK456)); replace BK456 := bB BK456 hb; replace NB472_479 := ak (nl hg (bG BK472)); replace NB479_472 := ak (ng hg (bG BK472)); replace BK472 := bB BK472 hb; clear hb hbox hg; obtain ⟨Ao44, co44, eo44⟩ := Kd.R_slice HO475.out; subst eo44; have hnb45 := NB479_456.out; have hnc45 := NB456_479.out; have hnb46 := NB479_472.out; have hnc46 := NB472_479.out; obtain ⟨hcz47_0, hcz47_1, hfz47_0, hfz47_1⟩ := bC2 BK479; obtain ⟨Ao48, co48, eo48⟩ := Kd.R_slice HO478.out; subst eo48) | ((with_reducible refine gate_callee (f := 18) rfl ?_); refine gl (some 34) Try.func18 #[.slice A0 l0.length c0] ?_; (with_reducible refine (spec_DrawCrashDisk.calls k1 _ _ l0 t480 t483 t486 t489 _ ?side1 ?side2 A18.out).mono ?_); (case side1 => exact Kd.C_below HR0.out (lT HB (gC GE456 (gC GE472 (gC GE479 gN))))); (case side2 => exact HC0.out); rintro e w49 ⟨v481, v484, v487, rfl, ho0, ho1, ho2, hb⟩; refine ⟨_, rfl, ?_⟩; replace HO482 := ak (Kd.R_lower (Kd.R_new' (Kd.R_new' (Kd.R_new' ho0 (Kd.R_lt (rT HO_457000 BK479 (by decide)))) (Kd.R_lt (rT HO468 BK479 (by decide)))) (Kd.R_lt (rT HO475 BK479 (by decide)))) (below_size (lT HB (gC GE456 (gC GE472 (gC GE479 gN)))))); replace HO_457000 := ak (Kd.R_elder' (rT HO_457000 BK479 (by decide)) (Kd.R_base ho0) hb); replace HO468 := ak (Kd.R_elder' (rT HO468 BK479 (by decide)) (Kd.R_base ho0) hb); replace HO475 := ak (Kd.R_elder' (rT HO475 BK479 (by decide)) (Kd.R_base ho0) hb); replace HO485 := ak (Kd.R_lower (Kd.R_new' (Kd.R_new' (Kd.R_new' ho1 (Kd.R_lt (rT HO_457001 BK479 (by decide)))) (Kd.R_lt (rT HO471 BK479 (by decide)))) (Kd.R_lt (rT HO478 BK479 (by decide)))) (below_size (lT HB (gC GE456 (gC GE472 (gC GE479 gN)))))); replace HO_457001 := ak (Kd.R_elder' (rT HO_457001 BK479 (by decide)) (Kd.R_base ho1) hb); replace HO471 := ak (Kd.R_elder' (rT HO471 BK479 (by decide)) (Kd.R_base ho1) hb); replace HO478 := ak (Kd.R_elder' (rT HO478 BK479 (by decide)) (Kd.R_base ho1) hb); replace HO488 := ak (Kd.R_lower (Kd.R_new' (Kd.R_new' ho2 (Kd.R_lt (rT HO_4 BK479 (by decide)))) (Kd.R_lt (rT HO465 BK479 (by decide)))) (below_size (lT HB (gC GE456 (gC GE472 (gC GE479 gN)))))); replace HO_4 := ak (Kd.R_elder' (rT HO_4 BK479 (by decide)) (Kd.R_base ho2) hb); replace HO465 := ak (Kd.R_elder' (rT HO465 BK479 (by decide)) (Kd.R_base ho2) hb); replace BK456 := ak (blk_below (bT BK456 (nC NB456_479 nN)) hb); replace BK472 := ak (blk_below (bT BK472 (nC NB472_479 nN)) hb); replace BK479 := ak (blk_below (g := gb479) (o := .cells #[.slice Ao44 t473.length co44, .slice Ao48 t476.length co48] 27 (0, 0)) (by (with_reducible repeat (first | refine blk_drewN ?_ _ | refine blk_drew ?_ | refine blk_alloc ?_ _)); refine blk_put (cs := #[.slice Ao44 t473.length co44, .slice none 0 0]) ?_ 1 _ rfl; (with_reducible repeat (first | refine blk_drewN ?_ _ | refine blk_drew ?_ | refine blk_alloc ?_ _)); refine blk_put (cs := #[.slice none 0 0, .slice none 0 0]) ?_ 0 _ rfl; (with_reducible repeat (first | refine blk_drewN ?_ _ | refine blk_drew ?_ | refine blk_alloc ?_ _)); exact BK479.out) hb); replace HB := ak (below_step (lT HB (gC GE456 (gC GE472 (gC GE479 gN)))) hb); (try clear hb); (try clear hk); (try clear ho0); (try clear ho1); (try clear ho2)) | ((with_reducible refine gate_dst (N := 8) rfl ?_); (try (refine gate_guard (by rfl) ?_; dsimp only)); refine bx 8 #[.slice none 0 0, .slice none 0 0] 27 ?_; intro gb490 hg w50 hbox hb; replace HO_4 := rB HO_4 hb; replace HO_457000 := rB HO_457000 hb; replace HO_457001 := rB HO_457001 hb; replace HO465 := rB HO465 hb; replace HO468 := rB HO468 hb; replace HO471 := rB HO471 hb; replace HO475 := rB HO475 hb; replace HO478 := rB HO478 hb; replace HO482 := rB HO482 hb; replace HO485 := rB HO485 hb; replace HO488 := rB HO488 hb; replace BK490 := ak (hbox); replace GW490 := ak (bz hg (lT HB (gC GE456 (gC GE472 (gC GE479 gN))))); replace GE490 := ak (bz hg (lT HB (gC GE456 (gC GE472 (gC GE479 gN))))); replace HB := ak (below_step (lT HB (gC GE456 (gC GE472 (gC GE479 gN)))) hb); replace NB456_490 := ak (nl hg (bG BK456)); replace NB490_456 := ak (ng hg (bG BK456)); replace BK456 := bB BK456 hb; replace NB472_490 := ak (nl hg (bG BK472)); replace NB490_472 := ak (ng hg (bG BK472)); replace BK472 := bB BK472 hb; replace NB479_490 := ak (nl hg (bG BK479)); replace NB490_479 := ak (ng hg (bG BK479)); replace BK479 := bB BK479 hb; clear hb hbox hg; obtain ⟨Ao51, co51, eo51⟩ := Kd.R_slice HO482.out; subst eo51; have hnb52 := NB490_456.out; have hnc52 := NB456_490.out; have hnb53 := NB490_472.out; have hnc53 := NB472_490.out; have hnb54 := NB490_479.out; have hnc54 := NB479_490.out; obtain ⟨hcz55_0, hcz55_1, hfz55_0, hfz55_1⟩ := bC2 BK490; obtain ⟨Ao56, co56, eo56⟩ := Kd.R_slice HO485.out; subst eo56))
         have n0_ : Aside0 (Kd.R (Kd.int .i64) 3 ((w50.setCell ⟨gb490, 0, none⟩ (.slice Ao51 t480.length co51)).setCell ⟨gb490, 1, none⟩ (.slice Ao56 t483.length co56)) w.heap.size (fun k_ => some k_ ≠ (.slice Ao33 y463.length co33 : Value).ownBlock ∧ some k_ ≠ (v487 : Value).ownBlock) (.slice Ao41 x4_1.length co41) x4_1) := ⟨by (with_reducible repeat (first | apply Kd.R_alloc | apply Kd.R_drewN | apply Kd.R_drew)); exact Kd.R_mono (Kd.R_far (p := ⟨gb490, 1, none⟩) (Kd.R_far (p := ⟨gb490, 0, none⟩) (Kd.R_types HO_4.out BK490.out (by decide)) (fun _ hk => hk.2) (.slice Ao51 t480.length co51)) (fun _ hk => hk.2) (.slice Ao56 t483.length co56)) (fun _ hk => ⟨hk.1.1.2, hk.1.2⟩)⟩
         have n1_ : Aside0 (Kd.R Kd.string 9 ((w50.setCell ⟨gb490, 0, none⟩ (.slice Ao51 t480.length co51)).setCell ⟨gb490, 1, none⟩ (.slice Ao56 t483.length co56)) w.heap.size (fun k_ => some k_ ≠ (.slice Ao36 t466.length co36 : Value).ownBlock ∧ some k_ ≠ (.slice Ao44 t473.length co44 : Value).ownBlock ∧ some k_ ≠ (.slice Ao51 t480.length co51 : Value).ownBlock) (.slice Ao7 t450.length co7) t450) := ⟨by (with_reducible repeat (first | apply Kd.R_alloc | apply Kd.R_drewN | apply Kd.R_drew)); exact Kd.R_mono (Kd.R_far (p := ⟨gb490, 1, none⟩) (Kd.R_far (p := ⟨gb490, 0, none⟩) (Kd.R_types HO_457000.out BK490.out (by decide)) (fun _ hk => hk.2) (.slice Ao51 t480.length co51)) (fun _ hk => hk.2) (.slice Ao56 t483.length co56)) (fun _ hk => ⟨hk.1.1.1.2, ⟨hk.1.1.2, hk.1.2⟩⟩)⟩
         have n2_ : Aside0 (Kd.R k63 63 ((w50.setCell ⟨gb490, 0, none⟩ (.slice Ao51 t480.length co51)).setCell ⟨gb490, 1, none⟩ (.slice Ao56 t483.length co56)) w.heap.size (fun k_ => some k_ ≠ (.slice Ao39 t469.length co39 : Value).ownBlock ∧ some k_ ≠ (.slice Ao48 t476.length co48 : Value).ownBlock ∧ some k_ ≠ (.slice Ao56 t483.length co56 : Value).ownBlock) (.slice Ao9 t453.length co9) t453) := ⟨by (with_reducible repeat (first | apply Kd.R_alloc | apply Kd.R_drewN | apply Kd.R_drew)); exact Kd.R_mono (Kd.R_far (p := ⟨gb490, 1, none⟩) (Kd.R_far (p := ⟨gb490, 0, none⟩) (Kd.R_types HO_457001.out BK490.out (by decide)) (fun _ hk => hk.2) (.slice Ao51 t480.length co51)) (fun _ hk => hk.2) (.slice Ao56 t483.length co56)) (fun _ hk => ⟨hk.1.1.1.2, ⟨hk.1.1.2, hk.1.2⟩⟩)⟩
         have n3_ : Aside0 (Kd.R (Kd.int .i64) 3 ((w50.setCell ⟨gb490, 0, none⟩ (.slice Ao51 t480.length co51)).setCell ⟨gb490, 1, none⟩ (.slice Ao56 t483.length co56)) w.heap.size (fun k_ => some k_ ≠ (.slice Ao41 x4_1.length co41 : Value).ownBlock ∧ some k_ ≠ (v487 : Value).ownBlock) (.slice Ao33 y463.length co33) y463) := ⟨by (with_reducible repeat (first | apply Kd.R_alloc | apply Kd.R_drewN | apply Kd.R_drew)); exact Kd.R_mono (Kd.R_far (p := ⟨gb490, 1, none⟩) (Kd.R_far (p := ⟨gb490, 0, none⟩) (Kd.R_types HO465.out BK490.out (by decide)) (fun _ hk => hk.2) (.slice Ao51 t480.length co51)) (fun _ hk => hk.2) (.slice Ao56 t483.length co56)) (fun _ hk => ⟨hk.1.1.2, hk.1.2⟩)⟩
         have n4_ : Aside0 (Kd.R Kd.string 9 ((w50.setCell ⟨gb490, 0, none⟩ (.slice Ao51 t480.length co51)).setCell ⟨gb490, 1, none⟩ (.slice Ao56 t483.length co56)) w.heap.size (fun k_ => some k_ ≠ (.slice Ao7 t450.length co7 : Value).ownBlock ∧ some k_ ≠ (.slice Ao44 t473.length co44 : Value).ownBlock ∧ some k_ ≠ (.slice Ao51 t480.length co51 : Value).ownBlock) (.slice Ao36 t466.length co36) t466) := ⟨by (with_reducible repeat (first | apply Kd.R_alloc | apply Kd.R_drewN | apply Kd.R_drew)); exact Kd.R_mono (Kd.R_far (p := ⟨gb490, 1, none⟩) (Kd.R_far (p := ⟨gb490, 0, none⟩) (Kd.R_types HO468.out BK490.out (by decide)) (fun _ hk => hk.2) (.slice Ao51 t480.length co51)) (fun _ hk => hk.2) (.slice Ao56 t483.length co56)) (fun _ hk => ⟨hk.1.1.1.2, ⟨hk.1.1.2, hk.1.2⟩⟩)⟩
         have n5_ : Aside0 (Kd.R k63 63 ((w50.setCell ⟨gb490, 0, none⟩ (.slice Ao51 t480.length co51)).setCell ⟨gb490, 1, none⟩ (.slice Ao56 t483.length co56)) w.heap.size (fun k_ => some k_ ≠ (.slice Ao9 t453.length co9 : Value).ownBlock ∧ some k_ ≠ (.slice Ao48 t476.length co48 : Value).ownBlock ∧ some k_ ≠ (.slice Ao56 t483.length co56 : Value).ownBlock) (.slice Ao39 t469.length co39) t469) := ⟨by (with_reducible repeat (first | apply Kd.R_alloc | apply Kd.R_drewN | apply Kd.R_drew)); exact Kd.R_mono (Kd.R_far (p := ⟨gb490, 1, none⟩) (Kd.R_far (p := ⟨gb490, 0, none⟩) (Kd.R_types HO471.out BK490.out (by decide)) (fun _ hk => hk.2) (.slice Ao51 t480.length co51)) (fun _ hk => hk.2) (.slice Ao56 t483.length co56)) (fun _ hk => ⟨hk.1.1.1.2, ⟨hk.1.1.2, hk.1.2⟩⟩)⟩
         have n6_ : Aside0 (Kd.R Kd.string 9 ((w50.setCell ⟨gb490, 0, none⟩ (.slice Ao51 t480.length co51)).setCell ⟨gb490, 1, none⟩ (.slice Ao56 t483.length co56)) w.heap.size (fun k_ => some k_ ≠ (.slice Ao7 t450.length co7 : Value).ownBlock ∧ some k_ ≠ (.slice Ao36 t466.length co36 : Value).ownBlock ∧ some k_ ≠ (.slice Ao51 t480.length co51 : Value).ownBlock) (.slice Ao44 t473.length co44) t473) := ⟨by (with_reducible repeat (first | apply Kd.R_alloc | apply Kd.R_drewN | apply Kd.R_drew)); exact Kd.R_mono (Kd.R_far (p := ⟨gb490, 1, none⟩) (Kd.R_far (p := ⟨gb490, 0, none⟩) (Kd.R_types HO475.out BK490.out (by decide)) (fun _ hk => hk.2) (.slice Ao51 t480.length co51)) (fun _ hk => hk.2) (.slice Ao56 t483.length co56)) (fun _ hk => ⟨hk.1.1.1.2, ⟨hk.1.1.2, hk.1.2⟩⟩)⟩
         have n7_ : Aside0 (Kd.R k63 63 ((w50.setCell ⟨gb490, 0, none⟩ (.slice Ao51 t480.length co51)).setCell ⟨gb490, 1, none⟩ (.slice Ao56 t483.length co56)) w.heap.size (fun k_ => some k_ ≠ (.slice Ao9 t453.length co9 : Value).ownBlock ∧ some k_ ≠ (.slice Ao39 t469.length co39 : Value).ownBlock ∧ some k_ ≠ (.slice Ao56 t483.length co56 : Value).ownBlock) (.slice Ao48 t476.length co48) t476) := ⟨by (with_reducible repeat (first | apply Kd.R_alloc | apply Kd.R_drewN | apply Kd.R_drew)); exact Kd.R_mono (Kd.R_far (p := ⟨gb490, 1, none⟩) (Kd.R_far (p := ⟨gb490, 0, none⟩) (Kd.R_types HO478.out BK490.out (by decide)) (fun _ hk => hk.2) (.slice Ao51 t480.length co51)) (fun _ hk => hk.2) (.slice Ao56 t483.length co56)) (fun _ hk => ⟨hk.1.1.1.2, ⟨hk.1.1.2, hk.1.2⟩⟩)⟩
         have n8_ : Aside0 (Kd.R Kd.string 9 ((w50.setCell ⟨gb490, 0, none⟩ (.slice Ao51 t480.length co51)).setCell ⟨gb490, 1, none⟩ (.slice Ao56 t483.length co56)) w.heap.size (fun k_ => some k_ ≠ (.slice Ao7 t450.length co7 : Value).ownBlock ∧ some k_ ≠ (.slice Ao36 t466.length co36 : Value).ownBlock ∧ some k_ ≠ (.slice Ao44 t473.length co44 : Value).ownBlock) (.slice Ao51 t480.length co51) t480) := ⟨by (with_reducible repeat (first | apply Kd.R_alloc | apply Kd.R_drewN | apply Kd.R_drew)); exact Kd.R_mono (Kd.R_far (p := ⟨gb490, 1, none⟩) (Kd.R_far (p := ⟨gb490, 0, none⟩) (Kd.R_types HO482.out BK490.out (by decide)) (fun _ hk => hk.2) (.slice Ao51 t480.length co51)) (fun _ hk => hk.2) (.slice Ao56 t483.length co56)) (fun _ hk => ⟨hk.1.1.1.2, ⟨hk.1.1.2, hk.1.2⟩⟩)⟩
         have n9_ : Aside0 (Kd.R k63 63 ((w50.setCell ⟨gb490, 0, none⟩ (.slice Ao51 t480.length co51)).setCell ⟨gb490, 1, none⟩ (.slice Ao56 t483.length co56)) w.heap.size (fun k_ => some k_ ≠ (.slice Ao9 t453.length co9 : Value).ownBlock ∧ some k_ ≠ (.slice Ao39 t469.length co39 : Value).ownBlock ∧ some k_ ≠ (.slice Ao48 t476.length co48 : Value).ownBlock) (.slice Ao56 t483.length co56) t483) := ⟨by (with_reducible repeat (first | apply Kd.R_alloc | apply Kd.R_drewN | apply Kd.R_drew)); exact Kd.R_mono (Kd.R_far (p := ⟨gb490, 1, none⟩) (Kd.R_far (p := ⟨gb490, 0, none⟩) (Kd.R_types HO485.out BK490.out (by decide)) (fun _ hk => hk.2) (.slice Ao51 t480.length co51)) (fun _ hk => hk.2) (.slice Ao56 t483.length co56)) (fun _ hk => ⟨hk.1.1.1.2, ⟨hk.1.1.2, hk.1.2⟩⟩)⟩
         have n10_ : Aside0 (Kd.R (Kd.int .i64) 3 ((w50.setCell ⟨gb490, 0, none⟩ (.slice Ao51 t480.length co51)).setCell ⟨gb490, 1, none⟩ (.slice Ao56 t483.length co56)) w.heap.size (fun k_ => some k_ ≠ (.slice Ao41 x4_1.length co41 : Value).ownBlock ∧ some k_ ≠ (.slice Ao33 y463.length co33 : Value).ownBlock) v487 t486) := ⟨by (with_reducible repeat (first | apply Kd.R_alloc | apply Kd.R_drewN | apply Kd.R_drew)); exact Kd.R_mono (Kd.R_far (p := ⟨gb490, 1, none⟩) (Kd.R_far (p := ⟨gb490, 0, none⟩) (Kd.R_types HO488.out BK490.out (by decide)) (fun _ hk => hk.2) (.slice Ao51 t480.length co51)) (fun _ hk => hk.2) (.slice Ao56 t483.length co56)) (fun _ hk => ⟨hk.1.1.2, hk.1.2⟩)⟩
         have n11_ : Aside0 (((w50.setCell ⟨gb490, 0, none⟩ (.slice Ao51 t480.length co51)).setCell ⟨gb490, 1, none⟩ (.slice Ao56 t483.length co56)).heap[gb456]? = some (.cells #[.slice Ao7 t450.length co7, .slice Ao9 t453.length co9] 27 (0, 0))) := ⟨by (with_reducible repeat (first | refine blk_drewN ?_ _ | refine blk_drew ?_ | refine blk_alloc ?_ _)); refine blk_far ?_ NB456_490.out _; (with_reducible repeat (first | refine blk_drewN ?_ _ | refine blk_drew ?_ | refine blk_alloc ?_ _)); refine blk_far ?_ NB456_490.out _; (with_reducible repeat (first | refine blk_drewN ?_ _ | refine blk_drew ?_ | refine blk_alloc ?_ _)); exact BK456.out⟩
         have n12_ : Aside0 (((w50.setCell ⟨gb490, 0, none⟩ (.slice Ao51 t480.length co51)).setCell ⟨gb490, 1, none⟩ (.slice Ao56 t483.length co56)).heap[gb472]? = some (.cells #[.slice Ao36 t466.length co36, .slice Ao39 t469.length co39] 27 (0, 0))) := ⟨by (with_reducible repeat (first | refine blk_drewN ?_ _ | refine blk_drew ?_ | refine blk_alloc ?_ _)); refine blk_far ?_ NB472_490.out _; (with_reducible repeat (first | refine blk_drewN ?_ _ | refine blk_drew ?_ | refine blk_alloc ?_ _)); refine blk_far ?_ NB472_490.out _; (with_reducible repeat (first | refine blk_drewN ?_ _ | refine blk_drew ?_ | refine blk_alloc ?_ _)); exact BK472.out⟩
         have n13_ : Aside0 (((w50.setCell ⟨gb490, 0, none⟩ (.slice Ao51 t480.length co51)).setCell ⟨gb490, 1, none⟩ (.slice Ao56 t483.length co56)).heap[gb479]? = some (.cells #[.slice Ao44 t473.length co44, .slice Ao48 t476.length co48] 27 (0, 0))) := ⟨by (with_reducible repeat (first | refine blk_drewN ?_ _ | refine blk_drew ?_ | refine blk_alloc ?_ _)); refine blk_far ?_ NB479_490.out _; (with_reducible repeat (first | refine blk_drewN ?_ _ | refine blk_drew ?_ | refine blk_alloc ?_ _)); refine blk_far ?_ NB479_490.out _; (with_reducible repeat (first | refine blk_drewN ?_ _ | refine blk_drew ?_ | refine blk_alloc ?_ _)); exact BK479.out⟩
         have n14_ : Aside0 (((w50.setCell ⟨gb490, 0, none⟩ (.slice Ao51 t480.length co51)).setCell ⟨gb490, 1, none⟩ (.slice Ao56 t483.length co56)).heap[gb490]? = some (.cells #[.slice Ao51 t480.length co51, .slice Ao56 t483.length co56] 27 (0, 0))) := ⟨by (with_reducible repeat (first | refine blk_drewN ?_ _ | refine blk_drew ?_ | refine blk_alloc ?_ _)); refine blk_put (cs := #[.slice Ao51 t480.length co51, .slice none 0 0]) ?_ 1 _ rfl; (with_reducible repeat (first | refine blk_drewN ?_ _ | refine blk_drew ?_ | refine blk_alloc ?_ _)); refine blk_put (cs := #[.slice none 0 0, .slice none 0 0]) ?_ 0 _ rfl; (with_reducible repeat (first | refine blk_drewN ?_ _ | refine blk_drew ?_ | refine blk_alloc ?_ _)); exact BK490.out⟩
         have n15_ : Aside0 (Below w.heap.size w ((w50.setCell ⟨gb490, 0, none⟩ (.slice Ao51 t480.length co51)).setCell ⟨gb490, 1, none⟩ (.slice Ao56 t483.length co56))) := ⟨by exact lT HB (gC GE456 (gC GE472 (gC GE479 (gC GE490 gN))))⟩
         (try clear HO_4)
         (try clear HO_457000)
         (try clear HO_457001)
         (try clear HO465)
         (try clear HO468)
         (try clear HO471)
         (try clear HO475)
         (try clear HO478)
         (try clear HO482)
         (try clear HO485)
         (try clear HO488)
         (try clear BK456)
         (try clear BK472)
         (try clear BK479)
         (try clear BK490)
         (try clear HB)
         generalize ((w50.setCell ⟨gb490, 0, none⟩ (.slice Ao51 t480.length co51)).setCell ⟨gb490, 1, none⟩ (.slice Ao56 t483.length co56)) = w57 at n0_ n1_ n2_ n3_ n4_ n5_ n6_ n7_ n8_ n9_ n10_ n11_ n12_ n13_ n14_ n15_ ⊢
         have HO_4 := n0_
         have HO_457000 := n1_
         have HO_457001 := n2_
         have HO465 := n3_
         have HO468 := n4_
         have HO471 := n5_
         have HO475 := n6_
         have HO478 := n7_
         have HO482 := n8_
         have HO485 := n9_
         have HO488 := n10_
         have BK456 := n11_
         have BK472 := n12_
         have BK479 := n13_
         have BK490 := n14_
         have HB := n15_
         clear n0_ n1_ n2_ n3_ n4_ n5_ n6_ n7_ n8_ n9_ n10_ n11_ n12_ n13_ n14_ n15_
         replace HO_4 := ak (Kd.R_drew HO_4.out)
         replace HO_457000 := ak (Kd.R_drew HO_457000.out)
         replace HO_457001 := ak (Kd.R_drew HO_457001.out)
         replace HO465 := ak (Kd.R_drew HO465.out)
         replace HO468 := ak (Kd.R_drew HO468.out)
         replace HO471 := ak (Kd.R_drew HO471.out)
         replace HO475 := ak (Kd.R_drew HO475.out)
         replace HO478 := ak (Kd.R_drew HO478.out)
         replace HO482 := ak (Kd.R_drew HO482.out)
         replace HO485 := ak (Kd.R_drew HO485.out)
         replace HO488 := ak (Kd.R_drew HO488.out)
         replace BK456 := ak (blk_drew BK456.out)
         replace BK472 := ak (blk_drew BK472.out)
         replace BK479 := ak (blk_drew BK479.out)
         replace BK490 := ak (blk_drew BK490.out)
         replace HB := ak (below_drew1 HB.out)
         refine start_ (n := 33) (S := fun w' => w'.cell? ⟨gb472, 0, none⟩ = some (.slice Ao36 t466.length co36) ∧ w'.cell? ⟨gb472, 1, none⟩ = some (.slice Ao39 t469.length co39) ∧ w'.cell? ⟨gb456, 0, none⟩ = some (.slice Ao7 t450.length co7) ∧ w'.cell? ⟨gb456, 1, none⟩ = some (.slice Ao9 t453.length co9) ∧ w'.cell? ⟨gb479, 0, none⟩ = some (.slice Ao44 t473.length co44) ∧ w'.cell? ⟨gb479, 1, none⟩ = some (.slice Ao48 t476.length co48) ∧ w'.cell? ⟨gb490, 0, none⟩ = some (.slice Ao51 t480.length co51) ∧ w'.cell? ⟨gb490, 1, none⟩ = some (.slice Ao56 t483.length co56)) (ds := []) #[f_,f_,f_,f_,f_,f_,f_,f_,f_,f_,f_,f_,f_,f_,f_,f_,f_,f_,f_,f_,f_,f_,f_,f_,f_,f_,f_,f_,f_,f_,f_,f_,f_] (by kernel_rfl) rfl rfl ⟨(blk_cell BK472.out 0).trans rfl, (blk_cell BK472.out 1).trans rfl, (blk_cell BK456.out 0).trans rfl, (blk_cell BK456.out 1).trans rfl, (blk_cell BK479.out 0).trans rfl, (blk_cell BK479.out 1).trans rfl, (blk_cell BK490.out 0).trans rfl, (blk_cell BK490.out 1).trans rfl⟩ (fun hHeld => ?_); refine with_tabW laws_FnCrashes.tab12 laws_FnCrashes.bits12 (fun HT_ HW_ => ?_)
         generalize w57.drew = w58 at HO_4 HO_457000 HO_457001 HO465 HO468 HO471 HO475 HO478 HO482 HO485 HO488 BK456 BK472 BK479 BK490 HB hHeld ⊢
         refine pu 0 38 #[t_,f_,f_,f_,f_,f_,f_,f_,f_,f_,f_,f_,f_,f_,f_,f_,f_,f_,f_,f_,f_,f_,f_,f_,f_,f_,f_,f_,f_,f_,f_,f_,f_] HT_ ?_
         refine pu 2 40 #[t_,f_,t_,f_,f_,f_,f_,f_,f_,f_,f_,f_,f_,f_,f_,f_,f_,f_,f_,f_,f_,f_,f_,f_,f_,f_,f_,f_,f_,f_,f_,f_,f_] HT_ ?_
         refine tk 1 39 #[t_,t_,t_,f_,f_,f_,f_,f_,f_,f_,f_,f_,f_,f_,f_,f_,f_,f_,f_,f_,f_,f_,f_,f_,f_,f_,f_,f_,f_,f_,f_,f_,f_] HT_ HW_ hHeld ?_
         refine tk 3 41 #[t_,t_,t_,t_,f_,f_,f_,f_,f_,f_,f_,f_,f_,f_,f_,f_,f_,f_,f_,f_,f_,f_,f_,f_,f_,f_,f_,f_,f_,f_,f_,f_,f_] HT_ HW_ hHeld ?_
         refine on 4 (some 42) #[t_,t_,t_,t_,t_,f_,f_,f_,f_,f_,f_,f_,f_,f_,f_,f_,f_,f_,f_,f_,f_,f_,f_,f_,f_,f_,f_,f_,f_,f_,f_,f_,f_] HT_ (fun K hK => ?_)
         refine goes_ Try.func19 (by kernel_rfl) rfl #[.slice Ao36 t466.length co36, .slice Ao7 t450.length co7] (by rfl) rfl rfl (by (try simp only [List.map_toArray, List.map_cons, List.map_nil]); first | done | rfl | (simp only [List.length_drop, List.length_take]; rfl)) ?_
         with_reducible refine (laws_sameTexts.calls k1 _ _ t466 _ _ t450 true _ ?side1 ?side2 ?side3 ?side4 A19.out).mono ?_
         (case side1 => exact cG (Kd.R_reads' HO468.out).2.2)
         (case side2 => exact (Kd.R_reads' HO468.out).2.1)
         (case side3 => exact cG (Kd.R_reads' HO_457000.out).2.2)
         (case side4 => exact (Kd.R_reads' HO_457000.out).2.1)
         rintro e w' ⟨rfl, ⟨nd, rfl⟩⟩
         refine ⟨_, rfl, ?_⟩
         refine hK.out _ _ ⟨(blk_cell BK472.out 0).trans rfl, (blk_cell BK472.out 1).trans rfl, (blk_cell BK456.out 0).trans rfl, (blk_cell BK456.out 1).trans rfl, (blk_cell BK479.out 0).trans rfl, (blk_cell BK479.out 1).trans rfl, (blk_cell BK490.out 0).trans rfl, (blk_cell BK490.out 1).trans rfl⟩ (fun hHeld => ?_)
         clear hK K
         refine nm ?_
         refine pu 5 43 #[t_,t_,t_,t_,t_,t_,f_,f_,f_,f_,f_,f_,f_,f_,f_,f_,f_,f_,f_,f_,f_,f_,f_,f_,f_,f_,f_,f_,f_,f_,f_,f_,f_] HT_ ?_
         refine pu 6 44 #[t_,t_,t_,t_,t_,t_,t_,f_,f_,f_,f_,f_,f_,f_,f_,f_,f_,f_,f_,f_,f_,f_,f_,f_,f_,f_,f_,f_,f_,f_,f_,f_,f_] HT_ ?_
         refine tk 7 45 #[t_,t_,t_,t_,t_,t_,t_,t_,f_,f_,f_,f_,f_,f_,f_,f_,f_,f_,f_,f_,f_,f_,f_,f_,f_,f_,f_,f_,f_,f_,f_,f_,f_] HT_ HW_ hHeld ?_
         refine pu 8 46 #[t_,t_,t_,t_,t_,t_,t_,t_,t_,f_,f_,f_,f_,f_,f_,f_,f_,f_,f_,f_,f_,f_,f_,f_,f_,f_,f_,f_,f_,f_,f_,f_,f_] HT_ ?_
         refine pu 9 47 #[t_,t_,t_,t_,t_,t_,t_,t_,t_,t_,f_,f_,f_,f_,f_,f_,f_,f_,f_,f_,f_,f_,f_,f_,f_,f_,f_,f_,f_,f_,f_,f_,f_] HT_ ?_
         refine pu 10 48 #[t_,t_,t_,t_,t_,t_,t_,t_,t_,t_,t_,f_,f_,f_,f_,f_,f_,f_,f_,f_,f_,f_,f_,f_,f_,f_,f_,f_,f_,f_,f_,f_,f_] HT_ ?_
         refine pu 11 49 #[t_,t_,t_,t_,t_,t_,t_,t_,t_,t_,t_,t_,f_,f_,f_,f_,f_,f_,f_,f_,f_,f_,f_,f_,f_,f_,f_,f_,f_,f_,f_,f_,f_] HT_ ?_
         refine tk 12 50 #[t_,t_,t_,t_,t_,t_,t_,t_,t_,t_,t_,t_,t_,f_,f_,f_,f_,f_,f_,f_,f_,f_,f_,f_,f_,f_,f_,f_,f_,f_,f_,f_,f_] HT_ HW_ hHeld ?_
         refine tk 13 51 #[t_,t_,t_,t_,t_,t_,t_,t_,t_,t_,t_,t_,t_,t_,f_,f_,f_,f_,f_,f_,f_,f_,f_,f_,f_,f_,f_,f_,f_,f_,f_,f_,f_] HT_ HW_ hHeld ?_
         refine on 14 (some 52) #[t_,t_,t_,t_,t_,t_,t_,t_,t_,t_,t_,t_,t_,t_,t_,f_,f_,f_,f_,f_,f_,f_,f_,f_,f_,f_,f_,f_,f_,f_,f_,f_,f_] HT_ (fun K hK => ?_)
         refine goes_ Try.func13 (by kernel_rfl) rfl #[.agg #[.slice Ao7 t450.length co7, .slice Ao9 t453.length co9]] (by rfl) rfl rfl (by (try simp only [List.map_toArray, List.map_cons, List.map_nil]); first | done | rfl | (simp only [List.length_drop, List.length_take]; rfl)) ?_
         with_reducible refine (impl_FlushDisk.calls k1 _ _ t450 _ _ t453 t492 t495 _ ?side1 ?side2 ?side3 ?side4 A22.out).mono ?_
         (case side1 => exact cG (Kd.R_reads' HO_457000.out).2.2)
         (case side2 => exact (Kd.R_reads' HO_457000.out).2.1)
         (case side3 => exact cG (Kd.R_reads' HO_457001.out).2.2)
         (case side4 => exact (Kd.R_reads' HO_457001.out).2.1)
         rintro e w59 ⟨v493, v496, rfl, ho0, ho1, hb⟩
         refine ⟨_, rfl, ?_⟩
         replace HO_4 := rB HO_4 hb
         replace HO465 := rB HO465 hb
         replace HO488 := rB HO488 hb
         replace HO494 := ak (Kd.R_lower (Kd.R_new' (Kd.R_new' (Kd.R_new' (Kd.R_new' ho0 (Kd.R_lt (rG HO_457000))) (Kd.R_lt (rG HO468))) (Kd.R_lt (rG HO475))) (Kd.R_lt (rG HO482))) (below_size (lT HB (gC GE456 (gC GE472 (gC GE479 (gC GE490 gN)))))))
         replace HO_457000 := ak (Kd.R_elder' (rG HO_457000) (Kd.R_base ho0) hb)
         replace HO468 := ak (Kd.R_elder' (rG HO468) (Kd.R_base ho0) hb)
         replace HO475 := ak (Kd.R_elder' (rG HO475) (Kd.R_base ho0) hb)
         replace HO482 := ak (Kd.R_elder' (rG HO482) (Kd.R_base ho0) hb)
         replace HO497 := ak (Kd.R_lower (Kd.R_new' (Kd.R_new' (Kd.R_new' (Kd.R_new' ho1 (Kd.R_lt (rG HO_457001))) (Kd.R_lt (rG HO471))) (Kd.R_lt (rG HO478))) (Kd.R_lt (rG HO485))) (below_size (lT HB (gC GE456 (gC GE472 (gC GE479 (gC GE490 gN)))))))
         replace HO_457001 := ak (Kd.R_elder' (rG HO_457001) (Kd.R_base ho1) hb)
         replace HO471 := ak (Kd.R_elder' (rG HO471) (Kd.R_base ho1) hb)
         replace HO478 := ak (Kd.R_elder' (rG HO478) (Kd.R_base ho1) hb)
         replace HO485 := ak (Kd.R_elder' (rG HO485) (Kd.R_base ho1) hb)
         replace BK456 := bB BK456 hb
         replace BK472 := bB BK472 hb
         replace BK479 := bB BK479 hb
         replace BK490 := bB BK490 hb
         replace HB := ak (below_step (lT HB (gC GE456 (gC GE472 (gC GE479 (gC GE490 gN))))) hb)
         (try clear hb)
         (try clear hb2)
         (try clear hk)
         (try clear hi)
         (try clear ho0)
         (try clear ho1)
         obtain ⟨Ao60, co60, eo60⟩ := Kd.R_slice HO494.out
         (first | subst eo60 | (injection eo60 with f1_ f2_ f3_; have f4_ := f1_.symm; have f5_ := f3_.symm; clear f1_ f2_ f3_; subst f4_; subst f5_))
         obtain ⟨Ao61, co61, eo61⟩ := Kd.R_slice HO497.out
         (first | subst eo61 | (injection eo61 with f1_ f2_ f3_; have f4_ := f1_.symm; have f5_ := f3_.symm; clear f1_ f2_ f3_; subst f4_; subst f5_))
         refine hK.out _ _ ⟨(blk_cell BK472.out 0).trans rfl, (blk_cell BK472.out 1).trans rfl, (blk_cell BK456.out 0).trans rfl, (blk_cell BK456.out 1).trans rfl, (blk_cell BK479.out 0).trans rfl, (blk_cell BK479.out 1).trans rfl, (blk_cell BK490.out 0).trans rfl, (blk_cell BK490.out 1).trans rfl⟩ (fun hHeld => ?_)
         clear hK K
         refine nm ?_
         refine on 15 (some 53) #[t_,t_,t_,t_,t_,t_,t_,t_,t_,t_,t_,t_,t_,t_,t_,t_,f_,f_,f_,f_,f_,f_,f_,f_,f_,f_,f_,f_,f_,f_,f_,f_,f_] HT_ (fun K hK => ?_)
         refine goes_ Try.func20 (by kernel_rfl) rfl #[.agg #[.slice Ao44 t473.length co44, .slice Ao48 t476.length co48], .agg #[.slice Ao60 t492.length co60, .slice Ao61 t495.length co61]] (by rfl) rfl rfl (by (try simp only [List.map_toArray, List.map_cons, List.map_nil]); first | done | rfl | (simp only [List.length_drop, List.length_take]; rfl)) ?_
         with_reducible refine (laws_sameDisk.calls k1 _ _ t473 _ _ t476 _ _ t492 _ _ t495 true _ ?side1 ?side2 ?side3 ?side4 ?side5 ?side6 ?side7 ?side8 A23.out).mono ?_
         (case side1 => exact cG (Kd.R_reads' HO475.out).2.2)
         (case side2 => exact (Kd.R_reads' HO475.out).2.1)
         (case side3 => exact cG (Kd.R_reads' HO478.out).2.2)
         (case side4 => exact (Kd.R_reads' HO478.out).2.1)
         (case side5 => exact cG (Kd.R_reads' HO494.out).2.2)
         (case side6 => exact (Kd.R_reads' HO494.out).2.1)
         (case side7 => exact cG (Kd.R_reads' HO497.out).2.2)
         (case side8 => exact (Kd.R_reads' HO497.out).2.1)
         rintro e w62 ⟨rfl, hb⟩
         refine ⟨_, rfl, ?_⟩
         replace HO_4 := rB HO_4 hb
         replace HO_457000 := rB HO_457000 hb
         replace HO_457001 := rB HO_457001 hb
         replace HO465 := rB HO465 hb
         replace HO468 := rB HO468 hb
         replace HO471 := rB HO471 hb
         replace HO475 := rB HO475 hb
         replace HO478 := rB HO478 hb
         replace HO482 := rB HO482 hb
         replace HO485 := rB HO485 hb
         replace HO488 := rB HO488 hb
         replace HO494 := rB HO494 hb
         replace HO497 := rB HO497 hb
         replace BK456 := bB BK456 hb
         replace BK472 := bB BK472 hb
         replace BK479 := bB BK479 hb
         replace BK490 := bB BK490 hb
         replace HB := ak (below_step (lT HB (gC GE456 (gC GE472 (gC GE479 (gC GE490 gN))))) hb)
         (try clear hb)
         (try clear hb2)
         (try clear hk)
         (try clear hi)
         obtain ⟨Ao63, co63, eo63⟩ := Kd.R_slice HO488.out
         (first | subst eo63 | (injection eo63 with f1_ f2_ f3_; have f4_ := f1_.symm; have f5_ := f3_.symm; clear f1_ f2_ f3_; subst f4_; subst f5_))
         refine hK.out _ _ ⟨(blk_cell BK472.out 0).trans rfl, (blk_cell BK472.out 1).trans rfl, (blk_cell BK456.out 0).trans rfl, (blk_cell BK456.out 1).trans rfl, (blk_cell BK479.out 0).trans rfl, (blk_cell BK479.out 1).trans rfl, (blk_cell BK490.out 0).trans rfl, (blk_cell BK490.out 1).trans rfl⟩ (fun hHeld => ?_)
         clear hK K
         refine nm ?_
         refine pu 16 54 #[t_,t_,t_,t_,t_,t_,t_,t_,t_,t_,t_,t_,t_,t_,t_,t_,t_,f_,f_,f_,f_,f_,f_,f_,f_,f_,f_,f_,f_,f_,f_,f_,f_] HT_ ?_
         refine pu 17 55 #[t_,t_,t_,t_,t_,t_,t_,t_,t_,t_,t_,t_,t_,t_,t_,t_,t_,t_,f_,f_,f_,f_,f_,f_,f_,f_,f_,f_,f_,f_,f_,f_,f_] HT_ ?_
         refine pu 19 57 #[t_,t_,t_,t_,t_,t_,t_,t_,t_,t_,t_,t_,t_,t_,t_,t_,t_,t_,f_,t_,f_,f_,f_,f_,f_,f_,f_,f_,f_,f_,f_,f_,f_] HT_ ?_
         refine pu 20 58 #[t_,t_,t_,t_,t_,t_,t_,t_,t_,t_,t_,t_,t_,t_,t_,t_,t_,t_,f_,t_,t_,f_,f_,f_,f_,f_,f_,f_,f_,f_,f_,f_,f_] HT_ ?_
         refine pu 23 61 #[t_,t_,t_,t_,t_,t_,t_,t_,t_,t_,t_,t_,t_,t_,t_,t_,t_,t_,f_,t_,t_,f_,f_,t_,f_,f_,f_,f_,f_,f_,f_,f_,f_] HT_ ?_
         refine pu 24 62 #[t_,t_,t_,t_,t_,t_,t_,t_,t_,t_,t_,t_,t_,t_,t_,t_,t_,t_,f_,t_,t_,f_,f_,t_,t_,f_,f_,f_,f_,f_,f_,f_,f_] HT_ ?_
         refine tk 18 56 #[t_,t_,t_,t_,t_,t_,t_,t_,t_,t_,t_,t_,t_,t_,t_,t_,t_,t_,t_,t_,t_,f_,f_,t_,t_,f_,f_,f_,f_,f_,f_,f_,f_] HT_ HW_ hHeld ?_
         refine tk 22 60 #[t_,t_,t_,t_,t_,t_,t_,t_,t_,t_,t_,t_,t_,t_,t_,t_,t_,t_,t_,t_,t_,f_,t_,t_,t_,f_,f_,f_,f_,f_,f_,f_,f_] HT_ HW_ hHeld ?_
         refine on 21 (some 59) #[t_,t_,t_,t_,t_,t_,t_,t_,t_,t_,t_,t_,t_,t_,t_,t_,t_,t_,t_,t_,t_,t_,t_,t_,t_,f_,f_,f_,f_,f_,f_,f_,f_] HT_ (fun K hK => ?_)
         refine goes_ Try.func17 (by kernel_rfl) rfl #[.agg #[.slice Ao51 t480.length co51, .slice Ao56 t483.length co56], .slice Ao63 t486.length co63, .int .i64 t489] (by rfl) rfl rfl (by (try simp only [List.map_toArray, List.map_cons, List.map_nil]); first | done | rfl | (simp only [List.length_drop, List.length_take]; rfl)) ?_
         with_reducible refine (impl_CrashDisk.calls k1 _ _ t480 _ _ t483 _ _ t486 t489 t499 t502 _ ?side1 ?side2 ?side3 ?side4 ?side5 ?side6 A25.out).mono ?_
         (case side1 => exact cG (Kd.R_reads' HO482.out).2.2)
         (case side2 => exact (Kd.R_reads' HO482.out).2.1)
         (case side3 => exact cG (Kd.R_reads' HO485.out).2.2)
         (case side4 => exact (Kd.R_reads' HO485.out).2.1)
         (case side5 => exact cG (Kd.R_reads' HO488.out).2.2)
         (case side6 => exact (Kd.R_reads' HO488.out).2.1)
         rintro e w64 ⟨v500, v503, rfl, ho0, ho1, hb⟩
         refine ⟨_, rfl, ?_⟩
         replace HO_4 := rB HO_4 hb
         replace HO465 := rB HO465 hb
         replace HO488 := rB HO488 hb
         replace HO501 := ak (Kd.R_lower (Kd.R_new' (Kd.R_new' (Kd.R_new' (Kd.R_new' (Kd.R_new' ho0 (Kd.R_lt (rG HO_457000))) (Kd.R_lt (rG HO468))) (Kd.R_lt (rG HO475))) (Kd.R_lt (rG HO482))) (Kd.R_lt (rG HO494))) (below_size (lT HB (gC GE456 (gC GE472 (gC GE479 (gC GE490 gN)))))))
         replace HO_457000 := ak (Kd.R_elder' (rG HO_457000) (Kd.R_base ho0) hb)
         replace HO468 := ak (Kd.R_elder' (rG HO468) (Kd.R_base ho0) hb)
         replace HO475 := ak (Kd.R_elder' (rG HO475) (Kd.R_base ho0) hb)
         replace HO482 := ak (Kd.R_elder' (rG HO482) (Kd.R_base ho0) hb)
         replace HO494 := ak (Kd.R_elder' (rG HO494) (Kd.R_base ho0) hb)
         replace HO504 := ak (Kd.R_lower (Kd.R_new' (Kd.R_new' (Kd.R_new' (Kd.R_new' (Kd.R_new' ho1 (Kd.R_lt (rG HO_457001))) (Kd.R_lt (rG HO471))) (Kd.R_lt (rG HO478))) (Kd.R_lt (rG HO485))) (Kd.R_lt (rG HO497))) (below_size (lT HB (gC GE456 (gC GE472 (gC GE479 (gC GE490 gN)))))))
         replace HO_457001 := ak (Kd.R_elder' (rG HO_457001) (Kd.R_base ho1) hb)
         replace HO471 := ak (Kd.R_elder' (rG HO471) (Kd.R_base ho1) hb)
         replace HO478 := ak (Kd.R_elder' (rG HO478) (Kd.R_base ho1) hb)
         replace HO485 := ak (Kd.R_elder' (rG HO485) (Kd.R_base ho1) hb)
         replace HO497 := ak (Kd.R_elder' (rG HO497) (Kd.R_base ho1) hb)
         replace BK456 := bB BK456 hb
         replace BK472 := bB BK472 hb
         replace BK479 := bB BK479 hb
         replace BK490 := bB BK490 hb
         replace HB := ak (below_step (lT HB (gC GE456 (gC GE472 (gC GE479 (gC GE490 gN))))) hb)
         (try clear hb)
         (try clear hb2)
         (try clear hk)
         (try clear hi)
         (try clear ho0)
         (try clear ho1)
         refine hK.out _ _ ⟨(blk_cell BK472.out 0).trans rfl, (blk_cell BK472.out 1).trans rfl, (blk_cell BK456.out 0).trans rfl, (blk_cell BK456.out 1).trans rfl, (blk_cell BK479.out 0).trans rfl, (blk_cell BK479.out 1).trans rfl, (blk_cell BK490.out 0).trans rfl, (blk_cell BK490.out 1).trans rfl⟩ (fun hHeld => ?_)
         clear hK K
         refine nm ?_
         refine on 25 (some 63) #[t_,t_,t_,t_,t_,t_,t_,t_,t_,t_,t_,t_,t_,t_,t_,t_,t_,t_,t_,t_,t_,t_,t_,t_,t_,t_,f_,f_,f_,f_,f_,f_,f_] HT_ (fun K hK => ?_)
         refine goes_ Try.func21 (by kernel_rfl) rfl #[.agg #[.slice Ao51 t480.length co51, .slice Ao56 t483.length co56], .slice Ao63 t486.length co63, .int .i64 t489] (by rfl) rfl rfl (by (try simp only [List.map_toArray, List.map_cons, List.map_nil]); first | done | rfl | (simp only [List.length_drop, List.length_take]; rfl)) ?_
         with_reducible refine (spec_CrashDisk.calls k1 _ _ t480 _ _ t483 _ _ t486 t489 t505 t508 _ ?side1 ?side2 ?side3 ?side4 ?side5 ?side6 A26.out).mono ?_
         (case side1 => exact cG (Kd.R_reads' HO482.out).2.2)
         (case side2 => exact (Kd.R_reads' HO482.out).2.1)
         (case side3 => exact cG (Kd.R_reads' HO485.out).2.2)
         (case side4 => exact (Kd.R_reads' HO485.out).2.1)
         (case side5 => exact cG (Kd.R_reads' HO488.out).2.2)
         (case side6 => exact (Kd.R_reads' HO488.out).2.1)
         rintro e w65 ⟨v506, v509, rfl, ho0, ho1, hb⟩
         refine ⟨_, rfl, ?_⟩
         replace HO_4 := rB HO_4 hb
         replace HO465 := rB HO465 hb
         replace HO488 := rB HO488 hb
         replace HO507 := ak (Kd.R_lower (Kd.R_new' (Kd.R_new' (Kd.R_new' (Kd.R_new' (Kd.R_new' (Kd.R_new' ho0 (Kd.R_lt (rG HO_457000))) (Kd.R_lt (rG HO468))) (Kd.R_lt (rG HO475))) (Kd.R_lt (rG HO482))) (Kd.R_lt (rG HO494))) (Kd.R_lt (rG HO501))) (below_size (lT HB (gC GE456 (gC GE472 (gC GE479 (gC GE490 gN)))))))
         replace HO_457000 := ak (Kd.R_elder' (rG HO_457000) (Kd.R_base ho0) hb)
         replace HO468 := ak (Kd.R_elder' (rG HO468) (Kd.R_base ho0) hb)
         replace HO475 := ak (Kd.R_elder' (rG HO475) (Kd.R_base ho0) hb)
         replace HO482 := ak (Kd.R_elder' (rG HO482) (Kd.R_base ho0) hb)
         replace HO494 := ak (Kd.R_elder' (rG HO494) (Kd.R_base ho0) hb)
         replace HO501 := ak (Kd.R_elder' (rG HO501) (Kd.R_base ho0) hb)
         replace HO510 := ak (Kd.R_lower (Kd.R_new' (Kd.R_new' (Kd.R_new' (Kd.R_new' (Kd.R_new' (Kd.R_new' ho1 (Kd.R_lt (rG HO_457001))) (Kd.R_lt (rG HO471))) (Kd.R_lt (rG HO478))) (Kd.R_lt (rG HO485))) (Kd.R_lt (rG HO497))) (Kd.R_lt (rG HO504))) (below_size (lT HB (gC GE456 (gC GE472 (gC GE479 (gC GE490 gN)))))))
         replace HO_457001 := ak (Kd.R_elder' (rG HO_457001) (Kd.R_base ho1) hb)
         replace HO471 := ak (Kd.R_elder' (rG HO471) (Kd.R_base ho1) hb)
         replace HO478 := ak (Kd.R_elder' (rG HO478) (Kd.R_base ho1) hb)
         replace HO485 := ak (Kd.R_elder' (rG HO485) (Kd.R_base ho1) hb)
         replace HO497 := ak (Kd.R_elder' (rG HO497) (Kd.R_base ho1) hb)
         replace HO504 := ak (Kd.R_elder' (rG HO504) (Kd.R_base ho1) hb)
         replace BK456 := bB BK456 hb
         replace BK472 := bB BK472 hb
         replace BK479 := bB BK479 hb
         replace BK490 := bB BK490 hb
         replace HB := ak (below_step (lT HB (gC GE456 (gC GE472 (gC GE479 (gC GE490 gN))))) hb)
         (try clear hb)
         (try clear hb2)
         (try clear hk)
         (try clear hi)
         (try clear ho0)
         (try clear ho1)
         obtain ⟨Ao66, co66, eo66⟩ := Kd.R_slice HO501.out
         (first | subst eo66 | (injection eo66 with f1_ f2_ f3_; have f4_ := f1_.symm; have f5_ := f3_.symm; clear f1_ f2_ f3_; subst f4_; subst f5_))
         obtain ⟨Ao67, co67, eo67⟩ := Kd.R_slice HO504.out
         (first | subst eo67 | (injection eo67 with f1_ f2_ f3_; have f4_ := f1_.symm; have f5_ := f3_.symm; clear f1_ f2_ f3_; subst f4_; subst f5_))
         obtain ⟨Ao68, co68, eo68⟩ := Kd.R_slice HO507.out
         (first | subst eo68 | (injection eo68 with f1_ f2_ f3_; have f4_ := f1_.symm; have f5_ := f3_.symm; clear f1_ f2_ f3_; subst f4_; subst f5_))
         obtain ⟨Ao69, co69, eo69⟩ := Kd.R_slice HO510.out
         (first | subst eo69 | (injection eo69 with f1_ f2_ f3_; have f4_ := f1_.symm; have f5_ := f3_.symm; clear f1_ f2_ f3_; subst f4_; subst f5_))
         refine hK.out _ _ ⟨(blk_cell BK472.out 0).trans rfl, (blk_cell BK472.out 1).trans rfl, (blk_cell BK456.out 0).trans rfl, (blk_cell BK456.out 1).trans rfl, (blk_cell BK479.out 0).trans rfl, (blk_cell BK479.out 1).trans rfl, (blk_cell BK490.out 0).trans rfl, (blk_cell BK490.out 1).trans rfl⟩ (fun hHeld => ?_)
         clear hK K
         refine nm ?_
         refine on 26 (some 64) #[t_,t_,t_,t_,t_,t_,t_,t_,t_,t_,t_,t_,t_,t_,t_,t_,t_,t_,t_,t_,t_,t_,t_,t_,t_,t_,t_,f_,f_,f_,f_,f_,f_] HT_ (fun K hK => ?_)
         refine goes_ Try.func20 (by kernel_rfl) rfl #[.agg #[.slice Ao66 t499.length co66, .slice Ao67 t502.length co67], .agg #[.slice Ao68 t505.length co68, .slice Ao69 t508.length co69]] (by rfl) rfl rfl (by (try simp only [List.map_toArray, List.map_cons, List.map_nil]); first | done | rfl | (simp only [List.length_drop, List.length_take]; rfl)) ?_
         with_reducible refine (laws_sameDisk.calls k1 _ _ t499 _ _ t502 _ _ t505 _ _ t508 true _ ?side1 ?side2 ?side3 ?side4 ?side5 ?side6 ?side7 ?side8 A27.out).mono ?_
         (case side1 => exact cG (Kd.R_reads' HO501.out).2.2)
         (case side2 => exact (Kd.R_reads' HO501.out).2.1)
         (case side3 => exact cG (Kd.R_reads' HO504.out).2.2)
         (case side4 => exact (Kd.R_reads' HO504.out).2.1)
         (case side5 => exact cG (Kd.R_reads' HO507.out).2.2)
         (case side6 => exact (Kd.R_reads' HO507.out).2.1)
         (case side7 => exact cG (Kd.R_reads' HO510.out).2.2)
         (case side8 => exact (Kd.R_reads' HO510.out).2.1)
         rintro e w70 ⟨rfl, hb⟩
         refine ⟨_, rfl, ?_⟩
         replace HO_4 := rB HO_4 hb
         replace HO_457000 := rB HO_457000 hb
         replace HO_457001 := rB HO_457001 hb
         replace HO465 := rB HO465 hb
         replace HO468 := rB HO468 hb
         replace HO471 := rB HO471 hb
         replace HO475 := rB HO475 hb
         replace HO478 := rB HO478 hb
         replace HO482 := rB HO482 hb
         replace HO485 := rB HO485 hb
         replace HO488 := rB HO488 hb
         replace HO494 := rB HO494 hb
         replace HO497 := rB HO497 hb
         replace HO501 := rB HO501 hb
         replace HO504 := rB HO504 hb
         replace HO507 := rB HO507 hb
         replace HO510 := rB HO510 hb
         replace BK456 := bB BK456 hb
         replace BK472 := bB BK472 hb
         replace BK479 := bB BK479 hb
         replace BK490 := bB BK490 hb
         replace HB := ak (below_step (lT HB (gC GE456 (gC GE472 (gC GE479 (gC GE490 gN))))) hb)
         (try clear hb)
         (try clear hb2)
         (try clear hk)
         (try clear hi)
         refine hK.out _ _ ⟨(blk_cell BK472.out 0).trans rfl, (blk_cell BK472.out 1).trans rfl, (blk_cell BK456.out 0).trans rfl, (blk_cell BK456.out 1).trans rfl, (blk_cell BK479.out 0).trans rfl, (blk_cell BK479.out 1).trans rfl, (blk_cell BK490.out 0).trans rfl, (blk_cell BK490.out 1).trans rfl⟩ (fun hHeld => ?_)
         clear hK K
         refine nm ?_
         refine pu 27 65 #[t_,t_,t_,t_,t_,t_,t_,t_,t_,t_,t_,t_,t_,t_,t_,t_,t_,t_,t_,t_,t_,t_,t_,t_,t_,t_,t_,t_,f_,f_,f_,f_,f_] HT_ ?_
         refine pu 28 66 #[t_,t_,t_,t_,t_,t_,t_,t_,t_,t_,t_,t_,t_,t_,t_,t_,t_,t_,t_,t_,t_,t_,t_,t_,t_,t_,t_,t_,t_,f_,f_,f_,f_] HT_ ?_
         refine tk 29 67 #[t_,t_,t_,t_,t_,t_,t_,t_,t_,t_,t_,t_,t_,t_,t_,t_,t_,t_,t_,t_,t_,t_,t_,t_,t_,t_,t_,t_,t_,t_,f_,f_,f_] HT_ HW_ hHeld ?_
         refine on 30 (some 68) #[t_,t_,t_,t_,t_,t_,t_,t_,t_,t_,t_,t_,t_,t_,t_,t_,t_,t_,t_,t_,t_,t_,t_,t_,t_,t_,t_,t_,t_,t_,t_,f_,f_] HT_ (fun K hK => ?_)
         refine goes_ Try.func16 (by kernel_rfl) rfl #[.agg #[.slice Ao44 t473.length co44, .slice Ao48 t476.length co48]] (by rfl) rfl rfl (by (try simp only [List.map_toArray, List.map_cons, List.map_nil]); first | done | rfl | (simp only [List.length_drop, List.length_take]; rfl)) ?_
         with_reducible refine (impl_DiskOk.calls _ _ t473 _ _ t476 t512 _ ?side1 ?side2 ?side3 ?side4 A29.out).mono ?_
         (case side1 => exact cG (Kd.R_reads' HO475.out).2.2)
         (case side2 => exact (Kd.R_reads' HO475.out).2.1)
         (case side3 => exact cG (Kd.R_reads' HO478.out).2.2)
         (case side4 => exact (Kd.R_reads' HO478.out).2.1)
         rintro e w71 ⟨rfl, hb⟩
         refine ⟨_, rfl, ?_⟩
         replace HO_4 := rB HO_4 hb
         replace HO_457000 := rB HO_457000 hb
         replace HO_457001 := rB HO_457001 hb
         replace HO465 := rB HO465 hb
         replace HO468 := rB HO468 hb
         replace HO471 := rB HO471 hb
         replace HO475 := rB HO475 hb
         replace HO478 := rB HO478 hb
         replace HO482 := rB HO482 hb
         replace HO485 := rB HO485 hb
         replace HO488 := rB HO488 hb
         replace HO494 := rB HO494 hb
         replace HO497 := rB HO497 hb
         replace HO501 := rB HO501 hb
         replace HO504 := rB HO504 hb
         replace HO507 := rB HO507 hb
         replace HO510 := rB HO510 hb
         replace BK456 := bB BK456 hb
         replace BK472 := bB BK472 hb
         replace BK479 := bB BK479 hb
         replace BK490 := bB BK490 hb
         replace HB := ak (below_step (lT HB (gC GE456 (gC GE472 (gC GE479 (gC GE490 gN))))) hb)
         (try clear hb)
         (try clear hb2)
         (try clear hk)
         (try clear hi)
         refine hK.out _ _ ⟨(blk_cell BK472.out 0).trans rfl, (blk_cell BK472.out 1).trans rfl, (blk_cell BK456.out 0).trans rfl, (blk_cell BK456.out 1).trans rfl, (blk_cell BK479.out 0).trans rfl, (blk_cell BK479.out 1).trans rfl, (blk_cell BK490.out 0).trans rfl, (blk_cell BK490.out 1).trans rfl⟩ (fun hHeld => ?_)
         clear hK K
         refine nm ?_
         refine pu 31 69 #[t_,t_,t_,t_,t_,t_,t_,t_,t_,t_,t_,t_,t_,t_,t_,t_,t_,t_,t_,t_,t_,t_,t_,t_,t_,t_,t_,t_,t_,t_,t_,t_,f_] HT_ ?_
         refine pu 32 2 #[t_,t_,t_,t_,t_,t_,t_,t_,t_,t_,t_,t_,t_,t_,t_,t_,t_,t_,t_,t_,t_,t_,t_,t_,t_,t_,t_,t_,t_,t_,t_,t_,t_] HT_ ?_
         refine done_ (done_of HT_.out (by kernel_rfl)) ?_
         try go_wp2
         go_ret
         exact ⟨by first | rfl | (simp [errW_none, errW_some] <;> rfl) | (simp [*, errW_none, errW_some] <;> rfl), by exact lT HB (gC GE456 (gC GE472 (gC GE479 (gC GE490 gN))))⟩
        ·replace c28 := Bool.eq_false_iff.mpr c28
         subst c28
         have H1 : (some false) = some r := by rw [if_neg (show ¬ (false = true) by decide)] at H; exact H
         clear H
         have H := H1
         clear H1
         obtain rfl := Option.some.inj H
         have hcz72_0 : wr.cell? ⟨gb456, 0, none⟩ = some (.slice Ao7 t450.length co7) := (blk_cell BK456.out 0).trans rfl
         have hcz72_1 : wr.cell? ⟨gb456, 1, none⟩ = some (.slice Ao9 t453.length co9) := (blk_cell BK456.out 1).trans rfl
         have hfz72_0 := blk_frozen BK456.out 0
         have hfz72_1 := blk_frozen BK456.out 1
         try go_wp2_with (first | ((with_reducible refine gate_dst (N := 27) rfl ?_); (try (refine gate_guard (by rfl) ?_; dsimp only)); refine Kd.R_lit (Kd.int .i64) _ 3 ?hg (N := 27) ?hd (xs := ([] : List Int)) (inner := []) (ok := fun _ => True) (okp := fun _ => True) ?hr ?hp (fun _ hk => hk) trivial (Below.refl _ _) (Nat.le_refl _) (by simp) ?_; (case hd => rfl); (case hg => rfl); (case hr => first | (go_simp; done) | (go_simp; rfl)); (case hp => exact (Reps.none _ _)); intro v464 w73 ho74 hb hg_ hnew_; clear hg_ hnew_; (first | rw [← Ny463.out] at ho74 | (simp only [Int.reduceToNat] at ho74; rw [← Ny463.out] at ho74)); replace HO_457000 := rB HO_457000 hb; replace HO_457001 := rB HO_457001 hb; replace HO465 := ak (Kd.R_lower (Kd.R_new' ho74 (Kd.R_lt (rG HO_4))) (below_size (lT HB (gC GE456 gN)))); replace HO_4 := ak (Kd.R_elder' (rG HO_4) (Kd.R_base ho74) hb); replace BK456 := bB BK456 hb; replace HB := ak (below_step (lT HB (gC GE456 gN)) hb); clear hb ho74; obtain ⟨Ao75, co75, eo75⟩ := Kd.R_slice HO465.out; subst eo75) | ((with_reducible refine gate_callee (f := 17) rfl ?_); refine gl (some 28) Try.func17 #[.agg #[.slice Ao7 t450.length co7, .slice Ao9 t453.length co9], .slice Ao75 y463.length co75, .int .i64 5] ?_; (with_reducible refine (impl_CrashDisk.calls k1 _ _ t450 _ _ t453 _ _ y463 5 t466 t469 _ ?side1 ?side2 ?side3 ?side4 ?side5 ?side6 A16.out).mono ?_); (case side1 => exact cG (Kd.R_reads' HO_457000.out).2.2); (case side2 => exact (Kd.R_reads' HO_457000.out).2.1); (case side3 => exact cG (Kd.R_reads' HO_457001.out).2.2); (case side4 => exact (Kd.R_reads' HO_457001.out).2.1); (case side5 => exact cG (Kd.R_reads' HO465.out).2.2); (case side6 => exact (Kd.R_reads' HO465.out).2.1); rintro e w76 ⟨v467, v470, rfl, ho0, ho1, hb⟩; refine ⟨_, rfl, ?_⟩; replace HO_4 := rB HO_4 hb; replace HO465 := rB HO465 hb; replace HO468 := ak (Kd.R_lower (Kd.R_new' ho0 (Kd.R_lt (rG HO_457000))) (below_size (lT HB (gC GE456 gN)))); replace HO_457000 := ak (Kd.R_elder' (rG HO_457000) (Kd.R_base ho0) hb); replace HO471 := ak (Kd.R_lower (Kd.R_new' ho1 (Kd.R_lt (rG HO_457001))) (below_size (lT HB (gC GE456 gN)))); replace HO_457001 := ak (Kd.R_elder' (rG HO_457001) (Kd.R_base ho1) hb); replace BK456 := bB BK456 hb; replace HB := ak (below_step (lT HB (gC GE456 gN)) hb); (try clear hb); (try clear hk); (try clear ho0); (try clear ho1)) | ((with_reducible refine gate_dst (N := 6) rfl ?_); (try (refine gate_guard (by rfl) ?_; dsimp only)); refine bx 6 #[.slice none 0 0, .slice none 0 0] 27 ?_; intro gb472 hg w77 hbox hb; replace HO_4 := rB HO_4 hb; replace HO_457000 := rB HO_457000 hb; replace HO_457001 := rB HO_457001 hb; replace HO465 := rB HO465 hb; replace HO468 := rB HO468 hb; replace HO471 := rB HO471 hb; replace BK472 := ak (hbox); replace GW472 := ak (bz hg (lT HB (gC GE456 gN))); replace GE472 := ak (bz hg (lT HB (gC GE456 gN))); replace HB := ak (below_step (lT HB (gC GE456 gN)) hb); replace NB456_472 := ak (nl hg (bG BK456)); replace NB472_456 := ak (ng hg (bG BK456)); replace BK456 := bB BK456 hb; clear hb hbox hg; obtain ⟨Ao78, co78, eo78⟩ := Kd.R_slice HO468.out; subst eo78; have hnb79 := NB472_456.out; have hnc79 := NB456_472.out; obtain ⟨hcz80_0, hcz80_1, hfz80_0, hfz80_1⟩ := bC2 BK472; obtain ⟨Ao81, co81, eo81⟩ := Kd.R_slice HO471.out; subst eo81; obtain ⟨hcz82_0, hcz82_1, hfz82_0, hfz82_1⟩ := bC2 BK456; obtain ⟨Ao83, co83, eo83⟩ := Kd.R_slice HO_4.out; subst eo83) | ((with_reducible refine gate_callee (f := 17) rfl ?_); refine gl (some 31) Try.func17 #[.agg #[.slice Ao7 t450.length co7, .slice Ao9 t453.length co9], .slice Ao83 x4_1.length co83, .int .i64 32] ?_; (with_reducible refine (impl_CrashDisk.calls k1 _ _ t450 _ _ t453 _ _ x4_1 32 t473 t476 _ ?side1 ?side2 ?side3 ?side4 ?side5 ?side6 A17.out).mono ?_); (case side1 => exact (Kd.R_reads' (rT HO_457000 BK472 (by decide))).2.2); (case side2 => exact (Kd.R_reads' HO_457000.out).2.1); (case side3 => exact (Kd.R_reads' (rT HO_457001 BK472 (by decide))).2.2); (case side4 => exact (Kd.R_reads' HO_457001.out).2.1); (case side5 => exact (Kd.R_reads' (rT HO_4 BK472 (by decide))).2.2); (case side6 => exact (Kd.R_reads' HO_4.out).2.1); rintro e w84 ⟨v474, v477, rfl, ho0, ho1, hb⟩; refine ⟨_, rfl, ?_⟩; replace HO_4 := ak (Kd.R_below (rT HO_4 BK472 (by decide)) hb); replace HO465 := ak (Kd.R_below (rT HO465 BK472 (by decide)) hb); replace HO475 := ak (Kd.R_lower (Kd.R_new' (Kd.R_new' ho0 (Kd.R_lt (rT HO_457000 BK472 (by decide)))) (Kd.R_lt (rT HO468 BK472 (by decide)))) (below_size (lT HB (gC GE456 (gC GE472 gN))))); replace HO_457000 := ak (Kd.R_elder' (rT HO_457000 BK472 (by decide)) (Kd.R_base ho0) hb); replace HO468 := ak (Kd.R_elder' (rT HO468 BK472 (by decide)) (Kd.R_base ho0) hb); replace HO478 := ak (Kd.R_lower (Kd.R_new' (Kd.R_new' ho1 (Kd.R_lt (rT HO_457001 BK472 (by decide)))) (Kd.R_lt (rT HO471 BK472 (by decide)))) (below_size (lT HB (gC GE456 (gC GE472 gN))))); replace HO_457001 := ak (Kd.R_elder' (rT HO_457001 BK472 (by decide)) (Kd.R_base ho1) hb); replace HO471 := ak (Kd.R_elder' (rT HO471 BK472 (by decide)) (Kd.R_base ho1) hb); replace BK456 := ak (blk_below (bT BK456 (nC NB456_472 nN)) hb); replace BK472 := ak (blk_below (g := gb472) (o := .cells #[.slice Ao78 t466.length co78, .slice Ao81 t469.length co81] 27 (0, 0)) (by (with_reducible repeat (first | refine blk_drewN ?_ _ | refine blk_drew ?_ | refine blk_alloc ?_ _)); refine blk_put (cs := #[.slice Ao78 t466.length co78, .slice none 0 0]) ?_ 1 _ rfl; (with_reducible repeat (first | refine blk_drewN ?_ _ | refine blk_drew ?_ | refine blk_alloc ?_ _)); refine blk_put (cs := #[.slice none 0 0, .slice none 0 0]) ?_ 0 _ rfl; (with_reducible repeat (first | refine blk_drewN ?_ _ | refine blk_drew ?_ | refine blk_alloc ?_ _)); exact BK472.out) hb); replace HB := ak (below_step (lT HB (gC GE456 (gC GE472 gN))) hb); (try clear hb); (try clear hk); (try clear ho0); (try clear ho1)) | ((with_reducible refine gate_dst (N := 7) rfl ?_); (try (refine gate_guard (by rfl) ?_; dsimp only)); refine bx 7 #[.slice none 0 0, .slice none 0 0] 27 ?_; intro gb479 hg w85 hbox hb; replace HO_4 := rB HO_4 hb; replace HO_457000 := rB HO_457000 hb; replace HO_457001 := rB HO_457001 hb; replace HO465 := rB HO465 hb; replace HO468 := rB HO468 hb; replace HO471 := rB HO471 hb; replace HO475 := rB HO475 hb; replace HO478 := rB HO478 hb; replace BK479 := ak (hbox); replace GW479 := ak (bz hg (lT HB (gC GE456 (gC GE472 gN)))); replace GE479 := ak (bz hg (lT HB (gC GE456 (gC GE472 gN)))); replace HB := ak (below_step (lT HB (gC GE456 (gC GE472 gN))) hb); replace NB456_479 := ak (nl hg (bG BK456)); replace NB479_456 := ak (ng hg (bG BK456)); replace BK456 := bB BK456 hb; replace NB472_479 := ak (nl hg (bG BK472)); replace NB479_472 := ak (ng hg (bG BK472)); replace BK472 := bB BK472 hb; clear hb hbox hg; obtain ⟨Ao86, co86, eo86⟩ := Kd.R_slice HO475.out; subst eo86; have hnb87 := NB479_456.out; have hnc87 := NB456_479.out; have hnb88 := NB479_472.out; have hnc88 := NB472_479.out; obtain ⟨hcz89_0, hcz89_1, hfz89_0, hfz89_1⟩ := bC2 BK479; obtain ⟨Ao90, co90, eo90⟩ := Kd.R_slice HO478.out; subst eo90) | ((with_reducible refine gate_callee (f := 18) rfl ?_); refine gl (some 34) Try.func18 #[.slice A0 l0.length c0] ?_; (with_reducible refine (spec_DrawCrashDisk.calls k1 _ _ l0 t480 t483 t486 t489 _ ?side1 ?side2 A18.out).mono ?_); (case side1 => exact Kd.C_below HR0.out (lT HB (gC GE456 (gC GE472 (gC GE479 gN))))); (case side2 => exact HC0.out); rintro e w91 ⟨v481, v484, v487, rfl, ho0, ho1, ho2, hb⟩; refine ⟨_, rfl, ?_⟩; replace HO482 := ak (Kd.R_lower (Kd.R_new' (Kd.R_new' (Kd.R_new' ho0 (Kd.R_lt (rT HO_457000 BK479 (by decide)))) (Kd.R_lt (rT HO468 BK479 (by decide)))) (Kd.R_lt (rT HO475 BK479 (by decide)))) (below_size (lT HB (gC GE456 (gC GE472 (gC GE479 gN)))))); replace HO_457000 := ak (Kd.R_elder' (rT HO_457000 BK479 (by decide)) (Kd.R_base ho0) hb); replace HO468 := ak (Kd.R_elder' (rT HO468 BK479 (by decide)) (Kd.R_base ho0) hb); replace HO475 := ak (Kd.R_elder' (rT HO475 BK479 (by decide)) (Kd.R_base ho0) hb); replace HO485 := ak (Kd.R_lower (Kd.R_new' (Kd.R_new' (Kd.R_new' ho1 (Kd.R_lt (rT HO_457001 BK479 (by decide)))) (Kd.R_lt (rT HO471 BK479 (by decide)))) (Kd.R_lt (rT HO478 BK479 (by decide)))) (below_size (lT HB (gC GE456 (gC GE472 (gC GE479 gN)))))); replace HO_457001 := ak (Kd.R_elder' (rT HO_457001 BK479 (by decide)) (Kd.R_base ho1) hb); replace HO471 := ak (Kd.R_elder' (rT HO471 BK479 (by decide)) (Kd.R_base ho1) hb); replace HO478 := ak (Kd.R_elder' (rT HO478 BK479 (by decide)) (Kd.R_base ho1) hb); replace HO488 := ak (Kd.R_lower (Kd.R_new' (Kd.R_new' ho2 (Kd.R_lt (rT HO_4 BK479 (by decide)))) (Kd.R_lt (rT HO465 BK479 (by decide)))) (below_size (lT HB (gC GE456 (gC GE472 (gC GE479 gN)))))); replace HO_4 := ak (Kd.R_elder' (rT HO_4 BK479 (by decide)) (Kd.R_base ho2) hb); replace HO465 := ak (Kd.R_elder' (rT HO465 BK479 (by decide)) (Kd.R_base ho2) hb); replace BK456 := ak (blk_below (bT BK456 (nC NB456_479 nN)) hb); replace BK472 := ak (blk_below (bT BK472 (nC NB472_479 nN)) hb); replace BK479 := ak (blk_below (g := gb479) (o := .cells #[.slice Ao86 t473.length co86, .slice Ao90 t476.length co90] 27 (0, 0)) (by (with_reducible repeat (first | refine blk_drewN ?_ _ | refine blk_drew ?_ | refine blk_alloc ?_ _)); refine blk_put (cs := #[.slice Ao86 t473.length co86, .slice none 0 0]) ?_ 1 _ rfl; (with_reducible repeat (first | refine blk_drewN ?_ _ | refine blk_drew ?_ | refine blk_alloc ?_ _)); refine blk_put (cs := #[.slice none 0 0, .slice none 0 0]) ?_ 0 _ rfl; (with_reducible repeat (first | refine blk_drewN ?_ _ | refine blk_drew ?_ | refine blk_alloc ?_ _)); exact BK479.out) hb); replace HB := ak (below_step (lT HB (gC GE456 (gC GE472 (gC GE479 gN)))) hb); (try clear hb); (try clear hk); (try clear ho0); (try clear ho1); (try clear ho2)) | ((with_reducible refine gate_dst (N := 8) rfl ?_); (try (refine gate_guard (by rfl) ?_; dsimp only)); refine bx 8 #[.slice none 0 0, .slice none 0 0] 27 ?_; intro gb490 hg w92 hbox hb; replace HO_4 := rB HO_4 hb; replace HO_457000 := rB HO_457000 hb; replace HO_457001 := rB HO_457001 hb; replace HO465 := rB HO465 hb; replace HO468 := rB HO468 hb; replace HO471 := rB HO471 hb; replace HO475 := rB HO475 hb; replace HO478 := rB HO478 hb; replace HO482 := rB HO482 hb; replace HO485 := rB HO485 hb; replace HO488 := rB HO488 hb; replace BK490 := ak (hbox); replace GW490 := ak (bz hg (lT HB (gC GE456 (gC GE472 (gC GE479 gN))))); replace GE490 := ak (bz hg (lT HB (gC GE456 (gC GE472 (gC GE479 gN))))); replace HB := ak (below_step (lT HB (gC GE456 (gC GE472 (gC GE479 gN)))) hb); replace NB456_490 := ak (nl hg (bG BK456)); replace NB490_456 := ak (ng hg (bG BK456)); replace BK456 := bB BK456 hb; replace NB472_490 := ak (nl hg (bG BK472)); replace NB490_472 := ak (ng hg (bG BK472)); replace BK472 := bB BK472 hb; replace NB479_490 := ak (nl hg (bG BK479)); replace NB490_479 := ak (ng hg (bG BK479)); replace BK479 := bB BK479 hb; clear hb hbox hg; obtain ⟨Ao93, co93, eo93⟩ := Kd.R_slice HO482.out; subst eo93; have hnb94 := NB490_456.out; have hnc94 := NB456_490.out; have hnb95 := NB490_472.out; have hnc95 := NB472_490.out; have hnb96 := NB490_479.out; have hnc96 := NB479_490.out; obtain ⟨hcz97_0, hcz97_1, hfz97_0, hfz97_1⟩ := bC2 BK490; obtain ⟨Ao98, co98, eo98⟩ := Kd.R_slice HO485.out; subst eo98))
         have n0_ : Aside0 (Kd.R (Kd.int .i64) 3 ((w92.setCell ⟨gb490, 0, none⟩ (.slice Ao93 t480.length co93)).setCell ⟨gb490, 1, none⟩ (.slice Ao98 t483.length co98)) w.heap.size (fun k_ => some k_ ≠ (.slice Ao75 y463.length co75 : Value).ownBlock ∧ some k_ ≠ (v487 : Value).ownBlock) (.slice Ao83 x4_1.length co83) x4_1) := ⟨by (with_reducible repeat (first | apply Kd.R_alloc | apply Kd.R_drewN | apply Kd.R_drew)); exact Kd.R_mono (Kd.R_far (p := ⟨gb490, 1, none⟩) (Kd.R_far (p := ⟨gb490, 0, none⟩) (Kd.R_types HO_4.out BK490.out (by decide)) (fun _ hk => hk.2) (.slice Ao93 t480.length co93)) (fun _ hk => hk.2) (.slice Ao98 t483.length co98)) (fun _ hk => ⟨hk.1.1.2, hk.1.2⟩)⟩
         have n1_ : Aside0 (Kd.R Kd.string 9 ((w92.setCell ⟨gb490, 0, none⟩ (.slice Ao93 t480.length co93)).setCell ⟨gb490, 1, none⟩ (.slice Ao98 t483.length co98)) w.heap.size (fun k_ => some k_ ≠ (.slice Ao78 t466.length co78 : Value).ownBlock ∧ some k_ ≠ (.slice Ao86 t473.length co86 : Value).ownBlock ∧ some k_ ≠ (.slice Ao93 t480.length co93 : Value).ownBlock) (.slice Ao7 t450.length co7) t450) := ⟨by (with_reducible repeat (first | apply Kd.R_alloc | apply Kd.R_drewN | apply Kd.R_drew)); exact Kd.R_mono (Kd.R_far (p := ⟨gb490, 1, none⟩) (Kd.R_far (p := ⟨gb490, 0, none⟩) (Kd.R_types HO_457000.out BK490.out (by decide)) (fun _ hk => hk.2) (.slice Ao93 t480.length co93)) (fun _ hk => hk.2) (.slice Ao98 t483.length co98)) (fun _ hk => ⟨hk.1.1.1.2, ⟨hk.1.1.2, hk.1.2⟩⟩)⟩
         have n2_ : Aside0 (Kd.R k63 63 ((w92.setCell ⟨gb490, 0, none⟩ (.slice Ao93 t480.length co93)).setCell ⟨gb490, 1, none⟩ (.slice Ao98 t483.length co98)) w.heap.size (fun k_ => some k_ ≠ (.slice Ao81 t469.length co81 : Value).ownBlock ∧ some k_ ≠ (.slice Ao90 t476.length co90 : Value).ownBlock ∧ some k_ ≠ (.slice Ao98 t483.length co98 : Value).ownBlock) (.slice Ao9 t453.length co9) t453) := ⟨by (with_reducible repeat (first | apply Kd.R_alloc | apply Kd.R_drewN | apply Kd.R_drew)); exact Kd.R_mono (Kd.R_far (p := ⟨gb490, 1, none⟩) (Kd.R_far (p := ⟨gb490, 0, none⟩) (Kd.R_types HO_457001.out BK490.out (by decide)) (fun _ hk => hk.2) (.slice Ao93 t480.length co93)) (fun _ hk => hk.2) (.slice Ao98 t483.length co98)) (fun _ hk => ⟨hk.1.1.1.2, ⟨hk.1.1.2, hk.1.2⟩⟩)⟩
         have n3_ : Aside0 (Kd.R (Kd.int .i64) 3 ((w92.setCell ⟨gb490, 0, none⟩ (.slice Ao93 t480.length co93)).setCell ⟨gb490, 1, none⟩ (.slice Ao98 t483.length co98)) w.heap.size (fun k_ => some k_ ≠ (.slice Ao83 x4_1.length co83 : Value).ownBlock ∧ some k_ ≠ (v487 : Value).ownBlock) (.slice Ao75 y463.length co75) y463) := ⟨by (with_reducible repeat (first | apply Kd.R_alloc | apply Kd.R_drewN | apply Kd.R_drew)); exact Kd.R_mono (Kd.R_far (p := ⟨gb490, 1, none⟩) (Kd.R_far (p := ⟨gb490, 0, none⟩) (Kd.R_types HO465.out BK490.out (by decide)) (fun _ hk => hk.2) (.slice Ao93 t480.length co93)) (fun _ hk => hk.2) (.slice Ao98 t483.length co98)) (fun _ hk => ⟨hk.1.1.2, hk.1.2⟩)⟩
         have n4_ : Aside0 (Kd.R Kd.string 9 ((w92.setCell ⟨gb490, 0, none⟩ (.slice Ao93 t480.length co93)).setCell ⟨gb490, 1, none⟩ (.slice Ao98 t483.length co98)) w.heap.size (fun k_ => some k_ ≠ (.slice Ao7 t450.length co7 : Value).ownBlock ∧ some k_ ≠ (.slice Ao86 t473.length co86 : Value).ownBlock ∧ some k_ ≠ (.slice Ao93 t480.length co93 : Value).ownBlock) (.slice Ao78 t466.length co78) t466) := ⟨by (with_reducible repeat (first | apply Kd.R_alloc | apply Kd.R_drewN | apply Kd.R_drew)); exact Kd.R_mono (Kd.R_far (p := ⟨gb490, 1, none⟩) (Kd.R_far (p := ⟨gb490, 0, none⟩) (Kd.R_types HO468.out BK490.out (by decide)) (fun _ hk => hk.2) (.slice Ao93 t480.length co93)) (fun _ hk => hk.2) (.slice Ao98 t483.length co98)) (fun _ hk => ⟨hk.1.1.1.2, ⟨hk.1.1.2, hk.1.2⟩⟩)⟩
         have n5_ : Aside0 (Kd.R k63 63 ((w92.setCell ⟨gb490, 0, none⟩ (.slice Ao93 t480.length co93)).setCell ⟨gb490, 1, none⟩ (.slice Ao98 t483.length co98)) w.heap.size (fun k_ => some k_ ≠ (.slice Ao9 t453.length co9 : Value).ownBlock ∧ some k_ ≠ (.slice Ao90 t476.length co90 : Value).ownBlock ∧ some k_ ≠ (.slice Ao98 t483.length co98 : Value).ownBlock) (.slice Ao81 t469.length co81) t469) := ⟨by (with_reducible repeat (first | apply Kd.R_alloc | apply Kd.R_drewN | apply Kd.R_drew)); exact Kd.R_mono (Kd.R_far (p := ⟨gb490, 1, none⟩) (Kd.R_far (p := ⟨gb490, 0, none⟩) (Kd.R_types HO471.out BK490.out (by decide)) (fun _ hk => hk.2) (.slice Ao93 t480.length co93)) (fun _ hk => hk.2) (.slice Ao98 t483.length co98)) (fun _ hk => ⟨hk.1.1.1.2, ⟨hk.1.1.2, hk.1.2⟩⟩)⟩
         have n6_ : Aside0 (Kd.R Kd.string 9 ((w92.setCell ⟨gb490, 0, none⟩ (.slice Ao93 t480.length co93)).setCell ⟨gb490, 1, none⟩ (.slice Ao98 t483.length co98)) w.heap.size (fun k_ => some k_ ≠ (.slice Ao7 t450.length co7 : Value).ownBlock ∧ some k_ ≠ (.slice Ao78 t466.length co78 : Value).ownBlock ∧ some k_ ≠ (.slice Ao93 t480.length co93 : Value).ownBlock) (.slice Ao86 t473.length co86) t473) := ⟨by (with_reducible repeat (first | apply Kd.R_alloc | apply Kd.R_drewN | apply Kd.R_drew)); exact Kd.R_mono (Kd.R_far (p := ⟨gb490, 1, none⟩) (Kd.R_far (p := ⟨gb490, 0, none⟩) (Kd.R_types HO475.out BK490.out (by decide)) (fun _ hk => hk.2) (.slice Ao93 t480.length co93)) (fun _ hk => hk.2) (.slice Ao98 t483.length co98)) (fun _ hk => ⟨hk.1.1.1.2, ⟨hk.1.1.2, hk.1.2⟩⟩)⟩
         have n7_ : Aside0 (Kd.R k63 63 ((w92.setCell ⟨gb490, 0, none⟩ (.slice Ao93 t480.length co93)).setCell ⟨gb490, 1, none⟩ (.slice Ao98 t483.length co98)) w.heap.size (fun k_ => some k_ ≠ (.slice Ao9 t453.length co9 : Value).ownBlock ∧ some k_ ≠ (.slice Ao81 t469.length co81 : Value).ownBlock ∧ some k_ ≠ (.slice Ao98 t483.length co98 : Value).ownBlock) (.slice Ao90 t476.length co90) t476) := ⟨by (with_reducible repeat (first | apply Kd.R_alloc | apply Kd.R_drewN | apply Kd.R_drew)); exact Kd.R_mono (Kd.R_far (p := ⟨gb490, 1, none⟩) (Kd.R_far (p := ⟨gb490, 0, none⟩) (Kd.R_types HO478.out BK490.out (by decide)) (fun _ hk => hk.2) (.slice Ao93 t480.length co93)) (fun _ hk => hk.2) (.slice Ao98 t483.length co98)) (fun _ hk => ⟨hk.1.1.1.2, ⟨hk.1.1.2, hk.1.2⟩⟩)⟩
         have n8_ : Aside0 (Kd.R Kd.string 9 ((w92.setCell ⟨gb490, 0, none⟩ (.slice Ao93 t480.length co93)).setCell ⟨gb490, 1, none⟩ (.slice Ao98 t483.length co98)) w.heap.size (fun k_ => some k_ ≠ (.slice Ao7 t450.length co7 : Value).ownBlock ∧ some k_ ≠ (.slice Ao78 t466.length co78 : Value).ownBlock ∧ some k_ ≠ (.slice Ao86 t473.length co86 : Value).ownBlock) (.slice Ao93 t480.length co93) t480) := ⟨by (with_reducible repeat (first | apply Kd.R_alloc | apply Kd.R_drewN | apply Kd.R_drew)); exact Kd.R_mono (Kd.R_far (p := ⟨gb490, 1, none⟩) (Kd.R_far (p := ⟨gb490, 0, none⟩) (Kd.R_types HO482.out BK490.out (by decide)) (fun _ hk => hk.2) (.slice Ao93 t480.length co93)) (fun _ hk => hk.2) (.slice Ao98 t483.length co98)) (fun _ hk => ⟨hk.1.1.1.2, ⟨hk.1.1.2, hk.1.2⟩⟩)⟩
         have n9_ : Aside0 (Kd.R k63 63 ((w92.setCell ⟨gb490, 0, none⟩ (.slice Ao93 t480.length co93)).setCell ⟨gb490, 1, none⟩ (.slice Ao98 t483.length co98)) w.heap.size (fun k_ => some k_ ≠ (.slice Ao9 t453.length co9 : Value).ownBlock ∧ some k_ ≠ (.slice Ao81 t469.length co81 : Value).ownBlock ∧ some k_ ≠ (.slice Ao90 t476.length co90 : Value).ownBlock) (.slice Ao98 t483.length co98) t483) := ⟨by (with_reducible repeat (first | apply Kd.R_alloc | apply Kd.R_drewN | apply Kd.R_drew)); exact Kd.R_mono (Kd.R_far (p := ⟨gb490, 1, none⟩) (Kd.R_far (p := ⟨gb490, 0, none⟩) (Kd.R_types HO485.out BK490.out (by decide)) (fun _ hk => hk.2) (.slice Ao93 t480.length co93)) (fun _ hk => hk.2) (.slice Ao98 t483.length co98)) (fun _ hk => ⟨hk.1.1.1.2, ⟨hk.1.1.2, hk.1.2⟩⟩)⟩
         have n10_ : Aside0 (Kd.R (Kd.int .i64) 3 ((w92.setCell ⟨gb490, 0, none⟩ (.slice Ao93 t480.length co93)).setCell ⟨gb490, 1, none⟩ (.slice Ao98 t483.length co98)) w.heap.size (fun k_ => some k_ ≠ (.slice Ao83 x4_1.length co83 : Value).ownBlock ∧ some k_ ≠ (.slice Ao75 y463.length co75 : Value).ownBlock) v487 t486) := ⟨by (with_reducible repeat (first | apply Kd.R_alloc | apply Kd.R_drewN | apply Kd.R_drew)); exact Kd.R_mono (Kd.R_far (p := ⟨gb490, 1, none⟩) (Kd.R_far (p := ⟨gb490, 0, none⟩) (Kd.R_types HO488.out BK490.out (by decide)) (fun _ hk => hk.2) (.slice Ao93 t480.length co93)) (fun _ hk => hk.2) (.slice Ao98 t483.length co98)) (fun _ hk => ⟨hk.1.1.2, hk.1.2⟩)⟩
         have n11_ : Aside0 (((w92.setCell ⟨gb490, 0, none⟩ (.slice Ao93 t480.length co93)).setCell ⟨gb490, 1, none⟩ (.slice Ao98 t483.length co98)).heap[gb456]? = some (.cells #[.slice Ao7 t450.length co7, .slice Ao9 t453.length co9] 27 (0, 0))) := ⟨by (with_reducible repeat (first | refine blk_drewN ?_ _ | refine blk_drew ?_ | refine blk_alloc ?_ _)); refine blk_far ?_ NB456_490.out _; (with_reducible repeat (first | refine blk_drewN ?_ _ | refine blk_drew ?_ | refine blk_alloc ?_ _)); refine blk_far ?_ NB456_490.out _; (with_reducible repeat (first | refine blk_drewN ?_ _ | refine blk_drew ?_ | refine blk_alloc ?_ _)); exact BK456.out⟩
         have n12_ : Aside0 (((w92.setCell ⟨gb490, 0, none⟩ (.slice Ao93 t480.length co93)).setCell ⟨gb490, 1, none⟩ (.slice Ao98 t483.length co98)).heap[gb472]? = some (.cells #[.slice Ao78 t466.length co78, .slice Ao81 t469.length co81] 27 (0, 0))) := ⟨by (with_reducible repeat (first | refine blk_drewN ?_ _ | refine blk_drew ?_ | refine blk_alloc ?_ _)); refine blk_far ?_ NB472_490.out _; (with_reducible repeat (first | refine blk_drewN ?_ _ | refine blk_drew ?_ | refine blk_alloc ?_ _)); refine blk_far ?_ NB472_490.out _; (with_reducible repeat (first | refine blk_drewN ?_ _ | refine blk_drew ?_ | refine blk_alloc ?_ _)); exact BK472.out⟩
         have n13_ : Aside0 (((w92.setCell ⟨gb490, 0, none⟩ (.slice Ao93 t480.length co93)).setCell ⟨gb490, 1, none⟩ (.slice Ao98 t483.length co98)).heap[gb479]? = some (.cells #[.slice Ao86 t473.length co86, .slice Ao90 t476.length co90] 27 (0, 0))) := ⟨by (with_reducible repeat (first | refine blk_drewN ?_ _ | refine blk_drew ?_ | refine blk_alloc ?_ _)); refine blk_far ?_ NB479_490.out _; (with_reducible repeat (first | refine blk_drewN ?_ _ | refine blk_drew ?_ | refine blk_alloc ?_ _)); refine blk_far ?_ NB479_490.out _; (with_reducible repeat (first | refine blk_drewN ?_ _ | refine blk_drew ?_ | refine blk_alloc ?_ _)); exact BK479.out⟩
         have n14_ : Aside0 (((w92.setCell ⟨gb490, 0, none⟩ (.slice Ao93 t480.length co93)).setCell ⟨gb490, 1, none⟩ (.slice Ao98 t483.length co98)).heap[gb490]? = some (.cells #[.slice Ao93 t480.length co93, .slice Ao98 t483.length co98] 27 (0, 0))) := ⟨by (with_reducible repeat (first | refine blk_drewN ?_ _ | refine blk_drew ?_ | refine blk_alloc ?_ _)); refine blk_put (cs := #[.slice Ao93 t480.length co93, .slice none 0 0]) ?_ 1 _ rfl; (with_reducible repeat (first | refine blk_drewN ?_ _ | refine blk_drew ?_ | refine blk_alloc ?_ _)); refine blk_put (cs := #[.slice none 0 0, .slice none 0 0]) ?_ 0 _ rfl; (with_reducible repeat (first | refine blk_drewN ?_ _ | refine blk_drew ?_ | refine blk_alloc ?_ _)); exact BK490.out⟩
         have n15_ : Aside0 (Below w.heap.size w ((w92.setCell ⟨gb490, 0, none⟩ (.slice Ao93 t480.length co93)).setCell ⟨gb490, 1, none⟩ (.slice Ao98 t483.length co98))) := ⟨by exact lT HB (gC GE456 (gC GE472 (gC GE479 (gC GE490 gN))))⟩
         (try clear HO_4)
         (try clear HO_457000)
         (try clear HO_457001)
         (try clear HO465)
         (try clear HO468)
         (try clear HO471)
         (try clear HO475)
         (try clear HO478)
         (try clear HO482)
         (try clear HO485)
         (try clear HO488)
         (try clear BK456)
         (try clear BK472)
         (try clear BK479)
         (try clear BK490)
         (try clear HB)
         generalize ((w92.setCell ⟨gb490, 0, none⟩ (.slice Ao93 t480.length co93)).setCell ⟨gb490, 1, none⟩ (.slice Ao98 t483.length co98)) = w99 at n0_ n1_ n2_ n3_ n4_ n5_ n6_ n7_ n8_ n9_ n10_ n11_ n12_ n13_ n14_ n15_ ⊢
         have HO_4 := n0_
         have HO_457000 := n1_
         have HO_457001 := n2_
         have HO465 := n3_
         have HO468 := n4_
         have HO471 := n5_
         have HO475 := n6_
         have HO478 := n7_
         have HO482 := n8_
         have HO485 := n9_
         have HO488 := n10_
         have BK456 := n11_
         have BK472 := n12_
         have BK479 := n13_
         have BK490 := n14_
         have HB := n15_
         clear n0_ n1_ n2_ n3_ n4_ n5_ n6_ n7_ n8_ n9_ n10_ n11_ n12_ n13_ n14_ n15_
         replace HO_4 := ak (Kd.R_drew HO_4.out)
         replace HO_457000 := ak (Kd.R_drew HO_457000.out)
         replace HO_457001 := ak (Kd.R_drew HO_457001.out)
         replace HO465 := ak (Kd.R_drew HO465.out)
         replace HO468 := ak (Kd.R_drew HO468.out)
         replace HO471 := ak (Kd.R_drew HO471.out)
         replace HO475 := ak (Kd.R_drew HO475.out)
         replace HO478 := ak (Kd.R_drew HO478.out)
         replace HO482 := ak (Kd.R_drew HO482.out)
         replace HO485 := ak (Kd.R_drew HO485.out)
         replace HO488 := ak (Kd.R_drew HO488.out)
         replace BK456 := ak (blk_drew BK456.out)
         replace BK472 := ak (blk_drew BK472.out)
         replace BK479 := ak (blk_drew BK479.out)
         replace BK490 := ak (blk_drew BK490.out)
         replace HB := ak (below_drew1 HB.out)
         refine start_ (n := 33) (S := fun w' => w'.cell? ⟨gb472, 0, none⟩ = some (.slice Ao78 t466.length co78) ∧ w'.cell? ⟨gb472, 1, none⟩ = some (.slice Ao81 t469.length co81) ∧ w'.cell? ⟨gb456, 0, none⟩ = some (.slice Ao7 t450.length co7) ∧ w'.cell? ⟨gb456, 1, none⟩ = some (.slice Ao9 t453.length co9) ∧ w'.cell? ⟨gb479, 0, none⟩ = some (.slice Ao86 t473.length co86) ∧ w'.cell? ⟨gb479, 1, none⟩ = some (.slice Ao90 t476.length co90) ∧ w'.cell? ⟨gb490, 0, none⟩ = some (.slice Ao93 t480.length co93) ∧ w'.cell? ⟨gb490, 1, none⟩ = some (.slice Ao98 t483.length co98)) (ds := []) #[f_,f_,f_,f_,f_,f_,f_,f_,f_,f_,f_,f_,f_,f_,f_,f_,f_,f_,f_,f_,f_,f_,f_,f_,f_,f_,f_,f_,f_,f_,f_,f_,f_] (by kernel_rfl) rfl rfl ⟨(blk_cell BK472.out 0).trans rfl, (blk_cell BK472.out 1).trans rfl, (blk_cell BK456.out 0).trans rfl, (blk_cell BK456.out 1).trans rfl, (blk_cell BK479.out 0).trans rfl, (blk_cell BK479.out 1).trans rfl, (blk_cell BK490.out 0).trans rfl, (blk_cell BK490.out 1).trans rfl⟩ (fun hHeld => ?_); refine with_tabW laws_FnCrashes.tab12 laws_FnCrashes.bits12 (fun HT_ HW_ => ?_)
         generalize w99.drew = w100 at HO_4 HO_457000 HO_457001 HO465 HO468 HO471 HO475 HO478 HO482 HO485 HO488 BK456 BK472 BK479 BK490 HB hHeld ⊢
         refine pu 0 38 #[t_,f_,f_,f_,f_,f_,f_,f_,f_,f_,f_,f_,f_,f_,f_,f_,f_,f_,f_,f_,f_,f_,f_,f_,f_,f_,f_,f_,f_,f_,f_,f_,f_] HT_ ?_
         refine pu 2 40 #[t_,f_,t_,f_,f_,f_,f_,f_,f_,f_,f_,f_,f_,f_,f_,f_,f_,f_,f_,f_,f_,f_,f_,f_,f_,f_,f_,f_,f_,f_,f_,f_,f_] HT_ ?_
         refine tk 1 39 #[t_,t_,t_,f_,f_,f_,f_,f_,f_,f_,f_,f_,f_,f_,f_,f_,f_,f_,f_,f_,f_,f_,f_,f_,f_,f_,f_,f_,f_,f_,f_,f_,f_] HT_ HW_ hHeld ?_
         refine tk 3 41 #[t_,t_,t_,t_,f_,f_,f_,f_,f_,f_,f_,f_,f_,f_,f_,f_,f_,f_,f_,f_,f_,f_,f_,f_,f_,f_,f_,f_,f_,f_,f_,f_,f_] HT_ HW_ hHeld ?_
         refine on 4 (some 42) #[t_,t_,t_,t_,t_,f_,f_,f_,f_,f_,f_,f_,f_,f_,f_,f_,f_,f_,f_,f_,f_,f_,f_,f_,f_,f_,f_,f_,f_,f_,f_,f_,f_] HT_ (fun K hK => ?_)
         refine goes_ Try.func19 (by kernel_rfl) rfl #[.slice Ao78 t466.length co78, .slice Ao7 t450.length co7] (by rfl) rfl rfl (by (try simp only [List.map_toArray, List.map_cons, List.map_nil]); first | done | rfl | (simp only [List.length_drop, List.length_take]; rfl)) ?_
         with_reducible refine (laws_sameTexts.calls k1 _ _ t466 _ _ t450 true _ ?side1 ?side2 ?side3 ?side4 A19.out).mono ?_
         (case side1 => exact cG (Kd.R_reads' HO468.out).2.2)
         (case side2 => exact (Kd.R_reads' HO468.out).2.1)
         (case side3 => exact cG (Kd.R_reads' HO_457000.out).2.2)
         (case side4 => exact (Kd.R_reads' HO_457000.out).2.1)
         rintro e w' ⟨rfl, ⟨nd, rfl⟩⟩
         refine ⟨_, rfl, ?_⟩
         refine hK.out _ _ ⟨(blk_cell BK472.out 0).trans rfl, (blk_cell BK472.out 1).trans rfl, (blk_cell BK456.out 0).trans rfl, (blk_cell BK456.out 1).trans rfl, (blk_cell BK479.out 0).trans rfl, (blk_cell BK479.out 1).trans rfl, (blk_cell BK490.out 0).trans rfl, (blk_cell BK490.out 1).trans rfl⟩ (fun hHeld => ?_)
         clear hK K
         refine nm ?_
         refine pu 5 43 #[t_,t_,t_,t_,t_,t_,f_,f_,f_,f_,f_,f_,f_,f_,f_,f_,f_,f_,f_,f_,f_,f_,f_,f_,f_,f_,f_,f_,f_,f_,f_,f_,f_] HT_ ?_
         refine pu 6 44 #[t_,t_,t_,t_,t_,t_,t_,f_,f_,f_,f_,f_,f_,f_,f_,f_,f_,f_,f_,f_,f_,f_,f_,f_,f_,f_,f_,f_,f_,f_,f_,f_,f_] HT_ ?_
         refine tk 7 45 #[t_,t_,t_,t_,t_,t_,t_,t_,f_,f_,f_,f_,f_,f_,f_,f_,f_,f_,f_,f_,f_,f_,f_,f_,f_,f_,f_,f_,f_,f_,f_,f_,f_] HT_ HW_ hHeld ?_
         refine pu 8 46 #[t_,t_,t_,t_,t_,t_,t_,t_,t_,f_,f_,f_,f_,f_,f_,f_,f_,f_,f_,f_,f_,f_,f_,f_,f_,f_,f_,f_,f_,f_,f_,f_,f_] HT_ ?_
         refine pu 9 47 #[t_,t_,t_,t_,t_,t_,t_,t_,t_,t_,f_,f_,f_,f_,f_,f_,f_,f_,f_,f_,f_,f_,f_,f_,f_,f_,f_,f_,f_,f_,f_,f_,f_] HT_ ?_
         refine pu 10 48 #[t_,t_,t_,t_,t_,t_,t_,t_,t_,t_,t_,f_,f_,f_,f_,f_,f_,f_,f_,f_,f_,f_,f_,f_,f_,f_,f_,f_,f_,f_,f_,f_,f_] HT_ ?_
         refine pu 11 49 #[t_,t_,t_,t_,t_,t_,t_,t_,t_,t_,t_,t_,f_,f_,f_,f_,f_,f_,f_,f_,f_,f_,f_,f_,f_,f_,f_,f_,f_,f_,f_,f_,f_] HT_ ?_
         refine tk 12 50 #[t_,t_,t_,t_,t_,t_,t_,t_,t_,t_,t_,t_,t_,f_,f_,f_,f_,f_,f_,f_,f_,f_,f_,f_,f_,f_,f_,f_,f_,f_,f_,f_,f_] HT_ HW_ hHeld ?_
         refine tk 13 51 #[t_,t_,t_,t_,t_,t_,t_,t_,t_,t_,t_,t_,t_,t_,f_,f_,f_,f_,f_,f_,f_,f_,f_,f_,f_,f_,f_,f_,f_,f_,f_,f_,f_] HT_ HW_ hHeld ?_
         refine on 14 (some 52) #[t_,t_,t_,t_,t_,t_,t_,t_,t_,t_,t_,t_,t_,t_,t_,f_,f_,f_,f_,f_,f_,f_,f_,f_,f_,f_,f_,f_,f_,f_,f_,f_,f_] HT_ (fun K hK => ?_)
         refine goes_ Try.func13 (by kernel_rfl) rfl #[.agg #[.slice Ao7 t450.length co7, .slice Ao9 t453.length co9]] (by rfl) rfl rfl (by (try simp only [List.map_toArray, List.map_cons, List.map_nil]); first | done | rfl | (simp only [List.length_drop, List.length_take]; rfl)) ?_
         with_reducible refine (impl_FlushDisk.calls k1 _ _ t450 _ _ t453 t492 t495 _ ?side1 ?side2 ?side3 ?side4 A22.out).mono ?_
         (case side1 => exact cG (Kd.R_reads' HO_457000.out).2.2)
         (case side2 => exact (Kd.R_reads' HO_457000.out).2.1)
         (case side3 => exact cG (Kd.R_reads' HO_457001.out).2.2)
         (case side4 => exact (Kd.R_reads' HO_457001.out).2.1)
         rintro e w101 ⟨v493, v496, rfl, ho0, ho1, hb⟩
         refine ⟨_, rfl, ?_⟩
         replace HO_4 := rB HO_4 hb
         replace HO465 := rB HO465 hb
         replace HO488 := rB HO488 hb
         replace HO494 := ak (Kd.R_lower (Kd.R_new' (Kd.R_new' (Kd.R_new' (Kd.R_new' ho0 (Kd.R_lt (rG HO_457000))) (Kd.R_lt (rG HO468))) (Kd.R_lt (rG HO475))) (Kd.R_lt (rG HO482))) (below_size (lT HB (gC GE456 (gC GE472 (gC GE479 (gC GE490 gN)))))))
         replace HO_457000 := ak (Kd.R_elder' (rG HO_457000) (Kd.R_base ho0) hb)
         replace HO468 := ak (Kd.R_elder' (rG HO468) (Kd.R_base ho0) hb)
         replace HO475 := ak (Kd.R_elder' (rG HO475) (Kd.R_base ho0) hb)
         replace HO482 := ak (Kd.R_elder' (rG HO482) (Kd.R_base ho0) hb)
         replace HO497 := ak (Kd.R_lower (Kd.R_new' (Kd.R_new' (Kd.R_new' (Kd.R_new' ho1 (Kd.R_lt (rG HO_457001))) (Kd.R_lt (rG HO471))) (Kd.R_lt (rG HO478))) (Kd.R_lt (rG HO485))) (below_size (lT HB (gC GE456 (gC GE472 (gC GE479 (gC GE490 gN)))))))
         replace HO_457001 := ak (Kd.R_elder' (rG HO_457001) (Kd.R_base ho1) hb)
         replace HO471 := ak (Kd.R_elder' (rG HO471) (Kd.R_base ho1) hb)
         replace HO478 := ak (Kd.R_elder' (rG HO478) (Kd.R_base ho1) hb)
         replace HO485 := ak (Kd.R_elder' (rG HO485) (Kd.R_base ho1) hb)
         replace BK456 := bB BK456 hb
         replace BK472 := bB BK472 hb
         replace BK479 := bB BK479 hb
         replace BK490 := bB BK490 hb
         replace HB := ak (below_step (lT HB (gC GE456 (gC GE472 (gC GE479 (gC GE490 gN))))) hb)
         (try clear hb)
         (try clear hb2)
         (try clear hk)
         (try clear hi)
         (try clear ho0)
         (try clear ho1)
         obtain ⟨Ao102, co102, eo102⟩ := Kd.R_slice HO494.out
         (first | subst eo102 | (injection eo102 with f1_ f2_ f3_; have f4_ := f1_.symm; have f5_ := f3_.symm; clear f1_ f2_ f3_; subst f4_; subst f5_))
         obtain ⟨Ao103, co103, eo103⟩ := Kd.R_slice HO497.out
         (first | subst eo103 | (injection eo103 with f1_ f2_ f3_; have f4_ := f1_.symm; have f5_ := f3_.symm; clear f1_ f2_ f3_; subst f4_; subst f5_))
         refine hK.out _ _ ⟨(blk_cell BK472.out 0).trans rfl, (blk_cell BK472.out 1).trans rfl, (blk_cell BK456.out 0).trans rfl, (blk_cell BK456.out 1).trans rfl, (blk_cell BK479.out 0).trans rfl, (blk_cell BK479.out 1).trans rfl, (blk_cell BK490.out 0).trans rfl, (blk_cell BK490.out 1).trans rfl⟩ (fun hHeld => ?_)
         clear hK K
         refine nm ?_
         refine on 15 (some 53) #[t_,t_,t_,t_,t_,t_,t_,t_,t_,t_,t_,t_,t_,t_,t_,t_,f_,f_,f_,f_,f_,f_,f_,f_,f_,f_,f_,f_,f_,f_,f_,f_,f_] HT_ (fun K hK => ?_)
         refine goes_ Try.func20 (by kernel_rfl) rfl #[.agg #[.slice Ao86 t473.length co86, .slice Ao90 t476.length co90], .agg #[.slice Ao102 t492.length co102, .slice Ao103 t495.length co103]] (by rfl) rfl rfl (by (try simp only [List.map_toArray, List.map_cons, List.map_nil]); first | done | rfl | (simp only [List.length_drop, List.length_take]; rfl)) ?_
         with_reducible refine (laws_sameDisk.calls k1 _ _ t473 _ _ t476 _ _ t492 _ _ t495 true _ ?side1 ?side2 ?side3 ?side4 ?side5 ?side6 ?side7 ?side8 A23.out).mono ?_
         (case side1 => exact cG (Kd.R_reads' HO475.out).2.2)
         (case side2 => exact (Kd.R_reads' HO475.out).2.1)
         (case side3 => exact cG (Kd.R_reads' HO478.out).2.2)
         (case side4 => exact (Kd.R_reads' HO478.out).2.1)
         (case side5 => exact cG (Kd.R_reads' HO494.out).2.2)
         (case side6 => exact (Kd.R_reads' HO494.out).2.1)
         (case side7 => exact cG (Kd.R_reads' HO497.out).2.2)
         (case side8 => exact (Kd.R_reads' HO497.out).2.1)
         rintro e w104 ⟨rfl, hb⟩
         refine ⟨_, rfl, ?_⟩
         replace HO_4 := rB HO_4 hb
         replace HO_457000 := rB HO_457000 hb
         replace HO_457001 := rB HO_457001 hb
         replace HO465 := rB HO465 hb
         replace HO468 := rB HO468 hb
         replace HO471 := rB HO471 hb
         replace HO475 := rB HO475 hb
         replace HO478 := rB HO478 hb
         replace HO482 := rB HO482 hb
         replace HO485 := rB HO485 hb
         replace HO488 := rB HO488 hb
         replace HO494 := rB HO494 hb
         replace HO497 := rB HO497 hb
         replace BK456 := bB BK456 hb
         replace BK472 := bB BK472 hb
         replace BK479 := bB BK479 hb
         replace BK490 := bB BK490 hb
         replace HB := ak (below_step (lT HB (gC GE456 (gC GE472 (gC GE479 (gC GE490 gN))))) hb)
         (try clear hb)
         (try clear hb2)
         (try clear hk)
         (try clear hi)
         obtain ⟨Ao105, co105, eo105⟩ := Kd.R_slice HO488.out
         (first | subst eo105 | (injection eo105 with f1_ f2_ f3_; have f4_ := f1_.symm; have f5_ := f3_.symm; clear f1_ f2_ f3_; subst f4_; subst f5_))
         refine hK.out _ _ ⟨(blk_cell BK472.out 0).trans rfl, (blk_cell BK472.out 1).trans rfl, (blk_cell BK456.out 0).trans rfl, (blk_cell BK456.out 1).trans rfl, (blk_cell BK479.out 0).trans rfl, (blk_cell BK479.out 1).trans rfl, (blk_cell BK490.out 0).trans rfl, (blk_cell BK490.out 1).trans rfl⟩ (fun hHeld => ?_)
         clear hK K
         refine nm ?_
         refine pu 16 54 #[t_,t_,t_,t_,t_,t_,t_,t_,t_,t_,t_,t_,t_,t_,t_,t_,t_,f_,f_,f_,f_,f_,f_,f_,f_,f_,f_,f_,f_,f_,f_,f_,f_] HT_ ?_
         refine pu 17 55 #[t_,t_,t_,t_,t_,t_,t_,t_,t_,t_,t_,t_,t_,t_,t_,t_,t_,t_,f_,f_,f_,f_,f_,f_,f_,f_,f_,f_,f_,f_,f_,f_,f_] HT_ ?_
         refine pu 19 57 #[t_,t_,t_,t_,t_,t_,t_,t_,t_,t_,t_,t_,t_,t_,t_,t_,t_,t_,f_,t_,f_,f_,f_,f_,f_,f_,f_,f_,f_,f_,f_,f_,f_] HT_ ?_
         refine pu 20 58 #[t_,t_,t_,t_,t_,t_,t_,t_,t_,t_,t_,t_,t_,t_,t_,t_,t_,t_,f_,t_,t_,f_,f_,f_,f_,f_,f_,f_,f_,f_,f_,f_,f_] HT_ ?_
         refine pu 23 61 #[t_,t_,t_,t_,t_,t_,t_,t_,t_,t_,t_,t_,t_,t_,t_,t_,t_,t_,f_,t_,t_,f_,f_,t_,f_,f_,f_,f_,f_,f_,f_,f_,f_] HT_ ?_
         refine pu 24 62 #[t_,t_,t_,t_,t_,t_,t_,t_,t_,t_,t_,t_,t_,t_,t_,t_,t_,t_,f_,t_,t_,f_,f_,t_,t_,f_,f_,f_,f_,f_,f_,f_,f_] HT_ ?_
         refine tk 18 56 #[t_,t_,t_,t_,t_,t_,t_,t_,t_,t_,t_,t_,t_,t_,t_,t_,t_,t_,t_,t_,t_,f_,f_,t_,t_,f_,f_,f_,f_,f_,f_,f_,f_] HT_ HW_ hHeld ?_
         refine tk 22 60 #[t_,t_,t_,t_,t_,t_,t_,t_,t_,t_,t_,t_,t_,t_,t_,t_,t_,t_,t_,t_,t_,f_,t_,t_,t_,f_,f_,f_,f_,f_,f_,f_,f_] HT_ HW_ hHeld ?_
         refine on 21 (some 59) #[t_,t_,t_,t_,t_,t_,t_,t_,t_,t_,t_,t_,t_,t_,t_,t_,t_,t_,t_,t_,t_,t_,t_,t_,t_,f_,f_,f_,f_,f_,f_,f_,f_] HT_ (fun K hK => ?_)
         refine goes_ Try.func17 (by kernel_rfl) rfl #[.agg #[.slice Ao93 t480.length co93, .slice Ao98 t483.length co98], .slice Ao105 t486.length co105, .int .i64 t489] (by rfl) rfl rfl (by (try simp only [List.map_toArray, List.map_cons, List.map_nil]); first | done | rfl | (simp only [List.length_drop, List.length_take]; rfl)) ?_
         with_reducible refine (impl_CrashDisk.calls k1 _ _ t480 _ _ t483 _ _ t486 t489 t499 t502 _ ?side1 ?side2 ?side3 ?side4 ?side5 ?side6 A25.out).mono ?_
         (case side1 => exact cG (Kd.R_reads' HO482.out).2.2)
         (case side2 => exact (Kd.R_reads' HO482.out).2.1)
         (case side3 => exact cG (Kd.R_reads' HO485.out).2.2)
         (case side4 => exact (Kd.R_reads' HO485.out).2.1)
         (case side5 => exact cG (Kd.R_reads' HO488.out).2.2)
         (case side6 => exact (Kd.R_reads' HO488.out).2.1)
         rintro e w106 ⟨v500, v503, rfl, ho0, ho1, hb⟩
         refine ⟨_, rfl, ?_⟩
         replace HO_4 := rB HO_4 hb
         replace HO465 := rB HO465 hb
         replace HO488 := rB HO488 hb
         replace HO501 := ak (Kd.R_lower (Kd.R_new' (Kd.R_new' (Kd.R_new' (Kd.R_new' (Kd.R_new' ho0 (Kd.R_lt (rG HO_457000))) (Kd.R_lt (rG HO468))) (Kd.R_lt (rG HO475))) (Kd.R_lt (rG HO482))) (Kd.R_lt (rG HO494))) (below_size (lT HB (gC GE456 (gC GE472 (gC GE479 (gC GE490 gN)))))))
         replace HO_457000 := ak (Kd.R_elder' (rG HO_457000) (Kd.R_base ho0) hb)
         replace HO468 := ak (Kd.R_elder' (rG HO468) (Kd.R_base ho0) hb)
         replace HO475 := ak (Kd.R_elder' (rG HO475) (Kd.R_base ho0) hb)
         replace HO482 := ak (Kd.R_elder' (rG HO482) (Kd.R_base ho0) hb)
         replace HO494 := ak (Kd.R_elder' (rG HO494) (Kd.R_base ho0) hb)
         replace HO504 := ak (Kd.R_lower (Kd.R_new' (Kd.R_new' (Kd.R_new' (Kd.R_new' (Kd.R_new' ho1 (Kd.R_lt (rG HO_457001))) (Kd.R_lt (rG HO471))) (Kd.R_lt (rG HO478))) (Kd.R_lt (rG HO485))) (Kd.R_lt (rG HO497))) (below_size (lT HB (gC GE456 (gC GE472 (gC GE479 (gC GE490 gN)))))))
         replace HO_457001 := ak (Kd.R_elder' (rG HO_457001) (Kd.R_base ho1) hb)
         replace HO471 := ak (Kd.R_elder' (rG HO471) (Kd.R_base ho1) hb)
         replace HO478 := ak (Kd.R_elder' (rG HO478) (Kd.R_base ho1) hb)
         replace HO485 := ak (Kd.R_elder' (rG HO485) (Kd.R_base ho1) hb)
         replace HO497 := ak (Kd.R_elder' (rG HO497) (Kd.R_base ho1) hb)
         replace BK456 := bB BK456 hb
         replace BK472 := bB BK472 hb
         replace BK479 := bB BK479 hb
         replace BK490 := bB BK490 hb
         replace HB := ak (below_step (lT HB (gC GE456 (gC GE472 (gC GE479 (gC GE490 gN))))) hb)
         (try clear hb)
         (try clear hb2)
         (try clear hk)
         (try clear hi)
         (try clear ho0)
         (try clear ho1)
         refine hK.out _ _ ⟨(blk_cell BK472.out 0).trans rfl, (blk_cell BK472.out 1).trans rfl, (blk_cell BK456.out 0).trans rfl, (blk_cell BK456.out 1).trans rfl, (blk_cell BK479.out 0).trans rfl, (blk_cell BK479.out 1).trans rfl, (blk_cell BK490.out 0).trans rfl, (blk_cell BK490.out 1).trans rfl⟩ (fun hHeld => ?_)
         clear hK K
         refine nm ?_
         refine on 25 (some 63) #[t_,t_,t_,t_,t_,t_,t_,t_,t_,t_,t_,t_,t_,t_,t_,t_,t_,t_,t_,t_,t_,t_,t_,t_,t_,t_,f_,f_,f_,f_,f_,f_,f_] HT_ (fun K hK => ?_)
         refine goes_ Try.func21 (by kernel_rfl) rfl #[.agg #[.slice Ao93 t480.length co93, .slice Ao98 t483.length co98], .slice Ao105 t486.length co105, .int .i64 t489] (by rfl) rfl rfl (by (try simp only [List.map_toArray, List.map_cons, List.map_nil]); first | done | rfl | (simp only [List.length_drop, List.length_take]; rfl)) ?_
         with_reducible refine (spec_CrashDisk.calls k1 _ _ t480 _ _ t483 _ _ t486 t489 t505 t508 _ ?side1 ?side2 ?side3 ?side4 ?side5 ?side6 A26.out).mono ?_
         (case side1 => exact cG (Kd.R_reads' HO482.out).2.2)
         (case side2 => exact (Kd.R_reads' HO482.out).2.1)
         (case side3 => exact cG (Kd.R_reads' HO485.out).2.2)
         (case side4 => exact (Kd.R_reads' HO485.out).2.1)
         (case side5 => exact cG (Kd.R_reads' HO488.out).2.2)
         (case side6 => exact (Kd.R_reads' HO488.out).2.1)
         rintro e w107 ⟨v506, v509, rfl, ho0, ho1, hb⟩
         refine ⟨_, rfl, ?_⟩
         replace HO_4 := rB HO_4 hb
         replace HO465 := rB HO465 hb
         replace HO488 := rB HO488 hb
         replace HO507 := ak (Kd.R_lower (Kd.R_new' (Kd.R_new' (Kd.R_new' (Kd.R_new' (Kd.R_new' (Kd.R_new' ho0 (Kd.R_lt (rG HO_457000))) (Kd.R_lt (rG HO468))) (Kd.R_lt (rG HO475))) (Kd.R_lt (rG HO482))) (Kd.R_lt (rG HO494))) (Kd.R_lt (rG HO501))) (below_size (lT HB (gC GE456 (gC GE472 (gC GE479 (gC GE490 gN)))))))
         replace HO_457000 := ak (Kd.R_elder' (rG HO_457000) (Kd.R_base ho0) hb)
         replace HO468 := ak (Kd.R_elder' (rG HO468) (Kd.R_base ho0) hb)
         replace HO475 := ak (Kd.R_elder' (rG HO475) (Kd.R_base ho0) hb)
         replace HO482 := ak (Kd.R_elder' (rG HO482) (Kd.R_base ho0) hb)
         replace HO494 := ak (Kd.R_elder' (rG HO494) (Kd.R_base ho0) hb)
         replace HO501 := ak (Kd.R_elder' (rG HO501) (Kd.R_base ho0) hb)
         replace HO510 := ak (Kd.R_lower (Kd.R_new' (Kd.R_new' (Kd.R_new' (Kd.R_new' (Kd.R_new' (Kd.R_new' ho1 (Kd.R_lt (rG HO_457001))) (Kd.R_lt (rG HO471))) (Kd.R_lt (rG HO478))) (Kd.R_lt (rG HO485))) (Kd.R_lt (rG HO497))) (Kd.R_lt (rG HO504))) (below_size (lT HB (gC GE456 (gC GE472 (gC GE479 (gC GE490 gN)))))))
         replace HO_457001 := ak (Kd.R_elder' (rG HO_457001) (Kd.R_base ho1) hb)
         replace HO471 := ak (Kd.R_elder' (rG HO471) (Kd.R_base ho1) hb)
         replace HO478 := ak (Kd.R_elder' (rG HO478) (Kd.R_base ho1) hb)
         replace HO485 := ak (Kd.R_elder' (rG HO485) (Kd.R_base ho1) hb)
         replace HO497 := ak (Kd.R_elder' (rG HO497) (Kd.R_base ho1) hb)
         replace HO504 := ak (Kd.R_elder' (rG HO504) (Kd.R_base ho1) hb)
         replace BK456 := bB BK456 hb
         replace BK472 := bB BK472 hb
         replace BK479 := bB BK479 hb
         replace BK490 := bB BK490 hb
         replace HB := ak (below_step (lT HB (gC GE456 (gC GE472 (gC GE479 (gC GE490 gN))))) hb)
         (try clear hb)
         (try clear hb2)
         (try clear hk)
         (try clear hi)
         (try clear ho0)
         (try clear ho1)
         obtain ⟨Ao108, co108, eo108⟩ := Kd.R_slice HO501.out
         (first | subst eo108 | (injection eo108 with f1_ f2_ f3_; have f4_ := f1_.symm; have f5_ := f3_.symm; clear f1_ f2_ f3_; subst f4_; subst f5_))
         obtain ⟨Ao109, co109, eo109⟩ := Kd.R_slice HO504.out
         (first | subst eo109 | (injection eo109 with f1_ f2_ f3_; have f4_ := f1_.symm; have f5_ := f3_.symm; clear f1_ f2_ f3_; subst f4_; subst f5_))
         obtain ⟨Ao110, co110, eo110⟩ := Kd.R_slice HO507.out
         (first | subst eo110 | (injection eo110 with f1_ f2_ f3_; have f4_ := f1_.symm; have f5_ := f3_.symm; clear f1_ f2_ f3_; subst f4_; subst f5_))
         obtain ⟨Ao111, co111, eo111⟩ := Kd.R_slice HO510.out
         (first | subst eo111 | (injection eo111 with f1_ f2_ f3_; have f4_ := f1_.symm; have f5_ := f3_.symm; clear f1_ f2_ f3_; subst f4_; subst f5_))
         refine hK.out _ _ ⟨(blk_cell BK472.out 0).trans rfl, (blk_cell BK472.out 1).trans rfl, (blk_cell BK456.out 0).trans rfl, (blk_cell BK456.out 1).trans rfl, (blk_cell BK479.out 0).trans rfl, (blk_cell BK479.out 1).trans rfl, (blk_cell BK490.out 0).trans rfl, (blk_cell BK490.out 1).trans rfl⟩ (fun hHeld => ?_)
         clear hK K
         refine nm ?_
         refine on 26 (some 64) #[t_,t_,t_,t_,t_,t_,t_,t_,t_,t_,t_,t_,t_,t_,t_,t_,t_,t_,t_,t_,t_,t_,t_,t_,t_,t_,t_,f_,f_,f_,f_,f_,f_] HT_ (fun K hK => ?_)
         refine goes_ Try.func20 (by kernel_rfl) rfl #[.agg #[.slice Ao108 t499.length co108, .slice Ao109 t502.length co109], .agg #[.slice Ao110 t505.length co110, .slice Ao111 t508.length co111]] (by rfl) rfl rfl (by (try simp only [List.map_toArray, List.map_cons, List.map_nil]); first | done | rfl | (simp only [List.length_drop, List.length_take]; rfl)) ?_
         with_reducible refine (laws_sameDisk.calls k1 _ _ t499 _ _ t502 _ _ t505 _ _ t508 false _ ?side1 ?side2 ?side3 ?side4 ?side5 ?side6 ?side7 ?side8 A27.out).mono ?_
         (case side1 => exact cG (Kd.R_reads' HO501.out).2.2)
         (case side2 => exact (Kd.R_reads' HO501.out).2.1)
         (case side3 => exact cG (Kd.R_reads' HO504.out).2.2)
         (case side4 => exact (Kd.R_reads' HO504.out).2.1)
         (case side5 => exact cG (Kd.R_reads' HO507.out).2.2)
         (case side6 => exact (Kd.R_reads' HO507.out).2.1)
         (case side7 => exact cG (Kd.R_reads' HO510.out).2.2)
         (case side8 => exact (Kd.R_reads' HO510.out).2.1)
         rintro e w112 ⟨rfl, hb⟩
         refine ⟨_, rfl, ?_⟩
         replace HO_4 := rB HO_4 hb
         replace HO_457000 := rB HO_457000 hb
         replace HO_457001 := rB HO_457001 hb
         replace HO465 := rB HO465 hb
         replace HO468 := rB HO468 hb
         replace HO471 := rB HO471 hb
         replace HO475 := rB HO475 hb
         replace HO478 := rB HO478 hb
         replace HO482 := rB HO482 hb
         replace HO485 := rB HO485 hb
         replace HO488 := rB HO488 hb
         replace HO494 := rB HO494 hb
         replace HO497 := rB HO497 hb
         replace HO501 := rB HO501 hb
         replace HO504 := rB HO504 hb
         replace HO507 := rB HO507 hb
         replace HO510 := rB HO510 hb
         replace BK456 := bB BK456 hb
         replace BK472 := bB BK472 hb
         replace BK479 := bB BK479 hb
         replace BK490 := bB BK490 hb
         replace HB := ak (below_step (lT HB (gC GE456 (gC GE472 (gC GE479 (gC GE490 gN))))) hb)
         (try clear hb)
         (try clear hb2)
         (try clear hk)
         (try clear hi)
         refine hK.out _ _ ⟨(blk_cell BK472.out 0).trans rfl, (blk_cell BK472.out 1).trans rfl, (blk_cell BK456.out 0).trans rfl, (blk_cell BK456.out 1).trans rfl, (blk_cell BK479.out 0).trans rfl, (blk_cell BK479.out 1).trans rfl, (blk_cell BK490.out 0).trans rfl, (blk_cell BK490.out 1).trans rfl⟩ (fun hHeld => ?_)
         clear hK K
         refine nm ?_
         refine pu 27 65 #[t_,t_,t_,t_,t_,t_,t_,t_,t_,t_,t_,t_,t_,t_,t_,t_,t_,t_,t_,t_,t_,t_,t_,t_,t_,t_,t_,t_,f_,f_,f_,f_,f_] HT_ ?_
         refine pu 28 66 #[t_,t_,t_,t_,t_,t_,t_,t_,t_,t_,t_,t_,t_,t_,t_,t_,t_,t_,t_,t_,t_,t_,t_,t_,t_,t_,t_,t_,t_,f_,f_,f_,f_] HT_ ?_
         refine pn 29 67 #[t_,t_,t_,t_,t_,t_,t_,t_,t_,t_,t_,t_,t_,t_,t_,t_,t_,t_,t_,t_,t_,t_,t_,t_,t_,t_,t_,t_,t_,t_,f_,f_,f_] HT_ ?_
         refine pn 30 68 #[t_,t_,t_,t_,t_,t_,t_,t_,t_,t_,t_,t_,t_,t_,t_,t_,t_,t_,t_,t_,t_,t_,t_,t_,t_,t_,t_,t_,t_,t_,t_,f_,f_] HT_ ?_
         refine pu 31 69 #[t_,t_,t_,t_,t_,t_,t_,t_,t_,t_,t_,t_,t_,t_,t_,t_,t_,t_,t_,t_,t_,t_,t_,t_,t_,t_,t_,t_,t_,t_,t_,t_,f_] HT_ ?_
         refine pu 32 2 #[t_,t_,t_,t_,t_,t_,t_,t_,t_,t_,t_,t_,t_,t_,t_,t_,t_,t_,t_,t_,t_,t_,t_,t_,t_,t_,t_,t_,t_,t_,t_,t_,t_] HT_ ?_
         refine done_ (done_of HT_.out (by kernel_rfl)) ?_
         try go_wp2
         go_ret
         exact ⟨by first | rfl | (simp [errW_none, errW_some] <;> rfl) | (simp [*, errW_none, errW_some] <;> rfl), by exact lT HB (gC GE456 (gC GE472 (gC GE479 (gC GE490 gN))))⟩
       ·replace c24 := Bool.eq_false_iff.mpr c24
        subst c24
        have H1 : (some false) = some r := by rw [if_neg (show ¬ (false = true) by decide)] at H; exact H
        clear H
        have H := H1
        clear H1
        obtain rfl := Option.some.inj H
        have hcz113_0 : wr.cell? ⟨gb456, 0, none⟩ = some (.slice Ao7 t450.length co7) := (blk_cell BK456.out 0).trans rfl
        have hcz113_1 : wr.cell? ⟨gb456, 1, none⟩ = some (.slice Ao9 t453.length co9) := (blk_cell BK456.out 1).trans rfl
        have hfz113_0 := blk_frozen BK456.out 0
        have hfz113_1 := blk_frozen BK456.out 1
        try go_wp2_with (first | ((with_reducible refine gate_dst (N := 27) rfl ?_); (try (refine gate_guard (by rfl) ?_; dsimp only)); refine Kd.R_lit (Kd.int .i64) _ 3 ?hg (N := 27) ?hd (xs := ([] : List Int)) (inner := []) (ok := fun _ => True) (okp := fun _ => True) ?hr ?hp (fun _ hk => hk) trivial (Below.refl _ _) (Nat.le_refl _) (by simp) ?_; (case hd => rfl); (case hg => rfl); (case hr => first | (go_simp; done) | (go_simp; rfl)); (case hp => exact (Reps.none _ _)); intro v464 w114 ho115 hb hg_ hnew_; clear hg_ hnew_; (first | rw [← Ny463.out] at ho115 | (simp only [Int.reduceToNat] at ho115; rw [← Ny463.out] at ho115)); replace HO_457000 := rB HO_457000 hb; replace HO_457001 := rB HO_457001 hb; replace HO465 := ak (Kd.R_lower (Kd.R_new' ho115 (Kd.R_lt (rG HO_4))) (below_size (lT HB (gC GE456 gN)))); replace HO_4 := ak (Kd.R_elder' (rG HO_4) (Kd.R_base ho115) hb); replace BK456 := bB BK456 hb; replace HB := ak (below_step (lT HB (gC GE456 gN)) hb); clear hb ho115; obtain ⟨Ao116, co116, eo116⟩ := Kd.R_slice HO465.out; subst eo116) | ((with_reducible refine gate_callee (f := 17) rfl ?_); refine gl (some 28) Try.func17 #[.agg #[.slice Ao7 t450.length co7, .slice Ao9 t453.length co9], .slice Ao116 y463.length co116, .int .i64 5] ?_; (with_reducible refine (impl_CrashDisk.calls k1 _ _ t450 _ _ t453 _ _ y463 5 t466 t469 _ ?side1 ?side2 ?side3 ?side4 ?side5 ?side6 A16.out).mono ?_); (case side1 => exact cG (Kd.R_reads' HO_457000.out).2.2); (case side2 => exact (Kd.R_reads' HO_457000.out).2.1); (case side3 => exact cG (Kd.R_reads' HO_457001.out).2.2); (case side4 => exact (Kd.R_reads' HO_457001.out).2.1); (case side5 => exact cG (Kd.R_reads' HO465.out).2.2); (case side6 => exact (Kd.R_reads' HO465.out).2.1); rintro e w117 ⟨v467, v470, rfl, ho0, ho1, hb⟩; refine ⟨_, rfl, ?_⟩; replace HO_4 := rB HO_4 hb; replace HO465 := rB HO465 hb; replace HO468 := ak (Kd.R_lower (Kd.R_new' ho0 (Kd.R_lt (rG HO_457000))) (below_size (lT HB (gC GE456 gN)))); replace HO_457000 := ak (Kd.R_elder' (rG HO_457000) (Kd.R_base ho0) hb); replace HO471 := ak (Kd.R_lower (Kd.R_new' ho1 (Kd.R_lt (rG HO_457001))) (below_size (lT HB (gC GE456 gN)))); replace HO_457001 := ak (Kd.R_elder' (rG HO_457001) (Kd.R_base ho1) hb); replace BK456 := bB BK456 hb; replace HB := ak (below_step (lT HB (gC GE456 gN)) hb); (try clear hb); (try clear hk); (try clear ho0); (try clear ho1)) | ((with_reducible refine gate_dst (N := 6) rfl ?_); (try (refine gate_guard (by rfl) ?_; dsimp only)); refine bx 6 #[.slice none 0 0, .slice none 0 0] 27 ?_; intro gb472 hg w118 hbox hb; replace HO_4 := rB HO_4 hb; replace HO_457000 := rB HO_457000 hb; replace HO_457001 := rB HO_457001 hb; replace HO465 := rB HO465 hb; replace HO468 := rB HO468 hb; replace HO471 := rB HO471 hb; replace BK472 := ak (hbox); replace GW472 := ak (bz hg (lT HB (gC GE456 gN))); replace GE472 := ak (bz hg (lT HB (gC GE456 gN))); replace HB := ak (below_step (lT HB (gC GE456 gN)) hb); replace NB456_472 := ak (nl hg (bG BK456)); replace NB472_456 := ak (ng hg (bG BK456)); replace BK456 := bB BK456 hb; clear hb hbox hg; obtain ⟨Ao119, co119, eo119⟩ := Kd.R_slice HO468.out; subst eo119; have hnb120 := NB472_456.out; have hnc120 := NB456_472.out; obtain ⟨hcz121_0, hcz121_1, hfz121_0, hfz121_1⟩ := bC2 BK472; obtain ⟨Ao122, co122, eo122⟩ := Kd.R_slice HO471.out; subst eo122; obtain ⟨hcz123_0, hcz123_1, hfz123_0, hfz123_1⟩ := bC2 BK456; obtain ⟨Ao124, co124, eo124⟩ := Kd.R_slice HO_4.out; subst eo124) | ((with_reducible refine gate_callee (f := 17) rfl ?_); refine gl (some 31) Try.func17 #[.agg #[.slice Ao7 t450.length co7, .slice Ao9 t453.length co9], .slice Ao124 x4_1.length co124, .int .i64 32] ?_; (with_reducible refine (impl_CrashDisk.calls k1 _ _ t450 _ _ t453 _ _ x4_1 32 t473 t476 _ ?side1 ?side2 ?side3 ?side4 ?side5 ?side6 A17.out).mono ?_); (case side1 => exact (Kd.R_reads' (rT HO_457000 BK472 (by decide))).2.2); (case side2 => exact (Kd.R_reads' HO_457000.out).2.1); (case side3 => exact (Kd.R_reads' (rT HO_457001 BK472 (by decide))).2.2); (case side4 => exact (Kd.R_reads' HO_457001.out).2.1); (case side5 => exact (Kd.R_reads' (rT HO_4 BK472 (by decide))).2.2); (case side6 => exact (Kd.R_reads' HO_4.out).2.1); rintro e w125 ⟨v474, v477, rfl, ho0, ho1, hb⟩; refine ⟨_, rfl, ?_⟩; replace HO_4 := ak (Kd.R_below (rT HO_4 BK472 (by decide)) hb); replace HO465 := ak (Kd.R_below (rT HO465 BK472 (by decide)) hb); replace HO475 := ak (Kd.R_lower (Kd.R_new' (Kd.R_new' ho0 (Kd.R_lt (rT HO_457000 BK472 (by decide)))) (Kd.R_lt (rT HO468 BK472 (by decide)))) (below_size (lT HB (gC GE456 (gC GE472 gN))))); replace HO_457000 := ak (Kd.R_elder' (rT HO_457000 BK472 (by decide)) (Kd.R_base ho0) hb); replace HO468 := ak (Kd.R_elder' (rT HO468 BK472 (by decide)) (Kd.R_base ho0) hb); replace HO478 := ak (Kd.R_lower (Kd.R_new' (Kd.R_new' ho1 (Kd.R_lt (rT HO_457001 BK472 (by decide)))) (Kd.R_lt (rT HO471 BK472 (by decide)))) (below_size (lT HB (gC GE456 (gC GE472 gN))))); replace HO_457001 := ak (Kd.R_elder' (rT HO_457001 BK472 (by decide)) (Kd.R_base ho1) hb); replace HO471 := ak (Kd.R_elder' (rT HO471 BK472 (by decide)) (Kd.R_base ho1) hb); replace BK456 := ak (blk_below (bT BK456 (nC NB456_472 nN)) hb); replace BK472 := ak (blk_below (g := gb472) (o := .cells #[.slice Ao119 t466.length co119, .slice Ao122 t469.length co122] 27 (0, 0)) (by (with_reducible repeat (first | refine blk_drewN ?_ _ | refine blk_drew ?_ | refine blk_alloc ?_ _)); refine blk_put (cs := #[.slice Ao119 t466.length co119, .slice none 0 0]) ?_ 1 _ rfl; (with_reducible repeat (first | refine blk_drewN ?_ _ | refine blk_drew ?_ | refine blk_alloc ?_ _)); refine blk_put (cs := #[.slice none 0 0, .slice none 0 0]) ?_ 0 _ rfl; (with_reducible repeat (first | refine blk_drewN ?_ _ | refine blk_drew ?_ | refine blk_alloc ?_ _)); exact BK472.out) hb); replace HB := ak (below_step (lT HB (gC GE456 (gC GE472 gN))) hb); (try clear hb); (try clear hk); (try clear ho0); (try clear ho1)) | ((with_reducible refine gate_dst (N := 7) rfl ?_); (try (refine gate_guard (by rfl) ?_; dsimp only)); refine bx 7 #[.slice none 0 0, .slice none 0 0] 27 ?_; intro gb479 hg w126 hbox hb; replace HO_4 := rB HO_4 hb; replace HO_457000 := rB HO_457000 hb; replace HO_457001 := rB HO_457001 hb; replace HO465 := rB HO465 hb; replace HO468 := rB HO468 hb; replace HO471 := rB HO471 hb; replace HO475 := rB HO475 hb; replace HO478 := rB HO478 hb; replace BK479 := ak (hbox); replace GW479 := ak (bz hg (lT HB (gC GE456 (gC GE472 gN)))); replace GE479 := ak (bz hg (lT HB (gC GE456 (gC GE472 gN)))); replace HB := ak (below_step (lT HB (gC GE456 (gC GE472 gN))) hb); replace NB456_479 := ak (nl hg (bG BK456)); replace NB479_456 := ak (ng hg (bG BK456)); replace BK456 := bB BK456 hb; replace NB472_479 := ak (nl hg (bG BK472)); replace NB479_472 := ak (ng hg (bG BK472)); replace BK472 := bB BK472 hb; clear hb hbox hg; obtain ⟨Ao127, co127, eo127⟩ := Kd.R_slice HO475.out; subst eo127; have hnb128 := NB479_456.out; have hnc128 := NB456_479.out; have hnb129 := NB479_472.out; have hnc129 := NB472_479.out; obtain ⟨hcz130_0, hcz130_1, hfz130_0, hfz130_1⟩ := bC2 BK479; obtain ⟨Ao131, co131, eo131⟩ := Kd.R_slice HO478.out; subst eo131) | ((with_reducible refine gate_callee (f := 18) rfl ?_); refine gl (some 34) Try.func18 #[.slice A0 l0.length c0] ?_; (with_reducible refine (spec_DrawCrashDisk.calls k1 _ _ l0 t480 t483 t486 t489 _ ?side1 ?side2 A18.out).mono ?_); (case side1 => exact Kd.C_below HR0.out (lT HB (gC GE456 (gC GE472 (gC GE479 gN))))); (case side2 => exact HC0.out); rintro e w132 ⟨v481, v484, v487, rfl, ho0, ho1, ho2, hb⟩; refine ⟨_, rfl, ?_⟩; replace HO482 := ak (Kd.R_lower (Kd.R_new' (Kd.R_new' (Kd.R_new' ho0 (Kd.R_lt (rT HO_457000 BK479 (by decide)))) (Kd.R_lt (rT HO468 BK479 (by decide)))) (Kd.R_lt (rT HO475 BK479 (by decide)))) (below_size (lT HB (gC GE456 (gC GE472 (gC GE479 gN)))))); replace HO_457000 := ak (Kd.R_elder' (rT HO_457000 BK479 (by decide)) (Kd.R_base ho0) hb); replace HO468 := ak (Kd.R_elder' (rT HO468 BK479 (by decide)) (Kd.R_base ho0) hb); replace HO475 := ak (Kd.R_elder' (rT HO475 BK479 (by decide)) (Kd.R_base ho0) hb); replace HO485 := ak (Kd.R_lower (Kd.R_new' (Kd.R_new' (Kd.R_new' ho1 (Kd.R_lt (rT HO_457001 BK479 (by decide)))) (Kd.R_lt (rT HO471 BK479 (by decide)))) (Kd.R_lt (rT HO478 BK479 (by decide)))) (below_size (lT HB (gC GE456 (gC GE472 (gC GE479 gN)))))); replace HO_457001 := ak (Kd.R_elder' (rT HO_457001 BK479 (by decide)) (Kd.R_base ho1) hb); replace HO471 := ak (Kd.R_elder' (rT HO471 BK479 (by decide)) (Kd.R_base ho1) hb); replace HO478 := ak (Kd.R_elder' (rT HO478 BK479 (by decide)) (Kd.R_base ho1) hb); replace HO488 := ak (Kd.R_lower (Kd.R_new' (Kd.R_new' ho2 (Kd.R_lt (rT HO_4 BK479 (by decide)))) (Kd.R_lt (rT HO465 BK479 (by decide)))) (below_size (lT HB (gC GE456 (gC GE472 (gC GE479 gN)))))); replace HO_4 := ak (Kd.R_elder' (rT HO_4 BK479 (by decide)) (Kd.R_base ho2) hb); replace HO465 := ak (Kd.R_elder' (rT HO465 BK479 (by decide)) (Kd.R_base ho2) hb); replace BK456 := ak (blk_below (bT BK456 (nC NB456_479 nN)) hb); replace BK472 := ak (blk_below (bT BK472 (nC NB472_479 nN)) hb); replace BK479 := ak (blk_below (g := gb479) (o := .cells #[.slice Ao127 t473.length co127, .slice Ao131 t476.length co131] 27 (0, 0)) (by (with_reducible repeat (first | refine blk_drewN ?_ _ | refine blk_drew ?_ | refine blk_alloc ?_ _)); refine blk_put (cs := #[.slice Ao127 t473.length co127, .slice none 0 0]) ?_ 1 _ rfl; (with_reducible repeat (first | refine blk_drewN ?_ _ | refine blk_drew ?_ | refine blk_alloc ?_ _)); refine blk_put (cs := #[.slice none 0 0, .slice none 0 0]) ?_ 0 _ rfl; (with_reducible repeat (first | refine blk_drewN ?_ _ | refine blk_drew ?_ | refine blk_alloc ?_ _)); exact BK479.out) hb); replace HB := ak (below_step (lT HB (gC GE456 (gC GE472 (gC GE479 gN)))) hb); (try clear hb); (try clear hk); (try clear ho0); (try clear ho1); (try clear ho2)) | ((with_reducible refine gate_dst (N := 8) rfl ?_); (try (refine gate_guard (by rfl) ?_; dsimp only)); refine bx 8 #[.slice none 0 0, .slice none 0 0] 27 ?_; intro gb490 hg w133 hbox hb; replace HO_4 := rB HO_4 hb; replace HO_457000 := rB HO_457000 hb; replace HO_457001 := rB HO_457001 hb; replace HO465 := rB HO465 hb; replace HO468 := rB HO468 hb; replace HO471 := rB HO471 hb; replace HO475 := rB HO475 hb; replace HO478 := rB HO478 hb; replace HO482 := rB HO482 hb; replace HO485 := rB HO485 hb; replace HO488 := rB HO488 hb; replace BK490 := ak (hbox); replace GW490 := ak (bz hg (lT HB (gC GE456 (gC GE472 (gC GE479 gN))))); replace GE490 := ak (bz hg (lT HB (gC GE456 (gC GE472 (gC GE479 gN))))); replace HB := ak (below_step (lT HB (gC GE456 (gC GE472 (gC GE479 gN)))) hb); replace NB456_490 := ak (nl hg (bG BK456)); replace NB490_456 := ak (ng hg (bG BK456)); replace BK456 := bB BK456 hb; replace NB472_490 := ak (nl hg (bG BK472)); replace NB490_472 := ak (ng hg (bG BK472)); replace BK472 := bB BK472 hb; replace NB479_490 := ak (nl hg (bG BK479)); replace NB490_479 := ak (ng hg (bG BK479)); replace BK479 := bB BK479 hb; clear hb hbox hg; obtain ⟨Ao134, co134, eo134⟩ := Kd.R_slice HO482.out; subst eo134; have hnb135 := NB490_456.out; have hnc135 := NB456_490.out; have hnb136 := NB490_472.out; have hnc136 := NB472_490.out; have hnb137 := NB490_479.out; have hnc137 := NB479_490.out; obtain ⟨hcz138_0, hcz138_1, hfz138_0, hfz138_1⟩ := bC2 BK490; obtain ⟨Ao139, co139, eo139⟩ := Kd.R_slice HO485.out; subst eo139))
        have n0_ : Aside0 (Kd.R (Kd.int .i64) 3 ((w133.setCell ⟨gb490, 0, none⟩ (.slice Ao134 t480.length co134)).setCell ⟨gb490, 1, none⟩ (.slice Ao139 t483.length co139)) w.heap.size (fun k_ => some k_ ≠ (.slice Ao116 y463.length co116 : Value).ownBlock ∧ some k_ ≠ (v487 : Value).ownBlock) (.slice Ao124 x4_1.length co124) x4_1) := ⟨by (with_reducible repeat (first | apply Kd.R_alloc | apply Kd.R_drewN | apply Kd.R_drew)); exact Kd.R_mono (Kd.R_far (p := ⟨gb490, 1, none⟩) (Kd.R_far (p := ⟨gb490, 0, none⟩) (Kd.R_types HO_4.out BK490.out (by decide)) (fun _ hk => hk.2) (.slice Ao134 t480.length co134)) (fun _ hk => hk.2) (.slice Ao139 t483.length co139)) (fun _ hk => ⟨hk.1.1.2, hk.1.2⟩)⟩
        have n1_ : Aside0 (Kd.R Kd.string 9 ((w133.setCell ⟨gb490, 0, none⟩ (.slice Ao134 t480.length co134)).setCell ⟨gb490, 1, none⟩ (.slice Ao139 t483.length co139)) w.heap.size (fun k_ => some k_ ≠ (.slice Ao119 t466.length co119 : Value).ownBlock ∧ some k_ ≠ (.slice Ao127 t473.length co127 : Value).ownBlock ∧ some k_ ≠ (.slice Ao134 t480.length co134 : Value).ownBlock) (.slice Ao7 t450.length co7) t450) := ⟨by (with_reducible repeat (first | apply Kd.R_alloc | apply Kd.R_drewN | apply Kd.R_drew)); exact Kd.R_mono (Kd.R_far (p := ⟨gb490, 1, none⟩) (Kd.R_far (p := ⟨gb490, 0, none⟩) (Kd.R_types HO_457000.out BK490.out (by decide)) (fun _ hk => hk.2) (.slice Ao134 t480.length co134)) (fun _ hk => hk.2) (.slice Ao139 t483.length co139)) (fun _ hk => ⟨hk.1.1.1.2, ⟨hk.1.1.2, hk.1.2⟩⟩)⟩
        have n2_ : Aside0 (Kd.R k63 63 ((w133.setCell ⟨gb490, 0, none⟩ (.slice Ao134 t480.length co134)).setCell ⟨gb490, 1, none⟩ (.slice Ao139 t483.length co139)) w.heap.size (fun k_ => some k_ ≠ (.slice Ao122 t469.length co122 : Value).ownBlock ∧ some k_ ≠ (.slice Ao131 t476.length co131 : Value).ownBlock ∧ some k_ ≠ (.slice Ao139 t483.length co139 : Value).ownBlock) (.slice Ao9 t453.length co9) t453) := ⟨by (with_reducible repeat (first | apply Kd.R_alloc | apply Kd.R_drewN | apply Kd.R_drew)); exact Kd.R_mono (Kd.R_far (p := ⟨gb490, 1, none⟩) (Kd.R_far (p := ⟨gb490, 0, none⟩) (Kd.R_types HO_457001.out BK490.out (by decide)) (fun _ hk => hk.2) (.slice Ao134 t480.length co134)) (fun _ hk => hk.2) (.slice Ao139 t483.length co139)) (fun _ hk => ⟨hk.1.1.1.2, ⟨hk.1.1.2, hk.1.2⟩⟩)⟩
        have n3_ : Aside0 (Kd.R (Kd.int .i64) 3 ((w133.setCell ⟨gb490, 0, none⟩ (.slice Ao134 t480.length co134)).setCell ⟨gb490, 1, none⟩ (.slice Ao139 t483.length co139)) w.heap.size (fun k_ => some k_ ≠ (.slice Ao124 x4_1.length co124 : Value).ownBlock ∧ some k_ ≠ (v487 : Value).ownBlock) (.slice Ao116 y463.length co116) y463) := ⟨by (with_reducible repeat (first | apply Kd.R_alloc | apply Kd.R_drewN | apply Kd.R_drew)); exact Kd.R_mono (Kd.R_far (p := ⟨gb490, 1, none⟩) (Kd.R_far (p := ⟨gb490, 0, none⟩) (Kd.R_types HO465.out BK490.out (by decide)) (fun _ hk => hk.2) (.slice Ao134 t480.length co134)) (fun _ hk => hk.2) (.slice Ao139 t483.length co139)) (fun _ hk => ⟨hk.1.1.2, hk.1.2⟩)⟩
        have n4_ : Aside0 (Kd.R Kd.string 9 ((w133.setCell ⟨gb490, 0, none⟩ (.slice Ao134 t480.length co134)).setCell ⟨gb490, 1, none⟩ (.slice Ao139 t483.length co139)) w.heap.size (fun k_ => some k_ ≠ (.slice Ao7 t450.length co7 : Value).ownBlock ∧ some k_ ≠ (.slice Ao127 t473.length co127 : Value).ownBlock ∧ some k_ ≠ (.slice Ao134 t480.length co134 : Value).ownBlock) (.slice Ao119 t466.length co119) t466) := ⟨by (with_reducible repeat (first | apply Kd.R_alloc | apply Kd.R_drewN | apply Kd.R_drew)); exact Kd.R_mono (Kd.R_far (p := ⟨gb490, 1, none⟩) (Kd.R_far (p := ⟨gb490, 0, none⟩) (Kd.R_types HO468.out BK490.out (by decide)) (fun _ hk => hk.2) (.slice Ao134 t480.length co134)) (fun _ hk => hk.2) (.slice Ao139 t483.length co139)) (fun _ hk => ⟨hk.1.1.1.2, ⟨hk.1.1.2, hk.1.2⟩⟩)⟩
        have n5_ : Aside0 (Kd.R k63 63 ((w133.setCell ⟨gb490, 0, none⟩ (.slice Ao134 t480.length co134)).setCell ⟨gb490, 1, none⟩ (.slice Ao139 t483.length co139)) w.heap.size (fun k_ => some k_ ≠ (.slice Ao9 t453.length co9 : Value).ownBlock ∧ some k_ ≠ (.slice Ao131 t476.length co131 : Value).ownBlock ∧ some k_ ≠ (.slice Ao139 t483.length co139 : Value).ownBlock) (.slice Ao122 t469.length co122) t469) := ⟨by (with_reducible repeat (first | apply Kd.R_alloc | apply Kd.R_drewN | apply Kd.R_drew)); exact Kd.R_mono (Kd.R_far (p := ⟨gb490, 1, none⟩) (Kd.R_far (p := ⟨gb490, 0, none⟩) (Kd.R_types HO471.out BK490.out (by decide)) (fun _ hk => hk.2) (.slice Ao134 t480.length co134)) (fun _ hk => hk.2) (.slice Ao139 t483.length co139)) (fun _ hk => ⟨hk.1.1.1.2, ⟨hk.1.1.2, hk.1.2⟩⟩)⟩
        have n6_ : Aside0 (Kd.R Kd.string 9 ((w133.setCell ⟨gb490, 0, none⟩ (.slice Ao134 t480.length co134)).setCell ⟨gb490, 1, none⟩ (.slice Ao139 t483.length co139)) w.heap.size (fun k_ => some k_ ≠ (.slice Ao7 t450.length co7 : Value).ownBlock ∧ some k_ ≠ (.slice Ao119 t466.length co119 : Value).ownBlock ∧ some k_ ≠ (.slice Ao134 t480.length co134 : Value).ownBlock) (.slice Ao127 t473.length co127) t473) := ⟨by (with_reducible repeat (first | apply Kd.R_alloc | apply Kd.R_drewN | apply Kd.R_drew)); exact Kd.R_mono (Kd.R_far (p := ⟨gb490, 1, none⟩) (Kd.R_far (p := ⟨gb490, 0, none⟩) (Kd.R_types HO475.out BK490.out (by decide)) (fun _ hk => hk.2) (.slice Ao134 t480.length co134)) (fun _ hk => hk.2) (.slice Ao139 t483.length co139)) (fun _ hk => ⟨hk.1.1.1.2, ⟨hk.1.1.2, hk.1.2⟩⟩)⟩
        have n7_ : Aside0 (Kd.R k63 63 ((w133.setCell ⟨gb490, 0, none⟩ (.slice Ao134 t480.length co134)).setCell ⟨gb490, 1, none⟩ (.slice Ao139 t483.length co139)) w.heap.size (fun k_ => some k_ ≠ (.slice Ao9 t453.length co9 : Value).ownBlock ∧ some k_ ≠ (.slice Ao122 t469.length co122 : Value).ownBlock ∧ some k_ ≠ (.slice Ao139 t483.length co139 : Value).ownBlock) (.slice Ao131 t476.length co131) t476) := ⟨by (with_reducible repeat (first | apply Kd.R_alloc | apply Kd.R_drewN | apply Kd.R_drew)); exact Kd.R_mono (Kd.R_far (p := ⟨gb490, 1, none⟩) (Kd.R_far (p := ⟨gb490, 0, none⟩) (Kd.R_types HO478.out BK490.out (by decide)) (fun _ hk => hk.2) (.slice Ao134 t480.length co134)) (fun _ hk => hk.2) (.slice Ao139 t483.length co139)) (fun _ hk => ⟨hk.1.1.1.2, ⟨hk.1.1.2, hk.1.2⟩⟩)⟩
        have n8_ : Aside0 (Kd.R Kd.string 9 ((w133.setCell ⟨gb490, 0, none⟩ (.slice Ao134 t480.length co134)).setCell ⟨gb490, 1, none⟩ (.slice Ao139 t483.length co139)) w.heap.size (fun k_ => some k_ ≠ (.slice Ao7 t450.length co7 : Value).ownBlock ∧ some k_ ≠ (.slice Ao119 t466.length co119 : Value).ownBlock ∧ some k_ ≠ (.slice Ao127 t473.length co127 : Value).ownBlock) (.slice Ao134 t480.length co134) t480) := ⟨by (with_reducible repeat (first | apply Kd.R_alloc | apply Kd.R_drewN | apply Kd.R_drew)); exact Kd.R_mono (Kd.R_far (p := ⟨gb490, 1, none⟩) (Kd.R_far (p := ⟨gb490, 0, none⟩) (Kd.R_types HO482.out BK490.out (by decide)) (fun _ hk => hk.2) (.slice Ao134 t480.length co134)) (fun _ hk => hk.2) (.slice Ao139 t483.length co139)) (fun _ hk => ⟨hk.1.1.1.2, ⟨hk.1.1.2, hk.1.2⟩⟩)⟩
        have n9_ : Aside0 (Kd.R k63 63 ((w133.setCell ⟨gb490, 0, none⟩ (.slice Ao134 t480.length co134)).setCell ⟨gb490, 1, none⟩ (.slice Ao139 t483.length co139)) w.heap.size (fun k_ => some k_ ≠ (.slice Ao9 t453.length co9 : Value).ownBlock ∧ some k_ ≠ (.slice Ao122 t469.length co122 : Value).ownBlock ∧ some k_ ≠ (.slice Ao131 t476.length co131 : Value).ownBlock) (.slice Ao139 t483.length co139) t483) := ⟨by (with_reducible repeat (first | apply Kd.R_alloc | apply Kd.R_drewN | apply Kd.R_drew)); exact Kd.R_mono (Kd.R_far (p := ⟨gb490, 1, none⟩) (Kd.R_far (p := ⟨gb490, 0, none⟩) (Kd.R_types HO485.out BK490.out (by decide)) (fun _ hk => hk.2) (.slice Ao134 t480.length co134)) (fun _ hk => hk.2) (.slice Ao139 t483.length co139)) (fun _ hk => ⟨hk.1.1.1.2, ⟨hk.1.1.2, hk.1.2⟩⟩)⟩
        have n10_ : Aside0 (Kd.R (Kd.int .i64) 3 ((w133.setCell ⟨gb490, 0, none⟩ (.slice Ao134 t480.length co134)).setCell ⟨gb490, 1, none⟩ (.slice Ao139 t483.length co139)) w.heap.size (fun k_ => some k_ ≠ (.slice Ao124 x4_1.length co124 : Value).ownBlock ∧ some k_ ≠ (.slice Ao116 y463.length co116 : Value).ownBlock) v487 t486) := ⟨by (with_reducible repeat (first | apply Kd.R_alloc | apply Kd.R_drewN | apply Kd.R_drew)); exact Kd.R_mono (Kd.R_far (p := ⟨gb490, 1, none⟩) (Kd.R_far (p := ⟨gb490, 0, none⟩) (Kd.R_types HO488.out BK490.out (by decide)) (fun _ hk => hk.2) (.slice Ao134 t480.length co134)) (fun _ hk => hk.2) (.slice Ao139 t483.length co139)) (fun _ hk => ⟨hk.1.1.2, hk.1.2⟩)⟩
        have n11_ : Aside0 (((w133.setCell ⟨gb490, 0, none⟩ (.slice Ao134 t480.length co134)).setCell ⟨gb490, 1, none⟩ (.slice Ao139 t483.length co139)).heap[gb456]? = some (.cells #[.slice Ao7 t450.length co7, .slice Ao9 t453.length co9] 27 (0, 0))) := ⟨by (with_reducible repeat (first | refine blk_drewN ?_ _ | refine blk_drew ?_ | refine blk_alloc ?_ _)); refine blk_far ?_ NB456_490.out _; (with_reducible repeat (first | refine blk_drewN ?_ _ | refine blk_drew ?_ | refine blk_alloc ?_ _)); refine blk_far ?_ NB456_490.out _; (with_reducible repeat (first | refine blk_drewN ?_ _ | refine blk_drew ?_ | refine blk_alloc ?_ _)); exact BK456.out⟩
        have n12_ : Aside0 (((w133.setCell ⟨gb490, 0, none⟩ (.slice Ao134 t480.length co134)).setCell ⟨gb490, 1, none⟩ (.slice Ao139 t483.length co139)).heap[gb472]? = some (.cells #[.slice Ao119 t466.length co119, .slice Ao122 t469.length co122] 27 (0, 0))) := ⟨by (with_reducible repeat (first | refine blk_drewN ?_ _ | refine blk_drew ?_ | refine blk_alloc ?_ _)); refine blk_far ?_ NB472_490.out _; (with_reducible repeat (first | refine blk_drewN ?_ _ | refine blk_drew ?_ | refine blk_alloc ?_ _)); refine blk_far ?_ NB472_490.out _; (with_reducible repeat (first | refine blk_drewN ?_ _ | refine blk_drew ?_ | refine blk_alloc ?_ _)); exact BK472.out⟩
        have n13_ : Aside0 (((w133.setCell ⟨gb490, 0, none⟩ (.slice Ao134 t480.length co134)).setCell ⟨gb490, 1, none⟩ (.slice Ao139 t483.length co139)).heap[gb479]? = some (.cells #[.slice Ao127 t473.length co127, .slice Ao131 t476.length co131] 27 (0, 0))) := ⟨by (with_reducible repeat (first | refine blk_drewN ?_ _ | refine blk_drew ?_ | refine blk_alloc ?_ _)); refine blk_far ?_ NB479_490.out _; (with_reducible repeat (first | refine blk_drewN ?_ _ | refine blk_drew ?_ | refine blk_alloc ?_ _)); refine blk_far ?_ NB479_490.out _; (with_reducible repeat (first | refine blk_drewN ?_ _ | refine blk_drew ?_ | refine blk_alloc ?_ _)); exact BK479.out⟩
        have n14_ : Aside0 (((w133.setCell ⟨gb490, 0, none⟩ (.slice Ao134 t480.length co134)).setCell ⟨gb490, 1, none⟩ (.slice Ao139 t483.length co139)).heap[gb490]? = some (.cells #[.slice Ao134 t480.length co134, .slice Ao139 t483.length co139] 27 (0, 0))) := ⟨by (with_reducible repeat (first | refine blk_drewN ?_ _ | refine blk_drew ?_ | refine blk_alloc ?_ _)); refine blk_put (cs := #[.slice Ao134 t480.length co134, .slice none 0 0]) ?_ 1 _ rfl; (with_reducible repeat (first | refine blk_drewN ?_ _ | refine blk_drew ?_ | refine blk_alloc ?_ _)); refine blk_put (cs := #[.slice none 0 0, .slice none 0 0]) ?_ 0 _ rfl; (with_reducible repeat (first | refine blk_drewN ?_ _ | refine blk_drew ?_ | refine blk_alloc ?_ _)); exact BK490.out⟩
        have n15_ : Aside0 (Below w.heap.size w ((w133.setCell ⟨gb490, 0, none⟩ (.slice Ao134 t480.length co134)).setCell ⟨gb490, 1, none⟩ (.slice Ao139 t483.length co139))) := ⟨by exact lT HB (gC GE456 (gC GE472 (gC GE479 (gC GE490 gN))))⟩
        (try clear HO_4)
        (try clear HO_457000)
        (try clear HO_457001)
        (try clear HO465)
        (try clear HO468)
        (try clear HO471)
        (try clear HO475)
        (try clear HO478)
        (try clear HO482)
        (try clear HO485)
        (try clear HO488)
        (try clear BK456)
        (try clear BK472)
        (try clear BK479)
        (try clear BK490)
        (try clear HB)
        generalize ((w133.setCell ⟨gb490, 0, none⟩ (.slice Ao134 t480.length co134)).setCell ⟨gb490, 1, none⟩ (.slice Ao139 t483.length co139)) = w140 at n0_ n1_ n2_ n3_ n4_ n5_ n6_ n7_ n8_ n9_ n10_ n11_ n12_ n13_ n14_ n15_ ⊢
        have HO_4 := n0_
        have HO_457000 := n1_
        have HO_457001 := n2_
        have HO465 := n3_
        have HO468 := n4_
        have HO471 := n5_
        have HO475 := n6_
        have HO478 := n7_
        have HO482 := n8_
        have HO485 := n9_
        have HO488 := n10_
        have BK456 := n11_
        have BK472 := n12_
        have BK479 := n13_
        have BK490 := n14_
        have HB := n15_
        clear n0_ n1_ n2_ n3_ n4_ n5_ n6_ n7_ n8_ n9_ n10_ n11_ n12_ n13_ n14_ n15_
        replace HO_4 := ak (Kd.R_drew HO_4.out)
        replace HO_457000 := ak (Kd.R_drew HO_457000.out)
        replace HO_457001 := ak (Kd.R_drew HO_457001.out)
        replace HO465 := ak (Kd.R_drew HO465.out)
        replace HO468 := ak (Kd.R_drew HO468.out)
        replace HO471 := ak (Kd.R_drew HO471.out)
        replace HO475 := ak (Kd.R_drew HO475.out)
        replace HO478 := ak (Kd.R_drew HO478.out)
        replace HO482 := ak (Kd.R_drew HO482.out)
        replace HO485 := ak (Kd.R_drew HO485.out)
        replace HO488 := ak (Kd.R_drew HO488.out)
        replace BK456 := ak (blk_drew BK456.out)
        replace BK472 := ak (blk_drew BK472.out)
        replace BK479 := ak (blk_drew BK479.out)
        replace BK490 := ak (blk_drew BK490.out)
        replace HB := ak (below_drew1 HB.out)
        refine start_ (n := 33) (S := fun w' => w'.cell? ⟨gb472, 0, none⟩ = some (.slice Ao119 t466.length co119) ∧ w'.cell? ⟨gb472, 1, none⟩ = some (.slice Ao122 t469.length co122) ∧ w'.cell? ⟨gb456, 0, none⟩ = some (.slice Ao7 t450.length co7) ∧ w'.cell? ⟨gb456, 1, none⟩ = some (.slice Ao9 t453.length co9) ∧ w'.cell? ⟨gb479, 0, none⟩ = some (.slice Ao127 t473.length co127) ∧ w'.cell? ⟨gb479, 1, none⟩ = some (.slice Ao131 t476.length co131)) (ds := []) #[f_,f_,f_,f_,f_,f_,f_,f_,f_,f_,f_,f_,f_,f_,f_,f_,f_,f_,f_,f_,f_,f_,f_,f_,f_,f_,f_,f_,f_,f_,f_,f_,f_] (by kernel_rfl) rfl rfl ⟨(blk_cell BK472.out 0).trans rfl, (blk_cell BK472.out 1).trans rfl, (blk_cell BK456.out 0).trans rfl, (blk_cell BK456.out 1).trans rfl, (blk_cell BK479.out 0).trans rfl, (blk_cell BK479.out 1).trans rfl⟩ (fun hHeld => ?_); refine with_tabW laws_FnCrashes.tab12 laws_FnCrashes.bits12 (fun HT_ HW_ => ?_)
        generalize w140.drew = w141 at HO_4 HO_457000 HO_457001 HO465 HO468 HO471 HO475 HO478 HO482 HO485 HO488 BK456 BK472 BK479 BK490 HB hHeld ⊢
        refine pu 0 38 #[t_,f_,f_,f_,f_,f_,f_,f_,f_,f_,f_,f_,f_,f_,f_,f_,f_,f_,f_,f_,f_,f_,f_,f_,f_,f_,f_,f_,f_,f_,f_,f_,f_] HT_ ?_
        refine pu 2 40 #[t_,f_,t_,f_,f_,f_,f_,f_,f_,f_,f_,f_,f_,f_,f_,f_,f_,f_,f_,f_,f_,f_,f_,f_,f_,f_,f_,f_,f_,f_,f_,f_,f_] HT_ ?_
        refine tk 1 39 #[t_,t_,t_,f_,f_,f_,f_,f_,f_,f_,f_,f_,f_,f_,f_,f_,f_,f_,f_,f_,f_,f_,f_,f_,f_,f_,f_,f_,f_,f_,f_,f_,f_] HT_ HW_ hHeld ?_
        refine tk 3 41 #[t_,t_,t_,t_,f_,f_,f_,f_,f_,f_,f_,f_,f_,f_,f_,f_,f_,f_,f_,f_,f_,f_,f_,f_,f_,f_,f_,f_,f_,f_,f_,f_,f_] HT_ HW_ hHeld ?_
        refine on 4 (some 42) #[t_,t_,t_,t_,t_,f_,f_,f_,f_,f_,f_,f_,f_,f_,f_,f_,f_,f_,f_,f_,f_,f_,f_,f_,f_,f_,f_,f_,f_,f_,f_,f_,f_] HT_ (fun K hK => ?_)
        refine goes_ Try.func19 (by kernel_rfl) rfl #[.slice Ao119 t466.length co119, .slice Ao7 t450.length co7] (by rfl) rfl rfl (by (try simp only [List.map_toArray, List.map_cons, List.map_nil]); first | done | rfl | (simp only [List.length_drop, List.length_take]; rfl)) ?_
        with_reducible refine (laws_sameTexts.calls k1 _ _ t466 _ _ t450 true _ ?side1 ?side2 ?side3 ?side4 A19.out).mono ?_
        (case side1 => exact cG (Kd.R_reads' HO468.out).2.2)
        (case side2 => exact (Kd.R_reads' HO468.out).2.1)
        (case side3 => exact cG (Kd.R_reads' HO_457000.out).2.2)
        (case side4 => exact (Kd.R_reads' HO_457000.out).2.1)
        rintro e w' ⟨rfl, ⟨nd, rfl⟩⟩
        refine ⟨_, rfl, ?_⟩
        refine hK.out _ _ ⟨(blk_cell BK472.out 0).trans rfl, (blk_cell BK472.out 1).trans rfl, (blk_cell BK456.out 0).trans rfl, (blk_cell BK456.out 1).trans rfl, (blk_cell BK479.out 0).trans rfl, (blk_cell BK479.out 1).trans rfl⟩ (fun hHeld => ?_)
        clear hK K
        refine nm ?_
        refine pu 5 43 #[t_,t_,t_,t_,t_,t_,f_,f_,f_,f_,f_,f_,f_,f_,f_,f_,f_,f_,f_,f_,f_,f_,f_,f_,f_,f_,f_,f_,f_,f_,f_,f_,f_] HT_ ?_
        refine pu 6 44 #[t_,t_,t_,t_,t_,t_,t_,f_,f_,f_,f_,f_,f_,f_,f_,f_,f_,f_,f_,f_,f_,f_,f_,f_,f_,f_,f_,f_,f_,f_,f_,f_,f_] HT_ ?_
        refine tk 7 45 #[t_,t_,t_,t_,t_,t_,t_,t_,f_,f_,f_,f_,f_,f_,f_,f_,f_,f_,f_,f_,f_,f_,f_,f_,f_,f_,f_,f_,f_,f_,f_,f_,f_] HT_ HW_ hHeld ?_
        refine pu 8 46 #[t_,t_,t_,t_,t_,t_,t_,t_,t_,f_,f_,f_,f_,f_,f_,f_,f_,f_,f_,f_,f_,f_,f_,f_,f_,f_,f_,f_,f_,f_,f_,f_,f_] HT_ ?_
        refine pu 9 47 #[t_,t_,t_,t_,t_,t_,t_,t_,t_,t_,f_,f_,f_,f_,f_,f_,f_,f_,f_,f_,f_,f_,f_,f_,f_,f_,f_,f_,f_,f_,f_,f_,f_] HT_ ?_
        refine pu 10 48 #[t_,t_,t_,t_,t_,t_,t_,t_,t_,t_,t_,f_,f_,f_,f_,f_,f_,f_,f_,f_,f_,f_,f_,f_,f_,f_,f_,f_,f_,f_,f_,f_,f_] HT_ ?_
        refine pu 11 49 #[t_,t_,t_,t_,t_,t_,t_,t_,t_,t_,t_,t_,f_,f_,f_,f_,f_,f_,f_,f_,f_,f_,f_,f_,f_,f_,f_,f_,f_,f_,f_,f_,f_] HT_ ?_
        refine tk 12 50 #[t_,t_,t_,t_,t_,t_,t_,t_,t_,t_,t_,t_,t_,f_,f_,f_,f_,f_,f_,f_,f_,f_,f_,f_,f_,f_,f_,f_,f_,f_,f_,f_,f_] HT_ HW_ hHeld ?_
        refine tk 13 51 #[t_,t_,t_,t_,t_,t_,t_,t_,t_,t_,t_,t_,t_,t_,f_,f_,f_,f_,f_,f_,f_,f_,f_,f_,f_,f_,f_,f_,f_,f_,f_,f_,f_] HT_ HW_ hHeld ?_
        refine on 14 (some 52) #[t_,t_,t_,t_,t_,t_,t_,t_,t_,t_,t_,t_,t_,t_,t_,f_,f_,f_,f_,f_,f_,f_,f_,f_,f_,f_,f_,f_,f_,f_,f_,f_,f_] HT_ (fun K hK => ?_)
        refine goes_ Try.func13 (by kernel_rfl) rfl #[.agg #[.slice Ao7 t450.length co7, .slice Ao9 t453.length co9]] (by rfl) rfl rfl (by (try simp only [List.map_toArray, List.map_cons, List.map_nil]); first | done | rfl | (simp only [List.length_drop, List.length_take]; rfl)) ?_
        with_reducible refine (impl_FlushDisk.calls k1 _ _ t450 _ _ t453 t492 t495 _ ?side1 ?side2 ?side3 ?side4 A22.out).mono ?_
        (case side1 => exact cG (Kd.R_reads' HO_457000.out).2.2)
        (case side2 => exact (Kd.R_reads' HO_457000.out).2.1)
        (case side3 => exact cG (Kd.R_reads' HO_457001.out).2.2)
        (case side4 => exact (Kd.R_reads' HO_457001.out).2.1)
        rintro e w142 ⟨v493, v496, rfl, ho0, ho1, hb⟩
        refine ⟨_, rfl, ?_⟩
        replace HO_4 := rB HO_4 hb
        replace HO465 := rB HO465 hb
        replace HO488 := rB HO488 hb
        replace HO494 := ak (Kd.R_lower (Kd.R_new' (Kd.R_new' (Kd.R_new' (Kd.R_new' ho0 (Kd.R_lt (rG HO_457000))) (Kd.R_lt (rG HO468))) (Kd.R_lt (rG HO475))) (Kd.R_lt (rG HO482))) (below_size (lT HB (gC GE456 (gC GE472 (gC GE479 (gC GE490 gN)))))))
        replace HO_457000 := ak (Kd.R_elder' (rG HO_457000) (Kd.R_base ho0) hb)
        replace HO468 := ak (Kd.R_elder' (rG HO468) (Kd.R_base ho0) hb)
        replace HO475 := ak (Kd.R_elder' (rG HO475) (Kd.R_base ho0) hb)
        replace HO482 := ak (Kd.R_elder' (rG HO482) (Kd.R_base ho0) hb)
        replace HO497 := ak (Kd.R_lower (Kd.R_new' (Kd.R_new' (Kd.R_new' (Kd.R_new' ho1 (Kd.R_lt (rG HO_457001))) (Kd.R_lt (rG HO471))) (Kd.R_lt (rG HO478))) (Kd.R_lt (rG HO485))) (below_size (lT HB (gC GE456 (gC GE472 (gC GE479 (gC GE490 gN)))))))
        replace HO_457001 := ak (Kd.R_elder' (rG HO_457001) (Kd.R_base ho1) hb)
        replace HO471 := ak (Kd.R_elder' (rG HO471) (Kd.R_base ho1) hb)
        replace HO478 := ak (Kd.R_elder' (rG HO478) (Kd.R_base ho1) hb)
        replace HO485 := ak (Kd.R_elder' (rG HO485) (Kd.R_base ho1) hb)
        replace BK456 := bB BK456 hb
        replace BK472 := bB BK472 hb
        replace BK479 := bB BK479 hb
        replace BK490 := bB BK490 hb
        replace HB := ak (below_step (lT HB (gC GE456 (gC GE472 (gC GE479 (gC GE490 gN))))) hb)
        (try clear hb)
        (try clear hb2)
        (try clear hk)
        (try clear hi)
        (try clear ho0)
        (try clear ho1)
        obtain ⟨Ao143, co143, eo143⟩ := Kd.R_slice HO494.out
        (first | subst eo143 | (injection eo143 with f1_ f2_ f3_; have f4_ := f1_.symm; have f5_ := f3_.symm; clear f1_ f2_ f3_; subst f4_; subst f5_))
        obtain ⟨Ao144, co144, eo144⟩ := Kd.R_slice HO497.out
        (first | subst eo144 | (injection eo144 with f1_ f2_ f3_; have f4_ := f1_.symm; have f5_ := f3_.symm; clear f1_ f2_ f3_; subst f4_; subst f5_))
        refine hK.out _ _ ⟨(blk_cell BK472.out 0).trans rfl, (blk_cell BK472.out 1).trans rfl, (blk_cell BK456.out 0).trans rfl, (blk_cell BK456.out 1).trans rfl, (blk_cell BK479.out 0).trans rfl, (blk_cell BK479.out 1).trans rfl⟩ (fun hHeld => ?_)
        clear hK K
        refine nm ?_
        refine on 15 (some 53) #[t_,t_,t_,t_,t_,t_,t_,t_,t_,t_,t_,t_,t_,t_,t_,t_,f_,f_,f_,f_,f_,f_,f_,f_,f_,f_,f_,f_,f_,f_,f_,f_,f_] HT_ (fun K hK => ?_)
        refine goes_ Try.func20 (by kernel_rfl) rfl #[.agg #[.slice Ao127 t473.length co127, .slice Ao131 t476.length co131], .agg #[.slice Ao143 t492.length co143, .slice Ao144 t495.length co144]] (by rfl) rfl rfl (by (try simp only [List.map_toArray, List.map_cons, List.map_nil]); first | done | rfl | (simp only [List.length_drop, List.length_take]; rfl)) ?_
        with_reducible refine (laws_sameDisk.calls k1 _ _ t473 _ _ t476 _ _ t492 _ _ t495 false _ ?side1 ?side2 ?side3 ?side4 ?side5 ?side6 ?side7 ?side8 A23.out).mono ?_
        (case side1 => exact cG (Kd.R_reads' HO475.out).2.2)
        (case side2 => exact (Kd.R_reads' HO475.out).2.1)
        (case side3 => exact cG (Kd.R_reads' HO478.out).2.2)
        (case side4 => exact (Kd.R_reads' HO478.out).2.1)
        (case side5 => exact cG (Kd.R_reads' HO494.out).2.2)
        (case side6 => exact (Kd.R_reads' HO494.out).2.1)
        (case side7 => exact cG (Kd.R_reads' HO497.out).2.2)
        (case side8 => exact (Kd.R_reads' HO497.out).2.1)
        rintro e w145 ⟨rfl, hb⟩
        refine ⟨_, rfl, ?_⟩
        replace HO_4 := rB HO_4 hb
        replace HO_457000 := rB HO_457000 hb
        replace HO_457001 := rB HO_457001 hb
        replace HO465 := rB HO465 hb
        replace HO468 := rB HO468 hb
        replace HO471 := rB HO471 hb
        replace HO475 := rB HO475 hb
        replace HO478 := rB HO478 hb
        replace HO482 := rB HO482 hb
        replace HO485 := rB HO485 hb
        replace HO488 := rB HO488 hb
        replace HO494 := rB HO494 hb
        replace HO497 := rB HO497 hb
        replace BK456 := bB BK456 hb
        replace BK472 := bB BK472 hb
        replace BK479 := bB BK479 hb
        replace BK490 := bB BK490 hb
        replace HB := ak (below_step (lT HB (gC GE456 (gC GE472 (gC GE479 (gC GE490 gN))))) hb)
        (try clear hb)
        (try clear hb2)
        (try clear hk)
        (try clear hi)
        refine hK.out _ _ ⟨(blk_cell BK472.out 0).trans rfl, (blk_cell BK472.out 1).trans rfl, (blk_cell BK456.out 0).trans rfl, (blk_cell BK456.out 1).trans rfl, (blk_cell BK479.out 0).trans rfl, (blk_cell BK479.out 1).trans rfl⟩ (fun hHeld => ?_)
        clear hK K
        refine nm ?_
        refine pu 16 54 #[t_,t_,t_,t_,t_,t_,t_,t_,t_,t_,t_,t_,t_,t_,t_,t_,t_,f_,f_,f_,f_,f_,f_,f_,f_,f_,f_,f_,f_,f_,f_,f_,f_] HT_ ?_
        refine pu 17 55 #[t_,t_,t_,t_,t_,t_,t_,t_,t_,t_,t_,t_,t_,t_,t_,t_,t_,t_,f_,f_,f_,f_,f_,f_,f_,f_,f_,f_,f_,f_,f_,f_,f_] HT_ ?_
        refine pn 18 56 #[t_,t_,t_,t_,t_,t_,t_,t_,t_,t_,t_,t_,t_,t_,t_,t_,t_,t_,t_,f_,f_,f_,f_,f_,f_,f_,f_,f_,f_,f_,f_,f_,f_] HT_ ?_
        refine pn 19 57 #[t_,t_,t_,t_,t_,t_,t_,t_,t_,t_,t_,t_,t_,t_,t_,t_,t_,t_,t_,t_,f_,f_,f_,f_,f_,f_,f_,f_,f_,f_,f_,f_,f_] HT_ ?_
        refine pn 20 58 #[t_,t_,t_,t_,t_,t_,t_,t_,t_,t_,t_,t_,t_,t_,t_,t_,t_,t_,t_,t_,t_,f_,f_,f_,f_,f_,f_,f_,f_,f_,f_,f_,f_] HT_ ?_
        refine pn 21 59 #[t_,t_,t_,t_,t_,t_,t_,t_,t_,t_,t_,t_,t_,t_,t_,t_,t_,t_,t_,t_,t_,t_,f_,f_,f_,f_,f_,f_,f_,f_,f_,f_,f_] HT_ ?_
        refine pn 22 60 #[t_,t_,t_,t_,t_,t_,t_,t_,t_,t_,t_,t_,t_,t_,t_,t_,t_,t_,t_,t_,t_,t_,t_,f_,f_,f_,f_,f_,f_,f_,f_,f_,f_] HT_ ?_
        refine pn 23 61 #[t_,t_,t_,t_,t_,t_,t_,t_,t_,t_,t_,t_,t_,t_,t_,t_,t_,t_,t_,t_,t_,t_,t_,t_,f_,f_,f_,f_,f_,f_,f_,f_,f_] HT_ ?_
        refine pn 24 62 #[t_,t_,t_,t_,t_,t_,t_,t_,t_,t_,t_,t_,t_,t_,t_,t_,t_,t_,t_,t_,t_,t_,t_,t_,t_,f_,f_,f_,f_,f_,f_,f_,f_] HT_ ?_
        refine pn 25 63 #[t_,t_,t_,t_,t_,t_,t_,t_,t_,t_,t_,t_,t_,t_,t_,t_,t_,t_,t_,t_,t_,t_,t_,t_,t_,t_,f_,f_,f_,f_,f_,f_,f_] HT_ ?_
        refine pn 26 64 #[t_,t_,t_,t_,t_,t_,t_,t_,t_,t_,t_,t_,t_,t_,t_,t_,t_,t_,t_,t_,t_,t_,t_,t_,t_,t_,t_,f_,f_,f_,f_,f_,f_] HT_ ?_
        refine pu 27 65 #[t_,t_,t_,t_,t_,t_,t_,t_,t_,t_,t_,t_,t_,t_,t_,t_,t_,t_,t_,t_,t_,t_,t_,t_,t_,t_,t_,t_,f_,f_,f_,f_,f_] HT_ ?_
        refine pu 28 66 #[t_,t_,t_,t_,t_,t_,t_,t_,t_,t_,t_,t_,t_,t_,t_,t_,t_,t_,t_,t_,t_,t_,t_,t_,t_,t_,t_,t_,t_,f_,f_,f_,f_] HT_ ?_
        refine pn 29 67 #[t_,t_,t_,t_,t_,t_,t_,t_,t_,t_,t_,t_,t_,t_,t_,t_,t_,t_,t_,t_,t_,t_,t_,t_,t_,t_,t_,t_,t_,t_,f_,f_,f_] HT_ ?_
        refine pn 30 68 #[t_,t_,t_,t_,t_,t_,t_,t_,t_,t_,t_,t_,t_,t_,t_,t_,t_,t_,t_,t_,t_,t_,t_,t_,t_,t_,t_,t_,t_,t_,t_,f_,f_] HT_ ?_
        refine pu 31 69 #[t_,t_,t_,t_,t_,t_,t_,t_,t_,t_,t_,t_,t_,t_,t_,t_,t_,t_,t_,t_,t_,t_,t_,t_,t_,t_,t_,t_,t_,t_,t_,t_,f_] HT_ ?_
        refine pu 32 2 #[t_,t_,t_,t_,t_,t_,t_,t_,t_,t_,t_,t_,t_,t_,t_,t_,t_,t_,t_,t_,t_,t_,t_,t_,t_,t_,t_,t_,t_,t_,t_,t_,t_] HT_ ?_
        refine done_ (done_of HT_.out (by kernel_rfl)) ?_
        try go_wp2
        go_ret
        exact ⟨by first | rfl | (simp [errW_none, errW_some] <;> rfl) | (simp [*, errW_none, errW_some] <;> rfl), by exact lT HB (gC GE456 (gC GE472 (gC GE479 (gC GE490 gN))))⟩
      ·rw [if_neg c21] at H
       have c21b0 : ((t469.length : Int) == 0) = false := beq_eq_false_iff_ne.mpr c21
       have c21b1 : ((t469.length : Int) != 0) = true := bne_iff_ne.mpr c21
       have c21b2 : ¬ (t469 = []) := fun h_ => c21 (by rw [h_]; rfl)
       obtain rfl := Option.some.inj H
       have hcz146_0 : wr.cell? ⟨gb456, 0, none⟩ = some (.slice Ao7 t450.length co7) := (blk_cell BK456.out 0).trans rfl
       have hcz146_1 : wr.cell? ⟨gb456, 1, none⟩ = some (.slice Ao9 t453.length co9) := (blk_cell BK456.out 1).trans rfl
       have hfz146_0 := blk_frozen BK456.out 0
       have hfz146_1 := blk_frozen BK456.out 1
       try go_wp2_with (first | ((with_reducible refine gate_dst (N := 27) rfl ?_); (try (refine gate_guard (by rfl) ?_; dsimp only)); refine Kd.R_lit (Kd.int .i64) _ 3 ?hg (N := 27) ?hd (xs := ([] : List Int)) (inner := []) (ok := fun _ => True) (okp := fun _ => True) ?hr ?hp (fun _ hk => hk) trivial (Below.refl _ _) (Nat.le_refl _) (by simp) ?_; (case hd => rfl); (case hg => rfl); (case hr => first | (go_simp; done) | (go_simp; rfl)); (case hp => exact (Reps.none _ _)); intro v464 w147 ho148 hb hg_ hnew_; clear hg_ hnew_; (first | rw [← Ny463.out] at ho148 | (simp only [Int.reduceToNat] at ho148; rw [← Ny463.out] at ho148)); replace HO_457000 := rB HO_457000 hb; replace HO_457001 := rB HO_457001 hb; replace HO465 := ak (Kd.R_lower (Kd.R_new' ho148 (Kd.R_lt (rG HO_4))) (below_size (lT HB (gC GE456 gN)))); replace HO_4 := ak (Kd.R_elder' (rG HO_4) (Kd.R_base ho148) hb); replace BK456 := bB BK456 hb; replace HB := ak (below_step (lT HB (gC GE456 gN)) hb); clear hb ho148; obtain ⟨Ao149, co149, eo149⟩ := Kd.R_slice HO465.out; subst eo149) | ((with_reducible refine gate_callee (f := 17) rfl ?_); refine gl (some 28) Try.func17 #[.agg #[.slice Ao7 t450.length co7, .slice Ao9 t453.length co9], .slice Ao149 y463.length co149, .int .i64 5] ?_; (with_reducible refine (impl_CrashDisk.calls k1 _ _ t450 _ _ t453 _ _ y463 5 t466 t469 _ ?side1 ?side2 ?side3 ?side4 ?side5 ?side6 A16.out).mono ?_); (case side1 => exact cG (Kd.R_reads' HO_457000.out).2.2); (case side2 => exact (Kd.R_reads' HO_457000.out).2.1); (case side3 => exact cG (Kd.R_reads' HO_457001.out).2.2); (case side4 => exact (Kd.R_reads' HO_457001.out).2.1); (case side5 => exact cG (Kd.R_reads' HO465.out).2.2); (case side6 => exact (Kd.R_reads' HO465.out).2.1); rintro e w150 ⟨v467, v470, rfl, ho0, ho1, hb⟩; refine ⟨_, rfl, ?_⟩; replace HO_4 := rB HO_4 hb; replace HO465 := rB HO465 hb; replace HO468 := ak (Kd.R_lower (Kd.R_new' ho0 (Kd.R_lt (rG HO_457000))) (below_size (lT HB (gC GE456 gN)))); replace HO_457000 := ak (Kd.R_elder' (rG HO_457000) (Kd.R_base ho0) hb); replace HO471 := ak (Kd.R_lower (Kd.R_new' ho1 (Kd.R_lt (rG HO_457001))) (below_size (lT HB (gC GE456 gN)))); replace HO_457001 := ak (Kd.R_elder' (rG HO_457001) (Kd.R_base ho1) hb); replace BK456 := bB BK456 hb; replace HB := ak (below_step (lT HB (gC GE456 gN)) hb); (try clear hb); (try clear hk); (try clear ho0); (try clear ho1)) | ((with_reducible refine gate_dst (N := 6) rfl ?_); (try (refine gate_guard (by rfl) ?_; dsimp only)); refine bx 6 #[.slice none 0 0, .slice none 0 0] 27 ?_; intro gb472 hg w151 hbox hb; replace HO_4 := rB HO_4 hb; replace HO_457000 := rB HO_457000 hb; replace HO_457001 := rB HO_457001 hb; replace HO465 := rB HO465 hb; replace HO468 := rB HO468 hb; replace HO471 := rB HO471 hb; replace BK472 := ak (hbox); replace GW472 := ak (bz hg (lT HB (gC GE456 gN))); replace GE472 := ak (bz hg (lT HB (gC GE456 gN))); replace HB := ak (below_step (lT HB (gC GE456 gN)) hb); replace NB456_472 := ak (nl hg (bG BK456)); replace NB472_456 := ak (ng hg (bG BK456)); replace BK456 := bB BK456 hb; clear hb hbox hg; obtain ⟨Ao152, co152, eo152⟩ := Kd.R_slice HO468.out; subst eo152; have hnb153 := NB472_456.out; have hnc153 := NB456_472.out; obtain ⟨hcz154_0, hcz154_1, hfz154_0, hfz154_1⟩ := bC2 BK472; obtain ⟨Ao155, co155, eo155⟩ := Kd.R_slice HO471.out; subst eo155; obtain ⟨hcz156_0, hcz156_1, hfz156_0, hfz156_1⟩ := bC2 BK456; obtain ⟨Ao157, co157, eo157⟩ := Kd.R_slice HO_4.out; subst eo157) | ((with_reducible refine gate_callee (f := 17) rfl ?_); refine gl (some 31) Try.func17 #[.agg #[.slice Ao7 t450.length co7, .slice Ao9 t453.length co9], .slice Ao157 x4_1.length co157, .int .i64 32] ?_; (with_reducible refine (impl_CrashDisk.calls k1 _ _ t450 _ _ t453 _ _ x4_1 32 t473 t476 _ ?side1 ?side2 ?side3 ?side4 ?side5 ?side6 A17.out).mono ?_); (case side1 => exact (Kd.R_reads' (rT HO_457000 BK472 (by decide))).2.2); (case side2 => exact (Kd.R_reads' HO_457000.out).2.1); (case side3 => exact (Kd.R_reads' (rT HO_457001 BK472 (by decide))).2.2); (case side4 => exact (Kd.R_reads' HO_457001.out).2.1); (case side5 => exact (Kd.R_reads' (rT HO_4 BK472 (by decide))).2.2); (case side6 => exact (Kd.R_reads' HO_4.out).2.1); rintro e w158 ⟨v474, v477, rfl, ho0, ho1, hb⟩; refine ⟨_, rfl, ?_⟩; replace HO_4 := ak (Kd.R_below (rT HO_4 BK472 (by decide)) hb); replace HO465 := ak (Kd.R_below (rT HO465 BK472 (by decide)) hb); replace HO475 := ak (Kd.R_lower (Kd.R_new' (Kd.R_new' ho0 (Kd.R_lt (rT HO_457000 BK472 (by decide)))) (Kd.R_lt (rT HO468 BK472 (by decide)))) (below_size (lT HB (gC GE456 (gC GE472 gN))))); replace HO_457000 := ak (Kd.R_elder' (rT HO_457000 BK472 (by decide)) (Kd.R_base ho0) hb); replace HO468 := ak (Kd.R_elder' (rT HO468 BK472 (by decide)) (Kd.R_base ho0) hb); replace HO478 := ak (Kd.R_lower (Kd.R_new' (Kd.R_new' ho1 (Kd.R_lt (rT HO_457001 BK472 (by decide)))) (Kd.R_lt (rT HO471 BK472 (by decide)))) (below_size (lT HB (gC GE456 (gC GE472 gN))))); replace HO_457001 := ak (Kd.R_elder' (rT HO_457001 BK472 (by decide)) (Kd.R_base ho1) hb); replace HO471 := ak (Kd.R_elder' (rT HO471 BK472 (by decide)) (Kd.R_base ho1) hb); replace BK456 := ak (blk_below (bT BK456 (nC NB456_472 nN)) hb); replace BK472 := ak (blk_below (g := gb472) (o := .cells #[.slice Ao152 t466.length co152, .slice Ao155 t469.length co155] 27 (0, 0)) (by (with_reducible repeat (first | refine blk_drewN ?_ _ | refine blk_drew ?_ | refine blk_alloc ?_ _)); refine blk_put (cs := #[.slice Ao152 t466.length co152, .slice none 0 0]) ?_ 1 _ rfl; (with_reducible repeat (first | refine blk_drewN ?_ _ | refine blk_drew ?_ | refine blk_alloc ?_ _)); refine blk_put (cs := #[.slice none 0 0, .slice none 0 0]) ?_ 0 _ rfl; (with_reducible repeat (first | refine blk_drewN ?_ _ | refine blk_drew ?_ | refine blk_alloc ?_ _)); exact BK472.out) hb); replace HB := ak (below_step (lT HB (gC GE456 (gC GE472 gN))) hb); (try clear hb); (try clear hk); (try clear ho0); (try clear ho1)) | ((with_reducible refine gate_dst (N := 7) rfl ?_); (try (refine gate_guard (by rfl) ?_; dsimp only)); refine bx 7 #[.slice none 0 0, .slice none 0 0] 27 ?_; intro gb479 hg w159 hbox hb; replace HO_4 := rB HO_4 hb; replace HO_457000 := rB HO_457000 hb; replace HO_457001 := rB HO_457001 hb; replace HO465 := rB HO465 hb; replace HO468 := rB HO468 hb; replace HO471 := rB HO471 hb; replace HO475 := rB HO475 hb; replace HO478 := rB HO478 hb; replace BK479 := ak (hbox); replace GW479 := ak (bz hg (lT HB (gC GE456 (gC GE472 gN)))); replace GE479 := ak (bz hg (lT HB (gC GE456 (gC GE472 gN)))); replace HB := ak (below_step (lT HB (gC GE456 (gC GE472 gN))) hb); replace NB456_479 := ak (nl hg (bG BK456)); replace NB479_456 := ak (ng hg (bG BK456)); replace BK456 := bB BK456 hb; replace NB472_479 := ak (nl hg (bG BK472)); replace NB479_472 := ak (ng hg (bG BK472)); replace BK472 := bB BK472 hb; clear hb hbox hg; obtain ⟨Ao160, co160, eo160⟩ := Kd.R_slice HO475.out; subst eo160; have hnb161 := NB479_456.out; have hnc161 := NB456_479.out; have hnb162 := NB479_472.out; have hnc162 := NB472_479.out; obtain ⟨hcz163_0, hcz163_1, hfz163_0, hfz163_1⟩ := bC2 BK479; obtain ⟨Ao164, co164, eo164⟩ := Kd.R_slice HO478.out; subst eo164) | ((with_reducible refine gate_callee (f := 18) rfl ?_); refine gl (some 34) Try.func18 #[.slice A0 l0.length c0] ?_; (with_reducible refine (spec_DrawCrashDisk.calls k1 _ _ l0 t480 t483 t486 t489 _ ?side1 ?side2 A18.out).mono ?_); (case side1 => exact Kd.C_below HR0.out (lT HB (gC GE456 (gC GE472 (gC GE479 gN))))); (case side2 => exact HC0.out); rintro e w165 ⟨v481, v484, v487, rfl, ho0, ho1, ho2, hb⟩; refine ⟨_, rfl, ?_⟩; replace HO482 := ak (Kd.R_lower (Kd.R_new' (Kd.R_new' (Kd.R_new' ho0 (Kd.R_lt (rT HO_457000 BK479 (by decide)))) (Kd.R_lt (rT HO468 BK479 (by decide)))) (Kd.R_lt (rT HO475 BK479 (by decide)))) (below_size (lT HB (gC GE456 (gC GE472 (gC GE479 gN)))))); replace HO_457000 := ak (Kd.R_elder' (rT HO_457000 BK479 (by decide)) (Kd.R_base ho0) hb); replace HO468 := ak (Kd.R_elder' (rT HO468 BK479 (by decide)) (Kd.R_base ho0) hb); replace HO475 := ak (Kd.R_elder' (rT HO475 BK479 (by decide)) (Kd.R_base ho0) hb); replace HO485 := ak (Kd.R_lower (Kd.R_new' (Kd.R_new' (Kd.R_new' ho1 (Kd.R_lt (rT HO_457001 BK479 (by decide)))) (Kd.R_lt (rT HO471 BK479 (by decide)))) (Kd.R_lt (rT HO478 BK479 (by decide)))) (below_size (lT HB (gC GE456 (gC GE472 (gC GE479 gN)))))); replace HO_457001 := ak (Kd.R_elder' (rT HO_457001 BK479 (by decide)) (Kd.R_base ho1) hb); replace HO471 := ak (Kd.R_elder' (rT HO471 BK479 (by decide)) (Kd.R_base ho1) hb); replace HO478 := ak (Kd.R_elder' (rT HO478 BK479 (by decide)) (Kd.R_base ho1) hb); replace HO488 := ak (Kd.R_lower (Kd.R_new' (Kd.R_new' ho2 (Kd.R_lt (rT HO_4 BK479 (by decide)))) (Kd.R_lt (rT HO465 BK479 (by decide)))) (below_size (lT HB (gC GE456 (gC GE472 (gC GE479 gN)))))); replace HO_4 := ak (Kd.R_elder' (rT HO_4 BK479 (by decide)) (Kd.R_base ho2) hb); replace HO465 := ak (Kd.R_elder' (rT HO465 BK479 (by decide)) (Kd.R_base ho2) hb); replace BK456 := ak (blk_below (bT BK456 (nC NB456_479 nN)) hb); replace BK472 := ak (blk_below (bT BK472 (nC NB472_479 nN)) hb); replace BK479 := ak (blk_below (g := gb479) (o := .cells #[.slice Ao160 t473.length co160, .slice Ao164 t476.length co164] 27 (0, 0)) (by (with_reducible repeat (first | refine blk_drewN ?_ _ | refine blk_drew ?_ | refine blk_alloc ?_ _)); refine blk_put (cs := #[.slice Ao160 t473.length co160, .slice none 0 0]) ?_ 1 _ rfl; (with_reducible repeat (first | refine blk_drewN ?_ _ | refine blk_drew ?_ | refine blk_alloc ?_ _)); refine blk_put (cs := #[.slice none 0 0, .slice none 0 0]) ?_ 0 _ rfl; (with_reducible repeat (first | refine blk_drewN ?_ _ | refine blk_drew ?_ | refine blk_alloc ?_ _)); exact BK479.out) hb); replace HB := ak (below_step (lT HB (gC GE456 (gC GE472 (gC GE479 gN)))) hb); (try clear hb); (try clear hk); (try clear ho0); (try clear ho1); (try clear ho2)) | ((with_reducible refine gate_dst (N := 8) rfl ?_); (try (refine gate_guard (by rfl) ?_; dsimp only)); refine bx 8 #[.slice none 0 0, .slice none 0 0] 27 ?_; intro gb490 hg w166 hbox hb; replace HO_4 := rB HO_4 hb; replace HO_457000 := rB HO_457000 hb; replace HO_457001 := rB HO_457001 hb; replace HO465 := rB HO465 hb; replace HO468 := rB HO468 hb; replace HO471 := rB HO471 hb; replace HO475 := rB HO475 hb; replace HO478 := rB HO478 hb; replace HO482 := rB HO482 hb; replace HO485 := rB HO485 hb; replace HO488 := rB HO488 hb; replace BK490 := ak (hbox); replace GW490 := ak (bz hg (lT HB (gC GE456 (gC GE472 (gC GE479 gN))))); replace GE490 := ak (bz hg (lT HB (gC GE456 (gC GE472 (gC GE479 gN))))); replace HB := ak (below_step (lT HB (gC GE456 (gC GE472 (gC GE479 gN)))) hb); replace NB456_490 := ak (nl hg (bG BK456)); replace NB490_456 := ak (ng hg (bG BK456)); replace BK456 := bB BK456 hb; replace NB472_490 := ak (nl hg (bG BK472)); replace NB490_472 := ak (ng hg (bG BK472)); replace BK472 := bB BK472 hb; replace NB479_490 := ak (nl hg (bG BK479)); replace NB490_479 := ak (ng hg (bG BK479)); replace BK479 := bB BK479 hb; clear hb hbox hg; obtain ⟨Ao167, co167, eo167⟩ := Kd.R_slice HO482.out; subst eo167; have hnb168 := NB490_456.out; have hnc168 := NB456_490.out; have hnb169 := NB490_472.out; have hnc169 := NB472_490.out; have hnb170 := NB490_479.out; have hnc170 := NB479_490.out; obtain ⟨hcz171_0, hcz171_1, hfz171_0, hfz171_1⟩ := bC2 BK490; obtain ⟨Ao172, co172, eo172⟩ := Kd.R_slice HO485.out; subst eo172))
       have n0_ : Aside0 (Kd.R (Kd.int .i64) 3 ((w166.setCell ⟨gb490, 0, none⟩ (.slice Ao167 t480.length co167)).setCell ⟨gb490, 1, none⟩ (.slice Ao172 t483.length co172)) w.heap.size (fun k_ => some k_ ≠ (.slice Ao149 y463.length co149 : Value).ownBlock ∧ some k_ ≠ (v487 : Value).ownBlock) (.slice Ao157 x4_1.length co157) x4_1) := ⟨by (with_reducible repeat (first | apply Kd.R_alloc | apply Kd.R_drewN | apply Kd.R_drew)); exact Kd.R_mono (Kd.R_far (p := ⟨gb490, 1, none⟩) (Kd.R_far (p := ⟨gb490, 0, none⟩) (Kd.R_types HO_4.out BK490.out (by decide)) (fun _ hk => hk.2) (.slice Ao167 t480.length co167)) (fun _ hk => hk.2) (.slice Ao172 t483.length co172)) (fun _ hk => ⟨hk.1.1.2, hk.1.2⟩)⟩
       have n1_ : Aside0 (Kd.R Kd.string 9 ((w166.setCell ⟨gb490, 0, none⟩ (.slice Ao167 t480.length co167)).setCell ⟨gb490, 1, none⟩ (.slice Ao172 t483.length co172)) w.heap.size (fun k_ => some k_ ≠ (.slice Ao152 t466.length co152 : Value).ownBlock ∧ some k_ ≠ (.slice Ao160 t473.length co160 : Value).ownBlock ∧ some k_ ≠ (.slice Ao167 t480.length co167 : Value).ownBlock) (.slice Ao7 t450.length co7) t450) := ⟨by (with_reducible repeat (first | apply Kd.R_alloc | apply Kd.R_drewN | apply Kd.R_drew)); exact Kd.R_mono (Kd.R_far (p := ⟨gb490, 1, none⟩) (Kd.R_far (p := ⟨gb490, 0, none⟩) (Kd.R_types HO_457000.out BK490.out (by decide)) (fun _ hk => hk.2) (.slice Ao167 t480.length co167)) (fun _ hk => hk.2) (.slice Ao172 t483.length co172)) (fun _ hk => ⟨hk.1.1.1.2, ⟨hk.1.1.2, hk.1.2⟩⟩)⟩
       have n2_ : Aside0 (Kd.R k63 63 ((w166.setCell ⟨gb490, 0, none⟩ (.slice Ao167 t480.length co167)).setCell ⟨gb490, 1, none⟩ (.slice Ao172 t483.length co172)) w.heap.size (fun k_ => some k_ ≠ (.slice Ao155 t469.length co155 : Value).ownBlock ∧ some k_ ≠ (.slice Ao164 t476.length co164 : Value).ownBlock ∧ some k_ ≠ (.slice Ao172 t483.length co172 : Value).ownBlock) (.slice Ao9 t453.length co9) t453) := ⟨by (with_reducible repeat (first | apply Kd.R_alloc | apply Kd.R_drewN | apply Kd.R_drew)); exact Kd.R_mono (Kd.R_far (p := ⟨gb490, 1, none⟩) (Kd.R_far (p := ⟨gb490, 0, none⟩) (Kd.R_types HO_457001.out BK490.out (by decide)) (fun _ hk => hk.2) (.slice Ao167 t480.length co167)) (fun _ hk => hk.2) (.slice Ao172 t483.length co172)) (fun _ hk => ⟨hk.1.1.1.2, ⟨hk.1.1.2, hk.1.2⟩⟩)⟩
       have n3_ : Aside0 (Kd.R (Kd.int .i64) 3 ((w166.setCell ⟨gb490, 0, none⟩ (.slice Ao167 t480.length co167)).setCell ⟨gb490, 1, none⟩ (.slice Ao172 t483.length co172)) w.heap.size (fun k_ => some k_ ≠ (.slice Ao157 x4_1.length co157 : Value).ownBlock ∧ some k_ ≠ (v487 : Value).ownBlock) (.slice Ao149 y463.length co149) y463) := ⟨by (with_reducible repeat (first | apply Kd.R_alloc | apply Kd.R_drewN | apply Kd.R_drew)); exact Kd.R_mono (Kd.R_far (p := ⟨gb490, 1, none⟩) (Kd.R_far (p := ⟨gb490, 0, none⟩) (Kd.R_types HO465.out BK490.out (by decide)) (fun _ hk => hk.2) (.slice Ao167 t480.length co167)) (fun _ hk => hk.2) (.slice Ao172 t483.length co172)) (fun _ hk => ⟨hk.1.1.2, hk.1.2⟩)⟩
       have n4_ : Aside0 (Kd.R Kd.string 9 ((w166.setCell ⟨gb490, 0, none⟩ (.slice Ao167 t480.length co167)).setCell ⟨gb490, 1, none⟩ (.slice Ao172 t483.length co172)) w.heap.size (fun k_ => some k_ ≠ (.slice Ao7 t450.length co7 : Value).ownBlock ∧ some k_ ≠ (.slice Ao160 t473.length co160 : Value).ownBlock ∧ some k_ ≠ (.slice Ao167 t480.length co167 : Value).ownBlock) (.slice Ao152 t466.length co152) t466) := ⟨by (with_reducible repeat (first | apply Kd.R_alloc | apply Kd.R_drewN | apply Kd.R_drew)); exact Kd.R_mono (Kd.R_far (p := ⟨gb490, 1, none⟩) (Kd.R_far (p := ⟨gb490, 0, none⟩) (Kd.R_types HO468.out BK490.out (by decide)) (fun _ hk => hk.2) (.slice Ao167 t480.length co167)) (fun _ hk => hk.2) (.slice Ao172 t483.length co172)) (fun _ hk => ⟨hk.1.1.1.2, ⟨hk.1.1.2, hk.1.2⟩⟩)⟩
       have n5_ : Aside0 (Kd.R k63 63 ((w166.setCell ⟨gb490, 0, none⟩ (.slice Ao167 t480.length co167)).setCell ⟨gb490, 1, none⟩ (.slice Ao172 t483.length co172)) w.heap.size (fun k_ => some k_ ≠ (.slice Ao9 t453.length co9 : Value).ownBlock ∧ some k_ ≠ (.slice Ao164 t476.length co164 : Value).ownBlock ∧ some k_ ≠ (.slice Ao172 t483.length co172 : Value).ownBlock) (.slice Ao155 t469.length co155) t469) := ⟨by (with_reducible repeat (first | apply Kd.R_alloc | apply Kd.R_drewN | apply Kd.R_drew)); exact Kd.R_mono (Kd.R_far (p := ⟨gb490, 1, none⟩) (Kd.R_far (p := ⟨gb490, 0, none⟩) (Kd.R_types HO471.out BK490.out (by decide)) (fun _ hk => hk.2) (.slice Ao167 t480.length co167)) (fun _ hk => hk.2) (.slice Ao172 t483.length co172)) (fun _ hk => ⟨hk.1.1.1.2, ⟨hk.1.1.2, hk.1.2⟩⟩)⟩
       have n6_ : Aside0 (Kd.R Kd.string 9 ((w166.setCell ⟨gb490, 0, none⟩ (.slice Ao167 t480.length co167)).setCell ⟨gb490, 1, none⟩ (.slice Ao172 t483.length co172)) w.heap.size (fun k_ => some k_ ≠ (.slice Ao7 t450.length co7 : Value).ownBlock ∧ some k_ ≠ (.slice Ao152 t466.length co152 : Value).ownBlock ∧ some k_ ≠ (.slice Ao167 t480.length co167 : Value).ownBlock) (.slice Ao160 t473.length co160) t473) := ⟨by (with_reducible repeat (first | apply Kd.R_alloc | apply Kd.R_drewN | apply Kd.R_drew)); exact Kd.R_mono (Kd.R_far (p := ⟨gb490, 1, none⟩) (Kd.R_far (p := ⟨gb490, 0, none⟩) (Kd.R_types HO475.out BK490.out (by decide)) (fun _ hk => hk.2) (.slice Ao167 t480.length co167)) (fun _ hk => hk.2) (.slice Ao172 t483.length co172)) (fun _ hk => ⟨hk.1.1.1.2, ⟨hk.1.1.2, hk.1.2⟩⟩)⟩
       have n7_ : Aside0 (Kd.R k63 63 ((w166.setCell ⟨gb490, 0, none⟩ (.slice Ao167 t480.length co167)).setCell ⟨gb490, 1, none⟩ (.slice Ao172 t483.length co172)) w.heap.size (fun k_ => some k_ ≠ (.slice Ao9 t453.length co9 : Value).ownBlock ∧ some k_ ≠ (.slice Ao155 t469.length co155 : Value).ownBlock ∧ some k_ ≠ (.slice Ao172 t483.length co172 : Value).ownBlock) (.slice Ao164 t476.length co164) t476) := ⟨by (with_reducible repeat (first | apply Kd.R_alloc | apply Kd.R_drewN | apply Kd.R_drew)); exact Kd.R_mono (Kd.R_far (p := ⟨gb490, 1, none⟩) (Kd.R_far (p := ⟨gb490, 0, none⟩) (Kd.R_types HO478.out BK490.out (by decide)) (fun _ hk => hk.2) (.slice Ao167 t480.length co167)) (fun _ hk => hk.2) (.slice Ao172 t483.length co172)) (fun _ hk => ⟨hk.1.1.1.2, ⟨hk.1.1.2, hk.1.2⟩⟩)⟩
       have n8_ : Aside0 (Kd.R Kd.string 9 ((w166.setCell ⟨gb490, 0, none⟩ (.slice Ao167 t480.length co167)).setCell ⟨gb490, 1, none⟩ (.slice Ao172 t483.length co172)) w.heap.size (fun k_ => some k_ ≠ (.slice Ao7 t450.length co7 : Value).ownBlock ∧ some k_ ≠ (.slice Ao152 t466.length co152 : Value).ownBlock ∧ some k_ ≠ (.slice Ao160 t473.length co160 : Value).ownBlock) (.slice Ao167 t480.length co167) t480) := ⟨by (with_reducible repeat (first | apply Kd.R_alloc | apply Kd.R_drewN | apply Kd.R_drew)); exact Kd.R_mono (Kd.R_far (p := ⟨gb490, 1, none⟩) (Kd.R_far (p := ⟨gb490, 0, none⟩) (Kd.R_types HO482.out BK490.out (by decide)) (fun _ hk => hk.2) (.slice Ao167 t480.length co167)) (fun _ hk => hk.2) (.slice Ao172 t483.length co172)) (fun _ hk => ⟨hk.1.1.1.2, ⟨hk.1.1.2, hk.1.2⟩⟩)⟩
       have n9_ : Aside0 (Kd.R k63 63 ((w166.setCell ⟨gb490, 0, none⟩ (.slice Ao167 t480.length co167)).setCell ⟨gb490, 1, none⟩ (.slice Ao172 t483.length co172)) w.heap.size (fun k_ => some k_ ≠ (.slice Ao9 t453.length co9 : Value).ownBlock ∧ some k_ ≠ (.slice Ao155 t469.length co155 : Value).ownBlock ∧ some k_ ≠ (.slice Ao164 t476.length co164 : Value).ownBlock) (.slice Ao172 t483.length co172) t483) := ⟨by (with_reducible repeat (first | apply Kd.R_alloc | apply Kd.R_drewN | apply Kd.R_drew)); exact Kd.R_mono (Kd.R_far (p := ⟨gb490, 1, none⟩) (Kd.R_far (p := ⟨gb490, 0, none⟩) (Kd.R_types HO485.out BK490.out (by decide)) (fun _ hk => hk.2) (.slice Ao167 t480.length co167)) (fun _ hk => hk.2) (.slice Ao172 t483.length co172)) (fun _ hk => ⟨hk.1.1.1.2, ⟨hk.1.1.2, hk.1.2⟩⟩)⟩
       have n10_ : Aside0 (Kd.R (Kd.int .i64) 3 ((w166.setCell ⟨gb490, 0, none⟩ (.slice Ao167 t480.length co167)).setCell ⟨gb490, 1, none⟩ (.slice Ao172 t483.length co172)) w.heap.size (fun k_ => some k_ ≠ (.slice Ao157 x4_1.length co157 : Value).ownBlock ∧ some k_ ≠ (.slice Ao149 y463.length co149 : Value).ownBlock) v487 t486) := ⟨by (with_reducible repeat (first | apply Kd.R_alloc | apply Kd.R_drewN | apply Kd.R_drew)); exact Kd.R_mono (Kd.R_far (p := ⟨gb490, 1, none⟩) (Kd.R_far (p := ⟨gb490, 0, none⟩) (Kd.R_types HO488.out BK490.out (by decide)) (fun _ hk => hk.2) (.slice Ao167 t480.length co167)) (fun _ hk => hk.2) (.slice Ao172 t483.length co172)) (fun _ hk => ⟨hk.1.1.2, hk.1.2⟩)⟩
       have n11_ : Aside0 (((w166.setCell ⟨gb490, 0, none⟩ (.slice Ao167 t480.length co167)).setCell ⟨gb490, 1, none⟩ (.slice Ao172 t483.length co172)).heap[gb456]? = some (.cells #[.slice Ao7 t450.length co7, .slice Ao9 t453.length co9] 27 (0, 0))) := ⟨by (with_reducible repeat (first | refine blk_drewN ?_ _ | refine blk_drew ?_ | refine blk_alloc ?_ _)); refine blk_far ?_ NB456_490.out _; (with_reducible repeat (first | refine blk_drewN ?_ _ | refine blk_drew ?_ | refine blk_alloc ?_ _)); refine blk_far ?_ NB456_490.out _; (with_reducible repeat (first | refine blk_drewN ?_ _ | refine blk_drew ?_ | refine blk_alloc ?_ _)); exact BK456.out⟩
       have n12_ : Aside0 (((w166.setCell ⟨gb490, 0, none⟩ (.slice Ao167 t480.length co167)).setCell ⟨gb490, 1, none⟩ (.slice Ao172 t483.length co172)).heap[gb472]? = some (.cells #[.slice Ao152 t466.length co152, .slice Ao155 t469.length co155] 27 (0, 0))) := ⟨by (with_reducible repeat (first | refine blk_drewN ?_ _ | refine blk_drew ?_ | refine blk_alloc ?_ _)); refine blk_far ?_ NB472_490.out _; (with_reducible repeat (first | refine blk_drewN ?_ _ | refine blk_drew ?_ | refine blk_alloc ?_ _)); refine blk_far ?_ NB472_490.out _; (with_reducible repeat (first | refine blk_drewN ?_ _ | refine blk_drew ?_ | refine blk_alloc ?_ _)); exact BK472.out⟩
       have n13_ : Aside0 (((w166.setCell ⟨gb490, 0, none⟩ (.slice Ao167 t480.length co167)).setCell ⟨gb490, 1, none⟩ (.slice Ao172 t483.length co172)).heap[gb479]? = some (.cells #[.slice Ao160 t473.length co160, .slice Ao164 t476.length co164] 27 (0, 0))) := ⟨by (with_reducible repeat (first | refine blk_drewN ?_ _ | refine blk_drew ?_ | refine blk_alloc ?_ _)); refine blk_far ?_ NB479_490.out _; (with_reducible repeat (first | refine blk_drewN ?_ _ | refine blk_drew ?_ | refine blk_alloc ?_ _)); refine blk_far ?_ NB479_490.out _; (with_reducible repeat (first | refine blk_drewN ?_ _ | refine blk_drew ?_ | refine blk_alloc ?_ _)); exact BK479.out⟩
       have n14_ : Aside0 (((w166.setCell ⟨gb490, 0, none⟩ (.slice Ao167 t480.length co167)).setCell ⟨gb490, 1, none⟩ (.slice Ao172 t483.length co172)).heap[gb490]? = some (.cells #[.slice Ao167 t480.length co167, .slice Ao172 t483.length co172] 27 (0, 0))) := ⟨by (with_reducible repeat (first | refine blk_drewN ?_ _ | refine blk_drew ?_ | refine blk_alloc ?_ _)); refine blk_put (cs := #[.slice Ao167 t480.length co167, .slice none 0 0]) ?_ 1 _ rfl; (with_reducible repeat (first | refine blk_drewN ?_ _ | refine blk_drew ?_ | refine blk_alloc ?_ _)); refine blk_put (cs := #[.slice none 0 0, .slice none 0 0]) ?_ 0 _ rfl; (with_reducible repeat (first | refine blk_drewN ?_ _ | refine blk_drew ?_ | refine blk_alloc ?_ _)); exact BK490.out⟩
       have n15_ : Aside0 (Below w.heap.size w ((w166.setCell ⟨gb490, 0, none⟩ (.slice Ao167 t480.length co167)).setCell ⟨gb490, 1, none⟩ (.slice Ao172 t483.length co172))) := ⟨by exact lT HB (gC GE456 (gC GE472 (gC GE479 (gC GE490 gN))))⟩
       (try clear HO_4)
       (try clear HO_457000)
       (try clear HO_457001)
       (try clear HO465)
       (try clear HO468)
       (try clear HO471)
       (try clear HO475)
       (try clear HO478)
       (try clear HO482)
       (try clear HO485)
       (try clear HO488)
       (try clear BK456)
       (try clear BK472)
       (try clear BK479)
       (try clear BK490)
       (try clear HB)
       generalize ((w166.setCell ⟨gb490, 0, none⟩ (.slice Ao167 t480.length co167)).setCell ⟨gb490, 1, none⟩ (.slice Ao172 t483.length co172)) = w173 at n0_ n1_ n2_ n3_ n4_ n5_ n6_ n7_ n8_ n9_ n10_ n11_ n12_ n13_ n14_ n15_ ⊢
       have HO_4 := n0_
       have HO_457000 := n1_
       have HO_457001 := n2_
       have HO465 := n3_
       have HO468 := n4_
       have HO471 := n5_
       have HO475 := n6_
       have HO478 := n7_
       have HO482 := n8_
       have HO485 := n9_
       have HO488 := n10_
       have BK456 := n11_
       have BK472 := n12_
       have BK479 := n13_
       have BK490 := n14_
       have HB := n15_
       clear n0_ n1_ n2_ n3_ n4_ n5_ n6_ n7_ n8_ n9_ n10_ n11_ n12_ n13_ n14_ n15_
       replace HO_4 := ak (Kd.R_drew HO_4.out)
       replace HO_457000 := ak (Kd.R_drew HO_457000.out)
       replace HO_457001 := ak (Kd.R_drew HO_457001.out)
       replace HO465 := ak (Kd.R_drew HO465.out)
       replace HO468 := ak (Kd.R_drew HO468.out)
       replace HO471 := ak (Kd.R_drew HO471.out)
       replace HO475 := ak (Kd.R_drew HO475.out)
       replace HO478 := ak (Kd.R_drew HO478.out)
       replace HO482 := ak (Kd.R_drew HO482.out)
       replace HO485 := ak (Kd.R_drew HO485.out)
       replace HO488 := ak (Kd.R_drew HO488.out)
       replace BK456 := ak (blk_drew BK456.out)
       replace BK472 := ak (blk_drew BK472.out)
       replace BK479 := ak (blk_drew BK479.out)
       replace BK490 := ak (blk_drew BK490.out)
       replace HB := ak (below_drew1 HB.out)
       refine start_ (n := 33) (S := fun w' => w'.cell? ⟨gb472, 0, none⟩ = some (.slice Ao152 t466.length co152) ∧ w'.cell? ⟨gb472, 1, none⟩ = some (.slice Ao155 t469.length co155) ∧ w'.cell? ⟨gb456, 0, none⟩ = some (.slice Ao7 t450.length co7) ∧ w'.cell? ⟨gb456, 1, none⟩ = some (.slice Ao9 t453.length co9)) (ds := []) #[f_,f_,f_,f_,f_,f_,f_,f_,f_,f_,f_,f_,f_,f_,f_,f_,f_,f_,f_,f_,f_,f_,f_,f_,f_,f_,f_,f_,f_,f_,f_,f_,f_] (by kernel_rfl) rfl rfl ⟨(blk_cell BK472.out 0).trans rfl, (blk_cell BK472.out 1).trans rfl, (blk_cell BK456.out 0).trans rfl, (blk_cell BK456.out 1).trans rfl⟩ (fun hHeld => ?_); refine with_tabW laws_FnCrashes.tab12 laws_FnCrashes.bits12 (fun HT_ HW_ => ?_)
       generalize w173.drew = w174 at HO_4 HO_457000 HO_457001 HO465 HO468 HO471 HO475 HO478 HO482 HO485 HO488 BK456 BK472 BK479 BK490 HB hHeld ⊢
       refine pu 0 38 #[t_,f_,f_,f_,f_,f_,f_,f_,f_,f_,f_,f_,f_,f_,f_,f_,f_,f_,f_,f_,f_,f_,f_,f_,f_,f_,f_,f_,f_,f_,f_,f_,f_] HT_ ?_
       refine pu 2 40 #[t_,f_,t_,f_,f_,f_,f_,f_,f_,f_,f_,f_,f_,f_,f_,f_,f_,f_,f_,f_,f_,f_,f_,f_,f_,f_,f_,f_,f_,f_,f_,f_,f_] HT_ ?_
       refine tk 1 39 #[t_,t_,t_,f_,f_,f_,f_,f_,f_,f_,f_,f_,f_,f_,f_,f_,f_,f_,f_,f_,f_,f_,f_,f_,f_,f_,f_,f_,f_,f_,f_,f_,f_] HT_ HW_ hHeld ?_
       refine tk 3 41 #[t_,t_,t_,t_,f_,f_,f_,f_,f_,f_,f_,f_,f_,f_,f_,f_,f_,f_,f_,f_,f_,f_,f_,f_,f_,f_,f_,f_,f_,f_,f_,f_,f_] HT_ HW_ hHeld ?_
       refine on 4 (some 42) #[t_,t_,t_,t_,t_,f_,f_,f_,f_,f_,f_,f_,f_,f_,f_,f_,f_,f_,f_,f_,f_,f_,f_,f_,f_,f_,f_,f_,f_,f_,f_,f_,f_] HT_ (fun K hK => ?_)
       refine goes_ Try.func19 (by kernel_rfl) rfl #[.slice Ao152 t466.length co152, .slice Ao7 t450.length co7] (by rfl) rfl rfl (by (try simp only [List.map_toArray, List.map_cons, List.map_nil]); first | done | rfl | (simp only [List.length_drop, List.length_take]; rfl)) ?_
       with_reducible refine (laws_sameTexts.calls k1 _ _ t466 _ _ t450 true _ ?side1 ?side2 ?side3 ?side4 A19.out).mono ?_
       (case side1 => exact cG (Kd.R_reads' HO468.out).2.2)
       (case side2 => exact (Kd.R_reads' HO468.out).2.1)
       (case side3 => exact cG (Kd.R_reads' HO_457000.out).2.2)
       (case side4 => exact (Kd.R_reads' HO_457000.out).2.1)
       rintro e w' ⟨rfl, ⟨nd, rfl⟩⟩
       refine ⟨_, rfl, ?_⟩
       refine hK.out _ _ ⟨(blk_cell BK472.out 0).trans rfl, (blk_cell BK472.out 1).trans rfl, (blk_cell BK456.out 0).trans rfl, (blk_cell BK456.out 1).trans rfl⟩ (fun hHeld => ?_)
       clear hK K
       refine nm ?_
       refine pu 5 43 #[t_,t_,t_,t_,t_,t_,f_,f_,f_,f_,f_,f_,f_,f_,f_,f_,f_,f_,f_,f_,f_,f_,f_,f_,f_,f_,f_,f_,f_,f_,f_,f_,f_] HT_ ?_
       refine pu 6 44 #[t_,t_,t_,t_,t_,t_,t_,f_,f_,f_,f_,f_,f_,f_,f_,f_,f_,f_,f_,f_,f_,f_,f_,f_,f_,f_,f_,f_,f_,f_,f_,f_,f_] HT_ ?_
       refine tk 7 45 #[t_,t_,t_,t_,t_,t_,t_,t_,f_,f_,f_,f_,f_,f_,f_,f_,f_,f_,f_,f_,f_,f_,f_,f_,f_,f_,f_,f_,f_,f_,f_,f_,f_] HT_ HW_ hHeld ?_
       refine pu 8 46 #[t_,t_,t_,t_,t_,t_,t_,t_,t_,f_,f_,f_,f_,f_,f_,f_,f_,f_,f_,f_,f_,f_,f_,f_,f_,f_,f_,f_,f_,f_,f_,f_,f_] HT_ ?_
       refine pu 9 47 #[t_,t_,t_,t_,t_,t_,t_,t_,t_,t_,f_,f_,f_,f_,f_,f_,f_,f_,f_,f_,f_,f_,f_,f_,f_,f_,f_,f_,f_,f_,f_,f_,f_] HT_ ?_
       refine pu 10 48 #[t_,t_,t_,t_,t_,t_,t_,t_,t_,t_,t_,f_,f_,f_,f_,f_,f_,f_,f_,f_,f_,f_,f_,f_,f_,f_,f_,f_,f_,f_,f_,f_,f_] HT_ ?_
       refine pu 11 49 #[t_,t_,t_,t_,t_,t_,t_,t_,t_,t_,t_,t_,f_,f_,f_,f_,f_,f_,f_,f_,f_,f_,f_,f_,f_,f_,f_,f_,f_,f_,f_,f_,f_] HT_ ?_
       refine pn 12 50 #[t_,t_,t_,t_,t_,t_,t_,t_,t_,t_,t_,t_,t_,f_,f_,f_,f_,f_,f_,f_,f_,f_,f_,f_,f_,f_,f_,f_,f_,f_,f_,f_,f_] HT_ ?_
       refine pn 13 51 #[t_,t_,t_,t_,t_,t_,t_,t_,t_,t_,t_,t_,t_,t_,f_,f_,f_,f_,f_,f_,f_,f_,f_,f_,f_,f_,f_,f_,f_,f_,f_,f_,f_] HT_ ?_
       refine pn 14 52 #[t_,t_,t_,t_,t_,t_,t_,t_,t_,t_,t_,t_,t_,t_,t_,f_,f_,f_,f_,f_,f_,f_,f_,f_,f_,f_,f_,f_,f_,f_,f_,f_,f_] HT_ ?_
       refine pn 15 53 #[t_,t_,t_,t_,t_,t_,t_,t_,t_,t_,t_,t_,t_,t_,t_,t_,f_,f_,f_,f_,f_,f_,f_,f_,f_,f_,f_,f_,f_,f_,f_,f_,f_] HT_ ?_
       refine pu 16 54 #[t_,t_,t_,t_,t_,t_,t_,t_,t_,t_,t_,t_,t_,t_,t_,t_,t_,f_,f_,f_,f_,f_,f_,f_,f_,f_,f_,f_,f_,f_,f_,f_,f_] HT_ ?_
       refine pu 17 55 #[t_,t_,t_,t_,t_,t_,t_,t_,t_,t_,t_,t_,t_,t_,t_,t_,t_,t_,f_,f_,f_,f_,f_,f_,f_,f_,f_,f_,f_,f_,f_,f_,f_] HT_ ?_
       refine pn 18 56 #[t_,t_,t_,t_,t_,t_,t_,t_,t_,t_,t_,t_,t_,t_,t_,t_,t_,t_,t_,f_,f_,f_,f_,f_,f_,f_,f_,f_,f_,f_,f_,f_,f_] HT_ ?_
       refine pn 19 57 #[t_,t_,t_,t_,t_,t_,t_,t_,t_,t_,t_,t_,t_,t_,t_,t_,t_,t_,t_,t_,f_,f_,f_,f_,f_,f_,f_,f_,f_,f_,f_,f_,f_] HT_ ?_
       refine pn 20 58 #[t_,t_,t_,t_,t_,t_,t_,t_,t_,t_,t_,t_,t_,t_,t_,t_,t_,t_,t_,t_,t_,f_,f_,f_,f_,f_,f_,f_,f_,f_,f_,f_,f_] HT_ ?_
       refine pn 21 59 #[t_,t_,t_,t_,t_,t_,t_,t_,t_,t_,t_,t_,t_,t_,t_,t_,t_,t_,t_,t_,t_,t_,f_,f_,f_,f_,f_,f_,f_,f_,f_,f_,f_] HT_ ?_
       refine pn 22 60 #[t_,t_,t_,t_,t_,t_,t_,t_,t_,t_,t_,t_,t_,t_,t_,t_,t_,t_,t_,t_,t_,t_,t_,f_,f_,f_,f_,f_,f_,f_,f_,f_,f_] HT_ ?_
       refine pn 23 61 #[t_,t_,t_,t_,t_,t_,t_,t_,t_,t_,t_,t_,t_,t_,t_,t_,t_,t_,t_,t_,t_,t_,t_,t_,f_,f_,f_,f_,f_,f_,f_,f_,f_] HT_ ?_
       refine pn 24 62 #[t_,t_,t_,t_,t_,t_,t_,t_,t_,t_,t_,t_,t_,t_,t_,t_,t_,t_,t_,t_,t_,t_,t_,t_,t_,f_,f_,f_,f_,f_,f_,f_,f_] HT_ ?_
       refine pn 25 63 #[t_,t_,t_,t_,t_,t_,t_,t_,t_,t_,t_,t_,t_,t_,t_,t_,t_,t_,t_,t_,t_,t_,t_,t_,t_,t_,f_,f_,f_,f_,f_,f_,f_] HT_ ?_
       refine pn 26 64 #[t_,t_,t_,t_,t_,t_,t_,t_,t_,t_,t_,t_,t_,t_,t_,t_,t_,t_,t_,t_,t_,t_,t_,t_,t_,t_,t_,f_,f_,f_,f_,f_,f_] HT_ ?_
       refine pu 27 65 #[t_,t_,t_,t_,t_,t_,t_,t_,t_,t_,t_,t_,t_,t_,t_,t_,t_,t_,t_,t_,t_,t_,t_,t_,t_,t_,t_,t_,f_,f_,f_,f_,f_] HT_ ?_
       refine pu 28 66 #[t_,t_,t_,t_,t_,t_,t_,t_,t_,t_,t_,t_,t_,t_,t_,t_,t_,t_,t_,t_,t_,t_,t_,t_,t_,t_,t_,t_,t_,f_,f_,f_,f_] HT_ ?_
       refine pn 29 67 #[t_,t_,t_,t_,t_,t_,t_,t_,t_,t_,t_,t_,t_,t_,t_,t_,t_,t_,t_,t_,t_,t_,t_,t_,t_,t_,t_,t_,t_,t_,f_,f_,f_] HT_ ?_
       refine pn 30 68 #[t_,t_,t_,t_,t_,t_,t_,t_,t_,t_,t_,t_,t_,t_,t_,t_,t_,t_,t_,t_,t_,t_,t_,t_,t_,t_,t_,t_,t_,t_,t_,f_,f_] HT_ ?_
       refine pu 31 69 #[t_,t_,t_,t_,t_,t_,t_,t_,t_,t_,t_,t_,t_,t_,t_,t_,t_,t_,t_,t_,t_,t_,t_,t_,t_,t_,t_,t_,t_,t_,t_,t_,f_] HT_ ?_
       refine pu 32 2 #[t_,t_,t_,t_,t_,t_,t_,t_,t_,t_,t_,t_,t_,t_,t_,t_,t_,t_,t_,t_,t_,t_,t_,t_,t_,t_,t_,t_,t_,t_,t_,t_,t_] HT_ ?_
       refine done_ (done_of HT_.out (by kernel_rfl)) ?_
       try go_wp2
       go_ret
       exact ⟨by first | rfl | (simp [errW_none, errW_some] <;> rfl) | (simp [*, errW_none, errW_some] <;> rfl), by exact lT HB (gC GE456 (gC GE472 (gC GE479 (gC GE490 gN))))⟩
     ·replace c20 := Bool.eq_false_iff.mpr c20
      subst c20
      have H1 : (some false) = some r := by rw [if_neg (show ¬ (false = true) by decide)] at H; exact H
      clear H
      have H := H1
      clear H1
      obtain rfl := Option.some.inj H
      have hcz175_0 : wr.cell? ⟨gb456, 0, none⟩ = some (.slice Ao7 t450.length co7) := (blk_cell BK456.out 0).trans rfl
      have hcz175_1 : wr.cell? ⟨gb456, 1, none⟩ = some (.slice Ao9 t453.length co9) := (blk_cell BK456.out 1).trans rfl
      have hfz175_0 := blk_frozen BK456.out 0
      have hfz175_1 := blk_frozen BK456.out 1
      try go_wp2_with (first | ((with_reducible refine gate_dst (N := 27) rfl ?_); (try (refine gate_guard (by rfl) ?_; dsimp only)); refine Kd.R_lit (Kd.int .i64) _ 3 ?hg (N := 27) ?hd (xs := ([] : List Int)) (inner := []) (ok := fun _ => True) (okp := fun _ => True) ?hr ?hp (fun _ hk => hk) trivial (Below.refl _ _) (Nat.le_refl _) (by simp) ?_; (case hd => rfl); (case hg => rfl); (case hr => first | (go_simp; done) | (go_simp; rfl)); (case hp => exact (Reps.none _ _)); intro v464 w176 ho177 hb hg_ hnew_; clear hg_ hnew_; (first | rw [← Ny463.out] at ho177 | (simp only [Int.reduceToNat] at ho177; rw [← Ny463.out] at ho177)); replace HO_457000 := rB HO_457000 hb; replace HO_457001 := rB HO_457001 hb; replace HO465 := ak (Kd.R_lower (Kd.R_new' ho177 (Kd.R_lt (rG HO_4))) (below_size (lT HB (gC GE456 gN)))); replace HO_4 := ak (Kd.R_elder' (rG HO_4) (Kd.R_base ho177) hb); replace BK456 := bB BK456 hb; replace HB := ak (below_step (lT HB (gC GE456 gN)) hb); clear hb ho177; obtain ⟨Ao178, co178, eo178⟩ := Kd.R_slice HO465.out; subst eo178) | ((with_reducible refine gate_callee (f := 17) rfl ?_); refine gl (some 28) Try.func17 #[.agg #[.slice Ao7 t450.length co7, .slice Ao9 t453.length co9], .slice Ao178 y463.length co178, .int .i64 5] ?_; (with_reducible refine (impl_CrashDisk.calls k1 _ _ t450 _ _ t453 _ _ y463 5 t466 t469 _ ?side1 ?side2 ?side3 ?side4 ?side5 ?side6 A16.out).mono ?_); (case side1 => exact cG (Kd.R_reads' HO_457000.out).2.2); (case side2 => exact (Kd.R_reads' HO_457000.out).2.1); (case side3 => exact cG (Kd.R_reads' HO_457001.out).2.2); (case side4 => exact (Kd.R_reads' HO_457001.out).2.1); (case side5 => exact cG (Kd.R_reads' HO465.out).2.2); (case side6 => exact (Kd.R_reads' HO465.out).2.1); rintro e w179 ⟨v467, v470, rfl, ho0, ho1, hb⟩; refine ⟨_, rfl, ?_⟩; replace HO_4 := rB HO_4 hb; replace HO465 := rB HO465 hb; replace HO468 := ak (Kd.R_lower (Kd.R_new' ho0 (Kd.R_lt (rG HO_457000))) (below_size (lT HB (gC GE456 gN)))); replace HO_457000 := ak (Kd.R_elder' (rG HO_457000) (Kd.R_base ho0) hb); replace HO471 := ak (Kd.R_lower (Kd.R_new' ho1 (Kd.R_lt (rG HO_457001))) (below_size (lT HB (gC GE456 gN)))); replace HO_457001 := ak (Kd.R_elder' (rG HO_457001) (Kd.R_base ho1) hb); replace BK456 := bB BK456 hb; replace HB := ak (below_step (lT HB (gC GE456 gN)) hb); (try clear hb); (try clear hk); (try clear ho0); (try clear ho1)) | ((with_reducible refine gate_dst (N := 6) rfl ?_); (try (refine gate_guard (by rfl) ?_; dsimp only)); refine bx 6 #[.slice none 0 0, .slice none 0 0] 27 ?_; intro gb472 hg w180 hbox hb; replace HO_4 := rB HO_4 hb; replace HO_457000 := rB HO_457000 hb; replace HO_457001 := rB HO_457001 hb; replace HO465 := rB HO465 hb; replace HO468 := rB HO468 hb; replace HO471 := rB HO471 hb; replace BK472 := ak (hbox); replace GW472 := ak (bz hg (lT HB (gC GE456 gN))); replace GE472 := ak (bz hg (lT HB (gC GE456 gN))); replace HB := ak (below_step (lT HB (gC GE456 gN)) hb); replace NB456_472 := ak (nl hg (bG BK456)); replace NB472_456 := ak (ng hg (bG BK456)); replace BK456 := bB BK456 hb; clear hb hbox hg; obtain ⟨Ao181, co181, eo181⟩ := Kd.R_slice HO468.out; subst eo181; have hnb182 := NB472_456.out; have hnc182 := NB456_472.out; obtain ⟨hcz183_0, hcz183_1, hfz183_0, hfz183_1⟩ := bC2 BK472; obtain ⟨Ao184, co184, eo184⟩ := Kd.R_slice HO471.out; subst eo184; obtain ⟨hcz185_0, hcz185_1, hfz185_0, hfz185_1⟩ := bC2 BK456; obtain ⟨Ao186, co186, eo186⟩ := Kd.R_slice HO_4.out; subst eo186) | ((with_reducible refine gate_callee (f := 17) rfl ?_); refine gl (some 31) Try.func17 #[.agg #[.slice Ao7 t450.length co7, .slice Ao9 t453.length co9], .slice Ao186 x4_1.length co186, .int .i64 32] ?_; (with_reducible refine (impl_CrashDisk.calls k1 _ _ t450 _ _ t453 _ _ x4_1 32 t473 t476 _ ?side1 ?side2 ?side3 ?side4 ?side5 ?side6 A17.out).mono ?_); (case side1 => exact (Kd.R_reads' (rT HO_457000 BK472 (by decide))).2.2); (case side2 => exact (Kd.R_reads' HO_457000.out).2.1); (case side3 => exact (Kd.R_reads' (rT HO_457001 BK472 (by decide))).2.2); (case side4 => exact (Kd.R_reads' HO_457001.out).2.1); (case side5 => exact (Kd.R_reads' (rT HO_4 BK472 (by decide))).2.2); (case side6 => exact (Kd.R_reads' HO_4.out).2.1); rintro e w187 ⟨v474, v477, rfl, ho0, ho1, hb⟩; refine ⟨_, rfl, ?_⟩; replace HO_4 := ak (Kd.R_below (rT HO_4 BK472 (by decide)) hb); replace HO465 := ak (Kd.R_below (rT HO465 BK472 (by decide)) hb); replace HO475 := ak (Kd.R_lower (Kd.R_new' (Kd.R_new' ho0 (Kd.R_lt (rT HO_457000 BK472 (by decide)))) (Kd.R_lt (rT HO468 BK472 (by decide)))) (below_size (lT HB (gC GE456 (gC GE472 gN))))); replace HO_457000 := ak (Kd.R_elder' (rT HO_457000 BK472 (by decide)) (Kd.R_base ho0) hb); replace HO468 := ak (Kd.R_elder' (rT HO468 BK472 (by decide)) (Kd.R_base ho0) hb); replace HO478 := ak (Kd.R_lower (Kd.R_new' (Kd.R_new' ho1 (Kd.R_lt (rT HO_457001 BK472 (by decide)))) (Kd.R_lt (rT HO471 BK472 (by decide)))) (below_size (lT HB (gC GE456 (gC GE472 gN))))); replace HO_457001 := ak (Kd.R_elder' (rT HO_457001 BK472 (by decide)) (Kd.R_base ho1) hb); replace HO471 := ak (Kd.R_elder' (rT HO471 BK472 (by decide)) (Kd.R_base ho1) hb); replace BK456 := ak (blk_below (bT BK456 (nC NB456_472 nN)) hb); replace BK472 := ak (blk_below (g := gb472) (o := .cells #[.slice Ao181 t466.length co181, .slice Ao184 t469.length co184] 27 (0, 0)) (by (with_reducible repeat (first | refine blk_drewN ?_ _ | refine blk_drew ?_ | refine blk_alloc ?_ _)); refine blk_put (cs := #[.slice Ao181 t466.length co181, .slice none 0 0]) ?_ 1 _ rfl; (with_reducible repeat (first | refine blk_drewN ?_ _ | refine blk_drew ?_ | refine blk_alloc ?_ _)); refine blk_put (cs := #[.slice none 0 0, .slice none 0 0]) ?_ 0 _ rfl; (with_reducible repeat (first | refine blk_drewN ?_ _ | refine blk_drew ?_ | refine blk_alloc ?_ _)); exact BK472.out) hb); replace HB := ak (below_step (lT HB (gC GE456 (gC GE472 gN))) hb); (try clear hb); (try clear hk); (try clear ho0); (try clear ho1)) | ((with_reducible refine gate_dst (N := 7) rfl ?_); (try (refine gate_guard (by rfl) ?_; dsimp only)); refine bx 7 #[.slice none 0 0, .slice none 0 0] 27 ?_; intro gb479 hg w188 hbox hb; replace HO_4 := rB HO_4 hb; replace HO_457000 := rB HO_457000 hb; replace HO_457001 := rB HO_457001 hb; replace HO465 := rB HO465 hb; replace HO468 := rB HO468 hb; replace HO471 := rB HO471 hb; replace HO475 := rB HO475 hb; replace HO478 := rB HO478 hb; replace BK479 := ak (hbox); replace GW479 := ak (bz hg (lT HB (gC GE456 (gC GE472 gN)))); replace GE479 := ak (bz hg (lT HB (gC GE456 (gC GE472 gN)))); replace HB := ak (below_step (lT HB (gC GE456 (gC GE472 gN))) hb); replace NB456_479 := ak (nl hg (bG BK456)); replace NB479_456 := ak (ng hg (bG BK456)); replace BK456 := bB BK456 hb; replace NB472_479 := ak (nl hg (bG BK472)); replace NB479_472 := ak (ng hg (bG BK472)); replace BK472 := bB BK472 hb; clear hb hbox hg; obtain ⟨Ao189, co189, eo189⟩ := Kd.R_slice HO475.out; subst eo189; have hnb190 := NB479_456.out; have hnc190 := NB456_479.out; have hnb191 := NB479_472.out; have hnc191 := NB472_479.out; obtain ⟨hcz192_0, hcz192_1, hfz192_0, hfz192_1⟩ := bC2 BK479; obtain ⟨Ao193, co193, eo193⟩ := Kd.R_slice HO478.out; subst eo193) | ((with_reducible refine gate_callee (f := 18) rfl ?_); refine gl (some 34) Try.func18 #[.slice A0 l0.length c0] ?_; (with_reducible refine (spec_DrawCrashDisk.calls k1 _ _ l0 t480 t483 t486 t489 _ ?side1 ?side2 A18.out).mono ?_); (case side1 => exact Kd.C_below HR0.out (lT HB (gC GE456 (gC GE472 (gC GE479 gN))))); (case side2 => exact HC0.out); rintro e w194 ⟨v481, v484, v487, rfl, ho0, ho1, ho2, hb⟩; refine ⟨_, rfl, ?_⟩; replace HO482 := ak (Kd.R_lower (Kd.R_new' (Kd.R_new' (Kd.R_new' ho0 (Kd.R_lt (rT HO_457000 BK479 (by decide)))) (Kd.R_lt (rT HO468 BK479 (by decide)))) (Kd.R_lt (rT HO475 BK479 (by decide)))) (below_size (lT HB (gC GE456 (gC GE472 (gC GE479 gN)))))); replace HO_457000 := ak (Kd.R_elder' (rT HO_457000 BK479 (by decide)) (Kd.R_base ho0) hb); replace HO468 := ak (Kd.R_elder' (rT HO468 BK479 (by decide)) (Kd.R_base ho0) hb); replace HO475 := ak (Kd.R_elder' (rT HO475 BK479 (by decide)) (Kd.R_base ho0) hb); replace HO485 := ak (Kd.R_lower (Kd.R_new' (Kd.R_new' (Kd.R_new' ho1 (Kd.R_lt (rT HO_457001 BK479 (by decide)))) (Kd.R_lt (rT HO471 BK479 (by decide)))) (Kd.R_lt (rT HO478 BK479 (by decide)))) (below_size (lT HB (gC GE456 (gC GE472 (gC GE479 gN)))))); replace HO_457001 := ak (Kd.R_elder' (rT HO_457001 BK479 (by decide)) (Kd.R_base ho1) hb); replace HO471 := ak (Kd.R_elder' (rT HO471 BK479 (by decide)) (Kd.R_base ho1) hb); replace HO478 := ak (Kd.R_elder' (rT HO478 BK479 (by decide)) (Kd.R_base ho1) hb); replace HO488 := ak (Kd.R_lower (Kd.R_new' (Kd.R_new' ho2 (Kd.R_lt (rT HO_4 BK479 (by decide)))) (Kd.R_lt (rT HO465 BK479 (by decide)))) (below_size (lT HB (gC GE456 (gC GE472 (gC GE479 gN)))))); replace HO_4 := ak (Kd.R_elder' (rT HO_4 BK479 (by decide)) (Kd.R_base ho2) hb); replace HO465 := ak (Kd.R_elder' (rT HO465 BK479 (by decide)) (Kd.R_base ho2) hb); replace BK456 := ak (blk_below (bT BK456 (nC NB456_479 nN)) hb); replace BK472 := ak (blk_below (bT BK472 (nC NB472_479 nN)) hb); replace BK479 := ak (blk_below (g := gb479) (o := .cells #[.slice Ao189 t473.length co189, .slice Ao193 t476.length co193] 27 (0, 0)) (by (with_reducible repeat (first | refine blk_drewN ?_ _ | refine blk_drew ?_ | refine blk_alloc ?_ _)); refine blk_put (cs := #[.slice Ao189 t473.length co189, .slice none 0 0]) ?_ 1 _ rfl; (with_reducible repeat (first | refine blk_drewN ?_ _ | refine blk_drew ?_ | refine blk_alloc ?_ _)); refine blk_put (cs := #[.slice none 0 0, .slice none 0 0]) ?_ 0 _ rfl; (with_reducible repeat (first | refine blk_drewN ?_ _ | refine blk_drew ?_ | refine blk_alloc ?_ _)); exact BK479.out) hb); replace HB := ak (below_step (lT HB (gC GE456 (gC GE472 (gC GE479 gN)))) hb); (try clear hb); (try clear hk); (try clear ho0); (try clear ho1); (try clear ho2)) | ((with_reducible refine gate_dst (N := 8) rfl ?_); (try (refine gate_guard (by rfl) ?_; dsimp only)); refine bx 8 #[.slice none 0 0, .slice none 0 0] 27 ?_; intro gb490 hg w195 hbox hb; replace HO_4 := rB HO_4 hb; replace HO_457000 := rB HO_457000 hb; replace HO_457001 := rB HO_457001 hb; replace HO465 := rB HO465 hb; replace HO468 := rB HO468 hb; replace HO471 := rB HO471 hb; replace HO475 := rB HO475 hb; replace HO478 := rB HO478 hb; replace HO482 := rB HO482 hb; replace HO485 := rB HO485 hb; replace HO488 := rB HO488 hb; replace BK490 := ak (hbox); replace GW490 := ak (bz hg (lT HB (gC GE456 (gC GE472 (gC GE479 gN))))); replace GE490 := ak (bz hg (lT HB (gC GE456 (gC GE472 (gC GE479 gN))))); replace HB := ak (below_step (lT HB (gC GE456 (gC GE472 (gC GE479 gN)))) hb); replace NB456_490 := ak (nl hg (bG BK456)); replace NB490_456 := ak (ng hg (bG BK456)); replace BK456 := bB BK456 hb; replace NB472_490 := ak (nl hg (bG BK472)); replace NB490_472 := ak (ng hg (bG BK472)); replace BK472 := bB BK472 hb; replace NB479_490 := ak (nl hg (bG BK479)); replace NB490_479 := ak (ng hg (bG BK479)); replace BK479 := bB BK479 hb; clear hb hbox hg; obtain ⟨Ao196, co196, eo196⟩ := Kd.R_slice HO482.out; subst eo196; have hnb197 := NB490_456.out; have hnc197 := NB456_490.out; have hnb198 := NB490_472.out; have hnc198 := NB472_490.out; have hnb199 := NB490_479.out; have hnc199 := NB479_490.out; obtain ⟨hcz200_0, hcz200_1, hfz200_0, hfz200_1⟩ := bC2 BK490; obtain ⟨Ao201, co201, eo201⟩ := Kd.R_slice HO485.out; subst eo201))
      have n0_ : Aside0 (Kd.R (Kd.int .i64) 3 ((w195.setCell ⟨gb490, 0, none⟩ (.slice Ao196 t480.length co196)).setCell ⟨gb490, 1, none⟩ (.slice Ao201 t483.length co201)) w.heap.size (fun k_ => some k_ ≠ (.slice Ao178 y463.length co178 : Value).ownBlock ∧ some k_ ≠ (v487 : Value).ownBlock) (.slice Ao186 x4_1.length co186) x4_1) := ⟨by (with_reducible repeat (first | apply Kd.R_alloc | apply Kd.R_drewN | apply Kd.R_drew)); exact Kd.R_mono (Kd.R_far (p := ⟨gb490, 1, none⟩) (Kd.R_far (p := ⟨gb490, 0, none⟩) (Kd.R_types HO_4.out BK490.out (by decide)) (fun _ hk => hk.2) (.slice Ao196 t480.length co196)) (fun _ hk => hk.2) (.slice Ao201 t483.length co201)) (fun _ hk => ⟨hk.1.1.2, hk.1.2⟩)⟩
      have n1_ : Aside0 (Kd.R Kd.string 9 ((w195.setCell ⟨gb490, 0, none⟩ (.slice Ao196 t480.length co196)).setCell ⟨gb490, 1, none⟩ (.slice Ao201 t483.length co201)) w.heap.size (fun k_ => some k_ ≠ (.slice Ao181 t466.length co181 : Value).ownBlock ∧ some k_ ≠ (.slice Ao189 t473.length co189 : Value).ownBlock ∧ some k_ ≠ (.slice Ao196 t480.length co196 : Value).ownBlock) (.slice Ao7 t450.length co7) t450) := ⟨by (with_reducible repeat (first | apply Kd.R_alloc | apply Kd.R_drewN | apply Kd.R_drew)); exact Kd.R_mono (Kd.R_far (p := ⟨gb490, 1, none⟩) (Kd.R_far (p := ⟨gb490, 0, none⟩) (Kd.R_types HO_457000.out BK490.out (by decide)) (fun _ hk => hk.2) (.slice Ao196 t480.length co196)) (fun _ hk => hk.2) (.slice Ao201 t483.length co201)) (fun _ hk => ⟨hk.1.1.1.2, ⟨hk.1.1.2, hk.1.2⟩⟩)⟩
      have n2_ : Aside0 (Kd.R k63 63 ((w195.setCell ⟨gb490, 0, none⟩ (.slice Ao196 t480.length co196)).setCell ⟨gb490, 1, none⟩ (.slice Ao201 t483.length co201)) w.heap.size (fun k_ => some k_ ≠ (.slice Ao184 t469.length co184 : Value).ownBlock ∧ some k_ ≠ (.slice Ao193 t476.length co193 : Value).ownBlock ∧ some k_ ≠ (.slice Ao201 t483.length co201 : Value).ownBlock) (.slice Ao9 t453.length co9) t453) := ⟨by (with_reducible repeat (first | apply Kd.R_alloc | apply Kd.R_drewN | apply Kd.R_drew)); exact Kd.R_mono (Kd.R_far (p := ⟨gb490, 1, none⟩) (Kd.R_far (p := ⟨gb490, 0, none⟩) (Kd.R_types HO_457001.out BK490.out (by decide)) (fun _ hk => hk.2) (.slice Ao196 t480.length co196)) (fun _ hk => hk.2) (.slice Ao201 t483.length co201)) (fun _ hk => ⟨hk.1.1.1.2, ⟨hk.1.1.2, hk.1.2⟩⟩)⟩
      have n3_ : Aside0 (Kd.R (Kd.int .i64) 3 ((w195.setCell ⟨gb490, 0, none⟩ (.slice Ao196 t480.length co196)).setCell ⟨gb490, 1, none⟩ (.slice Ao201 t483.length co201)) w.heap.size (fun k_ => some k_ ≠ (.slice Ao186 x4_1.length co186 : Value).ownBlock ∧ some k_ ≠ (v487 : Value).ownBlock) (.slice Ao178 y463.length co178) y463) := ⟨by (with_reducible repeat (first | apply Kd.R_alloc | apply Kd.R_drewN | apply Kd.R_drew)); exact Kd.R_mono (Kd.R_far (p := ⟨gb490, 1, none⟩) (Kd.R_far (p := ⟨gb490, 0, none⟩) (Kd.R_types HO465.out BK490.out (by decide)) (fun _ hk => hk.2) (.slice Ao196 t480.length co196)) (fun _ hk => hk.2) (.slice Ao201 t483.length co201)) (fun _ hk => ⟨hk.1.1.2, hk.1.2⟩)⟩
      have n4_ : Aside0 (Kd.R Kd.string 9 ((w195.setCell ⟨gb490, 0, none⟩ (.slice Ao196 t480.length co196)).setCell ⟨gb490, 1, none⟩ (.slice Ao201 t483.length co201)) w.heap.size (fun k_ => some k_ ≠ (.slice Ao7 t450.length co7 : Value).ownBlock ∧ some k_ ≠ (.slice Ao189 t473.length co189 : Value).ownBlock ∧ some k_ ≠ (.slice Ao196 t480.length co196 : Value).ownBlock) (.slice Ao181 t466.length co181) t466) := ⟨by (with_reducible repeat (first | apply Kd.R_alloc | apply Kd.R_drewN | apply Kd.R_drew)); exact Kd.R_mono (Kd.R_far (p := ⟨gb490, 1, none⟩) (Kd.R_far (p := ⟨gb490, 0, none⟩) (Kd.R_types HO468.out BK490.out (by decide)) (fun _ hk => hk.2) (.slice Ao196 t480.length co196)) (fun _ hk => hk.2) (.slice Ao201 t483.length co201)) (fun _ hk => ⟨hk.1.1.1.2, ⟨hk.1.1.2, hk.1.2⟩⟩)⟩
      have n5_ : Aside0 (Kd.R k63 63 ((w195.setCell ⟨gb490, 0, none⟩ (.slice Ao196 t480.length co196)).setCell ⟨gb490, 1, none⟩ (.slice Ao201 t483.length co201)) w.heap.size (fun k_ => some k_ ≠ (.slice Ao9 t453.length co9 : Value).ownBlock ∧ some k_ ≠ (.slice Ao193 t476.length co193 : Value).ownBlock ∧ some k_ ≠ (.slice Ao201 t483.length co201 : Value).ownBlock) (.slice Ao184 t469.length co184) t469) := ⟨by (with_reducible repeat (first | apply Kd.R_alloc | apply Kd.R_drewN | apply Kd.R_drew)); exact Kd.R_mono (Kd.R_far (p := ⟨gb490, 1, none⟩) (Kd.R_far (p := ⟨gb490, 0, none⟩) (Kd.R_types HO471.out BK490.out (by decide)) (fun _ hk => hk.2) (.slice Ao196 t480.length co196)) (fun _ hk => hk.2) (.slice Ao201 t483.length co201)) (fun _ hk => ⟨hk.1.1.1.2, ⟨hk.1.1.2, hk.1.2⟩⟩)⟩
      have n6_ : Aside0 (Kd.R Kd.string 9 ((w195.setCell ⟨gb490, 0, none⟩ (.slice Ao196 t480.length co196)).setCell ⟨gb490, 1, none⟩ (.slice Ao201 t483.length co201)) w.heap.size (fun k_ => some k_ ≠ (.slice Ao7 t450.length co7 : Value).ownBlock ∧ some k_ ≠ (.slice Ao181 t466.length co181 : Value).ownBlock ∧ some k_ ≠ (.slice Ao196 t480.length co196 : Value).ownBlock) (.slice Ao189 t473.length co189) t473) := ⟨by (with_reducible repeat (first | apply Kd.R_alloc | apply Kd.R_drewN | apply Kd.R_drew)); exact Kd.R_mono (Kd.R_far (p := ⟨gb490, 1, none⟩) (Kd.R_far (p := ⟨gb490, 0, none⟩) (Kd.R_types HO475.out BK490.out (by decide)) (fun _ hk => hk.2) (.slice Ao196 t480.length co196)) (fun _ hk => hk.2) (.slice Ao201 t483.length co201)) (fun _ hk => ⟨hk.1.1.1.2, ⟨hk.1.1.2, hk.1.2⟩⟩)⟩
      have n7_ : Aside0 (Kd.R k63 63 ((w195.setCell ⟨gb490, 0, none⟩ (.slice Ao196 t480.length co196)).setCell ⟨gb490, 1, none⟩ (.slice Ao201 t483.length co201)) w.heap.size (fun k_ => some k_ ≠ (.slice Ao9 t453.length co9 : Value).ownBlock ∧ some k_ ≠ (.slice Ao184 t469.length co184 : Value).ownBlock ∧ some k_ ≠ (.slice Ao201 t483.length co201 : Value).ownBlock) (.slice Ao193 t476.length co193) t476) := ⟨by (with_reducible repeat (first | apply Kd.R_alloc | apply Kd.R_drewN | apply Kd.R_drew)); exact Kd.R_mono (Kd.R_far (p := ⟨gb490, 1, none⟩) (Kd.R_far (p := ⟨gb490, 0, none⟩) (Kd.R_types HO478.out BK490.out (by decide)) (fun _ hk => hk.2) (.slice Ao196 t480.length co196)) (fun _ hk => hk.2) (.slice Ao201 t483.length co201)) (fun _ hk => ⟨hk.1.1.1.2, ⟨hk.1.1.2, hk.1.2⟩⟩)⟩
      have n8_ : Aside0 (Kd.R Kd.string 9 ((w195.setCell ⟨gb490, 0, none⟩ (.slice Ao196 t480.length co196)).setCell ⟨gb490, 1, none⟩ (.slice Ao201 t483.length co201)) w.heap.size (fun k_ => some k_ ≠ (.slice Ao7 t450.length co7 : Value).ownBlock ∧ some k_ ≠ (.slice Ao181 t466.length co181 : Value).ownBlock ∧ some k_ ≠ (.slice Ao189 t473.length co189 : Value).ownBlock) (.slice Ao196 t480.length co196) t480) := ⟨by (with_reducible repeat (first | apply Kd.R_alloc | apply Kd.R_drewN | apply Kd.R_drew)); exact Kd.R_mono (Kd.R_far (p := ⟨gb490, 1, none⟩) (Kd.R_far (p := ⟨gb490, 0, none⟩) (Kd.R_types HO482.out BK490.out (by decide)) (fun _ hk => hk.2) (.slice Ao196 t480.length co196)) (fun _ hk => hk.2) (.slice Ao201 t483.length co201)) (fun _ hk => ⟨hk.1.1.1.2, ⟨hk.1.1.2, hk.1.2⟩⟩)⟩
      have n9_ : Aside0 (Kd.R k63 63 ((w195.setCell ⟨gb490, 0, none⟩ (.slice Ao196 t480.length co196)).setCell ⟨gb490, 1, none⟩ (.slice Ao201 t483.length co201)) w.heap.size (fun k_ => some k_ ≠ (.slice Ao9 t453.length co9 : Value).ownBlock ∧ some k_ ≠ (.slice Ao184 t469.length co184 : Value).ownBlock ∧ some k_ ≠ (.slice Ao193 t476.length co193 : Value).ownBlock) (.slice Ao201 t483.length co201) t483) := ⟨by (with_reducible repeat (first | apply Kd.R_alloc | apply Kd.R_drewN | apply Kd.R_drew)); exact Kd.R_mono (Kd.R_far (p := ⟨gb490, 1, none⟩) (Kd.R_far (p := ⟨gb490, 0, none⟩) (Kd.R_types HO485.out BK490.out (by decide)) (fun _ hk => hk.2) (.slice Ao196 t480.length co196)) (fun _ hk => hk.2) (.slice Ao201 t483.length co201)) (fun _ hk => ⟨hk.1.1.1.2, ⟨hk.1.1.2, hk.1.2⟩⟩)⟩
      have n10_ : Aside0 (Kd.R (Kd.int .i64) 3 ((w195.setCell ⟨gb490, 0, none⟩ (.slice Ao196 t480.length co196)).setCell ⟨gb490, 1, none⟩ (.slice Ao201 t483.length co201)) w.heap.size (fun k_ => some k_ ≠ (.slice Ao186 x4_1.length co186 : Value).ownBlock ∧ some k_ ≠ (.slice Ao178 y463.length co178 : Value).ownBlock) v487 t486) := ⟨by (with_reducible repeat (first | apply Kd.R_alloc | apply Kd.R_drewN | apply Kd.R_drew)); exact Kd.R_mono (Kd.R_far (p := ⟨gb490, 1, none⟩) (Kd.R_far (p := ⟨gb490, 0, none⟩) (Kd.R_types HO488.out BK490.out (by decide)) (fun _ hk => hk.2) (.slice Ao196 t480.length co196)) (fun _ hk => hk.2) (.slice Ao201 t483.length co201)) (fun _ hk => ⟨hk.1.1.2, hk.1.2⟩)⟩
      have n11_ : Aside0 (((w195.setCell ⟨gb490, 0, none⟩ (.slice Ao196 t480.length co196)).setCell ⟨gb490, 1, none⟩ (.slice Ao201 t483.length co201)).heap[gb456]? = some (.cells #[.slice Ao7 t450.length co7, .slice Ao9 t453.length co9] 27 (0, 0))) := ⟨by (with_reducible repeat (first | refine blk_drewN ?_ _ | refine blk_drew ?_ | refine blk_alloc ?_ _)); refine blk_far ?_ NB456_490.out _; (with_reducible repeat (first | refine blk_drewN ?_ _ | refine blk_drew ?_ | refine blk_alloc ?_ _)); refine blk_far ?_ NB456_490.out _; (with_reducible repeat (first | refine blk_drewN ?_ _ | refine blk_drew ?_ | refine blk_alloc ?_ _)); exact BK456.out⟩
      have n12_ : Aside0 (((w195.setCell ⟨gb490, 0, none⟩ (.slice Ao196 t480.length co196)).setCell ⟨gb490, 1, none⟩ (.slice Ao201 t483.length co201)).heap[gb472]? = some (.cells #[.slice Ao181 t466.length co181, .slice Ao184 t469.length co184] 27 (0, 0))) := ⟨by (with_reducible repeat (first | refine blk_drewN ?_ _ | refine blk_drew ?_ | refine blk_alloc ?_ _)); refine blk_far ?_ NB472_490.out _; (with_reducible repeat (first | refine blk_drewN ?_ _ | refine blk_drew ?_ | refine blk_alloc ?_ _)); refine blk_far ?_ NB472_490.out _; (with_reducible repeat (first | refine blk_drewN ?_ _ | refine blk_drew ?_ | refine blk_alloc ?_ _)); exact BK472.out⟩
      have n13_ : Aside0 (((w195.setCell ⟨gb490, 0, none⟩ (.slice Ao196 t480.length co196)).setCell ⟨gb490, 1, none⟩ (.slice Ao201 t483.length co201)).heap[gb479]? = some (.cells #[.slice Ao189 t473.length co189, .slice Ao193 t476.length co193] 27 (0, 0))) := ⟨by (with_reducible repeat (first | refine blk_drewN ?_ _ | refine blk_drew ?_ | refine blk_alloc ?_ _)); refine blk_far ?_ NB479_490.out _; (with_reducible repeat (first | refine blk_drewN ?_ _ | refine blk_drew ?_ | refine blk_alloc ?_ _)); refine blk_far ?_ NB479_490.out _; (with_reducible repeat (first | refine blk_drewN ?_ _ | refine blk_drew ?_ | refine blk_alloc ?_ _)); exact BK479.out⟩
      have n14_ : Aside0 (((w195.setCell ⟨gb490, 0, none⟩ (.slice Ao196 t480.length co196)).setCell ⟨gb490, 1, none⟩ (.slice Ao201 t483.length co201)).heap[gb490]? = some (.cells #[.slice Ao196 t480.length co196, .slice Ao201 t483.length co201] 27 (0, 0))) := ⟨by (with_reducible repeat (first | refine blk_drewN ?_ _ | refine blk_drew ?_ | refine blk_alloc ?_ _)); refine blk_put (cs := #[.slice Ao196 t480.length co196, .slice none 0 0]) ?_ 1 _ rfl; (with_reducible repeat (first | refine blk_drewN ?_ _ | refine blk_drew ?_ | refine blk_alloc ?_ _)); refine blk_put (cs := #[.slice none 0 0, .slice none 0 0]) ?_ 0 _ rfl; (with_reducible repeat (first | refine blk_drewN ?_ _ | refine blk_drew ?_ | refine blk_alloc ?_ _)); exact BK490.out⟩
      have n15_ : Aside0 (Below w.heap.size w ((w195.setCell ⟨gb490, 0, none⟩ (.slice Ao196 t480.length co196)).setCell ⟨gb490, 1, none⟩ (.slice Ao201 t483.length co201))) := ⟨by exact lT HB (gC GE456 (gC GE472 (gC GE479 (gC GE490 gN))))⟩
      (try clear HO_4)
      (try clear HO_457000)
      (try clear HO_457001)
      (try clear HO465)
      (try clear HO468)
      (try clear HO471)
      (try clear HO475)
      (try clear HO478)
      (try clear HO482)
      (try clear HO485)
      (try clear HO488)
      (try clear BK456)
      (try clear BK472)
      (try clear BK479)
      (try clear BK490)
      (try clear HB)
      generalize ((w195.setCell ⟨gb490, 0, none⟩ (.slice Ao196 t480.length co196)).setCell ⟨gb490, 1, none⟩ (.slice Ao201 t483.length co201)) = w202 at n0_ n1_ n2_ n3_ n4_ n5_ n6_ n7_ n8_ n9_ n10_ n11_ n12_ n13_ n14_ n15_ ⊢
      have HO_4 := n0_
      have HO_457000 := n1_
      have HO_457001 := n2_
      have HO465 := n3_
      have HO468 := n4_
      have HO471 := n5_
      have HO475 := n6_
      have HO478 := n7_
      have HO482 := n8_
      have HO485 := n9_
      have HO488 := n10_
      have BK456 := n11_
      have BK472 := n12_
      have BK479 := n13_
      have BK490 := n14_
      have HB := n15_
      clear n0_ n1_ n2_ n3_ n4_ n5_ n6_ n7_ n8_ n9_ n10_ n11_ n12_ n13_ n14_ n15_
      replace HO_4 := ak (Kd.R_drew HO_4.out)
      replace HO_457000 := ak (Kd.R_drew HO_457000.out)
      replace HO_457001 := ak (Kd.R_drew HO_457001.out)
      replace HO465 := ak (Kd.R_drew HO465.out)
      replace HO468 := ak (Kd.R_drew HO468.out)
      replace HO471 := ak (Kd.R_drew HO471.out)
      replace HO475 := ak (Kd.R_drew HO475.out)
      replace HO478 := ak (Kd.R_drew HO478.out)
      replace HO482 := ak (Kd.R_drew HO482.out)
      replace HO485 := ak (Kd.R_drew HO485.out)
      replace HO488 := ak (Kd.R_drew HO488.out)
      replace BK456 := ak (blk_drew BK456.out)
      replace BK472 := ak (blk_drew BK472.out)
      replace BK479 := ak (blk_drew BK479.out)
      replace BK490 := ak (blk_drew BK490.out)
      replace HB := ak (below_drew1 HB.out)
      refine start_ (n := 33) (S := fun w' => w'.cell? ⟨gb472, 0, none⟩ = some (.slice Ao181 t466.length co181) ∧ w'.cell? ⟨gb472, 1, none⟩ = some (.slice Ao184 t469.length co184) ∧ w'.cell? ⟨gb456, 0, none⟩ = some (.slice Ao7 t450.length co7) ∧ w'.cell? ⟨gb456, 1, none⟩ = some (.slice Ao9 t453.length co9)) (ds := []) #[f_,f_,f_,f_,f_,f_,f_,f_,f_,f_,f_,f_,f_,f_,f_,f_,f_,f_,f_,f_,f_,f_,f_,f_,f_,f_,f_,f_,f_,f_,f_,f_,f_] (by kernel_rfl) rfl rfl ⟨(blk_cell BK472.out 0).trans rfl, (blk_cell BK472.out 1).trans rfl, (blk_cell BK456.out 0).trans rfl, (blk_cell BK456.out 1).trans rfl⟩ (fun hHeld => ?_); refine with_tabW laws_FnCrashes.tab12 laws_FnCrashes.bits12 (fun HT_ HW_ => ?_)
      generalize w202.drew = w203 at HO_4 HO_457000 HO_457001 HO465 HO468 HO471 HO475 HO478 HO482 HO485 HO488 BK456 BK472 BK479 BK490 HB hHeld ⊢
      refine pu 0 38 #[t_,f_,f_,f_,f_,f_,f_,f_,f_,f_,f_,f_,f_,f_,f_,f_,f_,f_,f_,f_,f_,f_,f_,f_,f_,f_,f_,f_,f_,f_,f_,f_,f_] HT_ ?_
      refine pu 2 40 #[t_,f_,t_,f_,f_,f_,f_,f_,f_,f_,f_,f_,f_,f_,f_,f_,f_,f_,f_,f_,f_,f_,f_,f_,f_,f_,f_,f_,f_,f_,f_,f_,f_] HT_ ?_
      refine tk 1 39 #[t_,t_,t_,f_,f_,f_,f_,f_,f_,f_,f_,f_,f_,f_,f_,f_,f_,f_,f_,f_,f_,f_,f_,f_,f_,f_,f_,f_,f_,f_,f_,f_,f_] HT_ HW_ hHeld ?_
      refine tk 3 41 #[t_,t_,t_,t_,f_,f_,f_,f_,f_,f_,f_,f_,f_,f_,f_,f_,f_,f_,f_,f_,f_,f_,f_,f_,f_,f_,f_,f_,f_,f_,f_,f_,f_] HT_ HW_ hHeld ?_
      refine on 4 (some 42) #[t_,t_,t_,t_,t_,f_,f_,f_,f_,f_,f_,f_,f_,f_,f_,f_,f_,f_,f_,f_,f_,f_,f_,f_,f_,f_,f_,f_,f_,f_,f_,f_,f_] HT_ (fun K hK => ?_)
      refine goes_ Try.func19 (by kernel_rfl) rfl #[.slice Ao181 t466.length co181, .slice Ao7 t450.length co7] (by rfl) rfl rfl (by (try simp only [List.map_toArray, List.map_cons, List.map_nil]); first | done | rfl | (simp only [List.length_drop, List.length_take]; rfl)) ?_
      with_reducible refine (laws_sameTexts.calls k1 _ _ t466 _ _ t450 false _ ?side1 ?side2 ?side3 ?side4 A19.out).mono ?_
      (case side1 => exact cG (Kd.R_reads' HO468.out).2.2)
      (case side2 => exact (Kd.R_reads' HO468.out).2.1)
      (case side3 => exact cG (Kd.R_reads' HO_457000.out).2.2)
      (case side4 => exact (Kd.R_reads' HO_457000.out).2.1)
      rintro e w' ⟨rfl, ⟨nd, rfl⟩⟩
      refine ⟨_, rfl, ?_⟩
      refine hK.out _ _ ⟨(blk_cell BK472.out 0).trans rfl, (blk_cell BK472.out 1).trans rfl, (blk_cell BK456.out 0).trans rfl, (blk_cell BK456.out 1).trans rfl⟩ (fun hHeld => ?_)
      clear hK K
      refine nm ?_
      refine pu 5 43 #[t_,t_,t_,t_,t_,t_,f_,f_,f_,f_,f_,f_,f_,f_,f_,f_,f_,f_,f_,f_,f_,f_,f_,f_,f_,f_,f_,f_,f_,f_,f_,f_,f_] HT_ ?_
      refine pn 6 44 #[t_,t_,t_,t_,t_,t_,t_,f_,f_,f_,f_,f_,f_,f_,f_,f_,f_,f_,f_,f_,f_,f_,f_,f_,f_,f_,f_,f_,f_,f_,f_,f_,f_] HT_ ?_
      refine pn 7 45 #[t_,t_,t_,t_,t_,t_,t_,t_,f_,f_,f_,f_,f_,f_,f_,f_,f_,f_,f_,f_,f_,f_,f_,f_,f_,f_,f_,f_,f_,f_,f_,f_,f_] HT_ ?_
      refine pn 8 46 #[t_,t_,t_,t_,t_,t_,t_,t_,t_,f_,f_,f_,f_,f_,f_,f_,f_,f_,f_,f_,f_,f_,f_,f_,f_,f_,f_,f_,f_,f_,f_,f_,f_] HT_ ?_
      refine pn 9 47 #[t_,t_,t_,t_,t_,t_,t_,t_,t_,t_,f_,f_,f_,f_,f_,f_,f_,f_,f_,f_,f_,f_,f_,f_,f_,f_,f_,f_,f_,f_,f_,f_,f_] HT_ ?_
      refine pu 10 48 #[t_,t_,t_,t_,t_,t_,t_,t_,t_,t_,t_,f_,f_,f_,f_,f_,f_,f_,f_,f_,f_,f_,f_,f_,f_,f_,f_,f_,f_,f_,f_,f_,f_] HT_ ?_
      refine pu 11 49 #[t_,t_,t_,t_,t_,t_,t_,t_,t_,t_,t_,t_,f_,f_,f_,f_,f_,f_,f_,f_,f_,f_,f_,f_,f_,f_,f_,f_,f_,f_,f_,f_,f_] HT_ ?_
      refine pn 12 50 #[t_,t_,t_,t_,t_,t_,t_,t_,t_,t_,t_,t_,t_,f_,f_,f_,f_,f_,f_,f_,f_,f_,f_,f_,f_,f_,f_,f_,f_,f_,f_,f_,f_] HT_ ?_
      refine pn 13 51 #[t_,t_,t_,t_,t_,t_,t_,t_,t_,t_,t_,t_,t_,t_,f_,f_,f_,f_,f_,f_,f_,f_,f_,f_,f_,f_,f_,f_,f_,f_,f_,f_,f_] HT_ ?_
      refine pn 14 52 #[t_,t_,t_,t_,t_,t_,t_,t_,t_,t_,t_,t_,t_,t_,t_,f_,f_,f_,f_,f_,f_,f_,f_,f_,f_,f_,f_,f_,f_,f_,f_,f_,f_] HT_ ?_
      refine pn 15 53 #[t_,t_,t_,t_,t_,t_,t_,t_,t_,t_,t_,t_,t_,t_,t_,t_,f_,f_,f_,f_,f_,f_,f_,f_,f_,f_,f_,f_,f_,f_,f_,f_,f_] HT_ ?_
      refine pu 16 54 #[t_,t_,t_,t_,t_,t_,t_,t_,t_,t_,t_,t_,t_,t_,t_,t_,t_,f_,f_,f_,f_,f_,f_,f_,f_,f_,f_,f_,f_,f_,f_,f_,f_] HT_ ?_
      refine pu 17 55 #[t_,t_,t_,t_,t_,t_,t_,t_,t_,t_,t_,t_,t_,t_,t_,t_,t_,t_,f_,f_,f_,f_,f_,f_,f_,f_,f_,f_,f_,f_,f_,f_,f_] HT_ ?_
      refine pn 18 56 #[t_,t_,t_,t_,t_,t_,t_,t_,t_,t_,t_,t_,t_,t_,t_,t_,t_,t_,t_,f_,f_,f_,f_,f_,f_,f_,f_,f_,f_,f_,f_,f_,f_] HT_ ?_
      refine pn 19 57 #[t_,t_,t_,t_,t_,t_,t_,t_,t_,t_,t_,t_,t_,t_,t_,t_,t_,t_,t_,t_,f_,f_,f_,f_,f_,f_,f_,f_,f_,f_,f_,f_,f_] HT_ ?_
      refine pn 20 58 #[t_,t_,t_,t_,t_,t_,t_,t_,t_,t_,t_,t_,t_,t_,t_,t_,t_,t_,t_,t_,t_,f_,f_,f_,f_,f_,f_,f_,f_,f_,f_,f_,f_] HT_ ?_
      refine pn 21 59 #[t_,t_,t_,t_,t_,t_,t_,t_,t_,t_,t_,t_,t_,t_,t_,t_,t_,t_,t_,t_,t_,t_,f_,f_,f_,f_,f_,f_,f_,f_,f_,f_,f_] HT_ ?_
      refine pn 22 60 #[t_,t_,t_,t_,t_,t_,t_,t_,t_,t_,t_,t_,t_,t_,t_,t_,t_,t_,t_,t_,t_,t_,t_,f_,f_,f_,f_,f_,f_,f_,f_,f_,f_] HT_ ?_
      refine pn 23 61 #[t_,t_,t_,t_,t_,t_,t_,t_,t_,t_,t_,t_,t_,t_,t_,t_,t_,t_,t_,t_,t_,t_,t_,t_,f_,f_,f_,f_,f_,f_,f_,f_,f_] HT_ ?_
      refine pn 24 62 #[t_,t_,t_,t_,t_,t_,t_,t_,t_,t_,t_,t_,t_,t_,t_,t_,t_,t_,t_,t_,t_,t_,t_,t_,t_,f_,f_,f_,f_,f_,f_,f_,f_] HT_ ?_
      refine pn 25 63 #[t_,t_,t_,t_,t_,t_,t_,t_,t_,t_,t_,t_,t_,t_,t_,t_,t_,t_,t_,t_,t_,t_,t_,t_,t_,t_,f_,f_,f_,f_,f_,f_,f_] HT_ ?_
      refine pn 26 64 #[t_,t_,t_,t_,t_,t_,t_,t_,t_,t_,t_,t_,t_,t_,t_,t_,t_,t_,t_,t_,t_,t_,t_,t_,t_,t_,t_,f_,f_,f_,f_,f_,f_] HT_ ?_
      refine pu 27 65 #[t_,t_,t_,t_,t_,t_,t_,t_,t_,t_,t_,t_,t_,t_,t_,t_,t_,t_,t_,t_,t_,t_,t_,t_,t_,t_,t_,t_,f_,f_,f_,f_,f_] HT_ ?_
      refine pu 28 66 #[t_,t_,t_,t_,t_,t_,t_,t_,t_,t_,t_,t_,t_,t_,t_,t_,t_,t_,t_,t_,t_,t_,t_,t_,t_,t_,t_,t_,t_,f_,f_,f_,f_] HT_ ?_
      refine pn 29 67 #[t_,t_,t_,t_,t_,t_,t_,t_,t_,t_,t_,t_,t_,t_,t_,t_,t_,t_,t_,t_,t_,t_,t_,t_,t_,t_,t_,t_,t_,t_,f_,f_,f_] HT_ ?_
      refine pn 30 68 #[t_,t_,t_,t_,t_,t_,t_,t_,t_,t_,t_,t_,t_,t_,t_,t_,t_,t_,t_,t_,t_,t_,t_,t_,t_,t_,t_,t_,t_,t_,t_,f_,f_] HT_ ?_
      refine pu 31 69 #[t_,t_,t_,t_,t_,t_,t_,t_,t_,t_,t_,t_,t_,t_,t_,t_,t_,t_,t_,t_,t_,t_,t_,t_,t_,t_,t_,t_,t_,t_,t_,t_,f_] HT_ ?_
      refine pu 32 2 #[t_,t_,t_,t_,t_,t_,t_,t_,t_,t_,t_,t_,t_,t_,t_,t_,t_,t_,t_,t_,t_,t_,t_,t_,t_,t_,t_,t_,t_,t_,t_,t_,t_] HT_ ?_
      refine done_ (done_of HT_.out (by kernel_rfl)) ?_
      try go_wp2
      go_ret
      exact ⟨by first | rfl | (simp [errW_none, errW_some] <;> rfl) | (simp [*, errW_none, errW_some] <;> rfl), by exact lT HB (gC GE456 (gC GE472 (gC GE479 (gC GE490 gN))))⟩

/-- THE ONE PURE STATEMENT of laws_FnCrashes: yours. -/
def laws_FnCrashes.Pure : Prop := ∀ (l0 : List Int), l0.length ≤ maxLen → l0.length * 1 ≤ 140737488351232 → (∀ x ∈ l0, (Lit.int .u8 x).wf = true) → ∃ k, laws_FnCrashes.f k l0 = some true
theorem laws_FnCrashes.walk (P : laws_FnCrashes.Pure) (a0 : Option Addr) (len0 cap0 : Nat) (z0 : List Int) (w : World) (w0 : (a0 = none ∧ len0 = 0 ∧ cap0 = 0 ∧ z0 = []) ∨ ∃ x, a0 = some x ∧ len0 ≤ cap0 ∧ cap0 ≤ maxLen ∧ z0.length = cap0 ∧ (∀ i, i < z0.length → w.cell? (x.add i) = some (.int .u8 (z0.getD i 0))) ∧ ∀ n ∈ z0, (Lit.int .u8 n).wf = true) (y0 : len0 * 1 ≤ 140737488351232) :
  Calls Try.prog 5 #[.slice a0 len0 cap0] w fun e w' => e = .returned (.bool true) ∧ Below w.heap.size w w' := by
 obtain ⟨l0, rfl, hr0, hm0, hw0, hc0⟩ := ReadsInt.ofRowC w0
 obtain ⟨k, h⟩ := P l0 hm0 y0 hw0
 refine (laws_FnCrashes.calls k _ _ l0 true w (Kd.C_of_reads (d := (0 : Int)) (h1 := fun _ => rfl) hr0) hc0 h).mono ?_
 rintro e w' ⟨rfl, hd⟩
 exact ⟨rfl, hd⟩

end Go.Proofs.Ytjpngldnkgofaaa.PFnCrashes
