-- Written by a program of mine (a turned copy of the kit's print): functions as plain Lean, their contracts.
import Derived.Test.YtjpngldnkgofaaaPFnSegmentsToldx1
import Derived.Test.YtjpngldnkgofaaaPFnSegmentsToldx14
import Derived.Test.YtjpngldnkgofaaaPFnSegmentsToldx17
import Derived.Test.YtjpngldnkgofaaaVFnSegmentsTold1
namespace Go.Proofs.Ytjpngldnkgofaaa.PFnSegmentsTold
open Go.RowKit Go.Proofs.YtjpngldnkgofaaaW.PrintWords Go.Proofs.YtjpngldnkgofaaaW.PrintLast Go.Proofs.YtjpngldnkgofaaaW.PrintMore
attribute [local go_sem] max2_int min2_int max_two min_two max_three min_three max_four min_four   -- for this text's walks alone
set_option maxHeartbeats 8000000
set_option maxRecDepth 100000
set_option linter.unusedVariables false
set_option linter.unusedSimpArgs false
attribute [local go_sem high] eqA74
/-! ### spec_ReadFrame: function 70 -/
def spec_ReadFrame.j0 : Nat → ByteArray → Int → Int → Bool → Int → Int → ByteArray → Option (Int × Int × ByteArray × Int × Bool)
 | 0, _, _, _, _, _, _, _ => none
 | k + 1, x0, x1, x14, x64, x610000, x610001, x610002 => if x64 = true then (some (0, 0, (⟨#[]⟩ : ByteArray), 0, false)) else ((spec_FrameText.f k x610000 x610001 x610002).bind fun bt610 => (if bt610.2 = true then (if 0 ≤ x1 then (if x1 ≤ (wrap64 (x14 + 4)) then (if (wrap64 (x14 + 4)) ≤ (x0.size : Int) then (if bt610.1.toList = (x0.extract (x1 : Int).toNat ((wrap64 (x14 + 4)) : Int).toNat).toList then (some (x610000, x610001, x610002, wrap64 (x14 + 4), true)) else (some (0, 0, (⟨#[]⟩ : ByteArray), 0, false))) else (none)) else (none)) else (none)) else (some (0, 0, (⟨#[]⟩ : ByteArray), 0, false))))
def spec_ReadFrame.f (k : Nat) (a0 : ByteArray) (a1 : Int) : Option (Int × Int × ByteArray × Int × Bool) := (spec_ReadVar.f k a0 a1).bind fun bt600 => ((spec_ReadVar.f k a0 bt600.2.1).bind fun bt603 => ((spec_ReadShort.f k a0 bt603.2.1).bind fun bt606 => (if bt600.2.2 = true then (if bt603.2.2 = true then (if bt606.2.2 = true then (if bt606.2.1 > (wrap64 ((a0.size : Int) - 4)) then (spec_ReadFrame.j0 k a0 a1 bt606.2.1 true bt600.1 bt603.1 bt606.1) else (spec_ReadFrame.j0 k a0 a1 bt606.2.1 (decide (a1 < 0)) bt600.1 bt603.1 bt606.1)) else (spec_ReadFrame.j0 k a0 a1 bt606.2.1 true bt600.1 bt603.1 bt606.1)) else (spec_ReadFrame.j0 k a0 a1 bt606.2.1 true bt600.1 bt603.1 bt606.1)) else (spec_ReadFrame.j0 k a0 a1 bt606.2.1 true bt600.1 bt603.1 bt606.1))))
theorem spec_ReadFrame.mono_l : ∀ k, (∀ y0 y1 y2 y3 y4 y5 y6, LeO (spec_ReadFrame.j0 k y0 y1 y2 y3 y4 y5 y6) (spec_ReadFrame.j0 (k + 1) y0 y1 y2 y3 y4 y5 y6))
 | 0 => fun _ _ _ _ _ _ _ r h => by simp [spec_ReadFrame.j0] at h
 | k + 1 => by
  have ih0 := spec_ReadFrame.mono_l k
  ·intro y0 y1 y2 y3 y4 y5 y6
   unfold spec_ReadFrame.j0
   repeat' first
   | (with_reducible exact ih0 _ _ _ _ _ _ _)
   | (with_reducible exact spec_FrameText.mono _ _ _ _)
   | (with_reducible exact spec_ReadShort.mono _ _ _)
   | (with_reducible exact spec_ReadVar.mono _ _ _)
   | (with_reducible exact LeO.refl _)
   | (with_reducible exact LeO.none _)
   | (with_reducible refine LeO.ite ?_ ?_)
   | (with_reducible refine LeO.bind ?_ (fun _ => ?_))
   | exact ih0 _ _ _ _ _ _ _
   | exact spec_FrameText.mono _ _ _ _
   | exact spec_ReadShort.mono _ _ _
   | exact spec_ReadVar.mono _ _ _
   | exact LeO.none _
   | refine LeO.ite ?_ ?_
   | refine LeO.bind ?_ (fun _ => ?_)
theorem spec_ReadFrame.mono : ∀ a0 a1 k, LeO (spec_ReadFrame.f k a0 a1) (spec_ReadFrame.f (k + 1) a0 a1) := by
 intro a0 a1 k
 have ih0 := spec_ReadFrame.mono_l k
 unfold spec_ReadFrame.f
 repeat' first
   | (with_reducible exact ih0 _ _ _ _ _ _ _)
   | (with_reducible exact spec_FrameText.mono _ _ _ _)
   | (with_reducible exact spec_ReadShort.mono _ _ _)
   | (with_reducible exact spec_ReadVar.mono _ _ _)
   | (with_reducible exact LeO.refl _)
   | (with_reducible exact LeO.none _)
   | (with_reducible refine LeO.ite ?_ ?_)
   | (with_reducible refine LeO.bind ?_ (fun _ => ?_))
   | exact ih0 _ _ _ _ _ _ _
   | exact spec_FrameText.mono _ _ _ _
   | exact spec_ReadShort.mono _ _ _
   | exact spec_ReadVar.mono _ _ _
   | exact LeO.none _
   | refine LeO.ite ?_ ?_
   | refine LeO.bind ?_ (fun _ => ?_)
theorem spec_ReadFrame.calls (k : Nat) (a0 : ByteArray) (a1 : Int) (r1 : Int) (r2 : Int) (r3 : ByteArray) (r4 : Int) (r5 : Bool) (w : World) (h : spec_ReadFrame.f k a0 a1 = some (r1, r2, r3, r4, r5)) :
  Calls Try.prog 70 #[.string a0, .int .i64 a1] w fun e w' => e = .returned (.tuple #[.agg #[.int .i64 r1, .int .i64 r2, .string r3], .int .i64 r4, .bool r5]) ∧ Below w.heap.size w w' := by
 have hu74 := Try.underlying74
 have HB := ak (Below.refl w.heap.size w)
 have H : ((spec_ReadVar.f k a0 a1).bind fun bt600 => ((spec_ReadVar.f k a0 bt600.2.1).bind fun bt603 => ((spec_ReadShort.f k a0 bt603.2.1).bind fun bt606 => (if bt600.2.2 = true then (if bt603.2.2 = true then (if bt606.2.2 = true then (if bt606.2.1 > (wrap64 ((a0.size : Int) - 4)) then (spec_ReadFrame.j0 k a0 a1 bt606.2.1 true bt600.1 bt603.1 bt606.1) else (spec_ReadFrame.j0 k a0 a1 bt606.2.1 (decide (a1 < 0)) bt600.1 bt603.1 bt606.1)) else (spec_ReadFrame.j0 k a0 a1 bt606.2.1 true bt600.1 bt603.1 bt606.1)) else (spec_ReadFrame.j0 k a0 a1 bt606.2.1 true bt600.1 bt603.1 bt606.1)) else (spec_ReadFrame.j0 k a0 a1 bt606.2.1 true bt600.1 bt603.1 bt606.1))))) = some (r1, r2, r3, r4, r5) := h
 clear h
 replace H := Option.bind_eq_some_iff.mp H
 obtain ⟨⟨t600, t601, t602⟩, A30, H⟩ := H
 replace H : ((spec_ReadVar.f k a0 t601).bind fun bt603 => ((spec_ReadShort.f k a0 bt603.2.1).bind fun bt606 => (if t602 = true then (if bt603.2.2 = true then (if bt606.2.2 = true then (if bt606.2.1 > (wrap64 ((a0.size : Int) - 4)) then (spec_ReadFrame.j0 k a0 a1 bt606.2.1 true t600 bt603.1 bt606.1) else (spec_ReadFrame.j0 k a0 a1 bt606.2.1 (decide (a1 < 0)) t600 bt603.1 bt606.1)) else (spec_ReadFrame.j0 k a0 a1 bt606.2.1 true t600 bt603.1 bt606.1)) else (spec_ReadFrame.j0 k a0 a1 bt606.2.1 true t600 bt603.1 bt606.1)) else (spec_ReadFrame.j0 k a0 a1 bt606.2.1 true t600 bt603.1 bt606.1)))) = some (r1, r2, r3, r4, r5) := H
 have A3 := Aside0.mk A30
 clear A30
 replace H := Option.bind_eq_some_iff.mp H
 obtain ⟨⟨t603, t604, t605⟩, A40, H⟩ := H
 replace H : ((spec_ReadShort.f k a0 t604).bind fun bt606 => (if t602 = true then (if t605 = true then (if bt606.2.2 = true then (if bt606.2.1 > (wrap64 ((a0.size : Int) - 4)) then (spec_ReadFrame.j0 k a0 a1 bt606.2.1 true t600 t603 bt606.1) else (spec_ReadFrame.j0 k a0 a1 bt606.2.1 (decide (a1 < 0)) t600 t603 bt606.1)) else (spec_ReadFrame.j0 k a0 a1 bt606.2.1 true t600 t603 bt606.1)) else (spec_ReadFrame.j0 k a0 a1 bt606.2.1 true t600 t603 bt606.1)) else (spec_ReadFrame.j0 k a0 a1 bt606.2.1 true t600 t603 bt606.1))) = some (r1, r2, r3, r4, r5) := H
 have A4 := Aside0.mk A40
 clear A40
 replace H := Option.bind_eq_some_iff.mp H
 obtain ⟨⟨t606, t607, t608⟩, A50, H⟩ := H
 replace H : (if t602 = true then (if t605 = true then (if t608 = true then (if t607 > (wrap64 ((a0.size : Int) - 4)) then (spec_ReadFrame.j0 k a0 a1 t607 true t600 t603 t606) else (spec_ReadFrame.j0 k a0 a1 t607 (decide (a1 < 0)) t600 t603 t606)) else (spec_ReadFrame.j0 k a0 a1 t607 true t600 t603 t606)) else (spec_ReadFrame.j0 k a0 a1 t607 true t600 t603 t606)) else (spec_ReadFrame.j0 k a0 a1 t607 true t600 t603 t606)) = some (r1, r2, r3, r4, r5) := H
 have A5 := Aside0.mk A50
 clear A50
 have HC6 := Aside0.mk H
 clear H
 go_enter Try.func70, Try.ntmps70
 go_upto_region 5 with (first | ((with_reducible refine gate_dst (N := 4) rfl ?_); (try (refine gate_guard (by rfl) ?_; dsimp only)); refine bx 4 #[.int .i64 0, .int .i64 0, .string (⟨#[]⟩ : ByteArray)] 74 ?_; intro gb599 hg w7 hbox hb; replace BK599 := ak (hbox); replace GW599 := ak (bz hg (lG HB)); replace GE599 := ak (bz hg (lG HB)); replace HB := lB HB hb; clear hb hbox hg) | ((with_reducible refine gate_callee (f := 93) rfl ?_); refine gl (some 22) Try.func93 #[.string a0, .int .i64 a1] ?_; (with_reducible refine (spec_ReadVar.calls k a0 a1 t600 t601 t602 _ A3.out).mono ?_); rintro e w8 ⟨rfl, hb⟩; refine ⟨_, rfl, ?_⟩; replace BK599 := bB BK599 hb; replace HB := ak (below_step (lT HB (gC GE599 gN)) hb); (try clear hb); (try clear hk)) | ((with_reducible refine gate_callee (f := 93) rfl ?_); refine gl (some 29) Try.func93 #[.string a0, .int .i64 t601] ?_; (with_reducible refine (spec_ReadVar.calls k a0 t601 t603 t604 t605 _ A4.out).mono ?_); rintro e w9 ⟨rfl, hb⟩; refine ⟨_, rfl, ?_⟩; replace BK599 := bB BK599 hb; replace HB := ak (below_step (lT HB (gC GE599 gN)) hb); (try clear hb); (try clear hk)) | ((with_reducible refine gate_callee (f := 94) rfl ?_); refine gl (some 36) Try.func94 #[.string a0, .int .i64 t604] ?_; (with_reducible refine (spec_ReadShort.calls k a0 t604 t606 t607 t608 _ A5.out).mono ?_); rintro e w10 ⟨rfl, hb⟩; refine ⟨_, rfl, ?_⟩; replace BK599 := bB BK599 hb; replace HB := ak (below_step (lT HB (gC GE599 gN)) hb); (try clear hb); (try clear hk)) | ((with_reducible refine gate_dst (N := 16) rfl ?_); (try (refine gate_guard (by rfl) ?_; dsimp only)); refine bx 16 #[.int .i64 0, .int .i64 0, .string (⟨#[]⟩ : ByteArray)] 74 ?_; intro gb609 hg w11 hbox hb; replace BK609 := ak (hbox); replace GW609 := ak (bz hg (lT HB (gC GE599 gN))); replace GE609 := ak (bz hg (lT HB (gC GE599 gN))); replace HB := ak (below_step (lT HB (gC GE599 gN)) hb); replace NB599_609 := ak (nl hg (bG BK599)); replace NB609_599 := ak (ng hg (bG BK599)); replace BK599 := bB BK599 hb; clear hb hbox hg; have hnb12 := NB609_599.out; have hnc12 := NB599_609.out; obtain ⟨hcz13_0, hcz13_1, hcz13_2, hfz13_0, hfz13_1, hfz13_2⟩ := bC3 BK609))
 (try simp only [Act.put, List.setIfInBounds_toArray, List.set_cons_zero, List.set_cons_succ])
 go_cut [64] (fun v64 wc => ∃ (kq : Nat) (x64_5 : Bool), v64 = .bool x64_5 ∧ Aside0 (spec_ReadFrame.j0 kq a0 a1 t607 x64_5 t600 t603 t606 = some (r1, r2, r3, r4, r5)) ∧ Aside0 (kq ≤ k) ∧ Aside0 (wc.heap[gb599]? = some (.cells #[.int .i64 0, .int .i64 0, .string (⟨#[]⟩ : ByteArray)] 74 (0, 0))) ∧ Aside0 (wc.heap[gb609]? = some (.cells #[.int .i64 t600, .int .i64 t603, .string t606] 74 (0, 0))) ∧ Aside0 (Below w.heap.size w wc))
 case first =>
  have H := HC6.out
  clear HC6
  by_cases c14 : t602 = true
  ·subst c14
   have H1 : (if t605 = true then (if t608 = true then (if t607 > (wrap64 ((a0.size : Int) - 4)) then (spec_ReadFrame.j0 k a0 a1 t607 true t600 t603 t606) else (spec_ReadFrame.j0 k a0 a1 t607 (decide (a1 < 0)) t600 t603 t606)) else (spec_ReadFrame.j0 k a0 a1 t607 true t600 t603 t606)) else (spec_ReadFrame.j0 k a0 a1 t607 true t600 t603 t606)) = some (r1, r2, r3, r4, r5) := by rw [if_pos rfl] at H; exact H
   clear H
   have H := H1
   clear H1
   by_cases c15 : t605 = true
   ·subst c15
    have H1 : (if t608 = true then (if t607 > (wrap64 ((a0.size : Int) - 4)) then (spec_ReadFrame.j0 k a0 a1 t607 true t600 t603 t606) else (spec_ReadFrame.j0 k a0 a1 t607 (decide (a1 < 0)) t600 t603 t606)) else (spec_ReadFrame.j0 k a0 a1 t607 true t600 t603 t606)) = some (r1, r2, r3, r4, r5) := by rw [if_pos rfl] at H; exact H
    clear H
    have H := H1
    clear H1
    by_cases c16 : t608 = true
    ·subst c16
     have H1 : (if t607 > (wrap64 ((a0.size : Int) - 4)) then (spec_ReadFrame.j0 k a0 a1 t607 true t600 t603 t606) else (spec_ReadFrame.j0 k a0 a1 t607 (decide (a1 < 0)) t600 t603 t606)) = some (r1, r2, r3, r4, r5) := by rw [if_pos rfl] at H; exact H
     clear H
     have H := H1
     clear H1
     by_cases c17 : t607 > (wrap64 ((a0.size : Int) - 4))
     ·rw [if_pos c17] at H
      have c17b0 : decide ((wrap64 ((a0.size : Int) - 4)) < t607) = true := decide_eq_true c17
      clear c17
      (first | rw [c17b0] | (simp only [i64_w, i32_w]; rw [c17b0]) | skip)
      have H' := Aside0.mk H
      clear H
      go_wp2
      go_meet
      case rel => exact ⟨_, (true), (by first | rfl | (simp; done) | (simp [*]; done)), H', ⟨by first | omega | exact Nat.le_refl _⟩, ⟨by (with_reducible repeat (first | refine blk_drewN ?_ _ | refine blk_drew ?_ | refine blk_alloc ?_ _)); refine blk_far ?_ NB599_609.out _; (with_reducible repeat (first | refine blk_drewN ?_ _ | refine blk_drew ?_ | refine blk_alloc ?_ _)); refine blk_far ?_ NB599_609.out _; (with_reducible repeat (first | refine blk_drewN ?_ _ | refine blk_drew ?_ | refine blk_alloc ?_ _)); refine blk_far ?_ NB599_609.out _; (with_reducible repeat (first | refine blk_drewN ?_ _ | refine blk_drew ?_ | refine blk_alloc ?_ _)); exact BK599.out⟩, ⟨bW BK609⟩, ⟨by exact lT HB (gC GE599 (gC GE609 gN))⟩⟩
     ·rw [if_neg c17] at H
      have c17b0 : decide ((wrap64 ((a0.size : Int) - 4)) < t607) = false := decide_eq_false c17
      clear c17
      (first | rw [c17b0] | (simp only [i64_w, i32_w]; rw [c17b0]) | skip)
      have H' := Aside0.mk H
      clear H
      go_wp2
      go_meet
      case rel => exact ⟨_, (decide (a1 < 0)), (by first | rfl | (simp; done) | (simp [*]; done)), H', ⟨by first | omega | exact Nat.le_refl _⟩, ⟨by (with_reducible repeat (first | refine blk_drewN ?_ _ | refine blk_drew ?_ | refine blk_alloc ?_ _)); refine blk_far ?_ NB599_609.out _; (with_reducible repeat (first | refine blk_drewN ?_ _ | refine blk_drew ?_ | refine blk_alloc ?_ _)); refine blk_far ?_ NB599_609.out _; (with_reducible repeat (first | refine blk_drewN ?_ _ | refine blk_drew ?_ | refine blk_alloc ?_ _)); refine blk_far ?_ NB599_609.out _; (with_reducible repeat (first | refine blk_drewN ?_ _ | refine blk_drew ?_ | refine blk_alloc ?_ _)); exact BK599.out⟩, ⟨bW BK609⟩, ⟨by exact lT HB (gC GE599 (gC GE609 gN))⟩⟩
    ·replace c16 := Bool.eq_false_iff.mpr c16
     subst c16
     have H1 : (spec_ReadFrame.j0 k a0 a1 t607 true t600 t603 t606) = some (r1, r2, r3, r4, r5) := by rw [if_neg (show ¬ (false = true) by decide)] at H; exact H
     clear H
     have H := H1
     clear H1
     have H' := Aside0.mk H
     clear H
     go_wp2
     go_meet
     case rel => exact ⟨_, (true), (by first | rfl | (simp; done) | (simp [*]; done)), H', ⟨by first | omega | exact Nat.le_refl _⟩, ⟨by (with_reducible repeat (first | refine blk_drewN ?_ _ | refine blk_drew ?_ | refine blk_alloc ?_ _)); refine blk_far ?_ NB599_609.out _; (with_reducible repeat (first | refine blk_drewN ?_ _ | refine blk_drew ?_ | refine blk_alloc ?_ _)); refine blk_far ?_ NB599_609.out _; (with_reducible repeat (first | refine blk_drewN ?_ _ | refine blk_drew ?_ | refine blk_alloc ?_ _)); refine blk_far ?_ NB599_609.out _; (with_reducible repeat (first | refine blk_drewN ?_ _ | refine blk_drew ?_ | refine blk_alloc ?_ _)); exact BK599.out⟩, ⟨bW BK609⟩, ⟨by exact lT HB (gC GE599 (gC GE609 gN))⟩⟩
   ·replace c15 := Bool.eq_false_iff.mpr c15
    subst c15
    have H1 : (spec_ReadFrame.j0 k a0 a1 t607 true t600 t603 t606) = some (r1, r2, r3, r4, r5) := by rw [if_neg (show ¬ (false = true) by decide)] at H; exact H
    clear H
    have H := H1
    clear H1
    have H' := Aside0.mk H
    clear H
    go_wp2
    go_meet
    case rel => exact ⟨_, (true), (by first | rfl | (simp; done) | (simp [*]; done)), H', ⟨by first | omega | exact Nat.le_refl _⟩, ⟨by (with_reducible repeat (first | refine blk_drewN ?_ _ | refine blk_drew ?_ | refine blk_alloc ?_ _)); refine blk_far ?_ NB599_609.out _; (with_reducible repeat (first | refine blk_drewN ?_ _ | refine blk_drew ?_ | refine blk_alloc ?_ _)); refine blk_far ?_ NB599_609.out _; (with_reducible repeat (first | refine blk_drewN ?_ _ | refine blk_drew ?_ | refine blk_alloc ?_ _)); refine blk_far ?_ NB599_609.out _; (with_reducible repeat (first | refine blk_drewN ?_ _ | refine blk_drew ?_ | refine blk_alloc ?_ _)); exact BK599.out⟩, ⟨bW BK609⟩, ⟨by exact lT HB (gC GE599 (gC GE609 gN))⟩⟩
  ·replace c14 := Bool.eq_false_iff.mpr c14
   subst c14
   have H1 : (spec_ReadFrame.j0 k a0 a1 t607 true t600 t603 t606) = some (r1, r2, r3, r4, r5) := by rw [if_neg (show ¬ (false = true) by decide)] at H; exact H
   clear H
   have H := H1
   clear H1
   have H' := Aside0.mk H
   clear H
   go_wp2
   go_meet
   case rel => exact ⟨_, (true), (by first | rfl | (simp; done) | (simp [*]; done)), H', ⟨by first | omega | exact Nat.le_refl _⟩, ⟨by (with_reducible repeat (first | refine blk_drewN ?_ _ | refine blk_drew ?_ | refine blk_alloc ?_ _)); refine blk_far ?_ NB599_609.out _; (with_reducible repeat (first | refine blk_drewN ?_ _ | refine blk_drew ?_ | refine blk_alloc ?_ _)); refine blk_far ?_ NB599_609.out _; (with_reducible repeat (first | refine blk_drewN ?_ _ | refine blk_drew ?_ | refine blk_alloc ?_ _)); refine blk_far ?_ NB599_609.out _; (with_reducible repeat (first | refine blk_drewN ?_ _ | refine blk_drew ?_ | refine blk_alloc ?_ _)); exact BK599.out⟩, ⟨bW BK609⟩, ⟨by exact lT HB (gC GE599 (gC GE609 gN))⟩⟩
 case rest =>
  clear HC6
  try clear c1
  try clear p2
  try clear p6
  try clear c7
  try clear c9
  try clear c12
  try clear c14
  try clear c15
  try clear c16
  try clear c17
  try clear c17b0
  try clear hcz13_0
  try clear hcz13_1
  try clear hcz13_2
  try clear hfz13_0
  try clear hfz13_1
  try clear hfz13_2
  obtain ⟨kq, x64_5, rfl, HA, HJ5, BK599, BK609, HB⟩ := hcut
  cases kq with
  | zero => exact absurd HA.out (by simp [spec_ReadFrame.j0])
  | succ kj5 =>
   have H := HA.out
   clear HA
   simp only [spec_ReadFrame.j0] at H
   by_cases c18 : x64_5 = true
   ·subst c18
    have H1 : (some (0, 0, (⟨#[]⟩ : ByteArray), 0, false)) = some (r1, r2, r3, r4, r5) := by rw [if_pos rfl] at H; exact H
    clear H
    have H := H1
    clear H1
    simp only [Option.some.injEq, Prod.mk.injEq] at H
    obtain ⟨rfl, rfl, rfl, rfl, rfl⟩ := H
    have hnb19 := NB599_609.out
    have hnc19 := NB609_599.out
    have hcz20_0 : wc.cell? ⟨gb599, 0, none⟩ = some (.int .i64 0) := bc BK599 0
    have hcz20_1 : wc.cell? ⟨gb599, 1, none⟩ = some (.int .i64 0) := bc BK599 1
    have hcz20_2 : wc.cell? ⟨gb599, 2, none⟩ = some (.string (⟨#[]⟩ : ByteArray)) := bc BK599 2
    have hfz20_0 := blk_frozen BK599.out 0
    have hfz20_1 := blk_frozen BK599.out 1
    have hfz20_2 := blk_frozen BK599.out 2
    go_wp2
    refine bodyPost_ret (results_ctt rfl _ _ gb599 74 #[.int .i64 0, .int .i64 0, .string (⟨#[]⟩ : ByteArray)] (0, 0) _ rfl (bW BK599) Try.underlying74 rfl (by kernel_rfl)) rfl ?_
    exact ⟨ew, by exact lT HB (gC GE599 (gC GE609 gN))⟩
   ·replace c18 := Bool.eq_false_iff.mpr c18
    subst c18
    have H1 : ((spec_FrameText.f kj5 t600 t603 t606).bind fun bt610 => (if bt610.2 = true then (if 0 ≤ a1 then (if a1 ≤ (wrap64 (t607 + 4)) then (if (wrap64 (t607 + 4)) ≤ (a0.size : Int) then (if bt610.1.toList = (a0.extract (a1 : Int).toNat ((wrap64 (t607 + 4)) : Int).toNat).toList then (some (t600, t603, t606, wrap64 (t607 + 4), true)) else (some (0, 0, (⟨#[]⟩ : ByteArray), 0, false))) else (none)) else (none)) else (none)) else (some (0, 0, (⟨#[]⟩ : ByteArray), 0, false)))) = some (r1, r2, r3, r4, r5) := by rw [if_neg (show ¬ (false = true) by decide)] at H; exact H
    clear H
    have H := H1
    clear H1
    replace H := Option.bind_eq_some_iff.mp H
    obtain ⟨⟨t610, t611⟩, A210, H⟩ := H
    replace H : (if t611 = true then (if 0 ≤ a1 then (if a1 ≤ (wrap64 (t607 + 4)) then (if (wrap64 (t607 + 4)) ≤ (a0.size : Int) then (if t610.toList = (a0.extract (a1 : Int).toNat ((wrap64 (t607 + 4)) : Int).toNat).toList then (some (t600, t603, t606, wrap64 (t607 + 4), true)) else (some (0, 0, (⟨#[]⟩ : ByteArray), 0, false))) else (none)) else (none)) else (none)) else (some (0, 0, (⟨#[]⟩ : ByteArray), 0, false))) = some (r1, r2, r3, r4, r5) := H
    have A21 := Aside0.mk A210
    clear A210
    by_cases c22 : t611 = true
    ·subst c22
     have H1 : (if 0 ≤ a1 then (if a1 ≤ (wrap64 (t607 + 4)) then (if (wrap64 (t607 + 4)) ≤ (a0.size : Int) then (if t610.toList = (a0.extract (a1 : Int).toNat ((wrap64 (t607 + 4)) : Int).toNat).toList then (some (t600, t603, t606, wrap64 (t607 + 4), true)) else (some (0, 0, (⟨#[]⟩ : ByteArray), 0, false))) else (none)) else (none)) else (none)) = some (r1, r2, r3, r4, r5) := by rw [if_pos rfl] at H; exact H
     clear H
     have H := H1
     clear H1
     by_cases c23 : 0 ≤ a1
     ·rw [if_pos c23] at H
      have c23b0 := eq_true c23
      have c23b1 : decide (0 ≤ a1) = true := decide_eq_true c23
      clear c23
      by_cases c24 : a1 ≤ (wrap64 (t607 + 4))
      ·rw [if_pos c24] at H
       have c24b0 := eq_true c24
       have c24b1 : decide (a1 ≤ (wrap64 (t607 + 4))) = true := decide_eq_true c24
       by_cases c25 : (wrap64 (t607 + 4)) ≤ (a0.size : Int)
       ·rw [if_pos c25] at H
        have c25b0 := eq_true c25
        have c25b1 : decide ((wrap64 (t607 + 4)) ≤ (a0.size : Int)) = true := decide_eq_true c25
        by_cases c26 : t610.toList = (a0.extract (a1 : Int).toNat ((wrap64 (t607 + 4)) : Int).toNat).toList
        ·rw [if_pos c26] at H
         have c26b0 : (t610.toList == (a0.extract (a1 : Int).toNat ((wrap64 (t607 + 4)) : Int).toNat).toList) = true := beq_iff_eq.mpr c26
         have c26b1 : (t610.toList != (a0.extract (a1 : Int).toNat ((wrap64 (t607 + 4)) : Int).toNat).toList) = false := bne_eq_false_iff_eq.mpr c26
         clear c26
         simp only [Option.some.injEq, Prod.mk.injEq] at H
         obtain ⟨rfl, rfl, rfl, rfl, rfl⟩ := H
         have hnb27 := NB609_599.out
         have hnc27 := NB599_609.out
         have hcz28_0 : wc.cell? ⟨gb609, 0, none⟩ = some (.int .i64 t600) := bc BK609 0
         have hcz28_1 : wc.cell? ⟨gb609, 1, none⟩ = some (.int .i64 t603) := bc BK609 1
         have hcz28_2 : wc.cell? ⟨gb609, 2, none⟩ = some (.string t606) := bc BK609 2
         have hfz28_0 := blk_frozen BK609.out 0
         have hfz28_1 := blk_frozen BK609.out 1
         have hfz28_2 := blk_frozen BK609.out 2
         go_wp2_with (first | ((with_reducible refine gate_callee (f := 80) rfl ?_); refine gl (some 68) Try.func80 #[.agg #[.int .i64 t600, .int .i64 t603, .string t606]] ?_; (with_reducible refine (spec_FrameText.calls kj5 t600 t603 t606 t610 true _ A21.out).mono ?_); rintro e w29 ⟨rfl, hb⟩; refine ⟨_, rfl, ?_⟩; replace BK599 := bB BK599 hb; replace BK609 := bB BK609 hb; replace HB := ak (below_step (lT HB (gC GE599 (gC GE609 gN))) hb); (try clear hb); (try clear hk); obtain ⟨hcz30_0, hcz30_1, hcz30_2, hfz30_0, hfz30_1, hfz30_2⟩ := bC3 BK609; obtain ⟨hcz31_0, hcz31_1, hcz31_2, hfz31_0, hfz31_1, hfz31_2⟩ := bC3 BK599))
         refine bodyPost_ret (results_ctt rfl _ _ gb599 74 #[.int .i64 t600, .int .i64 t603, .string t606] (0, 0) _ rfl (bW BK599) Try.underlying74 rfl (by kernel_rfl)) rfl ?_
         exact ⟨ew, by exact lT HB (gC GE599 (gC GE609 gN))⟩
        ·rw [if_neg c26] at H
         have c26b0 : (t610.toList == (a0.extract (a1 : Int).toNat ((wrap64 (t607 + 4)) : Int).toNat).toList) = false := beq_eq_false_iff_ne.mpr c26
         have c26b1 : (t610.toList != (a0.extract (a1 : Int).toNat ((wrap64 (t607 + 4)) : Int).toNat).toList) = true := bne_iff_ne.mpr c26
         simp only [Option.some.injEq, Prod.mk.injEq] at H
         obtain ⟨rfl, rfl, rfl, rfl, rfl⟩ := H
         have hnb32 := NB609_599.out
         have hnc32 := NB599_609.out
         have hcz33_0 : wc.cell? ⟨gb609, 0, none⟩ = some (.int .i64 t600) := bc BK609 0
         have hcz33_1 : wc.cell? ⟨gb609, 1, none⟩ = some (.int .i64 t603) := bc BK609 1
         have hcz33_2 : wc.cell? ⟨gb609, 2, none⟩ = some (.string t606) := bc BK609 2
         have hfz33_0 := blk_frozen BK609.out 0
         have hfz33_1 := blk_frozen BK609.out 1
         have hfz33_2 := blk_frozen BK609.out 2
         go_wp2_with (first | ((with_reducible refine gate_callee (f := 80) rfl ?_); refine gl (some 68) Try.func80 #[.agg #[.int .i64 t600, .int .i64 t603, .string t606]] ?_; (with_reducible refine (spec_FrameText.calls kj5 t600 t603 t606 t610 true _ A21.out).mono ?_); rintro e w34 ⟨rfl, hb⟩; refine ⟨_, rfl, ?_⟩; replace BK599 := bB BK599 hb; replace BK609 := bB BK609 hb; replace HB := ak (below_step (lT HB (gC GE599 (gC GE609 gN))) hb); (try clear hb); (try clear hk); obtain ⟨hcz35_0, hcz35_1, hcz35_2, hfz35_0, hfz35_1, hfz35_2⟩ := bC3 BK599))
         refine bodyPost_ret (results_ctt rfl _ _ gb599 74 #[.int .i64 0, .int .i64 0, .string (⟨#[]⟩ : ByteArray)] (0, 0) _ rfl (bW BK599) Try.underlying74 rfl (by kernel_rfl)) rfl ?_
         exact ⟨ew, by exact lT HB (gC GE599 (gC GE609 gN))⟩
       ·rw [if_neg c25] at H
        exact absurd H (by simp)
      ·rw [if_neg c24] at H
       exact absurd H (by simp)
     ·rw [if_neg c23] at H
      exact absurd H (by simp)
    ·replace c22 := Bool.eq_false_iff.mpr c22
     subst c22
     have H1 : (some (0, 0, (⟨#[]⟩ : ByteArray), 0, false)) = some (r1, r2, r3, r4, r5) := by rw [if_neg (show ¬ (false = true) by decide)] at H; exact H
     clear H
     have H := H1
     clear H1
     simp only [Option.some.injEq, Prod.mk.injEq] at H
     obtain ⟨rfl, rfl, rfl, rfl, rfl⟩ := H
     have hnb36 := NB609_599.out
     have hnc36 := NB599_609.out
     have hcz37_0 : wc.cell? ⟨gb609, 0, none⟩ = some (.int .i64 t600) := bc BK609 0
     have hcz37_1 : wc.cell? ⟨gb609, 1, none⟩ = some (.int .i64 t603) := bc BK609 1
     have hcz37_2 : wc.cell? ⟨gb609, 2, none⟩ = some (.string t606) := bc BK609 2
     have hfz37_0 := blk_frozen BK609.out 0
     have hfz37_1 := blk_frozen BK609.out 1
     have hfz37_2 := blk_frozen BK609.out 2
     go_wp2_with (first | ((with_reducible refine gate_callee (f := 80) rfl ?_); refine gl (some 68) Try.func80 #[.agg #[.int .i64 t600, .int .i64 t603, .string t606]] ?_; (with_reducible refine (spec_FrameText.calls kj5 t600 t603 t606 t610 false _ A21.out).mono ?_); rintro e w38 ⟨rfl, hb⟩; refine ⟨_, rfl, ?_⟩; replace BK599 := bB BK599 hb; replace BK609 := bB BK609 hb; replace HB := ak (below_step (lT HB (gC GE599 (gC GE609 gN))) hb); (try clear hb); (try clear hk); obtain ⟨hcz39_0, hcz39_1, hcz39_2, hfz39_0, hfz39_1, hfz39_2⟩ := bC3 BK599))
     refine bodyPost_ret (results_ctt rfl _ _ gb599 74 #[.int .i64 0, .int .i64 0, .string (⟨#[]⟩ : ByteArray)] (0, 0) _ rfl (bW BK599) Try.underlying74 rfl (by kernel_rfl)) rfl ?_
     exact ⟨ew, by exact lT HB (gC GE599 (gC GE609 gN))⟩
/-! ### spec_SegGen: function 42 -/
def spec_SegGen.f (k : Nat) (l0_0 : List ByteArray) (l0_1 : List (S63)) (a1 : Int) : Option (Int) := (spec_SegText.f k l0_0 l0_1 a1).bind fun t613 => ((spec_ReadFrame.f k t613 0).bind fun bt614 => (if bt614.2.2.2.2 = true then (if bt614.2.2.1.toList = ([115, 101, 103] : List UInt8) then (some bt614.1) else (some 0)) else (some 0)))
theorem spec_SegGen.mono : ∀ a0 a1 a2 k, LeO (spec_SegGen.f k a0 a1 a2) (spec_SegGen.f (k + 1) a0 a1 a2) := by
 intro a0 a1 a2 k
 unfold spec_SegGen.f
 repeat' first
   | (with_reducible exact spec_ReadFrame.mono _ _ _)
   | (with_reducible exact spec_SegText.mono _ _ _ _)
   | (with_reducible exact LeO.refl _)
   | (with_reducible exact LeO.none _)
   | (with_reducible refine LeO.ite ?_ ?_)
   | (with_reducible refine LeO.bind ?_ (fun _ => ?_))
   | exact spec_ReadFrame.mono _ _ _
   | exact spec_SegText.mono _ _ _ _
   | exact LeO.none _
   | refine LeO.ite ?_ ?_
   | refine LeO.bind ?_ (fun _ => ?_)
theorem spec_SegGen.calls (k : Nat) (A0_0 : Option Addr) (c0_0 : Nat) (l0_0 : List ByteArray) (A0_1 : Option Addr) (c0_1 : Nat) (l0_1 : List (S63)) (a1 : Int) (r : Int) (w : World) (hr0_0 : Kd.C Kd.string w A0_0 l0_0.length l0_0) (hc0_0 : l0_0.length ≤ c0_0) (hr0_1 : Kd.C k63 w A0_1 l0_1.length l0_1) (hc0_1 : l0_1.length ≤ c0_1) (h : spec_SegGen.f k l0_0 l0_1 a1 = some r) :
  Calls Try.prog 42 #[.agg #[.slice A0_0 l0_0.length c0_0, .slice A0_1 l0_1.length c0_1], .int .i64 a1] w fun e w' => e = .returned (.int .i64 r) ∧ Below w.heap.size w w' := by
 have hu27 := Try.underlying27
 have hu74 := Try.underlying74
 have HR0_0 := Aside0.mk hr0_0
 have HC0_0 := Aside0.mk hc0_0
 clear hr0_0 hc0_0
 have HR0_1 := Aside0.mk hr0_1
 have HC0_1 := Aside0.mk hc0_1
 clear hr0_1 hc0_1
 have HB := ak (Below.refl w.heap.size w)
 have H : ((spec_SegText.f k l0_0 l0_1 a1).bind fun t613 => ((spec_ReadFrame.f k t613 0).bind fun bt614 => (if bt614.2.2.2.2 = true then (if bt614.2.2.1.toList = ([115, 101, 103] : List UInt8) then (some bt614.1) else (some 0)) else (some 0)))) = some r := h
 clear h
 replace H := Option.bind_eq_some_iff.mp H
 obtain ⟨t613, A30, H⟩ := H
 replace H : ((spec_ReadFrame.f k t613 0).bind fun bt614 => (if bt614.2.2.2.2 = true then (if bt614.2.2.1.toList = ([115, 101, 103] : List UInt8) then (some bt614.1) else (some 0)) else (some 0))) = some r := H
 have A3 := Aside0.mk A30
 clear A30
 replace H := Option.bind_eq_some_iff.mp H
 obtain ⟨⟨t614, t615, t616, t617, t618⟩, A40, H⟩ := H
 replace H : (if t618 = true then (if t616.toList = ([115, 101, 103] : List UInt8) then (some t614) else (some 0)) else (some 0)) = some r := H
 have A4 := Aside0.mk A40
 clear A40
 by_cases c5 : t618 = true
 ·subst c5
  have H1 : (if t616.toList = ([115, 101, 103] : List UInt8) then (some t614) else (some 0)) = some r := by rw [if_pos rfl] at H; exact H
  clear H
  have H := H1
  clear H1
  by_cases c6 : t616.toList = ([115, 101, 103] : List UInt8)
  ·rw [if_pos c6] at H
   have c6b0 : (t616.toList == ([115, 101, 103] : List UInt8)) = true := beq_iff_eq.mpr c6
   have c6b1 : (t616.toList != ([115, 101, 103] : List UInt8)) = false := bne_eq_false_iff_eq.mpr c6
   clear c6
   obtain rfl := Option.some.inj H
   go_enter Try.func42, Try.ntmps42
   go_wp2_with (first | ((with_reducible refine gate_dst (N := 2) rfl ?_); refine bx 2 #[.slice A0_0 l0_0.length c0_0, .slice A0_1 l0_1.length c0_1] 27 ?_; intro gb612 hg w7 hbox hb; replace BK612 := ak (hbox); replace GW612 := ak (bz hg (lG HB)); replace GE612 := ak (bz hg (lG HB)); replace HB := lB HB hb; clear hb hbox hg; obtain ⟨hcz8_0, hcz8_1, hfz8_0, hfz8_1⟩ := bC2 BK612) | ((with_reducible refine gate_callee (f := 25) rfl ?_); refine gl (some 11) Try.func25 #[.agg #[.slice A0_0 l0_0.length c0_0, .slice A0_1 l0_1.length c0_1], .int .i64 a1] ?_; (with_reducible refine (spec_SegText.calls k _ _ l0_0 _ _ l0_1 a1 t613 _ ?side1 ?side2 ?side3 ?side4 A3.out).mono ?_); (case side1 => exact cG (Kd.C_below HR0_0.out HB.out)); (case side2 => exact HC0_0.out); (case side3 => exact cG (Kd.C_below HR0_1.out HB.out)); (case side4 => exact HC0_1.out); rintro e w9 ⟨rfl, hb⟩; refine ⟨_, rfl, ?_⟩; replace BK612 := bB BK612 hb; replace HB := ak (below_step (lT HB (gC GE612 gN)) hb); (try clear hb); (try clear hk)) | ((with_reducible refine gate_callee (f := 70) rfl ?_); refine gl (some 12) Try.func70 #[.string t613, .int .i64 0] ?_; (with_reducible refine (spec_ReadFrame.calls k t613 0 t614 t615 t616 t617 true _ A4.out).mono ?_); rintro e w10 ⟨rfl, hb⟩; refine ⟨_, rfl, ?_⟩; replace BK612 := bB BK612 hb; replace HB := ak (below_step (lT HB (gC GE612 gN)) hb); (try clear hb); (try clear hk)) | ((with_reducible refine gate_dst (N := 5) rfl ?_); refine bx 5 #[.int .i64 0, .int .i64 0, .string (⟨#[]⟩ : ByteArray)] 74 ?_; intro gb619 hg w11 hbox hb; replace BK619 := ak (hbox); replace GW619 := ak (bz hg (lT HB (gC GE612 gN))); replace GE619 := ak (bz hg (lT HB (gC GE612 gN))); replace HB := ak (below_step (lT HB (gC GE612 gN)) hb); replace NB612_619 := ak (nl hg (bG BK612)); replace NB619_612 := ak (ng hg (bG BK612)); replace BK612 := bB BK612 hb; clear hb hbox hg; have hnb12 := NB619_612.out; have hnc12 := NB612_619.out; obtain ⟨hcz13_0, hcz13_1, hcz13_2, hfz13_0, hfz13_1, hfz13_2⟩ := bC3 BK619))
   go_ret
   exact ⟨ew, by exact lT HB (gC GE612 (gC GE619 gN))⟩
  ·rw [if_neg c6] at H
   have c6b0 : (t616.toList == ([115, 101, 103] : List UInt8)) = false := beq_eq_false_iff_ne.mpr c6
   have c6b1 : (t616.toList != ([115, 101, 103] : List UInt8)) = true := bne_iff_ne.mpr c6
   obtain rfl := Option.some.inj H
   go_enter Try.func42, Try.ntmps42
   go_wp2_with (first | ((with_reducible refine gate_dst (N := 2) rfl ?_); refine bx 2 #[.slice A0_0 l0_0.length c0_0, .slice A0_1 l0_1.length c0_1] 27 ?_; intro gb612 hg w14 hbox hb; replace BK612 := ak (hbox); replace GW612 := ak (bz hg (lG HB)); replace GE612 := ak (bz hg (lG HB)); replace HB := lB HB hb; clear hb hbox hg; obtain ⟨hcz15_0, hcz15_1, hfz15_0, hfz15_1⟩ := bC2 BK612) | ((with_reducible refine gate_callee (f := 25) rfl ?_); refine gl (some 11) Try.func25 #[.agg #[.slice A0_0 l0_0.length c0_0, .slice A0_1 l0_1.length c0_1], .int .i64 a1] ?_; (with_reducible refine (spec_SegText.calls k _ _ l0_0 _ _ l0_1 a1 t613 _ ?side1 ?side2 ?side3 ?side4 A3.out).mono ?_); (case side1 => exact cG (Kd.C_below HR0_0.out HB.out)); (case side2 => exact HC0_0.out); (case side3 => exact cG (Kd.C_below HR0_1.out HB.out)); (case side4 => exact HC0_1.out); rintro e w16 ⟨rfl, hb⟩; refine ⟨_, rfl, ?_⟩; replace BK612 := bB BK612 hb; replace HB := ak (below_step (lT HB (gC GE612 gN)) hb); (try clear hb); (try clear hk)) | ((with_reducible refine gate_callee (f := 70) rfl ?_); refine gl (some 12) Try.func70 #[.string t613, .int .i64 0] ?_; (with_reducible refine (spec_ReadFrame.calls k t613 0 t614 t615 t616 t617 true _ A4.out).mono ?_); rintro e w17 ⟨rfl, hb⟩; refine ⟨_, rfl, ?_⟩; replace BK612 := bB BK612 hb; replace HB := ak (below_step (lT HB (gC GE612 gN)) hb); (try clear hb); (try clear hk)) | ((with_reducible refine gate_dst (N := 5) rfl ?_); refine bx 5 #[.int .i64 0, .int .i64 0, .string (⟨#[]⟩ : ByteArray)] 74 ?_; intro gb619 hg w18 hbox hb; replace BK619 := ak (hbox); replace GW619 := ak (bz hg (lT HB (gC GE612 gN))); replace GE619 := ak (bz hg (lT HB (gC GE612 gN))); replace HB := ak (below_step (lT HB (gC GE612 gN)) hb); replace NB612_619 := ak (nl hg (bG BK612)); replace NB619_612 := ak (ng hg (bG BK612)); replace BK612 := bB BK612 hb; clear hb hbox hg; have hnb19 := NB619_612.out; have hnc19 := NB612_619.out; obtain ⟨hcz20_0, hcz20_1, hcz20_2, hfz20_0, hfz20_1, hfz20_2⟩ := bC3 BK619))
   go_ret
   exact ⟨ew, by exact lT HB (gC GE612 (gC GE619 gN))⟩
 ·replace c5 := Bool.eq_false_iff.mpr c5
  subst c5
  have H1 : (some 0) = some r := by rw [if_neg (show ¬ (false = true) by decide)] at H; exact H
  clear H
  have H := H1
  clear H1
  obtain rfl := Option.some.inj H
  go_enter Try.func42, Try.ntmps42
  go_wp2_with (first | ((with_reducible refine gate_dst (N := 2) rfl ?_); refine bx 2 #[.slice A0_0 l0_0.length c0_0, .slice A0_1 l0_1.length c0_1] 27 ?_; intro gb612 hg w21 hbox hb; replace BK612 := ak (hbox); replace GW612 := ak (bz hg (lG HB)); replace GE612 := ak (bz hg (lG HB)); replace HB := lB HB hb; clear hb hbox hg; obtain ⟨hcz22_0, hcz22_1, hfz22_0, hfz22_1⟩ := bC2 BK612) | ((with_reducible refine gate_callee (f := 25) rfl ?_); refine gl (some 11) Try.func25 #[.agg #[.slice A0_0 l0_0.length c0_0, .slice A0_1 l0_1.length c0_1], .int .i64 a1] ?_; (with_reducible refine (spec_SegText.calls k _ _ l0_0 _ _ l0_1 a1 t613 _ ?side1 ?side2 ?side3 ?side4 A3.out).mono ?_); (case side1 => exact cG (Kd.C_below HR0_0.out HB.out)); (case side2 => exact HC0_0.out); (case side3 => exact cG (Kd.C_below HR0_1.out HB.out)); (case side4 => exact HC0_1.out); rintro e w23 ⟨rfl, hb⟩; refine ⟨_, rfl, ?_⟩; replace BK612 := bB BK612 hb; replace HB := ak (below_step (lT HB (gC GE612 gN)) hb); (try clear hb); (try clear hk)) | ((with_reducible refine gate_callee (f := 70) rfl ?_); refine gl (some 12) Try.func70 #[.string t613, .int .i64 0] ?_; (with_reducible refine (spec_ReadFrame.calls k t613 0 t614 t615 t616 t617 false _ A4.out).mono ?_); rintro e w24 ⟨rfl, hb⟩; refine ⟨_, rfl, ?_⟩; replace BK612 := bB BK612 hb; replace HB := ak (below_step (lT HB (gC GE612 gN)) hb); (try clear hb); (try clear hk)) | ((with_reducible refine gate_dst (N := 5) rfl ?_); refine bx 5 #[.int .i64 0, .int .i64 0, .string (⟨#[]⟩ : ByteArray)] 74 ?_; intro gb619 hg w25 hbox hb; replace BK619 := ak (hbox); replace GW619 := ak (bz hg (lT HB (gC GE612 gN))); replace GE619 := ak (bz hg (lT HB (gC GE612 gN))); replace HB := ak (below_step (lT HB (gC GE612 gN)) hb); replace NB612_619 := ak (nl hg (bG BK612)); replace NB619_612 := ak (ng hg (bG BK612)); replace BK612 := bB BK612 hb; clear hb hbox hg; have hnb26 := NB619_612.out; have hnc26 := NB612_619.out; obtain ⟨hcz27_0, hcz27_1, hcz27_2, hfz27_0, hfz27_1, hfz27_2⟩ := bC3 BK619))
  go_ret
  exact ⟨ew, by exact lT HB (gC GE612 (gC GE619 gN))⟩
/-! ### spec_ScanFrames: function 66 -/
def spec_ScanFrames.l0 : Nat → ByteArray → Int → List (S74) → Int → Option ((List (S74)) × Int)
 | 0, _, _, _, _ => none
 | k + 1, x0, x1, x6, x7 => (spec_ReadFrame.f k x0 x7).bind fun bt623 => (if bt623.2.2.2.2 = true then (if bt623.1 = x1 then (if x6.length < 4398046511104 then (spec_ScanFrames.l0 k x0 x1 (x6 ++ [(⟨bt623.1, bt623.2.1, bt623.2.2.1⟩ : S74)]) bt623.2.2.2.1) else (none)) else (some (x6, x7))) else (some (x6, x7)))
def spec_ScanFrames.f (k : Nat) (a0 : ByteArray) (a1 : Int) : Option ((List (S74)) × Int) := spec_ScanFrames.l0 k a0 a1 (([] : List (S74))) 0
theorem spec_ScanFrames.mono_l : ∀ k, (∀ y0 y1 y2 y3, LeO (spec_ScanFrames.l0 k y0 y1 y2 y3) (spec_ScanFrames.l0 (k + 1) y0 y1 y2 y3))
 | 0 => fun _ _ _ _ r h => by simp [spec_ScanFrames.l0] at h
 | k + 1 => by
  have ih0 := spec_ScanFrames.mono_l k
  ·intro y0 y1 y2 y3
   unfold spec_ScanFrames.l0
   repeat' first
   | (with_reducible exact ih0 _ _ _ _)
   | (with_reducible exact spec_ReadFrame.mono _ _ _)
   | (with_reducible exact LeO.refl _)
   | (with_reducible exact LeO.none _)
   | (with_reducible refine LeO.ite ?_ ?_)
   | (with_reducible refine LeO.bind ?_ (fun _ => ?_))
   | exact ih0 _ _ _ _
   | exact spec_ReadFrame.mono _ _ _
   | exact LeO.none _
   | refine LeO.ite ?_ ?_
   | refine LeO.bind ?_ (fun _ => ?_)
theorem spec_ScanFrames.mono : ∀ a0 a1 k, LeO (spec_ScanFrames.f k a0 a1) (spec_ScanFrames.f (k + 1) a0 a1) := by
 intro a0 a1 k
 have ih0 := spec_ScanFrames.mono_l k
 unfold spec_ScanFrames.f
 repeat' first
   | (with_reducible exact ih0 _ _ _ _)
   | (with_reducible exact spec_ReadFrame.mono _ _ _)
   | (with_reducible exact LeO.refl _)
   | (with_reducible exact LeO.none _)
   | (with_reducible refine LeO.ite ?_ ?_)
   | (with_reducible refine LeO.bind ?_ (fun _ => ?_))
   | exact ih0 _ _ _ _
   | exact spec_ReadFrame.mono _ _ _
   | exact LeO.none _
   | refine LeO.ite ?_ ?_
   | refine LeO.bind ?_ (fun _ => ?_)
theorem spec_ScanFrames.calls (k : Nat) (a0 : ByteArray) (a1 : Int) (r1 : List (S74)) (r2 : Int) (w : World) (h : spec_ScanFrames.f k a0 a1 = some (r1, r2)) :
  Calls Try.prog 66 #[.string a0, .int .i64 a1] w fun e w' => ∃ v0_ : Value, e = .returned (.tuple #[v0_, .int .i64 r2]) ∧ Kd.R k74 74 w' w.heap.size (fun _ => True) v0_ r1 ∧ Below w.heap.size w w' := by
 have hu74 := Try.underlying74
 have HB := ak (Below.refl w.heap.size w)
 have H : (spec_ScanFrames.l0 k a0 a1 (([] : List (S74))) 0) = some (r1, r2) := h
 clear h
 obtain ⟨y620, hy620⟩ : ∃ y_ : List (S74), y_ = (([] : List (S74))) := ⟨_, rfl⟩
 replace H : (spec_ScanFrames.l0 k a0 a1 y620 0) = some (r1, r2) := by first | (rw [hy620]; with_reducible exact H) | (have H2_ := (Option.bind_some _ _).symm.trans H; rw [hy620]; with_reducible exact H2_) | (have H2_ := (Option.bind_some _ _).symm.trans H; with_reducible exact H2_) | with_reducible exact H | (rw [hy620]; exact H) | exact H
 have Ny620 := Aside0.mk hy620
 clear hy620
 have H' := Aside0.mk H
 clear H
 go_enter Try.func66, Try.ntmps66
 go_wp2_with (first | ((with_reducible refine gate_dst (N := 11) rfl ?_); refine Kd.R_lit k74 _ 74 ?hg (N := 11) ?hd (xs := ([] : List (S74))) (inner := []) (ok := fun _ => True) (okp := fun _ => True) ?hr ?hp (fun _ hk => hk) trivial (Below.refl _ _) (Nat.le_refl _) (by simp) ?_; (case hd => rfl); (case hg => rfl); (case hr => first | (go_simp; done) | (go_simp; rfl)); (case hp => exact (Reps.none _ _)); intro v621 w3 ho4 hb hg_ hnew_; clear hg_ hnew_; (first | rw [← Ny620.out] at ho4 | (simp only [Int.reduceToNat] at ho4; rw [← Ny620.out] at ho4)); replace HO622 := ak (Kd.R_lower ho4 (below_size (lG HB))); replace HB := lB HB hb; clear hb ho4))
 go_loopg [6, 7] k (fun kq v6 v7 w' => ∃ (x6_1 : List (S74)) (x7_1 : Int), v7 = .int .i64 x7_1 ∧ Aside0 (spec_ScanFrames.l0 kq a0 a1 x6_1 x7_1 = some (r1, r2)) ∧ Aside0 (kq ≤ k) ∧ Aside0 (Kd.R k74 74 w' w.heap.size (fun _ => True) v6 x6_1) ∧ Aside0 (Below w.heap.size w w'))
 case atStart => exact ⟨(y620), (0), (by first | rfl | (simp; done) | (simp [*]; done)), H', ⟨Nat.le_refl _⟩, ⟨by (with_reducible repeat (first | apply Kd.R_alloc | apply Kd.R_drewN | apply Kd.R_drew)); exact HO622.out⟩, ⟨by exact lG HB⟩⟩
 case round =>
  clear H'
  try clear p2
  obtain ⟨x6_1, x7_1, rfl, HA, HK1, HO_6, HB⟩ := hrel
  cases gk with
  | zero => exact absurd HA.out (by simp [spec_ScanFrames.l0])
  | succ k1 =>
   have H := HA.out
   clear HA
   simp only [spec_ScanFrames.l0] at H
   replace H := Option.bind_eq_some_iff.mp H
   obtain ⟨⟨t623, t624, t625, t626, t627⟩, A50, H⟩ := H
   replace H : (if t627 = true then (if t623 = a1 then (if x6_1.length < 4398046511104 then (spec_ScanFrames.l0 k1 a0 a1 (x6_1 ++ [(⟨t623, t624, t625⟩ : S74)]) t626) else (none)) else (some (x6_1, x7_1))) else (some (x6_1, x7_1))) = some (r1, r2) := H
   have A5 := Aside0.mk A50
   clear A50
   by_cases c6 : t627 = true
   ·subst c6
    have H1 : (if t623 = a1 then (if x6_1.length < 4398046511104 then (spec_ScanFrames.l0 k1 a0 a1 (x6_1 ++ [(⟨t623, t624, t625⟩ : S74)]) t626) else (none)) else (some (x6_1, x7_1))) = some (r1, r2) := by rw [if_pos rfl] at H; exact H
    clear H
    have H := H1
    clear H1
    by_cases c7 : t623 = a1
    ·rw [if_pos c7] at H
     have c7b0 : (t623 == a1) = true := beq_iff_eq.mpr c7
     have c7b1 : (t623 != a1) = false := bne_eq_false_iff_eq.mpr c7
     clear c7
     by_cases c8 : x6_1.length < 4398046511104
     ·rw [if_pos c8] at H
      have LMc8 := Aside0.mk c8
      clear c8
      obtain ⟨y629, hy629⟩ : ∃ y_ : List (S74), y_ = (x6_1 ++ [(⟨t623, t624, t625⟩ : S74)]) := ⟨_, rfl⟩
      replace H : (spec_ScanFrames.l0 k1 a0 a1 y629 t626) = some (r1, r2) := by first | (rw [hy629]; with_reducible exact H) | (have H2_ := (Option.bind_some _ _).symm.trans H; rw [hy629]; with_reducible exact H2_) | (have H2_ := (Option.bind_some _ _).symm.trans H; with_reducible exact H2_) | with_reducible exact H | (rw [hy629]; exact H) | exact H
      have Ny629 := Aside0.mk hy629
      clear hy629
      have H' := Aside0.mk H
      clear H
      go_wp2_with (first | ((with_reducible refine gate_callee (f := 70) rfl ?_); refine gl (some 15) Try.func70 #[.string a0, .int .i64 x7_1] ?_; (with_reducible refine (spec_ReadFrame.calls k1 a0 x7_1 t623 t624 t625 t626 true _ A5.out).mono ?_); rintro e w9 ⟨rfl, hb⟩; refine ⟨_, rfl, ?_⟩; replace HO_6 := rB HO_6 hb; replace HB := lB HB hb; (try clear hb); (try clear hk)) | ((with_reducible refine gate_dst (N := 8) rfl ?_); refine bx 8 #[.int .i64 0, .int .i64 0, .string (⟨#[]⟩ : ByteArray)] 74 ?_; intro gb628 hg w10 hbox hb; replace HO_6 := ak (Kd.R_below (Kd.R_elderB (rG HO_6) gb628 (Nat.le_of_eq hg.symm)) hb); replace BK628 := ak (hbox); replace GW628 := ak (bz hg (lG HB)); replace GE628 := ak (bz hg (lG HB)); replace HB := lB HB hb; clear hb hbox hg; obtain ⟨hcz11_0, hcz11_1, hcz11_2, hfz11_0, hfz11_1, hfz11_2⟩ := bC3 BK628) | ((with_reducible refine gate_builtin (b := .append) (xs := #[.tmp 29, .tmp 31]) rfl ?_); at_builtin; refine Kd.R_append k74 (w0 := w) w.heap.size rfl (.tmp 29) (.tmp 31) 52 74 (.agg #[(.int .i64 0), (.int .i64 0), (.string ⟨#[]⟩)]) 32 rfl Try.underlying52 info74 rfl (by decide) (by omega) u6 x6_1 (⟨t623, t624, t625⟩ : S74) [.int .i64 t623, .int .i64 t624, .string t625] (fun k_ => k_ ≠ gb628) (fun _ => False) rfl (by first | (go_simp; done) | (go_simp; rfl)) ?aP (fun _ hk => hk.elim) ?aF ?aO ?aB ?aS ?aL ?_; (case aP => exact k74_mkM _ _ _ (⟨t623, t624, t625⟩ : S74)); (case aB => exact (lT HB (gC GE628 gN))); (case aF => exact (fun k_ hk => Kd.freshB (g := gb628) (o := .cells #[.int .i64 t623, .int .i64 t624, .string t625] 74 (0, 0)) (bW BK628) k_ hk)); (case aO => exact (by (with_reducible repeat (first | apply Kd.R_alloc | apply Kd.R_drewN | apply Kd.R_drew)); exact Kd.R_mono (Kd.R_far (p := ⟨gb628, 2, none⟩) (Kd.R_far (p := ⟨gb628, 1, none⟩) (Kd.R_far (p := ⟨gb628, 0, none⟩) (Kd.R_mono HO_6.out (fun k_ hk => (⟨hk, hk.2⟩ : _ ∧ k_ ≠ gb628))) (fun _ hk => hk.2) (.int .i64 t623)) (fun _ hk => hk.2) (.int .i64 t624)) (fun _ hk => hk.2) (.string t625)) (fun _ hk => hk.1.2))); (case aS => exact (below_size (lT HB (gC GE628 gN)))); (case aL => have := LMc8.out; omega); intro v630 w12 ho hb hg hat; rw [← Ny629.out] at ho; have n0_ := ak (blk_grown (g := gb628) (o := .cells #[.int .i64 t623, .int .i64 t624, .string t625] 74 (0, 0)) (bW BK628) hg (Kd.R_away HO_6.out (fun _ hk => hk.2))); have n1_ := ak (hb); have n2_ := ak (ho); clear BK628; clear HB; clear HO_6; have BK628 := n0_; have HB := n1_; have HO631 := n2_; clear n0_ n1_ n2_; clear ho hb hg hat))
      go_roundg k1
      case measure => have := HK1.out; omega
      case rel => exact ⟨(y629), (t626), (by first | rfl | (simp; done) | (simp [*]; done)), H', ⟨by have := HK1.out; omega⟩, ⟨by (with_reducible repeat (first | apply Kd.R_alloc | apply Kd.R_drewN | apply Kd.R_drew)); exact Kd.R_mono HO631.out (fun _ hk => trivial)⟩, ⟨by exact lT HB (gC GE628 gN)⟩⟩
     ·rw [if_neg c8] at H
      exact absurd H (by simp)
    ·rw [if_neg c7] at H
     have c7b0 : (t623 == a1) = false := beq_eq_false_iff_ne.mpr c7
     have c7b1 : (t623 != a1) = true := bne_iff_ne.mpr c7
     simp only [Option.some.injEq, Prod.mk.injEq] at H
     obtain ⟨rfl, rfl⟩ := H
     go_wp2_with (first | ((with_reducible refine gate_callee (f := 70) rfl ?_); refine gl (some 15) Try.func70 #[.string a0, .int .i64 x7_1] ?_; (with_reducible refine (spec_ReadFrame.calls k1 a0 x7_1 t623 t624 t625 t626 true _ A5.out).mono ?_); rintro e w13 ⟨rfl, hb⟩; refine ⟨_, rfl, ?_⟩; replace HO_6 := rB HO_6 hb; replace HB := lB HB hb; (try clear hb); (try clear hk)) | ((with_reducible refine gate_dst (N := 8) rfl ?_); refine bx 8 #[.int .i64 0, .int .i64 0, .string (⟨#[]⟩ : ByteArray)] 74 ?_; intro gb628 hg w14 hbox hb; replace HO_6 := ak (Kd.R_below (Kd.R_elderB (rG HO_6) gb628 (Nat.le_of_eq hg.symm)) hb); replace BK628 := ak (hbox); replace GW628 := ak (bz hg (lG HB)); replace GE628 := ak (bz hg (lG HB)); replace HB := lB HB hb; clear hb hbox hg; obtain ⟨hcz15_0, hcz15_1, hcz15_2, hfz15_0, hfz15_1, hfz15_2⟩ := bC3 BK628))
     go_ret2
     exact ⟨_, ew, by (with_reducible repeat (first | apply Kd.R_alloc | apply Kd.R_drewN | apply Kd.R_drew)); exact Kd.R_mono (Kd.R_far (p := ⟨gb628, 2, none⟩) (Kd.R_far (p := ⟨gb628, 1, none⟩) (Kd.R_far (p := ⟨gb628, 0, none⟩) (Kd.R_mono HO_6.out (fun k_ hk => (⟨hk, hk.2⟩ : _ ∧ k_ ≠ gb628))) (fun _ hk => hk.2) (.int .i64 t623)) (fun _ hk => hk.2) (.int .i64 t624)) (fun _ hk => hk.2) (.string t625)) (fun _ hk => trivial), by exact lT HB (gC GE628 gN)⟩
   ·replace c6 := Bool.eq_false_iff.mpr c6
    subst c6
    have H1 : (some (x6_1, x7_1)) = some (r1, r2) := by rw [if_neg (show ¬ (false = true) by decide)] at H; exact H
    clear H
    have H := H1
    clear H1
    simp only [Option.some.injEq, Prod.mk.injEq] at H
    obtain ⟨rfl, rfl⟩ := H
    go_wp2_with (first | ((with_reducible refine gate_callee (f := 70) rfl ?_); refine gl (some 15) Try.func70 #[.string a0, .int .i64 x7_1] ?_; (with_reducible refine (spec_ReadFrame.calls k1 a0 x7_1 t623 t624 t625 t626 false _ A5.out).mono ?_); rintro e w16 ⟨rfl, hb⟩; refine ⟨_, rfl, ?_⟩; replace HO_6 := rB HO_6 hb; replace HB := lB HB hb; (try clear hb); (try clear hk)) | ((with_reducible refine gate_dst (N := 8) rfl ?_); refine bx 8 #[.int .i64 0, .int .i64 0, .string (⟨#[]⟩ : ByteArray)] 74 ?_; intro gb628 hg w17 hbox hb; replace HO_6 := ak (Kd.R_below (Kd.R_elderB (rG HO_6) gb628 (Nat.le_of_eq hg.symm)) hb); replace BK628 := ak (hbox); replace GW628 := ak (bz hg (lG HB)); replace GE628 := ak (bz hg (lG HB)); replace HB := lB HB hb; clear hb hbox hg; obtain ⟨hcz18_0, hcz18_1, hcz18_2, hfz18_0, hfz18_1, hfz18_2⟩ := bC3 BK628))
    go_ret2
    exact ⟨_, ew, by (with_reducible repeat (first | apply Kd.R_alloc | apply Kd.R_drewN | apply Kd.R_drew)); exact Kd.R_mono (Kd.R_far (p := ⟨gb628, 2, none⟩) (Kd.R_far (p := ⟨gb628, 1, none⟩) (Kd.R_far (p := ⟨gb628, 0, none⟩) (Kd.R_mono HO_6.out (fun k_ hk => (⟨hk, hk.2⟩ : _ ∧ k_ ≠ gb628))) (fun _ hk => hk.2) (.int .i64 t623)) (fun _ hk => hk.2) (.int .i64 t624)) (fun _ hk => hk.2) (.string t625)) (fun _ hk => trivial), by exact lT HB (gC GE628 gN)⟩
/-! ### spec_SegFrames: function 39 -/
def spec_SegFrames.f (k : Nat) (l0_0 : List ByteArray) (l0_1 : List (S63)) (a1 : Int) : Option ((List (S74)) × Int) := (spec_SegGen.f k l0_0 l0_1 a1).bind fun t633 => (if t633 = 0 then (some ((([] : List (S74))), 0)) else ((spec_SegText.f k l0_0 l0_1 a1).bind fun t637 => ((spec_ScanFrames.f k t637 t633).bind fun bt638 => ((some (([] : List (S74)) : List (S74))).bind fun y642 => (if 1 ≤ (bt638.1.length : Int) then ((some (bt638.1.drop 1 : List (S74))).bind fun y645 => (if y642.length + y645.length < 4398046511104 then (some ((y642 ++ y645), bt638.2)) else (none))) else (none))))))
theorem spec_SegFrames.mono : ∀ a0 a1 a2 k, LeO (spec_SegFrames.f k a0 a1 a2) (spec_SegFrames.f (k + 1) a0 a1 a2) := by
 intro a0 a1 a2 k
 unfold spec_SegFrames.f
 repeat' first
   | (with_reducible exact spec_ScanFrames.mono _ _ _)
   | (with_reducible exact spec_SegGen.mono _ _ _ _)
   | (with_reducible exact spec_SegText.mono _ _ _ _)
   | (with_reducible exact LeO.refl _)
   | (with_reducible exact LeO.none _)
   | (with_reducible refine LeO.ite ?_ ?_)
   | (with_reducible refine LeO.bind ?_ (fun _ => ?_))
   | exact spec_ScanFrames.mono _ _ _
   | exact spec_SegGen.mono _ _ _ _
   | exact spec_SegText.mono _ _ _ _
   | exact LeO.none _
   | refine LeO.ite ?_ ?_
   | refine LeO.bind ?_ (fun _ => ?_)
theorem spec_SegFrames.calls (k : Nat) (A0_0 : Option Addr) (c0_0 : Nat) (l0_0 : List ByteArray) (A0_1 : Option Addr) (c0_1 : Nat) (l0_1 : List (S63)) (a1 : Int) (r1 : List (S74)) (r2 : Int) (w : World) (hr0_0 : Kd.C Kd.string w A0_0 l0_0.length l0_0) (hc0_0 : l0_0.length ≤ c0_0) (hr0_1 : Kd.C k63 w A0_1 l0_1.length l0_1) (hc0_1 : l0_1.length ≤ c0_1) (h : spec_SegFrames.f k l0_0 l0_1 a1 = some (r1, r2)) :
  Calls Try.prog 39 #[.agg #[.slice A0_0 l0_0.length c0_0, .slice A0_1 l0_1.length c0_1], .int .i64 a1] w fun e w' => ∃ v0_ : Value, e = .returned (.tuple #[v0_, .int .i64 r2]) ∧ Kd.R k74 74 w' w.heap.size (fun _ => True) v0_ r1 ∧ Below w.heap.size w w' := by
 have hu27 := Try.underlying27
 have HR0_0 := Aside0.mk hr0_0
 have HC0_0 := Aside0.mk hc0_0
 clear hr0_0 hc0_0
 have HR0_1 := Aside0.mk hr0_1
 have HC0_1 := Aside0.mk hc0_1
 clear hr0_1 hc0_1
 have HB := ak (Below.refl w.heap.size w)
 have H : ((spec_SegGen.f k l0_0 l0_1 a1).bind fun t633 => (if t633 = 0 then (some ((([] : List (S74))), 0)) else ((spec_SegText.f k l0_0 l0_1 a1).bind fun t637 => ((spec_ScanFrames.f k t637 t633).bind fun bt638 => ((some (([] : List (S74)) : List (S74))).bind fun y642 => (if 1 ≤ (bt638.1.length : Int) then ((some (bt638.1.drop 1 : List (S74))).bind fun y645 => (if y642.length + y645.length < 4398046511104 then (some ((y642 ++ y645), bt638.2)) else (none))) else (none))))))) = some (r1, r2) := h
 clear h
 replace H := Option.bind_eq_some_iff.mp H
 obtain ⟨t633, A30, H⟩ := H
 replace H : (if t633 = 0 then (some ((([] : List (S74))), 0)) else ((spec_SegText.f k l0_0 l0_1 a1).bind fun t637 => ((spec_ScanFrames.f k t637 t633).bind fun bt638 => ((some (([] : List (S74)) : List (S74))).bind fun y642 => (if 1 ≤ (bt638.1.length : Int) then ((some (bt638.1.drop 1 : List (S74))).bind fun y645 => (if y642.length + y645.length < 4398046511104 then (some ((y642 ++ y645), bt638.2)) else (none))) else (none)))))) = some (r1, r2) := H
 have A3 := Aside0.mk A30
 clear A30
 by_cases c4 : t633 = 0
 ·rw [if_pos c4] at H
  have c4b0 : (t633 == 0) = true := beq_iff_eq.mpr c4
  have c4b1 : (t633 != 0) = false := bne_eq_false_iff_eq.mpr c4
  clear c4
  obtain ⟨y634, hy634⟩ : ∃ y_ : List (S74), y_ = (([] : List (S74))) := ⟨_, rfl⟩
  replace H : (some (y634, 0)) = some (r1, r2) := by first | (rw [hy634]; with_reducible exact H) | (have H2_ := (Option.bind_some _ _).symm.trans H; rw [hy634]; with_reducible exact H2_) | (have H2_ := (Option.bind_some _ _).symm.trans H; with_reducible exact H2_) | with_reducible exact H | (rw [hy634]; exact H) | exact H
  have Ny634 := Aside0.mk hy634
  clear hy634
  simp only [Option.some.injEq, Prod.mk.injEq] at H
  obtain ⟨rfl, rfl⟩ := H
  go_enter Try.func39, Try.ntmps39
  go_wp2_with (first | ((with_reducible refine gate_dst (N := 2) rfl ?_); refine bx 2 #[.slice A0_0 l0_0.length c0_0, .slice A0_1 l0_1.length c0_1] 27 ?_; intro gb632 hg w5 hbox hb; replace BK632 := ak (hbox); replace GW632 := ak (bz hg (lG HB)); replace GE632 := ak (bz hg (lG HB)); replace HB := lB HB hb; clear hb hbox hg; obtain ⟨hcz6_0, hcz6_1, hfz6_0, hfz6_1⟩ := bC2 BK632) | ((with_reducible refine gate_callee (f := 42) rfl ?_); refine gl (some 11) Try.func42 #[.agg #[.slice A0_0 l0_0.length c0_0, .slice A0_1 l0_1.length c0_1], .int .i64 a1] ?_; (with_reducible refine (spec_SegGen.calls k _ _ l0_0 _ _ l0_1 a1 t633 _ ?side1 ?side2 ?side3 ?side4 A3.out).mono ?_); (case side1 => exact cG (Kd.C_below HR0_0.out HB.out)); (case side2 => exact HC0_0.out); (case side3 => exact cG (Kd.C_below HR0_1.out HB.out)); (case side4 => exact HC0_1.out); rintro e w7 ⟨rfl, hb⟩; refine ⟨_, rfl, ?_⟩; replace BK632 := bB BK632 hb; replace HB := ak (below_step (lT HB (gC GE632 gN)) hb); (try clear hb); (try clear hk)) | ((with_reducible refine gate_dst (N := 14) rfl ?_); refine Kd.R_lit k74 _ 74 ?hg (N := 14) ?hd (xs := ([] : List (S74))) (inner := []) (ok := fun _ => True) (okp := fun _ => True) ?hr ?hp (fun _ hk => hk) trivial (Below.refl _ _) (Nat.le_refl _) (by simp) ?_; (case hd => rfl); (case hg => rfl); (case hr => first | (go_simp; done) | (go_simp; rfl)); (case hp => exact (Reps.none _ _)); intro v635 w8 ho9 hb hg_ hnew_; clear hg_ hnew_; (first | rw [← Ny634.out] at ho9 | (simp only [Int.reduceToNat] at ho9; rw [← Ny634.out] at ho9)); replace HO636 := ak (Kd.R_lower ho9 (below_size (lT HB (gC GE632 gN)))); replace BK632 := bB BK632 hb; replace HB := ak (below_step (lT HB (gC GE632 gN)) hb); clear hb ho9))
  go_ret2
  exact ⟨_, ew, by (with_reducible repeat (first | apply Kd.R_alloc | apply Kd.R_drewN | apply Kd.R_drew)); exact HO636.out, by exact lT HB (gC GE632 gN)⟩
 ·rw [if_neg c4] at H
  have c4b0 : (t633 == 0) = false := beq_eq_false_iff_ne.mpr c4
  have c4b1 : (t633 != 0) = true := bne_iff_ne.mpr c4
  replace H := Option.bind_eq_some_iff.mp H
  obtain ⟨t637, A100, H⟩ := H
  replace H : ((spec_ScanFrames.f k t637 t633).bind fun bt638 => ((some (([] : List (S74)) : List (S74))).bind fun y642 => (if 1 ≤ (bt638.1.length : Int) then ((some (bt638.1.drop 1 : List (S74))).bind fun y645 => (if y642.length + y645.length < 4398046511104 then (some ((y642 ++ y645), bt638.2)) else (none))) else (none)))) = some (r1, r2) := H
  have A10 := Aside0.mk A100
  clear A100
  replace H := Option.bind_eq_some_iff.mp H
  obtain ⟨⟨t638, t639⟩, A110, H⟩ := H
  replace H : ((some (([] : List (S74)) : List (S74))).bind fun y642 => (if 1 ≤ (t638.length : Int) then ((some (t638.drop 1 : List (S74))).bind fun y645 => (if y642.length + y645.length < 4398046511104 then (some ((y642 ++ y645), t639)) else (none))) else (none))) = some (r1, r2) := H
  have A11 := Aside0.mk A110
  clear A110
  obtain ⟨y642, hy642⟩ : ∃ y_ : List (S74), y_ = (([] : List (S74))) := ⟨_, rfl⟩
  replace H : (if 1 ≤ (t638.length : Int) then ((some (t638.drop 1 : List (S74))).bind fun y645 => (if y642.length + y645.length < 4398046511104 then (some ((y642 ++ y645), t639)) else (none))) else (none)) = some (r1, r2) := by first | (rw [hy642]; with_reducible exact H) | (have H2_ := (Option.bind_some _ _).symm.trans H; rw [hy642]; with_reducible exact H2_) | (have H2_ := (Option.bind_some _ _).symm.trans H; with_reducible exact H2_) | with_reducible exact H | (rw [hy642]; exact H) | exact H
  have Ny642 := Aside0.mk hy642
  clear hy642
  by_cases c12 : 1 ≤ (t638.length : Int)
  ·rw [if_pos c12] at H
   have c12b0 := eq_true c12
   have c12b1 : decide (1 ≤ (t638.length : Int)) = true := decide_eq_true c12
   clear c12
   obtain ⟨y645, hy645⟩ : ∃ y_ : List (S74), y_ = (t638.drop 1) := ⟨_, rfl⟩
   replace H : (if y642.length + y645.length < 4398046511104 then (some ((y642 ++ y645), t639)) else (none)) = some (r1, r2) := by first | (rw [hy645]; with_reducible exact H) | (have H2_ := (Option.bind_some _ _).symm.trans H; rw [hy645]; with_reducible exact H2_) | (have H2_ := (Option.bind_some _ _).symm.trans H; with_reducible exact H2_) | with_reducible exact H | (rw [hy645]; exact H) | exact H
   have Ny645 := Aside0.mk hy645
   clear hy645
   by_cases c13 : y642.length + y645.length < 4398046511104
   ·rw [if_pos c13] at H
    have LMc13 := Aside0.mk c13
    clear c13
    obtain ⟨y649, hy649⟩ : ∃ y_ : List (S74), y_ = (y642 ++ y645) := ⟨_, rfl⟩
    replace H : (some (y649, t639)) = some (r1, r2) := by first | (rw [hy649]; with_reducible exact H) | (have H2_ := (Option.bind_some _ _).symm.trans H; rw [hy649]; with_reducible exact H2_) | (have H2_ := (Option.bind_some _ _).symm.trans H; with_reducible exact H2_) | with_reducible exact H | (rw [hy649]; exact H) | exact H
    have Ny649 := Aside0.mk hy649
    clear hy649
    simp only [Option.some.injEq, Prod.mk.injEq] at H
    obtain ⟨rfl, rfl⟩ := H
    go_enter Try.func39, Try.ntmps39
    go_wp2_with (first | ((with_reducible refine gate_dst (N := 2) rfl ?_); refine bx 2 #[.slice A0_0 l0_0.length c0_0, .slice A0_1 l0_1.length c0_1] 27 ?_; intro gb632 hg w14 hbox hb; replace BK632 := ak (hbox); replace GW632 := ak (bz hg (lG HB)); replace GE632 := ak (bz hg (lG HB)); replace HB := lB HB hb; clear hb hbox hg; obtain ⟨hcz15_0, hcz15_1, hfz15_0, hfz15_1⟩ := bC2 BK632) | ((with_reducible refine gate_callee (f := 42) rfl ?_); refine gl (some 11) Try.func42 #[.agg #[.slice A0_0 l0_0.length c0_0, .slice A0_1 l0_1.length c0_1], .int .i64 a1] ?_; (with_reducible refine (spec_SegGen.calls k _ _ l0_0 _ _ l0_1 a1 t633 _ ?side1 ?side2 ?side3 ?side4 A3.out).mono ?_); (case side1 => exact cG (Kd.C_below HR0_0.out HB.out)); (case side2 => exact HC0_0.out); (case side3 => exact cG (Kd.C_below HR0_1.out HB.out)); (case side4 => exact HC0_1.out); rintro e w16 ⟨rfl, hb⟩; refine ⟨_, rfl, ?_⟩; replace BK632 := bB BK632 hb; replace HB := ak (below_step (lT HB (gC GE632 gN)) hb); (try clear hb); (try clear hk); obtain ⟨hcz17_0, hcz17_1, hfz17_0, hfz17_1⟩ := bC2 BK632) | ((with_reducible refine gate_callee (f := 25) rfl ?_); refine gl (some 18) Try.func25 #[.agg #[.slice A0_0 l0_0.length c0_0, .slice A0_1 l0_1.length c0_1], .int .i64 a1] ?_; (with_reducible refine (spec_SegText.calls k _ _ l0_0 _ _ l0_1 a1 t637 _ ?side1 ?side2 ?side3 ?side4 A10.out).mono ?_); (case side1 => exact cG (Kd.C_below HR0_0.out HB.out)); (case side2 => exact HC0_0.out); (case side3 => exact cG (Kd.C_below HR0_1.out HB.out)); (case side4 => exact HC0_1.out); rintro e w18 ⟨rfl, hb⟩; refine ⟨_, rfl, ?_⟩; replace BK632 := bB BK632 hb; replace HB := ak (below_step (lT HB (gC GE632 gN)) hb); (try clear hb); (try clear hk)) | ((with_reducible refine gate_callee (f := 66) rfl ?_); refine gl (some 20) Try.func66 #[.string t637, .int .i64 t633] ?_; (with_reducible refine (spec_ScanFrames.calls k t637 t633 t638 t639 _ A11.out).mono ?_); rintro e w19 ⟨v640, rfl, ho0, hb⟩; refine ⟨_, rfl, ?_⟩; replace HO641 := ak (Kd.R_lower ho0 (below_size (lT HB (gC GE632 gN)))); replace BK632 := bB BK632 hb; replace HB := ak (below_step (lT HB (gC GE632 gN)) hb); (try clear hb); (try clear hk); (try clear ho0)) | ((with_reducible refine gate_dst (N := 23) rfl ?_); refine Kd.R_lit k74 _ 74 ?hg (N := 23) ?hd (xs := ([] : List (S74))) (inner := []) (ok := fun _ => True) (okp := fun _ => True) ?hr ?hp (fun _ hk => hk) trivial (Below.refl _ _) (Nat.le_refl _) (by simp) ?_; (case hd => rfl); (case hg => rfl); (case hr => first | (go_simp; done) | (go_simp; rfl)); (case hp => exact (Reps.none _ _)); intro v643 w20 ho21 hb hg_ hnew_; clear hg_ hnew_; (first | rw [← Ny642.out] at ho21 | (simp only [Int.reduceToNat] at ho21; rw [← Ny642.out] at ho21)); replace HO644 := ak (Kd.R_lower (Kd.R_new' ho21 (Kd.R_lt (rG HO641))) (below_size (lT HB (gC GE632 gN)))); replace HO641 := ak (Kd.R_elder' (rG HO641) (Kd.R_base ho21) hb); replace BK632 := bB BK632 hb; replace HB := ak (below_step (lT HB (gC GE632 gN)) hb); clear hb ho21; obtain ⟨Ao23, co23, eo23⟩ := Kd.R_slice HO641.out; subst eo23; have q22 : (1 : Int) ≤ ((t638.length : Int) : Int) := of_decide_eq_true (by first | (with_reducible assumption) | assumption); obtain ⟨i022, hi022, _, hsz22, _⟩ := info_parts info74; have hroom22 : t638.length ≤ co23 := (Kd.R_reads' HO641.out).2.1; have hC22 : Kd.C k74 _ Ao23 t638.length t638 := (Kd.R_reads' HO641.out).2.2; have hcut22 := cut_from (P := Try.prog) 52 74 .i64 Try.underlying52 hi022 3 hsz22 Ao23 t638.length co23 1 (by omega) q22; have hr22 := Kd.C_drop (m := (1 : Int).toNat) (c := co23) hC22 (by omega) hroom22; obtain ⟨A22, hA22⟩ : ∃ A1, A1 = (if co23 = (1 : Int).toNat then Ao23 else (Ao23 : Option Addr).map (·.add ((1 : Int).toNat * 3))) := ⟨_, rfl⟩; obtain ⟨c22, hc22⟩ : ∃ c1, c1 = co23 - (1 : Int).toNat := ⟨_, rfl⟩; have hy22 : y645.length = t638.length - (1 : Int).toNat := (by rw [Ny645.out, List.length_drop] <;> omega); rw [show (t638).drop (1 : Int).toNat = y645 from Ny645.out.symm] at hr22; replace hr22 : Kd.C k74 _ A22 y645.length y645 := (by rw [hA22]; exact hr22); rw [← hy22, ← hA22, ← hc22] at hcut22; have HR648 := Aside0.mk hr22; have HC648 := ak (show y645.length ≤ c22 from by rw [hy22, hc22]; exact Nat.sub_le_sub_right hroom22 _); clear hr22 hC22 hroom22 hi022 hsz22 hc22; have KY22 := Aside0.mk hy22; have KA22 := Aside0.mk hA22; clear hy22 hA22; have KL22 := ak (show 1 ≤ t638.length from by omega); replace q22 := eq_true q22) | ((with_reducible refine gate_builtin (b := .append) (xs := #[.tmp 23, .tmp 25]) rfl ?_); at_builtin; refine Kd.R_append_rows k74 (w0 := w) w.heap.size rfl (.tmp 23) (.tmp 25) 52 74 (.agg #[(.int .i64 0), (.int .i64 0), (.string ⟨#[]⟩)]) 32 rfl Try.underlying52 info74 rfl (by decide) (by omega) v643 y642 y645 _ _ _ (fun k_ => some k_ ≠ (.slice Ao23 t638.length co23 : Value).ownBlock) (fun _ => False) rfl rfl ?aO ?aR (fun _ _ h => h) (fun _ h => h.elim) ?aF ?aB ?aS ?aL ?_; (case aR => repeat (first | exact (by repeat (first | (with_reducible exact HR648.out) | (with_reducible refine Kd.C_alloc ?_ _) | (with_reducible refine Kd.C_drewN ?_ _) | (with_reducible refine Kd.C_drew ?_) | exact HR648.out)) | (with_reducible refine Kd.C_alloc ?_ _) | (with_reducible refine Kd.C_drewN ?_ _) | (with_reducible refine Kd.C_drew ?_))); (case aB => exact (lT HB (gC GE632 gN))); (case aF => exact (fun k_ hk => Kd.fresh' (Kd.R_lt (rG HO641)) k_ hk)); (case aO => exact (by (with_reducible repeat (first | apply Kd.R_alloc | apply Kd.R_drewN | apply Kd.R_drew)); exact Kd.R_mono HO644.out (fun _ hk => hk.2))); (case aS => exact (below_size (lT HB (gC GE632 gN)))); (case aL => have := LMc13.out; omega); intro v650 w24 ho hb hg hat; rw [← Ny649.out] at ho; have n0_ := ak (blk_grown (g := gb632) (o := .cells #[.slice A0_0 l0_0.length c0_0, .slice A0_1 l0_1.length c0_1] 27 (0, 0)) (bG BK632) hg (Kd.R_ne HO644.out BK632.out (by decide))); have n1_ := ak (Kd.R_after (ok := (fun _ => True)) (rG HO641) hg hat); have n2_ := ak (hb); have n3_ := ak ((show Kd.C k74 w24 A22 y645.length y645 from by rw [Ny645.out, KA22.out]; exact Kd.C_drop (m := 1) (c := co23) ((Kd.R_reads' (Kd.R_after (ok := (fun _ => True)) (rG HO641) hg hat)).2.2) KL22.out ((Kd.R_reads' (Kd.R_after (ok := (fun _ => True)) (rG HO641) hg hat)).2.1))); have n4_ := ak (ho); clear BK632; clear HO641; clear HB; clear HR648; clear HO644; have BK632 := n0_; have HO641 := n1_; have HB := n2_; have HR648 := n3_; have HO651 := n4_; clear n0_ n1_ n2_ n3_ n4_; clear ho hb hg hat))
    go_ret2
    exact ⟨_, ew, by (with_reducible repeat (first | apply Kd.R_alloc | apply Kd.R_drewN | apply Kd.R_drew)); exact Kd.R_mono HO651.out (fun _ hk => trivial), by exact lT HB (gC GE632 gN)⟩
   ·rw [if_neg c13] at H
    exact absurd H (by simp)
  ·rw [if_neg c12] at H
   exact absurd H (by simp)
/-! ### spec_DrawSegsOf: function 40 -/
def spec_DrawSegsOf.f (k : Nat) (l0 : List Int) : Option (List ByteArray × (List (S63))) := (spec_l01New.f k l0).bind fun bt653 => ((spec_l01Below.f bt653.1 bt653.2.1 bt653.2.2 3).bind fun bt657 => (if bt657.1 = 0 then ((spec_l01PickInt.f bt653.1 bt657.2.1 bt657.2.2 (([1, 47, 48, 55, 96, 97, 100, 8, 7] : List Int))).bind fun bt663 => ((spec_DiskNew.f k bt663.1).bind fun bt666 => (some (bt666.1, bt666.2.1)))) else ((spec_l05Any.f k bt653.1 bt657.2.1 bt657.2.2).bind fun bt674 => (some (bt674.1, bt674.2.1)))))
theorem spec_DrawSegsOf.mono : ∀ a0 k, LeO (spec_DrawSegsOf.f k a0) (spec_DrawSegsOf.f (k + 1) a0) := by
 intro a0 k
 unfold spec_DrawSegsOf.f
 repeat' first
   | (with_reducible exact spec_DiskNew.mono _ _)
   | (with_reducible exact spec_l01New.mono _ _)
   | (with_reducible exact spec_l05Any.mono _ _ _ _)
   | (with_reducible exact LeO.refl _)
   | (with_reducible exact LeO.none _)
   | (with_reducible refine LeO.ite ?_ ?_)
   | (with_reducible refine LeO.bind ?_ (fun _ => ?_))
   | exact spec_DiskNew.mono _ _
   | exact spec_l01New.mono _ _
   | exact spec_l05Any.mono _ _ _ _
   | exact LeO.none _
   | refine LeO.ite ?_ ?_
   | refine LeO.bind ?_ (fun _ => ?_)
theorem spec_DrawSegsOf.calls (k : Nat) (A0 : Option Addr) (c0 : Nat) (l0 : List Int) (r1 : List ByteArray) (r2 : List (S63)) (w : World) (hr0 : Kd.C (Kd.int .u8) w A0 l0.length l0) (hc0 : l0.length ≤ c0) (h : spec_DrawSegsOf.f k l0 = some (r1, r2)) :
  Calls Try.prog 40 #[.slice A0 l0.length c0] w fun e w' => ∃ v0_ v1_ : Value, e = .returned (.agg #[v0_, v1_]) ∧ Kd.R Kd.string 9 w' w.heap.size (fun _ => True) v0_ r1 ∧ Kd.R k63 63 w' w.heap.size (fun _ => True) v1_ r2 ∧ Below w.heap.size w w' := by
 have hu27 := Try.underlying27
 have HR0 := Aside0.mk hr0
 have HC0 := Aside0.mk hc0
 clear hr0 hc0
 have HB := ak (Below.refl w.heap.size w)
 have H : ((spec_l01New.f k l0).bind fun bt653 => ((spec_l01Below.f bt653.1 bt653.2.1 bt653.2.2 3).bind fun bt657 => (if bt657.1 = 0 then ((spec_l01PickInt.f bt653.1 bt657.2.1 bt657.2.2 (([1, 47, 48, 55, 96, 97, 100, 8, 7] : List Int))).bind fun bt663 => ((spec_DiskNew.f k bt663.1).bind fun bt666 => (some (bt666.1, bt666.2.1)))) else ((spec_l05Any.f k bt653.1 bt657.2.1 bt657.2.2).bind fun bt674 => (some (bt674.1, bt674.2.1)))))) = some (r1, r2) := h
 clear h
 replace H := Option.bind_eq_some_iff.mp H
 obtain ⟨⟨t653, t654, t655⟩, A20, H⟩ := H
 replace H : ((spec_l01Below.f t653 t654 t655 3).bind fun bt657 => (if bt657.1 = 0 then ((spec_l01PickInt.f t653 bt657.2.1 bt657.2.2 (([1, 47, 48, 55, 96, 97, 100, 8, 7] : List Int))).bind fun bt663 => ((spec_DiskNew.f k bt663.1).bind fun bt666 => (some (bt666.1, bt666.2.1)))) else ((spec_l05Any.f k t653 bt657.2.1 bt657.2.2).bind fun bt674 => (some (bt674.1, bt674.2.1))))) = some (r1, r2) := H
 have A2 := Aside0.mk A20
 clear A20
 replace H := Option.bind_eq_some_iff.mp H
 obtain ⟨⟨t657, t658, t659⟩, A30, H⟩ := H
 replace H : (if t657 = 0 then ((spec_l01PickInt.f t653 t658 t659 (([1, 47, 48, 55, 96, 97, 100, 8, 7] : List Int))).bind fun bt663 => ((spec_DiskNew.f k bt663.1).bind fun bt666 => (some (bt666.1, bt666.2.1)))) else ((spec_l05Any.f k t653 t658 t659).bind fun bt674 => (some (bt674.1, bt674.2.1)))) = some (r1, r2) := H
 have A3 := Aside0.mk A30
 clear A30
 by_cases c4 : t657 = 0
 ·rw [if_pos c4] at H
  have c4b0 : (t657 == 0) = true := beq_iff_eq.mpr c4
  have c4b1 : (t657 != 0) = false := bne_eq_false_iff_eq.mpr c4
  clear c4
  obtain ⟨y660, hy660⟩ : ∃ y_ : List Int, y_ = (([1, 47, 48, 55, 96, 97, 100, 8, 7] : List Int)) := ⟨_, rfl⟩
  replace H : ((spec_l01PickInt.f t653 t658 t659 y660).bind fun bt663 => ((spec_DiskNew.f k bt663.1).bind fun bt666 => (some (bt666.1, bt666.2.1)))) = some (r1, r2) := by first | (rw [hy660]; with_reducible exact H) | (have H2_ := (Option.bind_some _ _).symm.trans H; rw [hy660]; with_reducible exact H2_) | (have H2_ := (Option.bind_some _ _).symm.trans H; with_reducible exact H2_) | with_reducible exact H | (rw [hy660]; exact H) | exact H
  have Ny660 := Aside0.mk hy660
  clear hy660
  replace H := Option.bind_eq_some_iff.mp H
  obtain ⟨⟨t663, t664, t665⟩, A50, H⟩ := H
  replace H : ((spec_DiskNew.f k t663).bind fun bt666 => (some (bt666.1, bt666.2.1))) = some (r1, r2) := H
  have A5 := Aside0.mk A50
  clear A50
  replace H := Option.bind_eq_some_iff.mp H
  obtain ⟨⟨t666, t669, t672⟩, A60, H⟩ := H
  replace H : (some (t666, t669)) = some (r1, r2) := H
  have A6 := Aside0.mk A60
  clear A60
  simp only [Option.some.injEq, Prod.mk.injEq] at H
  obtain ⟨rfl, rfl⟩ := H
  go_enter Try.func40, Try.ntmps40
  go_wp2_with (first | ((with_reducible refine gate_dst (N := 2) rfl ?_); refine bx 2 #[.slice none 0 0, .slice none 0 0] 27 ?_; intro gb652 hg w7 hbox hb; replace BK652 := ak (hbox); replace GW652 := ak (bz hg (lG HB)); replace GE652 := ak (bz hg (lG HB)); replace HB := lB HB hb; clear hb hbox hg) | ((with_reducible refine gate_callee (f := 45) rfl ?_); refine gl (some 9) Try.func45 #[.slice A0 l0.length c0] ?_; (with_reducible refine (spec_l01New.calls k _ _ l0 t653 t654 t655 w _ ?side1 ?side2 ?side3 A2.out).mono ?_); (case side1 => exact lT HB (gC GE652 gN)); (case side2 => exact HR0.out); (case side3 => exact HC0.out); rintro e w8 ⟨g656, rfl, hi, hb, hb2⟩; refine ⟨_, rfl, ?_⟩; replace HB := ak (hb); replace HI656 := ak (hi); replace NB656_652 := ak (IsS80.ne_blk hi (blk_below (bG BK652) hb2) (by decide)); replace NB652_656 := ak (Ne.symm (IsS80.ne_blk hi (blk_below (bG BK652) hb2) (by decide))); replace BK652 := ak (blk_below (bG BK652) hb2); (try clear hb); (try clear hb2); (try clear hk); (try clear hi)) | ((with_reducible refine gate_callee (f := 47) rfl ?_); refine gl (some 11) Try.func47 #[.pointer (some ⟨g656, 0, none⟩), .int .i64 3] ?_; (with_reducible refine (spec_l01Below.calls g656 t653 t654 t655 3 t657 t658 t659 w _ ?side1 ?side2 A3.out).mono ?_); (case side1 => repeat (first | (with_reducible first | exact HI656.out | apply IsS80.alloc | apply IsS80.drewN | apply IsS80.drew | apply IsS80.set_1 | apply IsS80.set_2 | refine IsS80.far ?_ NB656_652.out _) | exact HI656.out)); (case side2 => repeat (first | (with_reducible first | exact HB.out | apply below_alloc | apply pw_below_drewN | apply below_drew1 | refine below_set ?_ (IsS80.ge HI656.out) | refine below_set ?_ GE652.out) | exact HB.out)); rintro e w9 ⟨rfl, hi, hb, hk⟩; refine ⟨_, rfl, ?_⟩; replace BK652 := ak (KeepBut.blk hk (g' := gb652) (o := .cells #[.slice none 0 0, .slice none 0 0] 27 (0, 0)) (bG BK652) NB652_656.out (by simp)); replace HB := ak (hb); replace HI656 := ak (hi); (try clear hb); (try clear hb2); (try clear hk); (try clear hi)) | ((with_reducible refine gate_dst (N := 15) rfl ?_); refine Kd.R_lit (Kd.int .i64) _ 3 ?hg (N := 15) ?hd (xs := ([1, 47, 48, 55, 96, 97, 100, 8, 7] : List Int)) (inner := [.int .i64 1, .int .i64 47, .int .i64 48, .int .i64 55, .int .i64 96, .int .i64 97, .int .i64 100, .int .i64 8, .int .i64 7]) (ok := fun _ => True) (okp := fun _ => True) ?hr ?hp (fun _ hk => hk) trivial (Below.refl _ _) (Nat.le_refl _) (by simp) ?_; (case hd => rfl); (case hg => rfl); (case hr => first | (go_simp; done) | (go_simp; rfl)); (case hp => exact (Reps.one (show Kd.M (Kd.int .i64) _ _ _ 1 [.int .i64 1] from rfl) (Reps.one (show Kd.M (Kd.int .i64) _ _ _ 47 [.int .i64 47] from rfl) (Reps.one (show Kd.M (Kd.int .i64) _ _ _ 48 [.int .i64 48] from rfl) (Reps.one (show Kd.M (Kd.int .i64) _ _ _ 55 [.int .i64 55] from rfl) (Reps.one (show Kd.M (Kd.int .i64) _ _ _ 96 [.int .i64 96] from rfl) (Reps.one (show Kd.M (Kd.int .i64) _ _ _ 97 [.int .i64 97] from rfl) (Reps.one (show Kd.M (Kd.int .i64) _ _ _ 100 [.int .i64 100] from rfl) (Reps.one (show Kd.M (Kd.int .i64) _ _ _ 8 [.int .i64 8] from rfl) (Reps.one (show Kd.M (Kd.int .i64) _ _ _ 7 [.int .i64 7] from rfl) (Reps.none _ _))))))))))); intro v661 w10 ho11 hb hg_ hnew_; clear hg_ hnew_; (first | rw [← Ny660.out] at ho11 | (simp only [Int.reduceToNat] at ho11; rw [← Ny660.out] at ho11)); replace HO662 := ak (Kd.R_lower ho11 (below_size (by repeat (first | (with_reducible first | exact HB.out | apply below_alloc | apply pw_below_drewN | apply below_drew1 | refine below_set ?_ (IsS80.ge HI656.out) | refine below_set ?_ GE652.out) | exact HB.out)))); replace BK652 := bB BK652 hb; replace HB := ak (below_step (by repeat (first | (with_reducible first | exact HB.out | apply below_alloc | apply pw_below_drewN | apply below_drew1 | refine below_set ?_ (IsS80.ge HI656.out) | refine below_set ?_ GE652.out) | exact HB.out)) hb); replace HI656 := ak (IsS80.below (by repeat (first | (with_reducible first | exact HI656.out | apply IsS80.alloc | apply IsS80.drewN | apply IsS80.drew | apply IsS80.set_1 | apply IsS80.set_2 | refine IsS80.far ?_ NB656_652.out _) | exact HI656.out)) hb); clear hb ho11; obtain ⟨Ao12, co12, eo12⟩ := Kd.R_slice HO662.out; subst eo12) | ((with_reducible refine gate_callee (f := 56) rfl ?_); refine gl (some 16) Try.func56 #[.pointer (some ⟨g656, 0, none⟩), .slice Ao12 y660.length co12] ?_; (with_reducible refine (spec_l01PickInt.calls g656 t653 t658 t659 _ _ y660 t663 t664 t665 w _ ?side1 ?side2 ?side3 ?side4 ?side5 A5.out).mono ?_); (case side1 => repeat (first | (with_reducible first | exact HI656.out | apply IsS80.alloc | apply IsS80.drewN | apply IsS80.drew | apply IsS80.set_1 | apply IsS80.set_2 | refine IsS80.far ?_ NB656_652.out _) | exact HI656.out)); (case side2 => repeat (first | (with_reducible first | exact HB.out | apply below_alloc | apply pw_below_drewN | apply below_drew1 | refine below_set ?_ (IsS80.ge HI656.out) | refine below_set ?_ GE652.out) | exact HB.out)); (case side3 => exact cG (Kd.R_reads' HO662.out).2.2); (case side4 => exact (Kd.R_reads' HO662.out).2.1); (case side5 => exact far_slice (IsS80.own_ne HI656.out HO662.out (by decide))); rintro e w13 ⟨rfl, hi, hb, hk⟩; refine ⟨_, rfl, ?_⟩; replace BK652 := ak (KeepBut.blk hk (g' := gb652) (o := .cells #[.slice none 0 0, .slice none 0 0] 27 (0, 0)) (bG BK652) NB652_656.out (by simp)); replace HO662 := ak (Kd.R_mono (Kd.R_keep (IsS80.apart (show IsS80 w _ g656 t653 t658 t659 from by repeat (first | (with_reducible first | exact HI656.out | apply IsS80.alloc | apply IsS80.drewN | apply IsS80.drew | apply IsS80.set_1 | apply IsS80.set_2 | refine IsS80.far ?_ NB656_652.out _) | exact HI656.out)) (rG HO662) (by decide)) hk (fun _ h => h.2)) (fun _ h => h.1)); replace HB := ak (hb); replace HI656 := ak (hi); (try clear hb); (try clear hb2); (try clear hk); (try clear hi)) | ((with_reducible refine gate_callee (f := 67) rfl ?_); refine gl (some 19) Try.func67 #[.int .i64 t663] ?_; (with_reducible refine (spec_DiskNew.calls k t663 t666 t669 t672 _ A6.out).mono ?_); rintro e w14 ⟨v667, v670, rfl, ho0, ho1, hb⟩; refine ⟨_, rfl, ?_⟩; replace HO662 := rB HO662 hb; replace HO668 := ak (Kd.R_lower ho0 (below_size (by repeat (first | (with_reducible first | exact HB.out | apply below_alloc | apply pw_below_drewN | apply below_drew1 | refine below_set ?_ (IsS80.ge HI656.out) | refine below_set ?_ GE652.out) | exact HB.out)))); replace HO671 := ak (Kd.R_lower ho1 (below_size (by repeat (first | (with_reducible first | exact HB.out | apply below_alloc | apply pw_below_drewN | apply below_drew1 | refine below_set ?_ (IsS80.ge HI656.out) | refine below_set ?_ GE652.out) | exact HB.out)))); replace BK652 := bB BK652 hb; replace HB := ak (below_step (by repeat (first | (with_reducible first | exact HB.out | apply below_alloc | apply pw_below_drewN | apply below_drew1 | refine below_set ?_ (IsS80.ge HI656.out) | refine below_set ?_ GE652.out) | exact HB.out)) hb); replace HI656 := ak (IsS80.below (by repeat (first | (with_reducible first | exact HI656.out | apply IsS80.alloc | apply IsS80.drewN | apply IsS80.drew | apply IsS80.set_1 | apply IsS80.set_2 | refine IsS80.far ?_ NB656_652.out _) | exact HI656.out)) hb); (try clear hb); (try clear hb2); (try clear hk); (try clear hi); (try clear ho0); (try clear ho1)) | ((with_reducible refine gate_dst (N := 6) rfl ?_); refine bx 6 #[.slice none 0 0, .slice none 0 0] 27 ?_; intro gb673 hg w15 hbox hb; replace HO662 := rB HO662 hb; replace HO668 := rB HO668 hb; replace HO671 := rB HO671 hb; replace BK673 := ak (hbox); replace GW673 := ak (bz hg (by repeat (first | (with_reducible first | exact HB.out | apply below_alloc | apply pw_below_drewN | apply below_drew1 | refine below_set ?_ (IsS80.ge HI656.out) | refine below_set ?_ GE652.out) | exact HB.out))); replace GE673 := ak (bz hg (by repeat (first | (with_reducible first | exact HB.out | apply below_alloc | apply pw_below_drewN | apply below_drew1 | refine below_set ?_ (IsS80.ge HI656.out) | refine below_set ?_ GE652.out) | exact HB.out))); replace HB := ak (below_step (by repeat (first | (with_reducible first | exact HB.out | apply below_alloc | apply pw_below_drewN | apply below_drew1 | refine below_set ?_ (IsS80.ge HI656.out) | refine below_set ?_ GE652.out) | exact HB.out)) hb); replace NB652_673 := ak (nl hg (bG BK652)); replace NB673_652 := ak (ng hg (bG BK652)); replace BK652 := bB BK652 hb; replace NB656_673 := ak ((by rw [hg]; exact Nat.ne_of_lt (IsS80.lt (show IsS80 w _ g656 t653 t664 t665 from by repeat (first | (with_reducible first | exact HI656.out | apply IsS80.alloc | apply IsS80.drewN | apply IsS80.drew | apply IsS80.set_1 | apply IsS80.set_2 | refine IsS80.far ?_ NB656_652.out _) | exact HI656.out))) : g656 ≠ gb673)); replace NB673_656 := ak ((by rw [hg]; exact Nat.ne_of_gt (IsS80.lt (show IsS80 w _ g656 t653 t664 t665 from by repeat (first | (with_reducible first | exact HI656.out | apply IsS80.alloc | apply IsS80.drewN | apply IsS80.drew | apply IsS80.set_1 | apply IsS80.set_2 | refine IsS80.far ?_ NB656_652.out _) | exact HI656.out))) : gb673 ≠ g656)); replace HI656 := ak (IsS80.below (by repeat (first | (with_reducible first | exact HI656.out | apply IsS80.alloc | apply IsS80.drewN | apply IsS80.drew | apply IsS80.set_1 | apply IsS80.set_2 | refine IsS80.far ?_ NB656_652.out _) | exact HI656.out)) hb); clear hb hbox hg; obtain ⟨Ao16, co16, eo16⟩ := Kd.R_slice HO668.out; subst eo16; have hnb17 := NB673_652.out; have hnc17 := NB652_673.out; have hnb18 := NB673_656.out; have hnc18 := NB656_673.out; obtain ⟨hcz19_0, hcz19_1, hfz19_0, hfz19_1⟩ := bC2 BK673; obtain ⟨Ao20, co20, eo20⟩ := Kd.R_slice HO671.out; subst eo20; have hnb21 := NB652_656.out; have hnc21 := NB656_652.out; obtain ⟨hcz22_0, hcz22_1, hfz22_0, hfz22_1⟩ := bC2 BK652))
  refine bodyPost_ret (results_cell_row rfl _ _ gb652 27 #[.slice Ao16 t666.length co16, .slice Ao20 t669.length co20] (0, 0) _ rfl (by (with_reducible repeat (first | refine blk_drewN ?_ _ | refine blk_drew ?_ | refine blk_alloc ?_ _)); refine blk_put (cs := #[.slice Ao16 t666.length co16, .slice none 0 0]) ?_ 1 _ rfl; (with_reducible repeat (first | refine blk_drewN ?_ _ | refine blk_drew ?_ | refine blk_alloc ?_ _)); refine blk_put (cs := #[.slice none 0 0, .slice none 0 0]) ?_ 0 _ rfl; (with_reducible repeat (first | refine blk_drewN ?_ _ | refine blk_drew ?_ | refine blk_alloc ?_ _)); refine blk_far ?_ NB652_673.out _; (with_reducible repeat (first | refine blk_drewN ?_ _ | refine blk_drew ?_ | refine blk_alloc ?_ _)); refine blk_far ?_ NB652_673.out _; (with_reducible repeat (first | refine blk_drewN ?_ _ | refine blk_drew ?_ | refine blk_alloc ?_ _)); exact BK652.out) Try.underlying27 rfl (by kernel_rfl)) rfl ?_
  exact ⟨_, _, ew, by exact Kd.R_mono (rT2 HO668 BK673 BK652 (by decide) (by decide)) (fun _ hk => trivial), by exact Kd.R_mono (rT2 HO671 BK673 BK652 (by decide) (by decide)) (fun _ hk => trivial), by repeat (first | (with_reducible first | exact HB.out | apply below_alloc | apply pw_below_drewN | apply below_drew1 | refine below_set ?_ (IsS80.ge HI656.out) | refine below_set ?_ GE652.out | refine below_set ?_ GE673.out) | exact HB.out)⟩
 ·rw [if_neg c4] at H
  have c4b0 : (t657 == 0) = false := beq_eq_false_iff_ne.mpr c4
  have c4b1 : (t657 != 0) = true := bne_iff_ne.mpr c4
  replace H := Option.bind_eq_some_iff.mp H
  obtain ⟨⟨t674, t677, t680, t681⟩, A230, H⟩ := H
  replace H : (some (t674, t677)) = some (r1, r2) := H
  have A23 := Aside0.mk A230
  clear A230
  simp only [Option.some.injEq, Prod.mk.injEq] at H
  obtain ⟨rfl, rfl⟩ := H
  go_enter Try.func40, Try.ntmps40
  go_wp2_with (first | ((with_reducible refine gate_dst (N := 2) rfl ?_); refine bx 2 #[.slice none 0 0, .slice none 0 0] 27 ?_; intro gb652 hg w24 hbox hb; replace BK652 := ak (hbox); replace GW652 := ak (bz hg (lG HB)); replace GE652 := ak (bz hg (lG HB)); replace HB := lB HB hb; clear hb hbox hg) | ((with_reducible refine gate_callee (f := 45) rfl ?_); refine gl (some 9) Try.func45 #[.slice A0 l0.length c0] ?_; (with_reducible refine (spec_l01New.calls k _ _ l0 t653 t654 t655 w _ ?side1 ?side2 ?side3 A2.out).mono ?_); (case side1 => exact lT HB (gC GE652 gN)); (case side2 => exact HR0.out); (case side3 => exact HC0.out); rintro e w25 ⟨g656, rfl, hi, hb, hb2⟩; refine ⟨_, rfl, ?_⟩; replace HB := ak (hb); replace HI656 := ak (hi); replace NB656_652 := ak (IsS80.ne_blk hi (blk_below (bG BK652) hb2) (by decide)); replace NB652_656 := ak (Ne.symm (IsS80.ne_blk hi (blk_below (bG BK652) hb2) (by decide))); replace BK652 := ak (blk_below (bG BK652) hb2); (try clear hb); (try clear hb2); (try clear hk); (try clear hi)) | ((with_reducible refine gate_callee (f := 47) rfl ?_); refine gl (some 11) Try.func47 #[.pointer (some ⟨g656, 0, none⟩), .int .i64 3] ?_; (with_reducible refine (spec_l01Below.calls g656 t653 t654 t655 3 t657 t658 t659 w _ ?side1 ?side2 A3.out).mono ?_); (case side1 => repeat (first | (with_reducible first | exact HI656.out | apply IsS80.alloc | apply IsS80.drewN | apply IsS80.drew | apply IsS80.set_1 | apply IsS80.set_2 | refine IsS80.far ?_ NB656_652.out _) | exact HI656.out)); (case side2 => repeat (first | (with_reducible first | exact HB.out | apply below_alloc | apply pw_below_drewN | apply below_drew1 | refine below_set ?_ (IsS80.ge HI656.out) | refine below_set ?_ GE652.out) | exact HB.out)); rintro e w26 ⟨rfl, hi, hb, hk⟩; refine ⟨_, rfl, ?_⟩; replace BK652 := ak (KeepBut.blk hk (g' := gb652) (o := .cells #[.slice none 0 0, .slice none 0 0] 27 (0, 0)) (bG BK652) NB652_656.out (by simp)); replace HB := ak (hb); replace HI656 := ak (hi); (try clear hb); (try clear hb2); (try clear hk); (try clear hi)) | ((with_reducible refine gate_callee (f := 68) rfl ?_); refine gl (some 24) Try.func68 #[.pointer (some ⟨g656, 0, none⟩)] ?_; (with_reducible refine (spec_l05Any.calls k g656 t653 t658 t659 t674 t677 t680 t681 w _ ?side1 ?side2 A23.out).mono ?_); (case side1 => repeat (first | (with_reducible first | exact HI656.out | apply IsS80.alloc | apply IsS80.drewN | apply IsS80.drew | apply IsS80.set_1 | apply IsS80.set_2 | refine IsS80.far ?_ NB656_652.out _) | exact HI656.out)); (case side2 => repeat (first | (with_reducible first | exact HB.out | apply below_alloc | apply pw_below_drewN | apply below_drew1 | refine below_set ?_ (IsS80.ge HI656.out) | refine below_set ?_ GE652.out) | exact HB.out)); rintro e w27 ⟨v675, v678, rfl, ho0, ho1, hi, hb, hk⟩; refine ⟨_, rfl, ?_⟩; replace BK652 := ak (KeepBut.blk hk (g' := gb652) (o := .cells #[.slice none 0 0, .slice none 0 0] 27 (0, 0)) (bG BK652) NB652_656.out (by simp)); replace HO676 := ak (Kd.R_lower ho0 (below_size (by repeat (first | (with_reducible first | exact HB.out | apply below_alloc | apply pw_below_drewN | apply below_drew1 | refine below_set ?_ (IsS80.ge HI656.out) | refine below_set ?_ GE652.out) | exact HB.out)))); replace HO679 := ak (Kd.R_lower ho1 (below_size (by repeat (first | (with_reducible first | exact HB.out | apply below_alloc | apply pw_below_drewN | apply below_drew1 | refine below_set ?_ (IsS80.ge HI656.out) | refine below_set ?_ GE652.out) | exact HB.out)))); replace HB := ak (hb); replace HI656 := ak (hi); (try clear hb); (try clear hb2); (try clear hk); (try clear hi); (try clear ho0); (try clear ho1); obtain ⟨Ao28, co28, eo28⟩ := Kd.R_slice HO676.out; subst eo28; have hnb29 := NB652_656.out; have hnc29 := NB656_652.out; obtain ⟨hcz30_0, hcz30_1, hfz30_0, hfz30_1⟩ := bC2 BK652; obtain ⟨Ao31, co31, eo31⟩ := Kd.R_slice HO679.out; subst eo31))
  refine bodyPost_ret (results_cell_row rfl _ _ gb652 27 #[.slice Ao28 t674.length co28, .slice Ao31 t677.length co31] (0, 0) _ rfl (bW BK652) Try.underlying27 rfl (by kernel_rfl)) rfl ?_
  exact ⟨_, _, ew, by exact Kd.R_mono (rT HO676 BK652 (by decide)) (fun _ hk => trivial), by exact Kd.R_mono (rT HO679 BK652 (by decide)) (fun _ hk => trivial), by repeat (first | (with_reducible first | exact HB.out | apply below_alloc | apply pw_below_drewN | apply below_drew1 | refine below_set ?_ (IsS80.ge HI656.out) | refine below_set ?_ GE652.out) | exact HB.out)⟩
/-! ### laws_sameFrames: function 43 -/
def laws_sameFrames.l0 : Nat → List (S74) → List (S74) → Int → Option (Bool)
 | 0, _, _, _ => none
 | k + 1, x0, x1, x5 => if x5 < (x0.length : Int) then (if 0 ≤ x5 then (if x5 < (x1.length : Int) then (if (!(((rd_T74 x0 x5).f0) == ((rd_T74 x1 x5).f0)) || (!(((rd_T74 x0 x5).f1) == ((rd_T74 x1 x5).f1)) || (!((((rd_T74 x0 x5).f2).toList) == (((rd_T74 x1 x5).f2).toList))))) = true then (some false) else (laws_sameFrames.l0 k x0 x1 (wrap64 (x5 + 1)))) else (none)) else (none)) else (some true)
def laws_sameFrames.f (k : Nat) (l0 : List (S74)) (l1 : List (S74)) : Option (Bool) := if (l0.length : Int) = (l1.length : Int) then (laws_sameFrames.l0 k l0 l1 0) else (some false)
theorem laws_sameFrames.mono_l : ∀ k, (∀ y0 y1 y2, LeO (laws_sameFrames.l0 k y0 y1 y2) (laws_sameFrames.l0 (k + 1) y0 y1 y2))
 | 0 => fun _ _ _ r h => by simp [laws_sameFrames.l0] at h
 | k + 1 => by
  have ih0 := laws_sameFrames.mono_l k
  ·intro y0 y1 y2
   unfold laws_sameFrames.l0
   repeat' first
   | (with_reducible exact ih0 _ _ _)
   | (with_reducible exact LeO.refl _)
   | (with_reducible exact LeO.none _)
   | (with_reducible refine LeO.ite ?_ ?_)
   | (with_reducible refine LeO.bind ?_ (fun _ => ?_))
   | exact ih0 _ _ _
   | exact LeO.none _
   | refine LeO.ite ?_ ?_
   | refine LeO.bind ?_ (fun _ => ?_)
theorem laws_sameFrames.mono : ∀ a0 a1 k, LeO (laws_sameFrames.f k a0 a1) (laws_sameFrames.f (k + 1) a0 a1) := by
 intro a0 a1 k
 have ih0 := laws_sameFrames.mono_l k
 unfold laws_sameFrames.f
 repeat' first
   | (with_reducible exact ih0 _ _ _)
   | (with_reducible exact LeO.refl _)
   | (with_reducible exact LeO.none _)
   | (with_reducible refine LeO.ite ?_ ?_)
   | (with_reducible refine LeO.bind ?_ (fun _ => ?_))
   | exact ih0 _ _ _
   | exact LeO.none _
   | refine LeO.ite ?_ ?_
   | refine LeO.bind ?_ (fun _ => ?_)
theorem laws_sameFrames.calls (k : Nat) (A0 : Option Addr) (c0 : Nat) (l0 : List (S74)) (A1 : Option Addr) (c1 : Nat) (l1 : List (S74)) (r : Bool) (w : World) (hr0 : Kd.C k74 w A0 l0.length l0) (hc0 : l0.length ≤ c0) (hr1 : Kd.C k74 w A1 l1.length l1) (hc1 : l1.length ≤ c1) (h : laws_sameFrames.f k l0 l1 = some r) :
  Calls Try.prog 43 #[.slice A0 l0.length c0, .slice A1 l1.length c1] w fun e w' => e = .returned (.bool r) ∧ Drawn0 w w' := by
 have hu74 := Try.underlying74
 have HR0 := Aside0.mk hr0
 have HC0 := Aside0.mk hc0
 clear hr0 hc0
 have HR1 := Aside0.mk hr1
 have HC1 := Aside0.mk hc1
 clear hr1 hc1
 have H : (if (l0.length : Int) = (l1.length : Int) then (laws_sameFrames.l0 k l0 l1 0) else (some false)) = some r := h
 clear h
 by_cases c3 : (l0.length : Int) = (l1.length : Int)
 ·rw [if_pos c3] at H
  have c3b0 : ((l0.length : Int) == (l1.length : Int)) = true := beq_iff_eq.mpr c3
  have c3b1 : ((l0.length : Int) != (l1.length : Int)) = false := bne_eq_false_iff_eq.mpr c3
  have c3b2 : (l0.length == l1.length) = true := by first | simpa using c3 | (simp at c3 ⊢; omega)
  clear c3
  have H' := Aside0.mk H
  clear H
  go_enter Try.func43, Try.ntmps43
  go_wp2
  repeat (go_quiet (fail); try go_wp2)
  go_loopg [5] k (fun kq v5 w' => ∃ (x5_1 : Int), v5 = .int .i64 x5_1 ∧ Aside0 (laws_sameFrames.l0 kq l0 l1 x5_1 = some r) ∧ Aside0 (kq ≤ k) ∧ Drawn0 w w')
  case atStart => exact ⟨(0), (by first | rfl | (simp; done) | (simp [*]; done)), H', ⟨Nat.le_refl _⟩, by repeat (first | exact Drawn0.refl _ | apply Drawn0.step)⟩
  case round =>
   clear H'
   try clear c1
   try clear p2
   try clear c3
   try clear c3b0
   try clear c3b1
   try clear c3b2
   obtain ⟨x5_1, rfl, HA, HK1, ⟨m1, rfl⟩⟩ := hrel
   cases gk with
   | zero => exact absurd HA.out (by simp [laws_sameFrames.l0])
   | succ k1 =>
    have H := HA.out
    clear HA
    simp only [laws_sameFrames.l0] at H
    by_cases c4 : x5_1 < (l0.length : Int)
    ·rw [if_pos c4] at H
     have c4b0 : decide (x5_1 < (l0.length : Int)) = true := decide_eq_true c4
     clear c4
     by_cases c5 : 0 ≤ x5_1
     ·rw [if_pos c5] at H
      have c5b0 : decide (0 ≤ x5_1) = true := decide_eq_true c5
      clear c5
      by_cases c6 : x5_1 < (l1.length : Int)
      ·rw [if_pos c6] at H
       have c6b0 : decide (x5_1 < (l1.length : Int)) = true := decide_eq_true c6
       clear c6
       by_cases c7 : (!(((rd_T74 l0 x5_1).f0) == ((rd_T74 l1 x5_1).f0)) || (!(((rd_T74 l0 x5_1).f1) == ((rd_T74 l1 x5_1).f1)) || (!((((rd_T74 l0 x5_1).f2).toList) == (((rd_T74 l1 x5_1).f2).toList))))) = true
       ·rw [if_pos c7] at H
        have c7b0 : (!(((rd_T74 l0 x5_1).f0) == ((rd_T74 l1 x5_1).f0)) || (!(((rd_T74 l0 x5_1).f1) == ((rd_T74 l1 x5_1).f1)) || (!((((rd_T74 l0 x5_1).f2).toList) == (((rd_T74 l1 x5_1).f2).toList))))) = true := c7
        clear c7
        obtain rfl := Option.some.inj H
        have p682 : 0 ≤ (x5_1 : Int) := of_decide_eq_true (by first | (with_reducible assumption) | assumption)
        have q682 : x5_1 < (l0.length : Int) := of_decide_eq_true (by first | (with_reducible assumption) | assumption)
        obtain ⟨ad682, e682, hx682_0, hx682_1, hx682_2⟩ := at_T74 HR0.out x5_1 p682 q682
        cases e682
        replace p682 := eq_true p682
        replace q682 := eq_true q682
        have p683 : 0 ≤ (x5_1 : Int) := of_decide_eq_true (by first | (with_reducible assumption) | assumption)
        have q683 : x5_1 < (l1.length : Int) := of_decide_eq_true (by first | (with_reducible assumption) | assumption)
        obtain ⟨ad683, e683, hx683_0, hx683_1, hx683_2⟩ := at_T74 HR1.out x5_1 p683 q683
        cases e683
        replace p683 := eq_true p683
        replace q683 := eq_true q683
        go_wp2
        repeat (go_quiet (fail); try go_wp2)
        go_ret
        exact ⟨by first | rfl | (simp; done) | (simp [*]; done), by repeat (first | exact Drawn0.refl _ | apply Drawn0.step)⟩
       ·rw [if_neg c7] at H
        have c7b0 : (!(((rd_T74 l0 x5_1).f0) == ((rd_T74 l1 x5_1).f0)) || (!(((rd_T74 l0 x5_1).f1) == ((rd_T74 l1 x5_1).f1)) || (!((((rd_T74 l0 x5_1).f2).toList) == (((rd_T74 l1 x5_1).f2).toList))))) = false := by simpa using c7
        clear c7
        have H' := Aside0.mk H
        clear H
        have p682 : 0 ≤ (x5_1 : Int) := of_decide_eq_true (by first | (with_reducible assumption) | assumption)
        have q682 : x5_1 < (l0.length : Int) := of_decide_eq_true (by first | (with_reducible assumption) | assumption)
        obtain ⟨ad682, e682, hx682_0, hx682_1, hx682_2⟩ := at_T74 HR0.out x5_1 p682 q682
        cases e682
        replace p682 := eq_true p682
        replace q682 := eq_true q682
        have p683 : 0 ≤ (x5_1 : Int) := of_decide_eq_true (by first | (with_reducible assumption) | assumption)
        have q683 : x5_1 < (l1.length : Int) := of_decide_eq_true (by first | (with_reducible assumption) | assumption)
        obtain ⟨ad683, e683, hx683_0, hx683_1, hx683_2⟩ := at_T74 HR1.out x5_1 p683 q683
        cases e683
        replace p683 := eq_true p683
        replace q683 := eq_true q683
        go_wp2
        repeat (go_quiet (fail); try go_wp2)
        go_roundg k1
        case measure => have := HK1.out; omega
        case rel => exact ⟨(wrap64 (x5_1 + 1)), (by first | rfl | (simp; done) | (simp [*]; done)), H', ⟨by have := HK1.out; omega⟩, by repeat (first | exact Drawn0.refl _ | apply Drawn0.step)⟩
      ·rw [if_neg c6] at H
       exact absurd H (by simp)
     ·rw [if_neg c5] at H
      exact absurd H (by simp)
    ·rw [if_neg c4] at H
     have c4b0 : decide (x5_1 < (l0.length : Int)) = false := decide_eq_false c4
     clear c4
     obtain rfl := Option.some.inj H
     go_wp2
     repeat (go_quiet (fail); try go_wp2)
     go_ret
     exact ⟨by first | rfl | (simp; done) | (simp [*]; done), by repeat (first | exact Drawn0.refl _ | apply Drawn0.step)⟩
 ·rw [if_neg c3] at H
  have c3b0 : ((l0.length : Int) == (l1.length : Int)) = false := beq_eq_false_iff_ne.mpr c3
  have c3b1 : ((l0.length : Int) != (l1.length : Int)) = true := bne_iff_ne.mpr c3
  have c3b2 : (l0.length == l1.length) = false := by first | simpa using c3 | (simp at c3 ⊢; omega)
  obtain rfl := Option.some.inj H
  go_enter Try.func43, Try.ntmps43
  go_wp2
  repeat (go_quiet (fail); try go_wp2)
  go_ret
  exact ⟨by first | rfl | (simp; done) | (simp [*]; done), by repeat (first | exact Drawn0.refl _ | apply Drawn0.step)⟩
end Go.Proofs.Ytjpngldnkgofaaa.PFnSegmentsTold
