-- Written by a program of mine (a turned copy of the kit's print): functions as plain Lean, their contracts.
import Derived.Test.YtagkjeldheiejaaPFnAnyOrderx13
import Derived.Test.YtagkjeldheiejaaPFnAnyOrderx14
import Derived.Test.YtagkjeldheiejaaVFnAnyOrder1
namespace Go.Proofs.Ytagkjeldheiejaa.PFnAnyOrder
open Go.RowKit Go.Proofs.YtagkjeldheiejaaW.PrintWords Go.Proofs.YtagkjeldheiejaaW.PrintLast Go.Proofs.YtagkjeldheiejaaW.PrintMore
attribute [local go_sem] max2_int min2_int max_two min_two max_three min_three max_four min_four   -- for this text's walks alone
set_option maxHeartbeats 8000000
set_option maxRecDepth 100000
set_option linter.unusedVariables false
set_option linter.unusedSimpArgs false
/-! ### spec_l07Mails: function 84 -/
mutual
def spec_l07Mails.l0 : Nat → List (S32) → Int → List Int → Int → Option ((List (S68)))
 | 0, _, _, _, _ => none
 | k + 1, x0, x1, x5, x6 => if x6 < (x0.length : Int) then (if 0 ≤ x6 then ((spec_l07Best.f k x0 5 x1 ((rd_T32 x0 x6).f1.f2)).bind fun bt433 => (if ((rd_T32 x0 x6).f1.f0) = 3 then (if ((rd_T32 x0 x6).f1.f1) = x1 then (if bt433.2.2.2.2.2.2.2.2.2 = true then (spec_l07Mails.l0 k x0 x1 x5 (wrap64 (x6 + 1))) else ((spec_l07Sorted.f k x5 ((rd_T32 x0 x6).f1.f2)).bind fun t444 => (spec_l07Mails.l0 k x0 x1 t444 (wrap64 (x6 + 1))))) else (spec_l07Mails.l0 k x0 x1 x5 (wrap64 (x6 + 1)))) else (spec_l07Mails.l0 k x0 x1 x5 (wrap64 (x6 + 1))))) else (none)) else (spec_l07Mails.l1 k x0 x1 x5 (([] : List (S68))) 0)
def spec_l07Mails.l1 : Nat → List (S32) → Int → List Int → List (S68) → Int → Option ((List (S68)))
 | 0, _, _, _, _, _ => none
 | k + 1, x0, x1, x5, x10, x11 => if x11 < (x5.length : Int) then (if 0 ≤ x11 then ((spec_l07Best.f k x0 3 x1 (rd x5 x11)).bind fun bt451 => ((spec_l07Best.f k x0 4 x1 (rd x5 x11)).bind fun bt465 => (if bt465.2.2.2.2.2.2.2.2.2 = true then (if x10.length < 4398046511104 then (spec_l07Mails.l1 k x0 x1 x5 (x10 ++ [(⟨rd x5 x11, bt465.2.2.2.2.2.1, bt451.2.2.2.2.2.2.2.2.1⟩ : S68)]) (wrap64 (x11 + 1))) else (none)) else (if x10.length < 4398046511104 then (spec_l07Mails.l1 k x0 x1 x5 (x10 ++ [(⟨rd x5 x11, bt451.2.2.2.2.2.1, bt451.2.2.2.2.2.2.2.2.1⟩ : S68)]) (wrap64 (x11 + 1))) else (none))))) else (none)) else (some x10)
end
def spec_l07Mails.f (k : Nat) (l0 : List (S32)) (a1 : Int) : Option ((List (S68))) := spec_l07Mails.l0 k l0 a1 (([] : List Int)) 0
theorem spec_l07Mails.mono_l : ∀ k, (∀ y0 y1 y2 y3, LeO (spec_l07Mails.l0 k y0 y1 y2 y3) (spec_l07Mails.l0 (k + 1) y0 y1 y2 y3)) ∧ (∀ y0 y1 y2 y3 y4, LeO (spec_l07Mails.l1 k y0 y1 y2 y3 y4) (spec_l07Mails.l1 (k + 1) y0 y1 y2 y3 y4))
 | 0 => ⟨fun _ _ _ _ r h => by simp [spec_l07Mails.l0] at h, fun _ _ _ _ _ r h => by simp [spec_l07Mails.l1] at h⟩
 | k + 1 => by
  obtain ⟨ih0, ih1⟩ := spec_l07Mails.mono_l k
  refine ⟨?_, ?_⟩
  ·intro y0 y1 y2 y3
   unfold spec_l07Mails.l0
   repeat' first
   | (with_reducible exact ih0 _ _ _ _)
   | (with_reducible exact ih1 _ _ _ _ _)
   | (with_reducible exact spec_l07Best.mono _ _ _ _ _)
   | (with_reducible exact spec_l07Sorted.mono _ _ _)
   | (with_reducible exact LeO.refl _)
   | (with_reducible exact LeO.none _)
   | (with_reducible refine LeO.ite ?_ ?_)
   | (with_reducible refine LeO.bind ?_ (fun _ => ?_))
   | exact ih0 _ _ _ _
   | exact ih1 _ _ _ _ _
   | exact spec_l07Best.mono _ _ _ _ _
   | exact spec_l07Sorted.mono _ _ _
   | exact LeO.none _
   | refine LeO.ite ?_ ?_
   | refine LeO.bind ?_ (fun _ => ?_)
  ·intro y0 y1 y2 y3 y4
   unfold spec_l07Mails.l1
   repeat' first
   | (with_reducible exact ih0 _ _ _ _)
   | (with_reducible exact ih1 _ _ _ _ _)
   | (with_reducible exact spec_l07Best.mono _ _ _ _ _)
   | (with_reducible exact spec_l07Sorted.mono _ _ _)
   | (with_reducible exact LeO.refl _)
   | (with_reducible exact LeO.none _)
   | (with_reducible refine LeO.ite ?_ ?_)
   | (with_reducible refine LeO.bind ?_ (fun _ => ?_))
   | exact ih0 _ _ _ _
   | exact ih1 _ _ _ _ _
   | exact spec_l07Best.mono _ _ _ _ _
   | exact spec_l07Sorted.mono _ _ _
   | exact LeO.none _
   | refine LeO.ite ?_ ?_
   | refine LeO.bind ?_ (fun _ => ?_)
theorem spec_l07Mails.mono : ∀ a0 a1 k, LeO (spec_l07Mails.f k a0 a1) (spec_l07Mails.f (k + 1) a0 a1) := by
 intro a0 a1 k
 obtain ⟨ih0, ih1⟩ := spec_l07Mails.mono_l k
 unfold spec_l07Mails.f
 repeat' first
   | (with_reducible exact ih0 _ _ _ _)
   | (with_reducible exact ih1 _ _ _ _ _)
   | (with_reducible exact spec_l07Best.mono _ _ _ _ _)
   | (with_reducible exact spec_l07Sorted.mono _ _ _)
   | (with_reducible exact LeO.refl _)
   | (with_reducible exact LeO.none _)
   | (with_reducible refine LeO.ite ?_ ?_)
   | (with_reducible refine LeO.bind ?_ (fun _ => ?_))
   | exact ih0 _ _ _ _
   | exact ih1 _ _ _ _ _
   | exact spec_l07Best.mono _ _ _ _ _
   | exact spec_l07Sorted.mono _ _ _
   | exact LeO.none _
   | refine LeO.ite ?_ ?_
   | refine LeO.bind ?_ (fun _ => ?_)
def spec_l07Mails.T14 : Bool × List (List Nat × List Nat) := (true, [([], []), ([], []), ([0, 1], [0, 1]), ([2], [2]), ([], []), ([4], [4]), ([5], [5]), ([], []), ([7], [7]), ([8], [8]), ([3, 6, 9], [3, 6, 9]), ([], []), ([11, 10, 0, 1, 2, 3, 4, 5, 6, 7, 8, 9, 10, 11], [10, 11])])
def spec_l07Mails.B14 : List Nat := [0, 0, 3, 7, 0, 16, 48, 0, 128, 384, 1023, 0, 4095]
theorem spec_l07Mails.tab14 : rtab .any (opsOf Try.f84 14) = spec_l07Mails.T14 := by kernel_rfl
theorem spec_l07Mails.bits14 : waitsOk spec_l07Mails.T14.2 spec_l07Mails.B14 = true := by kernel_rfl
theorem spec_l07Mails.calls (k : Nat) (A0 : Option Addr) (c0 : Nat) (l0 : List (S32)) (a1 : Int) (r : List (S68)) (w : World) (hr0 : Kd.C k32 w A0 l0.length l0) (hc0 : l0.length ≤ c0) (h : spec_l07Mails.f k l0 a1 = some r) :
  Calls Try.prog 84 #[.slice A0 l0.length c0, .int .i64 a1] w fun e w' => ∃ v0_ : Value, e = .returned (v0_) ∧ Kd.R k68 68 w' w.heap.size (fun _ => True) v0_ r ∧ Below w.heap.size w w' := by
 have hu23 := Try.underlying23
 have hu32 := Try.underlying32
 have hu68 := Try.underlying68
 have HR0 := Aside0.mk hr0
 have HC0 := Aside0.mk hc0
 clear hr0 hc0
 have HB := ak (Below.refl w.heap.size w)
 have H : (spec_l07Mails.l0 k l0 a1 (([] : List Int)) 0) = some r := h
 clear h
 obtain ⟨y428, hy428⟩ : ∃ y_ : List Int, y_ = (([] : List Int)) := ⟨_, rfl⟩
 replace H : (spec_l07Mails.l0 k l0 a1 y428 0) = some r := by first | (rw [hy428]; with_reducible exact H) | (have H2_ := (Option.bind_some _ _).symm.trans H; rw [hy428]; with_reducible exact H2_) | (have H2_ := (Option.bind_some _ _).symm.trans H; with_reducible exact H2_) | with_reducible exact H | (rw [hy428]; exact H) | exact H
 have Ny428 := Aside0.mk hy428
 clear hy428
 have H' := Aside0.mk H
 clear H
 go_enter Try.func84, Try.ntmps84
 go_wp2_with (first | ((with_reducible refine gate_dst (N := 17) rfl ?_); refine Kd.R_lit (Kd.int .i64) _ 3 ?hg (N := 17) ?hd (xs := ([] : List Int)) (inner := []) (ok := fun _ => True) (okp := fun _ => True) ?hr ?hp (fun _ hk => hk) trivial (Below.refl _ _) (Nat.le_refl _) (by simp) ?_; (case hd => rfl); (case hg => rfl); (case hr => first | (go_simp; done) | (go_simp; rfl)); (case hp => exact (Reps.none _ _)); intro v429 w3 ho4 hb hg_ hnew_; clear hg_ hnew_; (first | rw [← Ny428.out] at ho4 | (simp only [Int.reduceToNat] at ho4; rw [← Ny428.out] at ho4)); replace HO430 := ak (Kd.R_lower ho4 (below_size (lG HB))); replace HB := lB HB hb; clear hb ho4))
 go_loopg [5, 6] k (fun kq v5 v6 w' => ∃ (x5_1 : List Int) (x6_1 : Int), v6 = .int .i64 x6_1 ∧ Aside0 (spec_l07Mails.l0 kq l0 a1 x5_1 x6_1 = some r) ∧ Aside0 (kq ≤ k) ∧ Aside0 (Kd.R (Kd.int .i64) 3 w' w.heap.size (fun _ => True) v5 x5_1) ∧ Aside0 (Below w.heap.size w w'))
 case atStart => exact ⟨_, _, rr, H', ⟨Nat.le_refl _⟩, ⟨by (with_reducible repeat (first | apply Kd.R_alloc | apply Kd.R_drewN | apply Kd.R_drew)); exact HO430.out⟩, ⟨by exact lG HB⟩⟩
 case round =>
  clear H'
  try clear p2
  obtain ⟨x5_1, x6_1, rfl, HA, HK1, HO_5, HB⟩ := hrel
  cases gk with
  | zero => exact absurd HA.out (by simp [spec_l07Mails.l0])
  | succ k1 =>
   have H := HA.out
   clear HA
   simp only [spec_l07Mails.l0] at H
   by_cases c5 : x6_1 < (l0.length : Int)
   ·rw [if_pos c5] at H
    have c5b0 : decide (x6_1 < (l0.length : Int)) = true := decide_eq_true c5
    clear c5
    by_cases c6 : 0 ≤ x6_1
    ·rw [if_pos c6] at H
     have c6b0 : decide (0 ≤ x6_1) = true := decide_eq_true c6
     clear c6
     obtain ⟨⟨t433, t434, t435, t436, t437, t438, t439, t440, t441, t442⟩, A7, H⟩ := eb H
     try dsimp only at H
     by_cases c8 : ((rd_T32 l0 x6_1).f1.f0) = 3
     ·rw [if_pos c8] at H
      have c8b0 : (((rd_T32 l0 x6_1).f1.f0) == 3) = true := beq_iff_eq.mpr c8
      have c8b1 : (((rd_T32 l0 x6_1).f1.f0) != 3) = false := bne_eq_false_iff_eq.mpr c8
      clear c8
      by_cases c9 : ((rd_T32 l0 x6_1).f1.f1) = a1
      ·rw [if_pos c9] at H
       have c9b0 : (((rd_T32 l0 x6_1).f1.f1) == a1) = true := beq_iff_eq.mpr c9
       have c9b1 : (((rd_T32 l0 x6_1).f1.f1) != a1) = false := bne_eq_false_iff_eq.mpr c9
       clear c9
       by_cases c10 : t442 = true
       ·subst c10
        rw [if_pos rfl] at H
        have H' := Aside0.mk H
        clear H
        have p431 : 0 ≤ (x6_1 : Int) := oda
        have q431 : x6_1 < (l0.length : Int) := oda
        obtain ⟨ad431, e431, hx431_0, hx431_1, hx431_2, hx431_3, hx431_4, hx431_5, hx431_6, hx431_7, hx431_8⟩ := at_T32 HR0.out x6_1 p431 q431
        cases e431
        replace hx431_0 := (HB.out.cell (World.block_lt_of_cell? w _ hx431_0)).trans hx431_0
        replace hx431_1 := (HB.out.cell (World.block_lt_of_cell? w _ hx431_1)).trans hx431_1
        replace hx431_2 := (HB.out.cell (World.block_lt_of_cell? w _ hx431_2)).trans hx431_2
        replace hx431_3 := (HB.out.cell (World.block_lt_of_cell? w _ hx431_3)).trans hx431_3
        replace hx431_4 := (HB.out.cell (World.block_lt_of_cell? w _ hx431_4)).trans hx431_4
        replace hx431_5 := (HB.out.cell (World.block_lt_of_cell? w _ hx431_5)).trans hx431_5
        replace hx431_6 := (HB.out.cell (World.block_lt_of_cell? w _ hx431_6)).trans hx431_6
        replace hx431_7 := (HB.out.cell (World.block_lt_of_cell? w _ hx431_7)).trans hx431_7
        replace hx431_8 := (HB.out.cell (World.block_lt_of_cell? w _ hx431_8)).trans hx431_8
        replace p431 := eq_true p431
        replace q431 := eq_true q431
        go_wp2_with (first | ((with_reducible refine gate_dst (N := 7) rfl ?_); refine bx 7 #[.int .i64 0, .int .i64 0, .int .i64 0, .int .i64 0, .int .i64 0, .string (⟨#[]⟩ : ByteArray), .string (⟨#[]⟩ : ByteArray), .string (⟨#[]⟩ : ByteArray)] 23 ?_; intro gb432 hg w11 hbox hb; replace HO_5 := rB HO_5 hb; replace BK432 := ak (hbox); replace GE432 := ak (bz hg (lG HB)); replace HB := lB HB hb; clear hb hbox hg; obtain ⟨hcz12_0, hcz12_1, hcz12_2, hcz12_3, hcz12_4, hcz12_5, hcz12_6, hcz12_7, hfz12_0, hfz12_1, hfz12_2, hfz12_3, hfz12_4, hfz12_5, hfz12_6, hfz12_7⟩ := bC8 BK432) | ((with_reducible refine gate_callee (f := 80) rfl ?_); refine gl (some 34) Try.func80 #[.slice (some ad431) l0.length c0, .int .i64 5, .int .i64 a1, .int .i64 ((rd_T32 l0 x6_1).f1.f2)] ?_; (with_reducible refine (spec_l07Best.calls k1 _ _ l0 5 a1 ((rd_T32 l0 x6_1).f1.f2) t433 t434 t435 t436 t437 t438 t439 t440 t441 true _ ?side1 ?side2 A7.out).mono ?_); (case side1 => exact Kd.C_below HR0.out (lT HB (gC GE432 gN))); (case side2 => exact HC0.out); rintro e w13 ⟨rfl, hb⟩; refine ⟨_, rfl, ?_⟩; replace HO_5 := ak (Kd.R_below (rT HO_5 BK432 (by decide)) hb); replace BK432 := ak (blk_below (g := gb432) (o := .cells #[.int .i64 ((rd_T32 l0 x6_1).f1.f0), .int .i64 ((rd_T32 l0 x6_1).f1.f1), .int .i64 ((rd_T32 l0 x6_1).f1.f2), .int .i64 ((rd_T32 l0 x6_1).f1.f3), .int .i64 ((rd_T32 l0 x6_1).f1.f4), .string ((rd_T32 l0 x6_1).f1.f5), .string ((rd_T32 l0 x6_1).f1.f6), .string ((rd_T32 l0 x6_1).f1.f7)] 23 (0, 0)) (bW BK432) hb); replace HB := ak (below_step (lT HB (gC GE432 gN)) hb); (try clear hb); (try clear hk)) | ((with_reducible refine gate_dst (N := 8) rfl ?_); refine bx 8 #[.int .i64 0, .int .i64 0, .int .i64 0, .int .i64 0, .int .i64 0, .int .i64 0, .string (⟨#[]⟩ : ByteArray), .string (⟨#[]⟩ : ByteArray), .string (⟨#[]⟩ : ByteArray)] 32 ?_; intro gb443 hg w14 hbox hb; replace HO_5 := rB HO_5 hb; replace BK443 := ak (hbox); replace GW443 := ak (bz hg (lT HB (gC GE432 gN))); replace GE443 := ak (bz hg (lT HB (gC GE432 gN))); replace HB := ak (below_step (lT HB (gC GE432 gN)) hb); replace NB432_443 := ak (nl hg (bG BK432)); replace NB443_432 := ak (ng hg (bG BK432)); replace BK432 := bB BK432 hb; clear hb hbox hg; have hnb15 := NB443_432.out; have hnc15 := NB432_443.out; obtain ⟨hcz16_0, hcz16_1, hcz16_2, hcz16_3, hcz16_4, hcz16_5, hcz16_6, hcz16_7, hcz16_8, hfz16_0, hfz16_1, hfz16_2, hfz16_3, hfz16_4, hfz16_5, hfz16_6, hfz16_7, hfz16_8⟩ := bC9 BK443; obtain ⟨hcz17_0, hcz17_1, hcz17_2, hcz17_3, hcz17_4, hcz17_5, hcz17_6, hcz17_7, hfz17_0, hfz17_1, hfz17_2, hfz17_3, hfz17_4, hfz17_5, hfz17_6, hfz17_7⟩ := bC8 BK432))
        go_roundg k1
        case measure => have := HK1.out; omega
        case rel => exact ⟨_, _, rr, H', ⟨by have := HK1.out; omega⟩, ⟨by exact Kd.R_mono (rT HO_5 BK443 (by decide)) (fun _ hk => trivial)⟩, ⟨by exact lT HB (gC GE432 (gC GE443 gN))⟩⟩
       ·replace c10 := Bool.eq_false_iff.mpr c10
        subst c10
        rw [if_neg (show ¬ (false = true) by decide)] at H
        obtain ⟨t444, A18, H⟩ := eb H
        try dsimp only at H
        have H' := Aside0.mk H
        clear H
        have p431 : 0 ≤ (x6_1 : Int) := oda
        have q431 : x6_1 < (l0.length : Int) := oda
        obtain ⟨ad431, e431, hx431_0, hx431_1, hx431_2, hx431_3, hx431_4, hx431_5, hx431_6, hx431_7, hx431_8⟩ := at_T32 HR0.out x6_1 p431 q431
        cases e431
        replace hx431_0 := (HB.out.cell (World.block_lt_of_cell? w _ hx431_0)).trans hx431_0
        replace hx431_1 := (HB.out.cell (World.block_lt_of_cell? w _ hx431_1)).trans hx431_1
        replace hx431_2 := (HB.out.cell (World.block_lt_of_cell? w _ hx431_2)).trans hx431_2
        replace hx431_3 := (HB.out.cell (World.block_lt_of_cell? w _ hx431_3)).trans hx431_3
        replace hx431_4 := (HB.out.cell (World.block_lt_of_cell? w _ hx431_4)).trans hx431_4
        replace hx431_5 := (HB.out.cell (World.block_lt_of_cell? w _ hx431_5)).trans hx431_5
        replace hx431_6 := (HB.out.cell (World.block_lt_of_cell? w _ hx431_6)).trans hx431_6
        replace hx431_7 := (HB.out.cell (World.block_lt_of_cell? w _ hx431_7)).trans hx431_7
        replace hx431_8 := (HB.out.cell (World.block_lt_of_cell? w _ hx431_8)).trans hx431_8
        replace p431 := eq_true p431
        replace q431 := eq_true q431
        go_wp2_with (first | ((with_reducible refine gate_dst (N := 7) rfl ?_); refine bx 7 #[.int .i64 0, .int .i64 0, .int .i64 0, .int .i64 0, .int .i64 0, .string (⟨#[]⟩ : ByteArray), .string (⟨#[]⟩ : ByteArray), .string (⟨#[]⟩ : ByteArray)] 23 ?_; intro gb432 hg w19 hbox hb; replace HO_5 := rB HO_5 hb; replace BK432 := ak (hbox); replace GE432 := ak (bz hg (lG HB)); replace HB := lB HB hb; clear hb hbox hg; obtain ⟨hcz20_0, hcz20_1, hcz20_2, hcz20_3, hcz20_4, hcz20_5, hcz20_6, hcz20_7, hfz20_0, hfz20_1, hfz20_2, hfz20_3, hfz20_4, hfz20_5, hfz20_6, hfz20_7⟩ := bC8 BK432) | ((with_reducible refine gate_callee (f := 80) rfl ?_); refine gl (some 34) Try.func80 #[.slice (some ad431) l0.length c0, .int .i64 5, .int .i64 a1, .int .i64 ((rd_T32 l0 x6_1).f1.f2)] ?_; (with_reducible refine (spec_l07Best.calls k1 _ _ l0 5 a1 ((rd_T32 l0 x6_1).f1.f2) t433 t434 t435 t436 t437 t438 t439 t440 t441 false _ ?side1 ?side2 A7.out).mono ?_); (case side1 => exact Kd.C_below HR0.out (lT HB (gC GE432 gN))); (case side2 => exact HC0.out); rintro e w21 ⟨rfl, hb⟩; refine ⟨_, rfl, ?_⟩; replace HO_5 := ak (Kd.R_below (rT HO_5 BK432 (by decide)) hb); replace BK432 := ak (blk_below (g := gb432) (o := .cells #[.int .i64 ((rd_T32 l0 x6_1).f1.f0), .int .i64 ((rd_T32 l0 x6_1).f1.f1), .int .i64 ((rd_T32 l0 x6_1).f1.f2), .int .i64 ((rd_T32 l0 x6_1).f1.f3), .int .i64 ((rd_T32 l0 x6_1).f1.f4), .string ((rd_T32 l0 x6_1).f1.f5), .string ((rd_T32 l0 x6_1).f1.f6), .string ((rd_T32 l0 x6_1).f1.f7)] 23 (0, 0)) (bW BK432) hb); replace HB := ak (below_step (lT HB (gC GE432 gN)) hb); (try clear hb); (try clear hk)) | ((with_reducible refine gate_dst (N := 8) rfl ?_); refine bx 8 #[.int .i64 0, .int .i64 0, .int .i64 0, .int .i64 0, .int .i64 0, .int .i64 0, .string (⟨#[]⟩ : ByteArray), .string (⟨#[]⟩ : ByteArray), .string (⟨#[]⟩ : ByteArray)] 32 ?_; intro gb443 hg w22 hbox hb; replace HO_5 := rB HO_5 hb; replace BK443 := ak (hbox); replace GW443 := ak (bz hg (lT HB (gC GE432 gN))); replace GE443 := ak (bz hg (lT HB (gC GE432 gN))); replace HB := ak (below_step (lT HB (gC GE432 gN)) hb); replace NB432_443 := ak (nl hg (bG BK432)); replace NB443_432 := ak (ng hg (bG BK432)); replace BK432 := bB BK432 hb; clear hb hbox hg; have hnb23 := NB443_432.out; have hnc23 := NB432_443.out; obtain ⟨hcz24_0, hcz24_1, hcz24_2, hcz24_3, hcz24_4, hcz24_5, hcz24_6, hcz24_7, hcz24_8, hfz24_0, hfz24_1, hfz24_2, hfz24_3, hfz24_4, hfz24_5, hfz24_6, hfz24_7, hfz24_8⟩ := bC9 BK443; obtain ⟨hcz25_0, hcz25_1, hcz25_2, hcz25_3, hcz25_4, hcz25_5, hcz25_6, hcz25_7, hfz25_0, hfz25_1, hfz25_2, hfz25_3, hfz25_4, hfz25_5, hfz25_6, hfz25_7⟩ := bC8 BK432; obtain ⟨Ao26, co26, eo26⟩ := Kd.R_slice HO_5.out; subst eo26) | ((with_reducible refine gate_callee (f := 81) rfl ?_); refine gl (some 53) Try.func81 #[.slice Ao26 x5_1.length co26, .int .i64 ((rd_T32 l0 x6_1).f1.f2)] ?_; (with_reducible refine (spec_l07Sorted.calls k1 _ _ x5_1 ((rd_T32 l0 x6_1).f1.f2) t444 _ ?side1 ?side2 A18.out).mono ?_); (case side1 => exact (Kd.R_reads' (rT HO_5 BK443 (by decide))).2.2); (case side2 => exact (Kd.R_reads' HO_5.out).2.1); rintro e w27 ⟨v445, rfl, ho0, hb⟩; refine ⟨_, rfl, ?_⟩; replace HO446 := ak (Kd.R_lower (Kd.R_new' ho0 (Kd.R_lt (rT HO_5 BK443 (by decide)))) (below_size (lT HB (gC GE432 (gC GE443 gN))))); replace HO_5 := ak (Kd.R_elder' (rT HO_5 BK443 (by decide)) (Kd.R_base ho0) hb); replace BK432 := ak (blk_below (bT BK432 (nC NB432_443 nN)) hb); replace BK443 := ak (blk_below (g := gb443) (o := .cells #[.int .i64 t433, .int .i64 t434, .int .i64 t435, .int .i64 t436, .int .i64 t437, .int .i64 t438, .string t439, .string t440, .string t441] 32 (0, 0)) (bW BK443) hb); replace HB := ak (below_step (lT HB (gC GE432 (gC GE443 gN))) hb); (try clear hb); (try clear hk); (try clear ho0)))
        go_roundg k1
        case measure => have := HK1.out; omega
        case rel => exact ⟨_, _, rr, H', ⟨by have := HK1.out; omega⟩, ⟨by (with_reducible repeat (first | apply Kd.R_alloc | apply Kd.R_drewN | apply Kd.R_drew)); exact Kd.R_mono HO446.out (fun _ hk => trivial)⟩, ⟨by exact lT HB (gC GE432 (gC GE443 gN))⟩⟩
      ·rw [if_neg c9] at H
       have c9b0 : (((rd_T32 l0 x6_1).f1.f1) == a1) = false := beq_eq_false_iff_ne.mpr c9
       have c9b1 : (((rd_T32 l0 x6_1).f1.f1) != a1) = true := bne_iff_ne.mpr c9
       have H' := Aside0.mk H
       clear H
       have p431 : 0 ≤ (x6_1 : Int) := oda
       have q431 : x6_1 < (l0.length : Int) := oda
       obtain ⟨ad431, e431, hx431_0, hx431_1, hx431_2, hx431_3, hx431_4, hx431_5, hx431_6, hx431_7, hx431_8⟩ := at_T32 HR0.out x6_1 p431 q431
       cases e431
       replace hx431_0 := (HB.out.cell (World.block_lt_of_cell? w _ hx431_0)).trans hx431_0
       replace hx431_1 := (HB.out.cell (World.block_lt_of_cell? w _ hx431_1)).trans hx431_1
       replace hx431_2 := (HB.out.cell (World.block_lt_of_cell? w _ hx431_2)).trans hx431_2
       replace hx431_3 := (HB.out.cell (World.block_lt_of_cell? w _ hx431_3)).trans hx431_3
       replace hx431_4 := (HB.out.cell (World.block_lt_of_cell? w _ hx431_4)).trans hx431_4
       replace hx431_5 := (HB.out.cell (World.block_lt_of_cell? w _ hx431_5)).trans hx431_5
       replace hx431_6 := (HB.out.cell (World.block_lt_of_cell? w _ hx431_6)).trans hx431_6
       replace hx431_7 := (HB.out.cell (World.block_lt_of_cell? w _ hx431_7)).trans hx431_7
       replace hx431_8 := (HB.out.cell (World.block_lt_of_cell? w _ hx431_8)).trans hx431_8
       replace p431 := eq_true p431
       replace q431 := eq_true q431
       go_wp2_with (first | ((with_reducible refine gate_dst (N := 7) rfl ?_); refine bx 7 #[.int .i64 0, .int .i64 0, .int .i64 0, .int .i64 0, .int .i64 0, .string (⟨#[]⟩ : ByteArray), .string (⟨#[]⟩ : ByteArray), .string (⟨#[]⟩ : ByteArray)] 23 ?_; intro gb432 hg w28 hbox hb; replace HO_5 := rB HO_5 hb; replace BK432 := ak (hbox); replace GE432 := ak (bz hg (lG HB)); replace HB := lB HB hb; clear hb hbox hg; obtain ⟨hcz29_0, hcz29_1, hcz29_2, hcz29_3, hcz29_4, hcz29_5, hcz29_6, hcz29_7, hfz29_0, hfz29_1, hfz29_2, hfz29_3, hfz29_4, hfz29_5, hfz29_6, hfz29_7⟩ := bC8 BK432) | ((with_reducible refine gate_callee (f := 80) rfl ?_); refine gl (some 34) Try.func80 #[.slice (some ad431) l0.length c0, .int .i64 5, .int .i64 a1, .int .i64 ((rd_T32 l0 x6_1).f1.f2)] ?_; (with_reducible refine (spec_l07Best.calls k1 _ _ l0 5 a1 ((rd_T32 l0 x6_1).f1.f2) t433 t434 t435 t436 t437 t438 t439 t440 t441 t442 _ ?side1 ?side2 A7.out).mono ?_); (case side1 => exact Kd.C_below HR0.out (lT HB (gC GE432 gN))); (case side2 => exact HC0.out); rintro e w30 ⟨rfl, hb⟩; refine ⟨_, rfl, ?_⟩; replace HO_5 := ak (Kd.R_below (rT HO_5 BK432 (by decide)) hb); replace BK432 := ak (blk_below (g := gb432) (o := .cells #[.int .i64 ((rd_T32 l0 x6_1).f1.f0), .int .i64 ((rd_T32 l0 x6_1).f1.f1), .int .i64 ((rd_T32 l0 x6_1).f1.f2), .int .i64 ((rd_T32 l0 x6_1).f1.f3), .int .i64 ((rd_T32 l0 x6_1).f1.f4), .string ((rd_T32 l0 x6_1).f1.f5), .string ((rd_T32 l0 x6_1).f1.f6), .string ((rd_T32 l0 x6_1).f1.f7)] 23 (0, 0)) (bW BK432) hb); replace HB := ak (below_step (lT HB (gC GE432 gN)) hb); (try clear hb); (try clear hk)) | ((with_reducible refine gate_dst (N := 8) rfl ?_); refine bx 8 #[.int .i64 0, .int .i64 0, .int .i64 0, .int .i64 0, .int .i64 0, .int .i64 0, .string (⟨#[]⟩ : ByteArray), .string (⟨#[]⟩ : ByteArray), .string (⟨#[]⟩ : ByteArray)] 32 ?_; intro gb443 hg w31 hbox hb; replace HO_5 := rB HO_5 hb; replace BK443 := ak (hbox); replace GW443 := ak (bz hg (lT HB (gC GE432 gN))); replace GE443 := ak (bz hg (lT HB (gC GE432 gN))); replace HB := ak (below_step (lT HB (gC GE432 gN)) hb); replace NB432_443 := ak (nl hg (bG BK432)); replace NB443_432 := ak (ng hg (bG BK432)); replace BK432 := bB BK432 hb; clear hb hbox hg; have hnb32 := NB443_432.out; have hnc32 := NB432_443.out; obtain ⟨hcz33_0, hcz33_1, hcz33_2, hcz33_3, hcz33_4, hcz33_5, hcz33_6, hcz33_7, hcz33_8, hfz33_0, hfz33_1, hfz33_2, hfz33_3, hfz33_4, hfz33_5, hfz33_6, hfz33_7, hfz33_8⟩ := bC9 BK443; obtain ⟨hcz34_0, hcz34_1, hcz34_2, hcz34_3, hcz34_4, hcz34_5, hcz34_6, hcz34_7, hfz34_0, hfz34_1, hfz34_2, hfz34_3, hfz34_4, hfz34_5, hfz34_6, hfz34_7⟩ := bC8 BK432))
       go_roundg k1
       case measure => have := HK1.out; omega
       case rel => exact ⟨_, _, rr, H', ⟨by have := HK1.out; omega⟩, ⟨by exact Kd.R_mono (rT HO_5 BK443 (by decide)) (fun _ hk => trivial)⟩, ⟨by exact lT HB (gC GE432 (gC GE443 gN))⟩⟩
     ·rw [if_neg c8] at H
      have c8b0 : (((rd_T32 l0 x6_1).f1.f0) == 3) = false := beq_eq_false_iff_ne.mpr c8
      have c8b1 : (((rd_T32 l0 x6_1).f1.f0) != 3) = true := bne_iff_ne.mpr c8
      have H' := Aside0.mk H
      clear H
      have p431 : 0 ≤ (x6_1 : Int) := oda
      have q431 : x6_1 < (l0.length : Int) := oda
      obtain ⟨ad431, e431, hx431_0, hx431_1, hx431_2, hx431_3, hx431_4, hx431_5, hx431_6, hx431_7, hx431_8⟩ := at_T32 HR0.out x6_1 p431 q431
      cases e431
      replace hx431_0 := (HB.out.cell (World.block_lt_of_cell? w _ hx431_0)).trans hx431_0
      replace hx431_1 := (HB.out.cell (World.block_lt_of_cell? w _ hx431_1)).trans hx431_1
      replace hx431_2 := (HB.out.cell (World.block_lt_of_cell? w _ hx431_2)).trans hx431_2
      replace hx431_3 := (HB.out.cell (World.block_lt_of_cell? w _ hx431_3)).trans hx431_3
      replace hx431_4 := (HB.out.cell (World.block_lt_of_cell? w _ hx431_4)).trans hx431_4
      replace hx431_5 := (HB.out.cell (World.block_lt_of_cell? w _ hx431_5)).trans hx431_5
      replace hx431_6 := (HB.out.cell (World.block_lt_of_cell? w _ hx431_6)).trans hx431_6
      replace hx431_7 := (HB.out.cell (World.block_lt_of_cell? w _ hx431_7)).trans hx431_7
      replace hx431_8 := (HB.out.cell (World.block_lt_of_cell? w _ hx431_8)).trans hx431_8
      replace p431 := eq_true p431
      replace q431 := eq_true q431
      go_wp2_with (first | ((with_reducible refine gate_dst (N := 7) rfl ?_); refine bx 7 #[.int .i64 0, .int .i64 0, .int .i64 0, .int .i64 0, .int .i64 0, .string (⟨#[]⟩ : ByteArray), .string (⟨#[]⟩ : ByteArray), .string (⟨#[]⟩ : ByteArray)] 23 ?_; intro gb432 hg w35 hbox hb; replace HO_5 := rB HO_5 hb; replace BK432 := ak (hbox); replace GE432 := ak (bz hg (lG HB)); replace HB := lB HB hb; clear hb hbox hg; obtain ⟨hcz36_0, hcz36_1, hcz36_2, hcz36_3, hcz36_4, hcz36_5, hcz36_6, hcz36_7, hfz36_0, hfz36_1, hfz36_2, hfz36_3, hfz36_4, hfz36_5, hfz36_6, hfz36_7⟩ := bC8 BK432) | ((with_reducible refine gate_callee (f := 80) rfl ?_); refine gl (some 34) Try.func80 #[.slice (some ad431) l0.length c0, .int .i64 5, .int .i64 a1, .int .i64 ((rd_T32 l0 x6_1).f1.f2)] ?_; (with_reducible refine (spec_l07Best.calls k1 _ _ l0 5 a1 ((rd_T32 l0 x6_1).f1.f2) t433 t434 t435 t436 t437 t438 t439 t440 t441 t442 _ ?side1 ?side2 A7.out).mono ?_); (case side1 => exact Kd.C_below HR0.out (lT HB (gC GE432 gN))); (case side2 => exact HC0.out); rintro e w37 ⟨rfl, hb⟩; refine ⟨_, rfl, ?_⟩; replace HO_5 := ak (Kd.R_below (rT HO_5 BK432 (by decide)) hb); replace BK432 := ak (blk_below (g := gb432) (o := .cells #[.int .i64 ((rd_T32 l0 x6_1).f1.f0), .int .i64 ((rd_T32 l0 x6_1).f1.f1), .int .i64 ((rd_T32 l0 x6_1).f1.f2), .int .i64 ((rd_T32 l0 x6_1).f1.f3), .int .i64 ((rd_T32 l0 x6_1).f1.f4), .string ((rd_T32 l0 x6_1).f1.f5), .string ((rd_T32 l0 x6_1).f1.f6), .string ((rd_T32 l0 x6_1).f1.f7)] 23 (0, 0)) (bW BK432) hb); replace HB := ak (below_step (lT HB (gC GE432 gN)) hb); (try clear hb); (try clear hk)) | ((with_reducible refine gate_dst (N := 8) rfl ?_); refine bx 8 #[.int .i64 0, .int .i64 0, .int .i64 0, .int .i64 0, .int .i64 0, .int .i64 0, .string (⟨#[]⟩ : ByteArray), .string (⟨#[]⟩ : ByteArray), .string (⟨#[]⟩ : ByteArray)] 32 ?_; intro gb443 hg w38 hbox hb; replace HO_5 := rB HO_5 hb; replace BK443 := ak (hbox); replace GW443 := ak (bz hg (lT HB (gC GE432 gN))); replace GE443 := ak (bz hg (lT HB (gC GE432 gN))); replace HB := ak (below_step (lT HB (gC GE432 gN)) hb); replace NB432_443 := ak (nl hg (bG BK432)); replace NB443_432 := ak (ng hg (bG BK432)); replace BK432 := bB BK432 hb; clear hb hbox hg; have hnb39 := NB443_432.out; have hnc39 := NB432_443.out; obtain ⟨hcz40_0, hcz40_1, hcz40_2, hcz40_3, hcz40_4, hcz40_5, hcz40_6, hcz40_7, hcz40_8, hfz40_0, hfz40_1, hfz40_2, hfz40_3, hfz40_4, hfz40_5, hfz40_6, hfz40_7, hfz40_8⟩ := bC9 BK443; obtain ⟨hcz41_0, hcz41_1, hcz41_2, hcz41_3, hcz41_4, hcz41_5, hcz41_6, hcz41_7, hfz41_0, hfz41_1, hfz41_2, hfz41_3, hfz41_4, hfz41_5, hfz41_6, hfz41_7⟩ := bC8 BK432))
      go_roundg k1
      case measure => have := HK1.out; omega
      case rel => exact ⟨_, _, rr, H', ⟨by have := HK1.out; omega⟩, ⟨by exact Kd.R_mono (rT HO_5 BK443 (by decide)) (fun _ hk => trivial)⟩, ⟨by exact lT HB (gC GE432 (gC GE443 gN))⟩⟩
    ·rw [if_neg c6] at H
     exact absurd H (by simp)
   ·rw [if_neg c5] at H
    have c5b0 : decide (x6_1 < (l0.length : Int)) = false := decide_eq_false c5
    clear c5
    obtain ⟨y447, hy447⟩ : ∃ y_ : List (S68), y_ = (([] : List (S68))) := ⟨_, rfl⟩
    replace H : (spec_l07Mails.l1 k1 l0 a1 x5_1 y447 0) = some r := by first | (rw [hy447]; with_reducible exact H) | (have H2_ := (Option.bind_some _ _).symm.trans H; rw [hy447]; with_reducible exact H2_) | (have H2_ := (Option.bind_some _ _).symm.trans H; with_reducible exact H2_) | with_reducible exact H | (rw [hy447]; exact H) | exact H
    have Ny447 := Aside0.mk hy447
    clear hy447
    have H' := Aside0.mk H
    clear H
    go_wp2_with (first | ((with_reducible refine gate_dst (N := 54) rfl ?_); refine Kd.R_lit k68 _ 68 ?hg (N := 54) ?hd (xs := ([] : List (S68))) (inner := []) (ok := fun _ => True) (okp := fun _ => True) ?hr ?hp (fun _ hk => hk) trivial (Below.refl _ _) (Nat.le_refl _) (by simp) ?_; (case hd => rfl); (case hg => rfl); (case hr => first | (go_simp; done) | (go_simp; rfl)); (case hp => exact (Reps.none _ _)); intro v448 w42 ho43 hb hg_ hnew_; clear hg_ hnew_; (first | rw [← Ny447.out] at ho43 | (simp only [Int.reduceToNat] at ho43; rw [← Ny447.out] at ho43)); replace HO_5 := rB HO_5 hb; replace HO449 := ak (Kd.R_lower ho43 (below_size (lG HB))); replace HB := lB HB hb; clear hb ho43))
    go_loopg [10, 11] k1 (fun kq v10 v11 w' => ∃ (x10_2 : List (S68)) (x11_2 : Int), v11 = .int .i64 x11_2 ∧ Aside0 (spec_l07Mails.l1 kq l0 a1 x5_1 x10_2 x11_2 = some r) ∧ Aside0 (kq ≤ k1) ∧ Aside0 (Kd.R (Kd.int .i64) 3 w' w.heap.size (fun _ => True) u5 x5_1) ∧ Aside0 (Kd.R k68 68 w' w.heap.size (fun _ => True) v10 x10_2) ∧ Aside0 (Below w.heap.size w w'))
    case atStart => exact ⟨_, _, rr, H', ⟨Nat.le_refl _⟩, ⟨by (with_reducible repeat (first | apply Kd.R_alloc | apply Kd.R_drewN | apply Kd.R_drew)); exact HO_5.out⟩, ⟨by (with_reducible repeat (first | apply Kd.R_alloc | apply Kd.R_drewN | apply Kd.R_drew)); exact HO449.out⟩, ⟨by exact lG HB⟩⟩
    case round =>
     clear H'
     try clear c1
     try clear c2
     try clear p2
     try clear c3
     try clear p4
     try clear q4
     try clear hx4
     try clear c5
     try clear c5b0
     try clear c6
     try clear c6b0
     try clear p6
     try clear c8
     try clear c8b0
     try clear c8b1
     try clear c9
     try clear c9b0
     try clear c9b1
     try clear c10
     try clear c15
     try clear c23
     try clear c32
     try clear c39
     try clear p43
     try clear q43
     try clear hx43
     try clear hcz12_0
     try clear hcz12_1
     try clear hcz12_2
     try clear hcz12_3
     try clear hcz12_4
     try clear hcz12_5
     try clear hcz12_6
     try clear hcz12_7
     try clear hcz16_0
     try clear hcz16_1
     try clear hcz16_2
     try clear hcz16_3
     try clear hcz16_4
     try clear hcz16_5
     try clear hcz16_6
     try clear hcz16_7
     try clear hcz16_8
     try clear hcz17_0
     try clear hcz17_1
     try clear hcz17_2
     try clear hcz17_3
     try clear hcz17_4
     try clear hcz17_5
     try clear hcz17_6
     try clear hcz17_7
     try clear hcz20_0
     try clear hcz20_1
     try clear hcz20_2
     try clear hcz20_3
     try clear hcz20_4
     try clear hcz20_5
     try clear hcz20_6
     try clear hcz20_7
     try clear hcz24_0
     try clear hcz24_1
     try clear hcz24_2
     try clear hcz24_3
     try clear hcz24_4
     try clear hcz24_5
     try clear hcz24_6
     try clear hcz24_7
     try clear hcz24_8
     try clear hcz25_0
     try clear hcz25_1
     try clear hcz25_2
     try clear hcz25_3
     try clear hcz25_4
     try clear hcz25_5
     try clear hcz25_6
     try clear hcz25_7
     try clear hcz29_0
     try clear hcz29_1
     try clear hcz29_2
     try clear hcz29_3
     try clear hcz29_4
     try clear hcz29_5
     try clear hcz29_6
     try clear hcz29_7
     try clear hcz33_0
     try clear hcz33_1
     try clear hcz33_2
     try clear hcz33_3
     try clear hcz33_4
     try clear hcz33_5
     try clear hcz33_6
     try clear hcz33_7
     try clear hcz33_8
     try clear hcz34_0
     try clear hcz34_1
     try clear hcz34_2
     try clear hcz34_3
     try clear hcz34_4
     try clear hcz34_5
     try clear hcz34_6
     try clear hcz34_7
     try clear hcz36_0
     try clear hcz36_1
     try clear hcz36_2
     try clear hcz36_3
     try clear hcz36_4
     try clear hcz36_5
     try clear hcz36_6
     try clear hcz36_7
     try clear hcz40_0
     try clear hcz40_1
     try clear hcz40_2
     try clear hcz40_3
     try clear hcz40_4
     try clear hcz40_5
     try clear hcz40_6
     try clear hcz40_7
     try clear hcz40_8
     try clear hcz41_0
     try clear hcz41_1
     try clear hcz41_2
     try clear hcz41_3
     try clear hcz41_4
     try clear hcz41_5
     try clear hcz41_6
     try clear hcz41_7
     try clear hfz12_0
     try clear hfz12_1
     try clear hfz12_2
     try clear hfz12_3
     try clear hfz12_4
     try clear hfz12_5
     try clear hfz12_6
     try clear hfz12_7
     try clear hfz16_0
     try clear hfz16_1
     try clear hfz16_2
     try clear hfz16_3
     try clear hfz16_4
     try clear hfz16_5
     try clear hfz16_6
     try clear hfz16_7
     try clear hfz16_8
     try clear hfz17_0
     try clear hfz17_1
     try clear hfz17_2
     try clear hfz17_3
     try clear hfz17_4
     try clear hfz17_5
     try clear hfz17_6
     try clear hfz17_7
     try clear hfz20_0
     try clear hfz20_1
     try clear hfz20_2
     try clear hfz20_3
     try clear hfz20_4
     try clear hfz20_5
     try clear hfz20_6
     try clear hfz20_7
     try clear hfz24_0
     try clear hfz24_1
     try clear hfz24_2
     try clear hfz24_3
     try clear hfz24_4
     try clear hfz24_5
     try clear hfz24_6
     try clear hfz24_7
     try clear hfz24_8
     try clear hfz25_0
     try clear hfz25_1
     try clear hfz25_2
     try clear hfz25_3
     try clear hfz25_4
     try clear hfz25_5
     try clear hfz25_6
     try clear hfz25_7
     try clear hfz29_0
     try clear hfz29_1
     try clear hfz29_2
     try clear hfz29_3
     try clear hfz29_4
     try clear hfz29_5
     try clear hfz29_6
     try clear hfz29_7
     try clear hfz33_0
     try clear hfz33_1
     try clear hfz33_2
     try clear hfz33_3
     try clear hfz33_4
     try clear hfz33_5
     try clear hfz33_6
     try clear hfz33_7
     try clear hfz33_8
     try clear hfz34_0
     try clear hfz34_1
     try clear hfz34_2
     try clear hfz34_3
     try clear hfz34_4
     try clear hfz34_5
     try clear hfz34_6
     try clear hfz34_7
     try clear hfz36_0
     try clear hfz36_1
     try clear hfz36_2
     try clear hfz36_3
     try clear hfz36_4
     try clear hfz36_5
     try clear hfz36_6
     try clear hfz36_7
     try clear hfz40_0
     try clear hfz40_1
     try clear hfz40_2
     try clear hfz40_3
     try clear hfz40_4
     try clear hfz40_5
     try clear hfz40_6
     try clear hfz40_7
     try clear hfz40_8
     try clear hfz41_0
     try clear hfz41_1
     try clear hfz41_2
     try clear hfz41_3
     try clear hfz41_4
     try clear hfz41_5
     try clear hfz41_6
     try clear hfz41_7
     try clear hx431_0
     try clear hx431_1
     try clear hx431_2
     try clear hx431_3
     try clear hx431_4
     try clear hx431_5
     try clear hx431_6
     try clear hx431_7
     try clear hx431_8
     try clear p2
     try clear p431
     try clear q431
     obtain ⟨x10_2, x11_2, rfl, HA, HK2, HO_5, HO_10, HB⟩ := hrel
     cases gk with
     | zero => exact absurd HA.out (by simp [spec_l07Mails.l1])
     | succ k2 =>
      have H := HA.out
      clear HA
      simp only [spec_l07Mails.l1] at H
      by_cases c44 : x11_2 < (x5_1.length : Int)
      ·rw [if_pos c44] at H
       have c44b0 : decide (x11_2 < (x5_1.length : Int)) = true := decide_eq_true c44
       clear c44
       by_cases c45 : 0 ≤ x11_2
       ·rw [if_pos c45] at H
        have c45b0 : decide (0 ≤ x11_2) = true := decide_eq_true c45
        clear c45
        obtain ⟨⟨t451, t452, t453, t454, t455, t456, t457, t458, t459, t460⟩, A46, H⟩ := eb H
        try dsimp only at H
        obtain ⟨⟨t465, t466, t467, t468, t469, t470, t471, t472, t473, t474⟩, A47, H⟩ := eb H
        try dsimp only at H
        by_cases c48 : t474 = true
        ·subst c48
         rw [if_pos rfl] at H
         by_cases c49 : x10_2.length < 4398046511104
         ·rw [if_pos c49] at H
          have LMc49 := Aside0.mk c49
          clear c49
          obtain ⟨y476, hy476⟩ : ∃ y_ : List (S68), y_ = (x10_2 ++ [(⟨rd x5_1 x11_2, t470, t459⟩ : S68)]) := ⟨_, rfl⟩
          replace H : (spec_l07Mails.l1 k2 l0 a1 x5_1 y476 (wrap64 (x11_2 + 1))) = some r := by first | (rw [hy476]; with_reducible exact H) | (have H2_ := (Option.bind_some _ _).symm.trans H; rw [hy476]; with_reducible exact H2_) | (have H2_ := (Option.bind_some _ _).symm.trans H; with_reducible exact H2_) | with_reducible exact H | (rw [hy476]; exact H) | exact H
          have Ny476 := Aside0.mk hy476
          clear hy476
          have H' := Aside0.mk H
          clear H
          obtain ⟨Ao50, co50, eo50⟩ := Kd.R_slice HO_5.out
          subst eo50
          have p450 : 0 ≤ (x11_2 : Int) := oda
          have q450 : x11_2 < (x5_1.length : Int) := oda
          obtain ⟨ad450, e450, hx450_0⟩ := Kd.at_int (Kd.R_reads' HO_5.out).2.2 x11_2 p450 q450
          cases e450
          replace p450 := eq_true p450
          replace q450 := eq_true q450
          try go_wp2_with (first | ((with_reducible refine gate_callee (f := 80) rfl ?_); refine gl (some 68) Try.func80 #[.slice A0 l0.length c0, .int .i64 3, .int .i64 a1, .int .i64 (rd x5_1 x11_2)] ?_; (with_reducible refine (spec_l07Best.calls k2 _ _ l0 3 a1 (rd x5_1 x11_2) t451 t452 t453 t454 t455 t456 t457 t458 t459 t460 _ ?side1 ?side2 A46.out).mono ?_); (case side1 => exact cG (Kd.C_below HR0.out HB.out)); (case side2 => exact HC0.out); rintro e w51 ⟨rfl, hb⟩; refine ⟨_, rfl, ?_⟩; replace HO_5 := rB HO_5 hb; replace HO_10 := rB HO_10 hb; replace HB := lB HB hb; (try clear hb); (try clear hk)) | ((with_reducible refine gate_dst (N := 12) rfl ?_); refine bx 12 #[.int .i64 0, .int .i64 0, .int .i64 0, .int .i64 0, .int .i64 0, .int .i64 0, .string (⟨#[]⟩ : ByteArray), .string (⟨#[]⟩ : ByteArray), .string (⟨#[]⟩ : ByteArray)] 32 ?_; intro gb461 hg w52 hbox hb; replace HO_5 := rB HO_5 hb; replace HO_10 := rB HO_10 hb; replace BK461 := ak (hbox); replace GE461 := ak (bz hg (lG HB)); replace HB := lB HB hb; clear hb hbox hg; obtain ⟨_, _, _, _, _, _, _, _, _, _, _, _, _, _, _, _, _, _⟩ := bC9 BK461))
          have n0_ : Aside0 (Kd.R (Kd.int .i64) 3 (((((((((w52.setCell ⟨gb461, 0, none⟩ (.int .i64 t451)).setCell ⟨gb461, 1, none⟩ (.int .i64 t452)).setCell ⟨gb461, 2, none⟩ (.int .i64 t453)).setCell ⟨gb461, 3, none⟩ (.int .i64 t454)).setCell ⟨gb461, 4, none⟩ (.int .i64 t455)).setCell ⟨gb461, 5, none⟩ (.int .i64 t456)).setCell ⟨gb461, 6, none⟩ (.string t457)).setCell ⟨gb461, 7, none⟩ (.string t458)).setCell ⟨gb461, 8, none⟩ (.string t459)) w.heap.size (fun _ => True) (.slice (some ad450) x5_1.length co50) x5_1) := ⟨by exact Kd.R_mono (rT HO_5 BK461 (by decide)) (fun _ hk => trivial)⟩
          have n1_ : Aside0 (Kd.R k68 68 (((((((((w52.setCell ⟨gb461, 0, none⟩ (.int .i64 t451)).setCell ⟨gb461, 1, none⟩ (.int .i64 t452)).setCell ⟨gb461, 2, none⟩ (.int .i64 t453)).setCell ⟨gb461, 3, none⟩ (.int .i64 t454)).setCell ⟨gb461, 4, none⟩ (.int .i64 t455)).setCell ⟨gb461, 5, none⟩ (.int .i64 t456)).setCell ⟨gb461, 6, none⟩ (.string t457)).setCell ⟨gb461, 7, none⟩ (.string t458)).setCell ⟨gb461, 8, none⟩ (.string t459)) w.heap.size (fun _ => True) u10 x10_2) := ⟨by exact Kd.R_mono (rT HO_10 BK461 (by decide)) (fun _ hk => trivial)⟩
          have n2_ : Aside0 ((((((((((w52.setCell ⟨gb461, 0, none⟩ (.int .i64 t451)).setCell ⟨gb461, 1, none⟩ (.int .i64 t452)).setCell ⟨gb461, 2, none⟩ (.int .i64 t453)).setCell ⟨gb461, 3, none⟩ (.int .i64 t454)).setCell ⟨gb461, 4, none⟩ (.int .i64 t455)).setCell ⟨gb461, 5, none⟩ (.int .i64 t456)).setCell ⟨gb461, 6, none⟩ (.string t457)).setCell ⟨gb461, 7, none⟩ (.string t458)).setCell ⟨gb461, 8, none⟩ (.string t459)).heap[gb461]? = some (.cells #[.int .i64 t451, .int .i64 t452, .int .i64 t453, .int .i64 t454, .int .i64 t455, .int .i64 t456, .string t457, .string t458, .string t459] 32 (0, 0))) := ⟨bW BK461⟩
          have n3_ : Aside0 (Below w.heap.size w (((((((((w52.setCell ⟨gb461, 0, none⟩ (.int .i64 t451)).setCell ⟨gb461, 1, none⟩ (.int .i64 t452)).setCell ⟨gb461, 2, none⟩ (.int .i64 t453)).setCell ⟨gb461, 3, none⟩ (.int .i64 t454)).setCell ⟨gb461, 4, none⟩ (.int .i64 t455)).setCell ⟨gb461, 5, none⟩ (.int .i64 t456)).setCell ⟨gb461, 6, none⟩ (.string t457)).setCell ⟨gb461, 7, none⟩ (.string t458)).setCell ⟨gb461, 8, none⟩ (.string t459))) := ⟨by exact lT HB (gC GE461 gN)⟩
          (try clear HO_5)
          (try clear HO_10)
          (try clear BK461)
          (try clear HB)
          generalize (((((((((w52.setCell ⟨gb461, 0, none⟩ (.int .i64 t451)).setCell ⟨gb461, 1, none⟩ (.int .i64 t452)).setCell ⟨gb461, 2, none⟩ (.int .i64 t453)).setCell ⟨gb461, 3, none⟩ (.int .i64 t454)).setCell ⟨gb461, 4, none⟩ (.int .i64 t455)).setCell ⟨gb461, 5, none⟩ (.int .i64 t456)).setCell ⟨gb461, 6, none⟩ (.string t457)).setCell ⟨gb461, 7, none⟩ (.string t458)).setCell ⟨gb461, 8, none⟩ (.string t459)) = w54 at n0_ n1_ n2_ n3_ ⊢
          have HO_5 := n0_
          have HO_10 := n1_
          have BK461 := n2_
          have HB := n3_
          clear n0_ n1_ n2_ n3_
          replace HO_5 := ak (Kd.R_drew HO_5.out)
          replace HO_10 := ak (Kd.R_drew HO_10.out)
          replace BK461 := ak (blk_drew BK461.out)
          replace HB := ak (below_drew1 HB.out)
          have p462 : 0 ≤ (x11_2 : Int) := oda
          have q462 : x11_2 < (x5_1.length : Int) := oda
          obtain ⟨ad462, e462, hx462_0⟩ := Kd.at_int (Kd.R_reads' HO_5.out).2.2 x11_2 p462 q462
          obtain rfl : ad450 = ad462 := (by injection e462)
          replace p462 := eq_true p462
          replace q462 := eq_true q462
          refine start_ (n := 13) (S := fun w' => w'.cell? ⟨gb461, 0, none⟩ = some (.int .i64 t451) ∧ w'.cell? ⟨gb461, 1, none⟩ = some (.int .i64 t452) ∧ w'.cell? ⟨gb461, 2, none⟩ = some (.int .i64 t453) ∧ w'.cell? ⟨gb461, 3, none⟩ = some (.int .i64 t454) ∧ w'.cell? ⟨gb461, 4, none⟩ = some (.int .i64 t455) ∧ w'.cell? ⟨gb461, 5, none⟩ = some (.int .i64 t456) ∧ w'.cell? ⟨gb461, 6, none⟩ = some (.string t457) ∧ w'.cell? ⟨gb461, 7, none⟩ = some (.string t458) ∧ w'.cell? ⟨gb461, 8, none⟩ = some (.string t459) ∧ w'.cell? (ad450.add (x11_2).toNat) = some (.int .i64 (rd x5_1 x11_2))) (ds := []) #[f_,f_,f_,f_,f_,f_,f_,f_,f_,f_,f_,f_,f_] (by kernel_rfl) rfl rfl ⟨bc BK461 0, bc BK461 1, bc BK461 2, bc BK461 3, bc BK461 4, bc BK461 5, bc BK461 6, bc BK461 7, bc BK461 8, hx462_0⟩ (fun hHeld => ?_); refine with_tabW spec_l07Mails.tab14 spec_l07Mails.bits14 (fun HT_ HW_ => ?_)
          generalize w54.drew = w55 at HO_5 HO_10 BK461 HB hx462_0 hHeld ⊢
          refine pu 0 71 (fb 13 1) HT_ ?_
          refine pu 1 72 (fb 13 3) HT_ ?_
          refine pu 2 73 (fb 13 7) HT_ ?_
          refine pu 4 75 (fb 13 23) HT_ ?_
          refine pu 5 76 (fb 13 55) HT_ ?_
          refine pu 7 78 (fb 13 183) HT_ ?_
          refine pu 8 79 (fb 13 439) HT_ ?_
          refine tk 3 74 (fb 13 447) HT_ HW_ hHeld ?_
          refine tk 6 77 (fb 13 511) HT_ HW_ hHeld ?_
          refine tk 9 80 (fb 13 1023) HT_ HW_ hHeld ?_
          refine pu 10 81 (fb 13 2047) HT_ ?_
          refine on 11 (some 14) (fb 13 4095) HT_ (fun K hK => ?_)
          refine box_step ?hg (N := 14) ?hd (cs := #[.int .i64 0, .int .i64 0, .string (⟨#[]⟩ : ByteArray)]) (t := 68) ?hr ?_; (case hd => rfl); (case hg => rfl); (case hr => first | (go_simp; done) | (go_simp; rfl))
          intro gb463 hg w56 hbox hb
          have HS9_ := (hb.cell (World.block_lt_of_cell? _ _ (hHeld.2.2.2.2.2.2.2.2.2))).trans (hHeld.2.2.2.2.2.2.2.2.2)
          replace HO_5 := rB HO_5 hb
          replace HO_10 := ak (Kd.R_below (Kd.R_elderB (rG HO_10) gb463 (Nat.le_of_eq hg.symm)) hb)
          replace BK463 := ak (hbox)
          replace GW463 := ak (bz hg (lT HB (gC GE461 gN)))
          replace GE463 := ak (bz hg (lT HB (gC GE461 gN)))
          replace HB := ak (below_step (lT HB (gC GE461 gN)) hb)
          replace NB461_463 := ak (nl hg (bG BK461))
          replace NB463_461 := ak (ng hg (bG BK461))
          replace BK461 := bB BK461 hb
          clear hb hbox hg
          refine hK.out _ _ ⟨bc BK461 0, bc BK461 1, bc BK461 2, bc BK461 3, bc BK461 4, bc BK461 5, bc BK461 6, bc BK461 7, bc BK461 8, HS9_⟩ (fun hHeld => ?_)
          clear hK K
          refine nm ?_
          refine on 12 none (fb 13 8191) HT_ (fun K hK => ?_)
          have hs57 : w56.cell? ⟨gb463, 0, none⟩ = some (.int .i64 0) := bc BK463 0
          have hfs57 := blk_frozen BK463.out 0
          have hns57_0 := NB461_463.out
          have hms57_0 := NB463_461.out
          have hs58 : w56.cell? ⟨gb463, 1, none⟩ = some (.int .i64 0) := bc BK463 1
          have hfs58 := blk_frozen BK463.out 1
          have hns58_0 := NB461_463.out
          have hms58_0 := NB463_461.out
          have hs59 : w56.cell? ⟨gb463, 2, none⟩ = some (.string (⟨#[]⟩ : ByteArray)) := bc BK463 2
          have hfs59 := blk_frozen BK463.out 2
          have hns59_0 := NB461_463.out
          have hms59_0 := NB463_461.out
          refine skip_ (w1 := ?_) (by rfl) rfl ?_ ?_
          rotate_left
          ·go_simp
           rfl
          refine hK.out _ _ ⟨((cell_far (p := ⟨gb463, _, none⟩) NB461_463.out _).trans (((cell_far (p := ⟨gb463, _, none⟩) NB461_463.out _).trans (((cell_far (p := ⟨gb463, _, none⟩) NB461_463.out _).trans (hHeld.1)))))), ((cell_far (p := ⟨gb463, _, none⟩) NB461_463.out _).trans (((cell_far (p := ⟨gb463, _, none⟩) NB461_463.out _).trans (((cell_far (p := ⟨gb463, _, none⟩) NB461_463.out _).trans (hHeld.2.1)))))), ((cell_far (p := ⟨gb463, _, none⟩) NB461_463.out _).trans (((cell_far (p := ⟨gb463, _, none⟩) NB461_463.out _).trans (((cell_far (p := ⟨gb463, _, none⟩) NB461_463.out _).trans (hHeld.2.2.1)))))), ((cell_far (p := ⟨gb463, _, none⟩) NB461_463.out _).trans (((cell_far (p := ⟨gb463, _, none⟩) NB461_463.out _).trans (((cell_far (p := ⟨gb463, _, none⟩) NB461_463.out _).trans (hHeld.2.2.2.1)))))), ((cell_far (p := ⟨gb463, _, none⟩) NB461_463.out _).trans (((cell_far (p := ⟨gb463, _, none⟩) NB461_463.out _).trans (((cell_far (p := ⟨gb463, _, none⟩) NB461_463.out _).trans (hHeld.2.2.2.2.1)))))), ((cell_far (p := ⟨gb463, _, none⟩) NB461_463.out _).trans (((cell_far (p := ⟨gb463, _, none⟩) NB461_463.out _).trans (((cell_far (p := ⟨gb463, _, none⟩) NB461_463.out _).trans (hHeld.2.2.2.2.2.1)))))), ((cell_far (p := ⟨gb463, _, none⟩) NB461_463.out _).trans (((cell_far (p := ⟨gb463, _, none⟩) NB461_463.out _).trans (((cell_far (p := ⟨gb463, _, none⟩) NB461_463.out _).trans (hHeld.2.2.2.2.2.2.1)))))), ((cell_far (p := ⟨gb463, _, none⟩) NB461_463.out _).trans (((cell_far (p := ⟨gb463, _, none⟩) NB461_463.out _).trans (((cell_far (p := ⟨gb463, _, none⟩) NB461_463.out _).trans (hHeld.2.2.2.2.2.2.2.1)))))), ((cell_far (p := ⟨gb463, _, none⟩) NB461_463.out _).trans (((cell_far (p := ⟨gb463, _, none⟩) NB461_463.out _).trans (((cell_far (p := ⟨gb463, _, none⟩) NB461_463.out _).trans (hHeld.2.2.2.2.2.2.2.2.1)))))), ((cell_far (p := ⟨gb463, _, none⟩) (by first | exact Kd.own_blk (Kd.R_ne HO_5.out BK463.out (by decide)) | (rw [add_block]; exact Kd.own_blk (Kd.R_ne HO_5.out BK463.out (by decide))) | (show (Addr.add _ _).block ≠ _; rw [add_block]; exact Kd.own_blk (Kd.R_ne HO_5.out BK463.out (by decide))) | (dsimp only; exact Kd.own_blk (Kd.R_ne HO_5.out BK463.out (by decide)))) _).trans (((cell_far (p := ⟨gb463, _, none⟩) (by first | exact Kd.own_blk (Kd.R_ne HO_5.out BK463.out (by decide)) | (rw [add_block]; exact Kd.own_blk (Kd.R_ne HO_5.out BK463.out (by decide))) | (show (Addr.add _ _).block ≠ _; rw [add_block]; exact Kd.own_blk (Kd.R_ne HO_5.out BK463.out (by decide))) | (dsimp only; exact Kd.own_blk (Kd.R_ne HO_5.out BK463.out (by decide)))) _).trans (((cell_far (p := ⟨gb463, _, none⟩) (by first | exact Kd.own_blk (Kd.R_ne HO_5.out BK463.out (by decide)) | (rw [add_block]; exact Kd.own_blk (Kd.R_ne HO_5.out BK463.out (by decide))) | (show (Addr.add _ _).block ≠ _; rw [add_block]; exact Kd.own_blk (Kd.R_ne HO_5.out BK463.out (by decide))) | (dsimp only; exact Kd.own_blk (Kd.R_ne HO_5.out BK463.out (by decide)))) _).trans (hHeld.2.2.2.2.2.2.2.2.2))))))⟩ (fun hHeld => ?_)
          clear hK K
          refine done_ (done_of HT_.out (by kernel_rfl)) ?_
          have p464 : 0 ≤ (x11_2 : Int) := oda
          have q464 : x11_2 < (x5_1.length : Int) := oda
          obtain ⟨ad464, e464, hx464_0⟩ := Kd.at_int (Kd.R_reads' HO_5.out).2.2 x11_2 p464 q464
          obtain rfl : ad450 = ad464 := (by injection e464)
          have hn464_0 : ad450.block ≠ gb463 := Kd.own_blk (Kd.R_ne HO_5.out BK463.out (by decide))
          have hn464_1 : ad450.block ≠ gb463 := Kd.own_blk (Kd.R_ne HO_5.out BK463.out (by decide))
          have hn464_2 : ad450.block ≠ gb463 := Kd.own_blk (Kd.R_ne HO_5.out BK463.out (by decide))
          replace hx464_0 := (cell_far (p := ⟨gb463, 0, none⟩) (by first | (rw [add_block]; exact hn464_0) | (show (Addr.add _ _).block ≠ _; rw [add_block]; exact hn464_0) | exact hn464_0) (.int .i64 (rd x5_1 x11_2))).trans hx464_0
          replace hx464_0 := (cell_far (p := ⟨gb463, 1, none⟩) (by first | (rw [add_block]; exact hn464_1) | (show (Addr.add _ _).block ≠ _; rw [add_block]; exact hn464_1) | exact hn464_1) (.int .i64 t456)).trans hx464_0
          replace hx464_0 := (cell_far (p := ⟨gb463, 2, none⟩) (by first | (rw [add_block]; exact hn464_2) | (show (Addr.add _ _).block ≠ _; rw [add_block]; exact hn464_2) | exact hn464_2) (.string t459)).trans hx464_0
          clear hn464_0
          clear hn464_1
          clear hn464_2
          replace p464 := eq_true p464
          replace q464 := eq_true q464
          try go_wp2_with (first | ((with_reducible refine gate_callee (f := 80) rfl ?_); refine gl (some 89) Try.func80 #[.slice A0 l0.length c0, .int .i64 4, .int .i64 a1, .int .i64 (rd x5_1 x11_2)] ?_; (with_reducible refine (spec_l07Best.calls k2 _ _ l0 4 a1 (rd x5_1 x11_2) t465 t466 t467 t468 t469 t470 t471 t472 t473 true _ ?side1 ?side2 A47.out).mono ?_); (case side1 => exact Kd.C_below HR0.out (lT HB (gC GE461 (gC GE463 gN)))); (case side2 => exact HC0.out); rintro e w60 ⟨rfl, hb⟩; refine ⟨_, rfl, ?_⟩; replace HO_5 := ak (Kd.R_below (rT HO_5 BK463 (by decide)) hb); replace HO_10 := ak (Kd.R_below (by (with_reducible repeat (first | apply Kd.R_alloc | apply Kd.R_drewN | apply Kd.R_drew)); exact (Kd.R_mono (Kd.R_far (p := ⟨gb463, 2, none⟩) (Kd.R_far (p := ⟨gb463, 1, none⟩) (Kd.R_far (p := ⟨gb463, 0, none⟩) (Kd.R_mono HO_10.out (fun k_ hk => (⟨hk, hk.2⟩ : _ ∧ k_ ≠ gb463))) (fun _ hk => hk.2) (.int .i64 (rd x5_1 x11_2))) (fun _ hk => hk.2) (.int .i64 t456)) (fun _ hk => hk.2) (.string t459)) (fun _ h_ => h_.1))) hb); replace BK461 := ak (blk_below (bT BK461 (nC NB461_463 nN)) hb); replace BK463 := ak (blk_below (g := gb463) (o := .cells #[.int .i64 (rd x5_1 x11_2), .int .i64 t456, .string t459] 68 (0, 0)) (bW BK463) hb); replace HB := ak (below_step (lT HB (gC GE461 (gC GE463 gN))) hb); (try clear hb); (try clear hk)) | ((with_reducible refine gate_dst (N := 15) rfl ?_); refine bx 15 #[.int .i64 0, .int .i64 0, .int .i64 0, .int .i64 0, .int .i64 0, .int .i64 0, .string (⟨#[]⟩ : ByteArray), .string (⟨#[]⟩ : ByteArray), .string (⟨#[]⟩ : ByteArray)] 32 ?_; intro gb475 hg w61 hbox hb; replace HO_5 := rB HO_5 hb; replace HO_10 := rB HO_10 hb; replace BK475 := ak (hbox); replace GW475 := ak (bz hg (lT HB (gC GE461 (gC GE463 gN)))); replace GE475 := ak (bz hg (lT HB (gC GE461 (gC GE463 gN)))); replace HB := ak (below_step (lT HB (gC GE461 (gC GE463 gN))) hb); replace NB461_475 := ak (nl hg (bG BK461)); replace NB475_461 := ak (ng hg (bG BK461)); replace BK461 := bB BK461 hb; replace NB463_475 := ak (nl hg (bG BK463)); replace NB475_463 := ak (ng hg (bG BK463)); replace BK463 := bB BK463 hb; clear hb hbox hg; have hnb62 := NB475_461.out; have hnc62 := NB461_475.out; have hnb63 := NB475_463.out; have hnc63 := NB463_475.out; obtain ⟨_, _, _, _, _, _, _, _, _, _, _, _, _, _, _, _, _, _⟩ := bC9 BK475; have hnb65 := NB463_461.out; have hnc65 := NB461_463.out; obtain ⟨_, _, _, _, _, _⟩ := bC3 BK463) | ((with_reducible refine gate_builtin (b := .append) (xs := #[.tmp 97, .tmp 99]) rfl ?_); at_builtin; refine Kd.R_append k68 (w0 := w) w.heap.size rfl (.tmp 97) (.tmp 99) 64 68 (.agg #[(.int .i64 0), (.int .i64 0), (.string ⟨#[]⟩)]) 32 rfl Try.underlying64 info68 rfl (by decide) (by omega) u10 x10_2 (⟨rd x5_1 x11_2, t470, t459⟩ : S68) [.int .i64 (rd x5_1 x11_2), .int .i64 t470, .string t459] (fun k_ => k_ ≠ gb463) (fun _ => False) rfl (by first | (go_simp; done) | (go_simp; rfl)) ?aP (fun _ hk => hk.elim) ?aF ?aO ?aB ?aS ?aL ?_; (case aP => exact k68_mkM _ _ _ (⟨rd x5_1 x11_2, t470, t459⟩ : S68)); (case aB => exact (lT HB (gC GE461 (gC GE463 (gC GE475 gN))))); (case aF => exact (fun k_ hk => Kd.freshB (g := gb463) (o := .cells #[.int .i64 (rd x5_1 x11_2), .int .i64 t470, .string t459] 68 (0, 0)) (bF BK463 (nC NB463_475 nN)) k_ hk)); (case aO => exact (by (with_reducible repeat (first | apply Kd.R_alloc | apply Kd.R_drewN | apply Kd.R_drew)); exact Kd.R_mono (Kd.R_far (p := ⟨gb463, 1, none⟩) (Kd.R_far (p := ⟨gb475, 8, none⟩) (Kd.R_far (p := ⟨gb475, 7, none⟩) (Kd.R_far (p := ⟨gb475, 6, none⟩) (Kd.R_far (p := ⟨gb475, 5, none⟩) (Kd.R_far (p := ⟨gb475, 4, none⟩) (Kd.R_far (p := ⟨gb475, 3, none⟩) (Kd.R_far (p := ⟨gb475, 2, none⟩) (Kd.R_far (p := ⟨gb475, 1, none⟩) (Kd.R_far (p := ⟨gb475, 0, none⟩) (Kd.R_mono (Kd.R_types HO_10.out BK475.out (by decide)) (fun k_ hk => (⟨hk, hk.1.2⟩ : _ ∧ k_ ≠ gb463))) (fun _ hk => hk.1.2) (.int .i64 t465)) (fun _ hk => hk.1.2) (.int .i64 t466)) (fun _ hk => hk.1.2) (.int .i64 t467)) (fun _ hk => hk.1.2) (.int .i64 t468)) (fun _ hk => hk.1.2) (.int .i64 t469)) (fun _ hk => hk.1.2) (.int .i64 t470)) (fun _ hk => hk.1.2) (.string t471)) (fun _ hk => hk.1.2) (.string t472)) (fun _ hk => hk.1.2) (.string t473)) (fun _ hk => hk.2) (.int .i64 t470)) (fun _ hk => hk.1.1.2))); (case aS => exact (below_size (lT HB (gC GE461 (gC GE463 (gC GE475 gN)))))); (case aL => have := LMc49.out; omega); intro v477 w67 ho hb hg hat; rw [← Ny476.out] at ho; have n0_ := ak (Kd.R_over' (by (with_reducible repeat (first | apply Kd.R_alloc | apply Kd.R_drewN | apply Kd.R_drew)); exact (Kd.R_mono (Kd.R_mono (Kd.R_far (p := ⟨gb463, 1, none⟩) (Kd.R_far (p := ⟨gb475, 8, none⟩) (Kd.R_far (p := ⟨gb475, 7, none⟩) (Kd.R_far (p := ⟨gb475, 6, none⟩) (Kd.R_far (p := ⟨gb475, 5, none⟩) (Kd.R_far (p := ⟨gb475, 4, none⟩) (Kd.R_far (p := ⟨gb475, 3, none⟩) (Kd.R_far (p := ⟨gb475, 2, none⟩) (Kd.R_far (p := ⟨gb475, 1, none⟩) (Kd.R_far (p := ⟨gb475, 0, none⟩) (Kd.R_types (Kd.R_types HO_5.out BK475.out (by decide)) BK463.out (by decide)) (fun _ hk => hk.1.2) (.int .i64 t465)) (fun _ hk => hk.1.2) (.int .i64 t466)) (fun _ hk => hk.1.2) (.int .i64 t467)) (fun _ hk => hk.1.2) (.int .i64 t468)) (fun _ hk => hk.1.2) (.int .i64 t469)) (fun _ hk => hk.1.2) (.int .i64 t470)) (fun _ hk => hk.1.2) (.string t471)) (fun _ hk => hk.1.2) (.string t472)) (fun _ hk => hk.1.2) (.string t473)) (fun _ hk => hk.2) (.int .i64 t470)) (fun _ h_ => h_.1)) (fun _ h_ => h_.1))) (Kd.R_typed (by (with_reducible repeat (first | apply Kd.R_alloc | apply Kd.R_drewN | apply Kd.R_drew)); exact (Kd.R_mono (Kd.R_mono (Kd.R_far (p := ⟨gb463, 1, none⟩) (Kd.R_far (p := ⟨gb475, 8, none⟩) (Kd.R_far (p := ⟨gb475, 7, none⟩) (Kd.R_far (p := ⟨gb475, 6, none⟩) (Kd.R_far (p := ⟨gb475, 5, none⟩) (Kd.R_far (p := ⟨gb475, 4, none⟩) (Kd.R_far (p := ⟨gb475, 3, none⟩) (Kd.R_far (p := ⟨gb475, 2, none⟩) (Kd.R_far (p := ⟨gb475, 1, none⟩) (Kd.R_far (p := ⟨gb475, 0, none⟩) (Kd.R_mono (Kd.R_types HO_10.out BK475.out (by decide)) (fun k_ hk => (⟨hk, hk.1.2⟩ : _ ∧ k_ ≠ gb463))) (fun _ hk => hk.1.2) (.int .i64 t465)) (fun _ hk => hk.1.2) (.int .i64 t466)) (fun _ hk => hk.1.2) (.int .i64 t467)) (fun _ hk => hk.1.2) (.int .i64 t468)) (fun _ hk => hk.1.2) (.int .i64 t469)) (fun _ hk => hk.1.2) (.int .i64 t470)) (fun _ hk => hk.1.2) (.string t471)) (fun _ hk => hk.1.2) (.string t472)) (fun _ hk => hk.1.2) (.string t473)) (fun _ hk => hk.2) (.int .i64 t470)) (fun _ h_ => h_.1)) (fun _ h_ => h_.1)))) (by decide) hg); have n1_ := ak (blk_grown (g := gb461) (o := .cells #[.int .i64 t451, .int .i64 t452, .int .i64 t453, .int .i64 t454, .int .i64 t455, .int .i64 t456, .string t457, .string t458, .string t459] 32 (0, 0)) (bT BK461 (nC NB461_463 (nC NB461_475 nN))) hg (Kd.R_ne HO_10.out BK461.out (by decide))); have n2_ := ak (blk_grown (g := gb463) (o := .cells #[.int .i64 (rd x5_1 x11_2), .int .i64 t470, .string t459] 68 (0, 0)) (bF BK463 (nC NB463_475 nN)) hg (Kd.R_away HO_10.out (fun _ hk => hk.2))); have n3_ := ak (blk_grown (g := gb475) (o := .cells #[.int .i64 t465, .int .i64 t466, .int .i64 t467, .int .i64 t468, .int .i64 t469, .int .i64 t470, .string t471, .string t472, .string t473] 32 (0, 0)) (bF BK475 (nC NB475_463 nN)) hg (Kd.R_ne HO_10.out BK475.out (by decide))); have n4_ := ak (hb); have n5_ := ak (ho); clear HO_5; clear BK461; clear BK463; clear BK475; clear HB; clear HO_10; have HO_5 := n0_; have BK461 := n1_; have BK463 := n2_; have BK475 := n3_; have HB := n4_; have HO478 := n5_; clear n0_ n1_ n2_ n3_ n4_ n5_; clear ho hb hg hat))
          go_roundg k2
          case measure => have := HK1.out; have := HK2.out; omega
          case rel => exact ⟨_, _, rr, H', ⟨by have := HK1.out; have := HK2.out; omega⟩, ⟨by (with_reducible repeat (first | apply Kd.R_alloc | apply Kd.R_drewN | apply Kd.R_drew)); exact HO_5.out⟩, ⟨by (with_reducible repeat (first | apply Kd.R_alloc | apply Kd.R_drewN | apply Kd.R_drew)); exact Kd.R_mono HO478.out (fun _ hk => trivial)⟩, ⟨by exact lT HB (gC GE461 (gC GE463 (gC GE475 gN)))⟩⟩
         ·rw [if_neg c49] at H
          exact absurd H (by simp)
        ·replace c48 := Bool.eq_false_iff.mpr c48
         subst c48
         rw [if_neg (show ¬ (false = true) by decide)] at H
         by_cases c68 : x10_2.length < 4398046511104
         ·rw [if_pos c68] at H
          have LMc68 := Aside0.mk c68
          clear c68
          obtain ⟨y479, hy479⟩ : ∃ y_ : List (S68), y_ = (x10_2 ++ [(⟨rd x5_1 x11_2, t456, t459⟩ : S68)]) := ⟨_, rfl⟩
          replace H : (spec_l07Mails.l1 k2 l0 a1 x5_1 y479 (wrap64 (x11_2 + 1))) = some r := by first | (rw [hy479]; with_reducible exact H) | (have H2_ := (Option.bind_some _ _).symm.trans H; rw [hy479]; with_reducible exact H2_) | (have H2_ := (Option.bind_some _ _).symm.trans H; with_reducible exact H2_) | with_reducible exact H | (rw [hy479]; exact H) | exact H
          have Ny479 := Aside0.mk hy479
          clear hy479
          have H' := Aside0.mk H
          clear H
          obtain ⟨Ao69, co69, eo69⟩ := Kd.R_slice HO_5.out
          subst eo69
          have p450 : 0 ≤ (x11_2 : Int) := oda
          have q450 : x11_2 < (x5_1.length : Int) := oda
          obtain ⟨ad450, e450, hx450_0⟩ := Kd.at_int (Kd.R_reads' HO_5.out).2.2 x11_2 p450 q450
          cases e450
          replace p450 := eq_true p450
          replace q450 := eq_true q450
          try go_wp2_with (first | ((with_reducible refine gate_callee (f := 80) rfl ?_); refine gl (some 68) Try.func80 #[.slice A0 l0.length c0, .int .i64 3, .int .i64 a1, .int .i64 (rd x5_1 x11_2)] ?_; (with_reducible refine (spec_l07Best.calls k2 _ _ l0 3 a1 (rd x5_1 x11_2) t451 t452 t453 t454 t455 t456 t457 t458 t459 t460 _ ?side1 ?side2 A46.out).mono ?_); (case side1 => exact cG (Kd.C_below HR0.out HB.out)); (case side2 => exact HC0.out); rintro e w70 ⟨rfl, hb⟩; refine ⟨_, rfl, ?_⟩; replace HO_5 := rB HO_5 hb; replace HO_10 := rB HO_10 hb; replace HB := lB HB hb; (try clear hb); (try clear hk)) | ((with_reducible refine gate_dst (N := 12) rfl ?_); refine bx 12 #[.int .i64 0, .int .i64 0, .int .i64 0, .int .i64 0, .int .i64 0, .int .i64 0, .string (⟨#[]⟩ : ByteArray), .string (⟨#[]⟩ : ByteArray), .string (⟨#[]⟩ : ByteArray)] 32 ?_; intro gb461 hg w71 hbox hb; replace HO_5 := rB HO_5 hb; replace HO_10 := rB HO_10 hb; replace BK461 := ak (hbox); replace GE461 := ak (bz hg (lG HB)); replace HB := lB HB hb; clear hb hbox hg; obtain ⟨_, _, _, _, _, _, _, _, _, _, _, _, _, _, _, _, _, _⟩ := bC9 BK461))
          have n0_ : Aside0 (Kd.R (Kd.int .i64) 3 (((((((((w71.setCell ⟨gb461, 0, none⟩ (.int .i64 t451)).setCell ⟨gb461, 1, none⟩ (.int .i64 t452)).setCell ⟨gb461, 2, none⟩ (.int .i64 t453)).setCell ⟨gb461, 3, none⟩ (.int .i64 t454)).setCell ⟨gb461, 4, none⟩ (.int .i64 t455)).setCell ⟨gb461, 5, none⟩ (.int .i64 t456)).setCell ⟨gb461, 6, none⟩ (.string t457)).setCell ⟨gb461, 7, none⟩ (.string t458)).setCell ⟨gb461, 8, none⟩ (.string t459)) w.heap.size (fun _ => True) (.slice (some ad450) x5_1.length co69) x5_1) := ⟨by exact Kd.R_mono (rT HO_5 BK461 (by decide)) (fun _ hk => trivial)⟩
          have n1_ : Aside0 (Kd.R k68 68 (((((((((w71.setCell ⟨gb461, 0, none⟩ (.int .i64 t451)).setCell ⟨gb461, 1, none⟩ (.int .i64 t452)).setCell ⟨gb461, 2, none⟩ (.int .i64 t453)).setCell ⟨gb461, 3, none⟩ (.int .i64 t454)).setCell ⟨gb461, 4, none⟩ (.int .i64 t455)).setCell ⟨gb461, 5, none⟩ (.int .i64 t456)).setCell ⟨gb461, 6, none⟩ (.string t457)).setCell ⟨gb461, 7, none⟩ (.string t458)).setCell ⟨gb461, 8, none⟩ (.string t459)) w.heap.size (fun _ => True) u10 x10_2) := ⟨by exact Kd.R_mono (rT HO_10 BK461 (by decide)) (fun _ hk => trivial)⟩
          have n2_ : Aside0 ((((((((((w71.setCell ⟨gb461, 0, none⟩ (.int .i64 t451)).setCell ⟨gb461, 1, none⟩ (.int .i64 t452)).setCell ⟨gb461, 2, none⟩ (.int .i64 t453)).setCell ⟨gb461, 3, none⟩ (.int .i64 t454)).setCell ⟨gb461, 4, none⟩ (.int .i64 t455)).setCell ⟨gb461, 5, none⟩ (.int .i64 t456)).setCell ⟨gb461, 6, none⟩ (.string t457)).setCell ⟨gb461, 7, none⟩ (.string t458)).setCell ⟨gb461, 8, none⟩ (.string t459)).heap[gb461]? = some (.cells #[.int .i64 t451, .int .i64 t452, .int .i64 t453, .int .i64 t454, .int .i64 t455, .int .i64 t456, .string t457, .string t458, .string t459] 32 (0, 0))) := ⟨bW BK461⟩
          have n3_ : Aside0 (Below w.heap.size w (((((((((w71.setCell ⟨gb461, 0, none⟩ (.int .i64 t451)).setCell ⟨gb461, 1, none⟩ (.int .i64 t452)).setCell ⟨gb461, 2, none⟩ (.int .i64 t453)).setCell ⟨gb461, 3, none⟩ (.int .i64 t454)).setCell ⟨gb461, 4, none⟩ (.int .i64 t455)).setCell ⟨gb461, 5, none⟩ (.int .i64 t456)).setCell ⟨gb461, 6, none⟩ (.string t457)).setCell ⟨gb461, 7, none⟩ (.string t458)).setCell ⟨gb461, 8, none⟩ (.string t459))) := ⟨by exact lT HB (gC GE461 gN)⟩
          (try clear HO_5)
          (try clear HO_10)
          (try clear BK461)
          (try clear HB)
          generalize (((((((((w71.setCell ⟨gb461, 0, none⟩ (.int .i64 t451)).setCell ⟨gb461, 1, none⟩ (.int .i64 t452)).setCell ⟨gb461, 2, none⟩ (.int .i64 t453)).setCell ⟨gb461, 3, none⟩ (.int .i64 t454)).setCell ⟨gb461, 4, none⟩ (.int .i64 t455)).setCell ⟨gb461, 5, none⟩ (.int .i64 t456)).setCell ⟨gb461, 6, none⟩ (.string t457)).setCell ⟨gb461, 7, none⟩ (.string t458)).setCell ⟨gb461, 8, none⟩ (.string t459)) = w73 at n0_ n1_ n2_ n3_ ⊢
          have HO_5 := n0_
          have HO_10 := n1_
          have BK461 := n2_
          have HB := n3_
          clear n0_ n1_ n2_ n3_
          replace HO_5 := ak (Kd.R_drew HO_5.out)
          replace HO_10 := ak (Kd.R_drew HO_10.out)
          replace BK461 := ak (blk_drew BK461.out)
          replace HB := ak (below_drew1 HB.out)
          have p462 : 0 ≤ (x11_2 : Int) := oda
          have q462 : x11_2 < (x5_1.length : Int) := oda
          obtain ⟨ad462, e462, hx462_0⟩ := Kd.at_int (Kd.R_reads' HO_5.out).2.2 x11_2 p462 q462
          obtain rfl : ad450 = ad462 := (by injection e462)
          replace p462 := eq_true p462
          replace q462 := eq_true q462
          refine start_ (n := 13) (S := fun w' => w'.cell? ⟨gb461, 0, none⟩ = some (.int .i64 t451) ∧ w'.cell? ⟨gb461, 1, none⟩ = some (.int .i64 t452) ∧ w'.cell? ⟨gb461, 2, none⟩ = some (.int .i64 t453) ∧ w'.cell? ⟨gb461, 3, none⟩ = some (.int .i64 t454) ∧ w'.cell? ⟨gb461, 4, none⟩ = some (.int .i64 t455) ∧ w'.cell? ⟨gb461, 5, none⟩ = some (.int .i64 t456) ∧ w'.cell? ⟨gb461, 6, none⟩ = some (.string t457) ∧ w'.cell? ⟨gb461, 7, none⟩ = some (.string t458) ∧ w'.cell? ⟨gb461, 8, none⟩ = some (.string t459) ∧ w'.cell? (ad450.add (x11_2).toNat) = some (.int .i64 (rd x5_1 x11_2))) (ds := []) #[f_,f_,f_,f_,f_,f_,f_,f_,f_,f_,f_,f_,f_] (by kernel_rfl) rfl rfl ⟨bc BK461 0, bc BK461 1, bc BK461 2, bc BK461 3, bc BK461 4, bc BK461 5, bc BK461 6, bc BK461 7, bc BK461 8, hx462_0⟩ (fun hHeld => ?_); refine with_tabW spec_l07Mails.tab14 spec_l07Mails.bits14 (fun HT_ HW_ => ?_)
          generalize w73.drew = w74 at HO_5 HO_10 BK461 HB hx462_0 hHeld ⊢
          refine pu 0 71 (fb 13 1) HT_ ?_
          refine pu 1 72 (fb 13 3) HT_ ?_
          refine pu 2 73 (fb 13 7) HT_ ?_
          refine pu 4 75 (fb 13 23) HT_ ?_
          refine pu 5 76 (fb 13 55) HT_ ?_
          refine pu 7 78 (fb 13 183) HT_ ?_
          refine pu 8 79 (fb 13 439) HT_ ?_
          refine tk 3 74 (fb 13 447) HT_ HW_ hHeld ?_
          refine tk 6 77 (fb 13 511) HT_ HW_ hHeld ?_
          refine tk 9 80 (fb 13 1023) HT_ HW_ hHeld ?_
          refine pu 10 81 (fb 13 2047) HT_ ?_
          refine on 11 (some 14) (fb 13 4095) HT_ (fun K hK => ?_)
          refine box_step ?hg (N := 14) ?hd (cs := #[.int .i64 0, .int .i64 0, .string (⟨#[]⟩ : ByteArray)]) (t := 68) ?hr ?_; (case hd => rfl); (case hg => rfl); (case hr => first | (go_simp; done) | (go_simp; rfl))
          intro gb463 hg w75 hbox hb
          have HS9_ := (hb.cell (World.block_lt_of_cell? _ _ (hHeld.2.2.2.2.2.2.2.2.2))).trans (hHeld.2.2.2.2.2.2.2.2.2)
          replace HO_5 := rB HO_5 hb
          replace HO_10 := ak (Kd.R_below (Kd.R_elderB (rG HO_10) gb463 (Nat.le_of_eq hg.symm)) hb)
          replace BK463 := ak (hbox)
          replace GW463 := ak (bz hg (lT HB (gC GE461 gN)))
          replace GE463 := ak (bz hg (lT HB (gC GE461 gN)))
          replace HB := ak (below_step (lT HB (gC GE461 gN)) hb)
          replace NB461_463 := ak (nl hg (bG BK461))
          replace NB463_461 := ak (ng hg (bG BK461))
          replace BK461 := bB BK461 hb
          clear hb hbox hg
          refine hK.out _ _ ⟨bc BK461 0, bc BK461 1, bc BK461 2, bc BK461 3, bc BK461 4, bc BK461 5, bc BK461 6, bc BK461 7, bc BK461 8, HS9_⟩ (fun hHeld => ?_)
          clear hK K
          refine nm ?_
          refine on 12 none (fb 13 8191) HT_ (fun K hK => ?_)
          have hs76 : w75.cell? ⟨gb463, 0, none⟩ = some (.int .i64 0) := bc BK463 0
          have hfs76 := blk_frozen BK463.out 0
          have hns76_0 := NB461_463.out
          have hms76_0 := NB463_461.out
          have hs77 : w75.cell? ⟨gb463, 1, none⟩ = some (.int .i64 0) := bc BK463 1
          have hfs77 := blk_frozen BK463.out 1
          have hns77_0 := NB461_463.out
          have hms77_0 := NB463_461.out
          have hs78 : w75.cell? ⟨gb463, 2, none⟩ = some (.string (⟨#[]⟩ : ByteArray)) := bc BK463 2
          have hfs78 := blk_frozen BK463.out 2
          have hns78_0 := NB461_463.out
          have hms78_0 := NB463_461.out
          refine skip_ (w1 := ?_) (by rfl) rfl ?_ ?_
          rotate_left
          ·go_simp
           rfl
          refine hK.out _ _ ⟨((cell_far (p := ⟨gb463, _, none⟩) NB461_463.out _).trans (((cell_far (p := ⟨gb463, _, none⟩) NB461_463.out _).trans (((cell_far (p := ⟨gb463, _, none⟩) NB461_463.out _).trans (hHeld.1)))))), ((cell_far (p := ⟨gb463, _, none⟩) NB461_463.out _).trans (((cell_far (p := ⟨gb463, _, none⟩) NB461_463.out _).trans (((cell_far (p := ⟨gb463, _, none⟩) NB461_463.out _).trans (hHeld.2.1)))))), ((cell_far (p := ⟨gb463, _, none⟩) NB461_463.out _).trans (((cell_far (p := ⟨gb463, _, none⟩) NB461_463.out _).trans (((cell_far (p := ⟨gb463, _, none⟩) NB461_463.out _).trans (hHeld.2.2.1)))))), ((cell_far (p := ⟨gb463, _, none⟩) NB461_463.out _).trans (((cell_far (p := ⟨gb463, _, none⟩) NB461_463.out _).trans (((cell_far (p := ⟨gb463, _, none⟩) NB461_463.out _).trans (hHeld.2.2.2.1)))))), ((cell_far (p := ⟨gb463, _, none⟩) NB461_463.out _).trans (((cell_far (p := ⟨gb463, _, none⟩) NB461_463.out _).trans (((cell_far (p := ⟨gb463, _, none⟩) NB461_463.out _).trans (hHeld.2.2.2.2.1)))))), ((cell_far (p := ⟨gb463, _, none⟩) NB461_463.out _).trans (((cell_far (p := ⟨gb463, _, none⟩) NB461_463.out _).trans (((cell_far (p := ⟨gb463, _, none⟩) NB461_463.out _).trans (hHeld.2.2.2.2.2.1)))))), ((cell_far (p := ⟨gb463, _, none⟩) NB461_463.out _).trans (((cell_far (p := ⟨gb463, _, none⟩) NB461_463.out _).trans (((cell_far (p := ⟨gb463, _, none⟩) NB461_463.out _).trans (hHeld.2.2.2.2.2.2.1)))))), ((cell_far (p := ⟨gb463, _, none⟩) NB461_463.out _).trans (((cell_far (p := ⟨gb463, _, none⟩) NB461_463.out _).trans (((cell_far (p := ⟨gb463, _, none⟩) NB461_463.out _).trans (hHeld.2.2.2.2.2.2.2.1)))))), ((cell_far (p := ⟨gb463, _, none⟩) NB461_463.out _).trans (((cell_far (p := ⟨gb463, _, none⟩) NB461_463.out _).trans (((cell_far (p := ⟨gb463, _, none⟩) NB461_463.out _).trans (hHeld.2.2.2.2.2.2.2.2.1)))))), ((cell_far (p := ⟨gb463, _, none⟩) (by first | exact Kd.own_blk (Kd.R_ne HO_5.out BK463.out (by decide)) | (rw [add_block]; exact Kd.own_blk (Kd.R_ne HO_5.out BK463.out (by decide))) | (show (Addr.add _ _).block ≠ _; rw [add_block]; exact Kd.own_blk (Kd.R_ne HO_5.out BK463.out (by decide))) | (dsimp only; exact Kd.own_blk (Kd.R_ne HO_5.out BK463.out (by decide)))) _).trans (((cell_far (p := ⟨gb463, _, none⟩) (by first | exact Kd.own_blk (Kd.R_ne HO_5.out BK463.out (by decide)) | (rw [add_block]; exact Kd.own_blk (Kd.R_ne HO_5.out BK463.out (by decide))) | (show (Addr.add _ _).block ≠ _; rw [add_block]; exact Kd.own_blk (Kd.R_ne HO_5.out BK463.out (by decide))) | (dsimp only; exact Kd.own_blk (Kd.R_ne HO_5.out BK463.out (by decide)))) _).trans (((cell_far (p := ⟨gb463, _, none⟩) (by first | exact Kd.own_blk (Kd.R_ne HO_5.out BK463.out (by decide)) | (rw [add_block]; exact Kd.own_blk (Kd.R_ne HO_5.out BK463.out (by decide))) | (show (Addr.add _ _).block ≠ _; rw [add_block]; exact Kd.own_blk (Kd.R_ne HO_5.out BK463.out (by decide))) | (dsimp only; exact Kd.own_blk (Kd.R_ne HO_5.out BK463.out (by decide)))) _).trans (hHeld.2.2.2.2.2.2.2.2.2))))))⟩ (fun hHeld => ?_)
          clear hK K
          refine done_ (done_of HT_.out (by kernel_rfl)) ?_
          have p464 : 0 ≤ (x11_2 : Int) := oda
          have q464 : x11_2 < (x5_1.length : Int) := oda
          obtain ⟨ad464, e464, hx464_0⟩ := Kd.at_int (Kd.R_reads' HO_5.out).2.2 x11_2 p464 q464
          obtain rfl : ad450 = ad464 := (by injection e464)
          have hn464_0 : ad450.block ≠ gb463 := Kd.own_blk (Kd.R_ne HO_5.out BK463.out (by decide))
          have hn464_1 : ad450.block ≠ gb463 := Kd.own_blk (Kd.R_ne HO_5.out BK463.out (by decide))
          have hn464_2 : ad450.block ≠ gb463 := Kd.own_blk (Kd.R_ne HO_5.out BK463.out (by decide))
          replace hx464_0 := (cell_far (p := ⟨gb463, 0, none⟩) (by first | (rw [add_block]; exact hn464_0) | (show (Addr.add _ _).block ≠ _; rw [add_block]; exact hn464_0) | exact hn464_0) (.int .i64 (rd x5_1 x11_2))).trans hx464_0
          replace hx464_0 := (cell_far (p := ⟨gb463, 1, none⟩) (by first | (rw [add_block]; exact hn464_1) | (show (Addr.add _ _).block ≠ _; rw [add_block]; exact hn464_1) | exact hn464_1) (.int .i64 t456)).trans hx464_0
          replace hx464_0 := (cell_far (p := ⟨gb463, 2, none⟩) (by first | (rw [add_block]; exact hn464_2) | (show (Addr.add _ _).block ≠ _; rw [add_block]; exact hn464_2) | exact hn464_2) (.string t459)).trans hx464_0
          clear hn464_0
          clear hn464_1
          clear hn464_2
          replace p464 := eq_true p464
          replace q464 := eq_true q464
          try go_wp2_with (first | ((with_reducible refine gate_callee (f := 80) rfl ?_); refine gl (some 89) Try.func80 #[.slice A0 l0.length c0, .int .i64 4, .int .i64 a1, .int .i64 (rd x5_1 x11_2)] ?_; (with_reducible refine (spec_l07Best.calls k2 _ _ l0 4 a1 (rd x5_1 x11_2) t465 t466 t467 t468 t469 t470 t471 t472 t473 false _ ?side1 ?side2 A47.out).mono ?_); (case side1 => exact Kd.C_below HR0.out (lT HB (gC GE461 (gC GE463 gN)))); (case side2 => exact HC0.out); rintro e w79 ⟨rfl, hb⟩; refine ⟨_, rfl, ?_⟩; replace HO_5 := ak (Kd.R_below (rT HO_5 BK463 (by decide)) hb); replace HO_10 := ak (Kd.R_below (by (with_reducible repeat (first | apply Kd.R_alloc | apply Kd.R_drewN | apply Kd.R_drew)); exact (Kd.R_mono (Kd.R_far (p := ⟨gb463, 2, none⟩) (Kd.R_far (p := ⟨gb463, 1, none⟩) (Kd.R_far (p := ⟨gb463, 0, none⟩) (Kd.R_mono HO_10.out (fun k_ hk => (⟨hk, hk.2⟩ : _ ∧ k_ ≠ gb463))) (fun _ hk => hk.2) (.int .i64 (rd x5_1 x11_2))) (fun _ hk => hk.2) (.int .i64 t456)) (fun _ hk => hk.2) (.string t459)) (fun _ h_ => h_.1))) hb); replace BK461 := ak (blk_below (bT BK461 (nC NB461_463 nN)) hb); replace BK463 := ak (blk_below (g := gb463) (o := .cells #[.int .i64 (rd x5_1 x11_2), .int .i64 t456, .string t459] 68 (0, 0)) (bW BK463) hb); replace HB := ak (below_step (lT HB (gC GE461 (gC GE463 gN))) hb); (try clear hb); (try clear hk)) | ((with_reducible refine gate_dst (N := 15) rfl ?_); refine bx 15 #[.int .i64 0, .int .i64 0, .int .i64 0, .int .i64 0, .int .i64 0, .int .i64 0, .string (⟨#[]⟩ : ByteArray), .string (⟨#[]⟩ : ByteArray), .string (⟨#[]⟩ : ByteArray)] 32 ?_; intro gb475 hg w80 hbox hb; replace HO_5 := rB HO_5 hb; replace HO_10 := rB HO_10 hb; replace BK475 := ak (hbox); replace GW475 := ak (bz hg (lT HB (gC GE461 (gC GE463 gN)))); replace GE475 := ak (bz hg (lT HB (gC GE461 (gC GE463 gN)))); replace HB := ak (below_step (lT HB (gC GE461 (gC GE463 gN))) hb); replace NB461_475 := ak (nl hg (bG BK461)); replace NB475_461 := ak (ng hg (bG BK461)); replace BK461 := bB BK461 hb; replace NB463_475 := ak (nl hg (bG BK463)); replace NB475_463 := ak (ng hg (bG BK463)); replace BK463 := bB BK463 hb; clear hb hbox hg; have hnb81 := NB475_461.out; have hnc81 := NB461_475.out; have hnb82 := NB475_463.out; have hnc82 := NB463_475.out; obtain ⟨_, _, _, _, _, _, _, _, _, _, _, _, _, _, _, _, _, _⟩ := bC9 BK475; have hnb84 := NB463_461.out; have hnc84 := NB461_463.out; obtain ⟨_, _, _, _, _, _⟩ := bC3 BK463) | ((with_reducible refine gate_builtin (b := .append) (xs := #[.tmp 97, .tmp 99]) rfl ?_); at_builtin; refine Kd.R_append k68 (w0 := w) w.heap.size rfl (.tmp 97) (.tmp 99) 64 68 (.agg #[(.int .i64 0), (.int .i64 0), (.string ⟨#[]⟩)]) 32 rfl Try.underlying64 info68 rfl (by decide) (by omega) u10 x10_2 (⟨rd x5_1 x11_2, t456, t459⟩ : S68) [.int .i64 (rd x5_1 x11_2), .int .i64 t456, .string t459] (fun k_ => k_ ≠ gb463) (fun _ => False) rfl (by first | (go_simp; done) | (go_simp; rfl)) ?aP (fun _ hk => hk.elim) ?aF ?aO ?aB ?aS ?aL ?_; (case aP => exact k68_mkM _ _ _ (⟨rd x5_1 x11_2, t456, t459⟩ : S68)); (case aB => exact (lT HB (gC GE461 (gC GE463 (gC GE475 gN))))); (case aF => exact (fun k_ hk => Kd.freshB (g := gb463) (o := .cells #[.int .i64 (rd x5_1 x11_2), .int .i64 t456, .string t459] 68 (0, 0)) (bT BK463 (nC NB463_475 nN)) k_ hk)); (case aO => exact (by (with_reducible repeat (first | apply Kd.R_alloc | apply Kd.R_drewN | apply Kd.R_drew)); exact Kd.R_mono (Kd.R_far (p := ⟨gb475, 8, none⟩) (Kd.R_far (p := ⟨gb475, 7, none⟩) (Kd.R_far (p := ⟨gb475, 6, none⟩) (Kd.R_far (p := ⟨gb475, 5, none⟩) (Kd.R_far (p := ⟨gb475, 4, none⟩) (Kd.R_far (p := ⟨gb475, 3, none⟩) (Kd.R_far (p := ⟨gb475, 2, none⟩) (Kd.R_far (p := ⟨gb475, 1, none⟩) (Kd.R_far (p := ⟨gb475, 0, none⟩) (Kd.R_types HO_10.out BK475.out (by decide)) (fun _ hk => hk.2) (.int .i64 t465)) (fun _ hk => hk.2) (.int .i64 t466)) (fun _ hk => hk.2) (.int .i64 t467)) (fun _ hk => hk.2) (.int .i64 t468)) (fun _ hk => hk.2) (.int .i64 t469)) (fun _ hk => hk.2) (.int .i64 t470)) (fun _ hk => hk.2) (.string t471)) (fun _ hk => hk.2) (.string t472)) (fun _ hk => hk.2) (.string t473)) (fun _ hk => hk.1.2))); (case aS => exact (below_size (lT HB (gC GE461 (gC GE463 (gC GE475 gN)))))); (case aL => have := LMc68.out; omega); intro v480 w86 ho hb hg hat; rw [← Ny479.out] at ho; have n0_ := ak (Kd.R_over' (rT HO_5 BK475 (by decide)) (Kd.R_typed (rT HO_10 BK475 (by decide))) (by decide) hg); have n1_ := ak (blk_grown (g := gb461) (o := .cells #[.int .i64 t451, .int .i64 t452, .int .i64 t453, .int .i64 t454, .int .i64 t455, .int .i64 t456, .string t457, .string t458, .string t459] 32 (0, 0)) (bT BK461 (nC NB461_475 nN)) hg (Kd.R_ne HO_10.out BK461.out (by decide))); have n2_ := ak (blk_grown (g := gb463) (o := .cells #[.int .i64 (rd x5_1 x11_2), .int .i64 t456, .string t459] 68 (0, 0)) (bT BK463 (nC NB463_475 nN)) hg (Kd.R_away HO_10.out (fun _ hk => hk.2))); have n3_ := ak (blk_grown (g := gb475) (o := .cells #[.int .i64 t465, .int .i64 t466, .int .i64 t467, .int .i64 t468, .int .i64 t469, .int .i64 t470, .string t471, .string t472, .string t473] 32 (0, 0)) (bW BK475) hg (Kd.R_ne HO_10.out BK475.out (by decide))); have n4_ := ak (hb); have n5_ := ak (ho); clear HO_5; clear BK461; clear BK463; clear BK475; clear HB; clear HO_10; have HO_5 := n0_; have BK461 := n1_; have BK463 := n2_; have BK475 := n3_; have HB := n4_; have HO481 := n5_; clear n0_ n1_ n2_ n3_ n4_ n5_; clear ho hb hg hat))
          go_roundg k2
          case measure => have := HK1.out; have := HK2.out; omega
          case rel => exact ⟨_, _, rr, H', ⟨by have := HK1.out; have := HK2.out; omega⟩, ⟨by (with_reducible repeat (first | apply Kd.R_alloc | apply Kd.R_drewN | apply Kd.R_drew)); exact HO_5.out⟩, ⟨by (with_reducible repeat (first | apply Kd.R_alloc | apply Kd.R_drewN | apply Kd.R_drew)); exact Kd.R_mono HO481.out (fun _ hk => trivial)⟩, ⟨by exact lT HB (gC GE461 (gC GE463 (gC GE475 gN)))⟩⟩
         ·rw [if_neg c68] at H
          exact absurd H (by simp)
       ·rw [if_neg c45] at H
        exact absurd H (by simp)
      ·rw [if_neg c44] at H
       have c44b0 : decide (x11_2 < (x5_1.length : Int)) = false := decide_eq_false c44
       clear c44
       obtain rfl := Option.some.inj H
       obtain ⟨Ao87, co87, eo87⟩ := Kd.R_slice HO_5.out
       subst eo87
       go_wp2
       go_ret
       exact ⟨_, ew, by (with_reducible repeat (first | apply Kd.R_alloc | apply Kd.R_drewN | apply Kd.R_drew)); exact HO_10.out, by exact lG HB⟩
end Go.Proofs.Ytagkjeldheiejaa.PFnAnyOrder
