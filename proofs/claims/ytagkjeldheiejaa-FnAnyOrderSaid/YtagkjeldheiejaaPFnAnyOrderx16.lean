-- Written by a program of mine (a turned copy of the kit's print): functions as plain Lean, their contracts.
import Derived.Test.YtagkjeldheiejaaPFnAnyOrderx0
import Derived.Test.YtagkjeldheiejaaVFnAnyOrder1
namespace Go.Proofs.Ytagkjeldheiejaa.PFnAnyOrder
open Go.RowKit Go.Proofs.YtagkjeldheiejaaW.PrintWords Go.Proofs.YtagkjeldheiejaaW.PrintLast Go.Proofs.YtagkjeldheiejaaW.PrintMore
attribute [local go_sem] max2_int min2_int max_two min_two max_three min_three max_four min_four   -- for this text's walks alone
set_option maxHeartbeats 8000000
set_option maxRecDepth 100000
set_option linter.unusedVariables false
set_option linter.unusedSimpArgs false
/-! ### spec_l07Next: function 83 -/
mutual
def spec_l07Next.l0 : Nat → List (S32) → Int → Int → Int → Option (Int)
 | 0, _, _, _, _ => none
 | k + 1, x0, x1, x5, x6 => if x6 < (x0.length : Int) then (if 0 ≤ x6 then (if ((rd_T32 x0 x6).f1.f1) = x1 then (if ((rd_T32 x0 x6).f1.f0) = 1 then (if ((rd_T32 x0 x6).f1.f3) > x5 then (spec_l07Next.l0 k x0 x1 ((rd_T32 x0 x6).f1.f3) (wrap64 (x6 + 1))) else (spec_l07Next.l0 k x0 x1 x5 (wrap64 (x6 + 1)))) else (if ((rd_T32 x0 x6).f1.f0) = 3 then (spec_l07Next.j1 k x0 x1 x5 x6 0 (((rd_T32 x0 x6).f1.f0) == 3) ((rd_T32 x0 x6).f1.f0) ((rd_T32 x0 x6).f1.f1) ((rd_T32 x0 x6).f1.f2) ((rd_T32 x0 x6).f1.f3) ((rd_T32 x0 x6).f1.f4) ((rd_T32 x0 x6).f1.f5) ((rd_T32 x0 x6).f1.f6) ((rd_T32 x0 x6).f1.f7)) else (spec_l07Next.j1 k x0 x1 x5 x6 0 (((rd_T32 x0 x6).f1.f0) == 5) ((rd_T32 x0 x6).f1.f0) ((rd_T32 x0 x6).f1.f1) ((rd_T32 x0 x6).f1.f2) ((rd_T32 x0 x6).f1.f3) ((rd_T32 x0 x6).f1.f4) ((rd_T32 x0 x6).f1.f5) ((rd_T32 x0 x6).f1.f6) ((rd_T32 x0 x6).f1.f7)))) else (spec_l07Next.l0 k x0 x1 x5 (wrap64 (x6 + 1)))) else (none)) else (some x5)
def spec_l07Next.j1 : Nat → List (S32) → Int → Int → Int → Int → Bool → Int → Int → Int → Int → Int → ByteArray → ByteArray → ByteArray → Option (Int)
 | 0, _, _, _, _, _, _, _, _, _, _, _, _, _, _ => none
 | k + 1, x0, x1, x5, x6, x8, x30, x428000, x428001, x428002, x428003, x428004, x428005, x428006, x428007 => if x30 = true then (if (wrap64 (x428002 + 1)) > x5 then (spec_l07Next.l0 k x0 x1 (wrap64 (x428002 + 1)) (wrap64 (x6 + 1))) else (spec_l07Next.l0 k x0 x1 x5 (wrap64 (x6 + 1)))) else (if x8 > x5 then (spec_l07Next.l0 k x0 x1 x8 (wrap64 (x6 + 1))) else (spec_l07Next.l0 k x0 x1 x5 (wrap64 (x6 + 1))))
end
def spec_l07Next.f (k : Nat) (l0 : List (S32)) (a1 : Int) : Option (Int) := spec_l07Next.l0 k l0 a1 1 0
theorem spec_l07Next.mono_l : ∀ k, (∀ y0 y1 y2 y3, LeO (spec_l07Next.l0 k y0 y1 y2 y3) (spec_l07Next.l0 (k + 1) y0 y1 y2 y3)) ∧ (∀ y0 y1 y2 y3 y4 y5 y6 y7 y8 y9 y10 y11 y12 y13, LeO (spec_l07Next.j1 k y0 y1 y2 y3 y4 y5 y6 y7 y8 y9 y10 y11 y12 y13) (spec_l07Next.j1 (k + 1) y0 y1 y2 y3 y4 y5 y6 y7 y8 y9 y10 y11 y12 y13))
 | 0 => ⟨fun _ _ _ _ r h => by simp [spec_l07Next.l0] at h, fun _ _ _ _ _ _ _ _ _ _ _ _ _ _ r h => by simp [spec_l07Next.j1] at h⟩
 | k + 1 => by
  obtain ⟨ih0, ih1⟩ := spec_l07Next.mono_l k
  refine ⟨?_, ?_⟩
  ·intro y0 y1 y2 y3
   unfold spec_l07Next.l0
   repeat' first
   | (with_reducible exact ih0 _ _ _ _)
   | (with_reducible exact ih1 _ _ _ _ _ _ _ _ _ _ _ _ _ _)
   | (with_reducible exact LeO.refl _)
   | (with_reducible exact LeO.none _)
   | (with_reducible refine LeO.ite ?_ ?_)
   | (with_reducible refine LeO.bind ?_ (fun _ => ?_))
   | exact ih0 _ _ _ _
   | exact ih1 _ _ _ _ _ _ _ _ _ _ _ _ _ _
   | exact LeO.none _
   | refine LeO.ite ?_ ?_
   | refine LeO.bind ?_ (fun _ => ?_)
  ·intro y0 y1 y2 y3 y4 y5 y6 y7 y8 y9 y10 y11 y12 y13
   unfold spec_l07Next.j1
   repeat' first
   | (with_reducible exact ih0 _ _ _ _)
   | (with_reducible exact ih1 _ _ _ _ _ _ _ _ _ _ _ _ _ _)
   | (with_reducible exact LeO.refl _)
   | (with_reducible exact LeO.none _)
   | (with_reducible refine LeO.ite ?_ ?_)
   | (with_reducible refine LeO.bind ?_ (fun _ => ?_))
   | exact ih0 _ _ _ _
   | exact ih1 _ _ _ _ _ _ _ _ _ _ _ _ _ _
   | exact LeO.none _
   | refine LeO.ite ?_ ?_
   | refine LeO.bind ?_ (fun _ => ?_)
theorem spec_l07Next.mono : ∀ a0 a1 k, LeO (spec_l07Next.f k a0 a1) (spec_l07Next.f (k + 1) a0 a1) := by
 intro a0 a1 k
 obtain ⟨ih0, ih1⟩ := spec_l07Next.mono_l k
 unfold spec_l07Next.f
 repeat' first
   | (with_reducible exact ih0 _ _ _ _)
   | (with_reducible exact ih1 _ _ _ _ _ _ _ _ _ _ _ _ _ _)
   | (with_reducible exact LeO.refl _)
   | (with_reducible exact LeO.none _)
   | (with_reducible refine LeO.ite ?_ ?_)
   | (with_reducible refine LeO.bind ?_ (fun _ => ?_))
   | exact ih0 _ _ _ _
   | exact ih1 _ _ _ _ _ _ _ _ _ _ _ _ _ _
   | exact LeO.none _
   | refine LeO.ite ?_ ?_
   | refine LeO.bind ?_ (fun _ => ?_)
theorem spec_l07Next.calls (k : Nat) (A0 : Option Addr) (c0 : Nat) (l0 : List (S32)) (a1 : Int) (r : Int) (w : World) (hr0 : Kd.C k32 w A0 l0.length l0) (hc0 : l0.length ≤ c0) (h : spec_l07Next.f k l0 a1 = some r) :
  Calls Try.prog 83 #[.slice A0 l0.length c0, .int .i64 a1] w fun e w' => e = .returned (.int .i64 r) ∧ Below w.heap.size w w' := by
 have hu23 := Try.underlying23
 have HR0 := Aside0.mk hr0
 have HC0 := Aside0.mk hc0
 clear hr0 hc0
 have HB := ak (Below.refl w.heap.size w)
 have H : (spec_l07Next.l0 k l0 a1 1 0) = some r := h
 clear h
 have H' := Aside0.mk H
 clear H
 go_enter Try.func83, Try.ntmps83
 go_wp2
 go_loopg [5, 6] k (fun kq v5 v6 w' => ∃ (x5_1 : Int) (x6_1 : Int), v5 = .int .i64 x5_1 ∧ v6 = .int .i64 x6_1 ∧ Aside0 (spec_l07Next.l0 kq l0 a1 x5_1 x6_1 = some r) ∧ Aside0 (kq ≤ k) ∧ Aside0 (Below w.heap.size w w'))
 case atStart => exact ⟨_, _, rr, rr, H', ⟨Nat.le_refl _⟩, ⟨by exact lG HB⟩⟩
 case round =>
  clear H'
  try clear p2
  obtain ⟨x5_1, x6_1, rfl, rfl, HA, HK1, HB⟩ := hrel
  cases gk with
  | zero => exact absurd HA.out (by simp [spec_l07Next.l0])
  | succ k1 =>
   have H := HA.out
   clear HA
   simp only [spec_l07Next.l0] at H
   by_cases c3 : x6_1 < (l0.length : Int)
   ·rw [if_pos c3] at H
    have c3b0 : decide (x6_1 < (l0.length : Int)) = true := decide_eq_true c3
    clear c3
    by_cases c4 : 0 ≤ x6_1
    ·rw [if_pos c4] at H
     have c4b0 : decide (0 ≤ x6_1) = true := decide_eq_true c4
     clear c4
     by_cases c5 : ((rd_T32 l0 x6_1).f1.f1) = a1
     ·rw [if_pos c5] at H
      have c5b0 : (((rd_T32 l0 x6_1).f1.f1) == a1) = true := beq_iff_eq.mpr c5
      have c5b1 : (((rd_T32 l0 x6_1).f1.f1) != a1) = false := bne_eq_false_iff_eq.mpr c5
      clear c5
      by_cases c6 : ((rd_T32 l0 x6_1).f1.f0) = 1
      ·rw [if_pos c6] at H
       have c6b0 : (((rd_T32 l0 x6_1).f1.f0) == 1) = true := beq_iff_eq.mpr c6
       have c6b1 : (((rd_T32 l0 x6_1).f1.f0) != 1) = false := bne_eq_false_iff_eq.mpr c6
       clear c6
       by_cases c7 : ((rd_T32 l0 x6_1).f1.f3) > x5_1
       ·rw [if_pos c7] at H
        have c7b0 : decide (x5_1 < ((rd_T32 l0 x6_1).f1.f3)) = true := decide_eq_true c7
        clear c7
        have H' := Aside0.mk H
        clear H
        have p426 : 0 ≤ (x6_1 : Int) := oda
        have q426 : x6_1 < (l0.length : Int) := oda
        obtain ⟨ad426, e426, hx426_0, hx426_1, hx426_2, hx426_3, hx426_4, hx426_5, hx426_6, hx426_7, hx426_8⟩ := at_T32 HR0.out x6_1 p426 q426
        cases e426
        replace hx426_0 := (HB.out.cell (World.block_lt_of_cell? w _ hx426_0)).trans hx426_0
        replace hx426_1 := (HB.out.cell (World.block_lt_of_cell? w _ hx426_1)).trans hx426_1
        replace hx426_2 := (HB.out.cell (World.block_lt_of_cell? w _ hx426_2)).trans hx426_2
        replace hx426_3 := (HB.out.cell (World.block_lt_of_cell? w _ hx426_3)).trans hx426_3
        replace hx426_4 := (HB.out.cell (World.block_lt_of_cell? w _ hx426_4)).trans hx426_4
        replace hx426_5 := (HB.out.cell (World.block_lt_of_cell? w _ hx426_5)).trans hx426_5
        replace hx426_6 := (HB.out.cell (World.block_lt_of_cell? w _ hx426_6)).trans hx426_6
        replace hx426_7 := (HB.out.cell (World.block_lt_of_cell? w _ hx426_7)).trans hx426_7
        replace hx426_8 := (HB.out.cell (World.block_lt_of_cell? w _ hx426_8)).trans hx426_8
        replace p426 := eq_true p426
        replace q426 := eq_true q426
        go_wp2_with (first | ((with_reducible refine gate_dst (N := 7) rfl ?_); refine bx 7 #[.int .i64 0, .int .i64 0, .int .i64 0, .int .i64 0, .int .i64 0, .string (⟨#[]⟩ : ByteArray), .string (⟨#[]⟩ : ByteArray), .string (⟨#[]⟩ : ByteArray)] 23 ?_; intro gb427 hg w8 hbox hb; replace BK427 := ak (hbox); replace GE427 := ak (bz hg (lG HB)); replace HB := lB HB hb; clear hb hbox hg; obtain ⟨hcz9_0, hcz9_1, hcz9_2, hcz9_3, hcz9_4, hcz9_5, hcz9_6, hcz9_7, hfz9_0, hfz9_1, hfz9_2, hfz9_3, hfz9_4, hfz9_5, hfz9_6, hfz9_7⟩ := bC8 BK427))
        go_roundg k1
        case measure => have := HK1.out; omega
        case rel => exact ⟨_, _, rr, rr, H', ⟨by have := HK1.out; omega⟩, ⟨by exact lT HB (gC GE427 gN)⟩⟩
       ·rw [if_neg c7] at H
        have c7b0 : decide (x5_1 < ((rd_T32 l0 x6_1).f1.f3)) = false := decide_eq_false c7
        clear c7
        have H' := Aside0.mk H
        clear H
        have p426 : 0 ≤ (x6_1 : Int) := oda
        have q426 : x6_1 < (l0.length : Int) := oda
        obtain ⟨ad426, e426, hx426_0, hx426_1, hx426_2, hx426_3, hx426_4, hx426_5, hx426_6, hx426_7, hx426_8⟩ := at_T32 HR0.out x6_1 p426 q426
        cases e426
        replace hx426_0 := (HB.out.cell (World.block_lt_of_cell? w _ hx426_0)).trans hx426_0
        replace hx426_1 := (HB.out.cell (World.block_lt_of_cell? w _ hx426_1)).trans hx426_1
        replace hx426_2 := (HB.out.cell (World.block_lt_of_cell? w _ hx426_2)).trans hx426_2
        replace hx426_3 := (HB.out.cell (World.block_lt_of_cell? w _ hx426_3)).trans hx426_3
        replace hx426_4 := (HB.out.cell (World.block_lt_of_cell? w _ hx426_4)).trans hx426_4
        replace hx426_5 := (HB.out.cell (World.block_lt_of_cell? w _ hx426_5)).trans hx426_5
        replace hx426_6 := (HB.out.cell (World.block_lt_of_cell? w _ hx426_6)).trans hx426_6
        replace hx426_7 := (HB.out.cell (World.block_lt_of_cell? w _ hx426_7)).trans hx426_7
        replace hx426_8 := (HB.out.cell (World.block_lt_of_cell? w _ hx426_8)).trans hx426_8
        replace p426 := eq_true p426
        replace q426 := eq_true q426
        go_wp2_with (first | ((with_reducible refine gate_dst (N := 7) rfl ?_); refine bx 7 #[.int .i64 0, .int .i64 0, .int .i64 0, .int .i64 0, .int .i64 0, .string (⟨#[]⟩ : ByteArray), .string (⟨#[]⟩ : ByteArray), .string (⟨#[]⟩ : ByteArray)] 23 ?_; intro gb427 hg w10 hbox hb; replace BK427 := ak (hbox); replace GE427 := ak (bz hg (lG HB)); replace HB := lB HB hb; clear hb hbox hg; obtain ⟨hcz11_0, hcz11_1, hcz11_2, hcz11_3, hcz11_4, hcz11_5, hcz11_6, hcz11_7, hfz11_0, hfz11_1, hfz11_2, hfz11_3, hfz11_4, hfz11_5, hfz11_6, hfz11_7⟩ := bC8 BK427))
        go_roundg k1
        case measure => have := HK1.out; omega
        case rel => exact ⟨_, _, rr, rr, H', ⟨by have := HK1.out; omega⟩, ⟨by exact lT HB (gC GE427 gN)⟩⟩
      ·rw [if_neg c6] at H
       have c6b0 : (((rd_T32 l0 x6_1).f1.f0) == 1) = false := beq_eq_false_iff_ne.mpr c6
       have c6b1 : (((rd_T32 l0 x6_1).f1.f0) != 1) = true := bne_iff_ne.mpr c6
       have HC12 := Aside0.mk H
       clear H
       have p426 : 0 ≤ (x6_1 : Int) := oda
       have q426 : x6_1 < (l0.length : Int) := oda
       obtain ⟨ad426, e426, hx426_0, hx426_1, hx426_2, hx426_3, hx426_4, hx426_5, hx426_6, hx426_7, hx426_8⟩ := at_T32 HR0.out x6_1 p426 q426
       cases e426
       replace hx426_0 := (HB.out.cell (World.block_lt_of_cell? w _ hx426_0)).trans hx426_0
       replace hx426_1 := (HB.out.cell (World.block_lt_of_cell? w _ hx426_1)).trans hx426_1
       replace hx426_2 := (HB.out.cell (World.block_lt_of_cell? w _ hx426_2)).trans hx426_2
       replace hx426_3 := (HB.out.cell (World.block_lt_of_cell? w _ hx426_3)).trans hx426_3
       replace hx426_4 := (HB.out.cell (World.block_lt_of_cell? w _ hx426_4)).trans hx426_4
       replace hx426_5 := (HB.out.cell (World.block_lt_of_cell? w _ hx426_5)).trans hx426_5
       replace hx426_6 := (HB.out.cell (World.block_lt_of_cell? w _ hx426_6)).trans hx426_6
       replace hx426_7 := (HB.out.cell (World.block_lt_of_cell? w _ hx426_7)).trans hx426_7
       replace hx426_8 := (HB.out.cell (World.block_lt_of_cell? w _ hx426_8)).trans hx426_8
       replace p426 := eq_true p426
       replace q426 := eq_true q426
       go_upto_if 30 with (first | ((with_reducible refine gate_dst (N := 7) rfl ?_); refine bx 7 #[.int .i64 0, .int .i64 0, .int .i64 0, .int .i64 0, .int .i64 0, .string (⟨#[]⟩ : ByteArray), .string (⟨#[]⟩ : ByteArray), .string (⟨#[]⟩ : ByteArray)] 23 ?_; intro gb427 hg w13 hbox hb; replace BK427 := ak (hbox); replace GE427 := ak (bz hg (lG HB)); replace HB := lB HB hb; clear hb hbox hg; obtain ⟨hcz14_0, hcz14_1, hcz14_2, hcz14_3, hcz14_4, hcz14_5, hcz14_6, hcz14_7, hfz14_0, hfz14_1, hfz14_2, hfz14_3, hfz14_4, hfz14_5, hfz14_6, hfz14_7⟩ := bC8 BK427))
       (try simp only [Act.put, List.setIfInBounds_toArray, List.set_cons_zero, List.set_cons_succ])
       go_cut [30] (fun v30 wc => ∃ (kq : Nat) (x30_11 : Bool), v30 = .bool x30_11 ∧ Aside0 (spec_l07Next.j1 kq l0 a1 x5_1 x6_1 0 x30_11 ((rd_T32 l0 x6_1).f1.f0) ((rd_T32 l0 x6_1).f1.f1) ((rd_T32 l0 x6_1).f1.f2) ((rd_T32 l0 x6_1).f1.f3) ((rd_T32 l0 x6_1).f1.f4) ((rd_T32 l0 x6_1).f1.f5) ((rd_T32 l0 x6_1).f1.f6) ((rd_T32 l0 x6_1).f1.f7) = some r) ∧ Aside0 (kq ≤ k1) ∧ Aside0 (wc.heap[gb427]? = some (.cells #[.int .i64 ((rd_T32 l0 x6_1).f1.f0), .int .i64 ((rd_T32 l0 x6_1).f1.f1), .int .i64 ((rd_T32 l0 x6_1).f1.f2), .int .i64 ((rd_T32 l0 x6_1).f1.f3), .int .i64 ((rd_T32 l0 x6_1).f1.f4), .string ((rd_T32 l0 x6_1).f1.f5), .string ((rd_T32 l0 x6_1).f1.f6), .string ((rd_T32 l0 x6_1).f1.f7)] 23 (0, 0))) ∧ Aside0 (Below w.heap.size w wc))
       case first =>
        have H := HC12.out
        clear HC12
        by_cases c15 : ((rd_T32 l0 x6_1).f1.f0) = 3
        ·rw [if_pos c15] at H
         have c15b0 : (((rd_T32 l0 x6_1).f1.f0) == 3) = true := beq_iff_eq.mpr c15
         have c15b1 : (((rd_T32 l0 x6_1).f1.f0) != 3) = false := bne_eq_false_iff_eq.mpr c15
         clear c15
         (first | rw [c15b0] | (simp only [i64_w, i32_w]; rw [c15b0]) | skip)
         have H' := Aside0.mk H
         clear H
         go_wp2
         go_meet
         case rel => exact ⟨_, _, rr, H', ⟨by have := HK1.out; first | omega | exact Nat.le_refl _⟩, ⟨bW BK427⟩, ⟨by exact lT HB (gC GE427 gN)⟩⟩
        ·rw [if_neg c15] at H
         have c15b0 : (((rd_T32 l0 x6_1).f1.f0) == 3) = false := beq_eq_false_iff_ne.mpr c15
         have c15b1 : (((rd_T32 l0 x6_1).f1.f0) != 3) = true := bne_iff_ne.mpr c15
         (first | rw [c15b0] | (simp only [i64_w, i32_w]; rw [c15b0]) | skip)
         have H' := Aside0.mk H
         clear H
         go_wp2
         go_meet
         case rel => exact ⟨_, _, rr, H', ⟨by have := HK1.out; first | omega | exact Nat.le_refl _⟩, ⟨bW BK427⟩, ⟨by exact lT HB (gC GE427 gN)⟩⟩
       case rest =>
        clear HC12
        try clear c1
        try clear p2
        try clear c3
        try clear c3b0
        try clear c4
        try clear c4b0
        try clear p4
        try clear q4
        try clear hx4
        try clear c5
        try clear c5b0
        try clear c5b1
        try clear c6
        try clear c6b0
        try clear c6b1
        try clear p6
        try clear c7
        try clear c7b0
        try clear c8
        try clear c15
        try clear c15b0
        try clear c15b1
        try clear hcz11_0
        try clear hcz11_1
        try clear hcz11_2
        try clear hcz11_3
        try clear hcz11_4
        try clear hcz11_5
        try clear hcz11_6
        try clear hcz11_7
        try clear hcz14_0
        try clear hcz14_1
        try clear hcz14_2
        try clear hcz14_3
        try clear hcz14_4
        try clear hcz14_5
        try clear hcz14_6
        try clear hcz14_7
        try clear hcz9_0
        try clear hcz9_1
        try clear hcz9_2
        try clear hcz9_3
        try clear hcz9_4
        try clear hcz9_5
        try clear hcz9_6
        try clear hcz9_7
        try clear hfz11_0
        try clear hfz11_1
        try clear hfz11_2
        try clear hfz11_3
        try clear hfz11_4
        try clear hfz11_5
        try clear hfz11_6
        try clear hfz11_7
        try clear hfz14_0
        try clear hfz14_1
        try clear hfz14_2
        try clear hfz14_3
        try clear hfz14_4
        try clear hfz14_5
        try clear hfz14_6
        try clear hfz14_7
        try clear hfz9_0
        try clear hfz9_1
        try clear hfz9_2
        try clear hfz9_3
        try clear hfz9_4
        try clear hfz9_5
        try clear hfz9_6
        try clear hfz9_7
        try clear hx426_0
        try clear hx426_1
        try clear hx426_2
        try clear hx426_3
        try clear hx426_4
        try clear hx426_5
        try clear hx426_6
        try clear hx426_7
        try clear hx426_8
        try clear p2
        try clear p426
        try clear q426
        obtain ⟨kq, x30_11, rfl, HA, HJ11, BK427, HB⟩ := hcut
        cases kq with
        | zero => exact absurd HA.out (by simp [spec_l07Next.j1])
        | succ kj11 =>
         have H := HA.out
         clear HA
         simp only [spec_l07Next.j1] at H
         by_cases c16 : x30_11 = true
         ·subst c16
          rw [if_pos rfl] at H
          by_cases c17 : (wrap64 (((rd_T32 l0 x6_1).f1.f2) + 1)) > x5_1
          ·rw [if_pos c17] at H
           have c17b0 : decide (x5_1 < (wrap64 (((rd_T32 l0 x6_1).f1.f2) + 1))) = true := decide_eq_true c17
           clear c17
           have H' := Aside0.mk H
           clear H
           obtain ⟨_, _, _, _, _, _, _, _, _, _, _, _, _, _, _, _⟩ := bC8 BK427
           go_wp2
           go_roundg kj11
           case measure => have := HK1.out; have := HJ11.out; omega
           case rel => exact ⟨_, _, rr, rr, H', ⟨by have := HK1.out; have := HJ11.out; omega⟩, ⟨by exact lT HB (gC GE427 gN)⟩⟩
          ·rw [if_neg c17] at H
           have c17b0 : decide (x5_1 < (wrap64 (((rd_T32 l0 x6_1).f1.f2) + 1))) = false := decide_eq_false c17
           clear c17
           have H' := Aside0.mk H
           clear H
           obtain ⟨_, _, _, _, _, _, _, _, _, _, _, _, _, _, _, _⟩ := bC8 BK427
           go_wp2
           go_roundg kj11
           case measure => have := HK1.out; have := HJ11.out; omega
           case rel => exact ⟨_, _, rr, rr, H', ⟨by have := HK1.out; have := HJ11.out; omega⟩, ⟨by exact lT HB (gC GE427 gN)⟩⟩
         ·replace c16 := Bool.eq_false_iff.mpr c16
          subst c16
          rw [if_neg (show ¬ (false = true) by decide)] at H
          by_cases c20 : 0 > x5_1
          ·rw [if_pos c20] at H
           have c20b0 : decide (x5_1 < 0) = true := decide_eq_true c20
           clear c20
           have H' := Aside0.mk H
           clear H
           go_wp2
           go_roundg kj11
           case measure => have := HK1.out; have := HJ11.out; omega
           case rel => exact ⟨_, _, rr, rr, H', ⟨by have := HK1.out; have := HJ11.out; omega⟩, ⟨by exact lT HB (gC GE427 gN)⟩⟩
          ·rw [if_neg c20] at H
           have c20b0 : decide (x5_1 < 0) = false := decide_eq_false c20
           clear c20
           have H' := Aside0.mk H
           clear H
           go_wp2
           go_roundg kj11
           case measure => have := HK1.out; have := HJ11.out; omega
           case rel => exact ⟨_, _, rr, rr, H', ⟨by have := HK1.out; have := HJ11.out; omega⟩, ⟨by exact lT HB (gC GE427 gN)⟩⟩
     ·rw [if_neg c5] at H
      have c5b0 : (((rd_T32 l0 x6_1).f1.f1) == a1) = false := beq_eq_false_iff_ne.mpr c5
      have c5b1 : (((rd_T32 l0 x6_1).f1.f1) != a1) = true := bne_iff_ne.mpr c5
      have H' := Aside0.mk H
      clear H
      have p426 : 0 ≤ (x6_1 : Int) := oda
      have q426 : x6_1 < (l0.length : Int) := oda
      obtain ⟨ad426, e426, hx426_0, hx426_1, hx426_2, hx426_3, hx426_4, hx426_5, hx426_6, hx426_7, hx426_8⟩ := at_T32 HR0.out x6_1 p426 q426
      cases e426
      replace hx426_0 := (HB.out.cell (World.block_lt_of_cell? w _ hx426_0)).trans hx426_0
      replace hx426_1 := (HB.out.cell (World.block_lt_of_cell? w _ hx426_1)).trans hx426_1
      replace hx426_2 := (HB.out.cell (World.block_lt_of_cell? w _ hx426_2)).trans hx426_2
      replace hx426_3 := (HB.out.cell (World.block_lt_of_cell? w _ hx426_3)).trans hx426_3
      replace hx426_4 := (HB.out.cell (World.block_lt_of_cell? w _ hx426_4)).trans hx426_4
      replace hx426_5 := (HB.out.cell (World.block_lt_of_cell? w _ hx426_5)).trans hx426_5
      replace hx426_6 := (HB.out.cell (World.block_lt_of_cell? w _ hx426_6)).trans hx426_6
      replace hx426_7 := (HB.out.cell (World.block_lt_of_cell? w _ hx426_7)).trans hx426_7
      replace hx426_8 := (HB.out.cell (World.block_lt_of_cell? w _ hx426_8)).trans hx426_8
      replace p426 := eq_true p426
      replace q426 := eq_true q426
      go_wp2_with (first | ((with_reducible refine gate_dst (N := 7) rfl ?_); refine bx 7 #[.int .i64 0, .int .i64 0, .int .i64 0, .int .i64 0, .int .i64 0, .string (⟨#[]⟩ : ByteArray), .string (⟨#[]⟩ : ByteArray), .string (⟨#[]⟩ : ByteArray)] 23 ?_; intro gb427 hg w21 hbox hb; replace BK427 := ak (hbox); replace GE427 := ak (bz hg (lG HB)); replace HB := lB HB hb; clear hb hbox hg; obtain ⟨_, _, _, _, _, _, _, _, _, _, _, _, _, _, _, _⟩ := bC8 BK427))
      go_roundg k1
      case measure => have := HK1.out; omega
      case rel => exact ⟨_, _, rr, rr, H', ⟨by have := HK1.out; omega⟩, ⟨by exact lT HB (gC GE427 gN)⟩⟩
    ·rw [if_neg c4] at H
     exact absurd H (by simp)
   ·rw [if_neg c3] at H
    have c3b0 : decide (x6_1 < (l0.length : Int)) = false := decide_eq_false c3
    clear c3
    obtain rfl := Option.some.inj H
    go_wp2
    go_ret
    exact ⟨ew, by exact lG HB⟩
end Go.Proofs.Ytagkjeldheiejaa.PFnAnyOrder
