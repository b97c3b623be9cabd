-- Written by a program of mine (a turned copy of the kit's print): functions as plain Lean, their contracts.
import Derived.Test.YtagkjeldheiejaaPFnAnyOrderx10
import Derived.Test.YtagkjeldheiejaaVFnAnyOrder1
namespace Go.Proofs.Ytagkjeldheiejaa.PFnAnyOrder
open Go.RowKit Go.Proofs.YtagkjeldheiejaaW.PrintWords Go.Proofs.YtagkjeldheiejaaW.PrintLast Go.Proofs.YtagkjeldheiejaaW.PrintMore
attribute [local go_sem] max2_int min2_int max_two min_two max_three min_three max_four min_four   -- for this text's walks alone
set_option maxHeartbeats 8000000
set_option maxRecDepth 100000
set_option linter.unusedVariables false
set_option linter.unusedSimpArgs false
/-! ### slices_EqualFunc_sameBox: function 7403 -/
def slices_EqualFunc_sameBox.l0 : Nat → List (S66) → List (S66) → Int → Int → Option (Bool)
 | 0, _, _, _, _ => none
 | k + 1, x1, x15, x16, x17 => if x17 < x16 then (if 0 ≤ x17 then (if x17 < (x15.length : Int) then (if x17 < (x1.length : Int) then ((impl_sameBox.f k ((rd_T66 x15 x17).f0) ((rd_T66 x15 x17).f1) ((rd_T66 x15 x17).f2) ((rd_T66 x15 x17).f3) ((rd_T66 x15 x17).f4) ((rd_T66 x1 x17).f0) ((rd_T66 x1 x17).f1) ((rd_T66 x1 x17).f2) ((rd_T66 x1 x17).f3) ((rd_T66 x1 x17).f4)).bind fun t367 => (if t367 = true then (slices_EqualFunc_sameBox.l0 k x1 x15 x16 (wrap64 (x17 + 1))) else (some false))) else (none)) else (none)) else (none)) else (some true)
def slices_EqualFunc_sameBox.f (k : Nat) (l0 : List (S66)) (l1 : List (S66)) : Option (Bool) := if (l0.length : Int) = (l1.length : Int) then (slices_EqualFunc_sameBox.l0 k l1 l0 (l0.length : Int) 0) else (some false)
theorem slices_EqualFunc_sameBox.mono_l : ∀ k, (∀ y0 y1 y2 y3, LeO (slices_EqualFunc_sameBox.l0 k y0 y1 y2 y3) (slices_EqualFunc_sameBox.l0 (k + 1) y0 y1 y2 y3))
 | 0 => fun _ _ _ _ r h => by simp [slices_EqualFunc_sameBox.l0] at h
 | k + 1 => by
  have ih0 := slices_EqualFunc_sameBox.mono_l k
  ·intro y0 y1 y2 y3
   unfold slices_EqualFunc_sameBox.l0
   repeat' first
   | (with_reducible exact ih0 _ _ _ _)
   | (with_reducible exact impl_sameBox.mono _ _ _ _ _ _ _ _ _ _ _)
   | (with_reducible exact LeO.refl _)
   | (with_reducible exact LeO.none _)
   | (with_reducible refine LeO.ite ?_ ?_)
   | (with_reducible refine LeO.bind ?_ (fun _ => ?_))
   | exact ih0 _ _ _ _
   | exact impl_sameBox.mono _ _ _ _ _ _ _ _ _ _ _
   | exact LeO.none _
   | refine LeO.ite ?_ ?_
   | refine LeO.bind ?_ (fun _ => ?_)
theorem slices_EqualFunc_sameBox.mono : ∀ a0 a1 k, LeO (slices_EqualFunc_sameBox.f k a0 a1) (slices_EqualFunc_sameBox.f (k + 1) a0 a1) := by
 intro a0 a1 k
 have ih0 := slices_EqualFunc_sameBox.mono_l k
 unfold slices_EqualFunc_sameBox.f
 repeat' first
   | (with_reducible exact ih0 _ _ _ _)
   | (with_reducible exact impl_sameBox.mono _ _ _ _ _ _ _ _ _ _ _)
   | (with_reducible exact LeO.refl _)
   | (with_reducible exact LeO.none _)
   | (with_reducible refine LeO.ite ?_ ?_)
   | (with_reducible refine LeO.bind ?_ (fun _ => ?_))
   | exact ih0 _ _ _ _
   | exact impl_sameBox.mono _ _ _ _ _ _ _ _ _ _ _
   | exact LeO.none _
   | refine LeO.ite ?_ ?_
   | refine LeO.bind ?_ (fun _ => ?_)
theorem slices_EqualFunc_sameBox.calls (k : Nat) (A0 : Option Addr) (c0 : Nat) (l0 : List (S66)) (A1 : Option Addr) (c1 : Nat) (l1 : List (S66)) (r : Bool) (w : World) (hr0 : Kd.C k66 w A0 l0.length l0) (hc0 : l0.length ≤ c0) (hr1 : Kd.C k66 w A1 l1.length l1) (hc1 : l1.length ≤ c1) (h : slices_EqualFunc_sameBox.f k l0 l1 = some r) :
  Calls Try.prog 78 #[.slice A0 l0.length c0, .slice A1 l1.length c1, .func (.func 79) #[] #[]] w fun e w' => e = .returned (.bool r) ∧ Below w.heap.size w w' := by
 have hu66 := Try.underlying66
 have HR0 := Aside0.mk hr0
 have HC0 := Aside0.mk hc0
 clear hr0 hc0
 have HR1 := Aside0.mk hr1
 have HC1 := Aside0.mk hc1
 clear hr1 hc1
 have HB := ak (Below.refl w.heap.size w)
 have H : (if (l0.length : Int) = (l1.length : Int) then (slices_EqualFunc_sameBox.l0 k l1 l0 (l0.length : Int) 0) else (some false)) = some r := h
 clear h
 by_cases c3 : (l0.length : Int) = (l1.length : Int)
 ·rw [if_pos c3] at H
  have c3b0 : ((l0.length : Int) == (l1.length : Int)) = true := beq_iff_eq.mpr c3
  have c3b1 : ((l0.length : Int) != (l1.length : Int)) = false := bne_eq_false_iff_eq.mpr c3
  have c3b2 : (l0.length == l1.length) = true := by first | simpa using c3 | (simp at c3 ⊢; omega)
  clear c3
  have H' := Aside0.mk H
  clear H
  go_enter Try.func78, Try.ntmps78
  go_wp2
  go_loopg [17] k (fun kq v17 w' => ∃ (x17_1 : Int), v17 = .int .i64 x17_1 ∧ Aside0 (slices_EqualFunc_sameBox.l0 kq l1 l0 (l0.length : Int) x17_1 = some r) ∧ Aside0 (kq ≤ k) ∧ Aside0 (Below w.heap.size w w'))
  case atStart => exact ⟨_, rr, H', ⟨Nat.le_refl _⟩, ⟨by exact lG HB⟩⟩
  case round =>
   clear H'
   try clear c1
   try clear p2
   try clear c3
   try clear c3b0
   try clear c3b1
   try clear c3b2
   obtain ⟨x17_1, rfl, HA, HK1, HB⟩ := hrel
   cases gk with
   | zero => exact absurd HA.out (by simp [slices_EqualFunc_sameBox.l0])
   | succ k1 =>
    have H := HA.out
    clear HA
    simp only [slices_EqualFunc_sameBox.l0] at H
    by_cases c4 : x17_1 < (l0.length : Int)
    ·rw [if_pos c4] at H
     have c4b0 : decide (x17_1 < (l0.length : Int)) = true := decide_eq_true c4
     clear c4
     by_cases c5 : 0 ≤ x17_1
     ·rw [if_pos c5] at H
      have c5b0 : decide (0 ≤ x17_1) = true := decide_eq_true c5
      clear c5
      by_cases c6 : x17_1 < (l0.length : Int)
      ·rw [if_pos c6] at H
       have c6b0 : decide (x17_1 < (l0.length : Int)) = true := decide_eq_true c6
       clear c6
       by_cases c7 : x17_1 < (l1.length : Int)
       ·rw [if_pos c7] at H
        have c7b0 : decide (x17_1 < (l1.length : Int)) = true := decide_eq_true c7
        clear c7
        obtain ⟨t367, A8, H⟩ := eb H
        try dsimp only at H
        by_cases c9 : t367 = true
        ·subst c9
         rw [if_pos rfl] at H
         have H' := Aside0.mk H
         clear H
         have p363 : 0 ≤ (x17_1 : Int) := oda
         have q363 : x17_1 < (l0.length : Int) := oda
         obtain ⟨ad363, A363_4, c363_4, e363, hx363_0, hx363_1, hx363_2, hx363_3, hx363_4, hl363_4, hi363_4⟩ := at_T66 HR0.out x17_1 p363 q363
         cases e363
         replace hx363_0 := (HB.out.cell (World.block_lt_of_cell? w _ hx363_0)).trans hx363_0
         replace hx363_1 := (HB.out.cell (World.block_lt_of_cell? w _ hx363_1)).trans hx363_1
         replace hx363_2 := (HB.out.cell (World.block_lt_of_cell? w _ hx363_2)).trans hx363_2
         replace hx363_3 := (HB.out.cell (World.block_lt_of_cell? w _ hx363_3)).trans hx363_3
         replace hx363_4 := (HB.out.cell (World.block_lt_of_cell? w _ hx363_4)).trans hx363_4
         have HR363_4 := Aside0.mk hi363_4
         have HC363_4 := Aside0.mk hl363_4
         clear hi363_4 hl363_4
         replace p363 := eq_true p363
         replace q363 := eq_true q363
         go_wp2_with (first | ((with_reducible refine gate_dst (N := 8) rfl ?_); refine bx 8 #[.int .i64 0, .string (⟨#[]⟩ : ByteArray), .string (⟨#[]⟩ : ByteArray), .int .i64 0, .slice none 0 0] 66 ?_; intro gb364 hg w10 hbox hb; replace BK364 := ak (hbox); replace GW364 := ak (bz hg (lG HB)); replace GE364 := ak (bz hg (lG HB)); replace HB := lB HB hb; clear hb hbox hg; obtain ⟨_, _, _, _, _, _, _, _, _, _⟩ := bC5 BK364; have p365 : 0 ≤ (x17_1 : Int) := oda; have q365 : x17_1 < (l1.length : Int) := oda; obtain ⟨ad365, A365_4, c365_4, e365, hx365_0, hx365_1, hx365_2, hx365_3, hx365_4, hl365_4, hi365_4⟩ := at_T66 HR1.out x17_1 p365 q365; cases e365; have hn365_0 : ad365.block ≠ gb364 := Nat.ne_of_lt (Nat.lt_of_lt_of_le (by have := World.block_lt_of_cell? _ _ hx365_0; first | rwa [add_block] at this | exact this) GW364.out); have hn365_1 : ad365.block ≠ gb364 := Nat.ne_of_lt (Nat.lt_of_lt_of_le (by have := World.block_lt_of_cell? _ _ hx365_0; first | rwa [add_block] at this | exact this) GW364.out); have hn365_2 : ad365.block ≠ gb364 := Nat.ne_of_lt (Nat.lt_of_lt_of_le (by have := World.block_lt_of_cell? _ _ hx365_0; first | rwa [add_block] at this | exact this) GW364.out); have hn365_3 : ad365.block ≠ gb364 := Nat.ne_of_lt (Nat.lt_of_lt_of_le (by have := World.block_lt_of_cell? _ _ hx365_0; first | rwa [add_block] at this | exact this) GW364.out); have hn365_4 : ad365.block ≠ gb364 := Nat.ne_of_lt (Nat.lt_of_lt_of_le (by have := World.block_lt_of_cell? _ _ hx365_0; first | rwa [add_block] at this | exact this) GW364.out); replace hx365_0 := (HB.out.cell (World.block_lt_of_cell? w _ hx365_0)).trans hx365_0; replace hx365_1 := (HB.out.cell (World.block_lt_of_cell? w _ hx365_1)).trans hx365_1; replace hx365_2 := (HB.out.cell (World.block_lt_of_cell? w _ hx365_2)).trans hx365_2; replace hx365_3 := (HB.out.cell (World.block_lt_of_cell? w _ hx365_3)).trans hx365_3; replace hx365_4 := (HB.out.cell (World.block_lt_of_cell? w _ hx365_4)).trans hx365_4; have HR365_4 := Aside0.mk hi365_4; have HC365_4 := Aside0.mk hl365_4; clear hi365_4 hl365_4; replace hx365_0 := (cell_far (p := ⟨gb364, 0, none⟩) (by first | (rw [add_block]; exact hn365_0) | (show (Addr.add _ _).block ≠ _; rw [add_block]; exact hn365_0) | exact hn365_0) (.int .i64 ((rd_T66 l0 x17_1).f0))).trans hx365_0; replace hx365_1 := (cell_far (p := ⟨gb364, 0, none⟩) (by first | (rw [add_block]; exact hn365_0) | (show (Addr.add _ _).block ≠ _; rw [add_block]; exact hn365_0) | exact hn365_0) (.int .i64 ((rd_T66 l0 x17_1).f0))).trans hx365_1; replace hx365_2 := (cell_far (p := ⟨gb364, 0, none⟩) (by first | (rw [add_block]; exact hn365_0) | (show (Addr.add _ _).block ≠ _; rw [add_block]; exact hn365_0) | exact hn365_0) (.int .i64 ((rd_T66 l0 x17_1).f0))).trans hx365_2; replace hx365_3 := (cell_far (p := ⟨gb364, 0, none⟩) (by first | (rw [add_block]; exact hn365_0) | (show (Addr.add _ _).block ≠ _; rw [add_block]; exact hn365_0) | exact hn365_0) (.int .i64 ((rd_T66 l0 x17_1).f0))).trans hx365_3; replace hx365_4 := (cell_far (p := ⟨gb364, 0, none⟩) (by first | (rw [add_block]; exact hn365_0) | (show (Addr.add _ _).block ≠ _; rw [add_block]; exact hn365_0) | exact hn365_0) (.int .i64 ((rd_T66 l0 x17_1).f0))).trans hx365_4; replace hx365_0 := (cell_far (p := ⟨gb364, 1, none⟩) (by first | (rw [add_block]; exact hn365_1) | (show (Addr.add _ _).block ≠ _; rw [add_block]; exact hn365_1) | exact hn365_1) (.string ((rd_T66 l0 x17_1).f1))).trans hx365_0; replace hx365_1 := (cell_far (p := ⟨gb364, 1, none⟩) (by first | (rw [add_block]; exact hn365_1) | (show (Addr.add _ _).block ≠ _; rw [add_block]; exact hn365_1) | exact hn365_1) (.string ((rd_T66 l0 x17_1).f1))).trans hx365_1; replace hx365_2 := (cell_far (p := ⟨gb364, 1, none⟩) (by first | (rw [add_block]; exact hn365_1) | (show (Addr.add _ _).block ≠ _; rw [add_block]; exact hn365_1) | exact hn365_1) (.string ((rd_T66 l0 x17_1).f1))).trans hx365_2; replace hx365_3 := (cell_far (p := ⟨gb364, 1, none⟩) (by first | (rw [add_block]; exact hn365_1) | (show (Addr.add _ _).block ≠ _; rw [add_block]; exact hn365_1) | exact hn365_1) (.string ((rd_T66 l0 x17_1).f1))).trans hx365_3; replace hx365_4 := (cell_far (p := ⟨gb364, 1, none⟩) (by first | (rw [add_block]; exact hn365_1) | (show (Addr.add _ _).block ≠ _; rw [add_block]; exact hn365_1) | exact hn365_1) (.string ((rd_T66 l0 x17_1).f1))).trans hx365_4; replace hx365_0 := (cell_far (p := ⟨gb364, 2, none⟩) (by first | (rw [add_block]; exact hn365_2) | (show (Addr.add _ _).block ≠ _; rw [add_block]; exact hn365_2) | exact hn365_2) (.string ((rd_T66 l0 x17_1).f2))).trans hx365_0; replace hx365_1 := (cell_far (p := ⟨gb364, 2, none⟩) (by first | (rw [add_block]; exact hn365_2) | (show (Addr.add _ _).block ≠ _; rw [add_block]; exact hn365_2) | exact hn365_2) (.string ((rd_T66 l0 x17_1).f2))).trans hx365_1; replace hx365_2 := (cell_far (p := ⟨gb364, 2, none⟩) (by first | (rw [add_block]; exact hn365_2) | (show (Addr.add _ _).block ≠ _; rw [add_block]; exact hn365_2) | exact hn365_2) (.string ((rd_T66 l0 x17_1).f2))).trans hx365_2; replace hx365_3 := (cell_far (p := ⟨gb364, 2, none⟩) (by first | (rw [add_block]; exact hn365_2) | (show (Addr.add _ _).block ≠ _; rw [add_block]; exact hn365_2) | exact hn365_2) (.string ((rd_T66 l0 x17_1).f2))).trans hx365_3; replace hx365_4 := (cell_far (p := ⟨gb364, 2, none⟩) (by first | (rw [add_block]; exact hn365_2) | (show (Addr.add _ _).block ≠ _; rw [add_block]; exact hn365_2) | exact hn365_2) (.string ((rd_T66 l0 x17_1).f2))).trans hx365_4; replace hx365_0 := (cell_far (p := ⟨gb364, 3, none⟩) (by first | (rw [add_block]; exact hn365_3) | (show (Addr.add _ _).block ≠ _; rw [add_block]; exact hn365_3) | exact hn365_3) (.int .i64 ((rd_T66 l0 x17_1).f3))).trans hx365_0; replace hx365_1 := (cell_far (p := ⟨gb364, 3, none⟩) (by first | (rw [add_block]; exact hn365_3) | (show (Addr.add _ _).block ≠ _; rw [add_block]; exact hn365_3) | exact hn365_3) (.int .i64 ((rd_T66 l0 x17_1).f3))).trans hx365_1; replace hx365_2 := (cell_far (p := ⟨gb364, 3, none⟩) (by first | (rw [add_block]; exact hn365_3) | (show (Addr.add _ _).block ≠ _; rw [add_block]; exact hn365_3) | exact hn365_3) (.int .i64 ((rd_T66 l0 x17_1).f3))).trans hx365_2; replace hx365_3 := (cell_far (p := ⟨gb364, 3, none⟩) (by first | (rw [add_block]; exact hn365_3) | (show (Addr.add _ _).block ≠ _; rw [add_block]; exact hn365_3) | exact hn365_3) (.int .i64 ((rd_T66 l0 x17_1).f3))).trans hx365_3; replace hx365_4 := (cell_far (p := ⟨gb364, 3, none⟩) (by first | (rw [add_block]; exact hn365_3) | (show (Addr.add _ _).block ≠ _; rw [add_block]; exact hn365_3) | exact hn365_3) (.int .i64 ((rd_T66 l0 x17_1).f3))).trans hx365_4; replace hx365_0 := (cell_far (p := ⟨gb364, 4, none⟩) (by first | (rw [add_block]; exact hn365_4) | (show (Addr.add _ _).block ≠ _; rw [add_block]; exact hn365_4) | exact hn365_4) (.slice A363_4 ((rd_T66 l0 x17_1).f4).length c363_4)).trans hx365_0; replace hx365_1 := (cell_far (p := ⟨gb364, 4, none⟩) (by first | (rw [add_block]; exact hn365_4) | (show (Addr.add _ _).block ≠ _; rw [add_block]; exact hn365_4) | exact hn365_4) (.slice A363_4 ((rd_T66 l0 x17_1).f4).length c363_4)).trans hx365_1; replace hx365_2 := (cell_far (p := ⟨gb364, 4, none⟩) (by first | (rw [add_block]; exact hn365_4) | (show (Addr.add _ _).block ≠ _; rw [add_block]; exact hn365_4) | exact hn365_4) (.slice A363_4 ((rd_T66 l0 x17_1).f4).length c363_4)).trans hx365_2; replace hx365_3 := (cell_far (p := ⟨gb364, 4, none⟩) (by first | (rw [add_block]; exact hn365_4) | (show (Addr.add _ _).block ≠ _; rw [add_block]; exact hn365_4) | exact hn365_4) (.slice A363_4 ((rd_T66 l0 x17_1).f4).length c363_4)).trans hx365_3; replace hx365_4 := (cell_far (p := ⟨gb364, 4, none⟩) (by first | (rw [add_block]; exact hn365_4) | (show (Addr.add _ _).block ≠ _; rw [add_block]; exact hn365_4) | exact hn365_4) (.slice A363_4 ((rd_T66 l0 x17_1).f4).length c363_4)).trans hx365_4; clear hn365_0; clear hn365_1; clear hn365_2; clear hn365_3; clear hn365_4; replace p365 := eq_true p365; replace q365 := eq_true q365) | ((with_reducible refine gate_dst (N := 9) rfl ?_); refine bx 9 #[.int .i64 0, .string (⟨#[]⟩ : ByteArray), .string (⟨#[]⟩ : ByteArray), .int .i64 0, .slice none 0 0] 66 ?_; intro gb366 hg w12 hbox hb; replace BK366 := ak (hbox); replace GW366 := ak (bz hg (lT HB (gC GE364 gN))); replace GE366 := ak (bz hg (lT HB (gC GE364 gN))); replace HB := ak (below_step (lT HB (gC GE364 gN)) hb); replace NB364_366 := ak ((by rw [hg]; exact Nat.ne_of_lt (blk_lt (g := gb364) (o := .cells #[.int .i64 ((rd_T66 l0 x17_1).f0), .string ((rd_T66 l0 x17_1).f1), .string ((rd_T66 l0 x17_1).f2), .int .i64 ((rd_T66 l0 x17_1).f3), .slice A363_4 ((rd_T66 l0 x17_1).f4).length c363_4] 66 (0, 0)) (bW BK364)) : gb364 ≠ gb366)); replace NB366_364 := ak ((by rw [hg]; exact Nat.ne_of_gt (blk_lt (g := gb364) (o := .cells #[.int .i64 ((rd_T66 l0 x17_1).f0), .string ((rd_T66 l0 x17_1).f1), .string ((rd_T66 l0 x17_1).f2), .int .i64 ((rd_T66 l0 x17_1).f3), .slice A363_4 ((rd_T66 l0 x17_1).f4).length c363_4] 66 (0, 0)) (bW BK364)) : gb366 ≠ gb364)); replace BK364 := ak (blk_below (g := gb364) (o := .cells #[.int .i64 ((rd_T66 l0 x17_1).f0), .string ((rd_T66 l0 x17_1).f1), .string ((rd_T66 l0 x17_1).f2), .int .i64 ((rd_T66 l0 x17_1).f3), .slice A363_4 ((rd_T66 l0 x17_1).f4).length c363_4] 66 (0, 0)) (bW BK364) hb); clear hb hbox hg; have hnb13 := NB366_364.out; have hnc13 := NB364_366.out; obtain ⟨_, _, _, _, _, _, _, _, _, _⟩ := bC5 BK366; obtain ⟨_, _, _, _, _, _, _, _, _, _⟩ := bC5 BK364) | (go_at_call 79; (with_reducible refine (impl_sameBox.calls k1 ((rd_T66 l0 x17_1).f0) ((rd_T66 l0 x17_1).f1) ((rd_T66 l0 x17_1).f2) ((rd_T66 l0 x17_1).f3) _ _ ((rd_T66 l0 x17_1).f4) ((rd_T66 l1 x17_1).f0) ((rd_T66 l1 x17_1).f1) ((rd_T66 l1 x17_1).f2) ((rd_T66 l1 x17_1).f3) _ _ ((rd_T66 l1 x17_1).f4) true _ ?side1 ?side2 ?side3 ?side4 A8.out).mono ?_); (case side1 => exact Kd.C_below HR363_4.out (lT HB (gC GE364 (gC GE366 gN)))); (case side2 => exact HC363_4.out); (case side3 => exact Kd.C_below HR365_4.out (lT HB (gC GE364 (gC GE366 gN)))); (case side4 => exact HC365_4.out); rintro e w16 ⟨rfl, hb⟩; replace BK364 := ak (blk_below (bT BK364 (nC NB364_366 nN)) hb); replace BK366 := ak (blk_below (g := gb366) (o := .cells #[.int .i64 ((rd_T66 l1 x17_1).f0), .string ((rd_T66 l1 x17_1).f1), .string ((rd_T66 l1 x17_1).f2), .int .i64 ((rd_T66 l1 x17_1).f3), .slice A365_4 ((rd_T66 l1 x17_1).f4).length c365_4] 66 (0, 0)) (bW BK366) hb); replace HB := ak (below_step (lT HB (gC GE364 (gC GE366 gN))) hb); (try clear hb); (try clear hk)))
         go_roundg k1
         case measure => have := HK1.out; omega
         case rel => exact ⟨_, rr, H', ⟨by have := HK1.out; omega⟩, ⟨by exact lT HB (gC GE364 (gC GE366 gN))⟩⟩
        ·replace c9 := Bool.eq_false_iff.mpr c9
         subst c9
         rw [if_neg (show ¬ (false = true) by decide)] at H
         obtain rfl := Option.some.inj H
         have p363 : 0 ≤ (x17_1 : Int) := oda
         have q363 : x17_1 < (l0.length : Int) := oda
         obtain ⟨ad363, A363_4, c363_4, e363, hx363_0, hx363_1, hx363_2, hx363_3, hx363_4, hl363_4, hi363_4⟩ := at_T66 HR0.out x17_1 p363 q363
         cases e363
         replace hx363_0 := (HB.out.cell (World.block_lt_of_cell? w _ hx363_0)).trans hx363_0
         replace hx363_1 := (HB.out.cell (World.block_lt_of_cell? w _ hx363_1)).trans hx363_1
         replace hx363_2 := (HB.out.cell (World.block_lt_of_cell? w _ hx363_2)).trans hx363_2
         replace hx363_3 := (HB.out.cell (World.block_lt_of_cell? w _ hx363_3)).trans hx363_3
         replace hx363_4 := (HB.out.cell (World.block_lt_of_cell? w _ hx363_4)).trans hx363_4
         have HR363_4 := Aside0.mk hi363_4
         have HC363_4 := Aside0.mk hl363_4
         clear hi363_4 hl363_4
         replace p363 := eq_true p363
         replace q363 := eq_true q363
         go_wp2_with (first | ((with_reducible refine gate_dst (N := 8) rfl ?_); refine bx 8 #[.int .i64 0, .string (⟨#[]⟩ : ByteArray), .string (⟨#[]⟩ : ByteArray), .int .i64 0, .slice none 0 0] 66 ?_; intro gb364 hg w17 hbox hb; replace BK364 := ak (hbox); replace GW364 := ak (bz hg (lG HB)); replace GE364 := ak (bz hg (lG HB)); replace HB := lB HB hb; clear hb hbox hg; obtain ⟨_, _, _, _, _, _, _, _, _, _⟩ := bC5 BK364; have p365 : 0 ≤ (x17_1 : Int) := oda; have q365 : x17_1 < (l1.length : Int) := oda; obtain ⟨ad365, A365_4, c365_4, e365, hx365_0, hx365_1, hx365_2, hx365_3, hx365_4, hl365_4, hi365_4⟩ := at_T66 HR1.out x17_1 p365 q365; cases e365; have hn365_0 : ad365.block ≠ gb364 := Nat.ne_of_lt (Nat.lt_of_lt_of_le (by have := World.block_lt_of_cell? _ _ hx365_0; first | rwa [add_block] at this | exact this) GW364.out); have hn365_1 : ad365.block ≠ gb364 := Nat.ne_of_lt (Nat.lt_of_lt_of_le (by have := World.block_lt_of_cell? _ _ hx365_0; first | rwa [add_block] at this | exact this) GW364.out); have hn365_2 : ad365.block ≠ gb364 := Nat.ne_of_lt (Nat.lt_of_lt_of_le (by have := World.block_lt_of_cell? _ _ hx365_0; first | rwa [add_block] at this | exact this) GW364.out); have hn365_3 : ad365.block ≠ gb364 := Nat.ne_of_lt (Nat.lt_of_lt_of_le (by have := World.block_lt_of_cell? _ _ hx365_0; first | rwa [add_block] at this | exact this) GW364.out); have hn365_4 : ad365.block ≠ gb364 := Nat.ne_of_lt (Nat.lt_of_lt_of_le (by have := World.block_lt_of_cell? _ _ hx365_0; first | rwa [add_block] at this | exact this) GW364.out); replace hx365_0 := (HB.out.cell (World.block_lt_of_cell? w _ hx365_0)).trans hx365_0; replace hx365_1 := (HB.out.cell (World.block_lt_of_cell? w _ hx365_1)).trans hx365_1; replace hx365_2 := (HB.out.cell (World.block_lt_of_cell? w _ hx365_2)).trans hx365_2; replace hx365_3 := (HB.out.cell (World.block_lt_of_cell? w _ hx365_3)).trans hx365_3; replace hx365_4 := (HB.out.cell (World.block_lt_of_cell? w _ hx365_4)).trans hx365_4; have HR365_4 := Aside0.mk hi365_4; have HC365_4 := Aside0.mk hl365_4; clear hi365_4 hl365_4; replace hx365_0 := (cell_far (p := ⟨gb364, 0, none⟩) (by first | (rw [add_block]; exact hn365_0) | (show (Addr.add _ _).block ≠ _; rw [add_block]; exact hn365_0) | exact hn365_0) (.int .i64 ((rd_T66 l0 x17_1).f0))).trans hx365_0; replace hx365_1 := (cell_far (p := ⟨gb364, 0, none⟩) (by first | (rw [add_block]; exact hn365_0) | (show (Addr.add _ _).block ≠ _; rw [add_block]; exact hn365_0) | exact hn365_0) (.int .i64 ((rd_T66 l0 x17_1).f0))).trans hx365_1; replace hx365_2 := (cell_far (p := ⟨gb364, 0, none⟩) (by first | (rw [add_block]; exact hn365_0) | (show (Addr.add _ _).block ≠ _; rw [add_block]; exact hn365_0) | exact hn365_0) (.int .i64 ((rd_T66 l0 x17_1).f0))).trans hx365_2; replace hx365_3 := (cell_far (p := ⟨gb364, 0, none⟩) (by first | (rw [add_block]; exact hn365_0) | (show (Addr.add _ _).block ≠ _; rw [add_block]; exact hn365_0) | exact hn365_0) (.int .i64 ((rd_T66 l0 x17_1).f0))).trans hx365_3; replace hx365_4 := (cell_far (p := ⟨gb364, 0, none⟩) (by first | (rw [add_block]; exact hn365_0) | (show (Addr.add _ _).block ≠ _; rw [add_block]; exact hn365_0) | exact hn365_0) (.int .i64 ((rd_T66 l0 x17_1).f0))).trans hx365_4; replace hx365_0 := (cell_far (p := ⟨gb364, 1, none⟩) (by first | (rw [add_block]; exact hn365_1) | (show (Addr.add _ _).block ≠ _; rw [add_block]; exact hn365_1) | exact hn365_1) (.string ((rd_T66 l0 x17_1).f1))).trans hx365_0; replace hx365_1 := (cell_far (p := ⟨gb364, 1, none⟩) (by first | (rw [add_block]; exact hn365_1) | (show (Addr.add _ _).block ≠ _; rw [add_block]; exact hn365_1) | exact hn365_1) (.string ((rd_T66 l0 x17_1).f1))).trans hx365_1; replace hx365_2 := (cell_far (p := ⟨gb364, 1, none⟩) (by first | (rw [add_block]; exact hn365_1) | (show (Addr.add _ _).block ≠ _; rw [add_block]; exact hn365_1) | exact hn365_1) (.string ((rd_T66 l0 x17_1).f1))).trans hx365_2; replace hx365_3 := (cell_far (p := ⟨gb364, 1, none⟩) (by first | (rw [add_block]; exact hn365_1) | (show (Addr.add _ _).block ≠ _; rw [add_block]; exact hn365_1) | exact hn365_1) (.string ((rd_T66 l0 x17_1).f1))).trans hx365_3; replace hx365_4 := (cell_far (p := ⟨gb364, 1, none⟩) (by first | (rw [add_block]; exact hn365_1) | (show (Addr.add _ _).block ≠ _; rw [add_block]; exact hn365_1) | exact hn365_1) (.string ((rd_T66 l0 x17_1).f1))).trans hx365_4; replace hx365_0 := (cell_far (p := ⟨gb364, 2, none⟩) (by first | (rw [add_block]; exact hn365_2) | (show (Addr.add _ _).block ≠ _; rw [add_block]; exact hn365_2) | exact hn365_2) (.string ((rd_T66 l0 x17_1).f2))).trans hx365_0; replace hx365_1 := (cell_far (p := ⟨gb364, 2, none⟩) (by first | (rw [add_block]; exact hn365_2) | (show (Addr.add _ _).block ≠ _; rw [add_block]; exact hn365_2) | exact hn365_2) (.string ((rd_T66 l0 x17_1).f2))).trans hx365_1; replace hx365_2 := (cell_far (p := ⟨gb364, 2, none⟩) (by first | (rw [add_block]; exact hn365_2) | (show (Addr.add _ _).block ≠ _; rw [add_block]; exact hn365_2) | exact hn365_2) (.string ((rd_T66 l0 x17_1).f2))).trans hx365_2; replace hx365_3 := (cell_far (p := ⟨gb364, 2, none⟩) (by first | (rw [add_block]; exact hn365_2) | (show (Addr.add _ _).block ≠ _; rw [add_block]; exact hn365_2) | exact hn365_2) (.string ((rd_T66 l0 x17_1).f2))).trans hx365_3; replace hx365_4 := (cell_far (p := ⟨gb364, 2, none⟩) (by first | (rw [add_block]; exact hn365_2) | (show (Addr.add _ _).block ≠ _; rw [add_block]; exact hn365_2) | exact hn365_2) (.string ((rd_T66 l0 x17_1).f2))).trans hx365_4; replace hx365_0 := (cell_far (p := ⟨gb364, 3, none⟩) (by first | (rw [add_block]; exact hn365_3) | (show (Addr.add _ _).block ≠ _; rw [add_block]; exact hn365_3) | exact hn365_3) (.int .i64 ((rd_T66 l0 x17_1).f3))).trans hx365_0; replace hx365_1 := (cell_far (p := ⟨gb364, 3, none⟩) (by first | (rw [add_block]; exact hn365_3) | (show (Addr.add _ _).block ≠ _; rw [add_block]; exact hn365_3) | exact hn365_3) (.int .i64 ((rd_T66 l0 x17_1).f3))).trans hx365_1; replace hx365_2 := (cell_far (p := ⟨gb364, 3, none⟩) (by first | (rw [add_block]; exact hn365_3) | (show (Addr.add _ _).block ≠ _; rw [add_block]; exact hn365_3) | exact hn365_3) (.int .i64 ((rd_T66 l0 x17_1).f3))).trans hx365_2; replace hx365_3 := (cell_far (p := ⟨gb364, 3, none⟩) (by first | (rw [add_block]; exact hn365_3) | (show (Addr.add _ _).block ≠ _; rw [add_block]; exact hn365_3) | exact hn365_3) (.int .i64 ((rd_T66 l0 x17_1).f3))).trans hx365_3; replace hx365_4 := (cell_far (p := ⟨gb364, 3, none⟩) (by first | (rw [add_block]; exact hn365_3) | (show (Addr.add _ _).block ≠ _; rw [add_block]; exact hn365_3) | exact hn365_3) (.int .i64 ((rd_T66 l0 x17_1).f3))).trans hx365_4; replace hx365_0 := (cell_far (p := ⟨gb364, 4, none⟩) (by first | (rw [add_block]; exact hn365_4) | (show (Addr.add _ _).block ≠ _; rw [add_block]; exact hn365_4) | exact hn365_4) (.slice A363_4 ((rd_T66 l0 x17_1).f4).length c363_4)).trans hx365_0; replace hx365_1 := (cell_far (p := ⟨gb364, 4, none⟩) (by first | (rw [add_block]; exact hn365_4) | (show (Addr.add _ _).block ≠ _; rw [add_block]; exact hn365_4) | exact hn365_4) (.slice A363_4 ((rd_T66 l0 x17_1).f4).length c363_4)).trans hx365_1; replace hx365_2 := (cell_far (p := ⟨gb364, 4, none⟩) (by first | (rw [add_block]; exact hn365_4) | (show (Addr.add _ _).block ≠ _; rw [add_block]; exact hn365_4) | exact hn365_4) (.slice A363_4 ((rd_T66 l0 x17_1).f4).length c363_4)).trans hx365_2; replace hx365_3 := (cell_far (p := ⟨gb364, 4, none⟩) (by first | (rw [add_block]; exact hn365_4) | (show (Addr.add _ _).block ≠ _; rw [add_block]; exact hn365_4) | exact hn365_4) (.slice A363_4 ((rd_T66 l0 x17_1).f4).length c363_4)).trans hx365_3; replace hx365_4 := (cell_far (p := ⟨gb364, 4, none⟩) (by first | (rw [add_block]; exact hn365_4) | (show (Addr.add _ _).block ≠ _; rw [add_block]; exact hn365_4) | exact hn365_4) (.slice A363_4 ((rd_T66 l0 x17_1).f4).length c363_4)).trans hx365_4; clear hn365_0; clear hn365_1; clear hn365_2; clear hn365_3; clear hn365_4; replace p365 := eq_true p365; replace q365 := eq_true q365) | ((with_reducible refine gate_dst (N := 9) rfl ?_); refine bx 9 #[.int .i64 0, .string (⟨#[]⟩ : ByteArray), .string (⟨#[]⟩ : ByteArray), .int .i64 0, .slice none 0 0] 66 ?_; intro gb366 hg w19 hbox hb; replace BK366 := ak (hbox); replace GW366 := ak (bz hg (lT HB (gC GE364 gN))); replace GE366 := ak (bz hg (lT HB (gC GE364 gN))); replace HB := ak (below_step (lT HB (gC GE364 gN)) hb); replace NB364_366 := ak ((by rw [hg]; exact Nat.ne_of_lt (blk_lt (g := gb364) (o := .cells #[.int .i64 ((rd_T66 l0 x17_1).f0), .string ((rd_T66 l0 x17_1).f1), .string ((rd_T66 l0 x17_1).f2), .int .i64 ((rd_T66 l0 x17_1).f3), .slice A363_4 ((rd_T66 l0 x17_1).f4).length c363_4] 66 (0, 0)) (bW BK364)) : gb364 ≠ gb366)); replace NB366_364 := ak ((by rw [hg]; exact Nat.ne_of_gt (blk_lt (g := gb364) (o := .cells #[.int .i64 ((rd_T66 l0 x17_1).f0), .string ((rd_T66 l0 x17_1).f1), .string ((rd_T66 l0 x17_1).f2), .int .i64 ((rd_T66 l0 x17_1).f3), .slice A363_4 ((rd_T66 l0 x17_1).f4).length c363_4] 66 (0, 0)) (bW BK364)) : gb366 ≠ gb364)); replace BK364 := ak (blk_below (g := gb364) (o := .cells #[.int .i64 ((rd_T66 l0 x17_1).f0), .string ((rd_T66 l0 x17_1).f1), .string ((rd_T66 l0 x17_1).f2), .int .i64 ((rd_T66 l0 x17_1).f3), .slice A363_4 ((rd_T66 l0 x17_1).f4).length c363_4] 66 (0, 0)) (bW BK364) hb); clear hb hbox hg; have hnb20 := NB366_364.out; have hnc20 := NB364_366.out; obtain ⟨_, _, _, _, _, _, _, _, _, _⟩ := bC5 BK366; obtain ⟨_, _, _, _, _, _, _, _, _, _⟩ := bC5 BK364) | (go_at_call 79; (with_reducible refine (impl_sameBox.calls k1 ((rd_T66 l0 x17_1).f0) ((rd_T66 l0 x17_1).f1) ((rd_T66 l0 x17_1).f2) ((rd_T66 l0 x17_1).f3) _ _ ((rd_T66 l0 x17_1).f4) ((rd_T66 l1 x17_1).f0) ((rd_T66 l1 x17_1).f1) ((rd_T66 l1 x17_1).f2) ((rd_T66 l1 x17_1).f3) _ _ ((rd_T66 l1 x17_1).f4) false _ ?side1 ?side2 ?side3 ?side4 A8.out).mono ?_); (case side1 => exact Kd.C_below HR363_4.out (lT HB (gC GE364 (gC GE366 gN)))); (case side2 => exact HC363_4.out); (case side3 => exact Kd.C_below HR365_4.out (lT HB (gC GE364 (gC GE366 gN)))); (case side4 => exact HC365_4.out); rintro e w23 ⟨rfl, hb⟩; replace BK364 := ak (blk_below (bT BK364 (nC NB364_366 nN)) hb); replace BK366 := ak (blk_below (g := gb366) (o := .cells #[.int .i64 ((rd_T66 l1 x17_1).f0), .string ((rd_T66 l1 x17_1).f1), .string ((rd_T66 l1 x17_1).f2), .int .i64 ((rd_T66 l1 x17_1).f3), .slice A365_4 ((rd_T66 l1 x17_1).f4).length c365_4] 66 (0, 0)) (bW BK366) hb); replace HB := ak (below_step (lT HB (gC GE364 (gC GE366 gN))) hb); (try clear hb); (try clear hk)))
         go_ret
         exact ⟨ew, by exact lT HB (gC GE364 (gC GE366 gN))⟩
       ·rw [if_neg c7] at H
        exact absurd H (by simp)
      ·rw [if_neg c6] at H
       exact absurd H (by simp)
     ·rw [if_neg c5] at H
      exact absurd H (by simp)
    ·rw [if_neg c4] at H
     have c4b0 : decide (x17_1 < (l0.length : Int)) = false := decide_eq_false c4
     clear c4
     obtain rfl := Option.some.inj H
     go_wp2
     go_ret
     exact ⟨ew, by exact lG HB⟩
 ·rw [if_neg c3] at H
  have c3b0 : ((l0.length : Int) == (l1.length : Int)) = false := beq_eq_false_iff_ne.mpr c3
  have c3b1 : ((l0.length : Int) != (l1.length : Int)) = true := bne_iff_ne.mpr c3
  have c3b2 : (l0.length == l1.length) = false := by first | simpa using c3 | (simp at c3 ⊢; omega)
  obtain rfl := Option.some.inj H
  go_enter Try.func78, Try.ntmps78
  go_wp2
  go_ret
  exact ⟨ew, by exact lG HB⟩
/-! ### impl_SameState: function 37 -/
def impl_SameState.f (k : Nat) (l0_0 : List (S66)) (l1_0 : List (S66)) : Option (Bool) := (slices_EqualFunc_sameBox.f k l0_0 l1_0).bind fun t370 => (some t370)
theorem impl_SameState.mono : ∀ a0 a1 k, LeO (impl_SameState.f k a0 a1) (impl_SameState.f (k + 1) a0 a1) := by
 intro a0 a1 k
 unfold impl_SameState.f
 repeat' first
   | (with_reducible exact slices_EqualFunc_sameBox.mono _ _ _)
   | (with_reducible exact LeO.refl _)
   | (with_reducible exact LeO.none _)
   | (with_reducible refine LeO.ite ?_ ?_)
   | (with_reducible refine LeO.bind ?_ (fun _ => ?_))
   | exact slices_EqualFunc_sameBox.mono _ _ _
   | exact LeO.none _
   | refine LeO.ite ?_ ?_
   | refine LeO.bind ?_ (fun _ => ?_)
theorem impl_SameState.calls (k : Nat) (A0_0 : Option Addr) (c0_0 : Nat) (l0_0 : List (S66)) (A1_0 : Option Addr) (c1_0 : Nat) (l1_0 : List (S66)) (r : Bool) (w : World) (hr0_0 : Kd.C k66 w A0_0 l0_0.length l0_0) (hc0_0 : l0_0.length ≤ c0_0) (hr1_0 : Kd.C k66 w A1_0 l1_0.length l1_0) (hc1_0 : l1_0.length ≤ c1_0) (h : impl_SameState.f k l0_0 l1_0 = some r) :
  Calls Try.prog 37 #[.agg #[.slice A0_0 l0_0.length c0_0], .agg #[.slice A1_0 l1_0.length c1_0]] w fun e w' => e = .returned (.bool r) ∧ Below w.heap.size w w' := by
 have hu60 := Try.underlying60
 have HR0_0 := Aside0.mk hr0_0
 have HC0_0 := Aside0.mk hc0_0
 clear hr0_0 hc0_0
 have HR1_0 := Aside0.mk hr1_0
 have HC1_0 := Aside0.mk hc1_0
 clear hr1_0 hc1_0
 have HB := ak (Below.refl w.heap.size w)
 have H : ((slices_EqualFunc_sameBox.f k l0_0 l1_0).bind fun t370 => (some t370)) = some r := h
 clear h
 obtain ⟨t370, A3, H⟩ := eb H
 try dsimp only at H
 obtain rfl := Option.some.inj H
 go_enter Try.func37, Try.ntmps37
 go_wp2_with (first | ((with_reducible refine gate_dst (N := 2) rfl ?_); refine bx 2 #[.slice A0_0 l0_0.length c0_0] 60 ?_; intro gb368 hg w4 hbox hb; replace BK368 := ak (hbox); replace GE368 := ak (bz hg (lG HB)); replace HB := lB HB hb; clear hb hbox hg) | ((with_reducible refine gate_dst (N := 3) rfl ?_); refine bx 3 #[.slice A1_0 l1_0.length c1_0] 60 ?_; intro gb369 hg w5 hbox hb; replace BK369 := ak (hbox); replace GW369 := ak (bz hg (lT HB (gC GE368 gN))); replace GE369 := ak (bz hg (lT HB (gC GE368 gN))); replace HB := ak (below_step (lT HB (gC GE368 gN)) hb); replace NB368_369 := ak (nl hg (bG BK368)); replace NB369_368 := ak (ng hg (bG BK368)); replace BK368 := bB BK368 hb; clear hb hbox hg; have hnb6 := NB368_369.out; have hnc6 := NB369_368.out; obtain ⟨_, _⟩ := bC1 BK368; obtain ⟨_, _⟩ := bC1 BK369) | ((with_reducible refine gate_callee (f := 78) rfl ?_); refine gl (some 9) Try.func78 #[.slice A0_0 l0_0.length c0_0, .slice A1_0 l1_0.length c1_0, .func (.func 79) #[] #[]] ?_; (with_reducible refine (slices_EqualFunc_sameBox.calls k _ _ l0_0 _ _ l1_0 t370 _ ?side1 ?side2 ?side3 ?side4 A3.out).mono ?_); (case side1 => exact cG (Kd.C_below HR0_0.out HB.out)); (case side2 => exact HC0_0.out); (case side3 => exact cG (Kd.C_below HR1_0.out HB.out)); (case side4 => exact HC1_0.out); rintro e w9 ⟨rfl, hb⟩; refine ⟨_, rfl, ?_⟩; replace BK368 := bB BK368 hb; replace BK369 := bB BK369 hb; replace HB := ak (below_step (lT HB (gC GE368 (gC GE369 gN))) hb); (try clear hb); (try clear hk)))
 go_ret
 exact ⟨ew, by exact lT HB (gC GE368 (gC GE369 gN))⟩
/-! ### spec_l01In: function 61 -/
def spec_l01In.f (a0 : Int) (a1 : Int) (a2 : Int) : Option (Bool) := if a0 ≥ a1 then (some (decide (a0 ≤ a2))) else (some false)
theorem spec_l01In.calls (a0 : Int) (a1 : Int) (a2 : Int) (r : Bool) (w : World) (h : spec_l01In.f a0 a1 a2 = some r) :
  Calls Try.prog 61 #[.int .i64 a0, .int .i64 a1, .int .i64 a2] w fun e w' => e = .returned (.bool r) ∧ Drawn0 w w' := by
 have H : (if a0 ≥ a1 then (some (decide (a0 ≤ a2))) else (some false)) = some r := h
 clear h
 by_cases c4 : a0 ≥ a1
 ·rw [if_pos c4] at H
  have c4b0 : decide (a1 ≤ a0) = true := decide_eq_true c4
  clear c4
  obtain rfl := Option.some.inj H
  go_enter Try.func61, Try.ntmps61
  go_wp2
  go_ret
  exact ⟨by first | rfl | (simp; done) | (simp [*]; done), by repeat (first | exact Drawn0.refl _ | apply Drawn0.step)⟩
 ·rw [if_neg c4] at H
  have c4b0 : decide (a1 ≤ a0) = false := decide_eq_false c4
  clear c4
  obtain rfl := Option.some.inj H
  go_enter Try.func61, Try.ntmps61
  go_wp2
  go_ret
  exact ⟨by first | rfl | (simp; done) | (simp [*]; done), by repeat (first | exact Drawn0.refl _ | apply Drawn0.step)⟩
/-! ### spec_WordOk: function 32 -/
def spec_WordOk.l0 : Nat → ByteArray → Int → Option (Bool)
 | 0, _, _ => none
 | k + 1, x0, x3 => if x3 < (x0.size : Int) then (if 0 ≤ x3 then (if (bt x0 x3) < 97 then (some false) else (if (bt x0 x3) > 122 then (some false) else (spec_WordOk.l0 k x0 (wrap64 (x3 + 1))))) else (none)) else ((spec_l01In.f (x0.size : Int) 1 8).bind fun t371 => (some t371))
def spec_WordOk.f (k : Nat) (a0 : ByteArray) : Option (Bool) := spec_WordOk.l0 k a0 0
theorem spec_WordOk.mono_l : ∀ k, (∀ y0 y1, LeO (spec_WordOk.l0 k y0 y1) (spec_WordOk.l0 (k + 1) y0 y1))
 | 0 => fun _ _ r h => by simp [spec_WordOk.l0] at h
 | k + 1 => by
  have ih0 := spec_WordOk.mono_l k
  ·intro y0 y1
   unfold spec_WordOk.l0
   repeat' first
   | (with_reducible exact ih0 _ _)
   | (with_reducible exact LeO.refl _)
   | (with_reducible exact LeO.none _)
   | (with_reducible refine LeO.ite ?_ ?_)
   | (with_reducible refine LeO.bind ?_ (fun _ => ?_))
   | exact ih0 _ _
   | exact LeO.none _
   | refine LeO.ite ?_ ?_
   | refine LeO.bind ?_ (fun _ => ?_)
theorem spec_WordOk.mono : ∀ a0 k, LeO (spec_WordOk.f k a0) (spec_WordOk.f (k + 1) a0) := by
 intro a0 k
 have ih0 := spec_WordOk.mono_l k
 unfold spec_WordOk.f
 repeat' first
   | (with_reducible exact ih0 _ _)
   | (with_reducible exact LeO.refl _)
   | (with_reducible exact LeO.none _)
   | (with_reducible refine LeO.ite ?_ ?_)
   | (with_reducible refine LeO.bind ?_ (fun _ => ?_))
   | exact ih0 _ _
   | exact LeO.none _
   | refine LeO.ite ?_ ?_
   | refine LeO.bind ?_ (fun _ => ?_)
theorem spec_WordOk.calls (k : Nat) (a0 : ByteArray) (r : Bool) (w : World) (h : spec_WordOk.f k a0 = some r) :
  Calls Try.prog 32 #[.string a0] w fun e w' => e = .returned (.bool r) ∧ Drawn0 w w' := by
 have H : (spec_WordOk.l0 k a0 0) = some r := h
 clear h
 have H' := Aside0.mk H
 clear H
 go_enter Try.func32, Try.ntmps32
 go_wp2
 go_loopg [3] k (fun kq v3 w' => ∃ (x3_1 : Int), v3 = .int .i64 x3_1 ∧ Aside0 (spec_WordOk.l0 kq a0 x3_1 = some r) ∧ Aside0 (kq ≤ k) ∧ Drawn0 w w')
 case atStart => exact ⟨_, rr, H', ⟨Nat.le_refl _⟩, by repeat (first | exact Drawn0.refl _ | apply Drawn0.step)⟩
 case round =>
  clear H'
  obtain ⟨x3_1, rfl, HA, HK1, ⟨m1, rfl⟩⟩ := hrel
  cases gk with
  | zero => exact absurd HA.out (by simp [spec_WordOk.l0])
  | succ k1 =>
   have H := HA.out
   clear HA
   simp only [spec_WordOk.l0] at H
   by_cases c2 : x3_1 < (a0.size : Int)
   ·rw [if_pos c2] at H
    have c2b0 : decide (x3_1 < (a0.size : Int)) = true := decide_eq_true c2
    clear c2
    by_cases c3 : 0 ≤ x3_1
    ·rw [if_pos c3] at H
     have c3b0 : decide (0 ≤ x3_1) = true := decide_eq_true c3
     clear c3
     by_cases c5 : (bt a0 x3_1) < 97
     ·rw [if_pos c5] at H
      have c5b0 : decide ((bt a0 x3_1) < 97) = true := decide_eq_true c5
      clear c5
      obtain rfl := Option.some.inj H
      have p4 : 0 ≤ (x3_1 : Int) := oda
      have q4 : x3_1 < (a0.size : Int) := oda
      have hx4 := bt_at a0 x3_1
      replace p4 := eq_true p4
      replace q4 := eq_true q4
      go_wp2
      go_ret
      exact ⟨by first | rfl | (simp; done) | (simp [*]; done), by repeat (first | exact Drawn0.refl _ | apply Drawn0.step)⟩
     ·rw [if_neg c5] at H
      have c5b0 : decide ((bt a0 x3_1) < 97) = false := decide_eq_false c5
      clear c5
      by_cases c7 : (bt a0 x3_1) > 122
      ·rw [if_pos c7] at H
       have c7b0 : decide (122 < (bt a0 x3_1)) = true := decide_eq_true c7
       clear c7
       obtain rfl := Option.some.inj H
       have p4 : 0 ≤ (x3_1 : Int) := oda
       have q4 : x3_1 < (a0.size : Int) := oda
       have hx4 := bt_at a0 x3_1
       replace p4 := eq_true p4
       replace q4 := eq_true q4
       have p6 : 0 ≤ (x3_1 : Int) := oda
       have q6 : x3_1 < (a0.size : Int) := oda
       have hx6 := bt_at a0 x3_1
       replace p6 := eq_true p6
       replace q6 := eq_true q6
       go_wp2
       go_ret
       exact ⟨by first | rfl | (simp; done) | (simp [*]; done), by repeat (first | exact Drawn0.refl _ | apply Drawn0.step)⟩
      ·rw [if_neg c7] at H
       have c7b0 : decide (122 < (bt a0 x3_1)) = false := decide_eq_false c7
       clear c7
       have H' := Aside0.mk H
       clear H
       have p4 : 0 ≤ (x3_1 : Int) := oda
       have q4 : x3_1 < (a0.size : Int) := oda
       have hx4 := bt_at a0 x3_1
       replace p4 := eq_true p4
       replace q4 := eq_true q4
       have p6 : 0 ≤ (x3_1 : Int) := oda
       have q6 : x3_1 < (a0.size : Int) := oda
       have hx6 := bt_at a0 x3_1
       replace p6 := eq_true p6
       replace q6 := eq_true q6
       go_wp2
       go_roundg k1
       case measure => have := HK1.out; omega
       case rel => exact ⟨_, rr, H', ⟨by have := HK1.out; omega⟩, by repeat (first | exact Drawn0.refl _ | apply Drawn0.step)⟩
    ·rw [if_neg c3] at H
     exact absurd H (by simp)
   ·rw [if_neg c2] at H
    have c2b0 : decide (x3_1 < (a0.size : Int)) = false := decide_eq_false c2
    clear c2
    obtain ⟨t371, A8, H⟩ := eb H
    try dsimp only at H
    obtain rfl := Option.some.inj H
    go_wp2_with (first | ((with_reducible refine gate_callee (f := 61) rfl ?_); refine gl (some 22) Try.func61 #[.int .i64 (a0.size : Int), .int .i64 1, .int .i64 8] ?_; (with_reducible refine (spec_l01In.calls (a0.size : Int) 1 8 t371 _ A8.out).mono ?_); rintro e w' ⟨rfl, ⟨nd, rfl⟩⟩; refine ⟨_, rfl, ?_⟩))
    go_ret
    exact ⟨by first | rfl | (simp; done) | (simp [*]; done), by repeat (first | exact Drawn0.refl _ | apply Drawn0.step)⟩
end Go.Proofs.Ytagkjeldheiejaa.PFnAnyOrder
