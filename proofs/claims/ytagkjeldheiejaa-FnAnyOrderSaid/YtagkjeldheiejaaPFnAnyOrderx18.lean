-- Written by a program of mine (a turned copy of the kit's print): functions as plain Lean, their contracts.
import Derived.Test.YtagkjeldheiejaaPFnAnyOrderx15
import Derived.Test.YtagkjeldheiejaaPFnAnyOrderx16
import Derived.Test.YtagkjeldheiejaaPFnAnyOrderx17
import Derived.Test.YtagkjeldheiejaaVFnAnyOrder1
namespace Go.Proofs.Ytagkjeldheiejaa.PFnAnyOrder
open Go.RowKit Go.Proofs.YtagkjeldheiejaaW.PrintWords Go.Proofs.YtagkjeldheiejaaW.PrintLast Go.Proofs.YtagkjeldheiejaaW.PrintMore
attribute [local go_sem] max2_int min2_int max_two min_two max_three min_three max_four min_four   -- for this text's walks alone
set_option maxHeartbeats 8000000
set_option maxRecDepth 100000
set_option linter.unusedVariables false
set_option linter.unusedSimpArgs false
/-! ### spec_StateOf: function 38 -/
mutual
def spec_StateOf.l0 : Nat → List (S32) → List Int → Int → Option ((List (S66)))
 | 0, _, _, _ => none
 | k + 1, x0, x4, x5 => if x5 < (x0.length : Int) then (if 0 ≤ x5 then ((spec_l07Best.f k x0 2 ((rd_T32 x0 x5).f1.f1) 0).bind fun bt490 => (if ((rd_T32 x0 x5).f1.f0) = 1 then (if bt490.2.2.2.2.2.2.2.2.2 = true then (spec_StateOf.l0 k x0 x4 (wrap64 (x5 + 1))) else ((spec_l07Sorted.f k x4 ((rd_T32 x0 x5).f1.f1)).bind fun t501 => (spec_StateOf.l0 k x0 t501 (wrap64 (x5 + 1))))) else (spec_StateOf.l0 k x0 x4 (wrap64 (x5 + 1))))) else (none)) else (spec_StateOf.l1 k x0 x4 0 ([] : List (S66)))
def spec_StateOf.l1 : Nat → List (S32) → List Int → Int → List (S66) → Option ((List (S66)))
 | 0, _, _, _, _ => none
 | k + 1, x0, x4, x9, x484000 => if x9 < (x4.length : Int) then (if 0 ≤ x9 then ((spec_l07Tell.f k x0 (rd x4 x9)).bind fun bt505 => ((spec_l07Next.f k x0 (rd x4 x9)).bind fun t517 => ((spec_l07Mails.f k x0 (rd x4 x9)).bind fun t519 => (if x484000.length < 1954687338268 then (spec_StateOf.l1 k x0 x4 (wrap64 (x9 + 1)) (x484000 ++ [(⟨rd x4 x9, bt505.2.2.2.2.2.2.1, bt505.2.2.2.2.2.2.2.1, t517, t519⟩ : S66)])) else (none))))) else (none)) else (some x484000)
end
def spec_StateOf.f (k : Nat) (l0 : List (S32)) : Option ((List (S66))) := (spec_ItemsOk.f k l0).bind fun t484 => (if t484 = true then (spec_StateOf.l0 k l0 (([] : List Int)) 0) else (some ([] : List (S66))))
theorem spec_StateOf.mono_l : ∀ k, (∀ y0 y1 y2, LeO (spec_StateOf.l0 k y0 y1 y2) (spec_StateOf.l0 (k + 1) y0 y1 y2)) ∧ (∀ y0 y1 y2 y3, LeO (spec_StateOf.l1 k y0 y1 y2 y3) (spec_StateOf.l1 (k + 1) y0 y1 y2 y3))
 | 0 => ⟨fun _ _ _ r h => by simp [spec_StateOf.l0] at h, fun _ _ _ _ r h => by simp [spec_StateOf.l1] at h⟩
 | k + 1 => by
  obtain ⟨ih0, ih1⟩ := spec_StateOf.mono_l k
  refine ⟨?_, ?_⟩
  ·intro y0 y1 y2
   unfold spec_StateOf.l0
   repeat' first
   | (with_reducible exact ih0 _ _ _)
   | (with_reducible exact ih1 _ _ _ _)
   | (with_reducible exact spec_ItemsOk.mono _ _)
   | (with_reducible exact spec_l07Best.mono _ _ _ _ _)
   | (with_reducible exact spec_l07Mails.mono _ _ _)
   | (with_reducible exact spec_l07Next.mono _ _ _)
   | (with_reducible exact spec_l07Sorted.mono _ _ _)
   | (with_reducible exact spec_l07Tell.mono _ _ _)
   | (with_reducible exact LeO.refl _)
   | (with_reducible exact LeO.none _)
   | (with_reducible refine LeO.ite ?_ ?_)
   | (with_reducible refine LeO.bind ?_ (fun _ => ?_))
   | exact ih0 _ _ _
   | exact ih1 _ _ _ _
   | exact spec_ItemsOk.mono _ _
   | exact spec_l07Best.mono _ _ _ _ _
   | exact spec_l07Mails.mono _ _ _
   | exact spec_l07Next.mono _ _ _
   | exact spec_l07Sorted.mono _ _ _
   | exact spec_l07Tell.mono _ _ _
   | exact LeO.none _
   | refine LeO.ite ?_ ?_
   | refine LeO.bind ?_ (fun _ => ?_)
  ·intro y0 y1 y2 y3
   unfold spec_StateOf.l1
   repeat' first
   | (with_reducible exact ih0 _ _ _)
   | (with_reducible exact ih1 _ _ _ _)
   | (with_reducible exact spec_ItemsOk.mono _ _)
   | (with_reducible exact spec_l07Best.mono _ _ _ _ _)
   | (with_reducible exact spec_l07Mails.mono _ _ _)
   | (with_reducible exact spec_l07Next.mono _ _ _)
   | (with_reducible exact spec_l07Sorted.mono _ _ _)
   | (with_reducible exact spec_l07Tell.mono _ _ _)
   | (with_reducible exact LeO.refl _)
   | (with_reducible exact LeO.none _)
   | (with_reducible refine LeO.ite ?_ ?_)
   | (with_reducible refine LeO.bind ?_ (fun _ => ?_))
   | exact ih0 _ _ _
   | exact ih1 _ _ _ _
   | exact spec_ItemsOk.mono _ _
   | exact spec_l07Best.mono _ _ _ _ _
   | exact spec_l07Mails.mono _ _ _
   | exact spec_l07Next.mono _ _ _
   | exact spec_l07Sorted.mono _ _ _
   | exact spec_l07Tell.mono _ _ _
   | exact LeO.none _
   | refine LeO.ite ?_ ?_
   | refine LeO.bind ?_ (fun _ => ?_)
theorem spec_StateOf.mono : ∀ a0 k, LeO (spec_StateOf.f k a0) (spec_StateOf.f (k + 1) a0) := by
 intro a0 k
 obtain ⟨ih0, ih1⟩ := spec_StateOf.mono_l k
 unfold spec_StateOf.f
 repeat' first
   | (with_reducible exact ih0 _ _ _)
   | (with_reducible exact ih1 _ _ _ _)
   | (with_reducible exact spec_ItemsOk.mono _ _)
   | (with_reducible exact spec_l07Best.mono _ _ _ _ _)
   | (with_reducible exact spec_l07Mails.mono _ _ _)
   | (with_reducible exact spec_l07Next.mono _ _ _)
   | (with_reducible exact spec_l07Sorted.mono _ _ _)
   | (with_reducible exact spec_l07Tell.mono _ _ _)
   | (with_reducible exact LeO.refl _)
   | (with_reducible exact LeO.none _)
   | (with_reducible refine LeO.ite ?_ ?_)
   | (with_reducible refine LeO.bind ?_ (fun _ => ?_))
   | exact ih0 _ _ _
   | exact ih1 _ _ _ _
   | exact spec_ItemsOk.mono _ _
   | exact spec_l07Best.mono _ _ _ _ _
   | exact spec_l07Mails.mono _ _ _
   | exact spec_l07Next.mono _ _ _
   | exact spec_l07Sorted.mono _ _ _
   | exact spec_l07Tell.mono _ _ _
   | exact LeO.none _
   | refine LeO.ite ?_ ?_
   | refine LeO.bind ?_ (fun _ => ?_)
def spec_StateOf.T16 : Bool × List (List Nat × List Nat) := (true, [([], []), ([0], [0]), ([], []), ([], []), ([2, 3], [2, 3]), ([4], [4]), ([], []), ([6], [6]), ([7], [7]), ([], []), ([9], [9]), ([10], [10]), ([], []), ([], []), ([], []), ([13, 14], [13, 14]), ([15], [15]), ([12, 16], [12, 16]), ([], []), ([], []), ([], []), ([19, 20], [19, 20]), ([21], [21]), ([18, 22, 17], [18, 22]), ([5, 8, 11, 17, 23], [5, 8, 11, 17, 23]), ([24], [24]), ([1, 25, 23], [1, 25]), ([0, 1, 2, 3, 4, 5, 6, 7, 8, 9, 10, 11, 12, 13, 14, 15, 16, 17, 18, 19, 20, 21, 22, 23, 24, 25, 26], []), ([27, 26, 26, 0, 1, 2, 3, 4, 5, 6, 7, 8, 9, 10, 11, 12, 13, 14, 15, 16, 17, 18, 19, 20, 21, 22, 23, 24, 25, 26], [26, 27])])
def spec_StateOf.B16 : List Nat := [0, 1, 0, 0, 12, 28, 0, 64, 192, 0, 512, 1536, 0, 0, 0, 24576, 57344, 126976, 0, 0, 0, 1572864, 3670016, 8384512, 16777212, 33554428, 67108863, 134217727, 268435455]
theorem spec_StateOf.tab16 : rtab .any (opsOf Try.f38 16) = spec_StateOf.T16 := by kernel_rfl
theorem spec_StateOf.bits16 : waitsOk spec_StateOf.T16.2 spec_StateOf.B16 = true := by kernel_rfl
theorem spec_StateOf.calls (k : Nat) (A0 : Option Addr) (c0 : Nat) (l0 : List (S32)) (r : List (S66)) (w : World) (hr0 : Kd.C k32 w A0 l0.length l0) (hc0 : l0.length ≤ c0) (h : spec_StateOf.f k l0 = some r) :
  Calls Try.prog 38 #[.slice A0 l0.length c0] w fun e w' => ∃ v0_ : Value, e = .returned (.agg #[v0_]) ∧ Kd.S k66 66 w' w.heap.size (fun _ => True) v0_ r ∧ Below w.heap.size w w' := by
 have hu60 := Try.underlying60
 have hu23 := Try.underlying23
 have hu32 := Try.underlying32
 have hu66 := Try.underlying66
 have HR0 := Aside0.mk hr0
 have HC0 := Aside0.mk hc0
 clear hr0 hc0
 have HB := ak (Below.refl w.heap.size w)
 have H : ((spec_ItemsOk.f k l0).bind fun t484 => (if t484 = true then (spec_StateOf.l0 k l0 (([] : List Int)) 0) else (some ([] : List (S66))))) = some r := h
 clear h
 obtain ⟨t484, A2, H⟩ := eb H
 try dsimp only at H
 by_cases c3 : t484 = true
 ·subst c3
  rw [if_pos rfl] at H
  obtain ⟨y485, hy485⟩ : ∃ y_ : List Int, y_ = (([] : List Int)) := ⟨_, rfl⟩
  replace H : (spec_StateOf.l0 k l0 y485 0) = some r := by first | (rw [hy485]; with_reducible exact H) | (have H2_ := (Option.bind_some _ _).symm.trans H; rw [hy485]; with_reducible exact H2_) | (have H2_ := (Option.bind_some _ _).symm.trans H; with_reducible exact H2_) | with_reducible exact H | (rw [hy485]; exact H) | exact H
  have Ny485 := Aside0.mk hy485
  clear hy485
  have H' := Aside0.mk H
  clear H
  go_enter Try.func38, Try.ntmps38
  go_wp2_with (first | ((with_reducible refine gate_dst (N := 2) rfl ?_); refine bx 2 #[.slice none 0 0] 60 ?_; intro gb482 hg w4 hbox hb; replace BK482 := ak (hbox); replace GE482 := ak (bz hg (lG HB)); replace HB := lB HB hb; clear hb hbox hg) | ((with_reducible refine gate_dst (N := 3) rfl ?_); refine bx 3 #[.slice none 0 0] 60 ?_; intro gb483 hg w5 hbox hb; replace BK483 := ak (hbox); replace GW483 := ak (bz hg (lT HB (gC GE482 gN))); replace GE483 := ak (bz hg (lT HB (gC GE482 gN))); replace HB := ak (below_step (lT HB (gC GE482 gN)) hb); replace NB482_483 := ak (nl hg (bG BK482)); replace NB483_482 := ak (ng hg (bG BK482)); replace BK482 := bB BK482 hb; clear hb hbox hg; have hnb6 := NB483_482.out; have hnc6 := NB482_483.out; obtain ⟨hcz7_0, hfz7_0⟩ := bC1 BK483) | ((with_reducible refine gate_callee (f := 19) rfl ?_); refine gl (some 13) Try.func19 #[.slice A0 l0.length c0] ?_; (with_reducible refine (spec_ItemsOk.calls k _ _ l0 true _ ?side1 ?side2 A2.out).mono ?_); (case side1 => exact Kd.C_below HR0.out (lT HB (gC GE482 (gC GE483 gN)))); (case side2 => exact HC0.out); rintro e w8 ⟨rfl, hb⟩; refine ⟨_, rfl, ?_⟩; replace BK482 := ak (blk_below (bT BK482 (nC NB482_483 nN)) hb); replace BK483 := ak (blk_below (g := gb483) (o := .cells #[.slice none 0 0] 60 (0, 0)) (bW BK483) hb); replace HB := ak (below_step (lT HB (gC GE482 (gC GE483 gN))) hb); (try clear hb); (try clear hk)) | ((with_reducible refine gate_dst (N := 16) rfl ?_); refine Kd.R_lit (Kd.int .i64) _ 3 ?hg (N := 16) ?hd (xs := ([] : List Int)) (inner := []) (ok := fun _ => True) (okp := fun _ => True) ?hr ?hp (fun _ hk => hk) trivial (Below.refl _ _) (Nat.le_refl _) (by simp) ?_; (case hd => rfl); (case hg => rfl); (case hr => first | (go_simp; done) | (go_simp; rfl)); (case hp => exact (Reps.none _ _)); intro v486 w9 ho10 hb hg_ hnew_; clear hg_ hnew_; (first | rw [← Ny485.out] at ho10 | (simp only [Int.reduceToNat] at ho10; rw [← Ny485.out] at ho10)); replace HO487 := ak (Kd.R_lower ho10 (below_size (lT HB (gC GE482 (gC GE483 gN))))); replace BK482 := bB BK482 hb; replace BK483 := bB BK483 hb; replace HB := ak (below_step (lT HB (gC GE482 (gC GE483 gN))) hb); clear hb ho10))
  go_loopg [4, 5] k (fun kq v4 v5 w' => ∃ (x4_1 : List Int) (x5_1 : Int), v5 = .int .i64 x5_1 ∧ Aside0 (spec_StateOf.l0 kq l0 x4_1 x5_1 = some r) ∧ Aside0 (kq ≤ k) ∧ Aside0 (Kd.R (Kd.int .i64) 3 w' w.heap.size (fun _ => True) v4 x4_1) ∧ Aside0 (w'.heap[gb482]? = some (.cells #[(.slice none 0 0)] 60 (0, 0))) ∧ Aside0 (w'.heap[gb483]? = some (.cells #[(.slice none 0 0)] 60 (0, 0))) ∧ Aside0 (Below w.heap.size w w'))
  case atStart => exact ⟨_, _, rr, H', ⟨Nat.le_refl _⟩, ⟨by (with_reducible repeat (first | apply Kd.R_alloc | apply Kd.R_drewN | apply Kd.R_drew)); exact HO487.out⟩, ⟨bG BK482⟩, ⟨bG BK483⟩, ⟨by exact lT HB (gC GE482 (gC GE483 gN))⟩⟩
  case round =>
   clear H'
   try clear c1
   try clear p2
   try clear c3
   try clear c6
   try clear hcz7_0
   try clear hfz7_0
   obtain ⟨x4_1, x5_1, rfl, HA, HK1, HO_4, BK482, BK483, HB⟩ := hrel
   cases gk with
   | zero => exact absurd HA.out (by simp [spec_StateOf.l0])
   | succ k1 =>
    have H := HA.out
    clear HA
    simp only [spec_StateOf.l0] at H
    by_cases c11 : x5_1 < (l0.length : Int)
    ·rw [if_pos c11] at H
     have c11b0 : decide (x5_1 < (l0.length : Int)) = true := decide_eq_true c11
     clear c11
     by_cases c12 : 0 ≤ x5_1
     ·rw [if_pos c12] at H
      have c12b0 : decide (0 ≤ x5_1) = true := decide_eq_true c12
      clear c12
      obtain ⟨⟨t490, t491, t492, t493, t494, t495, t496, t497, t498, t499⟩, A13, H⟩ := eb H
      try dsimp only at H
      by_cases c14 : ((rd_T32 l0 x5_1).f1.f0) = 1
      ·rw [if_pos c14] at H
       have c14b0 : (((rd_T32 l0 x5_1).f1.f0) == 1) = true := beq_iff_eq.mpr c14
       have c14b1 : (((rd_T32 l0 x5_1).f1.f0) != 1) = false := bne_eq_false_iff_eq.mpr c14
       clear c14
       by_cases c15 : t499 = true
       ·subst c15
        rw [if_pos rfl] at H
        have H' := Aside0.mk H
        clear H
        have p488 : 0 ≤ (x5_1 : Int) := oda
        have q488 : x5_1 < (l0.length : Int) := oda
        obtain ⟨ad488, e488, hx488_0, hx488_1, hx488_2, hx488_3, hx488_4, hx488_5, hx488_6, hx488_7, hx488_8⟩ := at_T32 HR0.out x5_1 p488 q488
        cases e488
        replace hx488_0 := (HB.out.cell (World.block_lt_of_cell? w _ hx488_0)).trans hx488_0
        replace hx488_1 := (HB.out.cell (World.block_lt_of_cell? w _ hx488_1)).trans hx488_1
        replace hx488_2 := (HB.out.cell (World.block_lt_of_cell? w _ hx488_2)).trans hx488_2
        replace hx488_3 := (HB.out.cell (World.block_lt_of_cell? w _ hx488_3)).trans hx488_3
        replace hx488_4 := (HB.out.cell (World.block_lt_of_cell? w _ hx488_4)).trans hx488_4
        replace hx488_5 := (HB.out.cell (World.block_lt_of_cell? w _ hx488_5)).trans hx488_5
        replace hx488_6 := (HB.out.cell (World.block_lt_of_cell? w _ hx488_6)).trans hx488_6
        replace hx488_7 := (HB.out.cell (World.block_lt_of_cell? w _ hx488_7)).trans hx488_7
        replace hx488_8 := (HB.out.cell (World.block_lt_of_cell? w _ hx488_8)).trans hx488_8
        replace p488 := eq_true p488
        replace q488 := eq_true q488
        go_wp2_with (first | ((with_reducible refine gate_dst (N := 6) rfl ?_); refine bx 6 #[.int .i64 0, .int .i64 0, .int .i64 0, .int .i64 0, .int .i64 0, .string (⟨#[]⟩ : ByteArray), .string (⟨#[]⟩ : ByteArray), .string (⟨#[]⟩ : ByteArray)] 23 ?_; intro gb489 hg w16 hbox hb; replace HO_4 := rB HO_4 hb; replace BK489 := ak (hbox); replace GW489 := ak (bz hg (lT HB (gC GE482 (gC GE483 gN)))); replace GE489 := ak (bz hg (lT HB (gC GE482 (gC GE483 gN)))); replace HB := ak (below_step (lT HB (gC GE482 (gC GE483 gN))) hb); replace NB482_489 := ak (nl hg (bG BK482)); replace NB489_482 := ak (ng hg (bG BK482)); replace BK482 := bB BK482 hb; replace NB483_489 := ak (nl hg (bG BK483)); replace NB489_483 := ak (ng hg (bG BK483)); replace BK483 := bB BK483 hb; clear hb hbox hg; have hnb17 := NB489_482.out; have hnc17 := NB482_489.out; have hnb18 := NB489_483.out; have hnc18 := NB483_489.out; obtain ⟨hcz19_0, hcz19_1, hcz19_2, hcz19_3, hcz19_4, hcz19_5, hcz19_6, hcz19_7, hfz19_0, hfz19_1, hfz19_2, hfz19_3, hfz19_4, hfz19_5, hfz19_6, hfz19_7⟩ := bC8 BK489) | ((with_reducible refine gate_callee (f := 80) rfl ?_); refine gl (some 32) Try.func80 #[.slice (some ad488) l0.length c0, .int .i64 2, .int .i64 ((rd_T32 l0 x5_1).f1.f1), .int .i64 0] ?_; (with_reducible refine (spec_l07Best.calls k1 _ _ l0 2 ((rd_T32 l0 x5_1).f1.f1) 0 t490 t491 t492 t493 t494 t495 t496 t497 t498 true _ ?side1 ?side2 A13.out).mono ?_); (case side1 => exact Kd.C_below HR0.out (lT HB (gC GE482 (gC GE483 (gC GE489 gN))))); (case side2 => exact HC0.out); rintro e w20 ⟨rfl, hb⟩; refine ⟨_, rfl, ?_⟩; replace HO_4 := ak (Kd.R_below (rT HO_4 BK489 (by decide)) hb); replace BK482 := ak (blk_below (bT BK482 (nC NB482_489 nN)) hb); replace BK483 := ak (blk_below (bT BK483 (nC NB483_489 nN)) hb); replace BK489 := ak (blk_below (g := gb489) (o := .cells #[.int .i64 ((rd_T32 l0 x5_1).f1.f0), .int .i64 ((rd_T32 l0 x5_1).f1.f1), .int .i64 ((rd_T32 l0 x5_1).f1.f2), .int .i64 ((rd_T32 l0 x5_1).f1.f3), .int .i64 ((rd_T32 l0 x5_1).f1.f4), .string ((rd_T32 l0 x5_1).f1.f5), .string ((rd_T32 l0 x5_1).f1.f6), .string ((rd_T32 l0 x5_1).f1.f7)] 23 (0, 0)) (bW BK489) hb); replace HB := ak (below_step (lT HB (gC GE482 (gC GE483 (gC GE489 gN)))) hb); (try clear hb); (try clear hk)) | ((with_reducible refine gate_dst (N := 7) rfl ?_); refine bx 7 #[.int .i64 0, .int .i64 0, .int .i64 0, .int .i64 0, .int .i64 0, .int .i64 0, .string (⟨#[]⟩ : ByteArray), .string (⟨#[]⟩ : ByteArray), .string (⟨#[]⟩ : ByteArray)] 32 ?_; intro gb500 hg w21 hbox hb; replace HO_4 := rB HO_4 hb; replace BK500 := ak (hbox); replace GW500 := ak (bz hg (lT HB (gC GE482 (gC GE483 (gC GE489 gN))))); replace GE500 := ak (bz hg (lT HB (gC GE482 (gC GE483 (gC GE489 gN))))); replace HB := ak (below_step (lT HB (gC GE482 (gC GE483 (gC GE489 gN)))) hb); replace NB482_500 := ak (nl hg (bG BK482)); replace NB500_482 := ak (ng hg (bG BK482)); replace BK482 := bB BK482 hb; replace NB483_500 := ak (nl hg (bG BK483)); replace NB500_483 := ak (ng hg (bG BK483)); replace BK483 := bB BK483 hb; replace NB489_500 := ak (nl hg (bG BK489)); replace NB500_489 := ak (ng hg (bG BK489)); replace BK489 := bB BK489 hb; clear hb hbox hg; have hnb22 := NB500_482.out; have hnc22 := NB482_500.out; have hnb23 := NB500_483.out; have hnc23 := NB483_500.out; have hnb24 := NB500_489.out; have hnc24 := NB489_500.out; obtain ⟨hcz25_0, hcz25_1, hcz25_2, hcz25_3, hcz25_4, hcz25_5, hcz25_6, hcz25_7, hcz25_8, hfz25_0, hfz25_1, hfz25_2, hfz25_3, hfz25_4, hfz25_5, hfz25_6, hfz25_7, hfz25_8⟩ := bC9 BK500; obtain ⟨hcz26_0, hcz26_1, hcz26_2, hcz26_3, hcz26_4, hcz26_5, hcz26_6, hcz26_7, hfz26_0, hfz26_1, hfz26_2, hfz26_3, hfz26_4, hfz26_5, hfz26_6, hfz26_7⟩ := bC8 BK489))
        go_roundg k1
        case measure => have := HK1.out; omega
        case rel => exact ⟨_, _, rr, H', ⟨by have := HK1.out; omega⟩, ⟨by exact Kd.R_mono (rT HO_4 BK500 (by decide)) (fun _ hk => trivial)⟩, ⟨bF BK482 (nC NB482_500 nN)⟩, ⟨bF BK483 (nC NB483_500 nN)⟩, ⟨by exact lT HB (gC GE482 (gC GE483 (gC GE489 (gC GE500 gN))))⟩⟩
       ·replace c15 := Bool.eq_false_iff.mpr c15
        subst c15
        rw [if_neg (show ¬ (false = true) by decide)] at H
        obtain ⟨t501, A27, H⟩ := eb H
        try dsimp only at H
        have H' := Aside0.mk H
        clear H
        have p488 : 0 ≤ (x5_1 : Int) := oda
        have q488 : x5_1 < (l0.length : Int) := oda
        obtain ⟨ad488, e488, hx488_0, hx488_1, hx488_2, hx488_3, hx488_4, hx488_5, hx488_6, hx488_7, hx488_8⟩ := at_T32 HR0.out x5_1 p488 q488
        cases e488
        replace hx488_0 := (HB.out.cell (World.block_lt_of_cell? w _ hx488_0)).trans hx488_0
        replace hx488_1 := (HB.out.cell (World.block_lt_of_cell? w _ hx488_1)).trans hx488_1
        replace hx488_2 := (HB.out.cell (World.block_lt_of_cell? w _ hx488_2)).trans hx488_2
        replace hx488_3 := (HB.out.cell (World.block_lt_of_cell? w _ hx488_3)).trans hx488_3
        replace hx488_4 := (HB.out.cell (World.block_lt_of_cell? w _ hx488_4)).trans hx488_4
        replace hx488_5 := (HB.out.cell (World.block_lt_of_cell? w _ hx488_5)).trans hx488_5
        replace hx488_6 := (HB.out.cell (World.block_lt_of_cell? w _ hx488_6)).trans hx488_6
        replace hx488_7 := (HB.out.cell (World.block_lt_of_cell? w _ hx488_7)).trans hx488_7
        replace hx488_8 := (HB.out.cell (World.block_lt_of_cell? w _ hx488_8)).trans hx488_8
        replace p488 := eq_true p488
        replace q488 := eq_true q488
        go_wp2_with (first | ((with_reducible refine gate_dst (N := 6) rfl ?_); refine bx 6 #[.int .i64 0, .int .i64 0, .int .i64 0, .int .i64 0, .int .i64 0, .string (⟨#[]⟩ : ByteArray), .string (⟨#[]⟩ : ByteArray), .string (⟨#[]⟩ : ByteArray)] 23 ?_; intro gb489 hg w28 hbox hb; replace HO_4 := rB HO_4 hb; replace BK489 := ak (hbox); replace GW489 := ak (bz hg (lT HB (gC GE482 (gC GE483 gN)))); replace GE489 := ak (bz hg (lT HB (gC GE482 (gC GE483 gN)))); replace HB := ak (below_step (lT HB (gC GE482 (gC GE483 gN))) hb); replace NB482_489 := ak (nl hg (bG BK482)); replace NB489_482 := ak (ng hg (bG BK482)); replace BK482 := bB BK482 hb; replace NB483_489 := ak (nl hg (bG BK483)); replace NB489_483 := ak (ng hg (bG BK483)); replace BK483 := bB BK483 hb; clear hb hbox hg; have hnb29 := NB489_482.out; have hnc29 := NB482_489.out; have hnb30 := NB489_483.out; have hnc30 := NB483_489.out; obtain ⟨hcz31_0, hcz31_1, hcz31_2, hcz31_3, hcz31_4, hcz31_5, hcz31_6, hcz31_7, hfz31_0, hfz31_1, hfz31_2, hfz31_3, hfz31_4, hfz31_5, hfz31_6, hfz31_7⟩ := bC8 BK489) | ((with_reducible refine gate_callee (f := 80) rfl ?_); refine gl (some 32) Try.func80 #[.slice (some ad488) l0.length c0, .int .i64 2, .int .i64 ((rd_T32 l0 x5_1).f1.f1), .int .i64 0] ?_; (with_reducible refine (spec_l07Best.calls k1 _ _ l0 2 ((rd_T32 l0 x5_1).f1.f1) 0 t490 t491 t492 t493 t494 t495 t496 t497 t498 false _ ?side1 ?side2 A13.out).mono ?_); (case side1 => exact Kd.C_below HR0.out (lT HB (gC GE482 (gC GE483 (gC GE489 gN))))); (case side2 => exact HC0.out); rintro e w32 ⟨rfl, hb⟩; refine ⟨_, rfl, ?_⟩; replace HO_4 := ak (Kd.R_below (rT HO_4 BK489 (by decide)) hb); replace BK482 := ak (blk_below (bT BK482 (nC NB482_489 nN)) hb); replace BK483 := ak (blk_below (bT BK483 (nC NB483_489 nN)) hb); replace BK489 := ak (blk_below (g := gb489) (o := .cells #[.int .i64 ((rd_T32 l0 x5_1).f1.f0), .int .i64 ((rd_T32 l0 x5_1).f1.f1), .int .i64 ((rd_T32 l0 x5_1).f1.f2), .int .i64 ((rd_T32 l0 x5_1).f1.f3), .int .i64 ((rd_T32 l0 x5_1).f1.f4), .string ((rd_T32 l0 x5_1).f1.f5), .string ((rd_T32 l0 x5_1).f1.f6), .string ((rd_T32 l0 x5_1).f1.f7)] 23 (0, 0)) (bW BK489) hb); replace HB := ak (below_step (lT HB (gC GE482 (gC GE483 (gC GE489 gN)))) hb); (try clear hb); (try clear hk)) | ((with_reducible refine gate_dst (N := 7) rfl ?_); refine bx 7 #[.int .i64 0, .int .i64 0, .int .i64 0, .int .i64 0, .int .i64 0, .int .i64 0, .string (⟨#[]⟩ : ByteArray), .string (⟨#[]⟩ : ByteArray), .string (⟨#[]⟩ : ByteArray)] 32 ?_; intro gb500 hg w33 hbox hb; replace HO_4 := rB HO_4 hb; replace BK500 := ak (hbox); replace GW500 := ak (bz hg (lT HB (gC GE482 (gC GE483 (gC GE489 gN))))); replace GE500 := ak (bz hg (lT HB (gC GE482 (gC GE483 (gC GE489 gN))))); replace HB := ak (below_step (lT HB (gC GE482 (gC GE483 (gC GE489 gN)))) hb); replace NB482_500 := ak (nl hg (bG BK482)); replace NB500_482 := ak (ng hg (bG BK482)); replace BK482 := bB BK482 hb; replace NB483_500 := ak (nl hg (bG BK483)); replace NB500_483 := ak (ng hg (bG BK483)); replace BK483 := bB BK483 hb; replace NB489_500 := ak (nl hg (bG BK489)); replace NB500_489 := ak (ng hg (bG BK489)); replace BK489 := bB BK489 hb; clear hb hbox hg; have hnb34 := NB500_482.out; have hnc34 := NB482_500.out; have hnb35 := NB500_483.out; have hnc35 := NB483_500.out; have hnb36 := NB500_489.out; have hnc36 := NB489_500.out; obtain ⟨hcz37_0, hcz37_1, hcz37_2, hcz37_3, hcz37_4, hcz37_5, hcz37_6, hcz37_7, hcz37_8, hfz37_0, hfz37_1, hfz37_2, hfz37_3, hfz37_4, hfz37_5, hfz37_6, hfz37_7, hfz37_8⟩ := bC9 BK500; obtain ⟨hcz38_0, hcz38_1, hcz38_2, hcz38_3, hcz38_4, hcz38_5, hcz38_6, hcz38_7, hfz38_0, hfz38_1, hfz38_2, hfz38_3, hfz38_4, hfz38_5, hfz38_6, hfz38_7⟩ := bC8 BK489; obtain ⟨Ao39, co39, eo39⟩ := Kd.R_slice HO_4.out; subst eo39) | ((with_reducible refine gate_callee (f := 81) rfl ?_); refine gl (some 45) Try.func81 #[.slice Ao39 x4_1.length co39, .int .i64 ((rd_T32 l0 x5_1).f1.f1)] ?_; (with_reducible refine (spec_l07Sorted.calls k1 _ _ x4_1 ((rd_T32 l0 x5_1).f1.f1) t501 _ ?side1 ?side2 A27.out).mono ?_); (case side1 => exact (Kd.R_reads' (rT HO_4 BK500 (by decide))).2.2); (case side2 => exact (Kd.R_reads' HO_4.out).2.1); rintro e w40 ⟨v502, rfl, ho0, hb⟩; refine ⟨_, rfl, ?_⟩; replace HO503 := ak (Kd.R_lower (Kd.R_new' ho0 (Kd.R_lt (rT HO_4 BK500 (by decide)))) (below_size (lT HB (gC GE482 (gC GE483 (gC GE489 (gC GE500 gN))))))); replace HO_4 := ak (Kd.R_elder' (rT HO_4 BK500 (by decide)) (Kd.R_base ho0) hb); replace BK482 := ak (blk_below (bT BK482 (nC NB482_500 nN)) hb); replace BK483 := ak (blk_below (bT BK483 (nC NB483_500 nN)) hb); replace BK489 := ak (blk_below (bT BK489 (nC NB489_500 nN)) hb); replace BK500 := ak (blk_below (g := gb500) (o := .cells #[.int .i64 t490, .int .i64 t491, .int .i64 t492, .int .i64 t493, .int .i64 t494, .int .i64 t495, .string t496, .string t497, .string t498] 32 (0, 0)) (bW BK500) hb); replace HB := ak (below_step (lT HB (gC GE482 (gC GE483 (gC GE489 (gC GE500 gN))))) hb); (try clear hb); (try clear hk); (try clear ho0)))
        go_roundg k1
        case measure => have := HK1.out; omega
        case rel => exact ⟨_, _, rr, H', ⟨by have := HK1.out; omega⟩, ⟨by (with_reducible repeat (first | apply Kd.R_alloc | apply Kd.R_drewN | apply Kd.R_drew)); exact Kd.R_mono HO503.out (fun _ hk => trivial)⟩, ⟨bG BK482⟩, ⟨bG BK483⟩, ⟨by exact lT HB (gC GE482 (gC GE483 (gC GE489 (gC GE500 gN))))⟩⟩
      ·rw [if_neg c14] at H
       have c14b0 : (((rd_T32 l0 x5_1).f1.f0) == 1) = false := beq_eq_false_iff_ne.mpr c14
       have c14b1 : (((rd_T32 l0 x5_1).f1.f0) != 1) = true := bne_iff_ne.mpr c14
       have H' := Aside0.mk H
       clear H
       have p488 : 0 ≤ (x5_1 : Int) := oda
       have q488 : x5_1 < (l0.length : Int) := oda
       obtain ⟨ad488, e488, hx488_0, hx488_1, hx488_2, hx488_3, hx488_4, hx488_5, hx488_6, hx488_7, hx488_8⟩ := at_T32 HR0.out x5_1 p488 q488
       cases e488
       replace hx488_0 := (HB.out.cell (World.block_lt_of_cell? w _ hx488_0)).trans hx488_0
       replace hx488_1 := (HB.out.cell (World.block_lt_of_cell? w _ hx488_1)).trans hx488_1
       replace hx488_2 := (HB.out.cell (World.block_lt_of_cell? w _ hx488_2)).trans hx488_2
       replace hx488_3 := (HB.out.cell (World.block_lt_of_cell? w _ hx488_3)).trans hx488_3
       replace hx488_4 := (HB.out.cell (World.block_lt_of_cell? w _ hx488_4)).trans hx488_4
       replace hx488_5 := (HB.out.cell (World.block_lt_of_cell? w _ hx488_5)).trans hx488_5
       replace hx488_6 := (HB.out.cell (World.block_lt_of_cell? w _ hx488_6)).trans hx488_6
       replace hx488_7 := (HB.out.cell (World.block_lt_of_cell? w _ hx488_7)).trans hx488_7
       replace hx488_8 := (HB.out.cell (World.block_lt_of_cell? w _ hx488_8)).trans hx488_8
       replace p488 := eq_true p488
       replace q488 := eq_true q488
       go_wp2_with (first | ((with_reducible refine gate_dst (N := 6) rfl ?_); refine bx 6 #[.int .i64 0, .int .i64 0, .int .i64 0, .int .i64 0, .int .i64 0, .string (⟨#[]⟩ : ByteArray), .string (⟨#[]⟩ : ByteArray), .string (⟨#[]⟩ : ByteArray)] 23 ?_; intro gb489 hg w41 hbox hb; replace HO_4 := rB HO_4 hb; replace BK489 := ak (hbox); replace GW489 := ak (bz hg (lT HB (gC GE482 (gC GE483 gN)))); replace GE489 := ak (bz hg (lT HB (gC GE482 (gC GE483 gN)))); replace HB := ak (below_step (lT HB (gC GE482 (gC GE483 gN))) hb); replace NB482_489 := ak (nl hg (bG BK482)); replace NB489_482 := ak (ng hg (bG BK482)); replace BK482 := bB BK482 hb; replace NB483_489 := ak (nl hg (bG BK483)); replace NB489_483 := ak (ng hg (bG BK483)); replace BK483 := bB BK483 hb; clear hb hbox hg; have hnb42 := NB489_482.out; have hnc42 := NB482_489.out; have hnb43 := NB489_483.out; have hnc43 := NB483_489.out; obtain ⟨hcz44_0, hcz44_1, hcz44_2, hcz44_3, hcz44_4, hcz44_5, hcz44_6, hcz44_7, hfz44_0, hfz44_1, hfz44_2, hfz44_3, hfz44_4, hfz44_5, hfz44_6, hfz44_7⟩ := bC8 BK489) | ((with_reducible refine gate_callee (f := 80) rfl ?_); refine gl (some 32) Try.func80 #[.slice (some ad488) l0.length c0, .int .i64 2, .int .i64 ((rd_T32 l0 x5_1).f1.f1), .int .i64 0] ?_; (with_reducible refine (spec_l07Best.calls k1 _ _ l0 2 ((rd_T32 l0 x5_1).f1.f1) 0 t490 t491 t492 t493 t494 t495 t496 t497 t498 t499 _ ?side1 ?side2 A13.out).mono ?_); (case side1 => exact Kd.C_below HR0.out (lT HB (gC GE482 (gC GE483 (gC GE489 gN))))); (case side2 => exact HC0.out); rintro e w45 ⟨rfl, hb⟩; refine ⟨_, rfl, ?_⟩; replace HO_4 := ak (Kd.R_below (rT HO_4 BK489 (by decide)) hb); replace BK482 := ak (blk_below (bT BK482 (nC NB482_489 nN)) hb); replace BK483 := ak (blk_below (bT BK483 (nC NB483_489 nN)) hb); replace BK489 := ak (blk_below (g := gb489) (o := .cells #[.int .i64 ((rd_T32 l0 x5_1).f1.f0), .int .i64 ((rd_T32 l0 x5_1).f1.f1), .int .i64 ((rd_T32 l0 x5_1).f1.f2), .int .i64 ((rd_T32 l0 x5_1).f1.f3), .int .i64 ((rd_T32 l0 x5_1).f1.f4), .string ((rd_T32 l0 x5_1).f1.f5), .string ((rd_T32 l0 x5_1).f1.f6), .string ((rd_T32 l0 x5_1).f1.f7)] 23 (0, 0)) (bW BK489) hb); replace HB := ak (below_step (lT HB (gC GE482 (gC GE483 (gC GE489 gN)))) hb); (try clear hb); (try clear hk)) | ((with_reducible refine gate_dst (N := 7) rfl ?_); refine bx 7 #[.int .i64 0, .int .i64 0, .int .i64 0, .int .i64 0, .int .i64 0, .int .i64 0, .string (⟨#[]⟩ : ByteArray), .string (⟨#[]⟩ : ByteArray), .string (⟨#[]⟩ : ByteArray)] 32 ?_; intro gb500 hg w46 hbox hb; replace HO_4 := rB HO_4 hb; replace BK500 := ak (hbox); replace GW500 := ak (bz hg (lT HB (gC GE482 (gC GE483 (gC GE489 gN))))); replace GE500 := ak (bz hg (lT HB (gC GE482 (gC GE483 (gC GE489 gN))))); replace HB := ak (below_step (lT HB (gC GE482 (gC GE483 (gC GE489 gN)))) hb); replace NB482_500 := ak (nl hg (bG BK482)); replace NB500_482 := ak (ng hg (bG BK482)); replace BK482 := bB BK482 hb; replace NB483_500 := ak (nl hg (bG BK483)); replace NB500_483 := ak (ng hg (bG BK483)); replace BK483 := bB BK483 hb; replace NB489_500 := ak (nl hg (bG BK489)); replace NB500_489 := ak (ng hg (bG BK489)); replace BK489 := bB BK489 hb; clear hb hbox hg; have hnb47 := NB500_482.out; have hnc47 := NB482_500.out; have hnb48 := NB500_483.out; have hnc48 := NB483_500.out; have hnb49 := NB500_489.out; have hnc49 := NB489_500.out; obtain ⟨hcz50_0, hcz50_1, hcz50_2, hcz50_3, hcz50_4, hcz50_5, hcz50_6, hcz50_7, hcz50_8, hfz50_0, hfz50_1, hfz50_2, hfz50_3, hfz50_4, hfz50_5, hfz50_6, hfz50_7, hfz50_8⟩ := bC9 BK500; obtain ⟨hcz51_0, hcz51_1, hcz51_2, hcz51_3, hcz51_4, hcz51_5, hcz51_6, hcz51_7, hfz51_0, hfz51_1, hfz51_2, hfz51_3, hfz51_4, hfz51_5, hfz51_6, hfz51_7⟩ := bC8 BK489))
       go_roundg k1
       case measure => have := HK1.out; omega
       case rel => exact ⟨_, _, rr, H', ⟨by have := HK1.out; omega⟩, ⟨by exact Kd.R_mono (rT HO_4 BK500 (by decide)) (fun _ hk => trivial)⟩, ⟨bF BK482 (nC NB482_500 nN)⟩, ⟨bF BK483 (nC NB483_500 nN)⟩, ⟨by exact lT HB (gC GE482 (gC GE483 (gC GE489 (gC GE500 gN))))⟩⟩
     ·rw [if_neg c12] at H
      exact absurd H (by simp)
    ·rw [if_neg c11] at H
     have c11b0 : decide (x5_1 < (l0.length : Int)) = false := decide_eq_false c11
     clear c11
     have H' := Aside0.mk H
     clear H
     go_wp2
     go_loopg [9] k1 (fun kq v9 w' => ∃ (x9_2 : Int) (x484000_2 : List (S66)) (u484000 : Value), v9 = .int .i64 x9_2 ∧ Aside0 (spec_StateOf.l1 kq l0 x4_1 x9_2 x484000_2 = some r) ∧ Aside0 (kq ≤ k1) ∧ Aside0 (Kd.R (Kd.int .i64) 3 w' w.heap.size (fun _ => True) u4 x4_1) ∧ Aside0 (Kd.S k66 66 w' w.heap.size (fun _ => True) u484000 x484000_2) ∧ Aside0 (w'.heap[gb482]? = some (.cells #[(.slice none 0 0)] 60 (0, 0))) ∧ Aside0 (w'.heap[gb483]? = some (.cells #[u484000] 60 (0, 0))) ∧ Aside0 (Below w.heap.size w w'))
     case atStart => exact ⟨_, _, _, rr, H', ⟨Nat.le_refl _⟩, ⟨by (with_reducible repeat (first | apply Kd.R_alloc | apply Kd.R_drewN | apply Kd.R_drew)); exact HO_4.out⟩, ⟨by first | exact Kd.S_nil _ _ _ _ _ | exact Kd.N_nil _ _ _ _ _ | exact Kd.V_nil _ _ _ _ _ | exact Kd.Q_nil _ _ _ _ _ | exact Kd.R_nil _ _ _ _ _⟩, ⟨bG BK482⟩, ⟨bG BK483⟩, ⟨by exact lT HB (gC GE482 (gC GE483 gN))⟩⟩
     case round =>
      clear H'
      try clear c1
      try clear c2
      try clear p2
      try clear c3
      try clear c4
      try clear p4
      try clear q4
      try clear hx4
      try clear c6
      try clear p6
      try clear c8
      try clear c11
      try clear c11b0
      try clear c12
      try clear c12b0
      try clear c14
      try clear c14b0
      try clear c14b1
      try clear c15
      try clear c17
      try clear c18
      try clear c19
      try clear c22
      try clear c23
      try clear c24
      try clear c29
      try clear c30
      try clear c34
      try clear c35
      try clear c36
      try clear c38
      try clear c42
      try clear c43
      try clear c47
      try clear c48
      try clear p48
      try clear q48
      try clear hx48
      try clear c49
      try clear hcz19_0
      try clear hcz19_1
      try clear hcz19_2
      try clear hcz19_3
      try clear hcz19_4
      try clear hcz19_5
      try clear hcz19_6
      try clear hcz19_7
      try clear hcz25_0
      try clear hcz25_1
      try clear hcz25_2
      try clear hcz25_3
      try clear hcz25_4
      try clear hcz25_5
      try clear hcz25_6
      try clear hcz25_7
      try clear hcz25_8
      try clear hcz26_0
      try clear hcz26_1
      try clear hcz26_2
      try clear hcz26_3
      try clear hcz26_4
      try clear hcz26_5
      try clear hcz26_6
      try clear hcz26_7
      try clear hcz31_0
      try clear hcz31_1
      try clear hcz31_2
      try clear hcz31_3
      try clear hcz31_4
      try clear hcz31_5
      try clear hcz31_6
      try clear hcz31_7
      try clear hcz37_0
      try clear hcz37_1
      try clear hcz37_2
      try clear hcz37_3
      try clear hcz37_4
      try clear hcz37_5
      try clear hcz37_6
      try clear hcz37_7
      try clear hcz37_8
      try clear hcz38_0
      try clear hcz38_1
      try clear hcz38_2
      try clear hcz38_3
      try clear hcz38_4
      try clear hcz38_5
      try clear hcz38_6
      try clear hcz38_7
      try clear hcz44_0
      try clear hcz44_1
      try clear hcz44_2
      try clear hcz44_3
      try clear hcz44_4
      try clear hcz44_5
      try clear hcz44_6
      try clear hcz44_7
      try clear hcz50_0
      try clear hcz50_1
      try clear hcz50_2
      try clear hcz50_3
      try clear hcz50_4
      try clear hcz50_5
      try clear hcz50_6
      try clear hcz50_7
      try clear hcz50_8
      try clear hcz51_0
      try clear hcz51_1
      try clear hcz51_2
      try clear hcz51_3
      try clear hcz51_4
      try clear hcz51_5
      try clear hcz51_6
      try clear hcz51_7
      try clear hcz7_0
      try clear hfz19_0
      try clear hfz19_1
      try clear hfz19_2
      try clear hfz19_3
      try clear hfz19_4
      try clear hfz19_5
      try clear hfz19_6
      try clear hfz19_7
      try clear hfz25_0
      try clear hfz25_1
      try clear hfz25_2
      try clear hfz25_3
      try clear hfz25_4
      try clear hfz25_5
      try clear hfz25_6
      try clear hfz25_7
      try clear hfz25_8
      try clear hfz26_0
      try clear hfz26_1
      try clear hfz26_2
      try clear hfz26_3
      try clear hfz26_4
      try clear hfz26_5
      try clear hfz26_6
      try clear hfz26_7
      try clear hfz31_0
      try clear hfz31_1
      try clear hfz31_2
      try clear hfz31_3
      try clear hfz31_4
      try clear hfz31_5
      try clear hfz31_6
      try clear hfz31_7
      try clear hfz37_0
      try clear hfz37_1
      try clear hfz37_2
      try clear hfz37_3
      try clear hfz37_4
      try clear hfz37_5
      try clear hfz37_6
      try clear hfz37_7
      try clear hfz37_8
      try clear hfz38_0
      try clear hfz38_1
      try clear hfz38_2
      try clear hfz38_3
      try clear hfz38_4
      try clear hfz38_5
      try clear hfz38_6
      try clear hfz38_7
      try clear hfz44_0
      try clear hfz44_1
      try clear hfz44_2
      try clear hfz44_3
      try clear hfz44_4
      try clear hfz44_5
      try clear hfz44_6
      try clear hfz44_7
      try clear hfz50_0
      try clear hfz50_1
      try clear hfz50_2
      try clear hfz50_3
      try clear hfz50_4
      try clear hfz50_5
      try clear hfz50_6
      try clear hfz50_7
      try clear hfz50_8
      try clear hfz51_0
      try clear hfz51_1
      try clear hfz51_2
      try clear hfz51_3
      try clear hfz51_4
      try clear hfz51_5
      try clear hfz51_6
      try clear hfz51_7
      try clear hfz7_0
      try clear hx488_0
      try clear hx488_1
      try clear hx488_2
      try clear hx488_3
      try clear hx488_4
      try clear hx488_5
      try clear hx488_6
      try clear hx488_7
      try clear hx488_8
      try clear p2
      try clear p488
      try clear q488
      obtain ⟨x9_2, x484000_2, u484000, rfl, HA, HK2, HO_4, HO_484000, BK482, BK483, HB⟩ := hrel
      cases gk with
      | zero => exact absurd HA.out (by simp [spec_StateOf.l1])
      | succ k2 =>
       have H := HA.out
       clear HA
       simp only [spec_StateOf.l1] at H
       by_cases c52 : x9_2 < (x4_1.length : Int)
       ·rw [if_pos c52] at H
        have c52b0 : decide (x9_2 < (x4_1.length : Int)) = true := decide_eq_true c52
        clear c52
        by_cases c53 : 0 ≤ x9_2
        ·rw [if_pos c53] at H
         have c53b0 : decide (0 ≤ x9_2) = true := decide_eq_true c53
         clear c53
         obtain ⟨⟨t505, t506, t507, t508, t509, t510, t511, t512, t513⟩, A54, H⟩ := eb H
         try dsimp only at H
         obtain ⟨t517, A55, H⟩ := eb H
         try dsimp only at H
         obtain ⟨t519, A56, H⟩ := eb H
         try dsimp only at H
         by_cases c57 : x484000_2.length < 1954687338268
         ·rw [if_pos c57] at H
          have LMc57 := Aside0.mk c57
          clear c57
          obtain ⟨y522, hy522⟩ : ∃ y_ : List (S66), y_ = (x484000_2 ++ [(⟨rd x4_1 x9_2, t511, t512, t517, t519⟩ : S66)]) := ⟨_, rfl⟩
          replace H : (spec_StateOf.l1 k2 l0 x4_1 (wrap64 (x9_2 + 1)) y522) = some r := by first | (rw [hy522]; with_reducible exact H) | (have H2_ := (Option.bind_some _ _).symm.trans H; rw [hy522]; with_reducible exact H2_) | (have H2_ := (Option.bind_some _ _).symm.trans H; with_reducible exact H2_) | with_reducible exact H | (rw [hy522]; exact H) | exact H
          have Ny522 := Aside0.mk hy522
          clear hy522
          have H' := Aside0.mk H
          clear H
          obtain ⟨Ao58, co58, eo58⟩ := Kd.R_slice HO_4.out
          subst eo58
          have p504 : 0 ≤ (x9_2 : Int) := oda
          have q504 : x9_2 < (x4_1.length : Int) := oda
          obtain ⟨ad504, e504, hx504_0⟩ := Kd.at_int (Kd.R_reads' HO_4.out).2.2 x9_2 p504 q504
          cases e504
          replace p504 := eq_true p504
          replace q504 := eq_true q504
          try go_wp2_with (first | ((with_reducible refine gate_callee (f := 82) rfl ?_); refine gl (some 57) Try.func82 #[.slice A0 l0.length c0, .int .i64 (rd x4_1 x9_2)] ?_; (with_reducible refine (spec_l07Tell.calls k2 _ _ l0 (rd x4_1 x9_2) t505 t506 t507 t508 t509 t510 t511 t512 t513 _ ?side1 ?side2 A54.out).mono ?_); (case side1 => exact cG (Kd.C_below HR0.out HB.out)); (case side2 => exact HC0.out); rintro e w59 ⟨rfl, hb⟩; refine ⟨_, rfl, ?_⟩; replace HO_4 := rB HO_4 hb; replace HO_484000 := ak (Kd.S_below (by (with_reducible repeat (first | apply Kd.S_alloc | apply Kd.S_drewN | apply Kd.S_drew)); exact HO_484000.out) hb); replace BK482 := bB BK482 hb; replace BK483 := bB BK483 hb; replace HB := ak (below_step (lT HB (gC GE482 (gC GE483 gN))) hb); (try clear hb); (try clear hk)) | ((with_reducible refine gate_dst (N := 10) rfl ?_); refine bx 10 #[.int .i64 0, .int .i64 0, .int .i64 0, .int .i64 0, .int .i64 0, .int .i64 0, .string (⟨#[]⟩ : ByteArray), .string (⟨#[]⟩ : ByteArray), .string (⟨#[]⟩ : ByteArray)] 32 ?_; intro gb514 hg w60 hbox hb; replace HO_4 := rB HO_4 hb; replace HO_484000 := ak (Kd.S_below (by (with_reducible repeat (first | apply Kd.S_alloc | apply Kd.S_drewN | apply Kd.S_drew)); exact HO_484000.out) hb); replace BK514 := ak (hbox); replace GW514 := ak (bz hg (lT HB (gC GE482 (gC GE483 gN)))); replace GE514 := ak (bz hg (lT HB (gC GE482 (gC GE483 gN)))); replace HB := ak (below_step (lT HB (gC GE482 (gC GE483 gN))) hb); replace NB482_514 := ak (nl hg (bG BK482)); replace NB514_482 := ak (ng hg (bG BK482)); replace BK482 := bB BK482 hb; replace NB483_514 := ak (nl hg (bG BK483)); replace NB514_483 := ak (ng hg (bG BK483)); replace BK483 := bB BK483 hb; clear hb hbox hg; have hnb61 := NB514_482.out; have hnc61 := NB482_514.out; have hnb62 := NB514_483.out; have hnc62 := NB483_514.out; obtain ⟨_, _, _, _, _, _, _, _, _, _, _, _, _, _, _, _, _, _⟩ := bC9 BK514))
          have n0_ : Aside0 (Kd.R (Kd.int .i64) 3 (((((((((w60.setCell ⟨gb514, 0, none⟩ (.int .i64 t505)).setCell ⟨gb514, 1, none⟩ (.int .i64 t506)).setCell ⟨gb514, 2, none⟩ (.int .i64 t507)).setCell ⟨gb514, 3, none⟩ (.int .i64 t508)).setCell ⟨gb514, 4, none⟩ (.int .i64 t509)).setCell ⟨gb514, 5, none⟩ (.int .i64 t510)).setCell ⟨gb514, 6, none⟩ (.string t511)).setCell ⟨gb514, 7, none⟩ (.string t512)).setCell ⟨gb514, 8, none⟩ (.string t513)) w.heap.size (fun _ => True) (.slice (some ad504) x4_1.length co58) x4_1) := ⟨by exact Kd.R_mono (rT HO_4 BK514 (by decide)) (fun _ hk => trivial)⟩
          have n1_ : Aside0 (Kd.S k66 66 (((((((((w60.setCell ⟨gb514, 0, none⟩ (.int .i64 t505)).setCell ⟨gb514, 1, none⟩ (.int .i64 t506)).setCell ⟨gb514, 2, none⟩ (.int .i64 t507)).setCell ⟨gb514, 3, none⟩ (.int .i64 t508)).setCell ⟨gb514, 4, none⟩ (.int .i64 t509)).setCell ⟨gb514, 5, none⟩ (.int .i64 t510)).setCell ⟨gb514, 6, none⟩ (.string t511)).setCell ⟨gb514, 7, none⟩ (.string t512)).setCell ⟨gb514, 8, none⟩ (.string t513)) w.heap.size (fun _ => True) u484000 x484000_2) := ⟨by (with_reducible repeat (first | apply Kd.S_alloc | apply Kd.S_drewN | apply Kd.S_drew)); exact Kd.S_mono (Kd.S_far (p := ⟨gb514, 8, none⟩) (Kd.S_far (p := ⟨gb514, 7, none⟩) (Kd.S_far (p := ⟨gb514, 6, none⟩) (Kd.S_far (p := ⟨gb514, 5, none⟩) (Kd.S_far (p := ⟨gb514, 4, none⟩) (Kd.S_far (p := ⟨gb514, 3, none⟩) (Kd.S_far (p := ⟨gb514, 2, none⟩) (Kd.S_far (p := ⟨gb514, 1, none⟩) (Kd.S_far (p := ⟨gb514, 0, none⟩) (Kd.S_types HO_484000.out BK514.out (by decide)) (fun _ hk => hk.2) (.int .i64 t505)) (fun _ hk => hk.2) (.int .i64 t506)) (fun _ hk => hk.2) (.int .i64 t507)) (fun _ hk => hk.2) (.int .i64 t508)) (fun _ hk => hk.2) (.int .i64 t509)) (fun _ hk => hk.2) (.int .i64 t510)) (fun _ hk => hk.2) (.string t511)) (fun _ hk => hk.2) (.string t512)) (fun _ hk => hk.2) (.string t513)) (fun _ hk => trivial)⟩
          have n2_ : Aside0 ((((((((((w60.setCell ⟨gb514, 0, none⟩ (.int .i64 t505)).setCell ⟨gb514, 1, none⟩ (.int .i64 t506)).setCell ⟨gb514, 2, none⟩ (.int .i64 t507)).setCell ⟨gb514, 3, none⟩ (.int .i64 t508)).setCell ⟨gb514, 4, none⟩ (.int .i64 t509)).setCell ⟨gb514, 5, none⟩ (.int .i64 t510)).setCell ⟨gb514, 6, none⟩ (.string t511)).setCell ⟨gb514, 7, none⟩ (.string t512)).setCell ⟨gb514, 8, none⟩ (.string t513)).heap[gb482]? = some (.cells #[.slice none 0 0] 60 (0, 0))) := ⟨bF BK482 (nC NB482_514 nN)⟩
          have n3_ : Aside0 ((((((((((w60.setCell ⟨gb514, 0, none⟩ (.int .i64 t505)).setCell ⟨gb514, 1, none⟩ (.int .i64 t506)).setCell ⟨gb514, 2, none⟩ (.int .i64 t507)).setCell ⟨gb514, 3, none⟩ (.int .i64 t508)).setCell ⟨gb514, 4, none⟩ (.int .i64 t509)).setCell ⟨gb514, 5, none⟩ (.int .i64 t510)).setCell ⟨gb514, 6, none⟩ (.string t511)).setCell ⟨gb514, 7, none⟩ (.string t512)).setCell ⟨gb514, 8, none⟩ (.string t513)).heap[gb483]? = some (.cells #[u484000] 60 (0, 0))) := ⟨bF BK483 (nC NB483_514 nN)⟩
          have n4_ : Aside0 ((((((((((w60.setCell ⟨gb514, 0, none⟩ (.int .i64 t505)).setCell ⟨gb514, 1, none⟩ (.int .i64 t506)).setCell ⟨gb514, 2, none⟩ (.int .i64 t507)).setCell ⟨gb514, 3, none⟩ (.int .i64 t508)).setCell ⟨gb514, 4, none⟩ (.int .i64 t509)).setCell ⟨gb514, 5, none⟩ (.int .i64 t510)).setCell ⟨gb514, 6, none⟩ (.string t511)).setCell ⟨gb514, 7, none⟩ (.string t512)).setCell ⟨gb514, 8, none⟩ (.string t513)).heap[gb514]? = some (.cells #[.int .i64 t505, .int .i64 t506, .int .i64 t507, .int .i64 t508, .int .i64 t509, .int .i64 t510, .string t511, .string t512, .string t513] 32 (0, 0))) := ⟨bW BK514⟩
          have n5_ : Aside0 (Below w.heap.size w (((((((((w60.setCell ⟨gb514, 0, none⟩ (.int .i64 t505)).setCell ⟨gb514, 1, none⟩ (.int .i64 t506)).setCell ⟨gb514, 2, none⟩ (.int .i64 t507)).setCell ⟨gb514, 3, none⟩ (.int .i64 t508)).setCell ⟨gb514, 4, none⟩ (.int .i64 t509)).setCell ⟨gb514, 5, none⟩ (.int .i64 t510)).setCell ⟨gb514, 6, none⟩ (.string t511)).setCell ⟨gb514, 7, none⟩ (.string t512)).setCell ⟨gb514, 8, none⟩ (.string t513))) := ⟨by exact lT HB (gC GE482 (gC GE483 (gC GE514 gN)))⟩
          (try clear HO_4)
          (try clear HO_484000)
          (try clear BK482)
          (try clear BK483)
          (try clear BK514)
          (try clear HB)
          generalize (((((((((w60.setCell ⟨gb514, 0, none⟩ (.int .i64 t505)).setCell ⟨gb514, 1, none⟩ (.int .i64 t506)).setCell ⟨gb514, 2, none⟩ (.int .i64 t507)).setCell ⟨gb514, 3, none⟩ (.int .i64 t508)).setCell ⟨gb514, 4, none⟩ (.int .i64 t509)).setCell ⟨gb514, 5, none⟩ (.int .i64 t510)).setCell ⟨gb514, 6, none⟩ (.string t511)).setCell ⟨gb514, 7, none⟩ (.string t512)).setCell ⟨gb514, 8, none⟩ (.string t513)) = w64 at n0_ n1_ n2_ n3_ n4_ n5_ ⊢
          have HO_4 := n0_
          have HO_484000 := n1_
          have BK482 := n2_
          have BK483 := n3_
          have BK514 := n4_
          have HB := n5_
          clear n0_ n1_ n2_ n3_ n4_ n5_
          replace HO_4 := ak (Kd.R_drew HO_4.out)
          replace HO_484000 := ak (Kd.S_drew HO_484000.out)
          replace BK482 := ak (blk_drew BK482.out)
          replace BK483 := ak (blk_drew BK483.out)
          replace BK514 := ak (blk_drew BK514.out)
          replace HB := ak (below_drew1 HB.out)
          have p515 : 0 ≤ (x9_2 : Int) := oda
          have q515 : x9_2 < (x4_1.length : Int) := oda
          obtain ⟨ad515, e515, hx515_0⟩ := Kd.at_int (Kd.R_reads' HO_4.out).2.2 x9_2 p515 q515
          obtain rfl : ad504 = ad515 := (by injection e515)
          replace p515 := eq_true p515
          replace q515 := eq_true q515
          have p516 : 0 ≤ (x9_2 : Int) := oda
          have q516 : x9_2 < (x4_1.length : Int) := oda
          obtain ⟨ad516, e516, hx516_0⟩ := Kd.at_int (Kd.R_reads' HO_4.out).2.2 x9_2 p516 q516
          obtain rfl : ad504 = ad516 := (by injection e516)
          replace p516 := eq_true p516
          replace q516 := eq_true q516
          have p518 : 0 ≤ (x9_2 : Int) := oda
          have q518 : x9_2 < (x4_1.length : Int) := oda
          obtain ⟨ad518, e518, hx518_0⟩ := Kd.at_int (Kd.R_reads' HO_4.out).2.2 x9_2 p518 q518
          obtain rfl : ad504 = ad518 := (by injection e518)
          replace p518 := eq_true p518
          replace q518 := eq_true q518
          refine start_ (n := 29) (S := fun w' => w'.cell? ⟨gb483, 0, none⟩ = some (u484000) ∧ w'.cell? ⟨gb514, 0, none⟩ = some (.int .i64 t505) ∧ w'.cell? ⟨gb514, 1, none⟩ = some (.int .i64 t506) ∧ w'.cell? ⟨gb514, 2, none⟩ = some (.int .i64 t507) ∧ w'.cell? ⟨gb514, 3, none⟩ = some (.int .i64 t508) ∧ w'.cell? ⟨gb514, 4, none⟩ = some (.int .i64 t509) ∧ w'.cell? ⟨gb514, 5, none⟩ = some (.int .i64 t510) ∧ w'.cell? ⟨gb514, 6, none⟩ = some (.string t511) ∧ w'.cell? ⟨gb514, 7, none⟩ = some (.string t512) ∧ w'.cell? ⟨gb514, 8, none⟩ = some (.string t513) ∧ w'.cell? (ad504.add (x9_2).toNat) = some (.int .i64 (rd x4_1 x9_2)) ∧ w'.cell? (ad504.add (x9_2).toNat) = some (.int .i64 (rd x4_1 x9_2)) ∧ w'.cell? (ad504.add (x9_2).toNat) = some (.int .i64 (rd x4_1 x9_2))) (ds := [26, 28]) #[f_,f_,f_,f_,f_,f_,f_,f_,f_,f_,f_,f_,f_,f_,f_,f_,f_,f_,f_,f_,f_,f_,f_,f_,f_,f_,f_,f_,f_] (by kernel_rfl) rfl rfl ⟨bc BK483 0, bc BK514 0, bc BK514 1, bc BK514 2, bc BK514 3, bc BK514 4, bc BK514 5, bc BK514 6, bc BK514 7, bc BK514 8, hx515_0, hx516_0, hx518_0⟩ (fun hHeld => ?_); refine with_tabW spec_StateOf.tab16 spec_StateOf.bits16 (fun HT_ HW_ => ?_)
          generalize w64.drew = w65 at HO_4 HO_484000 BK482 BK483 BK514 HB hx515_0 hx516_0 hx518_0 hHeld ⊢
          refine pu 0 58 (fb 29 1) HT_ ?_
          refine pu 2 60 (fb 29 5) HT_ ?_
          refine pu 3 61 (fb 29 13) HT_ ?_
          refine pu 4 62 (fb 29 29) HT_ ?_
          refine pu 6 64 (fb 29 93) HT_ ?_
          refine pu 7 65 (fb 29 221) HT_ ?_
          refine pu 9 67 (fb 29 733) HT_ ?_
          refine pu 10 68 (fb 29 1757) HT_ ?_
          refine pu 12 70 (fb 29 5853) HT_ ?_
          refine pu 13 71 (fb 29 14045) HT_ ?_
          refine pu 14 72 (fb 29 30429) HT_ ?_
          refine pu 15 73 (fb 29 63197) HT_ ?_
          refine pu 18 76 (fb 29 325341) HT_ ?_
          refine pu 19 77 (fb 29 849629) HT_ ?_
          refine pu 20 78 (fb 29 1898205) HT_ ?_
          refine pu 21 79 (fb 29 3995357) HT_ ?_
          refine tk 1 59 (fb 29 3995359) HT_ HW_ hHeld ?_
          refine tk 5 63 (fb 29 3995391) HT_ HW_ hHeld ?_
          refine tk 8 66 (fb 29 3995647) HT_ HW_ hHeld ?_
          refine tk 11 69 (fb 29 3997695) HT_ HW_ hHeld ?_
          refine tk 16 74 (fb 29 4063231) HT_ HW_ hHeld ?_
          refine tk 22 80 (fb 29 8257535) HT_ HW_ hHeld ?_
          refine on 17 (some 75) (fb 29 8388607) HT_ (fun K hK => ?_)
          refine goes_ Try.func83 (by kernel_rfl) rfl #[.slice A0 l0.length c0, .int .i64 (rd x4_1 x9_2)] (by rfl) rfl rfl (by (try simp only [List.map_toArray, List.map_cons, List.map_nil]); first | done | rfl | (simp only [List.length_drop, List.length_take]; rfl)) ?_
          with_reducible refine (spec_l07Next.calls k2 _ _ l0 (rd x4_1 x9_2) t517 _ ?side1 ?side2 A55.out).mono ?_
          (case side1 => exact cG (Kd.C_below HR0.out HB.out))
          (case side2 => exact HC0.out)
          rintro e w66 ⟨rfl, hb⟩
          have HS10_ := (hb.cell (World.block_lt_of_cell? _ _ (hHeld.2.2.2.2.2.2.2.2.2.2.1))).trans (hHeld.2.2.2.2.2.2.2.2.2.2.1)
          have HS11_ := (hb.cell (World.block_lt_of_cell? _ _ (hHeld.2.2.2.2.2.2.2.2.2.2.2.1))).trans (hHeld.2.2.2.2.2.2.2.2.2.2.2.1)
          have HS12_ := (hb.cell (World.block_lt_of_cell? _ _ (hHeld.2.2.2.2.2.2.2.2.2.2.2.2))).trans (hHeld.2.2.2.2.2.2.2.2.2.2.2.2)
          refine ⟨_, rfl, ?_⟩
          replace HO_4 := rB HO_4 hb
          replace HO_484000 := ak (Kd.S_below (by (with_reducible repeat (first | apply Kd.S_alloc | apply Kd.S_drewN | apply Kd.S_drew)); exact HO_484000.out) hb)
          replace BK482 := bB BK482 hb
          replace BK483 := bB BK483 hb
          replace BK514 := bB BK514 hb
          replace HB := ak (below_step (lT HB (gC GE482 (gC GE483 (gC GE514 gN)))) hb)
          (try clear hb)
          (try clear hb2)
          (try clear hk)
          (try clear hi)
          refine hK.out _ _ ⟨bc BK483 0, bc BK514 0, bc BK514 1, bc BK514 2, bc BK514 3, bc BK514 4, bc BK514 5, bc BK514 6, bc BK514 7, bc BK514 8, HS10_, HS11_, HS12_⟩ (fun hHeld => ?_)
          clear hK K
          refine nm ?_
          refine on 23 (some 81) (fb 29 16777215) HT_ (fun K hK => ?_)
          refine goes_ Try.func84 (by kernel_rfl) rfl #[.slice A0 l0.length c0, .int .i64 (rd x4_1 x9_2)] (by rfl) rfl rfl (by (try simp only [List.map_toArray, List.map_cons, List.map_nil]); first | done | rfl | (simp only [List.length_drop, List.length_take]; rfl)) ?_
          with_reducible refine (spec_l07Mails.calls k2 _ _ l0 (rd x4_1 x9_2) t519 _ ?side1 ?side2 A56.out).mono ?_
          (case side1 => exact cG (Kd.C_below HR0.out HB.out))
          (case side2 => exact HC0.out)
          rintro e w67 ⟨v520, rfl, ho0, hb⟩
          have HS10_ := (hb.cell (World.block_lt_of_cell? _ _ (hHeld.2.2.2.2.2.2.2.2.2.2.1))).trans (hHeld.2.2.2.2.2.2.2.2.2.2.1)
          have HS11_ := (hb.cell (World.block_lt_of_cell? _ _ (hHeld.2.2.2.2.2.2.2.2.2.2.2.1))).trans (hHeld.2.2.2.2.2.2.2.2.2.2.2.1)
          have HS12_ := (hb.cell (World.block_lt_of_cell? _ _ (hHeld.2.2.2.2.2.2.2.2.2.2.2.2))).trans (hHeld.2.2.2.2.2.2.2.2.2.2.2.2)
          refine ⟨_, rfl, ?_⟩
          replace HO_4 := rB HO_4 hb
          replace HO_484000 := ak (Kd.S_elder' (by (with_reducible repeat (first | apply Kd.S_alloc | apply Kd.S_drewN | apply Kd.S_drew)); exact HO_484000.out) (Kd.R_base ho0) hb)
          replace HO521 := ak (Kd.R_lower ho0 (below_size (lT HB (gC GE482 (gC GE483 (gC GE514 gN))))))
          replace BK482 := bB BK482 hb
          replace BK483 := bB BK483 hb
          replace BK514 := bB BK514 hb
          replace HB := ak (below_step (lT HB (gC GE482 (gC GE483 (gC GE514 gN)))) hb)
          (try clear hb)
          (try clear hb2)
          (try clear hk)
          (try clear hi)
          (try clear ho0)
          obtain ⟨Ao68, co68, eo68⟩ := Kd.R_slice HO521.out
          (first | subst eo68 | (injection eo68 with f1_ f2_ f3_; have f4_ := f1_.symm; have f5_ := f3_.symm; clear f1_ f2_ f3_; subst f4_; subst f5_))
          refine hK.out _ _ ⟨bc BK483 0, bc BK514 0, bc BK514 1, bc BK514 2, bc BK514 3, bc BK514 4, bc BK514 5, bc BK514 6, bc BK514 7, bc BK514 8, HS10_, HS11_, HS12_⟩ (fun hHeld => ?_)
          clear hK K
          refine nm ?_
          refine pu 24 82 (fb 29 33554431) HT_ ?_
          refine on 25 (some 83) (fb 29 67108863) HT_ (fun K hK => ?_)
          refine value_ (w1 := ?_) (v := ?_) (by rfl) rfl ?_ ?_
          rotate_left 2
          ·go_simp
           constructor
           ·rfl
           ·rfl
          refine hK.out _ _ ⟨(blk_cell (blk_alloc BK483.out _) 0).trans rfl, (blk_cell (blk_alloc BK514.out _) 0).trans rfl, (blk_cell (blk_alloc BK514.out _) 1).trans rfl, (blk_cell (blk_alloc BK514.out _) 2).trans rfl, (blk_cell (blk_alloc BK514.out _) 3).trans rfl, (blk_cell (blk_alloc BK514.out _) 4).trans rfl, (blk_cell (blk_alloc BK514.out _) 5).trans rfl, (blk_cell (blk_alloc BK514.out _) 6).trans rfl, (blk_cell (blk_alloc BK514.out _) 7).trans rfl, (blk_cell (blk_alloc BK514.out _) 8).trans rfl, (World.cell?_alloc_lt _ _ _ (World.block_lt_of_cell? _ _ (hHeld.2.2.2.2.2.2.2.2.2.2.1))).trans (hHeld.2.2.2.2.2.2.2.2.2.2.1), (World.cell?_alloc_lt _ _ _ (World.block_lt_of_cell? _ _ (hHeld.2.2.2.2.2.2.2.2.2.2.2.1))).trans (hHeld.2.2.2.2.2.2.2.2.2.2.2.1), (World.cell?_alloc_lt _ _ _ (World.block_lt_of_cell? _ _ (hHeld.2.2.2.2.2.2.2.2.2.2.2.2))).trans (hHeld.2.2.2.2.2.2.2.2.2.2.2.2)⟩ (fun hHeld => ?_)
          clear hK K
          refine nm ?_
          refine last_ (i := 26) (N := some 84) #[t_,t_,t_,t_,t_,t_,t_,t_,t_,t_,t_,t_,t_,t_,t_,t_,t_,t_,t_,t_,t_,t_,t_,t_,t_,t_,t_,f_,f_] rfl rfl (one_of HT_.out (by kernel_rfl)) (by decide) (fun K hK => ?_)
          refine Kd.S_append_step k66 (w0 := w) w.heap.size (by rfl) (.tmp 59) (.tmp 83) 58 66 (.agg #[(.int .i64 0), (.string ⟨#[]⟩), (.string ⟨#[]⟩), (.int .i64 0), (.slice none 0 0)]) 72 rfl Try.underlying58 info66 rfl (by decide) (by omega) u484000 x484000_2 (⟨rd x4_1 x9_2, t511, t512, t517, t519⟩ : S66) [.int .i64 (rd x4_1 x9_2), .string t511, .string t512, .int .i64 t517, .slice Ao68 t519.length co68] (fun _ => True) (fun k_ => some k_ = (.slice Ao68 t519.length co68 : Value).ownBlock) rfl rfl ?aP (fun k_ hk_ => ((Kd.R_mono (ok' := fun k_ => ((fun _ => True)) k_ ∧ some k_ ≠ (u484000 : Value).ownBlock) (Kd.R_apart' (HO521.out) (Kd.S_typed HO_484000.out) (by decide)) (fun k_ hk => ⟨trivial, hk.2⟩))).1 k_ hk_.symm) ?aF ?aO ?aB ?aS ?aL ?_
          (case aP => exact k66_mkM _ _ _ (⟨rd x4_1 x9_2, t511, t512, t517, t519⟩ : S66) (Kd.R_mono (Kd.R_tight rfl (Kd.R_mono (ok' := fun k_ => ((fun _ => True)) k_ ∧ some k_ ≠ (u484000 : Value).ownBlock) (Kd.R_apart' (HO521.out) (Kd.S_typed HO_484000.out) (by decide)) (fun k_ hk => ⟨trivial, hk.2⟩))) (fun _ h_ => h_)))
          (case aB => exact (lT HB (gC GE482 (gC GE483 (gC GE514 gN)))))
          (case aF => exact (fun _ _ => trivial))
          (case aO => exact (by (with_reducible repeat (first | apply Kd.S_alloc | apply Kd.S_drewN | apply Kd.S_drew)); exact Kd.S_mono HO_484000.out (fun k_ hk => ⟨trivial, fun e_ => hk.2 e_⟩)))
          (case aS => exact (below_size (lT HB (gC GE482 (gC GE483 (gC GE514 gN))))))
          (case aL => have := LMc57.out; omega)
          intro v523 w69 ho hb hg hat
          rw [← Ny522.out] at ho
          have n0_ := ak (Kd.R_over' (rG HO_4) (Kd.S_typed (by (with_reducible repeat (first | apply Kd.S_alloc | apply Kd.S_drewN | apply Kd.S_drew)); exact HO_484000.out)) (by decide) hg)
          have n1_ := ak (blk_grown (g := gb482) (o := .cells #[.slice none 0 0] 60 (0, 0)) (bG BK482) hg (Kd.S_ne HO_484000.out BK482.out (by decide)))
          have n2_ := ak (blk_grown (g := gb483) (o := .cells #[u484000] 60 (0, 0)) (bG BK483) hg (Kd.S_ne HO_484000.out BK483.out (by decide)))
          have n3_ := ak (blk_grown (g := gb514) (o := .cells #[.int .i64 t505, .int .i64 t506, .int .i64 t507, .int .i64 t508, .int .i64 t509, .int .i64 t510, .string t511, .string t512, .string t513] 32 (0, 0)) (bG BK514) hg (Kd.S_ne HO_484000.out BK514.out (by decide)))
          have n4_ := ak (hb)
          have n5_ := ak (ho)
          clear HO_4
          clear BK482
          clear BK483
          clear BK514
          clear HB
          clear HO_484000
          clear HO521
          have HO_4 := n0_
          have BK482 := n1_
          have BK483 := n2_
          have BK514 := n3_
          have HB := n4_
          have HO524 := n5_
          clear n0_ n1_ n2_ n3_ n4_ n5_
          clear ho hb hg hat
          obtain ⟨Ao70, co70, eo70⟩ := Kd.S_slice HO524.out
          (first | subst eo70 | (injection eo70 with f1_ f2_ f3_; have f4_ := f1_.symm; have f5_ := f3_.symm; clear f1_ f2_ f3_; subst f4_; subst f5_))
          refine hK.out _ _ ?_
          clear hK K
          refine nm ?_
          refine pu 27 85 (fb 29 268435455) HT_ ?_
          refine last_ (i := 28) (N := none) #[t_,t_,t_,t_,t_,t_,t_,t_,t_,t_,t_,t_,t_,t_,t_,t_,t_,t_,t_,t_,t_,t_,t_,t_,t_,t_,t_,t_,t_] rfl rfl (one_of HT_.out (by kernel_rfl)) (by decide) (fun K hK => ?_)
          have hs71 : w69.cell? ⟨gb483, 0, none⟩ = some (u484000) := bc BK483 0
          have hfs71 := blk_frozen BK483.out 0
          have hns71_0 := NB482_483.out
          have hns71_2 := NB514_483.out
          have hms71_0 := NB483_482.out
          have hms71_2 := NB483_514.out
          refine skip_ (w1 := ?_) (by rfl) rfl ?_ ?_
          rotate_left
          ·go_simp
           rfl
          refine hK.out _ _ ?_
          clear hK K
          refine done_ (done_of HT_.out (by kernel_rfl)) ?_
          try go_wp2
          go_roundg k2
          case measure => have := HK1.out; have := HK2.out; omega
          case rel => exact ⟨_, _, _, rr, H', ⟨by have := HK1.out; have := HK2.out; omega⟩, ⟨by exact Kd.R_mono (rT HO_4 BK483 (by decide)) (fun _ hk => trivial)⟩, ⟨by (with_reducible repeat (first | apply Kd.S_alloc | apply Kd.S_drewN | apply Kd.S_drew)); exact Kd.S_mono (Kd.S_far (p := ⟨gb483, 0, none⟩) (Kd.S_types HO524.out BK483.out (by decide)) (fun _ hk => hk.2) (.slice Ao70 y522.length co70)) (fun _ hk => trivial)⟩, ⟨bF BK482 (nC NB482_483 nN)⟩, ⟨bW BK483⟩, ⟨by exact lT HB (gC GE482 (gC GE483 (gC GE514 gN)))⟩⟩
         ·rw [if_neg c57] at H
          exact absurd H (by simp)
        ·rw [if_neg c53] at H
         exact absurd H (by simp)
       ·rw [if_neg c52] at H
        have c52b0 : decide (x9_2 < (x4_1.length : Int)) = false := decide_eq_false c52
        clear c52
        obtain rfl := Option.some.inj H
        obtain ⟨Ao72, co72, eo72⟩ := Kd.R_slice HO_4.out
        subst eo72
        have hnb73 := NB483_482.out
        have hnc73 := NB482_483.out
        obtain ⟨_, _⟩ := bC1 BK483
        obtain ⟨Ao75, co75, eo75⟩ := Kd.S_slice HO_484000.out
        subst eo75
        obtain ⟨_, _⟩ := bC1 BK482
        go_wp2
        refine bodyPost_ret (results_cell_row rfl _ _ gb482 60 #[.slice Ao75 x484000_2.length co75] (0, 0) _ rfl (bW BK482) Try.underlying60 rfl (by kernel_rfl)) rfl ?_
        exact ⟨_, ew, by (with_reducible repeat (first | apply Kd.S_alloc | apply Kd.S_drewN | apply Kd.S_drew)); exact Kd.S_mono (Kd.S_far (p := ⟨gb482, 0, none⟩) (Kd.S_types HO_484000.out BK482.out (by decide)) (fun _ hk => hk.2) (.slice Ao75 x484000_2.length co75)) (fun _ hk => trivial), by exact lT HB (gC GE482 (gC GE483 gN))⟩
 ·replace c3 := Bool.eq_false_iff.mpr c3
  subst c3
  rw [if_neg (show ¬ (false = true) by decide)] at H
  obtain rfl := Option.some.inj H
  go_enter Try.func38, Try.ntmps38
  go_wp2_with (first | ((with_reducible refine gate_dst (N := 2) rfl ?_); refine bx 2 #[.slice none 0 0] 60 ?_; intro gb482 hg w77 hbox hb; replace BK482 := ak (hbox); replace GE482 := ak (bz hg (lG HB)); replace HB := lB HB hb; clear hb hbox hg) | ((with_reducible refine gate_dst (N := 3) rfl ?_); refine bx 3 #[.slice none 0 0] 60 ?_; intro gb483 hg w78 hbox hb; replace BK483 := ak (hbox); replace GW483 := ak (bz hg (lT HB (gC GE482 gN))); replace GE483 := ak (bz hg (lT HB (gC GE482 gN))); replace HB := ak (below_step (lT HB (gC GE482 gN)) hb); replace NB482_483 := ak (nl hg (bG BK482)); replace NB483_482 := ak (ng hg (bG BK482)); replace BK482 := bB BK482 hb; clear hb hbox hg; have hnb79 := NB483_482.out; have hnc79 := NB482_483.out; obtain ⟨_, _⟩ := bC1 BK483) | ((with_reducible refine gate_callee (f := 19) rfl ?_); refine gl (some 13) Try.func19 #[.slice A0 l0.length c0] ?_; (with_reducible refine (spec_ItemsOk.calls k _ _ l0 false _ ?side1 ?side2 A2.out).mono ?_); (case side1 => exact Kd.C_below HR0.out (lT HB (gC GE482 (gC GE483 gN)))); (case side2 => exact HC0.out); rintro e w81 ⟨rfl, hb⟩; refine ⟨_, rfl, ?_⟩; replace BK482 := ak (blk_below (bT BK482 (nC NB482_483 nN)) hb); replace BK483 := ak (blk_below (g := gb483) (o := .cells #[.slice none 0 0] 60 (0, 0)) (bW BK483) hb); replace HB := ak (below_step (lT HB (gC GE482 (gC GE483 gN))) hb); (try clear hb); (try clear hk); obtain ⟨_, _⟩ := bC1 BK483; obtain ⟨_, _⟩ := bC1 BK482))
  refine bodyPost_ret (results_cell_row rfl _ _ gb482 60 #[.slice none 0 0] (0, 0) _ rfl (bW BK482) Try.underlying60 rfl (by kernel_rfl)) rfl ?_
  exact ⟨_, ew, by first | exact Kd.S_nil _ _ _ _ _ | exact Kd.N_nil _ _ _ _ _ | exact Kd.V_nil _ _ _ _ _ | exact Kd.Q_nil _ _ _ _ _ | exact Kd.R_nil _ _ _ _ _, by exact lT HB (gC GE482 (gC GE483 gN))⟩
end Go.Proofs.Ytagkjeldheiejaa.PFnAnyOrder
