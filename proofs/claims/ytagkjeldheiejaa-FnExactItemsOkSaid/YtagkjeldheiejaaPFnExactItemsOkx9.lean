-- Written for this claim by a program of mine (a turned copy of the kit's print): functions as plain Lean, and their contracts. Lean checks it.
import Derived.Test.YtagkjeldheiejaaPFnExactItemsOkx0
import Derived.Test.YtagkjeldheiejaaPFnExactItemsOkx3
import Derived.Test.YtagkjeldheiejaaPFnExactItemsOkx5
import Derived.Test.YtagkjeldheiejaaPFnExactItemsOkx8
import Derived.Test.YtagkjeldheiejaaVFnExactItemsOk1
namespace Go.Proofs.Ytagkjeldheiejaa.PFnExactItemsOk
open Go.RowKit Go.Proofs.YtagkjeldheiejaaW.PrintWords Go.Proofs.YtagkjeldheiejaaW.PrintLast Go.Proofs.YtagkjeldheiejaaW.PrintMore
attribute [local go_sem] max2_int min2_int max_two min_two max_three min_three max_four min_four   -- for this text's walks alone
set_option linter.unusedVariables false
set_option linter.unusedSimpArgs false

/-! ### laws_eqItemS: function 22 -/
def laws_eqItemS.l0 : Nat → List (S32) → List (S32) → Int → Option (Bool)
 | 0, _, _, _ => none
 | k + 1, x0, x1, x5 => if x5 < (x0.length : Int) then (if 0 ≤ x5 then (if x5 < (x1.length : Int) then ((laws_eqItem.f ((rd_T32 x0 x5).f0) ((rd_T32 x0 x5).f1.f0) ((rd_T32 x0 x5).f1.f1) ((rd_T32 x0 x5).f1.f2) ((rd_T32 x0 x5).f1.f3) ((rd_T32 x0 x5).f1.f4) ((rd_T32 x0 x5).f1.f5) ((rd_T32 x0 x5).f1.f6) ((rd_T32 x0 x5).f1.f7) ((rd_T32 x1 x5).f0) ((rd_T32 x1 x5).f1.f0) ((rd_T32 x1 x5).f1.f1) ((rd_T32 x1 x5).f1.f2) ((rd_T32 x1 x5).f1.f3) ((rd_T32 x1 x5).f1.f4) ((rd_T32 x1 x5).f1.f5) ((rd_T32 x1 x5).f1.f6) ((rd_T32 x1 x5).f1.f7)).bind fun t181 => (if t181 = true then (laws_eqItemS.l0 k x0 x1 (wrap64 (x5 + 1))) else (some false))) else (none)) else (none)) else (some true)
def laws_eqItemS.f (k : Nat) (l0 : List (S32)) (l1 : List (S32)) : Option (Bool) := if (l0.length : Int) = (l1.length : Int) then (laws_eqItemS.l0 k l0 l1 0) else (some false)
theorem laws_eqItemS.mono_l : ∀ k, (∀ y0 y1 y2, LeO (laws_eqItemS.l0 k y0 y1 y2) (laws_eqItemS.l0 (k + 1) y0 y1 y2))
 | 0 => fun _ _ _ r h => by simp [laws_eqItemS.l0] at h
 | k + 1 => by
  have ih0 := laws_eqItemS.mono_l k
  ·intro y0 y1 y2
   unfold laws_eqItemS.l0
   repeat' first
   | (with_reducible exact ih0 _ _ _)
   | (with_reducible exact LeO.refl _)
   | (with_reducible exact LeO.none _)
   | (with_reducible refine LeO.ite ?_ ?_)
   | (with_reducible refine LeO.bind ?_ (fun _ => ?_))
   | exact ih0 _ _ _
   | exact LeO.none _
   | refine LeO.ite ?_ ?_
   | refine LeO.bind ?_ (fun _ => ?_)
theorem laws_eqItemS.mono : ∀ a0 a1 k, LeO (laws_eqItemS.f k a0 a1) (laws_eqItemS.f (k + 1) a0 a1) := by
 intro a0 a1 k
 have ih0 := laws_eqItemS.mono_l k
 unfold laws_eqItemS.f
 repeat' first
   | (with_reducible exact ih0 _ _ _)
   | (with_reducible exact LeO.refl _)
   | (with_reducible exact LeO.none _)
   | (with_reducible refine LeO.ite ?_ ?_)
   | (with_reducible refine LeO.bind ?_ (fun _ => ?_))
   | exact ih0 _ _ _
   | exact LeO.none _
   | refine LeO.ite ?_ ?_
   | refine LeO.bind ?_ (fun _ => ?_)
def laws_eqItemS.T6 : Bool × List (List Nat × List Nat) := (true, [([], []), ([], []), ([0, 1], [0, 1]), ([2], [2]), ([], []), ([], []), ([4, 5], [4, 5]), ([6], [6]), ([3, 7], [3, 7]), ([8], [8])])
def laws_eqItemS.B6 : List Nat := [0, 0, 3, 7, 0, 0, 48, 112, 255, 511]
theorem laws_eqItemS.tab6 : rtab .any (opsOf Try.f22 6) = laws_eqItemS.T6 := by kernel_rfl
theorem laws_eqItemS.bits6 : waitsOk laws_eqItemS.T6.2 laws_eqItemS.B6 = true := by kernel_rfl
set_option maxHeartbeats 8000000 in
set_option maxRecDepth 100000 in
theorem laws_eqItemS.calls (k : Nat) (A0 : Option Addr) (c0 : Nat) (l0 : List (S32)) (A1 : Option Addr) (c1 : Nat) (l1 : List (S32)) (r : Bool) (w : World) (hr0 : Kd.C k32 w A0 l0.length l0) (hc0 : l0.length ≤ c0) (hr1 : Kd.C k32 w A1 l1.length l1) (hc1 : l1.length ≤ c1) (h : laws_eqItemS.f k l0 l1 = some r) :
  Calls Try.prog 22 #[.slice A0 l0.length c0, .slice A1 l1.length c1] w fun e w' => e = .returned (.bool r) ∧ Below w.heap.size w w' := by
 have hu32 := Try.underlying32
 have HR0 := Aside0.mk hr0
 have HC0 := Aside0.mk hc0
 clear hr0 hc0
 have HR1 := Aside0.mk hr1
 have HC1 := Aside0.mk hc1
 clear hr1 hc1
 have HB := ak (Below.refl w.heap.size w)
 have H : (if (l0.length : Int) = (l1.length : Int) then (laws_eqItemS.l0 k l0 l1 0) else (some false)) = some r := h
 clear h
 by_cases c3 : (l0.length : Int) = (l1.length : Int)
 ·rw [if_pos c3] at H
  have c3b0 : ((l0.length : Int) == (l1.length : Int)) = true := beq_iff_eq.mpr c3
  have c3b1 : ((l0.length : Int) != (l1.length : Int)) = false := bne_eq_false_iff_eq.mpr c3
  have c3b2 : (l0.length == l1.length) = true := by first | simpa using c3 | (simp at c3 ⊢; omega)
  clear c3
  have H' := Aside0.mk H
  clear H
  go_enter Try.func22, Try.ntmps22
  go_wp2
  go_loopg [5] k (fun kq v5 w' => ∃ (x5_1 : Int), v5 = .int .i64 x5_1 ∧ Aside0 (laws_eqItemS.l0 kq l0 l1 x5_1 = some r) ∧ Aside0 (kq ≤ k) ∧ Aside0 (Below w.heap.size w w'))
  case atStart => exact ⟨(0), (by first | rfl | (simp; done) | (simp [*]; done)), H', ⟨Nat.le_refl _⟩, ⟨by exact lG HB⟩⟩
  case round =>
   clear H'
   try clear c1
   try clear c2
   try clear p2
   try clear c3
   try clear c3b0
   try clear c3b1
   try clear c3b2
   obtain ⟨x5_1, rfl, HA, HK1, HB⟩ := hrel
   cases gk with
   | zero => exact absurd HA.out (by simp [laws_eqItemS.l0])
   | succ k1 =>
    have H := HA.out
    clear HA
    simp only [laws_eqItemS.l0] at H
    by_cases c4 : x5_1 < (l0.length : Int)
    ·rw [if_pos c4] at H
     have c4b0 : decide (x5_1 < (l0.length : Int)) = true := decide_eq_true c4
     clear c4
     by_cases c5 : 0 ≤ x5_1
     ·rw [if_pos c5] at H
      have c5b0 : decide (0 ≤ x5_1) = true := decide_eq_true c5
      clear c5
      by_cases c6 : x5_1 < (l1.length : Int)
      ·rw [if_pos c6] at H
       have c6b0 : decide (x5_1 < (l1.length : Int)) = true := decide_eq_true c6
       clear c6
       replace H := Option.bind_eq_some_iff.mp H
       obtain ⟨t181, A70, H⟩ := H
       replace H : (if t181 = true then (laws_eqItemS.l0 k1 l0 l1 (wrap64 (x5_1 + 1))) else (some false)) = some r := H
       have A7 := Aside0.mk A70
       clear A70
       by_cases c8 : t181 = true
       ·subst c8
        have H1 : (laws_eqItemS.l0 k1 l0 l1 (wrap64 (x5_1 + 1))) = some r := by rw [if_pos rfl] at H; exact H
        clear H
        have H := H1
        clear H1
        have H' := Aside0.mk H
        clear H
        try go_wp2
        replace HB := ak (below_drew1 HB.out)
        have p179 : 0 ≤ (x5_1 : Int) := of_decide_eq_true (by first | (with_reducible assumption) | assumption)
        have q179 : x5_1 < (l0.length : Int) := of_decide_eq_true (by first | (with_reducible assumption) | assumption)
        obtain ⟨ad179, e179, hx179_0, hx179_1, hx179_2, hx179_3, hx179_4, hx179_5, hx179_6, hx179_7, hx179_8⟩ := at_T32 HR0.out x5_1 p179 q179
        have hw179_8 := hx179_8
        have hw179_7 := hx179_7
        have hw179_6 := hx179_6
        have hw179_5 := hx179_5
        have hw179_4 := hx179_4
        have hw179_3 := hx179_3
        have hw179_2 := hx179_2
        have hw179_1 := hx179_1
        have hw179_0 := hx179_0
        cases e179
        replace hx179_0 := (HB.out.cell (World.block_lt_of_cell? w _ hx179_0)).trans hx179_0
        replace hx179_1 := (HB.out.cell (World.block_lt_of_cell? w _ hx179_1)).trans hx179_1
        replace hx179_2 := (HB.out.cell (World.block_lt_of_cell? w _ hx179_2)).trans hx179_2
        replace hx179_3 := (HB.out.cell (World.block_lt_of_cell? w _ hx179_3)).trans hx179_3
        replace hx179_4 := (HB.out.cell (World.block_lt_of_cell? w _ hx179_4)).trans hx179_4
        replace hx179_5 := (HB.out.cell (World.block_lt_of_cell? w _ hx179_5)).trans hx179_5
        replace hx179_6 := (HB.out.cell (World.block_lt_of_cell? w _ hx179_6)).trans hx179_6
        replace hx179_7 := (HB.out.cell (World.block_lt_of_cell? w _ hx179_7)).trans hx179_7
        replace hx179_8 := (HB.out.cell (World.block_lt_of_cell? w _ hx179_8)).trans hx179_8
        replace p179 := eq_true p179
        replace q179 := eq_true q179
        have p180 : 0 ≤ (x5_1 : Int) := of_decide_eq_true (by first | (with_reducible assumption) | assumption)
        have q180 : x5_1 < (l1.length : Int) := of_decide_eq_true (by first | (with_reducible assumption) | assumption)
        obtain ⟨ad180, e180, hx180_0, hx180_1, hx180_2, hx180_3, hx180_4, hx180_5, hx180_6, hx180_7, hx180_8⟩ := at_T32 HR1.out x5_1 p180 q180
        have hw180_8 := hx180_8
        have hw180_7 := hx180_7
        have hw180_6 := hx180_6
        have hw180_5 := hx180_5
        have hw180_4 := hx180_4
        have hw180_3 := hx180_3
        have hw180_2 := hx180_2
        have hw180_1 := hx180_1
        have hw180_0 := hx180_0
        cases e180
        replace hx180_0 := (HB.out.cell (World.block_lt_of_cell? w _ hx180_0)).trans hx180_0
        replace hx180_1 := (HB.out.cell (World.block_lt_of_cell? w _ hx180_1)).trans hx180_1
        replace hx180_2 := (HB.out.cell (World.block_lt_of_cell? w _ hx180_2)).trans hx180_2
        replace hx180_3 := (HB.out.cell (World.block_lt_of_cell? w _ hx180_3)).trans hx180_3
        replace hx180_4 := (HB.out.cell (World.block_lt_of_cell? w _ hx180_4)).trans hx180_4
        replace hx180_5 := (HB.out.cell (World.block_lt_of_cell? w _ hx180_5)).trans hx180_5
        replace hx180_6 := (HB.out.cell (World.block_lt_of_cell? w _ hx180_6)).trans hx180_6
        replace hx180_7 := (HB.out.cell (World.block_lt_of_cell? w _ hx180_7)).trans hx180_7
        replace hx180_8 := (HB.out.cell (World.block_lt_of_cell? w _ hx180_8)).trans hx180_8
        replace p180 := eq_true p180
        replace q180 := eq_true q180
        refine start_ (n := 10) (S := fun w' => w'.cell? (ad179.add ((x5_1).toNat * 9)) = some (.int .i64 ((rd_T32 l0 x5_1).f0)) ∧ w'.cell? ⟨(ad179.add ((x5_1).toNat * 9)).block, (ad179.add ((x5_1).toNat * 9)).off + 1, none⟩ = some (.int .i64 ((rd_T32 l0 x5_1).f1.f0)) ∧ w'.cell? ⟨(ad179.add ((x5_1).toNat * 9)).block, (ad179.add ((x5_1).toNat * 9)).off + 2, none⟩ = some (.int .i64 ((rd_T32 l0 x5_1).f1.f1)) ∧ w'.cell? ⟨(ad179.add ((x5_1).toNat * 9)).block, (ad179.add ((x5_1).toNat * 9)).off + 3, none⟩ = some (.int .i64 ((rd_T32 l0 x5_1).f1.f2)) ∧ w'.cell? ⟨(ad179.add ((x5_1).toNat * 9)).block, (ad179.add ((x5_1).toNat * 9)).off + 4, none⟩ = some (.int .i64 ((rd_T32 l0 x5_1).f1.f3)) ∧ w'.cell? ⟨(ad179.add ((x5_1).toNat * 9)).block, (ad179.add ((x5_1).toNat * 9)).off + 5, none⟩ = some (.int .i64 ((rd_T32 l0 x5_1).f1.f4)) ∧ w'.cell? ⟨(ad179.add ((x5_1).toNat * 9)).block, (ad179.add ((x5_1).toNat * 9)).off + 6, none⟩ = some (.string ((rd_T32 l0 x5_1).f1.f5)) ∧ w'.cell? ⟨(ad179.add ((x5_1).toNat * 9)).block, (ad179.add ((x5_1).toNat * 9)).off + 7, none⟩ = some (.string ((rd_T32 l0 x5_1).f1.f6)) ∧ w'.cell? ⟨(ad179.add ((x5_1).toNat * 9)).block, (ad179.add ((x5_1).toNat * 9)).off + 8, none⟩ = some (.string ((rd_T32 l0 x5_1).f1.f7)) ∧ w'.cell? (ad180.add ((x5_1).toNat * 9)) = some (.int .i64 ((rd_T32 l1 x5_1).f0)) ∧ w'.cell? ⟨(ad180.add ((x5_1).toNat * 9)).block, (ad180.add ((x5_1).toNat * 9)).off + 1, none⟩ = some (.int .i64 ((rd_T32 l1 x5_1).f1.f0)) ∧ w'.cell? ⟨(ad180.add ((x5_1).toNat * 9)).block, (ad180.add ((x5_1).toNat * 9)).off + 2, none⟩ = some (.int .i64 ((rd_T32 l1 x5_1).f1.f1)) ∧ w'.cell? ⟨(ad180.add ((x5_1).toNat * 9)).block, (ad180.add ((x5_1).toNat * 9)).off + 3, none⟩ = some (.int .i64 ((rd_T32 l1 x5_1).f1.f2)) ∧ w'.cell? ⟨(ad180.add ((x5_1).toNat * 9)).block, (ad180.add ((x5_1).toNat * 9)).off + 4, none⟩ = some (.int .i64 ((rd_T32 l1 x5_1).f1.f3)) ∧ w'.cell? ⟨(ad180.add ((x5_1).toNat * 9)).block, (ad180.add ((x5_1).toNat * 9)).off + 5, none⟩ = some (.int .i64 ((rd_T32 l1 x5_1).f1.f4)) ∧ w'.cell? ⟨(ad180.add ((x5_1).toNat * 9)).block, (ad180.add ((x5_1).toNat * 9)).off + 6, none⟩ = some (.string ((rd_T32 l1 x5_1).f1.f5)) ∧ w'.cell? ⟨(ad180.add ((x5_1).toNat * 9)).block, (ad180.add ((x5_1).toNat * 9)).off + 7, none⟩ = some (.string ((rd_T32 l1 x5_1).f1.f6)) ∧ w'.cell? ⟨(ad180.add ((x5_1).toNat * 9)).block, (ad180.add ((x5_1).toNat * 9)).off + 8, none⟩ = some (.string ((rd_T32 l1 x5_1).f1.f7))) (ds := []) #[f_,f_,f_,f_,f_,f_,f_,f_,f_,f_] (by kernel_rfl) rfl rfl ⟨((HB.out.cell (World.block_lt_of_cell? w _ hw179_0)).trans hw179_0), ((HB.out.cell (World.block_lt_of_cell? w _ hw179_1)).trans hw179_1), ((HB.out.cell (World.block_lt_of_cell? w _ hw179_2)).trans hw179_2), ((HB.out.cell (World.block_lt_of_cell? w _ hw179_3)).trans hw179_3), ((HB.out.cell (World.block_lt_of_cell? w _ hw179_4)).trans hw179_4), ((HB.out.cell (World.block_lt_of_cell? w _ hw179_5)).trans hw179_5), ((HB.out.cell (World.block_lt_of_cell? w _ hw179_6)).trans hw179_6), ((HB.out.cell (World.block_lt_of_cell? w _ hw179_7)).trans hw179_7), ((HB.out.cell (World.block_lt_of_cell? w _ hw179_8)).trans hw179_8), ((HB.out.cell (World.block_lt_of_cell? w _ hw180_0)).trans hw180_0), ((HB.out.cell (World.block_lt_of_cell? w _ hw180_1)).trans hw180_1), ((HB.out.cell (World.block_lt_of_cell? w _ hw180_2)).trans hw180_2), ((HB.out.cell (World.block_lt_of_cell? w _ hw180_3)).trans hw180_3), ((HB.out.cell (World.block_lt_of_cell? w _ hw180_4)).trans hw180_4), ((HB.out.cell (World.block_lt_of_cell? w _ hw180_5)).trans hw180_5), ((HB.out.cell (World.block_lt_of_cell? w _ hw180_6)).trans hw180_6), ((HB.out.cell (World.block_lt_of_cell? w _ hw180_7)).trans hw180_7), ((HB.out.cell (World.block_lt_of_cell? w _ hw180_8)).trans hw180_8)⟩ (fun hHeld => ?_); refine with_tabW laws_eqItemS.tab6 laws_eqItemS.bits6 (fun HT_ HW_ => ?_)
        generalize wr.drew = w9 at HB hx179_0 hx179_1 hx179_2 hx179_3 hx179_4 hx179_5 hx179_6 hx179_7 hx179_8 hx180_0 hx180_1 hx180_2 hx180_3 hx180_4 hx180_5 hx180_6 hx180_7 hx180_8 hHeld ⊢
        refine pu 0 17 (fb 10 1) HT_ ?_
        refine pu 1 18 (fb 10 3) HT_ ?_
        refine pu 2 19 (fb 10 7) HT_ ?_
        refine pu 4 21 (fb 10 23) HT_ ?_
        refine pu 5 22 (fb 10 55) HT_ ?_
        refine pu 6 23 (fb 10 119) HT_ ?_
        refine tk 3 20 (fb 10 127) HT_ HW_ hHeld ?_
        refine tk 7 24 (fb 10 255) HT_ HW_ hHeld ?_
        refine on 8 (some 25) (fb 10 511) HT_ (fun K hK => ?_)
        refine goes_ Try.func17 (by kernel_rfl) rfl #[.agg #[.int .i64 ((rd_T32 l0 x5_1).f0), .int .i64 ((rd_T32 l0 x5_1).f1.f0), .int .i64 ((rd_T32 l0 x5_1).f1.f1), .int .i64 ((rd_T32 l0 x5_1).f1.f2), .int .i64 ((rd_T32 l0 x5_1).f1.f3), .int .i64 ((rd_T32 l0 x5_1).f1.f4), .string ((rd_T32 l0 x5_1).f1.f5), .string ((rd_T32 l0 x5_1).f1.f6), .string ((rd_T32 l0 x5_1).f1.f7)], .agg #[.int .i64 ((rd_T32 l1 x5_1).f0), .int .i64 ((rd_T32 l1 x5_1).f1.f0), .int .i64 ((rd_T32 l1 x5_1).f1.f1), .int .i64 ((rd_T32 l1 x5_1).f1.f2), .int .i64 ((rd_T32 l1 x5_1).f1.f3), .int .i64 ((rd_T32 l1 x5_1).f1.f4), .string ((rd_T32 l1 x5_1).f1.f5), .string ((rd_T32 l1 x5_1).f1.f6), .string ((rd_T32 l1 x5_1).f1.f7)]] (by rfl) rfl rfl (by (try simp only [List.map_toArray, List.map_cons, List.map_nil]); first | done | rfl | (simp only [List.length_drop, List.length_take]; rfl)) ?_
        with_reducible refine (laws_eqItem.calls ((rd_T32 l0 x5_1).f0) ((rd_T32 l0 x5_1).f1.f0) ((rd_T32 l0 x5_1).f1.f1) ((rd_T32 l0 x5_1).f1.f2) ((rd_T32 l0 x5_1).f1.f3) ((rd_T32 l0 x5_1).f1.f4) ((rd_T32 l0 x5_1).f1.f5) ((rd_T32 l0 x5_1).f1.f6) ((rd_T32 l0 x5_1).f1.f7) ((rd_T32 l1 x5_1).f0) ((rd_T32 l1 x5_1).f1.f0) ((rd_T32 l1 x5_1).f1.f1) ((rd_T32 l1 x5_1).f1.f2) ((rd_T32 l1 x5_1).f1.f3) ((rd_T32 l1 x5_1).f1.f4) ((rd_T32 l1 x5_1).f1.f5) ((rd_T32 l1 x5_1).f1.f6) ((rd_T32 l1 x5_1).f1.f7) true _ A7.out).mono ?_
        rintro e w10 ⟨rfl, hb⟩
        refine ⟨_, rfl, ?_⟩
        replace HB := lB HB hb
        (try clear hb)
        (try clear hb2)
        (try clear hk)
        (try clear hi)
        refine hK.out _ _ ⟨((HB.out.cell (World.block_lt_of_cell? w _ hw179_0)).trans hw179_0), ((HB.out.cell (World.block_lt_of_cell? w _ hw179_1)).trans hw179_1), ((HB.out.cell (World.block_lt_of_cell? w _ hw179_2)).trans hw179_2), ((HB.out.cell (World.block_lt_of_cell? w _ hw179_3)).trans hw179_3), ((HB.out.cell (World.block_lt_of_cell? w _ hw179_4)).trans hw179_4), ((HB.out.cell (World.block_lt_of_cell? w _ hw179_5)).trans hw179_5), ((HB.out.cell (World.block_lt_of_cell? w _ hw179_6)).trans hw179_6), ((HB.out.cell (World.block_lt_of_cell? w _ hw179_7)).trans hw179_7), ((HB.out.cell (World.block_lt_of_cell? w _ hw179_8)).trans hw179_8), ((HB.out.cell (World.block_lt_of_cell? w _ hw180_0)).trans hw180_0), ((HB.out.cell (World.block_lt_of_cell? w _ hw180_1)).trans hw180_1), ((HB.out.cell (World.block_lt_of_cell? w _ hw180_2)).trans hw180_2), ((HB.out.cell (World.block_lt_of_cell? w _ hw180_3)).trans hw180_3), ((HB.out.cell (World.block_lt_of_cell? w _ hw180_4)).trans hw180_4), ((HB.out.cell (World.block_lt_of_cell? w _ hw180_5)).trans hw180_5), ((HB.out.cell (World.block_lt_of_cell? w _ hw180_6)).trans hw180_6), ((HB.out.cell (World.block_lt_of_cell? w _ hw180_7)).trans hw180_7), ((HB.out.cell (World.block_lt_of_cell? w _ hw180_8)).trans hw180_8)⟩ (fun hHeld => ?_)
        clear hK K
        refine nm ?_
        refine pu 9 26 (fb 10 1023) HT_ ?_
        refine done_ (done_of HT_.out (by kernel_rfl)) ?_
        try go_wp2
        go_roundg k1
        case measure => have := HK1.out; omega
        case rel => exact ⟨(wrap64 (x5_1 + 1)), (by first | rfl | (simp; done) | (simp [*]; done)), H', ⟨by have := HK1.out; omega⟩, ⟨by exact lG HB⟩⟩
       ·replace c8 := Bool.eq_false_iff.mpr c8
        subst c8
        have H1 : (some false) = some r := by rw [if_neg (show ¬ (false = true) by decide)] at H; exact H
        clear H
        have H := H1
        clear H1
        obtain rfl := Option.some.inj H
        try go_wp2
        replace HB := ak (below_drew1 HB.out)
        have p179 : 0 ≤ (x5_1 : Int) := of_decide_eq_true (by first | (with_reducible assumption) | assumption)
        have q179 : x5_1 < (l0.length : Int) := of_decide_eq_true (by first | (with_reducible assumption) | assumption)
        obtain ⟨ad179, e179, hx179_0, hx179_1, hx179_2, hx179_3, hx179_4, hx179_5, hx179_6, hx179_7, hx179_8⟩ := at_T32 HR0.out x5_1 p179 q179
        have hw179_8 := hx179_8
        have hw179_7 := hx179_7
        have hw179_6 := hx179_6
        have hw179_5 := hx179_5
        have hw179_4 := hx179_4
        have hw179_3 := hx179_3
        have hw179_2 := hx179_2
        have hw179_1 := hx179_1
        have hw179_0 := hx179_0
        cases e179
        replace hx179_0 := (HB.out.cell (World.block_lt_of_cell? w _ hx179_0)).trans hx179_0
        replace hx179_1 := (HB.out.cell (World.block_lt_of_cell? w _ hx179_1)).trans hx179_1
        replace hx179_2 := (HB.out.cell (World.block_lt_of_cell? w _ hx179_2)).trans hx179_2
        replace hx179_3 := (HB.out.cell (World.block_lt_of_cell? w _ hx179_3)).trans hx179_3
        replace hx179_4 := (HB.out.cell (World.block_lt_of_cell? w _ hx179_4)).trans hx179_4
        replace hx179_5 := (HB.out.cell (World.block_lt_of_cell? w _ hx179_5)).trans hx179_5
        replace hx179_6 := (HB.out.cell (World.block_lt_of_cell? w _ hx179_6)).trans hx179_6
        replace hx179_7 := (HB.out.cell (World.block_lt_of_cell? w _ hx179_7)).trans hx179_7
        replace hx179_8 := (HB.out.cell (World.block_lt_of_cell? w _ hx179_8)).trans hx179_8
        replace p179 := eq_true p179
        replace q179 := eq_true q179
        have p180 : 0 ≤ (x5_1 : Int) := of_decide_eq_true (by first | (with_reducible assumption) | assumption)
        have q180 : x5_1 < (l1.length : Int) := of_decide_eq_true (by first | (with_reducible assumption) | assumption)
        obtain ⟨ad180, e180, hx180_0, hx180_1, hx180_2, hx180_3, hx180_4, hx180_5, hx180_6, hx180_7, hx180_8⟩ := at_T32 HR1.out x5_1 p180 q180
        have hw180_8 := hx180_8
        have hw180_7 := hx180_7
        have hw180_6 := hx180_6
        have hw180_5 := hx180_5
        have hw180_4 := hx180_4
        have hw180_3 := hx180_3
        have hw180_2 := hx180_2
        have hw180_1 := hx180_1
        have hw180_0 := hx180_0
        cases e180
        replace hx180_0 := (HB.out.cell (World.block_lt_of_cell? w _ hx180_0)).trans hx180_0
        replace hx180_1 := (HB.out.cell (World.block_lt_of_cell? w _ hx180_1)).trans hx180_1
        replace hx180_2 := (HB.out.cell (World.block_lt_of_cell? w _ hx180_2)).trans hx180_2
        replace hx180_3 := (HB.out.cell (World.block_lt_of_cell? w _ hx180_3)).trans hx180_3
        replace hx180_4 := (HB.out.cell (World.block_lt_of_cell? w _ hx180_4)).trans hx180_4
        replace hx180_5 := (HB.out.cell (World.block_lt_of_cell? w _ hx180_5)).trans hx180_5
        replace hx180_6 := (HB.out.cell (World.block_lt_of_cell? w _ hx180_6)).trans hx180_6
        replace hx180_7 := (HB.out.cell (World.block_lt_of_cell? w _ hx180_7)).trans hx180_7
        replace hx180_8 := (HB.out.cell (World.block_lt_of_cell? w _ hx180_8)).trans hx180_8
        replace p180 := eq_true p180
        replace q180 := eq_true q180
        refine start_ (n := 10) (S := fun w' => w'.cell? (ad179.add ((x5_1).toNat * 9)) = some (.int .i64 ((rd_T32 l0 x5_1).f0)) ∧ w'.cell? ⟨(ad179.add ((x5_1).toNat * 9)).block, (ad179.add ((x5_1).toNat * 9)).off + 1, none⟩ = some (.int .i64 ((rd_T32 l0 x5_1).f1.f0)) ∧ w'.cell? ⟨(ad179.add ((x5_1).toNat * 9)).block, (ad179.add ((x5_1).toNat * 9)).off + 2, none⟩ = some (.int .i64 ((rd_T32 l0 x5_1).f1.f1)) ∧ w'.cell? ⟨(ad179.add ((x5_1).toNat * 9)).block, (ad179.add ((x5_1).toNat * 9)).off + 3, none⟩ = some (.int .i64 ((rd_T32 l0 x5_1).f1.f2)) ∧ w'.cell? ⟨(ad179.add ((x5_1).toNat * 9)).block, (ad179.add ((x5_1).toNat * 9)).off + 4, none⟩ = some (.int .i64 ((rd_T32 l0 x5_1).f1.f3)) ∧ w'.cell? ⟨(ad179.add ((x5_1).toNat * 9)).block, (ad179.add ((x5_1).toNat * 9)).off + 5, none⟩ = some (.int .i64 ((rd_T32 l0 x5_1).f1.f4)) ∧ w'.cell? ⟨(ad179.add ((x5_1).toNat * 9)).block, (ad179.add ((x5_1).toNat * 9)).off + 6, none⟩ = some (.string ((rd_T32 l0 x5_1).f1.f5)) ∧ w'.cell? ⟨(ad179.add ((x5_1).toNat * 9)).block, (ad179.add ((x5_1).toNat * 9)).off + 7, none⟩ = some (.string ((rd_T32 l0 x5_1).f1.f6)) ∧ w'.cell? ⟨(ad179.add ((x5_1).toNat * 9)).block, (ad179.add ((x5_1).toNat * 9)).off + 8, none⟩ = some (.string ((rd_T32 l0 x5_1).f1.f7)) ∧ w'.cell? (ad180.add ((x5_1).toNat * 9)) = some (.int .i64 ((rd_T32 l1 x5_1).f0)) ∧ w'.cell? ⟨(ad180.add ((x5_1).toNat * 9)).block, (ad180.add ((x5_1).toNat * 9)).off + 1, none⟩ = some (.int .i64 ((rd_T32 l1 x5_1).f1.f0)) ∧ w'.cell? ⟨(ad180.add ((x5_1).toNat * 9)).block, (ad180.add ((x5_1).toNat * 9)).off + 2, none⟩ = some (.int .i64 ((rd_T32 l1 x5_1).f1.f1)) ∧ w'.cell? ⟨(ad180.add ((x5_1).toNat * 9)).block, (ad180.add ((x5_1).toNat * 9)).off + 3, none⟩ = some (.int .i64 ((rd_T32 l1 x5_1).f1.f2)) ∧ w'.cell? ⟨(ad180.add ((x5_1).toNat * 9)).block, (ad180.add ((x5_1).toNat * 9)).off + 4, none⟩ = some (.int .i64 ((rd_T32 l1 x5_1).f1.f3)) ∧ w'.cell? ⟨(ad180.add ((x5_1).toNat * 9)).block, (ad180.add ((x5_1).toNat * 9)).off + 5, none⟩ = some (.int .i64 ((rd_T32 l1 x5_1).f1.f4)) ∧ w'.cell? ⟨(ad180.add ((x5_1).toNat * 9)).block, (ad180.add ((x5_1).toNat * 9)).off + 6, none⟩ = some (.string ((rd_T32 l1 x5_1).f1.f5)) ∧ w'.cell? ⟨(ad180.add ((x5_1).toNat * 9)).block, (ad180.add ((x5_1).toNat * 9)).off + 7, none⟩ = some (.string ((rd_T32 l1 x5_1).f1.f6)) ∧ w'.cell? ⟨(ad180.add ((x5_1).toNat * 9)).block, (ad180.add ((x5_1).toNat * 9)).off + 8, none⟩ = some (.string ((rd_T32 l1 x5_1).f1.f7))) (ds := []) #[f_,f_,f_,f_,f_,f_,f_,f_,f_,f_] (by kernel_rfl) rfl rfl ⟨((HB.out.cell (World.block_lt_of_cell? w _ hw179_0)).trans hw179_0), ((HB.out.cell (World.block_lt_of_cell? w _ hw179_1)).trans hw179_1), ((HB.out.cell (World.block_lt_of_cell? w _ hw179_2)).trans hw179_2), ((HB.out.cell (World.block_lt_of_cell? w _ hw179_3)).trans hw179_3), ((HB.out.cell (World.block_lt_of_cell? w _ hw179_4)).trans hw179_4), ((HB.out.cell (World.block_lt_of_cell? w _ hw179_5)).trans hw179_5), ((HB.out.cell (World.block_lt_of_cell? w _ hw179_6)).trans hw179_6), ((HB.out.cell (World.block_lt_of_cell? w _ hw179_7)).trans hw179_7), ((HB.out.cell (World.block_lt_of_cell? w _ hw179_8)).trans hw179_8), ((HB.out.cell (World.block_lt_of_cell? w _ hw180_0)).trans hw180_0), ((HB.out.cell (World.block_lt_of_cell? w _ hw180_1)).trans hw180_1), ((HB.out.cell (World.block_lt_of_cell? w _ hw180_2)).trans hw180_2), ((HB.out.cell (World.block_lt_of_cell? w _ hw180_3)).trans hw180_3), ((HB.out.cell (World.block_lt_of_cell? w _ hw180_4)).trans hw180_4), ((HB.out.cell (World.block_lt_of_cell? w _ hw180_5)).trans hw180_5), ((HB.out.cell (World.block_lt_of_cell? w _ hw180_6)).trans hw180_6), ((HB.out.cell (World.block_lt_of_cell? w _ hw180_7)).trans hw180_7), ((HB.out.cell (World.block_lt_of_cell? w _ hw180_8)).trans hw180_8)⟩ (fun hHeld => ?_); refine with_tabW laws_eqItemS.tab6 laws_eqItemS.bits6 (fun HT_ HW_ => ?_)
        generalize wr.drew = w11 at HB hx179_0 hx179_1 hx179_2 hx179_3 hx179_4 hx179_5 hx179_6 hx179_7 hx179_8 hx180_0 hx180_1 hx180_2 hx180_3 hx180_4 hx180_5 hx180_6 hx180_7 hx180_8 hHeld ⊢
        refine pu 0 17 (fb 10 1) HT_ ?_
        refine pu 1 18 (fb 10 3) HT_ ?_
        refine pu 2 19 (fb 10 7) HT_ ?_
        refine pu 4 21 (fb 10 23) HT_ ?_
        refine pu 5 22 (fb 10 55) HT_ ?_
        refine pu 6 23 (fb 10 119) HT_ ?_
        refine tk 3 20 (fb 10 127) HT_ HW_ hHeld ?_
        refine tk 7 24 (fb 10 255) HT_ HW_ hHeld ?_
        refine on 8 (some 25) (fb 10 511) HT_ (fun K hK => ?_)
        refine goes_ Try.func17 (by kernel_rfl) rfl #[.agg #[.int .i64 ((rd_T32 l0 x5_1).f0), .int .i64 ((rd_T32 l0 x5_1).f1.f0), .int .i64 ((rd_T32 l0 x5_1).f1.f1), .int .i64 ((rd_T32 l0 x5_1).f1.f2), .int .i64 ((rd_T32 l0 x5_1).f1.f3), .int .i64 ((rd_T32 l0 x5_1).f1.f4), .string ((rd_T32 l0 x5_1).f1.f5), .string ((rd_T32 l0 x5_1).f1.f6), .string ((rd_T32 l0 x5_1).f1.f7)], .agg #[.int .i64 ((rd_T32 l1 x5_1).f0), .int .i64 ((rd_T32 l1 x5_1).f1.f0), .int .i64 ((rd_T32 l1 x5_1).f1.f1), .int .i64 ((rd_T32 l1 x5_1).f1.f2), .int .i64 ((rd_T32 l1 x5_1).f1.f3), .int .i64 ((rd_T32 l1 x5_1).f1.f4), .string ((rd_T32 l1 x5_1).f1.f5), .string ((rd_T32 l1 x5_1).f1.f6), .string ((rd_T32 l1 x5_1).f1.f7)]] (by rfl) rfl rfl (by (try simp only [List.map_toArray, List.map_cons, List.map_nil]); first | done | rfl | (simp only [List.length_drop, List.length_take]; rfl)) ?_
        with_reducible refine (laws_eqItem.calls ((rd_T32 l0 x5_1).f0) ((rd_T32 l0 x5_1).f1.f0) ((rd_T32 l0 x5_1).f1.f1) ((rd_T32 l0 x5_1).f1.f2) ((rd_T32 l0 x5_1).f1.f3) ((rd_T32 l0 x5_1).f1.f4) ((rd_T32 l0 x5_1).f1.f5) ((rd_T32 l0 x5_1).f1.f6) ((rd_T32 l0 x5_1).f1.f7) ((rd_T32 l1 x5_1).f0) ((rd_T32 l1 x5_1).f1.f0) ((rd_T32 l1 x5_1).f1.f1) ((rd_T32 l1 x5_1).f1.f2) ((rd_T32 l1 x5_1).f1.f3) ((rd_T32 l1 x5_1).f1.f4) ((rd_T32 l1 x5_1).f1.f5) ((rd_T32 l1 x5_1).f1.f6) ((rd_T32 l1 x5_1).f1.f7) false _ A7.out).mono ?_
        rintro e w12 ⟨rfl, hb⟩
        refine ⟨_, rfl, ?_⟩
        replace HB := lB HB hb
        (try clear hb)
        (try clear hb2)
        (try clear hk)
        (try clear hi)
        refine hK.out _ _ ⟨((HB.out.cell (World.block_lt_of_cell? w _ hw179_0)).trans hw179_0), ((HB.out.cell (World.block_lt_of_cell? w _ hw179_1)).trans hw179_1), ((HB.out.cell (World.block_lt_of_cell? w _ hw179_2)).trans hw179_2), ((HB.out.cell (World.block_lt_of_cell? w _ hw179_3)).trans hw179_3), ((HB.out.cell (World.block_lt_of_cell? w _ hw179_4)).trans hw179_4), ((HB.out.cell (World.block_lt_of_cell? w _ hw179_5)).trans hw179_5), ((HB.out.cell (World.block_lt_of_cell? w _ hw179_6)).trans hw179_6), ((HB.out.cell (World.block_lt_of_cell? w _ hw179_7)).trans hw179_7), ((HB.out.cell (World.block_lt_of_cell? w _ hw179_8)).trans hw179_8), ((HB.out.cell (World.block_lt_of_cell? w _ hw180_0)).trans hw180_0), ((HB.out.cell (World.block_lt_of_cell? w _ hw180_1)).trans hw180_1), ((HB.out.cell (World.block_lt_of_cell? w _ hw180_2)).trans hw180_2), ((HB.out.cell (World.block_lt_of_cell? w _ hw180_3)).trans hw180_3), ((HB.out.cell (World.block_lt_of_cell? w _ hw180_4)).trans hw180_4), ((HB.out.cell (World.block_lt_of_cell? w _ hw180_5)).trans hw180_5), ((HB.out.cell (World.block_lt_of_cell? w _ hw180_6)).trans hw180_6), ((HB.out.cell (World.block_lt_of_cell? w _ hw180_7)).trans hw180_7), ((HB.out.cell (World.block_lt_of_cell? w _ hw180_8)).trans hw180_8)⟩ (fun hHeld => ?_)
        clear hK K
        refine nm ?_
        refine pu 9 26 (fb 10 1023) HT_ ?_
        refine done_ (done_of HT_.out (by kernel_rfl)) ?_
        try go_wp2
        go_ret
        exact ⟨ew, by exact lG HB⟩
      ·rw [if_neg c6] at H
       exact absurd H (by simp)
     ·rw [if_neg c5] at H
      exact absurd H (by simp)
    ·rw [if_neg c4] at H
     have c4b0 : decide (x5_1 < (l0.length : Int)) = false := decide_eq_false c4
     clear c4
     obtain rfl := Option.some.inj H
     go_wp2
     go_ret
     exact ⟨ew, by exact lG HB⟩
 ·rw [if_neg c3] at H
  have c3b0 : ((l0.length : Int) == (l1.length : Int)) = false := beq_eq_false_iff_ne.mpr c3
  have c3b1 : ((l0.length : Int) != (l1.length : Int)) = true := bne_iff_ne.mpr c3
  have c3b2 : (l0.length == l1.length) = false := by first | simpa using c3 | (simp at c3 ⊢; omega)
  obtain rfl := Option.some.inj H
  go_enter Try.func22, Try.ntmps22
  go_wp2
  go_ret
  exact ⟨ew, by exact lG HB⟩

/-! ### laws_FnExactItemsOk: function 5 -/
def laws_FnExactItemsOk.f (k : Nat) (l0 : List (S98)) : Option (Bool) := (laws_szItemS.f k l0 1048576).bind fun t182 => (if t182 < 0 then (some true) else ((laws_toItemS.f k l0).bind fun t183 => ((spec_ItemsOk.f k t183).bind fun t186 => ((laws_toItemS.f k l0).bind fun t187 => ((impl_ItemsOk.f k t187).bind fun t190 => (if (t190 != t186) = true then (some false) else ((laws_toItemS.f k l0).bind fun t191 => ((laws_eqItemS.f k t187 t191).bind fun t194 => (if t194 = true then (some true) else (some false))))))))))
theorem laws_FnExactItemsOk.mono : ∀ a0 k, LeO (laws_FnExactItemsOk.f k a0) (laws_FnExactItemsOk.f (k + 1) a0) := by
 intro a0 k
 unfold laws_FnExactItemsOk.f
 repeat' first
   | (with_reducible exact impl_ItemsOk.mono _ _)
   | (with_reducible exact laws_eqItemS.mono _ _ _)
   | (with_reducible exact laws_szItemS.mono _ _ _)
   | (with_reducible exact laws_toItemS.mono _ _)
   | (with_reducible exact spec_ItemsOk.mono _ _)
   | (with_reducible exact LeO.refl _)
   | (with_reducible exact LeO.none _)
   | (with_reducible refine LeO.ite ?_ ?_)
   | (with_reducible refine LeO.bind ?_ (fun _ => ?_))
   | exact impl_ItemsOk.mono _ _
   | exact laws_eqItemS.mono _ _ _
   | exact laws_szItemS.mono _ _ _
   | exact laws_toItemS.mono _ _
   | exact spec_ItemsOk.mono _ _
   | exact LeO.none _
   | refine LeO.ite ?_ ?_
   | refine LeO.bind ?_ (fun _ => ?_)
set_option maxHeartbeats 8000000 in
set_option maxRecDepth 100000 in
theorem laws_FnExactItemsOk.calls (k : Nat) (A0 : Option Addr) (c0 : Nat) (l0 : List (S98)) (r : Bool) (w : World) (hr0 : Kd.C k98 w A0 l0.length l0) (hc0 : l0.length ≤ c0) (h : laws_FnExactItemsOk.f k l0 = some r) :
  Calls Try.prog 5 #[.slice A0 l0.length c0] w fun e w' => e = .returned (.bool r) ∧ Below w.heap.size w w' := by
 have HR0 := Aside0.mk hr0
 have HC0 := Aside0.mk hc0
 clear hr0 hc0
 have HB := ak (Below.refl w.heap.size w)
 have H : ((laws_szItemS.f k l0 1048576).bind fun t182 => (if t182 < 0 then (some true) else ((laws_toItemS.f k l0).bind fun t183 => ((spec_ItemsOk.f k t183).bind fun t186 => ((laws_toItemS.f k l0).bind fun t187 => ((impl_ItemsOk.f k t187).bind fun t190 => (if (t190 != t186) = true then (some false) else ((laws_toItemS.f k l0).bind fun t191 => ((laws_eqItemS.f k t187 t191).bind fun t194 => (if t194 = true then (some true) else (some false))))))))))) = some r := h
 clear h
 replace H := Option.bind_eq_some_iff.mp H
 obtain ⟨t182, A20, H⟩ := H
 replace H : (if t182 < 0 then (some true) else ((laws_toItemS.f k l0).bind fun t183 => ((spec_ItemsOk.f k t183).bind fun t186 => ((laws_toItemS.f k l0).bind fun t187 => ((impl_ItemsOk.f k t187).bind fun t190 => (if (t190 != t186) = true then (some false) else ((laws_toItemS.f k l0).bind fun t191 => ((laws_eqItemS.f k t187 t191).bind fun t194 => (if t194 = true then (some true) else (some false)))))))))) = some r := H
 have A2 := Aside0.mk A20
 clear A20
 by_cases c3 : t182 < 0
 ·rw [if_pos c3] at H
  have c3b0 : decide (t182 < 0) = true := decide_eq_true c3
  clear c3
  obtain rfl := Option.some.inj H
  go_enter Try.func5, Try.ntmps5
  go_wp2_with (first | ((with_reducible refine gate_callee (f := 18) rfl ?_); refine gl (some 9) Try.func18 #[.slice A0 l0.length c0, .int .i64 1048576] ?_; (with_reducible refine (laws_szItemS.calls k _ _ l0 1048576 t182 _ ?side1 ?side2 A2.out).mono ?_); (case side1 => repeat (first | exact HR0.out | (with_reducible refine Kd.C_alloc ?_ _) | (with_reducible refine Kd.C_drewN ?_ _) | (with_reducible refine Kd.C_drew ?_))); (case side2 => exact HC0.out); rintro e w4 ⟨rfl, hb⟩; refine ⟨_, rfl, ?_⟩; replace HB := lB HB hb; (try clear hb); (try clear hk)))
  go_ret
  exact ⟨ew, by exact lG HB⟩
 ·rw [if_neg c3] at H
  have c3b0 : decide (t182 < 0) = false := decide_eq_false c3
  clear c3
  replace H := Option.bind_eq_some_iff.mp H
  obtain ⟨t183, A50, H⟩ := H
  replace H : ((spec_ItemsOk.f k t183).bind fun t186 => ((laws_toItemS.f k l0).bind fun t187 => ((impl_ItemsOk.f k t187).bind fun t190 => (if (t190 != t186) = true then (some false) else ((laws_toItemS.f k l0).bind fun t191 => ((laws_eqItemS.f k t187 t191).bind fun t194 => (if t194 = true then (some true) else (some false)))))))) = some r := H
  have A5 := Aside0.mk A50
  clear A50
  replace H := Option.bind_eq_some_iff.mp H
  obtain ⟨t186, A60, H⟩ := H
  replace H : ((laws_toItemS.f k l0).bind fun t187 => ((impl_ItemsOk.f k t187).bind fun t190 => (if (t190 != t186) = true then (some false) else ((laws_toItemS.f k l0).bind fun t191 => ((laws_eqItemS.f k t187 t191).bind fun t194 => (if t194 = true then (some true) else (some false))))))) = some r := H
  have A6 := Aside0.mk A60
  clear A60
  replace H := Option.bind_eq_some_iff.mp H
  obtain ⟨t187, A70, H⟩ := H
  replace H : ((impl_ItemsOk.f k t187).bind fun t190 => (if (t190 != t186) = true then (some false) else ((laws_toItemS.f k l0).bind fun t191 => ((laws_eqItemS.f k t187 t191).bind fun t194 => (if t194 = true then (some true) else (some false)))))) = some r := H
  have A7 := Aside0.mk A70
  clear A70
  replace H := Option.bind_eq_some_iff.mp H
  obtain ⟨t190, A80, H⟩ := H
  replace H : (if (t190 != t186) = true then (some false) else ((laws_toItemS.f k l0).bind fun t191 => ((laws_eqItemS.f k t187 t191).bind fun t194 => (if t194 = true then (some true) else (some false))))) = some r := H
  have A8 := Aside0.mk A80
  clear A80
  by_cases c9 : (t190 != t186) = true
  ·rw [if_pos c9] at H
   have c9b0 : (t190 != t186) = true := c9
   (try (have c9b1 : decide (t190 = t186) = false := by simpa using c9))
   (try (have c9b2 : (t190 == t186) = false := by simpa using c9))
   (try (have c9b3 : ¬ (t190 = t186) := by simpa using c9))
   clear c9
   obtain rfl := Option.some.inj H
   go_enter Try.func5, Try.ntmps5
   go_wp2_with (first | ((with_reducible refine gate_callee (f := 18) rfl ?_); refine gl (some 9) Try.func18 #[.slice A0 l0.length c0, .int .i64 1048576] ?_; (with_reducible refine (laws_szItemS.calls k _ _ l0 1048576 t182 _ ?side1 ?side2 A2.out).mono ?_); (case side1 => repeat (first | exact HR0.out | (with_reducible refine Kd.C_alloc ?_ _) | (with_reducible refine Kd.C_drewN ?_ _) | (with_reducible refine Kd.C_drew ?_))); (case side2 => exact HC0.out); rintro e w10 ⟨rfl, hb⟩; refine ⟨_, rfl, ?_⟩; replace HB := lB HB hb; (try clear hb); (try clear hk)) | ((with_reducible refine gate_callee (f := 20) rfl ?_); refine gl (some 13) Try.func20 #[.slice A0 l0.length c0] ?_; (with_reducible refine (laws_toItemS.calls k _ _ l0 t183 _ ?side1 ?side2 A5.out).mono ?_); (case side1 => exact cG (Kd.C_below HR0.out HB.out)); (case side2 => exact HC0.out); rintro e w11 ⟨v184, rfl, ho0, hb⟩; refine ⟨_, rfl, ?_⟩; replace HO185 := ak (Kd.R_lower ho0 (below_size (lG HB))); replace HB := lB HB hb; (try clear hb); (try clear hk); (try clear ho0); obtain ⟨Ao12, co12, eo12⟩ := Kd.R_slice HO185.out; subst eo12) | ((with_reducible refine gate_callee (f := 19) rfl ?_); refine gl (some 14) Try.func19 #[.slice Ao12 t183.length co12] ?_; (with_reducible refine (spec_ItemsOk.calls k _ _ t183 t186 _ ?side1 ?side2 A6.out).mono ?_); (case side1 => exact cG (Kd.R_reads' HO185.out).2.2); (case side2 => exact (Kd.R_reads' HO185.out).2.1); rintro e w13 ⟨rfl, hb⟩; refine ⟨_, rfl, ?_⟩; replace HO185 := rB HO185 hb; replace HB := lB HB hb; (try clear hb); (try clear hk)) | ((with_reducible refine gate_callee (f := 20) rfl ?_); refine gl (some 16) Try.func20 #[.slice A0 l0.length c0] ?_; (with_reducible refine (laws_toItemS.calls k _ _ l0 t187 _ ?side1 ?side2 A7.out).mono ?_); (case side1 => exact cG (Kd.C_below HR0.out HB.out)); (case side2 => exact HC0.out); rintro e w14 ⟨v188, rfl, ho0, hb⟩; refine ⟨_, rfl, ?_⟩; replace HO189 := ak (Kd.R_lower (Kd.R_new' ho0 (Kd.R_lt (rG HO185))) (below_size (lG HB))); replace HO185 := ak (Kd.R_elder' (rG HO185) (Kd.R_base ho0) hb); replace HB := lB HB hb; (try clear hb); (try clear hk); (try clear ho0); obtain ⟨Ao15, co15, eo15⟩ := Kd.R_slice HO189.out; subst eo15) | ((with_reducible refine gate_callee (f := 21) rfl ?_); refine gl (some 18) Try.func21 #[.slice Ao15 t187.length co15] ?_; (with_reducible refine (impl_ItemsOk.calls k _ _ t187 t190 _ ?side1 ?side2 A8.out).mono ?_); (case side1 => exact cG (Kd.R_reads' HO189.out).2.2); (case side2 => exact (Kd.R_reads' HO189.out).2.1); rintro e w16 ⟨rfl, hb⟩; refine ⟨_, rfl, ?_⟩; replace HO185 := rB HO185 hb; replace HO189 := rB HO189 hb; replace HB := lB HB hb; (try clear hb); (try clear hk)))
   go_ret
   exact ⟨ew, by exact lG HB⟩
  ·rw [if_neg c9] at H
   have c9b0 : (t190 != t186) = false := by simpa using c9
   (try (have c9b1 : decide (t190 = t186) = true := by simpa using c9))
   (try (have c9b2 : (t190 == t186) = true := by simpa using c9))
   clear c9
   replace H := Option.bind_eq_some_iff.mp H
   obtain ⟨t191, A170, H⟩ := H
   replace H : ((laws_eqItemS.f k t187 t191).bind fun t194 => (if t194 = true then (some true) else (some false))) = some r := H
   have A17 := Aside0.mk A170
   clear A170
   replace H := Option.bind_eq_some_iff.mp H
   obtain ⟨t194, A180, H⟩ := H
   replace H : (if t194 = true then (some true) else (some false)) = some r := H
   have A18 := Aside0.mk A180
   clear A180
   by_cases c19 : t194 = true
   ·subst c19
    have H1 : (some true) = some r := by rw [if_pos rfl] at H; exact H
    clear H
    have H := H1
    clear H1
    obtain rfl := Option.some.inj H
    go_enter Try.func5, Try.ntmps5
    go_wp2_with (first | ((with_reducible refine gate_callee (f := 18) rfl ?_); refine gl (some 9) Try.func18 #[.slice A0 l0.length c0, .int .i64 1048576] ?_; (with_reducible refine (laws_szItemS.calls k _ _ l0 1048576 t182 _ ?side1 ?side2 A2.out).mono ?_); (case side1 => repeat (first | exact HR0.out | (with_reducible refine Kd.C_alloc ?_ _) | (with_reducible refine Kd.C_drewN ?_ _) | (with_reducible refine Kd.C_drew ?_))); (case side2 => exact HC0.out); rintro e w20 ⟨rfl, hb⟩; refine ⟨_, rfl, ?_⟩; replace HB := lB HB hb; (try clear hb); (try clear hk)) | ((with_reducible refine gate_callee (f := 20) rfl ?_); refine gl (some 13) Try.func20 #[.slice A0 l0.length c0] ?_; (with_reducible refine (laws_toItemS.calls k _ _ l0 t183 _ ?side1 ?side2 A5.out).mono ?_); (case side1 => exact cG (Kd.C_below HR0.out HB.out)); (case side2 => exact HC0.out); rintro e w21 ⟨v184, rfl, ho0, hb⟩; refine ⟨_, rfl, ?_⟩; replace HO185 := ak (Kd.R_lower ho0 (below_size (lG HB))); replace HB := lB HB hb; (try clear hb); (try clear hk); (try clear ho0); obtain ⟨Ao22, co22, eo22⟩ := Kd.R_slice HO185.out; subst eo22) | ((with_reducible refine gate_callee (f := 19) rfl ?_); refine gl (some 14) Try.func19 #[.slice Ao22 t183.length co22] ?_; (with_reducible refine (spec_ItemsOk.calls k _ _ t183 t186 _ ?side1 ?side2 A6.out).mono ?_); (case side1 => exact cG (Kd.R_reads' HO185.out).2.2); (case side2 => exact (Kd.R_reads' HO185.out).2.1); rintro e w23 ⟨rfl, hb⟩; refine ⟨_, rfl, ?_⟩; replace HO185 := rB HO185 hb; replace HB := lB HB hb; (try clear hb); (try clear hk)) | ((with_reducible refine gate_callee (f := 20) rfl ?_); refine gl (some 16) Try.func20 #[.slice A0 l0.length c0] ?_; (with_reducible refine (laws_toItemS.calls k _ _ l0 t187 _ ?side1 ?side2 A7.out).mono ?_); (case side1 => exact cG (Kd.C_below HR0.out HB.out)); (case side2 => exact HC0.out); rintro e w24 ⟨v188, rfl, ho0, hb⟩; refine ⟨_, rfl, ?_⟩; replace HO189 := ak (Kd.R_lower (Kd.R_new' ho0 (Kd.R_lt (rG HO185))) (below_size (lG HB))); replace HO185 := ak (Kd.R_elder' (rG HO185) (Kd.R_base ho0) hb); replace HB := lB HB hb; (try clear hb); (try clear hk); (try clear ho0); obtain ⟨Ao25, co25, eo25⟩ := Kd.R_slice HO189.out; subst eo25) | ((with_reducible refine gate_callee (f := 21) rfl ?_); refine gl (some 18) Try.func21 #[.slice Ao25 t187.length co25] ?_; (with_reducible refine (impl_ItemsOk.calls k _ _ t187 t190 _ ?side1 ?side2 A8.out).mono ?_); (case side1 => exact cG (Kd.R_reads' HO189.out).2.2); (case side2 => exact (Kd.R_reads' HO189.out).2.1); rintro e w26 ⟨rfl, hb⟩; refine ⟨_, rfl, ?_⟩; replace HO185 := rB HO185 hb; replace HO189 := rB HO189 hb; replace HB := lB HB hb; (try clear hb); (try clear hk)) | ((with_reducible refine gate_callee (f := 20) rfl ?_); refine gl (some 24) Try.func20 #[.slice A0 l0.length c0] ?_; (with_reducible refine (laws_toItemS.calls k _ _ l0 t191 _ ?side1 ?side2 A17.out).mono ?_); (case side1 => exact cG (Kd.C_below HR0.out HB.out)); (case side2 => exact HC0.out); rintro e w27 ⟨v192, rfl, ho0, hb⟩; refine ⟨_, rfl, ?_⟩; replace HO193 := ak (Kd.R_lower (Kd.R_new' (Kd.R_new' ho0 (Kd.R_lt (rG HO185))) (Kd.R_lt (rG HO189))) (below_size (lG HB))); replace HO185 := ak (Kd.R_elder' (rG HO185) (Kd.R_base ho0) hb); replace HO189 := ak (Kd.R_elder' (rG HO189) (Kd.R_base ho0) hb); replace HB := lB HB hb; (try clear hb); (try clear hk); (try clear ho0); obtain ⟨Ao28, co28, eo28⟩ := Kd.R_slice HO193.out; subst eo28) | ((with_reducible refine gate_callee (f := 22) rfl ?_); refine gl (some 25) Try.func22 #[.slice Ao25 t187.length co25, .slice Ao28 t191.length co28] ?_; (with_reducible refine (laws_eqItemS.calls k _ _ t187 _ _ t191 true _ ?side1 ?side2 ?side3 ?side4 A18.out).mono ?_); (case side1 => exact cG (Kd.R_reads' HO189.out).2.2); (case side2 => exact (Kd.R_reads' HO189.out).2.1); (case side3 => exact cG (Kd.R_reads' HO193.out).2.2); (case side4 => exact (Kd.R_reads' HO193.out).2.1); rintro e w29 ⟨rfl, hb⟩; refine ⟨_, rfl, ?_⟩; replace HO185 := rB HO185 hb; replace HO189 := rB HO189 hb; replace HO193 := rB HO193 hb; replace HB := lB HB hb; (try clear hb); (try clear hk)))
    go_ret
    exact ⟨ew, by exact lG HB⟩
   ·replace c19 := Bool.eq_false_iff.mpr c19
    subst c19
    have H1 : (some false) = some r := by rw [if_neg (show ¬ (false = true) by decide)] at H; exact H
    clear H
    have H := H1
    clear H1
    obtain rfl := Option.some.inj H
    go_enter Try.func5, Try.ntmps5
    go_wp2_with (first | ((with_reducible refine gate_callee (f := 18) rfl ?_); refine gl (some 9) Try.func18 #[.slice A0 l0.length c0, .int .i64 1048576] ?_; (with_reducible refine (laws_szItemS.calls k _ _ l0 1048576 t182 _ ?side1 ?side2 A2.out).mono ?_); (case side1 => repeat (first | exact HR0.out | (with_reducible refine Kd.C_alloc ?_ _) | (with_reducible refine Kd.C_drewN ?_ _) | (with_reducible refine Kd.C_drew ?_))); (case side2 => exact HC0.out); rintro e w30 ⟨rfl, hb⟩; refine ⟨_, rfl, ?_⟩; replace HB := lB HB hb; (try clear hb); (try clear hk)) | ((with_reducible refine gate_callee (f := 20) rfl ?_); refine gl (some 13) Try.func20 #[.slice A0 l0.length c0] ?_; (with_reducible refine (laws_toItemS.calls k _ _ l0 t183 _ ?side1 ?side2 A5.out).mono ?_); (case side1 => exact cG (Kd.C_below HR0.out HB.out)); (case side2 => exact HC0.out); rintro e w31 ⟨v184, rfl, ho0, hb⟩; refine ⟨_, rfl, ?_⟩; replace HO185 := ak (Kd.R_lower ho0 (below_size (lG HB))); replace HB := lB HB hb; (try clear hb); (try clear hk); (try clear ho0); obtain ⟨Ao32, co32, eo32⟩ := Kd.R_slice HO185.out; subst eo32) | ((with_reducible refine gate_callee (f := 19) rfl ?_); refine gl (some 14) Try.func19 #[.slice Ao32 t183.length co32] ?_; (with_reducible refine (spec_ItemsOk.calls k _ _ t183 t186 _ ?side1 ?side2 A6.out).mono ?_); (case side1 => exact cG (Kd.R_reads' HO185.out).2.2); (case side2 => exact (Kd.R_reads' HO185.out).2.1); rintro e w33 ⟨rfl, hb⟩; refine ⟨_, rfl, ?_⟩; replace HO185 := rB HO185 hb; replace HB := lB HB hb; (try clear hb); (try clear hk)) | ((with_reducible refine gate_callee (f := 20) rfl ?_); refine gl (some 16) Try.func20 #[.slice A0 l0.length c0] ?_; (with_reducible refine (laws_toItemS.calls k _ _ l0 t187 _ ?side1 ?side2 A7.out).mono ?_); (case side1 => exact cG (Kd.C_below HR0.out HB.out)); (case side2 => exact HC0.out); rintro e w34 ⟨v188, rfl, ho0, hb⟩; refine ⟨_, rfl, ?_⟩; replace HO189 := ak (Kd.R_lower (Kd.R_new' ho0 (Kd.R_lt (rG HO185))) (below_size (lG HB))); replace HO185 := ak (Kd.R_elder' (rG HO185) (Kd.R_base ho0) hb); replace HB := lB HB hb; (try clear hb); (try clear hk); (try clear ho0); obtain ⟨Ao35, co35, eo35⟩ := Kd.R_slice HO189.out; subst eo35) | ((with_reducible refine gate_callee (f := 21) rfl ?_); refine gl (some 18) Try.func21 #[.slice Ao35 t187.length co35] ?_; (with_reducible refine (impl_ItemsOk.calls k _ _ t187 t190 _ ?side1 ?side2 A8.out).mono ?_); (case side1 => exact cG (Kd.R_reads' HO189.out).2.2); (case side2 => exact (Kd.R_reads' HO189.out).2.1); rintro e w36 ⟨rfl, hb⟩; refine ⟨_, rfl, ?_⟩; replace HO185 := rB HO185 hb; replace HO189 := rB HO189 hb; replace HB := lB HB hb; (try clear hb); (try clear hk)) | ((with_reducible refine gate_callee (f := 20) rfl ?_); refine gl (some 24) Try.func20 #[.slice A0 l0.length c0] ?_; (with_reducible refine (laws_toItemS.calls k _ _ l0 t191 _ ?side1 ?side2 A17.out).mono ?_); (case side1 => exact cG (Kd.C_below HR0.out HB.out)); (case side2 => exact HC0.out); rintro e w37 ⟨v192, rfl, ho0, hb⟩; refine ⟨_, rfl, ?_⟩; replace HO193 := ak (Kd.R_lower (Kd.R_new' (Kd.R_new' ho0 (Kd.R_lt (rG HO185))) (Kd.R_lt (rG HO189))) (below_size (lG HB))); replace HO185 := ak (Kd.R_elder' (rG HO185) (Kd.R_base ho0) hb); replace HO189 := ak (Kd.R_elder' (rG HO189) (Kd.R_base ho0) hb); replace HB := lB HB hb; (try clear hb); (try clear hk); (try clear ho0); obtain ⟨Ao38, co38, eo38⟩ := Kd.R_slice HO193.out; subst eo38) | ((with_reducible refine gate_callee (f := 22) rfl ?_); refine gl (some 25) Try.func22 #[.slice Ao35 t187.length co35, .slice Ao38 t191.length co38] ?_; (with_reducible refine (laws_eqItemS.calls k _ _ t187 _ _ t191 false _ ?side1 ?side2 ?side3 ?side4 A18.out).mono ?_); (case side1 => exact cG (Kd.R_reads' HO189.out).2.2); (case side2 => exact (Kd.R_reads' HO189.out).2.1); (case side3 => exact cG (Kd.R_reads' HO193.out).2.2); (case side4 => exact (Kd.R_reads' HO193.out).2.1); rintro e w39 ⟨rfl, hb⟩; refine ⟨_, rfl, ?_⟩; replace HO185 := rB HO185 hb; replace HO189 := rB HO189 hb; replace HO193 := rB HO193 hb; replace HB := lB HB hb; (try clear hb); (try clear hk)))
    go_ret
    exact ⟨ew, by exact lG HB⟩

end Go.Proofs.Ytagkjeldheiejaa.PFnExactItemsOk
