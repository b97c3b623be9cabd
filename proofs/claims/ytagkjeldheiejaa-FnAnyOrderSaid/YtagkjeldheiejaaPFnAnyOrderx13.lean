-- Written by a program of mine (a turned copy of the kit's print): functions as plain Lean, their contracts.
import Derived.Test.YtagkjeldheiejaaPFnAnyOrderx2
import Derived.Test.YtagkjeldheiejaaPFnAnyOrderx12
import Derived.Test.YtagkjeldheiejaaVFnAnyOrder1
namespace Go.Proofs.Ytagkjeldheiejaa.PFnAnyOrder
open Go.RowKit Go.Proofs.YtagkjeldheiejaaW.PrintWords Go.Proofs.YtagkjeldheiejaaW.PrintLast Go.Proofs.YtagkjeldheiejaaW.PrintMore
attribute [local go_sem] max2_int min2_int max_two min_two max_three min_three max_four min_four   -- for this text's walks alone
set_option maxHeartbeats 8000000
set_option maxRecDepth 100000
set_option linter.unusedVariables false
set_option linter.unusedSimpArgs false
attribute [local go_sem high] eqA32
/-! ### spec_ItemsOk: function 19 -/
mutual
def spec_ItemsOk.l0 : Nat → List (S32) → Int → Option (Bool)
 | 0, _, _ => none
 | k + 1, x0, x3 => if x3 < (x0.length : Int) then (if 0 ≤ x3 then ((spec_l01In.f ((rd_T32 x0 x3).f0) 1 1000000000).bind fun t395 => (if t395 = true then ((spec_RecOk.f k ((rd_T32 x0 x3).f1.f0) ((rd_T32 x0 x3).f1.f1) ((rd_T32 x0 x3).f1.f2) ((rd_T32 x0 x3).f1.f3) ((rd_T32 x0 x3).f1.f4) ((rd_T32 x0 x3).f1.f5) ((rd_T32 x0 x3).f1.f6) ((rd_T32 x0 x3).f1.f7)).bind fun t397 => (spec_ItemsOk.j1 k x0 x3 (!t397))) else (spec_ItemsOk.j1 k x0 x3 true))) else (none)) else (some (decide ((x0.length : Int) ≤ 200)))
def spec_ItemsOk.j1 : Nat → List (S32) → Int → Bool → Option (Bool)
 | 0, _, _, _ => none
 | k + 1, x0, x3, x26 => if x26 = true then (some false) else (spec_ItemsOk.l1 k x0 x3 0)
def spec_ItemsOk.l1 : Nat → List (S32) → Int → Int → Option (Bool)
 | 0, _, _, _ => none
 | k + 1, x0, x3, x4 => if x4 < x3 then (if 0 ≤ x4 then (if x4 < (x0.length : Int) then (if 0 ≤ x3 then (if x3 < (x0.length : Int) then (if ((rd_T32 x0 x4).f0) = ((rd_T32 x0 x3).f0) then (if (!(((rd_T32 x0 x4).f0) == ((rd_T32 x0 x3).f0)) || ((!(((rd_T32 x0 x4).f1.f0) == ((rd_T32 x0 x3).f1.f0)) || (!(((rd_T32 x0 x4).f1.f1) == ((rd_T32 x0 x3).f1.f1)) || (!(((rd_T32 x0 x4).f1.f2) == ((rd_T32 x0 x3).f1.f2)) || (!(((rd_T32 x0 x4).f1.f3) == ((rd_T32 x0 x3).f1.f3)) || (!(((rd_T32 x0 x4).f1.f4) == ((rd_T32 x0 x3).f1.f4)) || (!((((rd_T32 x0 x4).f1.f5).toList) == (((rd_T32 x0 x3).f1.f5).toList)) || (!((((rd_T32 x0 x4).f1.f6).toList) == (((rd_T32 x0 x3).f1.f6).toList)) || (!((((rd_T32 x0 x4).f1.f7).toList) == (((rd_T32 x0 x3).f1.f7).toList)))))))))))) = true then (some false) else (spec_ItemsOk.l1 k x0 x3 (wrap64 (x4 + 1)))) else (spec_ItemsOk.l1 k x0 x3 (wrap64 (x4 + 1)))) else (none)) else (none)) else (none)) else (none)) else (spec_ItemsOk.l0 k x0 (wrap64 (x3 + 1)))
end
def spec_ItemsOk.f (k : Nat) (l0 : List (S32)) : Option (Bool) := spec_ItemsOk.l0 k l0 0
theorem spec_ItemsOk.mono_l : ∀ k, (∀ y0 y1, LeO (spec_ItemsOk.l0 k y0 y1) (spec_ItemsOk.l0 (k + 1) y0 y1)) ∧ (∀ y0 y1 y2, LeO (spec_ItemsOk.j1 k y0 y1 y2) (spec_ItemsOk.j1 (k + 1) y0 y1 y2)) ∧ (∀ y0 y1 y2, LeO (spec_ItemsOk.l1 k y0 y1 y2) (spec_ItemsOk.l1 (k + 1) y0 y1 y2))
 | 0 => ⟨fun _ _ r h => by simp [spec_ItemsOk.l0] at h, fun _ _ _ r h => by simp [spec_ItemsOk.j1] at h, fun _ _ _ r h => by simp [spec_ItemsOk.l1] at h⟩
 | k + 1 => by
  obtain ⟨ih0, ih1, ih2⟩ := spec_ItemsOk.mono_l k
  refine ⟨?_, ?_, ?_⟩
  ·intro y0 y1
   unfold spec_ItemsOk.l0
   repeat' first
   | (with_reducible exact ih0 _ _)
   | (with_reducible exact ih1 _ _ _)
   | (with_reducible exact ih2 _ _ _)
   | (with_reducible exact spec_RecOk.mono _ _ _ _ _ _ _ _ _)
   | (with_reducible exact LeO.refl _)
   | (with_reducible exact LeO.none _)
   | (with_reducible refine LeO.ite ?_ ?_)
   | (with_reducible refine LeO.bind ?_ (fun _ => ?_))
   | exact ih0 _ _
   | exact ih1 _ _ _
   | exact ih2 _ _ _
   | exact spec_RecOk.mono _ _ _ _ _ _ _ _ _
   | exact LeO.none _
   | refine LeO.ite ?_ ?_
   | refine LeO.bind ?_ (fun _ => ?_)
  ·intro y0 y1 y2
   unfold spec_ItemsOk.j1
   repeat' first
   | (with_reducible exact ih0 _ _)
   | (with_reducible exact ih1 _ _ _)
   | (with_reducible exact ih2 _ _ _)
   | (with_reducible exact spec_RecOk.mono _ _ _ _ _ _ _ _ _)
   | (with_reducible exact LeO.refl _)
   | (with_reducible exact LeO.none _)
   | (with_reducible refine LeO.ite ?_ ?_)
   | (with_reducible refine LeO.bind ?_ (fun _ => ?_))
   | exact ih0 _ _
   | exact ih1 _ _ _
   | exact ih2 _ _ _
   | exact spec_RecOk.mono _ _ _ _ _ _ _ _ _
   | exact LeO.none _
   | refine LeO.ite ?_ ?_
   | refine LeO.bind ?_ (fun _ => ?_)
  ·intro y0 y1 y2
   unfold spec_ItemsOk.l1
   repeat' first
   | (with_reducible exact ih0 _ _)
   | (with_reducible exact ih1 _ _ _)
   | (with_reducible exact ih2 _ _ _)
   | (with_reducible exact spec_RecOk.mono _ _ _ _ _ _ _ _ _)
   | (with_reducible exact LeO.refl _)
   | (with_reducible exact LeO.none _)
   | (with_reducible refine LeO.ite ?_ ?_)
   | (with_reducible refine LeO.bind ?_ (fun _ => ?_))
   | exact ih0 _ _
   | exact ih1 _ _ _
   | exact ih2 _ _ _
   | exact spec_RecOk.mono _ _ _ _ _ _ _ _ _
   | exact LeO.none _
   | refine LeO.ite ?_ ?_
   | refine LeO.bind ?_ (fun _ => ?_)
theorem spec_ItemsOk.mono : ∀ a0 k, LeO (spec_ItemsOk.f k a0) (spec_ItemsOk.f (k + 1) a0) := by
 intro a0 k
 obtain ⟨ih0, ih1, ih2⟩ := spec_ItemsOk.mono_l k
 unfold spec_ItemsOk.f
 repeat' first
   | (with_reducible exact ih0 _ _)
   | (with_reducible exact ih1 _ _ _)
   | (with_reducible exact ih2 _ _ _)
   | (with_reducible exact spec_RecOk.mono _ _ _ _ _ _ _ _ _)
   | (with_reducible exact LeO.refl _)
   | (with_reducible exact LeO.none _)
   | (with_reducible refine LeO.ite ?_ ?_)
   | (with_reducible refine LeO.bind ?_ (fun _ => ?_))
   | exact ih0 _ _
   | exact ih1 _ _ _
   | exact ih2 _ _ _
   | exact spec_RecOk.mono _ _ _ _ _ _ _ _ _
   | exact LeO.none _
   | refine LeO.ite ?_ ?_
   | refine LeO.bind ?_ (fun _ => ?_)
theorem spec_ItemsOk.calls (k : Nat) (A0 : Option Addr) (c0 : Nat) (l0 : List (S32)) (r : Bool) (w : World) (hr0 : Kd.C k32 w A0 l0.length l0) (hc0 : l0.length ≤ c0) (h : spec_ItemsOk.f k l0 = some r) :
  Calls Try.prog 19 #[.slice A0 l0.length c0] w fun e w' => e = .returned (.bool r) ∧ Below w.heap.size w w' := by
 have hu23 := Try.underlying23
 have hu32 := Try.underlying32
 have HR0 := Aside0.mk hr0
 have HC0 := Aside0.mk hc0
 clear hr0 hc0
 have HB := ak (Below.refl w.heap.size w)
 have H : (spec_ItemsOk.l0 k l0 0) = some r := h
 clear h
 have H' := Aside0.mk H
 clear H
 go_enter Try.func19, Try.ntmps19
 go_wp2
 repeat (go_quiet (fail); try go_wp2)
 go_loopg [3] k (fun kq v3 w' => ∃ (x3_1 : Int), v3 = .int .i64 x3_1 ∧ Aside0 (spec_ItemsOk.l0 kq l0 x3_1 = some r) ∧ Aside0 (kq ≤ k) ∧ Aside0 (Below w.heap.size w w'))
 case atStart => exact ⟨_, rr, H', ⟨Nat.le_refl _⟩, ⟨by exact lG HB⟩⟩
 case round =>
  clear H'
  try clear c1
  obtain ⟨x3_1, rfl, HA, HK1, HB⟩ := hrel
  cases gk with
  | zero => exact absurd HA.out (by simp [spec_ItemsOk.l0])
  | succ k1 =>
   have H := HA.out
   clear HA
   simp only [spec_ItemsOk.l0] at H
   by_cases c2 : x3_1 < (l0.length : Int)
   ·rw [if_pos c2] at H
    have c2b0 : decide (x3_1 < (l0.length : Int)) = true := decide_eq_true c2
    clear c2
    have HC3 := Aside0.mk H
    clear H
    go_upto_region 4 with (fail)
    repeat (go_quiet (fail); go_upto_region 4 with (fail))
    go_cut [26] (fun v26 wc => ∃ (kq : Nat) (x26_2 : Bool), v26 = .bool x26_2 ∧ Aside0 (spec_ItemsOk.j1 kq l0 x3_1 x26_2 = some r) ∧ Aside0 (kq ≤ k1) ∧ Aside0 (Below w.heap.size w wc))
    case first =>
     have H := HC3.out
     clear HC3
     by_cases c4 : 0 ≤ x3_1
     ·rw [if_pos c4] at H
      have c4b0 : decide (0 ≤ x3_1) = true := decide_eq_true c4
      clear c4
      (first | rw [c4b0] | (simp only [i64_w, i32_w]; rw [c4b0]) | skip)
      obtain ⟨t395, A5, H⟩ := eb H
      try dsimp only at H
      by_cases c6 : t395 = true
      ·subst c6
       rw [if_pos rfl] at H
       obtain ⟨t397, A7, H⟩ := eb H
       try dsimp only at H
       have H' := Aside0.mk H
       clear H
       have p394 : 0 ≤ (x3_1 : Int) := oda
       have q394 : x3_1 < (l0.length : Int) := oda
       obtain ⟨ad394, e394, hx394_0, hx394_1, hx394_2, hx394_3, hx394_4, hx394_5, hx394_6, hx394_7, hx394_8⟩ := at_T32 HR0.out x3_1 p394 q394
       cases e394
       replace hx394_0 := (HB.out.cell (World.block_lt_of_cell? w _ hx394_0)).trans hx394_0
       replace hx394_1 := (HB.out.cell (World.block_lt_of_cell? w _ hx394_1)).trans hx394_1
       replace hx394_2 := (HB.out.cell (World.block_lt_of_cell? w _ hx394_2)).trans hx394_2
       replace hx394_3 := (HB.out.cell (World.block_lt_of_cell? w _ hx394_3)).trans hx394_3
       replace hx394_4 := (HB.out.cell (World.block_lt_of_cell? w _ hx394_4)).trans hx394_4
       replace hx394_5 := (HB.out.cell (World.block_lt_of_cell? w _ hx394_5)).trans hx394_5
       replace hx394_6 := (HB.out.cell (World.block_lt_of_cell? w _ hx394_6)).trans hx394_6
       replace hx394_7 := (HB.out.cell (World.block_lt_of_cell? w _ hx394_7)).trans hx394_7
       replace hx394_8 := (HB.out.cell (World.block_lt_of_cell? w _ hx394_8)).trans hx394_8
       replace p394 := eq_true p394
       replace q394 := eq_true q394
       go_wp2_with (first | (go_at_call 61; (with_reducible refine (spec_l01In.calls ((rd_T32 l0 x3_1).f0) 1 1000000000 true _ A5.out).mono ?_); rintro e w' ⟨rfl, ⟨nd, rfl⟩⟩; (try first | exact ⟨rfl, _, World.drewN_drewN _ _ _⟩ | exact ⟨rfl, _, Eq.trans (World.drewN_drewN _ _ _) (congrArg (World.drewN _) (Nat.add_assoc _ _ _))⟩); have p396 : 0 ≤ (x3_1 : Int) := oda; have q396 : x3_1 < (l0.length : Int) := oda; obtain ⟨ad396, e396, hx396_0, hx396_1, hx396_2, hx396_3, hx396_4, hx396_5, hx396_6, hx396_7, hx396_8⟩ := at_T32 HR0.out x3_1 p396 q396; obtain rfl : ad394 = ad396 := (by injection e396); replace hx396_0 := (HB.out.cell (World.block_lt_of_cell? w _ hx396_0)).trans hx396_0; replace hx396_1 := (HB.out.cell (World.block_lt_of_cell? w _ hx396_1)).trans hx396_1; replace hx396_2 := (HB.out.cell (World.block_lt_of_cell? w _ hx396_2)).trans hx396_2; replace hx396_3 := (HB.out.cell (World.block_lt_of_cell? w _ hx396_3)).trans hx396_3; replace hx396_4 := (HB.out.cell (World.block_lt_of_cell? w _ hx396_4)).trans hx396_4; replace hx396_5 := (HB.out.cell (World.block_lt_of_cell? w _ hx396_5)).trans hx396_5; replace hx396_6 := (HB.out.cell (World.block_lt_of_cell? w _ hx396_6)).trans hx396_6; replace hx396_7 := (HB.out.cell (World.block_lt_of_cell? w _ hx396_7)).trans hx396_7; replace hx396_8 := (HB.out.cell (World.block_lt_of_cell? w _ hx396_8)).trans hx396_8; replace p396 := eq_true p396; replace q396 := eq_true q396) | (go_at_call 27; (with_reducible refine (spec_RecOk.calls k1 ((rd_T32 l0 x3_1).f1.f0) ((rd_T32 l0 x3_1).f1.f1) ((rd_T32 l0 x3_1).f1.f2) ((rd_T32 l0 x3_1).f1.f3) ((rd_T32 l0 x3_1).f1.f4) ((rd_T32 l0 x3_1).f1.f5) ((rd_T32 l0 x3_1).f1.f6) ((rd_T32 l0 x3_1).f1.f7) t397 _ A7.out).mono ?_); rintro e w8 ⟨rfl, hb⟩; replace HB := lB HB hb; (try clear hb); (try clear hk)))
       repeat (go_quiet (first | (go_at_call 61; (with_reducible refine (spec_l01In.calls ((rd_T32 l0 x3_1).f0) 1 1000000000 true _ A5.out).mono ?_); rintro e w' ⟨rfl, ⟨nd, rfl⟩⟩; (try first | exact ⟨rfl, _, World.drewN_drewN _ _ _⟩ | exact ⟨rfl, _, Eq.trans (World.drewN_drewN _ _ _) (congrArg (World.drewN _) (Nat.add_assoc _ _ _))⟩); have p396 : 0 ≤ (x3_1 : Int) := oda; have q396 : x3_1 < (l0.length : Int) := oda; obtain ⟨ad396, e396, hx396_0, hx396_1, hx396_2, hx396_3, hx396_4, hx396_5, hx396_6, hx396_7, hx396_8⟩ := at_T32 HR0.out x3_1 p396 q396; obtain rfl : ad394 = ad396 := (by injection e396); replace hx396_0 := (HB.out.cell (World.block_lt_of_cell? w _ hx396_0)).trans hx396_0; replace hx396_1 := (HB.out.cell (World.block_lt_of_cell? w _ hx396_1)).trans hx396_1; replace hx396_2 := (HB.out.cell (World.block_lt_of_cell? w _ hx396_2)).trans hx396_2; replace hx396_3 := (HB.out.cell (World.block_lt_of_cell? w _ hx396_3)).trans hx396_3; replace hx396_4 := (HB.out.cell (World.block_lt_of_cell? w _ hx396_4)).trans hx396_4; replace hx396_5 := (HB.out.cell (World.block_lt_of_cell? w _ hx396_5)).trans hx396_5; replace hx396_6 := (HB.out.cell (World.block_lt_of_cell? w _ hx396_6)).trans hx396_6; replace hx396_7 := (HB.out.cell (World.block_lt_of_cell? w _ hx396_7)).trans hx396_7; replace hx396_8 := (HB.out.cell (World.block_lt_of_cell? w _ hx396_8)).trans hx396_8; replace p396 := eq_true p396; replace q396 := eq_true q396) | (go_at_call 27; (with_reducible refine (spec_RecOk.calls k1 ((rd_T32 l0 x3_1).f1.f0) ((rd_T32 l0 x3_1).f1.f1) ((rd_T32 l0 x3_1).f1.f2) ((rd_T32 l0 x3_1).f1.f3) ((rd_T32 l0 x3_1).f1.f4) ((rd_T32 l0 x3_1).f1.f5) ((rd_T32 l0 x3_1).f1.f6) ((rd_T32 l0 x3_1).f1.f7) t397 _ A7.out).mono ?_); rintro e w8 ⟨rfl, hb⟩; replace HB := lB HB hb; (try clear hb); (try clear hk))); try go_wp2_with (first | (go_at_call 61; (with_reducible refine (spec_l01In.calls ((rd_T32 l0 x3_1).f0) 1 1000000000 true _ A5.out).mono ?_); rintro e w' ⟨rfl, ⟨nd, rfl⟩⟩; (try first | exact ⟨rfl, _, World.drewN_drewN _ _ _⟩ | exact ⟨rfl, _, Eq.trans (World.drewN_drewN _ _ _) (congrArg (World.drewN _) (Nat.add_assoc _ _ _))⟩); have p396 : 0 ≤ (x3_1 : Int) := oda; have q396 : x3_1 < (l0.length : Int) := oda; obtain ⟨ad396, e396, hx396_0, hx396_1, hx396_2, hx396_3, hx396_4, hx396_5, hx396_6, hx396_7, hx396_8⟩ := at_T32 HR0.out x3_1 p396 q396; obtain rfl : ad394 = ad396 := (by injection e396); replace hx396_0 := (HB.out.cell (World.block_lt_of_cell? w _ hx396_0)).trans hx396_0; replace hx396_1 := (HB.out.cell (World.block_lt_of_cell? w _ hx396_1)).trans hx396_1; replace hx396_2 := (HB.out.cell (World.block_lt_of_cell? w _ hx396_2)).trans hx396_2; replace hx396_3 := (HB.out.cell (World.block_lt_of_cell? w _ hx396_3)).trans hx396_3; replace hx396_4 := (HB.out.cell (World.block_lt_of_cell? w _ hx396_4)).trans hx396_4; replace hx396_5 := (HB.out.cell (World.block_lt_of_cell? w _ hx396_5)).trans hx396_5; replace hx396_6 := (HB.out.cell (World.block_lt_of_cell? w _ hx396_6)).trans hx396_6; replace hx396_7 := (HB.out.cell (World.block_lt_of_cell? w _ hx396_7)).trans hx396_7; replace hx396_8 := (HB.out.cell (World.block_lt_of_cell? w _ hx396_8)).trans hx396_8; replace p396 := eq_true p396; replace q396 := eq_true q396) | (go_at_call 27; (with_reducible refine (spec_RecOk.calls k1 ((rd_T32 l0 x3_1).f1.f0) ((rd_T32 l0 x3_1).f1.f1) ((rd_T32 l0 x3_1).f1.f2) ((rd_T32 l0 x3_1).f1.f3) ((rd_T32 l0 x3_1).f1.f4) ((rd_T32 l0 x3_1).f1.f5) ((rd_T32 l0 x3_1).f1.f6) ((rd_T32 l0 x3_1).f1.f7) t397 _ A7.out).mono ?_); rintro e w8 ⟨rfl, hb⟩; replace HB := lB HB hb; (try clear hb); (try clear hk))))
       go_meet
       case rel => exact ⟨_, _, rr, H', ⟨by have := HK1.out; first | omega | exact Nat.le_refl _⟩, ⟨by exact lG HB⟩⟩
      ·replace c6 := Bool.eq_false_iff.mpr c6
       subst c6
       rw [if_neg (show ¬ (false = true) by decide)] at H
       have H' := Aside0.mk H
       clear H
       have p394 : 0 ≤ (x3_1 : Int) := oda
       have q394 : x3_1 < (l0.length : Int) := oda
       obtain ⟨ad394, e394, hx394_0, hx394_1, hx394_2, hx394_3, hx394_4, hx394_5, hx394_6, hx394_7, hx394_8⟩ := at_T32 HR0.out x3_1 p394 q394
       cases e394
       replace hx394_0 := (HB.out.cell (World.block_lt_of_cell? w _ hx394_0)).trans hx394_0
       replace hx394_1 := (HB.out.cell (World.block_lt_of_cell? w _ hx394_1)).trans hx394_1
       replace hx394_2 := (HB.out.cell (World.block_lt_of_cell? w _ hx394_2)).trans hx394_2
       replace hx394_3 := (HB.out.cell (World.block_lt_of_cell? w _ hx394_3)).trans hx394_3
       replace hx394_4 := (HB.out.cell (World.block_lt_of_cell? w _ hx394_4)).trans hx394_4
       replace hx394_5 := (HB.out.cell (World.block_lt_of_cell? w _ hx394_5)).trans hx394_5
       replace hx394_6 := (HB.out.cell (World.block_lt_of_cell? w _ hx394_6)).trans hx394_6
       replace hx394_7 := (HB.out.cell (World.block_lt_of_cell? w _ hx394_7)).trans hx394_7
       replace hx394_8 := (HB.out.cell (World.block_lt_of_cell? w _ hx394_8)).trans hx394_8
       replace p394 := eq_true p394
       replace q394 := eq_true q394
       go_wp2_with (first | (go_at_call 61; (with_reducible refine (spec_l01In.calls ((rd_T32 l0 x3_1).f0) 1 1000000000 false _ A5.out).mono ?_); rintro e w' ⟨rfl, ⟨nd, rfl⟩⟩; (try first | exact ⟨rfl, _, World.drewN_drewN _ _ _⟩ | exact ⟨rfl, _, Eq.trans (World.drewN_drewN _ _ _) (congrArg (World.drewN _) (Nat.add_assoc _ _ _))⟩)))
       repeat (go_quiet (first | (go_at_call 61; (with_reducible refine (spec_l01In.calls ((rd_T32 l0 x3_1).f0) 1 1000000000 false _ A5.out).mono ?_); rintro e w' ⟨rfl, ⟨nd, rfl⟩⟩; (try first | exact ⟨rfl, _, World.drewN_drewN _ _ _⟩ | exact ⟨rfl, _, Eq.trans (World.drewN_drewN _ _ _) (congrArg (World.drewN _) (Nat.add_assoc _ _ _))⟩))); try go_wp2_with (first | (go_at_call 61; (with_reducible refine (spec_l01In.calls ((rd_T32 l0 x3_1).f0) 1 1000000000 false _ A5.out).mono ?_); rintro e w' ⟨rfl, ⟨nd, rfl⟩⟩; (try first | exact ⟨rfl, _, World.drewN_drewN _ _ _⟩ | exact ⟨rfl, _, Eq.trans (World.drewN_drewN _ _ _) (congrArg (World.drewN _) (Nat.add_assoc _ _ _))⟩))))
       go_meet
       case rel => exact ⟨_, _, rr, H', ⟨by have := HK1.out; first | omega | exact Nat.le_refl _⟩, ⟨by exact lG HB⟩⟩
     ·rw [if_neg c4] at H
      exact absurd H (by simp)
    case rest =>
     clear HC3
     try clear c1
     try clear c2
     try clear c2b0
     try clear p2
     try clear p3
     try clear q3
     try clear hx3
     try clear c4
     try clear c4b0
     try clear c6
     try clear hx394_0
     try clear hx394_1
     try clear hx394_2
     try clear hx394_3
     try clear hx394_4
     try clear hx394_5
     try clear hx394_6
     try clear hx394_7
     try clear hx394_8
     try clear hx396_0
     try clear hx396_1
     try clear hx396_2
     try clear hx396_3
     try clear hx396_4
     try clear hx396_5
     try clear hx396_6
     try clear hx396_7
     try clear hx396_8
     try clear p394
     try clear p396
     try clear q394
     try clear q396
     obtain ⟨kq, x26_2, rfl, HA, HJ2, HB⟩ := hcut
     cases kq with
     | zero => exact absurd HA.out (by simp [spec_ItemsOk.j1])
     | succ kj2 =>
      have H := HA.out
      clear HA
      simp only [spec_ItemsOk.j1] at H
      by_cases c9 : x26_2 = true
      ·subst c9
       rw [if_pos rfl] at H
       obtain rfl := Option.some.inj H
       go_wp2
       repeat (go_quiet (fail); try go_wp2)
       go_ret
       exact ⟨ew, by exact lG HB⟩
      ·replace c9 := Bool.eq_false_iff.mpr c9
       subst c9
       rw [if_neg (show ¬ (false = true) by decide)] at H
       have H' := Aside0.mk H
       clear H
       go_wp2
       repeat (go_quiet (fail); try go_wp2)
       go_loopg [4] kj2 (fun kq v4 w' => ∃ (x4_3 : Int), v4 = .int .i64 x4_3 ∧ Aside0 (spec_ItemsOk.l1 kq l0 x3_1 x4_3 = some r) ∧ Aside0 (kq ≤ kj2) ∧ Aside0 (Below w.heap.size w w'))
       case atStart => exact ⟨_, rr, H', ⟨Nat.le_refl _⟩, ⟨by exact lG HB⟩⟩
       case round =>
        clear H'
        try clear c1
        try clear c2
        try clear c2b0
        try clear p2
        try clear p3
        try clear q3
        try clear hx3
        try clear c4
        try clear c4b0
        try clear c6
        try clear c9
        try clear hx394_0
        try clear hx394_1
        try clear hx394_2
        try clear hx394_3
        try clear hx394_4
        try clear hx394_5
        try clear hx394_6
        try clear hx394_7
        try clear hx394_8
        try clear hx396_0
        try clear hx396_1
        try clear hx396_2
        try clear hx396_3
        try clear hx396_4
        try clear hx396_5
        try clear hx396_6
        try clear hx396_7
        try clear hx396_8
        try clear p2
        try clear p3
        try clear p394
        try clear p396
        try clear q3
        try clear q394
        try clear q396
        obtain ⟨x4_3, rfl, HA, HK3, HB⟩ := hrel
        cases gk with
        | zero => exact absurd HA.out (by simp [spec_ItemsOk.l1])
        | succ k3 =>
         have H := HA.out
         clear HA
         simp only [spec_ItemsOk.l1] at H
         by_cases c10 : x4_3 < x3_1
         ·rw [if_pos c10] at H
          have c10b0 : decide (x4_3 < x3_1) = true := decide_eq_true c10
          clear c10
          by_cases c11 : 0 ≤ x4_3
          ·rw [if_pos c11] at H
           have c11b0 : decide (0 ≤ x4_3) = true := decide_eq_true c11
           clear c11
           by_cases c12 : x4_3 < (l0.length : Int)
           ·rw [if_pos c12] at H
            have c12b0 : decide (x4_3 < (l0.length : Int)) = true := decide_eq_true c12
            clear c12
            by_cases c13 : 0 ≤ x3_1
            ·rw [if_pos c13] at H
             have c13b0 : decide (0 ≤ x3_1) = true := decide_eq_true c13
             clear c13
             by_cases c14 : x3_1 < (l0.length : Int)
             ·rw [if_pos c14] at H
              have c14b0 : decide (x3_1 < (l0.length : Int)) = true := decide_eq_true c14
              clear c14
              by_cases c15 : ((rd_T32 l0 x4_3).f0) = ((rd_T32 l0 x3_1).f0)
              ·rw [if_pos c15] at H
               have c15b0 : (((rd_T32 l0 x4_3).f0) == ((rd_T32 l0 x3_1).f0)) = true := beq_iff_eq.mpr c15
               have c15b1 : (((rd_T32 l0 x4_3).f0) != ((rd_T32 l0 x3_1).f0)) = false := bne_eq_false_iff_eq.mpr c15
               clear c15
               by_cases c16 : (!(((rd_T32 l0 x4_3).f0) == ((rd_T32 l0 x3_1).f0)) || ((!(((rd_T32 l0 x4_3).f1.f0) == ((rd_T32 l0 x3_1).f1.f0)) || (!(((rd_T32 l0 x4_3).f1.f1) == ((rd_T32 l0 x3_1).f1.f1)) || (!(((rd_T32 l0 x4_3).f1.f2) == ((rd_T32 l0 x3_1).f1.f2)) || (!(((rd_T32 l0 x4_3).f1.f3) == ((rd_T32 l0 x3_1).f1.f3)) || (!(((rd_T32 l0 x4_3).f1.f4) == ((rd_T32 l0 x3_1).f1.f4)) || (!((((rd_T32 l0 x4_3).f1.f5).toList) == (((rd_T32 l0 x3_1).f1.f5).toList)) || (!((((rd_T32 l0 x4_3).f1.f6).toList) == (((rd_T32 l0 x3_1).f1.f6).toList)) || (!((((rd_T32 l0 x4_3).f1.f7).toList) == (((rd_T32 l0 x3_1).f1.f7).toList)))))))))))) = true
               ·rw [if_pos c16] at H
                have c16b0 : (!(((rd_T32 l0 x4_3).f0) == ((rd_T32 l0 x3_1).f0)) || ((!(((rd_T32 l0 x4_3).f1.f0) == ((rd_T32 l0 x3_1).f1.f0)) || (!(((rd_T32 l0 x4_3).f1.f1) == ((rd_T32 l0 x3_1).f1.f1)) || (!(((rd_T32 l0 x4_3).f1.f2) == ((rd_T32 l0 x3_1).f1.f2)) || (!(((rd_T32 l0 x4_3).f1.f3) == ((rd_T32 l0 x3_1).f1.f3)) || (!(((rd_T32 l0 x4_3).f1.f4) == ((rd_T32 l0 x3_1).f1.f4)) || (!((((rd_T32 l0 x4_3).f1.f5).toList) == (((rd_T32 l0 x3_1).f1.f5).toList)) || (!((((rd_T32 l0 x4_3).f1.f6).toList) == (((rd_T32 l0 x3_1).f1.f6).toList)) || (!((((rd_T32 l0 x4_3).f1.f7).toList) == (((rd_T32 l0 x3_1).f1.f7).toList)))))))))))) = true := c16
                clear c16
                obtain rfl := Option.some.inj H
                have p398 : 0 ≤ (x4_3 : Int) := oda
                have q398 : x4_3 < (l0.length : Int) := oda
                obtain ⟨ad398, e398, hx398_0, hx398_1, hx398_2, hx398_3, hx398_4, hx398_5, hx398_6, hx398_7, hx398_8⟩ := at_T32 HR0.out x4_3 p398 q398
                cases e398
                replace hx398_0 := (HB.out.cell (World.block_lt_of_cell? w _ hx398_0)).trans hx398_0
                replace hx398_1 := (HB.out.cell (World.block_lt_of_cell? w _ hx398_1)).trans hx398_1
                replace hx398_2 := (HB.out.cell (World.block_lt_of_cell? w _ hx398_2)).trans hx398_2
                replace hx398_3 := (HB.out.cell (World.block_lt_of_cell? w _ hx398_3)).trans hx398_3
                replace hx398_4 := (HB.out.cell (World.block_lt_of_cell? w _ hx398_4)).trans hx398_4
                replace hx398_5 := (HB.out.cell (World.block_lt_of_cell? w _ hx398_5)).trans hx398_5
                replace hx398_6 := (HB.out.cell (World.block_lt_of_cell? w _ hx398_6)).trans hx398_6
                replace hx398_7 := (HB.out.cell (World.block_lt_of_cell? w _ hx398_7)).trans hx398_7
                replace hx398_8 := (HB.out.cell (World.block_lt_of_cell? w _ hx398_8)).trans hx398_8
                replace p398 := eq_true p398
                replace q398 := eq_true q398
                have p399 : 0 ≤ (x3_1 : Int) := oda
                have q399 : x3_1 < (l0.length : Int) := oda
                obtain ⟨ad399, e399, hx399_0, hx399_1, hx399_2, hx399_3, hx399_4, hx399_5, hx399_6, hx399_7, hx399_8⟩ := at_T32 HR0.out x3_1 p399 q399
                obtain rfl : ad398 = ad399 := (by injection e399)
                replace hx399_0 := (HB.out.cell (World.block_lt_of_cell? w _ hx399_0)).trans hx399_0
                replace hx399_1 := (HB.out.cell (World.block_lt_of_cell? w _ hx399_1)).trans hx399_1
                replace hx399_2 := (HB.out.cell (World.block_lt_of_cell? w _ hx399_2)).trans hx399_2
                replace hx399_3 := (HB.out.cell (World.block_lt_of_cell? w _ hx399_3)).trans hx399_3
                replace hx399_4 := (HB.out.cell (World.block_lt_of_cell? w _ hx399_4)).trans hx399_4
                replace hx399_5 := (HB.out.cell (World.block_lt_of_cell? w _ hx399_5)).trans hx399_5
                replace hx399_6 := (HB.out.cell (World.block_lt_of_cell? w _ hx399_6)).trans hx399_6
                replace hx399_7 := (HB.out.cell (World.block_lt_of_cell? w _ hx399_7)).trans hx399_7
                replace hx399_8 := (HB.out.cell (World.block_lt_of_cell? w _ hx399_8)).trans hx399_8
                replace p399 := eq_true p399
                replace q399 := eq_true q399
                have p400 : 0 ≤ (x4_3 : Int) := oda
                have q400 : x4_3 < (l0.length : Int) := oda
                obtain ⟨ad400, e400, hx400_0, hx400_1, hx400_2, hx400_3, hx400_4, hx400_5, hx400_6, hx400_7, hx400_8⟩ := at_T32 HR0.out x4_3 p400 q400
                obtain rfl : ad398 = ad400 := (by injection e400)
                replace hx400_0 := (HB.out.cell (World.block_lt_of_cell? w _ hx400_0)).trans hx400_0
                replace hx400_1 := (HB.out.cell (World.block_lt_of_cell? w _ hx400_1)).trans hx400_1
                replace hx400_2 := (HB.out.cell (World.block_lt_of_cell? w _ hx400_2)).trans hx400_2
                replace hx400_3 := (HB.out.cell (World.block_lt_of_cell? w _ hx400_3)).trans hx400_3
                replace hx400_4 := (HB.out.cell (World.block_lt_of_cell? w _ hx400_4)).trans hx400_4
                replace hx400_5 := (HB.out.cell (World.block_lt_of_cell? w _ hx400_5)).trans hx400_5
                replace hx400_6 := (HB.out.cell (World.block_lt_of_cell? w _ hx400_6)).trans hx400_6
                replace hx400_7 := (HB.out.cell (World.block_lt_of_cell? w _ hx400_7)).trans hx400_7
                replace hx400_8 := (HB.out.cell (World.block_lt_of_cell? w _ hx400_8)).trans hx400_8
                replace p400 := eq_true p400
                replace q400 := eq_true q400
                have p401 : 0 ≤ (x3_1 : Int) := oda
                have q401 : x3_1 < (l0.length : Int) := oda
                obtain ⟨ad401, e401, hx401_0, hx401_1, hx401_2, hx401_3, hx401_4, hx401_5, hx401_6, hx401_7, hx401_8⟩ := at_T32 HR0.out x3_1 p401 q401
                obtain rfl : ad398 = ad401 := (by injection e401)
                replace hx401_0 := (HB.out.cell (World.block_lt_of_cell? w _ hx401_0)).trans hx401_0
                replace hx401_1 := (HB.out.cell (World.block_lt_of_cell? w _ hx401_1)).trans hx401_1
                replace hx401_2 := (HB.out.cell (World.block_lt_of_cell? w _ hx401_2)).trans hx401_2
                replace hx401_3 := (HB.out.cell (World.block_lt_of_cell? w _ hx401_3)).trans hx401_3
                replace hx401_4 := (HB.out.cell (World.block_lt_of_cell? w _ hx401_4)).trans hx401_4
                replace hx401_5 := (HB.out.cell (World.block_lt_of_cell? w _ hx401_5)).trans hx401_5
                replace hx401_6 := (HB.out.cell (World.block_lt_of_cell? w _ hx401_6)).trans hx401_6
                replace hx401_7 := (HB.out.cell (World.block_lt_of_cell? w _ hx401_7)).trans hx401_7
                replace hx401_8 := (HB.out.cell (World.block_lt_of_cell? w _ hx401_8)).trans hx401_8
                replace p401 := eq_true p401
                replace q401 := eq_true q401
                go_wp2
                repeat (go_quiet (fail); try go_wp2)
                all_goals first | (go_ret; exact ⟨ew, by exact lG HB⟩; done) | (exfalso; revert c16b0; simp [*]; done) | (exfalso; revert c16b0; simp [*]; intros; simp_all; done)
               ·rw [if_neg c16] at H
                have c16b0 : (!(((rd_T32 l0 x4_3).f0) == ((rd_T32 l0 x3_1).f0)) || ((!(((rd_T32 l0 x4_3).f1.f0) == ((rd_T32 l0 x3_1).f1.f0)) || (!(((rd_T32 l0 x4_3).f1.f1) == ((rd_T32 l0 x3_1).f1.f1)) || (!(((rd_T32 l0 x4_3).f1.f2) == ((rd_T32 l0 x3_1).f1.f2)) || (!(((rd_T32 l0 x4_3).f1.f3) == ((rd_T32 l0 x3_1).f1.f3)) || (!(((rd_T32 l0 x4_3).f1.f4) == ((rd_T32 l0 x3_1).f1.f4)) || (!((((rd_T32 l0 x4_3).f1.f5).toList) == (((rd_T32 l0 x3_1).f1.f5).toList)) || (!((((rd_T32 l0 x4_3).f1.f6).toList) == (((rd_T32 l0 x3_1).f1.f6).toList)) || (!((((rd_T32 l0 x4_3).f1.f7).toList) == (((rd_T32 l0 x3_1).f1.f7).toList)))))))))))) = false := by simpa using c16
                clear c16
                have H' := Aside0.mk H
                clear H
                have p398 : 0 ≤ (x4_3 : Int) := oda
                have q398 : x4_3 < (l0.length : Int) := oda
                obtain ⟨ad398, e398, hx398_0, hx398_1, hx398_2, hx398_3, hx398_4, hx398_5, hx398_6, hx398_7, hx398_8⟩ := at_T32 HR0.out x4_3 p398 q398
                cases e398
                replace hx398_0 := (HB.out.cell (World.block_lt_of_cell? w _ hx398_0)).trans hx398_0
                replace hx398_1 := (HB.out.cell (World.block_lt_of_cell? w _ hx398_1)).trans hx398_1
                replace hx398_2 := (HB.out.cell (World.block_lt_of_cell? w _ hx398_2)).trans hx398_2
                replace hx398_3 := (HB.out.cell (World.block_lt_of_cell? w _ hx398_3)).trans hx398_3
                replace hx398_4 := (HB.out.cell (World.block_lt_of_cell? w _ hx398_4)).trans hx398_4
                replace hx398_5 := (HB.out.cell (World.block_lt_of_cell? w _ hx398_5)).trans hx398_5
                replace hx398_6 := (HB.out.cell (World.block_lt_of_cell? w _ hx398_6)).trans hx398_6
                replace hx398_7 := (HB.out.cell (World.block_lt_of_cell? w _ hx398_7)).trans hx398_7
                replace hx398_8 := (HB.out.cell (World.block_lt_of_cell? w _ hx398_8)).trans hx398_8
                replace p398 := eq_true p398
                replace q398 := eq_true q398
                have p399 : 0 ≤ (x3_1 : Int) := oda
                have q399 : x3_1 < (l0.length : Int) := oda
                obtain ⟨ad399, e399, hx399_0, hx399_1, hx399_2, hx399_3, hx399_4, hx399_5, hx399_6, hx399_7, hx399_8⟩ := at_T32 HR0.out x3_1 p399 q399
                obtain rfl : ad398 = ad399 := (by injection e399)
                replace hx399_0 := (HB.out.cell (World.block_lt_of_cell? w _ hx399_0)).trans hx399_0
                replace hx399_1 := (HB.out.cell (World.block_lt_of_cell? w _ hx399_1)).trans hx399_1
                replace hx399_2 := (HB.out.cell (World.block_lt_of_cell? w _ hx399_2)).trans hx399_2
                replace hx399_3 := (HB.out.cell (World.block_lt_of_cell? w _ hx399_3)).trans hx399_3
                replace hx399_4 := (HB.out.cell (World.block_lt_of_cell? w _ hx399_4)).trans hx399_4
                replace hx399_5 := (HB.out.cell (World.block_lt_of_cell? w _ hx399_5)).trans hx399_5
                replace hx399_6 := (HB.out.cell (World.block_lt_of_cell? w _ hx399_6)).trans hx399_6
                replace hx399_7 := (HB.out.cell (World.block_lt_of_cell? w _ hx399_7)).trans hx399_7
                replace hx399_8 := (HB.out.cell (World.block_lt_of_cell? w _ hx399_8)).trans hx399_8
                replace p399 := eq_true p399
                replace q399 := eq_true q399
                have p400 : 0 ≤ (x4_3 : Int) := oda
                have q400 : x4_3 < (l0.length : Int) := oda
                obtain ⟨ad400, e400, hx400_0, hx400_1, hx400_2, hx400_3, hx400_4, hx400_5, hx400_6, hx400_7, hx400_8⟩ := at_T32 HR0.out x4_3 p400 q400
                obtain rfl : ad398 = ad400 := (by injection e400)
                replace hx400_0 := (HB.out.cell (World.block_lt_of_cell? w _ hx400_0)).trans hx400_0
                replace hx400_1 := (HB.out.cell (World.block_lt_of_cell? w _ hx400_1)).trans hx400_1
                replace hx400_2 := (HB.out.cell (World.block_lt_of_cell? w _ hx400_2)).trans hx400_2
                replace hx400_3 := (HB.out.cell (World.block_lt_of_cell? w _ hx400_3)).trans hx400_3
                replace hx400_4 := (HB.out.cell (World.block_lt_of_cell? w _ hx400_4)).trans hx400_4
                replace hx400_5 := (HB.out.cell (World.block_lt_of_cell? w _ hx400_5)).trans hx400_5
                replace hx400_6 := (HB.out.cell (World.block_lt_of_cell? w _ hx400_6)).trans hx400_6
                replace hx400_7 := (HB.out.cell (World.block_lt_of_cell? w _ hx400_7)).trans hx400_7
                replace hx400_8 := (HB.out.cell (World.block_lt_of_cell? w _ hx400_8)).trans hx400_8
                replace p400 := eq_true p400
                replace q400 := eq_true q400
                have p401 : 0 ≤ (x3_1 : Int) := oda
                have q401 : x3_1 < (l0.length : Int) := oda
                obtain ⟨ad401, e401, hx401_0, hx401_1, hx401_2, hx401_3, hx401_4, hx401_5, hx401_6, hx401_7, hx401_8⟩ := at_T32 HR0.out x3_1 p401 q401
                obtain rfl : ad398 = ad401 := (by injection e401)
                replace hx401_0 := (HB.out.cell (World.block_lt_of_cell? w _ hx401_0)).trans hx401_0
                replace hx401_1 := (HB.out.cell (World.block_lt_of_cell? w _ hx401_1)).trans hx401_1
                replace hx401_2 := (HB.out.cell (World.block_lt_of_cell? w _ hx401_2)).trans hx401_2
                replace hx401_3 := (HB.out.cell (World.block_lt_of_cell? w _ hx401_3)).trans hx401_3
                replace hx401_4 := (HB.out.cell (World.block_lt_of_cell? w _ hx401_4)).trans hx401_4
                replace hx401_5 := (HB.out.cell (World.block_lt_of_cell? w _ hx401_5)).trans hx401_5
                replace hx401_6 := (HB.out.cell (World.block_lt_of_cell? w _ hx401_6)).trans hx401_6
                replace hx401_7 := (HB.out.cell (World.block_lt_of_cell? w _ hx401_7)).trans hx401_7
                replace hx401_8 := (HB.out.cell (World.block_lt_of_cell? w _ hx401_8)).trans hx401_8
                replace p401 := eq_true p401
                replace q401 := eq_true q401
                go_wp2
                repeat (go_quiet (fail); try go_wp2)
                all_goals first | (go_roundg k3; (case measure => (have := HK1.out; have := HJ2.out; have := HK3.out; omega)); (case rel => (exact ⟨(wrap64 (x4_3 + 1)), rr, H', ⟨by have := HK1.out; have := HJ2.out; have := HK3.out; omega⟩, ⟨by exact lG HB⟩⟩)); done) | (exfalso; revert c16b0; simp [*]; done) | (exfalso; revert c16b0; simp [*]; intros; simp_all; done)
              ·rw [if_neg c15] at H
               have c15b0 : (((rd_T32 l0 x4_3).f0) == ((rd_T32 l0 x3_1).f0)) = false := beq_eq_false_iff_ne.mpr c15
               have c15b1 : (((rd_T32 l0 x4_3).f0) != ((rd_T32 l0 x3_1).f0)) = true := bne_iff_ne.mpr c15
               have H' := Aside0.mk H
               clear H
               have p398 : 0 ≤ (x4_3 : Int) := oda
               have q398 : x4_3 < (l0.length : Int) := oda
               obtain ⟨ad398, e398, hx398_0, hx398_1, hx398_2, hx398_3, hx398_4, hx398_5, hx398_6, hx398_7, hx398_8⟩ := at_T32 HR0.out x4_3 p398 q398
               cases e398
               replace hx398_0 := (HB.out.cell (World.block_lt_of_cell? w _ hx398_0)).trans hx398_0
               replace hx398_1 := (HB.out.cell (World.block_lt_of_cell? w _ hx398_1)).trans hx398_1
               replace hx398_2 := (HB.out.cell (World.block_lt_of_cell? w _ hx398_2)).trans hx398_2
               replace hx398_3 := (HB.out.cell (World.block_lt_of_cell? w _ hx398_3)).trans hx398_3
               replace hx398_4 := (HB.out.cell (World.block_lt_of_cell? w _ hx398_4)).trans hx398_4
               replace hx398_5 := (HB.out.cell (World.block_lt_of_cell? w _ hx398_5)).trans hx398_5
               replace hx398_6 := (HB.out.cell (World.block_lt_of_cell? w _ hx398_6)).trans hx398_6
               replace hx398_7 := (HB.out.cell (World.block_lt_of_cell? w _ hx398_7)).trans hx398_7
               replace hx398_8 := (HB.out.cell (World.block_lt_of_cell? w _ hx398_8)).trans hx398_8
               replace p398 := eq_true p398
               replace q398 := eq_true q398
               have p399 : 0 ≤ (x3_1 : Int) := oda
               have q399 : x3_1 < (l0.length : Int) := oda
               obtain ⟨ad399, e399, hx399_0, hx399_1, hx399_2, hx399_3, hx399_4, hx399_5, hx399_6, hx399_7, hx399_8⟩ := at_T32 HR0.out x3_1 p399 q399
               obtain rfl : ad398 = ad399 := (by injection e399)
               replace hx399_0 := (HB.out.cell (World.block_lt_of_cell? w _ hx399_0)).trans hx399_0
               replace hx399_1 := (HB.out.cell (World.block_lt_of_cell? w _ hx399_1)).trans hx399_1
               replace hx399_2 := (HB.out.cell (World.block_lt_of_cell? w _ hx399_2)).trans hx399_2
               replace hx399_3 := (HB.out.cell (World.block_lt_of_cell? w _ hx399_3)).trans hx399_3
               replace hx399_4 := (HB.out.cell (World.block_lt_of_cell? w _ hx399_4)).trans hx399_4
               replace hx399_5 := (HB.out.cell (World.block_lt_of_cell? w _ hx399_5)).trans hx399_5
               replace hx399_6 := (HB.out.cell (World.block_lt_of_cell? w _ hx399_6)).trans hx399_6
               replace hx399_7 := (HB.out.cell (World.block_lt_of_cell? w _ hx399_7)).trans hx399_7
               replace hx399_8 := (HB.out.cell (World.block_lt_of_cell? w _ hx399_8)).trans hx399_8
               replace p399 := eq_true p399
               replace q399 := eq_true q399
               go_wp2
               repeat (go_quiet (fail); try go_wp2)
               go_roundg k3
               case measure => have := HK1.out; have := HJ2.out; have := HK3.out; omega
               case rel => exact ⟨_, rr, H', ⟨by have := HK1.out; have := HJ2.out; have := HK3.out; omega⟩, ⟨by exact lG HB⟩⟩
             ·rw [if_neg c14] at H
              exact absurd H (by simp)
            ·rw [if_neg c13] at H
             exact absurd H (by simp)
           ·rw [if_neg c12] at H
            exact absurd H (by simp)
          ·rw [if_neg c11] at H
           exact absurd H (by simp)
         ·rw [if_neg c10] at H
          have c10b0 : decide (x4_3 < x3_1) = false := decide_eq_false c10
          clear c10
          have H' := Aside0.mk H
          clear H
          go_wp2
          repeat (go_quiet (fail); try go_wp2)
          go_roundg k3
          case measure => have := HK1.out; have := HJ2.out; have := HK3.out; omega
          case rel => exact ⟨_, rr, H', ⟨by have := HK1.out; have := HJ2.out; have := HK3.out; omega⟩, ⟨by exact lG HB⟩⟩
   ·rw [if_neg c2] at H
    have c2b0 : decide (x3_1 < (l0.length : Int)) = false := decide_eq_false c2
    clear c2
    obtain rfl := Option.some.inj H
    go_wp2
    repeat (go_quiet (fail); try go_wp2)
    go_ret
    exact ⟨ew, by exact lG HB⟩
/-! ### spec_l07Best: function 80 -/
def spec_l07Best.l0 : Nat → List (S32) → Int → Int → Int → Bool → Int → Int → Int → Int → Int → Int → Int → ByteArray → ByteArray → ByteArray → Option (Int × Int × Int × Int × Int × Int × ByteArray × ByteArray × ByteArray × Bool)
 | 0, _, _, _, _, _, _, _, _, _, _, _, _, _, _, _ => none
 | k + 1, x0, x1, x2, x3, x11, x12, x404000, x404001, x404002, x404003, x404004, x404005, x404006, x404007, x404008 => if x12 < (x0.length : Int) then (if 0 ≤ x12 then (if ((rd_T32 x0 x12).f1.f0) = x1 then (if ((rd_T32 x0 x12).f1.f1) = x2 then (if ((rd_T32 x0 x12).f1.f2) = x3 then (if x11 = true then (if ((rd_T32 x0 x12).f0) > x404000 then (spec_l07Best.l0 k x0 x1 x2 x3 true (wrap64 (x12 + 1)) ((rd_T32 x0 x12).f0) ((rd_T32 x0 x12).f1.f0) ((rd_T32 x0 x12).f1.f1) ((rd_T32 x0 x12).f1.f2) ((rd_T32 x0 x12).f1.f3) ((rd_T32 x0 x12).f1.f4) ((rd_T32 x0 x12).f1.f5) ((rd_T32 x0 x12).f1.f6) ((rd_T32 x0 x12).f1.f7)) else (spec_l07Best.l0 k x0 x1 x2 x3 x11 (wrap64 (x12 + 1)) x404000 x404001 x404002 x404003 x404004 x404005 x404006 x404007 x404008)) else (spec_l07Best.l0 k x0 x1 x2 x3 true (wrap64 (x12 + 1)) ((rd_T32 x0 x12).f0) ((rd_T32 x0 x12).f1.f0) ((rd_T32 x0 x12).f1.f1) ((rd_T32 x0 x12).f1.f2) ((rd_T32 x0 x12).f1.f3) ((rd_T32 x0 x12).f1.f4) ((rd_T32 x0 x12).f1.f5) ((rd_T32 x0 x12).f1.f6) ((rd_T32 x0 x12).f1.f7))) else (spec_l07Best.l0 k x0 x1 x2 x3 x11 (wrap64 (x12 + 1)) x404000 x404001 x404002 x404003 x404004 x404005 x404006 x404007 x404008)) else (spec_l07Best.l0 k x0 x1 x2 x3 x11 (wrap64 (x12 + 1)) x404000 x404001 x404002 x404003 x404004 x404005 x404006 x404007 x404008)) else (spec_l07Best.l0 k x0 x1 x2 x3 x11 (wrap64 (x12 + 1)) x404000 x404001 x404002 x404003 x404004 x404005 x404006 x404007 x404008)) else (none)) else (some (x404000, x404001, x404002, x404003, x404004, x404005, x404006, x404007, x404008, x11))
def spec_l07Best.f (k : Nat) (l0 : List (S32)) (a1 : Int) (a2 : Int) (a3 : Int) : Option (Int × Int × Int × Int × Int × Int × ByteArray × ByteArray × ByteArray × Bool) := spec_l07Best.l0 k l0 a1 a2 a3 false 0 0 0 0 0 0 0 (⟨#[]⟩ : ByteArray) (⟨#[]⟩ : ByteArray) (⟨#[]⟩ : ByteArray)
theorem spec_l07Best.mono_l : ∀ k, (∀ y0 y1 y2 y3 y4 y5 y6 y7 y8 y9 y10 y11 y12 y13 y14, LeO (spec_l07Best.l0 k y0 y1 y2 y3 y4 y5 y6 y7 y8 y9 y10 y11 y12 y13 y14) (spec_l07Best.l0 (k + 1) y0 y1 y2 y3 y4 y5 y6 y7 y8 y9 y10 y11 y12 y13 y14))
 | 0 => fun _ _ _ _ _ _ _ _ _ _ _ _ _ _ _ r h => by simp [spec_l07Best.l0] at h
 | k + 1 => by
  have ih0 := spec_l07Best.mono_l k
  ·intro y0 y1 y2 y3 y4 y5 y6 y7 y8 y9 y10 y11 y12 y13 y14
   unfold spec_l07Best.l0
   repeat' first
   | (with_reducible exact ih0 _ _ _ _ _ _ _ _ _ _ _ _ _ _ _)
   | (with_reducible exact LeO.refl _)
   | (with_reducible exact LeO.none _)
   | (with_reducible refine LeO.ite ?_ ?_)
   | (with_reducible refine LeO.bind ?_ (fun _ => ?_))
   | exact ih0 _ _ _ _ _ _ _ _ _ _ _ _ _ _ _
   | exact LeO.none _
   | refine LeO.ite ?_ ?_
   | refine LeO.bind ?_ (fun _ => ?_)
theorem spec_l07Best.mono : ∀ a0 a1 a2 a3 k, LeO (spec_l07Best.f k a0 a1 a2 a3) (spec_l07Best.f (k + 1) a0 a1 a2 a3) := by
 intro a0 a1 a2 a3 k
 have ih0 := spec_l07Best.mono_l k
 unfold spec_l07Best.f
 repeat' first
   | (with_reducible exact ih0 _ _ _ _ _ _ _ _ _ _ _ _ _ _ _)
   | (with_reducible exact LeO.refl _)
   | (with_reducible exact LeO.none _)
   | (with_reducible refine LeO.ite ?_ ?_)
   | (with_reducible refine LeO.bind ?_ (fun _ => ?_))
   | exact ih0 _ _ _ _ _ _ _ _ _ _ _ _ _ _ _
   | exact LeO.none _
   | refine LeO.ite ?_ ?_
   | refine LeO.bind ?_ (fun _ => ?_)
theorem spec_l07Best.calls (k : Nat) (A0 : Option Addr) (c0 : Nat) (l0 : List (S32)) (a1 : Int) (a2 : Int) (a3 : Int) (r1 : Int) (r2 : Int) (r3 : Int) (r4 : Int) (r5 : Int) (r6 : Int) (r7 : ByteArray) (r8 : ByteArray) (r9 : ByteArray) (r10 : Bool) (w : World) (hr0 : Kd.C k32 w A0 l0.length l0) (hc0 : l0.length ≤ c0) (h : spec_l07Best.f k l0 a1 a2 a3 = some (r1, r2, r3, r4, r5, r6, r7, r8, r9, r10)) :
  Calls Try.prog 80 #[.slice A0 l0.length c0, .int .i64 a1, .int .i64 a2, .int .i64 a3] w fun e w' => e = .returned (.tuple #[.agg #[.int .i64 r1, .int .i64 r2, .int .i64 r3, .int .i64 r4, .int .i64 r5, .int .i64 r6, .string r7, .string r8, .string r9], .bool r10]) ∧ Below w.heap.size w w' := by
 have hu32 := Try.underlying32
 have HR0 := Aside0.mk hr0
 have HC0 := Aside0.mk hc0
 clear hr0 hc0
 have HB := ak (Below.refl w.heap.size w)
 have H : (spec_l07Best.l0 k l0 a1 a2 a3 false 0 0 0 0 0 0 0 (⟨#[]⟩ : ByteArray) (⟨#[]⟩ : ByteArray) (⟨#[]⟩ : ByteArray)) = some (r1, r2, r3, r4, r5, r6, r7, r8, r9, r10) := h
 clear h
 have H' := Aside0.mk H
 clear H
 go_enter Try.func80, Try.ntmps80
 go_wp2_with (first | ((with_reducible refine gate_dst (N := 8) rfl ?_); refine bx 8 #[.int .i64 0, .int .i64 0, .int .i64 0, .int .i64 0, .int .i64 0, .int .i64 0, .string (⟨#[]⟩ : ByteArray), .string (⟨#[]⟩ : ByteArray), .string (⟨#[]⟩ : ByteArray)] 32 ?_; intro gb402 hg w5 hbox hb; replace BK402 := ak (hbox); replace GE402 := ak (bz hg (lG HB)); replace HB := lB HB hb; clear hb hbox hg) | ((with_reducible refine gate_dst (N := 10) rfl ?_); refine bx 10 #[.int .i64 0, .int .i64 0, .int .i64 0, .int .i64 0, .int .i64 0, .int .i64 0, .string (⟨#[]⟩ : ByteArray), .string (⟨#[]⟩ : ByteArray), .string (⟨#[]⟩ : ByteArray)] 32 ?_; intro gb403 hg w6 hbox hb; replace BK403 := ak (hbox); replace GW403 := ak (bz hg (lT HB (gC GE402 gN))); replace GE403 := ak (bz hg (lT HB (gC GE402 gN))); replace HB := ak (below_step (lT HB (gC GE402 gN)) hb); replace NB402_403 := ak (nl hg (bG BK402)); replace NB403_402 := ak (ng hg (bG BK402)); replace BK402 := bB BK402 hb; clear hb hbox hg; have hnb7 := NB403_402.out; have hnc7 := NB402_403.out; obtain ⟨hcz8_0, hcz8_1, hcz8_2, hcz8_3, hcz8_4, hcz8_5, hcz8_6, hcz8_7, hcz8_8, hfz8_0, hfz8_1, hfz8_2, hfz8_3, hfz8_4, hfz8_5, hfz8_6, hfz8_7, hfz8_8⟩ := bC9 BK403))
 go_loopg [11, 12] k (fun kq v11 v12 w' => ∃ (x11_1 : Bool) (x12_1 : Int) (x404000_1 : Int) (x404001_1 : Int) (x404002_1 : Int) (x404003_1 : Int) (x404004_1 : Int) (x404005_1 : Int) (x404006_1 : ByteArray) (x404007_1 : ByteArray) (x404008_1 : ByteArray), v11 = .bool x11_1 ∧ v12 = .int .i64 x12_1 ∧ Aside0 (spec_l07Best.l0 kq l0 a1 a2 a3 x11_1 x12_1 x404000_1 x404001_1 x404002_1 x404003_1 x404004_1 x404005_1 x404006_1 x404007_1 x404008_1 = some (r1, r2, r3, r4, r5, r6, r7, r8, r9, r10)) ∧ Aside0 (kq ≤ k) ∧ Aside0 (w'.heap[gb402]? = some (.cells #[.int .i64 0, .int .i64 0, .int .i64 0, .int .i64 0, .int .i64 0, .int .i64 0, .string (⟨#[]⟩ : ByteArray), .string (⟨#[]⟩ : ByteArray), .string (⟨#[]⟩ : ByteArray)] 32 (0, 0))) ∧ Aside0 (w'.heap[gb403]? = some (.cells #[.int .i64 x404000_1, .int .i64 x404001_1, .int .i64 x404002_1, .int .i64 x404003_1, .int .i64 x404004_1, .int .i64 x404005_1, .string x404006_1, .string x404007_1, .string x404008_1] 32 (0, 0))) ∧ Aside0 (Below w.heap.size w w'))
 case atStart => exact ⟨_, _, _, _, _, _, _, _, _, _, _, rr, rr, H', ⟨Nat.le_refl _⟩, ⟨bF BK402 (nC NB402_403 nN)⟩, ⟨bW BK403⟩, ⟨by exact lT HB (gC GE402 (gC GE403 gN))⟩⟩
 case round =>
  clear H'
  try clear p2
  try clear c7
  try clear c8
  try clear hcz8_0
  try clear hcz8_1
  try clear hcz8_2
  try clear hcz8_3
  try clear hcz8_4
  try clear hcz8_5
  try clear hcz8_6
  try clear hcz8_7
  try clear hcz8_8
  try clear hfz8_0
  try clear hfz8_1
  try clear hfz8_2
  try clear hfz8_3
  try clear hfz8_4
  try clear hfz8_5
  try clear hfz8_6
  try clear hfz8_7
  try clear hfz8_8
  obtain ⟨x11_1, x12_1, x404000_1, x404001_1, x404002_1, x404003_1, x404004_1, x404005_1, x404006_1, x404007_1, x404008_1, rfl, rfl, HA, HK1, BK402, BK403, HB⟩ := hrel
  cases gk with
  | zero => exact absurd HA.out (by simp [spec_l07Best.l0])
  | succ k1 =>
   have H := HA.out
   clear HA
   simp only [spec_l07Best.l0] at H
   by_cases c9 : x12_1 < (l0.length : Int)
   ·rw [if_pos c9] at H
    have c9b0 : decide (x12_1 < (l0.length : Int)) = true := decide_eq_true c9
    clear c9
    by_cases c10 : 0 ≤ x12_1
    ·rw [if_pos c10] at H
     have c10b0 : decide (0 ≤ x12_1) = true := decide_eq_true c10
     clear c10
     by_cases c11 : ((rd_T32 l0 x12_1).f1.f0) = a1
     ·rw [if_pos c11] at H
      have c11b0 : (((rd_T32 l0 x12_1).f1.f0) == a1) = true := beq_iff_eq.mpr c11
      have c11b1 : (((rd_T32 l0 x12_1).f1.f0) != a1) = false := bne_eq_false_iff_eq.mpr c11
      clear c11
      by_cases c12 : ((rd_T32 l0 x12_1).f1.f1) = a2
      ·rw [if_pos c12] at H
       have c12b0 : (((rd_T32 l0 x12_1).f1.f1) == a2) = true := beq_iff_eq.mpr c12
       have c12b1 : (((rd_T32 l0 x12_1).f1.f1) != a2) = false := bne_eq_false_iff_eq.mpr c12
       clear c12
       by_cases c13 : ((rd_T32 l0 x12_1).f1.f2) = a3
       ·rw [if_pos c13] at H
        have c13b0 : (((rd_T32 l0 x12_1).f1.f2) == a3) = true := beq_iff_eq.mpr c13
        have c13b1 : (((rd_T32 l0 x12_1).f1.f2) != a3) = false := bne_eq_false_iff_eq.mpr c13
        clear c13
        by_cases c14 : x11_1 = true
        ·subst c14
         rw [if_pos rfl] at H
         by_cases c15 : ((rd_T32 l0 x12_1).f0) > x404000_1
         ·rw [if_pos c15] at H
          have c15b0 : decide (x404000_1 < ((rd_T32 l0 x12_1).f0)) = true := decide_eq_true c15
          clear c15
          have H' := Aside0.mk H
          clear H
          have p404 : 0 ≤ (x12_1 : Int) := oda
          have q404 : x12_1 < (l0.length : Int) := oda
          obtain ⟨ad404, e404, hx404_0, hx404_1, hx404_2, hx404_3, hx404_4, hx404_5, hx404_6, hx404_7, hx404_8⟩ := at_T32 HR0.out x12_1 p404 q404
          cases e404
          replace hx404_0 := (HB.out.cell (World.block_lt_of_cell? w _ hx404_0)).trans hx404_0
          replace hx404_1 := (HB.out.cell (World.block_lt_of_cell? w _ hx404_1)).trans hx404_1
          replace hx404_2 := (HB.out.cell (World.block_lt_of_cell? w _ hx404_2)).trans hx404_2
          replace hx404_3 := (HB.out.cell (World.block_lt_of_cell? w _ hx404_3)).trans hx404_3
          replace hx404_4 := (HB.out.cell (World.block_lt_of_cell? w _ hx404_4)).trans hx404_4
          replace hx404_5 := (HB.out.cell (World.block_lt_of_cell? w _ hx404_5)).trans hx404_5
          replace hx404_6 := (HB.out.cell (World.block_lt_of_cell? w _ hx404_6)).trans hx404_6
          replace hx404_7 := (HB.out.cell (World.block_lt_of_cell? w _ hx404_7)).trans hx404_7
          replace hx404_8 := (HB.out.cell (World.block_lt_of_cell? w _ hx404_8)).trans hx404_8
          replace p404 := eq_true p404
          replace q404 := eq_true q404
          go_wp2_with (first | ((with_reducible refine gate_dst (N := 13) rfl ?_); refine bx 13 #[.int .i64 0, .int .i64 0, .int .i64 0, .int .i64 0, .int .i64 0, .int .i64 0, .string (⟨#[]⟩ : ByteArray), .string (⟨#[]⟩ : ByteArray), .string (⟨#[]⟩ : ByteArray)] 32 ?_; intro gb405 hg w16 hbox hb; replace BK405 := ak (hbox); replace GW405 := ak (bz hg (lT HB (gC GE402 (gC GE403 gN)))); replace GE405 := ak (bz hg (lT HB (gC GE402 (gC GE403 gN)))); replace HB := ak (below_step (lT HB (gC GE402 (gC GE403 gN))) hb); replace NB402_405 := ak (nl hg (bG BK402)); replace NB405_402 := ak (ng hg (bG BK402)); replace BK402 := bB BK402 hb; replace NB403_405 := ak (nl hg (bG BK403)); replace NB405_403 := ak (ng hg (bG BK403)); replace BK403 := bB BK403 hb; clear hb hbox hg; have hnb17 := NB405_402.out; have hnc17 := NB402_405.out; have hnb18 := NB405_403.out; have hnc18 := NB403_405.out; obtain ⟨_, _, _, _, _, _, _, _, _, _, _, _, _, _, _, _, _, _⟩ := bC9 BK405; have hnb20 := NB403_402.out; have hnc20 := NB402_403.out; obtain ⟨_, _, _, _, _, _, _, _, _, _, _, _, _, _, _, _, _, _⟩ := bC9 BK403))
          go_roundg k1
          case measure => have := HK1.out; omega
          case rel => exact ⟨_, _, _, _, _, _, _, _, _, _, _, rr, rr, H', ⟨by have := HK1.out; omega⟩, ⟨bF BK402 (nC NB402_403 (nC NB402_405 nN))⟩, ⟨bF BK403 (nC NB403_405 nN)⟩, ⟨by exact lT HB (gC GE402 (gC GE403 (gC GE405 gN)))⟩⟩
         ·rw [if_neg c15] at H
          have c15b0 : decide (x404000_1 < ((rd_T32 l0 x12_1).f0)) = false := decide_eq_false c15
          clear c15
          have H' := Aside0.mk H
          clear H
          have p404 : 0 ≤ (x12_1 : Int) := oda
          have q404 : x12_1 < (l0.length : Int) := oda
          obtain ⟨ad404, e404, hx404_0, hx404_1, hx404_2, hx404_3, hx404_4, hx404_5, hx404_6, hx404_7, hx404_8⟩ := at_T32 HR0.out x12_1 p404 q404
          cases e404
          replace hx404_0 := (HB.out.cell (World.block_lt_of_cell? w _ hx404_0)).trans hx404_0
          replace hx404_1 := (HB.out.cell (World.block_lt_of_cell? w _ hx404_1)).trans hx404_1
          replace hx404_2 := (HB.out.cell (World.block_lt_of_cell? w _ hx404_2)).trans hx404_2
          replace hx404_3 := (HB.out.cell (World.block_lt_of_cell? w _ hx404_3)).trans hx404_3
          replace hx404_4 := (HB.out.cell (World.block_lt_of_cell? w _ hx404_4)).trans hx404_4
          replace hx404_5 := (HB.out.cell (World.block_lt_of_cell? w _ hx404_5)).trans hx404_5
          replace hx404_6 := (HB.out.cell (World.block_lt_of_cell? w _ hx404_6)).trans hx404_6
          replace hx404_7 := (HB.out.cell (World.block_lt_of_cell? w _ hx404_7)).trans hx404_7
          replace hx404_8 := (HB.out.cell (World.block_lt_of_cell? w _ hx404_8)).trans hx404_8
          replace p404 := eq_true p404
          replace q404 := eq_true q404
          go_wp2_with (first | ((with_reducible refine gate_dst (N := 13) rfl ?_); refine bx 13 #[.int .i64 0, .int .i64 0, .int .i64 0, .int .i64 0, .int .i64 0, .int .i64 0, .string (⟨#[]⟩ : ByteArray), .string (⟨#[]⟩ : ByteArray), .string (⟨#[]⟩ : ByteArray)] 32 ?_; intro gb405 hg w22 hbox hb; replace BK405 := ak (hbox); replace GW405 := ak (bz hg (lT HB (gC GE402 (gC GE403 gN)))); replace GE405 := ak (bz hg (lT HB (gC GE402 (gC GE403 gN)))); replace HB := ak (below_step (lT HB (gC GE402 (gC GE403 gN))) hb); replace NB402_405 := ak (nl hg (bG BK402)); replace NB405_402 := ak (ng hg (bG BK402)); replace BK402 := bB BK402 hb; replace NB403_405 := ak (nl hg (bG BK403)); replace NB405_403 := ak (ng hg (bG BK403)); replace BK403 := bB BK403 hb; clear hb hbox hg; have hnb23 := NB405_402.out; have hnc23 := NB402_405.out; have hnb24 := NB405_403.out; have hnc24 := NB403_405.out; obtain ⟨_, _, _, _, _, _, _, _, _, _, _, _, _, _, _, _, _, _⟩ := bC9 BK405; have hnb26 := NB403_402.out; have hnc26 := NB402_403.out; obtain ⟨_, _, _, _, _, _, _, _, _, _, _, _, _, _, _, _, _, _⟩ := bC9 BK403))
          go_roundg k1
          case measure => have := HK1.out; omega
          case rel => exact ⟨_, _, _, _, _, _, _, _, _, _, _, rr, rr, H', ⟨by have := HK1.out; omega⟩, ⟨bF BK402 (nC NB402_405 nN)⟩, ⟨bF BK403 (nC NB403_405 nN)⟩, ⟨by exact lT HB (gC GE402 (gC GE403 (gC GE405 gN)))⟩⟩
        ·replace c14 := Bool.eq_false_iff.mpr c14
         subst c14
         rw [if_neg (show ¬ (false = true) by decide)] at H
         have H' := Aside0.mk H
         clear H
         have p404 : 0 ≤ (x12_1 : Int) := oda
         have q404 : x12_1 < (l0.length : Int) := oda
         obtain ⟨ad404, e404, hx404_0, hx404_1, hx404_2, hx404_3, hx404_4, hx404_5, hx404_6, hx404_7, hx404_8⟩ := at_T32 HR0.out x12_1 p404 q404
         cases e404
         replace hx404_0 := (HB.out.cell (World.block_lt_of_cell? w _ hx404_0)).trans hx404_0
         replace hx404_1 := (HB.out.cell (World.block_lt_of_cell? w _ hx404_1)).trans hx404_1
         replace hx404_2 := (HB.out.cell (World.block_lt_of_cell? w _ hx404_2)).trans hx404_2
         replace hx404_3 := (HB.out.cell (World.block_lt_of_cell? w _ hx404_3)).trans hx404_3
         replace hx404_4 := (HB.out.cell (World.block_lt_of_cell? w _ hx404_4)).trans hx404_4
         replace hx404_5 := (HB.out.cell (World.block_lt_of_cell? w _ hx404_5)).trans hx404_5
         replace hx404_6 := (HB.out.cell (World.block_lt_of_cell? w _ hx404_6)).trans hx404_6
         replace hx404_7 := (HB.out.cell (World.block_lt_of_cell? w _ hx404_7)).trans hx404_7
         replace hx404_8 := (HB.out.cell (World.block_lt_of_cell? w _ hx404_8)).trans hx404_8
         replace p404 := eq_true p404
         replace q404 := eq_true q404
         go_wp2_with (first | ((with_reducible refine gate_dst (N := 13) rfl ?_); refine bx 13 #[.int .i64 0, .int .i64 0, .int .i64 0, .int .i64 0, .int .i64 0, .int .i64 0, .string (⟨#[]⟩ : ByteArray), .string (⟨#[]⟩ : ByteArray), .string (⟨#[]⟩ : ByteArray)] 32 ?_; intro gb405 hg w28 hbox hb; replace BK405 := ak (hbox); replace GW405 := ak (bz hg (lT HB (gC GE402 (gC GE403 gN)))); replace GE405 := ak (bz hg (lT HB (gC GE402 (gC GE403 gN)))); replace HB := ak (below_step (lT HB (gC GE402 (gC GE403 gN))) hb); replace NB402_405 := ak (nl hg (bG BK402)); replace NB405_402 := ak (ng hg (bG BK402)); replace BK402 := bB BK402 hb; replace NB403_405 := ak (nl hg (bG BK403)); replace NB405_403 := ak (ng hg (bG BK403)); replace BK403 := bB BK403 hb; clear hb hbox hg; have hnb29 := NB405_402.out; have hnc29 := NB402_405.out; have hnb30 := NB405_403.out; have hnc30 := NB403_405.out; obtain ⟨_, _, _, _, _, _, _, _, _, _, _, _, _, _, _, _, _, _⟩ := bC9 BK405; have hnb32 := NB403_402.out; have hnc32 := NB402_403.out; obtain ⟨_, _, _, _, _, _, _, _, _, _, _, _, _, _, _, _, _, _⟩ := bC9 BK403))
         go_roundg k1
         case measure => have := HK1.out; omega
         case rel => exact ⟨_, _, _, _, _, _, _, _, _, _, _, rr, rr, H', ⟨by have := HK1.out; omega⟩, ⟨bF BK402 (nC NB402_403 (nC NB402_405 nN))⟩, ⟨bF BK403 (nC NB403_405 nN)⟩, ⟨by exact lT HB (gC GE402 (gC GE403 (gC GE405 gN)))⟩⟩
       ·rw [if_neg c13] at H
        have c13b0 : (((rd_T32 l0 x12_1).f1.f2) == a3) = false := beq_eq_false_iff_ne.mpr c13
        have c13b1 : (((rd_T32 l0 x12_1).f1.f2) != a3) = true := bne_iff_ne.mpr c13
        have H' := Aside0.mk H
        clear H
        have p404 : 0 ≤ (x12_1 : Int) := oda
        have q404 : x12_1 < (l0.length : Int) := oda
        obtain ⟨ad404, e404, hx404_0, hx404_1, hx404_2, hx404_3, hx404_4, hx404_5, hx404_6, hx404_7, hx404_8⟩ := at_T32 HR0.out x12_1 p404 q404
        cases e404
        replace hx404_0 := (HB.out.cell (World.block_lt_of_cell? w _ hx404_0)).trans hx404_0
        replace hx404_1 := (HB.out.cell (World.block_lt_of_cell? w _ hx404_1)).trans hx404_1
        replace hx404_2 := (HB.out.cell (World.block_lt_of_cell? w _ hx404_2)).trans hx404_2
        replace hx404_3 := (HB.out.cell (World.block_lt_of_cell? w _ hx404_3)).trans hx404_3
        replace hx404_4 := (HB.out.cell (World.block_lt_of_cell? w _ hx404_4)).trans hx404_4
        replace hx404_5 := (HB.out.cell (World.block_lt_of_cell? w _ hx404_5)).trans hx404_5
        replace hx404_6 := (HB.out.cell (World.block_lt_of_cell? w _ hx404_6)).trans hx404_6
        replace hx404_7 := (HB.out.cell (World.block_lt_of_cell? w _ hx404_7)).trans hx404_7
        replace hx404_8 := (HB.out.cell (World.block_lt_of_cell? w _ hx404_8)).trans hx404_8
        replace p404 := eq_true p404
        replace q404 := eq_true q404
        go_wp2_with (first | ((with_reducible refine gate_dst (N := 13) rfl ?_); refine bx 13 #[.int .i64 0, .int .i64 0, .int .i64 0, .int .i64 0, .int .i64 0, .int .i64 0, .string (⟨#[]⟩ : ByteArray), .string (⟨#[]⟩ : ByteArray), .string (⟨#[]⟩ : ByteArray)] 32 ?_; intro gb405 hg w34 hbox hb; replace BK405 := ak (hbox); replace GW405 := ak (bz hg (lT HB (gC GE402 (gC GE403 gN)))); replace GE405 := ak (bz hg (lT HB (gC GE402 (gC GE403 gN)))); replace HB := ak (below_step (lT HB (gC GE402 (gC GE403 gN))) hb); replace NB402_405 := ak (nl hg (bG BK402)); replace NB405_402 := ak (ng hg (bG BK402)); replace BK402 := bB BK402 hb; replace NB403_405 := ak (nl hg (bG BK403)); replace NB405_403 := ak (ng hg (bG BK403)); replace BK403 := bB BK403 hb; clear hb hbox hg; have hnb35 := NB405_402.out; have hnc35 := NB402_405.out; have hnb36 := NB405_403.out; have hnc36 := NB403_405.out; obtain ⟨_, _, _, _, _, _, _, _, _, _, _, _, _, _, _, _, _, _⟩ := bC9 BK405))
        go_roundg k1
        case measure => have := HK1.out; omega
        case rel => exact ⟨_, _, _, _, _, _, _, _, _, _, _, rr, rr, H', ⟨by have := HK1.out; omega⟩, ⟨bF BK402 (nC NB402_405 nN)⟩, ⟨bF BK403 (nC NB403_405 nN)⟩, ⟨by exact lT HB (gC GE402 (gC GE403 (gC GE405 gN)))⟩⟩
      ·rw [if_neg c12] at H
       have c12b0 : (((rd_T32 l0 x12_1).f1.f1) == a2) = false := beq_eq_false_iff_ne.mpr c12
       have c12b1 : (((rd_T32 l0 x12_1).f1.f1) != a2) = true := bne_iff_ne.mpr c12
       have H' := Aside0.mk H
       clear H
       have p404 : 0 ≤ (x12_1 : Int) := oda
       have q404 : x12_1 < (l0.length : Int) := oda
       obtain ⟨ad404, e404, hx404_0, hx404_1, hx404_2, hx404_3, hx404_4, hx404_5, hx404_6, hx404_7, hx404_8⟩ := at_T32 HR0.out x12_1 p404 q404
       cases e404
       replace hx404_0 := (HB.out.cell (World.block_lt_of_cell? w _ hx404_0)).trans hx404_0
       replace hx404_1 := (HB.out.cell (World.block_lt_of_cell? w _ hx404_1)).trans hx404_1
       replace hx404_2 := (HB.out.cell (World.block_lt_of_cell? w _ hx404_2)).trans hx404_2
       replace hx404_3 := (HB.out.cell (World.block_lt_of_cell? w _ hx404_3)).trans hx404_3
       replace hx404_4 := (HB.out.cell (World.block_lt_of_cell? w _ hx404_4)).trans hx404_4
       replace hx404_5 := (HB.out.cell (World.block_lt_of_cell? w _ hx404_5)).trans hx404_5
       replace hx404_6 := (HB.out.cell (World.block_lt_of_cell? w _ hx404_6)).trans hx404_6
       replace hx404_7 := (HB.out.cell (World.block_lt_of_cell? w _ hx404_7)).trans hx404_7
       replace hx404_8 := (HB.out.cell (World.block_lt_of_cell? w _ hx404_8)).trans hx404_8
       replace p404 := eq_true p404
       replace q404 := eq_true q404
       go_wp2_with (first | ((with_reducible refine gate_dst (N := 13) rfl ?_); refine bx 13 #[.int .i64 0, .int .i64 0, .int .i64 0, .int .i64 0, .int .i64 0, .int .i64 0, .string (⟨#[]⟩ : ByteArray), .string (⟨#[]⟩ : ByteArray), .string (⟨#[]⟩ : ByteArray)] 32 ?_; intro gb405 hg w38 hbox hb; replace BK405 := ak (hbox); replace GW405 := ak (bz hg (lT HB (gC GE402 (gC GE403 gN)))); replace GE405 := ak (bz hg (lT HB (gC GE402 (gC GE403 gN)))); replace HB := ak (below_step (lT HB (gC GE402 (gC GE403 gN))) hb); replace NB402_405 := ak (nl hg (bG BK402)); replace NB405_402 := ak (ng hg (bG BK402)); replace BK402 := bB BK402 hb; replace NB403_405 := ak (nl hg (bG BK403)); replace NB405_403 := ak (ng hg (bG BK403)); replace BK403 := bB BK403 hb; clear hb hbox hg; have hnb39 := NB405_402.out; have hnc39 := NB402_405.out; have hnb40 := NB405_403.out; have hnc40 := NB403_405.out; obtain ⟨_, _, _, _, _, _, _, _, _, _, _, _, _, _, _, _, _, _⟩ := bC9 BK405))
       go_roundg k1
       case measure => have := HK1.out; omega
       case rel => exact ⟨_, _, _, _, _, _, _, _, _, _, _, rr, rr, H', ⟨by have := HK1.out; omega⟩, ⟨bF BK402 (nC NB402_405 nN)⟩, ⟨bF BK403 (nC NB403_405 nN)⟩, ⟨by exact lT HB (gC GE402 (gC GE403 (gC GE405 gN)))⟩⟩
     ·rw [if_neg c11] at H
      have c11b0 : (((rd_T32 l0 x12_1).f1.f0) == a1) = false := beq_eq_false_iff_ne.mpr c11
      have c11b1 : (((rd_T32 l0 x12_1).f1.f0) != a1) = true := bne_iff_ne.mpr c11
      have H' := Aside0.mk H
      clear H
      have p404 : 0 ≤ (x12_1 : Int) := oda
      have q404 : x12_1 < (l0.length : Int) := oda
      obtain ⟨ad404, e404, hx404_0, hx404_1, hx404_2, hx404_3, hx404_4, hx404_5, hx404_6, hx404_7, hx404_8⟩ := at_T32 HR0.out x12_1 p404 q404
      cases e404
      replace hx404_0 := (HB.out.cell (World.block_lt_of_cell? w _ hx404_0)).trans hx404_0
      replace hx404_1 := (HB.out.cell (World.block_lt_of_cell? w _ hx404_1)).trans hx404_1
      replace hx404_2 := (HB.out.cell (World.block_lt_of_cell? w _ hx404_2)).trans hx404_2
      replace hx404_3 := (HB.out.cell (World.block_lt_of_cell? w _ hx404_3)).trans hx404_3
      replace hx404_4 := (HB.out.cell (World.block_lt_of_cell? w _ hx404_4)).trans hx404_4
      replace hx404_5 := (HB.out.cell (World.block_lt_of_cell? w _ hx404_5)).trans hx404_5
      replace hx404_6 := (HB.out.cell (World.block_lt_of_cell? w _ hx404_6)).trans hx404_6
      replace hx404_7 := (HB.out.cell (World.block_lt_of_cell? w _ hx404_7)).trans hx404_7
      replace hx404_8 := (HB.out.cell (World.block_lt_of_cell? w _ hx404_8)).trans hx404_8
      replace p404 := eq_true p404
      replace q404 := eq_true q404
      go_wp2_with (first | ((with_reducible refine gate_dst (N := 13) rfl ?_); refine bx 13 #[.int .i64 0, .int .i64 0, .int .i64 0, .int .i64 0, .int .i64 0, .int .i64 0, .string (⟨#[]⟩ : ByteArray), .string (⟨#[]⟩ : ByteArray), .string (⟨#[]⟩ : ByteArray)] 32 ?_; intro gb405 hg w42 hbox hb; replace BK405 := ak (hbox); replace GW405 := ak (bz hg (lT HB (gC GE402 (gC GE403 gN)))); replace GE405 := ak (bz hg (lT HB (gC GE402 (gC GE403 gN)))); replace HB := ak (below_step (lT HB (gC GE402 (gC GE403 gN))) hb); replace NB402_405 := ak (nl hg (bG BK402)); replace NB405_402 := ak (ng hg (bG BK402)); replace BK402 := bB BK402 hb; replace NB403_405 := ak (nl hg (bG BK403)); replace NB405_403 := ak (ng hg (bG BK403)); replace BK403 := bB BK403 hb; clear hb hbox hg; have hnb43 := NB405_402.out; have hnc43 := NB402_405.out; have hnb44 := NB405_403.out; have hnc44 := NB403_405.out; obtain ⟨_, _, _, _, _, _, _, _, _, _, _, _, _, _, _, _, _, _⟩ := bC9 BK405))
      go_roundg k1
      case measure => have := HK1.out; omega
      case rel => exact ⟨_, _, _, _, _, _, _, _, _, _, _, rr, rr, H', ⟨by have := HK1.out; omega⟩, ⟨bF BK402 (nC NB402_405 nN)⟩, ⟨bF BK403 (nC NB403_405 nN)⟩, ⟨by exact lT HB (gC GE402 (gC GE403 (gC GE405 gN)))⟩⟩
    ·rw [if_neg c10] at H
     exact absurd H (by simp)
   ·rw [if_neg c9] at H
    have c9b0 : decide (x12_1 < (l0.length : Int)) = false := decide_eq_false c9
    clear c9
    simp only [Option.some.injEq, Prod.mk.injEq] at H
    obtain ⟨rfl, rfl, rfl, rfl, rfl, rfl, rfl, rfl, rfl, rfl⟩ := H
    have hnb46 := NB403_402.out
    have hnc46 := NB402_403.out
    obtain ⟨_, _, _, _, _, _, _, _, _, _, _, _, _, _, _, _, _, _⟩ := bC9 BK403
    obtain ⟨_, _, _, _, _, _, _, _, _, _, _, _, _, _, _, _, _, _⟩ := bC9 BK402
    go_wp2
    refine bodyPost_ret (results_ct rfl _ _ gb402 32 #[.int .i64 x404000_1, .int .i64 x404001_1, .int .i64 x404002_1, .int .i64 x404003_1, .int .i64 x404004_1, .int .i64 x404005_1, .string x404006_1, .string x404007_1, .string x404008_1] (0, 0) _ rfl (bW BK402) Try.underlying32 rfl (by kernel_rfl)) rfl ?_
    exact ⟨ew, by exact lT HB (gC GE402 (gC GE403 gN))⟩
end Go.Proofs.Ytagkjeldheiejaa.PFnAnyOrder
