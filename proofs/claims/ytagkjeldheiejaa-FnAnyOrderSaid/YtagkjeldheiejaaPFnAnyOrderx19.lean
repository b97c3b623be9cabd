-- Written by a program of mine (a turned copy of the kit's print): functions as plain Lean, their contracts.
import Derived.Test.YtagkjeldheiejaaPFnAnyOrderx18
import Derived.Test.YtagkjeldheiejaaVFnAnyOrder1
namespace Go.Proofs.Ytagkjeldheiejaa.PFnAnyOrder
open Go.RowKit Go.Proofs.YtagkjeldheiejaaW.PrintWords Go.Proofs.YtagkjeldheiejaaW.PrintLast Go.Proofs.YtagkjeldheiejaaW.PrintMore
attribute [local go_sem] max2_int min2_int max_two min_two max_three min_three max_four min_four   -- for this text's walks alone
set_option maxHeartbeats 8000000
set_option maxRecDepth 100000
set_option linter.unusedVariables false
set_option linter.unusedSimpArgs false
/-! ### laws_FnAnyOrder: function 7 -/
def laws_FnAnyOrder.f (k : Nat) (l0 : List Int) : Option (Bool) := (laws_big.f l0).bind fun t525 => (if t525 = true then (some true) else ((spec_DrawItems.f k l0).bind fun t526 => ((spec_DrawPlaces.f k l0).bind fun t529 => ((impl_StateOf.f k t526).bind fun t532 => (if (t526.length : Int) = 0 then (if (t532.length : Int) = 0 then ((impl_ItemsOk.f k t526).bind fun t536 => (some t536)) else (some false)) else (if 0 < (t529.length : Int) then ((laws_mixed.f k t526 (Int.tmod (rd t529 0) (t526.length : Int))).bind fun t538 => ((some (([] : List (S32)) : List (S32))).bind fun y541 => (if y541.length + t526.length < 1466015503701 then ((some (y541 ++ t526 : List (S32))).bind fun y544 => (if 1 < (t529.length : Int) then (if 0 ≤ (Int.tmod (rd t529 1) (t526.length : Int)) then (if (Int.tmod (rd t529 1) (t526.length : Int)) < (t526.length : Int) then ((some (([(⟨(rd_T32 t526 (Int.tmod (rd t529 1) (t526.length : Int))).f0, (⟨(rd_T32 t526 (Int.tmod (rd t529 1) (t526.length : Int))).f1.f0, (rd_T32 t526 (Int.tmod (rd t529 1) (t526.length : Int))).f1.f1, (rd_T32 t526 (Int.tmod (rd t529 1) (t526.length : Int))).f1.f2, (rd_T32 t526 (Int.tmod (rd t529 1) (t526.length : Int))).f1.f3, (rd_T32 t526 (Int.tmod (rd t529 1) (t526.length : Int))).f1.f4, (rd_T32 t526 (Int.tmod (rd t529 1) (t526.length : Int))).f1.f5, (rd_T32 t526 (Int.tmod (rd t529 1) (t526.length : Int))).f1.f6, (rd_T32 t526 (Int.tmod (rd t529 1) (t526.length : Int))).f1.f7⟩ : S23)⟩ : S32)] : List (S32)) : List (S32))).bind fun y549 => (if y544.length + y549.length < 1466015503701 then ((impl_StateOf.f k t538).bind fun t555 => ((impl_SameState.f k t555 t532).bind fun t558 => (if t558 = true then ((impl_StateOf.f k (y544 ++ y549)).bind fun t559 => ((impl_SameState.f k t559 t532).bind fun t562 => (if t562 = true then ((spec_StateOf.f k t526).bind fun t563 => ((impl_SameState.f k t532 t563).bind fun t566 => (if t566 = true then ((impl_ItemsOk.f k t538).bind fun t567 => (some t567)) else (some false)))) else (some false)))) else (some false)))) else (none))) else (none)) else (none)) else (none))) else (none)))) else (none)))))))
theorem laws_FnAnyOrder.mono : ∀ a0 k, LeO (laws_FnAnyOrder.f k a0) (laws_FnAnyOrder.f (k + 1) a0) := by
 intro a0 k
 unfold laws_FnAnyOrder.f
 repeat' first
   | (with_reducible exact impl_ItemsOk.mono _ _)
   | (with_reducible exact impl_SameState.mono _ _ _)
   | (with_reducible exact impl_StateOf.mono _ _)
   | (with_reducible exact laws_mixed.mono _ _ _)
   | (with_reducible exact spec_DrawItems.mono _ _)
   | (with_reducible exact spec_DrawPlaces.mono _ _)
   | (with_reducible exact spec_StateOf.mono _ _)
   | (with_reducible exact LeO.refl _)
   | (with_reducible exact LeO.none _)
   | (with_reducible refine LeO.ite ?_ ?_)
   | (with_reducible refine LeO.bind ?_ (fun _ => ?_))
   | exact impl_ItemsOk.mono _ _
   | exact impl_SameState.mono _ _ _
   | exact impl_StateOf.mono _ _
   | exact laws_mixed.mono _ _ _
   | exact spec_DrawItems.mono _ _
   | exact spec_DrawPlaces.mono _ _
   | exact spec_StateOf.mono _ _
   | exact LeO.none _
   | refine LeO.ite ?_ ?_
   | refine LeO.bind ?_ (fun _ => ?_)
def laws_FnAnyOrder.T9 : Bool × List (List Nat × List Nat) := (true, [([], []), ([], []), ([0, 1], [0, 1]), ([], []), ([], []), ([4], [4]), ([5], [5]), ([], []), ([7], [7]), ([6, 8], [6, 8]), ([3, 9], [3, 9]), ([10], [10]), ([11], [11]), ([2, 12, 2], [2, 12]), ([13, 13, 0, 1, 2, 3, 4, 5, 6, 7, 8, 9, 10, 11, 12, 13], [13])])
def laws_FnAnyOrder.B9 : List Nat := [0, 0, 3, 0, 0, 16, 48, 0, 128, 496, 1016, 2040, 4088, 8191, 16383]
theorem laws_FnAnyOrder.tab9 : rtab .any (opsOf Try.f7 9) = laws_FnAnyOrder.T9 := by kernel_rfl
theorem laws_FnAnyOrder.bits9 : waitsOk laws_FnAnyOrder.T9.2 laws_FnAnyOrder.B9 = true := by kernel_rfl
def laws_FnAnyOrder.T10 : Bool × List (List Nat × List Nat) := (true, [([], []), ([0], [0]), ([], []), ([1, 2, 1], [1, 2]), ([3, 3], [3]), ([4], [4]), ([5, 4, 4], [4, 5]), ([4], [4]), ([6, 7, 6, 4], [4, 6, 7]), ([4, 8], [4, 8]), ([9, 8], [9]), ([10], [10]), ([10], [10]), ([12, 10, 10], [10, 12]), ([11, 13, 13, 10], [10, 11, 13]), ([10, 14], [10, 14]), ([15, 14], [15]), ([16], [16]), ([17, 16, 16], [16, 17]), ([16, 18], [16, 18]), ([19, 18, 0, 1, 2, 3, 4, 5, 6, 7, 8, 9, 10, 11, 12, 13, 14, 15, 16, 17, 18, 19], [19])])
def laws_FnAnyOrder.B10 : List Nat := [0, 1, 0, 7, 15, 31, 63, 31, 255, 511, 1023, 2047, 2047, 6143, 16383, 32767, 65535, 131071, 262143, 524287, 1048575]
theorem laws_FnAnyOrder.tab10 : rtab .any (opsOf Try.f7 10) = laws_FnAnyOrder.T10 := by kernel_rfl
theorem laws_FnAnyOrder.bits10 : waitsOk laws_FnAnyOrder.T10.2 laws_FnAnyOrder.B10 = true := by kernel_rfl
theorem laws_FnAnyOrder.calls (k : Nat) (A0 : Option Addr) (c0 : Nat) (l0 : List Int) (w : World) (hr0 : Kd.C (Kd.int .u8) w A0 l0.length l0) (hc0 : l0.length ≤ c0) (h : laws_FnAnyOrder.f k l0 = some true) :
  Calls Try.prog 7 #[.slice A0 l0.length c0] w fun e w' => e = .returned (.bool true) ∧ Below w.heap.size w w' := by
 have hu60 := Try.underlying60
 have hu32 := Try.underlying32
 have HR0 := Aside0.mk hr0
 have HC0 := Aside0.mk hc0
 clear hr0 hc0
 have HB := ak (Below.refl w.heap.size w)
 have H : ((laws_big.f l0).bind fun t525 => (if t525 = true then (some true) else ((spec_DrawItems.f k l0).bind fun t526 => ((spec_DrawPlaces.f k l0).bind fun t529 => ((impl_StateOf.f k t526).bind fun t532 => (if (t526.length : Int) = 0 then (if (t532.length : Int) = 0 then ((impl_ItemsOk.f k t526).bind fun t536 => (some t536)) else (some false)) else (if 0 < (t529.length : Int) then ((laws_mixed.f k t526 (Int.tmod (rd t529 0) (t526.length : Int))).bind fun t538 => ((some (([] : List (S32)) : List (S32))).bind fun y541 => (if y541.length + t526.length < 1466015503701 then ((some (y541 ++ t526 : List (S32))).bind fun y544 => (if 1 < (t529.length : Int) then (if 0 ≤ (Int.tmod (rd t529 1) (t526.length : Int)) then (if (Int.tmod (rd t529 1) (t526.length : Int)) < (t526.length : Int) then ((some (([(⟨(rd_T32 t526 (Int.tmod (rd t529 1) (t526.length : Int))).f0, (⟨(rd_T32 t526 (Int.tmod (rd t529 1) (t526.length : Int))).f1.f0, (rd_T32 t526 (Int.tmod (rd t529 1) (t526.length : Int))).f1.f1, (rd_T32 t526 (Int.tmod (rd t529 1) (t526.length : Int))).f1.f2, (rd_T32 t526 (Int.tmod (rd t529 1) (t526.length : Int))).f1.f3, (rd_T32 t526 (Int.tmod (rd t529 1) (t526.length : Int))).f1.f4, (rd_T32 t526 (Int.tmod (rd t529 1) (t526.length : Int))).f1.f5, (rd_T32 t526 (Int.tmod (rd t529 1) (t526.length : Int))).f1.f6, (rd_T32 t526 (Int.tmod (rd t529 1) (t526.length : Int))).f1.f7⟩ : S23)⟩ : S32)] : List (S32)) : List (S32))).bind fun y549 => (if y544.length + y549.length < 1466015503701 then ((impl_StateOf.f k t538).bind fun t555 => ((impl_SameState.f k t555 t532).bind fun t558 => (if t558 = true then ((impl_StateOf.f k (y544 ++ y549)).bind fun t559 => ((impl_SameState.f k t559 t532).bind fun t562 => (if t562 = true then ((spec_StateOf.f k t526).bind fun t563 => ((impl_SameState.f k t532 t563).bind fun t566 => (if t566 = true then ((impl_ItemsOk.f k t538).bind fun t567 => (some t567)) else (some false)))) else (some false)))) else (some false)))) else (none))) else (none)) else (none)) else (none))) else (none)))) else (none)))))))) = some true := h
 clear h
 obtain ⟨t525, A2, H⟩ := eb H
 try dsimp only at H
 by_cases c3 : t525 = true
 ·subst c3
  have H1 : (some true) = some true := rfl
  clear H
  have H := H1
  clear H1
  go_enter Try.func7, Try.ntmps7
  go_wp2_with (first | ((with_reducible refine gate_callee (f := 23) rfl ?_); refine gl (some 9) Try.func23 #[.slice A0 l0.length c0] ?_; (with_reducible refine (laws_big.calls _ _ l0 true _ ?side1 ?side2 A2.out).mono ?_); (case side1 => repeat (first | exact HR0.out | (with_reducible refine Kd.C_alloc ?_ _) | (with_reducible refine Kd.C_drewN ?_ _) | (with_reducible refine Kd.C_drew ?_))); (case side2 => exact HC0.out); rintro e w' ⟨rfl, ⟨nd, rfl⟩⟩; refine ⟨_, rfl, ?_⟩))
  go_ret
  exact ⟨ew, by exact lG HB⟩
 ·replace c3 := Bool.eq_false_iff.mpr c3
  subst c3
  rw [if_neg (show ¬ (false = true) by decide)] at H
  obtain ⟨t526, A4, H⟩ := eb H
  try dsimp only at H
  obtain ⟨t529, A5, H⟩ := eb H
  try dsimp only at H
  obtain ⟨t532, A6, H⟩ := eb H
  try dsimp only at H
  by_cases c7 : (t526.length : Int) = 0
  ·rw [if_pos c7] at H
   have c7b0 : ((t526.length : Int) == 0) = true := beq_iff_eq.mpr c7
   have c7b1 : ((t526.length : Int) != 0) = false := bne_eq_false_iff_eq.mpr c7
   clear c7
   by_cases c8 : (t532.length : Int) = 0
   ·rw [if_pos c8] at H
    have c8b0 : ((t532.length : Int) == 0) = true := beq_iff_eq.mpr c8
    have c8b1 : ((t532.length : Int) != 0) = false := bne_eq_false_iff_eq.mpr c8
    clear c8
    obtain ⟨t536, A9, H⟩ := eb H
    try dsimp only at H
    obtain rfl := Option.some.inj H
    go_enter Try.func7, Try.ntmps7
    go_wp2_with (first | ((with_reducible refine gate_callee (f := 23) rfl ?_); refine gl (some 9) Try.func23 #[.slice A0 l0.length c0] ?_; (with_reducible refine (laws_big.calls _ _ l0 false _ ?side1 ?side2 A2.out).mono ?_); (case side1 => repeat (first | exact HR0.out | (with_reducible refine Kd.C_alloc ?_ _) | (with_reducible refine Kd.C_drewN ?_ _) | (with_reducible refine Kd.C_drew ?_))); (case side2 => exact HC0.out); rintro e w' ⟨rfl, ⟨nd, rfl⟩⟩; refine ⟨_, rfl, ?_⟩) | ((with_reducible refine gate_callee (f := 33) rfl ?_); refine gl (some 11) Try.func33 #[.slice A0 l0.length c0] ?_; (with_reducible refine (spec_DrawItems.calls k _ _ l0 t526 _ ?side1 ?side2 A4.out).mono ?_); (case side1 => repeat (first | exact HR0.out | (with_reducible refine Kd.C_alloc ?_ _) | (with_reducible refine Kd.C_drewN ?_ _) | (with_reducible refine Kd.C_drew ?_))); (case side2 => exact HC0.out); rintro e w10 ⟨v527, rfl, ho0, hb⟩; refine ⟨_, rfl, ?_⟩; replace HO528 := ak (Kd.R_lower ho0 (below_size (lG HB))); replace HB := lB HB hb; (try clear hb); (try clear hk); (try clear ho0)) | ((with_reducible refine gate_callee (f := 34) rfl ?_); refine gl (some 13) Try.func34 #[.slice A0 l0.length c0] ?_; (with_reducible refine (spec_DrawPlaces.calls k _ _ l0 t529 _ ?side1 ?side2 A5.out).mono ?_); (case side1 => exact cG (Kd.C_below HR0.out HB.out)); (case side2 => exact HC0.out); rintro e w11 ⟨v530, rfl, ho0, hb⟩; refine ⟨_, rfl, ?_⟩; replace HO528 := rB HO528 hb; replace HO531 := ak (Kd.R_lower ho0 (below_size (lG HB))); replace HB := lB HB hb; (try clear hb); (try clear hk); (try clear ho0); obtain ⟨Ao12, co12, eo12⟩ := Kd.R_slice HO528.out; subst eo12) | ((with_reducible refine gate_callee (f := 35) rfl ?_); refine gl (some 15) Try.func35 #[.slice Ao12 t526.length co12] ?_; (with_reducible refine (impl_StateOf.calls k _ _ t526 t532 _ ?side1 ?side2 A6.out).mono ?_); (case side1 => exact cG (Kd.R_reads' HO528.out).2.2); (case side2 => exact (Kd.R_reads' HO528.out).2.1); rintro e w13 ⟨v533, rfl, ho0, hb⟩; refine ⟨_, rfl, ?_⟩; replace HO528 := rB HO528 hb; replace HO531 := rB HO531 hb; replace HO534 := ak (Kd.S_lower ho0 (below_size (lG HB))); replace HB := lB HB hb; (try clear hb); (try clear hk); (try clear ho0)) | ((with_reducible refine gate_dst (N := 5) rfl ?_); refine bx 5 #[.slice none 0 0] 60 ?_; intro gb535 hg w14 hbox hb; replace HO528 := rB HO528 hb; replace HO531 := rB HO531 hb; replace HO534 := ak (Kd.S_below (by (with_reducible repeat (first | apply Kd.S_alloc | apply Kd.S_drewN | apply Kd.S_drew)); exact HO534.out) hb); replace BK535 := ak (hbox); replace GE535 := ak (bz hg (lG HB)); replace HB := lB HB hb; clear hb hbox hg; obtain ⟨Ao15, co15, eo15⟩ := Kd.S_slice HO534.out; subst eo15; obtain ⟨_, _⟩ := bC1 BK535) | (go_at_call 21; (with_reducible refine (impl_ItemsOk.calls k _ _ t526 true _ ?side1 ?side2 A9.out).mono ?_); (case side1 => exact (Kd.R_reads' (rT HO528 BK535 (by decide))).2.2); (case side2 => exact (Kd.R_reads' HO528.out).2.1); rintro e w17 ⟨rfl, hb⟩; replace HO528 := ak (Kd.R_below (rT HO528 BK535 (by decide)) hb); replace HO531 := ak (Kd.R_below (rT HO531 BK535 (by decide)) hb); replace HO534 := ak (Kd.S_below (by (with_reducible repeat (first | apply Kd.S_alloc | apply Kd.S_drewN | apply Kd.S_drew)); exact (Kd.S_mono (Kd.S_far (p := ⟨gb535, 0, none⟩) (Kd.S_types HO534.out BK535.out (by decide)) (fun _ hk => hk.2) (.slice Ao15 t532.length co15)) (fun _ h_ => h_.1))) hb); replace BK535 := ak (blk_below (g := gb535) (o := .cells #[.slice Ao15 t532.length co15] 60 (0, 0)) (bW BK535) hb); replace HB := ak (below_step (lT HB (gC GE535 gN)) hb); (try clear hb); (try clear hk)))
    go_ret
    exact ⟨ew, by exact lT HB (gC GE535 gN)⟩
   ·rw [if_neg c8] at H
    have c8b0 : ((t532.length : Int) == 0) = false := beq_eq_false_iff_ne.mpr c8
    have c8b1 : ((t532.length : Int) != 0) = true := bne_iff_ne.mpr c8
    have c8b2 : ¬ (t532 = []) := fun h_ => c8 (by rw [h_]; rfl)
    exact absurd H (by simp)
  ·rw [if_neg c7] at H
   have c7b0 : ((t526.length : Int) == 0) = false := beq_eq_false_iff_ne.mpr c7
   have c7b1 : ((t526.length : Int) != 0) = true := bne_iff_ne.mpr c7
   have c7b2 : ¬ (t526 = []) := fun h_ => c7 (by rw [h_]; rfl)
   by_cases c25 : 0 < (t529.length : Int)
   ·rw [if_pos c25] at H
    have c25b0 : decide (0 < (t529.length : Int)) = true := decide_eq_true c25
    have c25b1 : decide (0 < t529.length) = true := decide_eq_true (by omega)
    clear c25
    obtain ⟨t538, A26, H⟩ := eb H
    try dsimp only at H
    obtain ⟨y541, hy541⟩ : ∃ y_ : List (S32), y_ = (([] : List (S32))) := ⟨_, rfl⟩
    replace H : (if y541.length + t526.length < 1466015503701 then ((some (y541 ++ t526 : List (S32))).bind fun y544 => (if 1 < (t529.length : Int) then (if 0 ≤ (Int.tmod (rd t529 1) (t526.length : Int)) then (if (Int.tmod (rd t529 1) (t526.length : Int)) < (t526.length : Int) then ((some (([(⟨(rd_T32 t526 (Int.tmod (rd t529 1) (t526.length : Int))).f0, (⟨(rd_T32 t526 (Int.tmod (rd t529 1) (t526.length : Int))).f1.f0, (rd_T32 t526 (Int.tmod (rd t529 1) (t526.length : Int))).f1.f1, (rd_T32 t526 (Int.tmod (rd t529 1) (t526.length : Int))).f1.f2, (rd_T32 t526 (Int.tmod (rd t529 1) (t526.length : Int))).f1.f3, (rd_T32 t526 (Int.tmod (rd t529 1) (t526.length : Int))).f1.f4, (rd_T32 t526 (Int.tmod (rd t529 1) (t526.length : Int))).f1.f5, (rd_T32 t526 (Int.tmod (rd t529 1) (t526.length : Int))).f1.f6, (rd_T32 t526 (Int.tmod (rd t529 1) (t526.length : Int))).f1.f7⟩ : S23)⟩ : S32)] : List (S32)) : List (S32))).bind fun y549 => (if y544.length + y549.length < 1466015503701 then ((impl_StateOf.f k t538).bind fun t555 => ((impl_SameState.f k t555 t532).bind fun t558 => (if t558 = true then ((impl_StateOf.f k (y544 ++ y549)).bind fun t559 => ((impl_SameState.f k t559 t532).bind fun t562 => (if t562 = true then ((spec_StateOf.f k t526).bind fun t563 => ((impl_SameState.f k t532 t563).bind fun t566 => (if t566 = true then ((impl_ItemsOk.f k t538).bind fun t567 => (some t567)) else (some false)))) else (some false)))) else (some false)))) else (none))) else (none)) else (none)) else (none))) else (none)) = some true := by first | (rw [hy541]; with_reducible exact H) | (have H2_ := (Option.bind_some _ _).symm.trans H; rw [hy541]; with_reducible exact H2_) | (have H2_ := (Option.bind_some _ _).symm.trans H; with_reducible exact H2_) | with_reducible exact H | (rw [hy541]; exact H) | exact H
    have Ny541 := Aside0.mk hy541
    clear hy541
    by_cases c27 : y541.length + t526.length < 1466015503701
    ·rw [if_pos c27] at H
     have LMc27 := Aside0.mk c27
     clear c27
     obtain ⟨y544, hy544⟩ : ∃ y_ : List (S32), y_ = (y541 ++ t526) := ⟨_, rfl⟩
     replace H : (if 1 < (t529.length : Int) then (if 0 ≤ (Int.tmod (rd t529 1) (t526.length : Int)) then (if (Int.tmod (rd t529 1) (t526.length : Int)) < (t526.length : Int) then ((some (([(⟨(rd_T32 t526 (Int.tmod (rd t529 1) (t526.length : Int))).f0, (⟨(rd_T32 t526 (Int.tmod (rd t529 1) (t526.length : Int))).f1.f0, (rd_T32 t526 (Int.tmod (rd t529 1) (t526.length : Int))).f1.f1, (rd_T32 t526 (Int.tmod (rd t529 1) (t526.length : Int))).f1.f2, (rd_T32 t526 (Int.tmod (rd t529 1) (t526.length : Int))).f1.f3, (rd_T32 t526 (Int.tmod (rd t529 1) (t526.length : Int))).f1.f4, (rd_T32 t526 (Int.tmod (rd t529 1) (t526.length : Int))).f1.f5, (rd_T32 t526 (Int.tmod (rd t529 1) (t526.length : Int))).f1.f6, (rd_T32 t526 (Int.tmod (rd t529 1) (t526.length : Int))).f1.f7⟩ : S23)⟩ : S32)] : List (S32)) : List (S32))).bind fun y549 => (if y544.length + y549.length < 1466015503701 then ((impl_StateOf.f k t538).bind fun t555 => ((impl_SameState.f k t555 t532).bind fun t558 => (if t558 = true then ((impl_StateOf.f k (y544 ++ y549)).bind fun t559 => ((impl_SameState.f k t559 t532).bind fun t562 => (if t562 = true then ((spec_StateOf.f k t526).bind fun t563 => ((impl_SameState.f k t532 t563).bind fun t566 => (if t566 = true then ((impl_ItemsOk.f k t538).bind fun t567 => (some t567)) else (some false)))) else (some false)))) else (some false)))) else (none))) else (none)) else (none)) else (none)) = some true := by first | (rw [hy544]; with_reducible exact H) | (have H2_ := (Option.bind_some _ _).symm.trans H; rw [hy544]; with_reducible exact H2_) | (have H2_ := (Option.bind_some _ _).symm.trans H; with_reducible exact H2_) | with_reducible exact H | (rw [hy544]; exact H) | exact H
     have Ny544 := Aside0.mk hy544
     clear hy544
     by_cases c28 : 1 < (t529.length : Int)
     ·rw [if_pos c28] at H
      have c28b0 : decide (1 < (t529.length : Int)) = true := decide_eq_true c28
      have c28b1 : decide (1 < t529.length) = true := decide_eq_true (by omega)
      clear c28
      obtain ⟨ji29, hji29⟩ : ∃ j_ : Int, (Int.tmod (rd t529 1) (t526.length : Int)) = j_ := ⟨_, rfl⟩
      replace H : (if 0 ≤ (ji29) then (if (ji29) < (t526.length : Int) then ((some (([(⟨(rd_T32 t526 (ji29)).f0, (⟨(rd_T32 t526 (ji29)).f1.f0, (rd_T32 t526 (ji29)).f1.f1, (rd_T32 t526 (ji29)).f1.f2, (rd_T32 t526 (ji29)).f1.f3, (rd_T32 t526 (ji29)).f1.f4, (rd_T32 t526 (ji29)).f1.f5, (rd_T32 t526 (ji29)).f1.f6, (rd_T32 t526 (ji29)).f1.f7⟩ : S23)⟩ : S32)] : List (S32)) : List (S32))).bind fun y549 => (if y544.length + y549.length < 1466015503701 then ((impl_StateOf.f k t538).bind fun t555 => ((impl_SameState.f k t555 t532).bind fun t558 => (if t558 = true then ((impl_StateOf.f k (y544 ++ y549)).bind fun t559 => ((impl_SameState.f k t559 t532).bind fun t562 => (if t562 = true then ((spec_StateOf.f k t526).bind fun t563 => ((impl_SameState.f k t532 t563).bind fun t566 => (if t566 = true then ((impl_ItemsOk.f k t538).bind fun t567 => (some t567)) else (some false)))) else (some false)))) else (some false)))) else (none))) else (none)) else (none)) = some true := by first | (rw [hji29] at H; exact H) | (simp only [hji29] at H ⊢; exact H)
      (try rw [hji29] at A2)
      (try rw [hji29] at A4)
      (try rw [hji29] at A5)
      (try rw [hji29] at A6)
      (try rw [hji29] at A26)
      by_cases c30 : 0 ≤ (ji29)
      ·rw [if_pos c30] at H
       have c30b0 : decide (0 ≤ (ji29)) = true := decide_eq_true c30
       clear c30
       by_cases c31 : (ji29) < (t526.length : Int)
       ·rw [if_pos c31] at H
        have c31b0 : decide ((ji29) < (t526.length : Int)) = true := decide_eq_true c31
        clear c31
        obtain ⟨y549, hy549⟩ : ∃ y_ : List (S32), y_ = (([(⟨(rd_T32 t526 (ji29)).f0, (⟨(rd_T32 t526 (ji29)).f1.f0, (rd_T32 t526 (ji29)).f1.f1, (rd_T32 t526 (ji29)).f1.f2, (rd_T32 t526 (ji29)).f1.f3, (rd_T32 t526 (ji29)).f1.f4, (rd_T32 t526 (ji29)).f1.f5, (rd_T32 t526 (ji29)).f1.f6, (rd_T32 t526 (ji29)).f1.f7⟩ : S23)⟩ : S32)] : List (S32))) := ⟨_, rfl⟩
        replace H : (if y544.length + y549.length < 1466015503701 then ((impl_StateOf.f k t538).bind fun t555 => ((impl_SameState.f k t555 t532).bind fun t558 => (if t558 = true then ((impl_StateOf.f k (y544 ++ y549)).bind fun t559 => ((impl_SameState.f k t559 t532).bind fun t562 => (if t562 = true then ((spec_StateOf.f k t526).bind fun t563 => ((impl_SameState.f k t532 t563).bind fun t566 => (if t566 = true then ((impl_ItemsOk.f k t538).bind fun t567 => (some t567)) else (some false)))) else (some false)))) else (some false)))) else (none)) = some true := by first | (rw [hy549]; with_reducible exact H) | (have H2_ := (Option.bind_some _ _).symm.trans H; rw [hy549]; with_reducible exact H2_) | (have H2_ := (Option.bind_some _ _).symm.trans H; with_reducible exact H2_) | with_reducible exact H | (rw [hy549]; exact H) | exact H
        have Ny549 := Aside0.mk hy549
        clear hy549
        by_cases c32 : y544.length + y549.length < 1466015503701
        ·rw [if_pos c32] at H
         have LMc32 := Aside0.mk c32
         clear c32
         obtain ⟨y552, hy552⟩ : ∃ y_ : List (S32), y_ = (y544 ++ y549) := ⟨_, rfl⟩
         replace H : ((impl_StateOf.f k t538).bind fun t555 => ((impl_SameState.f k t555 t532).bind fun t558 => (if t558 = true then ((impl_StateOf.f k y552).bind fun t559 => ((impl_SameState.f k t559 t532).bind fun t562 => (if t562 = true then ((spec_StateOf.f k t526).bind fun t563 => ((impl_SameState.f k t532 t563).bind fun t566 => (if t566 = true then ((impl_ItemsOk.f k t538).bind fun t567 => (some t567)) else (some false)))) else (some false)))) else (some false)))) = some true := by first | (rw [hy552]; with_reducible exact H) | (have H2_ := (Option.bind_some _ _).symm.trans H; rw [hy552]; with_reducible exact H2_) | (have H2_ := (Option.bind_some _ _).symm.trans H; with_reducible exact H2_) | with_reducible exact H | (rw [hy552]; exact H) | exact H
         have Ny552 := Aside0.mk hy552
         clear hy552
         obtain ⟨t555, A33, H⟩ := eb H
         try dsimp only at H
         obtain ⟨t558, A34, H⟩ := eb H
         try dsimp only at H
         by_cases c35 : t558 = true
         ·subst c35
          rw [if_pos rfl] at H
          obtain ⟨t559, A36, H⟩ := eb H
          try dsimp only at H
          obtain ⟨t562, A37, H⟩ := eb H
          try dsimp only at H
          by_cases c38 : t562 = true
          ·subst c38
           rw [if_pos rfl] at H
           obtain ⟨t563, A39, H⟩ := eb H
           try dsimp only at H
           obtain ⟨t566, A40, H⟩ := eb H
           try dsimp only at H
           by_cases c41 : t566 = true
           ·subst c41
            rw [if_pos rfl] at H
            obtain ⟨t567, A42, H⟩ := eb H
            try dsimp only at H
            obtain rfl := Option.some.inj H
            go_enter Try.func7, Try.ntmps7
            try go_wp2_with (first | ((with_reducible refine gate_callee (f := 23) rfl ?_); refine gl (some 9) Try.func23 #[.slice A0 l0.length c0] ?_; (with_reducible refine (laws_big.calls _ _ l0 false _ ?side1 ?side2 A2.out).mono ?_); (case side1 => repeat (first | exact HR0.out | (with_reducible refine Kd.C_alloc ?_ _) | (with_reducible refine Kd.C_drewN ?_ _) | (with_reducible refine Kd.C_drew ?_))); (case side2 => exact HC0.out); rintro e w' ⟨rfl, ⟨nd, rfl⟩⟩; refine ⟨_, rfl, ?_⟩) | ((with_reducible refine gate_callee (f := 33) rfl ?_); refine gl (some 11) Try.func33 #[.slice A0 l0.length c0] ?_; (with_reducible refine (spec_DrawItems.calls k _ _ l0 t526 _ ?side1 ?side2 A4.out).mono ?_); (case side1 => repeat (first | exact HR0.out | (with_reducible refine Kd.C_alloc ?_ _) | (with_reducible refine Kd.C_drewN ?_ _) | (with_reducible refine Kd.C_drew ?_))); (case side2 => exact HC0.out); rintro e w43 ⟨v527, rfl, ho0, hb⟩; refine ⟨_, rfl, ?_⟩; replace HO528 := ak (Kd.R_lower ho0 (below_size (lG HB))); replace HB := lB HB hb; (try clear hb); (try clear hk); (try clear ho0)) | ((with_reducible refine gate_callee (f := 34) rfl ?_); refine gl (some 13) Try.func34 #[.slice A0 l0.length c0] ?_; (with_reducible refine (spec_DrawPlaces.calls k _ _ l0 t529 _ ?side1 ?side2 A5.out).mono ?_); (case side1 => exact cG (Kd.C_below HR0.out HB.out)); (case side2 => exact HC0.out); rintro e w44 ⟨v530, rfl, ho0, hb⟩; refine ⟨_, rfl, ?_⟩; replace HO528 := rB HO528 hb; replace HO531 := ak (Kd.R_lower ho0 (below_size (lG HB))); replace HB := lB HB hb; (try clear hb); (try clear hk); (try clear ho0); obtain ⟨Ao45, co45, eo45⟩ := Kd.R_slice HO528.out; subst eo45) | ((with_reducible refine gate_callee (f := 35) rfl ?_); refine gl (some 15) Try.func35 #[.slice Ao45 t526.length co45] ?_; (with_reducible refine (impl_StateOf.calls k _ _ t526 t532 _ ?side1 ?side2 A6.out).mono ?_); (case side1 => exact cG (Kd.R_reads' HO528.out).2.2); (case side2 => exact (Kd.R_reads' HO528.out).2.1); rintro e w46 ⟨v533, rfl, ho0, hb⟩; refine ⟨_, rfl, ?_⟩; replace HO528 := rB HO528 hb; replace HO531 := rB HO531 hb; replace HO534 := ak (Kd.S_lower ho0 (below_size (lG HB))); replace HB := lB HB hb; (try clear hb); (try clear hk); (try clear ho0)) | ((with_reducible refine gate_dst (N := 5) rfl ?_); refine bx 5 #[.slice none 0 0] 60 ?_; intro gb535 hg w47 hbox hb; replace HO528 := rB HO528 hb; replace HO531 := rB HO531 hb; replace HO534 := ak (Kd.S_below (by (with_reducible repeat (first | apply Kd.S_alloc | apply Kd.S_drewN | apply Kd.S_drew)); exact HO534.out) hb); replace BK535 := ak (hbox); replace GE535 := ak (bz hg (lG HB)); replace HB := lB HB hb; clear hb hbox hg; obtain ⟨Ao48, co48, eo48⟩ := Kd.S_slice HO534.out; subst eo48; obtain ⟨_, _⟩ := bC1 BK535; obtain ⟨Ao50, co50, eo50⟩ := Kd.R_slice HO531.out; subst eo50; have p537 : 0 ≤ (0 : Int) := (by omega); have q537 : 0 < (t529.length : Int) := oda; obtain ⟨ad537, e537, hx537_0⟩ := Kd.at_int (Kd.R_reads' HO531.out).2.2 0 p537 q537; cases e537; have qi537 : (0 < t529.length) = True := eq_true (by omega); (try rw [show ((0 : Int)).toNat = 0 from rfl] at hx537_0); (try rw [Addr.add_zero'] at hx537_0); have hn537_0 : ad537.block ≠ gb535 := Kd.own_blk (Kd.R_ne HO531.out BK535.out (by decide)); replace hx537_0 := (cell_far (p := ⟨gb535, 0, none⟩) (by first | (rw [add_block]; exact hn537_0) | (show (Addr.add _ _).block ≠ _; rw [add_block]; exact hn537_0) | exact hn537_0) (.slice Ao48 t532.length co48)).trans hx537_0; clear hn537_0; replace p537 := eq_true p537; replace q537 := eq_true q537) | ((with_reducible refine gate_callee (f := 36) rfl ?_); refine gl (some 34) Try.func36 #[.slice Ao45 t526.length co45, .int .i64 (Int.tmod (rd t529 0) (t526.length : Int))] ?_; (with_reducible refine (laws_mixed.calls k _ _ t526 (Int.tmod (rd t529 0) (t526.length : Int)) t538 _ ?side1 ?side2 A26.out).mono ?_); (case side1 => exact (Kd.R_reads' (rT HO528 BK535 (by decide))).2.2); (case side2 => exact (Kd.R_reads' HO528.out).2.1); rintro e w51 ⟨v539, rfl, ho0, hb⟩; refine ⟨_, rfl, ?_⟩; replace HO531 := ak (Kd.R_below (rT HO531 BK535 (by decide)) hb); replace HO534 := ak (Kd.S_below (by (with_reducible repeat (first | apply Kd.S_alloc | apply Kd.S_drewN | apply Kd.S_drew)); exact (Kd.S_mono (Kd.S_far (p := ⟨gb535, 0, none⟩) (Kd.S_types HO534.out BK535.out (by decide)) (fun _ hk => hk.2) (.slice Ao48 t532.length co48)) (fun _ h_ => h_.1))) hb); replace HO540 := ak (Kd.R_lower (Kd.R_new' ho0 (Kd.R_lt (rT HO528 BK535 (by decide)))) (below_size (lT HB (gC GE535 gN)))); replace HO528 := ak (Kd.R_elder' (rT HO528 BK535 (by decide)) (Kd.R_base ho0) hb); replace BK535 := ak (blk_below (g := gb535) (o := .cells #[.slice Ao48 t532.length co48] 60 (0, 0)) (bW BK535) hb); replace HB := ak (below_step (lT HB (gC GE535 gN)) hb); (try clear hb); (try clear hk); (try clear ho0)))
            replace HO528 := ak (Kd.R_drew HO528.out)
            replace HO531 := ak (Kd.R_drew HO531.out)
            replace HO534 := ak (Kd.S_drew HO534.out)
            replace HO540 := ak (Kd.R_drew HO540.out)
            replace BK535 := ak (blk_drew BK535.out)
            replace HB := ak (below_drew1 HB.out)
            have p547 : 0 ≤ (1 : Int) := (by omega)
            have q547 : 1 < (t529.length : Int) := oda
            obtain ⟨ad547, e547, hx547_0⟩ := Kd.at_int (Kd.R_reads' HO531.out).2.2 1 p547 q547
            obtain rfl : ad537 = ad547 := (by injection e547)
            (try simp only [show (1 : Int).toNat = 1 from rfl, Nat.reduceMul, Nat.reduceEqDiff, Go.Addr.add, ↓reduceIte] at hx547_0)
            have qi547 : (1 < t529.length) = True := eq_true (by omega)
            (try rw [show ((1 : Int)).toNat = 1 from rfl] at hx547_0)
            replace p547 := eq_true p547
            replace q547 := eq_true q547
            have p548 : 0 ≤ ((ji29) : Int) := oda
            have q548 : (ji29) < (t526.length : Int) := oda
            obtain ⟨ad548, e548, hx548_0, hx548_1, hx548_2, hx548_3, hx548_4, hx548_5, hx548_6, hx548_7, hx548_8⟩ := at_T32 (Kd.R_reads' HO528.out).2.2 (ji29) p548 q548
            cases e548
            replace p548 := eq_true p548
            replace q548 := eq_true q548
            refine start_ (n := 15) (S := fun w' => w'.cell? ⟨ad537.block, ad537.off + 1, none⟩ = some (.int .i64 (rd t529 1)) ∧ w'.cell? (ad548.add (((ji29)).toNat * 9)) = some (.int .i64 ((rd_T32 t526 (ji29)).f0)) ∧ w'.cell? ⟨(ad548.add (((ji29)).toNat * 9)).block, (ad548.add (((ji29)).toNat * 9)).off + 1, none⟩ = some (.int .i64 ((rd_T32 t526 (ji29)).f1.f0)) ∧ w'.cell? ⟨(ad548.add (((ji29)).toNat * 9)).block, (ad548.add (((ji29)).toNat * 9)).off + 2, none⟩ = some (.int .i64 ((rd_T32 t526 (ji29)).f1.f1)) ∧ w'.cell? ⟨(ad548.add (((ji29)).toNat * 9)).block, (ad548.add (((ji29)).toNat * 9)).off + 3, none⟩ = some (.int .i64 ((rd_T32 t526 (ji29)).f1.f2)) ∧ w'.cell? ⟨(ad548.add (((ji29)).toNat * 9)).block, (ad548.add (((ji29)).toNat * 9)).off + 4, none⟩ = some (.int .i64 ((rd_T32 t526 (ji29)).f1.f3)) ∧ w'.cell? ⟨(ad548.add (((ji29)).toNat * 9)).block, (ad548.add (((ji29)).toNat * 9)).off + 5, none⟩ = some (.int .i64 ((rd_T32 t526 (ji29)).f1.f4)) ∧ w'.cell? ⟨(ad548.add (((ji29)).toNat * 9)).block, (ad548.add (((ji29)).toNat * 9)).off + 6, none⟩ = some (.string ((rd_T32 t526 (ji29)).f1.f5)) ∧ w'.cell? ⟨(ad548.add (((ji29)).toNat * 9)).block, (ad548.add (((ji29)).toNat * 9)).off + 7, none⟩ = some (.string ((rd_T32 t526 (ji29)).f1.f6)) ∧ w'.cell? ⟨(ad548.add (((ji29)).toNat * 9)).block, (ad548.add (((ji29)).toNat * 9)).off + 8, none⟩ = some (.string ((rd_T32 t526 (ji29)).f1.f7))) (ds := []) #[f_,f_,f_,f_,f_,f_,f_,f_,f_,f_,f_,f_,f_,f_,f_] (by kernel_rfl) rfl rfl ⟨hx547_0, hx548_0, hx548_1, hx548_2, hx548_3, hx548_4, hx548_5, hx548_6, hx548_7, hx548_8⟩ (fun hHeld => ?_); refine with_tabW laws_FnAnyOrder.tab9 laws_FnAnyOrder.bits9 (fun HT_ HW_ => ?_)
            generalize w51.drew = w52 at HO528 HO531 HO534 HO540 BK535 HB hx547_0 hx548_0 hx548_1 hx548_2 hx548_3 hx548_4 hx548_5 hx548_6 hx548_7 hx548_8 hHeld ⊢
            refine pu 1 36 (fb 15 2) HT_ ?_
            refine pu 3 38 (fb 15 10) HT_ ?_
            refine pu 4 39 (fb 15 26) HT_ ?_
            refine pu 5 40 (fb 15 58) HT_ ?_
            refine pu 7 42 (fb 15 186) HT_ ?_
            refine pu 8 43 (fb 15 442) HT_ ?_
            refine tk 6 41 (fb 15 506) HT_ HW_ hHeld ?_
            refine pu 9 44 (fb 15 1018) HT_ ?_
            refine pu 10 45 (fb 15 2042) HT_ ?_
            refine tk 11 46 (fb 15 4090) HT_ HW_ hHeld ?_
            refine join_ (σ := Value × Value × Value) 2 #[t_,t_,t_,t_,t_,t_,t_,t_,t_,t_,t_,t_,t_,f_,f_] (fun s_ => [(35, s_.1), (37, s_.2.1), (47, s_.2.2)]) (fun s_ w' => (w'.cell? ⟨ad537.block, ad537.off + 1, none⟩ = some (.int .i64 (rd t529 1)) ∧ w'.cell? (ad548.add (((ji29)).toNat * 9)) = some (.int .i64 ((rd_T32 t526 (ji29)).f0)) ∧ w'.cell? ⟨(ad548.add (((ji29)).toNat * 9)).block, (ad548.add (((ji29)).toNat * 9)).off + 1, none⟩ = some (.int .i64 ((rd_T32 t526 (ji29)).f1.f0)) ∧ w'.cell? ⟨(ad548.add (((ji29)).toNat * 9)).block, (ad548.add (((ji29)).toNat * 9)).off + 2, none⟩ = some (.int .i64 ((rd_T32 t526 (ji29)).f1.f1)) ∧ w'.cell? ⟨(ad548.add (((ji29)).toNat * 9)).block, (ad548.add (((ji29)).toNat * 9)).off + 3, none⟩ = some (.int .i64 ((rd_T32 t526 (ji29)).f1.f2)) ∧ w'.cell? ⟨(ad548.add (((ji29)).toNat * 9)).block, (ad548.add (((ji29)).toNat * 9)).off + 4, none⟩ = some (.int .i64 ((rd_T32 t526 (ji29)).f1.f3)) ∧ w'.cell? ⟨(ad548.add (((ji29)).toNat * 9)).block, (ad548.add (((ji29)).toNat * 9)).off + 5, none⟩ = some (.int .i64 ((rd_T32 t526 (ji29)).f1.f4)) ∧ w'.cell? ⟨(ad548.add (((ji29)).toNat * 9)).block, (ad548.add (((ji29)).toNat * 9)).off + 6, none⟩ = some (.string ((rd_T32 t526 (ji29)).f1.f5)) ∧ w'.cell? ⟨(ad548.add (((ji29)).toNat * 9)).block, (ad548.add (((ji29)).toNat * 9)).off + 7, none⟩ = some (.string ((rd_T32 t526 (ji29)).f1.f6)) ∧ w'.cell? ⟨(ad548.add (((ji29)).toNat * 9)).block, (ad548.add (((ji29)).toNat * 9)).off + 8, none⟩ = some (.string ((rd_T32 t526 (ji29)).f1.f7))) ∧ (Kd.R k32 32 w' w.heap.size (fun k_ => some k_ ≠ (v539 : Value).ownBlock ∧ some k_ ≠ (s_.2.1 : Value).ownBlock ∧ some k_ ≠ (s_.2.2 : Value).ownBlock) (.slice (some ad548) t526.length co45) t526) ∧ (Kd.R (Kd.int .i64) 3 w' w.heap.size (fun _ => True) (.slice (some ad537) t529.length co50) t529) ∧ (Kd.S k66 66 w' w.heap.size (fun _ => True) (.slice Ao48 t532.length co48) t532) ∧ (Kd.R k32 32 w' w.heap.size (fun k_ => some k_ ≠ (.slice (some ad548) t526.length co45 : Value).ownBlock ∧ some k_ ≠ (s_.2.1 : Value).ownBlock ∧ some k_ ≠ (s_.2.2 : Value).ownBlock) v539 t538) ∧ (Kd.R k32 32 w' w.heap.size (fun k_ => some k_ ≠ (.slice (some ad548) t526.length co45 : Value).ownBlock ∧ some k_ ≠ (v539 : Value).ownBlock ∧ some k_ ≠ (s_.2.2 : Value).ownBlock) s_.2.1 y544) ∧ (Kd.R k32 32 w' w.heap.size (fun k_ => some k_ ≠ (.slice (some ad548) t526.length co45 : Value).ownBlock ∧ some k_ ≠ (v539 : Value).ownBlock ∧ some k_ ≠ (s_.2.1 : Value).ownBlock) s_.2.2 y549) ∧ (w'.heap[gb535]? = some (.cells #[.slice Ao48 t532.length co48] 60 (0, 0))) ∧ (Below w.heap.size w w')) ?_ ?_
            rotate_left
            ·intro hCont
             refine two_ (i := 0) (j := 12) (Ni := some 35) (Nj := some 47) #[t_,t_,f_,t_,t_,t_,t_,t_,t_,t_,t_,t_,f_,f_,f_] #[f_,t_,f_,t_,t_,t_,t_,t_,t_,t_,t_,t_,t_,f_,f_] rfl rfl rfl rfl (two_of HT_.out (by kernel_rfl)) (by decide) (by decide) (fun K hK => ?_) (fun K hK => ?_)
             ·skip
              refine Kd.R_lit_step k32 _ 32 ?hg (N := 35) ?hd (xs := ([] : List (S32))) (inner := []) (ok := fun _ => True) (okp := fun _ => True) ?hr ?hp (fun _ hk => hk) trivial (Below.refl _ _) (Nat.le_refl _) (by simp) ?_; (case hd => rfl); (case hg => rfl); (case hr => first | (go_simp; done) | (go_simp; rfl)); (case hp => exact (Reps.none _ _))
              intro v542 w53 ho54 hb hg_ hnew_
              have HS0_ := (hb.cell (World.block_lt_of_cell? _ _ (hHeld.1))).trans (hHeld.1)
              have HS1_ := (hb.cell (World.block_lt_of_cell? _ _ (hHeld.2.1))).trans (hHeld.2.1)
              have HS2_ := (hb.cell (World.block_lt_of_cell? _ _ (hHeld.2.2.1))).trans (hHeld.2.2.1)
              have HS3_ := (hb.cell (World.block_lt_of_cell? _ _ (hHeld.2.2.2.1))).trans (hHeld.2.2.2.1)
              have HS4_ := (hb.cell (World.block_lt_of_cell? _ _ (hHeld.2.2.2.2.1))).trans (hHeld.2.2.2.2.1)
              have HS5_ := (hb.cell (World.block_lt_of_cell? _ _ (hHeld.2.2.2.2.2.1))).trans (hHeld.2.2.2.2.2.1)
              have HS6_ := (hb.cell (World.block_lt_of_cell? _ _ (hHeld.2.2.2.2.2.2.1))).trans (hHeld.2.2.2.2.2.2.1)
              have HS7_ := (hb.cell (World.block_lt_of_cell? _ _ (hHeld.2.2.2.2.2.2.2.1))).trans (hHeld.2.2.2.2.2.2.2.1)
              have HS8_ := (hb.cell (World.block_lt_of_cell? _ _ (hHeld.2.2.2.2.2.2.2.2.1))).trans (hHeld.2.2.2.2.2.2.2.2.1)
              have HS9_ := (hb.cell (World.block_lt_of_cell? _ _ (hHeld.2.2.2.2.2.2.2.2.2))).trans (hHeld.2.2.2.2.2.2.2.2.2)
              clear hg_ hnew_
              (first | rw [← Ny541.out] at ho54 | (simp only [Int.reduceToNat] at ho54; rw [← Ny541.out] at ho54))
              replace HO531 := rB HO531 hb
              replace HO534 := ak (Kd.S_below (by (with_reducible repeat (first | apply Kd.S_alloc | apply Kd.S_drewN | apply Kd.S_drew)); exact HO534.out) hb)
              replace HO543 := ak (Kd.R_lower (Kd.R_new' (Kd.R_new' ho54 (Kd.R_lt (rG HO528))) (Kd.R_lt (rG HO540))) (below_size (lT HB (gC GE535 gN))))
              replace HO528 := ak (Kd.R_elder' (rG HO528) (Kd.R_base ho54) hb)
              replace HO540 := ak (Kd.R_elder' (rG HO540) (Kd.R_base ho54) hb)
              replace BK535 := bB BK535 hb
              replace HB := ak (below_step (lT HB (gC GE535 gN)) hb)
              clear hb ho54
              refine hK.out _ _ ⟨HS0_, HS1_, HS2_, HS3_, HS4_, HS5_, HS6_, HS7_, HS8_, HS9_⟩ (fun hHeld => ?_)
              clear hK K
              refine nm ?_
              refine two_ (i := 2) (j := 12) (Ni := some 37) (Nj := some 47) #[t_,t_,t_,t_,t_,t_,t_,t_,t_,t_,t_,t_,f_,f_,f_] #[t_,t_,f_,t_,t_,t_,t_,t_,t_,t_,t_,t_,t_,f_,f_] rfl rfl rfl rfl (two_of HT_.out (by kernel_rfl)) (by decide) (by decide) (fun K hK => ?_) (fun K hK => ?_)
              ·skip
               refine Kd.R_append_rows_step k32 (w0 := w) w.heap.size (by rfl) (.tmp 35) (.tmp 36) 42 32 (.agg #[(.int .i64 0), (.int .i64 0), (.int .i64 0), (.int .i64 0), (.int .i64 0), (.int .i64 0), (.string ⟨#[]⟩), (.string ⟨#[]⟩), (.string ⟨#[]⟩)]) 96 rfl Try.underlying42 info32 rfl (by decide) (by omega) v542 y541 t526 _ _ _ (fun k_ => some k_ ≠ (.slice (some ad548) t526.length co45 : Value).ownBlock ∧ some k_ ≠ (v539 : Value).ownBlock) (fun _ => False) rfl rfl ?aO ?aR (fun _ _ h => h) (fun _ h => h.elim) ?aF ?aB ?aS ?aL ?_
               (case aR => exact cG (Kd.R_reads' HO528.out).2.2)
               (case aB => exact (lT HB (gC GE535 gN)))
               (case aF => exact (fun k_ hk => ⟨Kd.fresh' (Kd.R_lt (rG HO528)) k_ hk, Kd.fresh' (Kd.R_lt (rG HO540)) k_ hk⟩))
               (case aO => exact (by (with_reducible repeat (first | apply Kd.R_alloc | apply Kd.R_drewN | apply Kd.R_drew)); exact Kd.R_mono HO543.out (fun _ hk => ⟨hk.1.2, hk.2⟩)))
               (case aS => exact (below_size (lT HB (gC GE535 gN))))
               (case aL => have := LMc27.out; omega)
               intro v545 w55 ho hb hg hat
               have HS0_ := cell_grown hg (hHeld.1) (by first | (rw [add_block]; exact (((Kd.R_apart' HO531.out (Kd.R_typed HO543.out) (by decide)).1 _ rfl).2)) | (show some (Addr.add _ _).block ≠ _; rw [add_block]; exact (((Kd.R_apart' HO531.out (Kd.R_typed HO543.out) (by decide)).1 _ rfl).2)) | exact (((Kd.R_apart' HO531.out (Kd.R_typed HO543.out) (by decide)).1 _ rfl).2))
               have HS1_ := cell_grown hg (hHeld.2.1) (by first | (rw [add_block]; exact ((show _ ∧ some _ ≠ (v542 : Value).ownBlock from (Kd.R_mono (ok' := fun k_ => (fun k_ => some k_ ≠ (v539 : Value).ownBlock) k_ ∧ some k_ ≠ (v542 : Value).ownBlock) HO528.out (fun _ hk => ⟨hk.1.2, hk.2⟩)).1 _ rfl).2)) | (show some (Addr.add _ _).block ≠ _; rw [add_block]; exact ((show _ ∧ some _ ≠ (v542 : Value).ownBlock from (Kd.R_mono (ok' := fun k_ => (fun k_ => some k_ ≠ (v539 : Value).ownBlock) k_ ∧ some k_ ≠ (v542 : Value).ownBlock) HO528.out (fun _ hk => ⟨hk.1.2, hk.2⟩)).1 _ rfl).2)) | exact ((show _ ∧ some _ ≠ (v542 : Value).ownBlock from (Kd.R_mono (ok' := fun k_ => (fun k_ => some k_ ≠ (v539 : Value).ownBlock) k_ ∧ some k_ ≠ (v542 : Value).ownBlock) HO528.out (fun _ hk => ⟨hk.1.2, hk.2⟩)).1 _ rfl).2))
               have HS2_ := cell_grown hg (hHeld.2.2.1) (by first | (rw [add_block]; exact ((show _ ∧ some _ ≠ (v542 : Value).ownBlock from (Kd.R_mono (ok' := fun k_ => (fun k_ => some k_ ≠ (v539 : Value).ownBlock) k_ ∧ some k_ ≠ (v542 : Value).ownBlock) HO528.out (fun _ hk => ⟨hk.1.2, hk.2⟩)).1 _ rfl).2)) | (show some (Addr.add _ _).block ≠ _; rw [add_block]; exact ((show _ ∧ some _ ≠ (v542 : Value).ownBlock from (Kd.R_mono (ok' := fun k_ => (fun k_ => some k_ ≠ (v539 : Value).ownBlock) k_ ∧ some k_ ≠ (v542 : Value).ownBlock) HO528.out (fun _ hk => ⟨hk.1.2, hk.2⟩)).1 _ rfl).2)) | exact ((show _ ∧ some _ ≠ (v542 : Value).ownBlock from (Kd.R_mono (ok' := fun k_ => (fun k_ => some k_ ≠ (v539 : Value).ownBlock) k_ ∧ some k_ ≠ (v542 : Value).ownBlock) HO528.out (fun _ hk => ⟨hk.1.2, hk.2⟩)).1 _ rfl).2))
               have HS3_ := cell_grown hg (hHeld.2.2.2.1) (by first | (rw [add_block]; exact ((show _ ∧ some _ ≠ (v542 : Value).ownBlock from (Kd.R_mono (ok' := fun k_ => (fun k_ => some k_ ≠ (v539 : Value).ownBlock) k_ ∧ some k_ ≠ (v542 : Value).ownBlock) HO528.out (fun _ hk => ⟨hk.1.2, hk.2⟩)).1 _ rfl).2)) | (show some (Addr.add _ _).block ≠ _; rw [add_block]; exact ((show _ ∧ some _ ≠ (v542 : Value).ownBlock from (Kd.R_mono (ok' := fun k_ => (fun k_ => some k_ ≠ (v539 : Value).ownBlock) k_ ∧ some k_ ≠ (v542 : Value).ownBlock) HO528.out (fun _ hk => ⟨hk.1.2, hk.2⟩)).1 _ rfl).2)) | exact ((show _ ∧ some _ ≠ (v542 : Value).ownBlock from (Kd.R_mono (ok' := fun k_ => (fun k_ => some k_ ≠ (v539 : Value).ownBlock) k_ ∧ some k_ ≠ (v542 : Value).ownBlock) HO528.out (fun _ hk => ⟨hk.1.2, hk.2⟩)).1 _ rfl).2))
               have HS4_ := cell_grown hg (hHeld.2.2.2.2.1) (by first | (rw [add_block]; exact ((show _ ∧ some _ ≠ (v542 : Value).ownBlock from (Kd.R_mono (ok' := fun k_ => (fun k_ => some k_ ≠ (v539 : Value).ownBlock) k_ ∧ some k_ ≠ (v542 : Value).ownBlock) HO528.out (fun _ hk => ⟨hk.1.2, hk.2⟩)).1 _ rfl).2)) | (show some (Addr.add _ _).block ≠ _; rw [add_block]; exact ((show _ ∧ some _ ≠ (v542 : Value).ownBlock from (Kd.R_mono (ok' := fun k_ => (fun k_ => some k_ ≠ (v539 : Value).ownBlock) k_ ∧ some k_ ≠ (v542 : Value).ownBlock) HO528.out (fun _ hk => ⟨hk.1.2, hk.2⟩)).1 _ rfl).2)) | exact ((show _ ∧ some _ ≠ (v542 : Value).ownBlock from (Kd.R_mono (ok' := fun k_ => (fun k_ => some k_ ≠ (v539 : Value).ownBlock) k_ ∧ some k_ ≠ (v542 : Value).ownBlock) HO528.out (fun _ hk => ⟨hk.1.2, hk.2⟩)).1 _ rfl).2))
               have HS5_ := cell_grown hg (hHeld.2.2.2.2.2.1) (by first | (rw [add_block]; exact ((show _ ∧ some _ ≠ (v542 : Value).ownBlock from (Kd.R_mono (ok' := fun k_ => (fun k_ => some k_ ≠ (v539 : Value).ownBlock) k_ ∧ some k_ ≠ (v542 : Value).ownBlock) HO528.out (fun _ hk => ⟨hk.1.2, hk.2⟩)).1 _ rfl).2)) | (show some (Addr.add _ _).block ≠ _; rw [add_block]; exact ((show _ ∧ some _ ≠ (v542 : Value).ownBlock from (Kd.R_mono (ok' := fun k_ => (fun k_ => some k_ ≠ (v539 : Value).ownBlock) k_ ∧ some k_ ≠ (v542 : Value).ownBlock) HO528.out (fun _ hk => ⟨hk.1.2, hk.2⟩)).1 _ rfl).2)) | exact ((show _ ∧ some _ ≠ (v542 : Value).ownBlock from (Kd.R_mono (ok' := fun k_ => (fun k_ => some k_ ≠ (v539 : Value).ownBlock) k_ ∧ some k_ ≠ (v542 : Value).ownBlock) HO528.out (fun _ hk => ⟨hk.1.2, hk.2⟩)).1 _ rfl).2))
               have HS6_ := cell_grown hg (hHeld.2.2.2.2.2.2.1) (by first | (rw [add_block]; exact ((show _ ∧ some _ ≠ (v542 : Value).ownBlock from (Kd.R_mono (ok' := fun k_ => (fun k_ => some k_ ≠ (v539 : Value).ownBlock) k_ ∧ some k_ ≠ (v542 : Value).ownBlock) HO528.out (fun _ hk => ⟨hk.1.2, hk.2⟩)).1 _ rfl).2)) | (show some (Addr.add _ _).block ≠ _; rw [add_block]; exact ((show _ ∧ some _ ≠ (v542 : Value).ownBlock from (Kd.R_mono (ok' := fun k_ => (fun k_ => some k_ ≠ (v539 : Value).ownBlock) k_ ∧ some k_ ≠ (v542 : Value).ownBlock) HO528.out (fun _ hk => ⟨hk.1.2, hk.2⟩)).1 _ rfl).2)) | exact ((show _ ∧ some _ ≠ (v542 : Value).ownBlock from (Kd.R_mono (ok' := fun k_ => (fun k_ => some k_ ≠ (v539 : Value).ownBlock) k_ ∧ some k_ ≠ (v542 : Value).ownBlock) HO528.out (fun _ hk => ⟨hk.1.2, hk.2⟩)).1 _ rfl).2))
               have HS7_ := cell_grown hg (hHeld.2.2.2.2.2.2.2.1) (by first | (rw [add_block]; exact ((show _ ∧ some _ ≠ (v542 : Value).ownBlock from (Kd.R_mono (ok' := fun k_ => (fun k_ => some k_ ≠ (v539 : Value).ownBlock) k_ ∧ some k_ ≠ (v542 : Value).ownBlock) HO528.out (fun _ hk => ⟨hk.1.2, hk.2⟩)).1 _ rfl).2)) | (show some (Addr.add _ _).block ≠ _; rw [add_block]; exact ((show _ ∧ some _ ≠ (v542 : Value).ownBlock from (Kd.R_mono (ok' := fun k_ => (fun k_ => some k_ ≠ (v539 : Value).ownBlock) k_ ∧ some k_ ≠ (v542 : Value).ownBlock) HO528.out (fun _ hk => ⟨hk.1.2, hk.2⟩)).1 _ rfl).2)) | exact ((show _ ∧ some _ ≠ (v542 : Value).ownBlock from (Kd.R_mono (ok' := fun k_ => (fun k_ => some k_ ≠ (v539 : Value).ownBlock) k_ ∧ some k_ ≠ (v542 : Value).ownBlock) HO528.out (fun _ hk => ⟨hk.1.2, hk.2⟩)).1 _ rfl).2))
               have HS8_ := cell_grown hg (hHeld.2.2.2.2.2.2.2.2.1) (by first | (rw [add_block]; exact ((show _ ∧ some _ ≠ (v542 : Value).ownBlock from (Kd.R_mono (ok' := fun k_ => (fun k_ => some k_ ≠ (v539 : Value).ownBlock) k_ ∧ some k_ ≠ (v542 : Value).ownBlock) HO528.out (fun _ hk => ⟨hk.1.2, hk.2⟩)).1 _ rfl).2)) | (show some (Addr.add _ _).block ≠ _; rw [add_block]; exact ((show _ ∧ some _ ≠ (v542 : Value).ownBlock from (Kd.R_mono (ok' := fun k_ => (fun k_ => some k_ ≠ (v539 : Value).ownBlock) k_ ∧ some k_ ≠ (v542 : Value).ownBlock) HO528.out (fun _ hk => ⟨hk.1.2, hk.2⟩)).1 _ rfl).2)) | exact ((show _ ∧ some _ ≠ (v542 : Value).ownBlock from (Kd.R_mono (ok' := fun k_ => (fun k_ => some k_ ≠ (v539 : Value).ownBlock) k_ ∧ some k_ ≠ (v542 : Value).ownBlock) HO528.out (fun _ hk => ⟨hk.1.2, hk.2⟩)).1 _ rfl).2))
               have HS9_ := cell_grown hg (hHeld.2.2.2.2.2.2.2.2.2) (by first | (rw [add_block]; exact ((show _ ∧ some _ ≠ (v542 : Value).ownBlock from (Kd.R_mono (ok' := fun k_ => (fun k_ => some k_ ≠ (v539 : Value).ownBlock) k_ ∧ some k_ ≠ (v542 : Value).ownBlock) HO528.out (fun _ hk => ⟨hk.1.2, hk.2⟩)).1 _ rfl).2)) | (show some (Addr.add _ _).block ≠ _; rw [add_block]; exact ((show _ ∧ some _ ≠ (v542 : Value).ownBlock from (Kd.R_mono (ok' := fun k_ => (fun k_ => some k_ ≠ (v539 : Value).ownBlock) k_ ∧ some k_ ≠ (v542 : Value).ownBlock) HO528.out (fun _ hk => ⟨hk.1.2, hk.2⟩)).1 _ rfl).2)) | exact ((show _ ∧ some _ ≠ (v542 : Value).ownBlock from (Kd.R_mono (ok' := fun k_ => (fun k_ => some k_ ≠ (v539 : Value).ownBlock) k_ ∧ some k_ ≠ (v542 : Value).ownBlock) HO528.out (fun _ hk => ⟨hk.1.2, hk.2⟩)).1 _ rfl).2))
               rw [← Ny544.out] at ho
               have n0_ := ak (Kd.R_after (ok := (fun k_ => some k_ ≠ (v539 : Value).ownBlock)) (by (with_reducible repeat (first | apply Kd.R_alloc | apply Kd.R_drewN | apply Kd.R_drew)); exact Kd.R_mono HO528.out (fun _ hk => ⟨hk.1.2, hk.2⟩)) hg hat)
               have n1_ := ak (Kd.R_over' (rG HO531) (Kd.R_typed (rG HO543)) (by decide) hg)
               have n2_ := ak (Kd.S_over' (by (with_reducible repeat (first | apply Kd.S_alloc | apply Kd.S_drewN | apply Kd.S_drew)); exact HO534.out) (Kd.R_typed (rG HO543)) (by decide) hg)
               have n3_ := ak (blk_grown (g := gb535) (o := .cells #[.slice Ao48 t532.length co48] 60 (0, 0)) (bG BK535) hg (Kd.R_ne HO543.out BK535.out (by decide)))
               have n4_ := ak (Kd.R_after (ok := (fun k_ => some k_ ≠ (.slice (some ad548) t526.length co45 : Value).ownBlock)) (by (with_reducible repeat (first | apply Kd.R_alloc | apply Kd.R_drewN | apply Kd.R_drew)); exact Kd.R_mono HO540.out (fun _ hk => ⟨hk.1.2, hk.2⟩)) hg hat)
               have n5_ := ak (hb)
               have n6_ := ak (ho)
               clear HO528
               clear HO531
               clear HO534
               clear BK535
               clear HO540
               clear HB
               clear HO543
               have HO528 := n0_
               have HO531 := n1_
               have HO534 := n2_
               have BK535 := n3_
               have HO540 := n4_
               have HB := n5_
               have HO546 := n6_
               clear n0_ n1_ n2_ n3_ n4_ n5_ n6_
               clear ho hb hg hat
               refine hK.out _ _ ⟨HS0_, HS1_, HS2_, HS3_, HS4_, HS5_, HS6_, HS7_, HS8_, HS9_⟩ (fun hHeld => ?_)
               clear hK K
               refine nm ?_
               refine on 12 (some 47) (fb 15 8191) HT_ (fun K hK => ?_)
               refine Kd.R_lit_step k32 _ 32 ?hg (N := 47) ?hd (xs := ([(⟨(rd_T32 t526 (ji29)).f0, (⟨(rd_T32 t526 (ji29)).f1.f0, (rd_T32 t526 (ji29)).f1.f1, (rd_T32 t526 (ji29)).f1.f2, (rd_T32 t526 (ji29)).f1.f3, (rd_T32 t526 (ji29)).f1.f4, (rd_T32 t526 (ji29)).f1.f5, (rd_T32 t526 (ji29)).f1.f6, (rd_T32 t526 (ji29)).f1.f7⟩ : S23)⟩ : S32)] : List (S32))) (inner := [.int .i64 ((rd_T32 t526 (ji29)).f0), .int .i64 ((rd_T32 t526 (ji29)).f1.f0), .int .i64 ((rd_T32 t526 (ji29)).f1.f1), .int .i64 ((rd_T32 t526 (ji29)).f1.f2), .int .i64 ((rd_T32 t526 (ji29)).f1.f3), .int .i64 ((rd_T32 t526 (ji29)).f1.f4), .string ((rd_T32 t526 (ji29)).f1.f5), .string ((rd_T32 t526 (ji29)).f1.f6), .string ((rd_T32 t526 (ji29)).f1.f7)]) (ok := fun _ => True) (okp := fun _ => True) ?hr ?hp (fun _ hk => hk) trivial (Below.refl _ _) (Nat.le_refl _) (by simp) ?_; (case hd => rfl); (case hg => rfl); (case hr => first | (go_simp; done) | (go_simp; rfl)); (case hp => exact (Reps.c9 (show Kd.M k32 _ _ _ (⟨(rd_T32 t526 (ji29)).f0, (⟨(rd_T32 t526 (ji29)).f1.f0, (rd_T32 t526 (ji29)).f1.f1, (rd_T32 t526 (ji29)).f1.f2, (rd_T32 t526 (ji29)).f1.f3, (rd_T32 t526 (ji29)).f1.f4, (rd_T32 t526 (ji29)).f1.f5, (rd_T32 t526 (ji29)).f1.f6, (rd_T32 t526 (ji29)).f1.f7⟩ : S23)⟩ : S32) [.int .i64 ((rd_T32 t526 (ji29)).f0), .int .i64 ((rd_T32 t526 (ji29)).f1.f0), .int .i64 ((rd_T32 t526 (ji29)).f1.f1), .int .i64 ((rd_T32 t526 (ji29)).f1.f2), .int .i64 ((rd_T32 t526 (ji29)).f1.f3), .int .i64 ((rd_T32 t526 (ji29)).f1.f4), .string ((rd_T32 t526 (ji29)).f1.f5), .string ((rd_T32 t526 (ji29)).f1.f6), .string ((rd_T32 t526 (ji29)).f1.f7)] from (k32_mkM _ _ _ (⟨(rd_T32 t526 (ji29)).f0, (⟨(rd_T32 t526 (ji29)).f1.f0, (rd_T32 t526 (ji29)).f1.f1, (rd_T32 t526 (ji29)).f1.f2, (rd_T32 t526 (ji29)).f1.f3, (rd_T32 t526 (ji29)).f1.f4, (rd_T32 t526 (ji29)).f1.f5, (rd_T32 t526 (ji29)).f1.f6, (rd_T32 t526 (ji29)).f1.f7⟩ : S23)⟩ : S32) )) (Reps.none _ _)))
               intro v550 w56 ho57 hb hg_ hnew_
               have HS0_ := (hb.cell (World.block_lt_of_cell? _ _ (hHeld.1))).trans (hHeld.1)
               have HS1_ := (hb.cell (World.block_lt_of_cell? _ _ (hHeld.2.1))).trans (hHeld.2.1)
               have HS2_ := (hb.cell (World.block_lt_of_cell? _ _ (hHeld.2.2.1))).trans (hHeld.2.2.1)
               have HS3_ := (hb.cell (World.block_lt_of_cell? _ _ (hHeld.2.2.2.1))).trans (hHeld.2.2.2.1)
               have HS4_ := (hb.cell (World.block_lt_of_cell? _ _ (hHeld.2.2.2.2.1))).trans (hHeld.2.2.2.2.1)
               have HS5_ := (hb.cell (World.block_lt_of_cell? _ _ (hHeld.2.2.2.2.2.1))).trans (hHeld.2.2.2.2.2.1)
               have HS6_ := (hb.cell (World.block_lt_of_cell? _ _ (hHeld.2.2.2.2.2.2.1))).trans (hHeld.2.2.2.2.2.2.1)
               have HS7_ := (hb.cell (World.block_lt_of_cell? _ _ (hHeld.2.2.2.2.2.2.2.1))).trans (hHeld.2.2.2.2.2.2.2.1)
               have HS8_ := (hb.cell (World.block_lt_of_cell? _ _ (hHeld.2.2.2.2.2.2.2.2.1))).trans (hHeld.2.2.2.2.2.2.2.2.1)
               have HS9_ := (hb.cell (World.block_lt_of_cell? _ _ (hHeld.2.2.2.2.2.2.2.2.2))).trans (hHeld.2.2.2.2.2.2.2.2.2)
               clear hg_ hnew_
               (first | rw [← Ny549.out] at ho57 | (simp only [Int.reduceToNat] at ho57; rw [← Ny549.out] at ho57))
               replace HO531 := rB HO531 hb
               replace HO534 := ak (Kd.S_below (by (with_reducible repeat (first | apply Kd.S_alloc | apply Kd.S_drewN | apply Kd.S_drew)); exact HO534.out) hb)
               replace HO551 := ak (Kd.R_lower (Kd.R_new' (Kd.R_new' (Kd.R_new' ho57 (Kd.R_lt (rG HO528))) (Kd.R_lt (rG HO540))) (Kd.R_lt (rG HO546))) (below_size (lT HB (gC GE535 gN))))
               replace HO528 := ak (Kd.R_elder' (rG HO528) (Kd.R_base ho57) hb)
               replace HO540 := ak (Kd.R_elder' (rG HO540) (Kd.R_base ho57) hb)
               replace HO546 := ak (Kd.R_elder' (rG HO546) (Kd.R_base ho57) hb)
               replace BK535 := bB BK535 hb
               replace HB := ak (below_step (lT HB (gC GE535 gN)) hb)
               clear hb ho57
               refine hK.out _ _ ⟨HS0_, HS1_, HS2_, HS3_, HS4_, HS5_, HS6_, HS7_, HS8_, HS9_⟩ (fun hHeld => ?_)
               clear hK K
               refine nm ?_
               exact norm_ (by simp only [putAll, Act.put, List.setIfInBounds_toArray, List.set_cons_zero, List.set_cons_succ]) (hCont (v542, v545, v550) _ ⟨hHeld, (by (with_reducible repeat (first | apply Kd.R_alloc | apply Kd.R_drewN | apply Kd.R_drew)); exact Kd.R_mono HO528.out (fun _ hk => ⟨hk.1.1, ⟨hk.1.2, hk.2⟩⟩)), (rG HO531), (by (with_reducible repeat (first | apply Kd.S_alloc | apply Kd.S_drewN | apply Kd.S_drew)); exact HO534.out), (by (with_reducible repeat (first | apply Kd.R_alloc | apply Kd.R_drewN | apply Kd.R_drew)); exact Kd.R_mono HO540.out (fun _ hk => ⟨hk.1.1, ⟨hk.1.2, hk.2⟩⟩)), (by (with_reducible repeat (first | apply Kd.R_alloc | apply Kd.R_drewN | apply Kd.R_drew)); exact Kd.R_mono HO546.out (fun _ hk => ⟨hk.1.1, ⟨hk.1.2, hk.2⟩⟩)), (by (with_reducible repeat (first | apply Kd.R_alloc | apply Kd.R_drewN | apply Kd.R_drew)); exact Kd.R_mono HO551.out (fun _ hk => ⟨hk.1.1.2, ⟨hk.1.2, hk.2⟩⟩)), (bG BK535), (lT HB (gC GE535 gN))⟩)
              ·skip
               refine Kd.R_lit_step k32 _ 32 ?hg (N := 47) ?hd (xs := ([(⟨(rd_T32 t526 (ji29)).f0, (⟨(rd_T32 t526 (ji29)).f1.f0, (rd_T32 t526 (ji29)).f1.f1, (rd_T32 t526 (ji29)).f1.f2, (rd_T32 t526 (ji29)).f1.f3, (rd_T32 t526 (ji29)).f1.f4, (rd_T32 t526 (ji29)).f1.f5, (rd_T32 t526 (ji29)).f1.f6, (rd_T32 t526 (ji29)).f1.f7⟩ : S23)⟩ : S32)] : List (S32))) (inner := [.int .i64 ((rd_T32 t526 (ji29)).f0), .int .i64 ((rd_T32 t526 (ji29)).f1.f0), .int .i64 ((rd_T32 t526 (ji29)).f1.f1), .int .i64 ((rd_T32 t526 (ji29)).f1.f2), .int .i64 ((rd_T32 t526 (ji29)).f1.f3), .int .i64 ((rd_T32 t526 (ji29)).f1.f4), .string ((rd_T32 t526 (ji29)).f1.f5), .string ((rd_T32 t526 (ji29)).f1.f6), .string ((rd_T32 t526 (ji29)).f1.f7)]) (ok := fun _ => True) (okp := fun _ => True) ?hr ?hp (fun _ hk => hk) trivial (Below.refl _ _) (Nat.le_refl _) (by simp) ?_; (case hd => rfl); (case hg => rfl); (case hr => first | (go_simp; done) | (go_simp; rfl)); (case hp => exact (Reps.c9 (show Kd.M k32 _ _ _ (⟨(rd_T32 t526 (ji29)).f0, (⟨(rd_T32 t526 (ji29)).f1.f0, (rd_T32 t526 (ji29)).f1.f1, (rd_T32 t526 (ji29)).f1.f2, (rd_T32 t526 (ji29)).f1.f3, (rd_T32 t526 (ji29)).f1.f4, (rd_T32 t526 (ji29)).f1.f5, (rd_T32 t526 (ji29)).f1.f6, (rd_T32 t526 (ji29)).f1.f7⟩ : S23)⟩ : S32) [.int .i64 ((rd_T32 t526 (ji29)).f0), .int .i64 ((rd_T32 t526 (ji29)).f1.f0), .int .i64 ((rd_T32 t526 (ji29)).f1.f1), .int .i64 ((rd_T32 t526 (ji29)).f1.f2), .int .i64 ((rd_T32 t526 (ji29)).f1.f3), .int .i64 ((rd_T32 t526 (ji29)).f1.f4), .string ((rd_T32 t526 (ji29)).f1.f5), .string ((rd_T32 t526 (ji29)).f1.f6), .string ((rd_T32 t526 (ji29)).f1.f7)] from (k32_mkM _ _ _ (⟨(rd_T32 t526 (ji29)).f0, (⟨(rd_T32 t526 (ji29)).f1.f0, (rd_T32 t526 (ji29)).f1.f1, (rd_T32 t526 (ji29)).f1.f2, (rd_T32 t526 (ji29)).f1.f3, (rd_T32 t526 (ji29)).f1.f4, (rd_T32 t526 (ji29)).f1.f5, (rd_T32 t526 (ji29)).f1.f6, (rd_T32 t526 (ji29)).f1.f7⟩ : S23)⟩ : S32) )) (Reps.none _ _)))
               intro v550 w55 ho56 hb hg_ hnew_
               have HS0_ := (hb.cell (World.block_lt_of_cell? _ _ (hHeld.1))).trans (hHeld.1)
               have HS1_ := (hb.cell (World.block_lt_of_cell? _ _ (hHeld.2.1))).trans (hHeld.2.1)
               have HS2_ := (hb.cell (World.block_lt_of_cell? _ _ (hHeld.2.2.1))).trans (hHeld.2.2.1)
               have HS3_ := (hb.cell (World.block_lt_of_cell? _ _ (hHeld.2.2.2.1))).trans (hHeld.2.2.2.1)
               have HS4_ := (hb.cell (World.block_lt_of_cell? _ _ (hHeld.2.2.2.2.1))).trans (hHeld.2.2.2.2.1)
               have HS5_ := (hb.cell (World.block_lt_of_cell? _ _ (hHeld.2.2.2.2.2.1))).trans (hHeld.2.2.2.2.2.1)
               have HS6_ := (hb.cell (World.block_lt_of_cell? _ _ (hHeld.2.2.2.2.2.2.1))).trans (hHeld.2.2.2.2.2.2.1)
               have HS7_ := (hb.cell (World.block_lt_of_cell? _ _ (hHeld.2.2.2.2.2.2.2.1))).trans (hHeld.2.2.2.2.2.2.2.1)
               have HS8_ := (hb.cell (World.block_lt_of_cell? _ _ (hHeld.2.2.2.2.2.2.2.2.1))).trans (hHeld.2.2.2.2.2.2.2.2.1)
               have HS9_ := (hb.cell (World.block_lt_of_cell? _ _ (hHeld.2.2.2.2.2.2.2.2.2))).trans (hHeld.2.2.2.2.2.2.2.2.2)
               clear hg_ hnew_
               (first | rw [← Ny549.out] at ho56 | (simp only [Int.reduceToNat] at ho56; rw [← Ny549.out] at ho56))
               replace HO531 := rB HO531 hb
               replace HO534 := ak (Kd.S_below (by (with_reducible repeat (first | apply Kd.S_alloc | apply Kd.S_drewN | apply Kd.S_drew)); exact HO534.out) hb)
               replace HO551 := ak (Kd.R_lower (Kd.R_new' (Kd.R_new' (Kd.R_new' ho56 (Kd.R_lt (rG HO528))) (Kd.R_lt (rG HO540))) (Kd.R_lt (rG HO543))) (below_size (lT HB (gC GE535 gN))))
               replace HO528 := ak (Kd.R_elder' (rG HO528) (Kd.R_base ho56) hb)
               replace HO540 := ak (Kd.R_elder' (rG HO540) (Kd.R_base ho56) hb)
               replace HO543 := ak (Kd.R_elder' (rG HO543) (Kd.R_base ho56) hb)
               replace BK535 := bB BK535 hb
               replace HB := ak (below_step (lT HB (gC GE535 gN)) hb)
               clear hb ho56
               refine hK.out _ _ ⟨HS0_, HS1_, HS2_, HS3_, HS4_, HS5_, HS6_, HS7_, HS8_, HS9_⟩ (fun hHeld => ?_)
               clear hK K
               refine nm ?_
               refine on 2 (some 37) (fb 15 8191) HT_ (fun K hK => ?_)
               refine Kd.R_append_rows_step k32 (w0 := w) w.heap.size (by rfl) (.tmp 35) (.tmp 36) 42 32 (.agg #[(.int .i64 0), (.int .i64 0), (.int .i64 0), (.int .i64 0), (.int .i64 0), (.int .i64 0), (.string ⟨#[]⟩), (.string ⟨#[]⟩), (.string ⟨#[]⟩)]) 96 rfl Try.underlying42 info32 rfl (by decide) (by omega) v542 y541 t526 _ _ _ (fun k_ => some k_ ≠ (.slice (some ad548) t526.length co45 : Value).ownBlock ∧ some k_ ≠ (v539 : Value).ownBlock ∧ some k_ ≠ (v550 : Value).ownBlock) (fun _ => False) rfl rfl ?aO ?aR (fun _ _ h => h) (fun _ h => h.elim) ?aF ?aB ?aS ?aL ?_
               (case aR => exact cG (Kd.R_reads' HO528.out).2.2)
               (case aB => exact (lT HB (gC GE535 gN)))
               (case aF => exact (fun k_ hk => ⟨Kd.fresh' (Kd.R_lt (rG HO528)) k_ hk, Kd.fresh' (Kd.R_lt (rG HO540)) k_ hk, Kd.fresh' (Kd.R_lt (rG HO551)) k_ hk⟩))
               (case aO => exact (by (with_reducible repeat (first | apply Kd.R_alloc | apply Kd.R_drewN | apply Kd.R_drew)); exact Kd.R_mono HO543.out (fun _ hk => ⟨hk.1.1.2, ⟨hk.1.2, hk.2⟩⟩)))
               (case aS => exact (below_size (lT HB (gC GE535 gN))))
               (case aL => have := LMc27.out; omega)
               intro v545 w57 ho hb hg hat
               have HS0_ := cell_grown hg (hHeld.1) (by first | (rw [add_block]; exact (((Kd.R_apart' HO531.out (Kd.R_typed HO543.out) (by decide)).1 _ rfl).2)) | (show some (Addr.add _ _).block ≠ _; rw [add_block]; exact (((Kd.R_apart' HO531.out (Kd.R_typed HO543.out) (by decide)).1 _ rfl).2)) | exact (((Kd.R_apart' HO531.out (Kd.R_typed HO543.out) (by decide)).1 _ rfl).2))
               have HS1_ := cell_grown hg (hHeld.2.1) (by first | (rw [add_block]; exact ((show _ ∧ some _ ≠ (v542 : Value).ownBlock from (Kd.R_mono (ok' := fun k_ => (fun k_ => some k_ ≠ (v539 : Value).ownBlock ∧ some k_ ≠ (v550 : Value).ownBlock) k_ ∧ some k_ ≠ (v542 : Value).ownBlock) HO528.out (fun _ hk => ⟨⟨hk.1.1.2, hk.2⟩, hk.1.2⟩)).1 _ rfl).2)) | (show some (Addr.add _ _).block ≠ _; rw [add_block]; exact ((show _ ∧ some _ ≠ (v542 : Value).ownBlock from (Kd.R_mono (ok' := fun k_ => (fun k_ => some k_ ≠ (v539 : Value).ownBlock ∧ some k_ ≠ (v550 : Value).ownBlock) k_ ∧ some k_ ≠ (v542 : Value).ownBlock) HO528.out (fun _ hk => ⟨⟨hk.1.1.2, hk.2⟩, hk.1.2⟩)).1 _ rfl).2)) | exact ((show _ ∧ some _ ≠ (v542 : Value).ownBlock from (Kd.R_mono (ok' := fun k_ => (fun k_ => some k_ ≠ (v539 : Value).ownBlock ∧ some k_ ≠ (v550 : Value).ownBlock) k_ ∧ some k_ ≠ (v542 : Value).ownBlock) HO528.out (fun _ hk => ⟨⟨hk.1.1.2, hk.2⟩, hk.1.2⟩)).1 _ rfl).2))
               have HS2_ := cell_grown hg (hHeld.2.2.1) (by first | (rw [add_block]; exact ((show _ ∧ some _ ≠ (v542 : Value).ownBlock from (Kd.R_mono (ok' := fun k_ => (fun k_ => some k_ ≠ (v539 : Value).ownBlock ∧ some k_ ≠ (v550 : Value).ownBlock) k_ ∧ some k_ ≠ (v542 : Value).ownBlock) HO528.out (fun _ hk => ⟨⟨hk.1.1.2, hk.2⟩, hk.1.2⟩)).1 _ rfl).2)) | (show some (Addr.add _ _).block ≠ _; rw [add_block]; exact ((show _ ∧ some _ ≠ (v542 : Value).ownBlock from (Kd.R_mono (ok' := fun k_ => (fun k_ => some k_ ≠ (v539 : Value).ownBlock ∧ some k_ ≠ (v550 : Value).ownBlock) k_ ∧ some k_ ≠ (v542 : Value).ownBlock) HO528.out (fun _ hk => ⟨⟨hk.1.1.2, hk.2⟩, hk.1.2⟩)).1 _ rfl).2)) | exact ((show _ ∧ some _ ≠ (v542 : Value).ownBlock from (Kd.R_mono (ok' := fun k_ => (fun k_ => some k_ ≠ (v539 : Value).ownBlock ∧ some k_ ≠ (v550 : Value).ownBlock) k_ ∧ some k_ ≠ (v542 : Value).ownBlock) HO528.out (fun _ hk => ⟨⟨hk.1.1.2, hk.2⟩, hk.1.2⟩)).1 _ rfl).2))
               have HS3_ := cell_grown hg (hHeld.2.2.2.1) (by first | (rw [add_block]; exact ((show _ ∧ some _ ≠ (v542 : Value).ownBlock from (Kd.R_mono (ok' := fun k_ => (fun k_ => some k_ ≠ (v539 : Value).ownBlock ∧ some k_ ≠ (v550 : Value).ownBlock) k_ ∧ some k_ ≠ (v542 : Value).ownBlock) HO528.out (fun _ hk => ⟨⟨hk.1.1.2, hk.2⟩, hk.1.2⟩)).1 _ rfl).2)) | (show some (Addr.add _ _).block ≠ _; rw [add_block]; exact ((show _ ∧ some _ ≠ (v542 : Value).ownBlock from (Kd.R_mono (ok' := fun k_ => (fun k_ => some k_ ≠ (v539 : Value).ownBlock ∧ some k_ ≠ (v550 : Value).ownBlock) k_ ∧ some k_ ≠ (v542 : Value).ownBlock) HO528.out (fun _ hk => ⟨⟨hk.1.1.2, hk.2⟩, hk.1.2⟩)).1 _ rfl).2)) | exact ((show _ ∧ some _ ≠ (v542 : Value).ownBlock from (Kd.R_mono (ok' := fun k_ => (fun k_ => some k_ ≠ (v539 : Value).ownBlock ∧ some k_ ≠ (v550 : Value).ownBlock) k_ ∧ some k_ ≠ (v542 : Value).ownBlock) HO528.out (fun _ hk => ⟨⟨hk.1.1.2, hk.2⟩, hk.1.2⟩)).1 _ rfl).2))
               have HS4_ := cell_grown hg (hHeld.2.2.2.2.1) (by first | (rw [add_block]; exact ((show _ ∧ some _ ≠ (v542 : Value).ownBlock from (Kd.R_mono (ok' := fun k_ => (fun k_ => some k_ ≠ (v539 : Value).ownBlock ∧ some k_ ≠ (v550 : Value).ownBlock) k_ ∧ some k_ ≠ (v542 : Value).ownBlock) HO528.out (fun _ hk => ⟨⟨hk.1.1.2, hk.2⟩, hk.1.2⟩)).1 _ rfl).2)) | (show some (Addr.add _ _).block ≠ _; rw [add_block]; exact ((show _ ∧ some _ ≠ (v542 : Value).ownBlock from (Kd.R_mono (ok' := fun k_ => (fun k_ => some k_ ≠ (v539 : Value).ownBlock ∧ some k_ ≠ (v550 : Value).ownBlock) k_ ∧ some k_ ≠ (v542 : Value).ownBlock) HO528.out (fun _ hk => ⟨⟨hk.1.1.2, hk.2⟩, hk.1.2⟩)).1 _ rfl).2)) | exact ((show _ ∧ some _ ≠ (v542 : Value).ownBlock from (Kd.R_mono (ok' := fun k_ => (fun k_ => some k_ ≠ (v539 : Value).ownBlock ∧ some k_ ≠ (v550 : Value).ownBlock) k_ ∧ some k_ ≠ (v542 : Value).ownBlock) HO528.out (fun _ hk => ⟨⟨hk.1.1.2, hk.2⟩, hk.1.2⟩)).1 _ rfl).2))
               have HS5_ := cell_grown hg (hHeld.2.2.2.2.2.1) (by first | (rw [add_block]; exact ((show _ ∧ some _ ≠ (v542 : Value).ownBlock from (Kd.R_mono (ok' := fun k_ => (fun k_ => some k_ ≠ (v539 : Value).ownBlock ∧ some k_ ≠ (v550 : Value).ownBlock) k_ ∧ some k_ ≠ (v542 : Value).ownBlock) HO528.out (fun _ hk => ⟨⟨hk.1.1.2, hk.2⟩, hk.1.2⟩)).1 _ rfl).2)) | (show some (Addr.add _ _).block ≠ _; rw [add_block]; exact ((show _ ∧ some _ ≠ (v542 : Value).ownBlock from (Kd.R_mono (ok' := fun k_ => (fun k_ => some k_ ≠ (v539 : Value).ownBlock ∧ some k_ ≠ (v550 : Value).ownBlock) k_ ∧ some k_ ≠ (v542 : Value).ownBlock) HO528.out (fun _ hk => ⟨⟨hk.1.1.2, hk.2⟩, hk.1.2⟩)).1 _ rfl).2)) | exact ((show _ ∧ some _ ≠ (v542 : Value).ownBlock from (Kd.R_mono (ok' := fun k_ => (fun k_ => some k_ ≠ (v539 : Value).ownBlock ∧ some k_ ≠ (v550 : Value).ownBlock) k_ ∧ some k_ ≠ (v542 : Value).ownBlock) HO528.out (fun _ hk => ⟨⟨hk.1.1.2, hk.2⟩, hk.1.2⟩)).1 _ rfl).2))
               have HS6_ := cell_grown hg (hHeld.2.2.2.2.2.2.1) (by first | (rw [add_block]; exact ((show _ ∧ some _ ≠ (v542 : Value).ownBlock from (Kd.R_mono (ok' := fun k_ => (fun k_ => some k_ ≠ (v539 : Value).ownBlock ∧ some k_ ≠ (v550 : Value).ownBlock) k_ ∧ some k_ ≠ (v542 : Value).ownBlock) HO528.out (fun _ hk => ⟨⟨hk.1.1.2, hk.2⟩, hk.1.2⟩)).1 _ rfl).2)) | (show some (Addr.add _ _).block ≠ _; rw [add_block]; exact ((show _ ∧ some _ ≠ (v542 : Value).ownBlock from (Kd.R_mono (ok' := fun k_ => (fun k_ => some k_ ≠ (v539 : Value).ownBlock ∧ some k_ ≠ (v550 : Value).ownBlock) k_ ∧ some k_ ≠ (v542 : Value).ownBlock) HO528.out (fun _ hk => ⟨⟨hk.1.1.2, hk.2⟩, hk.1.2⟩)).1 _ rfl).2)) | exact ((show _ ∧ some _ ≠ (v542 : Value).ownBlock from (Kd.R_mono (ok' := fun k_ => (fun k_ => some k_ ≠ (v539 : Value).ownBlock ∧ some k_ ≠ (v550 : Value).ownBlock) k_ ∧ some k_ ≠ (v542 : Value).ownBlock) HO528.out (fun _ hk => ⟨⟨hk.1.1.2, hk.2⟩, hk.1.2⟩)).1 _ rfl).2))
               have HS7_ := cell_grown hg (hHeld.2.2.2.2.2.2.2.1) (by first | (rw [add_block]; exact ((show _ ∧ some _ ≠ (v542 : Value).ownBlock from (Kd.R_mono (ok' := fun k_ => (fun k_ => some k_ ≠ (v539 : Value).ownBlock ∧ some k_ ≠ (v550 : Value).ownBlock) k_ ∧ some k_ ≠ (v542 : Value).ownBlock) HO528.out (fun _ hk => ⟨⟨hk.1.1.2, hk.2⟩, hk.1.2⟩)).1 _ rfl).2)) | (show some (Addr.add _ _).block ≠ _; rw [add_block]; exact ((show _ ∧ some _ ≠ (v542 : Value).ownBlock from (Kd.R_mono (ok' := fun k_ => (fun k_ => some k_ ≠ (v539 : Value).ownBlock ∧ some k_ ≠ (v550 : Value).ownBlock) k_ ∧ some k_ ≠ (v542 : Value).ownBlock) HO528.out (fun _ hk => ⟨⟨hk.1.1.2, hk.2⟩, hk.1.2⟩)).1 _ rfl).2)) | exact ((show _ ∧ some _ ≠ (v542 : Value).ownBlock from (Kd.R_mono (ok' := fun k_ => (fun k_ => some k_ ≠ (v539 : Value).ownBlock ∧ some k_ ≠ (v550 : Value).ownBlock) k_ ∧ some k_ ≠ (v542 : Value).ownBlock) HO528.out (fun _ hk => ⟨⟨hk.1.1.2, hk.2⟩, hk.1.2⟩)).1 _ rfl).2))
               have HS8_ := cell_grown hg (hHeld.2.2.2.2.2.2.2.2.1) (by first | (rw [add_block]; exact ((show _ ∧ some _ ≠ (v542 : Value).ownBlock from (Kd.R_mono (ok' := fun k_ => (fun k_ => some k_ ≠ (v539 : Value).ownBlock ∧ some k_ ≠ (v550 : Value).ownBlock) k_ ∧ some k_ ≠ (v542 : Value).ownBlock) HO528.out (fun _ hk => ⟨⟨hk.1.1.2, hk.2⟩, hk.1.2⟩)).1 _ rfl).2)) | (show some (Addr.add _ _).block ≠ _; rw [add_block]; exact ((show _ ∧ some _ ≠ (v542 : Value).ownBlock from (Kd.R_mono (ok' := fun k_ => (fun k_ => some k_ ≠ (v539 : Value).ownBlock ∧ some k_ ≠ (v550 : Value).ownBlock) k_ ∧ some k_ ≠ (v542 : Value).ownBlock) HO528.out (fun _ hk => ⟨⟨hk.1.1.2, hk.2⟩, hk.1.2⟩)).1 _ rfl).2)) | exact ((show _ ∧ some _ ≠ (v542 : Value).ownBlock from (Kd.R_mono (ok' := fun k_ => (fun k_ => some k_ ≠ (v539 : Value).ownBlock ∧ some k_ ≠ (v550 : Value).ownBlock) k_ ∧ some k_ ≠ (v542 : Value).ownBlock) HO528.out (fun _ hk => ⟨⟨hk.1.1.2, hk.2⟩, hk.1.2⟩)).1 _ rfl).2))
               have HS9_ := cell_grown hg (hHeld.2.2.2.2.2.2.2.2.2) (by first | (rw [add_block]; exact ((show _ ∧ some _ ≠ (v542 : Value).ownBlock from (Kd.R_mono (ok' := fun k_ => (fun k_ => some k_ ≠ (v539 : Value).ownBlock ∧ some k_ ≠ (v550 : Value).ownBlock) k_ ∧ some k_ ≠ (v542 : Value).ownBlock) HO528.out (fun _ hk => ⟨⟨hk.1.1.2, hk.2⟩, hk.1.2⟩)).1 _ rfl).2)) | (show some (Addr.add _ _).block ≠ _; rw [add_block]; exact ((show _ ∧ some _ ≠ (v542 : Value).ownBlock from (Kd.R_mono (ok' := fun k_ => (fun k_ => some k_ ≠ (v539 : Value).ownBlock ∧ some k_ ≠ (v550 : Value).ownBlock) k_ ∧ some k_ ≠ (v542 : Value).ownBlock) HO528.out (fun _ hk => ⟨⟨hk.1.1.2, hk.2⟩, hk.1.2⟩)).1 _ rfl).2)) | exact ((show _ ∧ some _ ≠ (v542 : Value).ownBlock from (Kd.R_mono (ok' := fun k_ => (fun k_ => some k_ ≠ (v539 : Value).ownBlock ∧ some k_ ≠ (v550 : Value).ownBlock) k_ ∧ some k_ ≠ (v542 : Value).ownBlock) HO528.out (fun _ hk => ⟨⟨hk.1.1.2, hk.2⟩, hk.1.2⟩)).1 _ rfl).2))
               rw [← Ny544.out] at ho
               have n0_ := ak (Kd.R_after (ok := (fun k_ => some k_ ≠ (v539 : Value).ownBlock ∧ some k_ ≠ (v550 : Value).ownBlock)) (by (with_reducible repeat (first | apply Kd.R_alloc | apply Kd.R_drewN | apply Kd.R_drew)); exact Kd.R_mono HO528.out (fun _ hk => ⟨⟨hk.1.1.2, hk.2⟩, hk.1.2⟩)) hg hat)
               have n1_ := ak (Kd.R_over' (rG HO531) (Kd.R_typed (rG HO543)) (by decide) hg)
               have n2_ := ak (Kd.S_over' (by (with_reducible repeat (first | apply Kd.S_alloc | apply Kd.S_drewN | apply Kd.S_drew)); exact HO534.out) (Kd.R_typed (rG HO543)) (by decide) hg)
               have n3_ := ak (blk_grown (g := gb535) (o := .cells #[.slice Ao48 t532.length co48] 60 (0, 0)) (bG BK535) hg (Kd.R_ne HO543.out BK535.out (by decide)))
               have n4_ := ak (Kd.R_after (ok := (fun k_ => some k_ ≠ (.slice (some ad548) t526.length co45 : Value).ownBlock ∧ some k_ ≠ (v550 : Value).ownBlock)) (by (with_reducible repeat (first | apply Kd.R_alloc | apply Kd.R_drewN | apply Kd.R_drew)); exact Kd.R_mono HO540.out (fun _ hk => ⟨⟨hk.1.1.2, hk.2⟩, hk.1.2⟩)) hg hat)
               have n5_ := ak (Kd.R_after (ok := (fun k_ => some k_ ≠ (.slice (some ad548) t526.length co45 : Value).ownBlock ∧ some k_ ≠ (v539 : Value).ownBlock)) (by (with_reducible repeat (first | apply Kd.R_alloc | apply Kd.R_drewN | apply Kd.R_drew)); exact Kd.R_mono HO551.out (fun _ hk => ⟨⟨hk.1.1.2, hk.1.2⟩, hk.2⟩)) hg hat)
               have n6_ := ak (hb)
               have n7_ := ak (ho)
               clear HO528
               clear HO531
               clear HO534
               clear BK535
               clear HO540
               clear HO551
               clear HB
               clear HO543
               have HO528 := n0_
               have HO531 := n1_
               have HO534 := n2_
               have BK535 := n3_
               have HO540 := n4_
               have HO551 := n5_
               have HB := n6_
               have HO546 := n7_
               clear n0_ n1_ n2_ n3_ n4_ n5_ n6_ n7_
               clear ho hb hg hat
               refine hK.out _ _ ⟨HS0_, HS1_, HS2_, HS3_, HS4_, HS5_, HS6_, HS7_, HS8_, HS9_⟩ (fun hHeld => ?_)
               clear hK K
               refine nm ?_
               exact norm_ (by simp only [putAll, Act.put, List.setIfInBounds_toArray, List.set_cons_zero, List.set_cons_succ]) (hCont (v542, v545, v550) _ ⟨hHeld, (by (with_reducible repeat (first | apply Kd.R_alloc | apply Kd.R_drewN | apply Kd.R_drew)); exact Kd.R_mono HO528.out (fun _ hk => ⟨hk.1.1, ⟨hk.2, hk.1.2⟩⟩)), (rG HO531), (by (with_reducible repeat (first | apply Kd.S_alloc | apply Kd.S_drewN | apply Kd.S_drew)); exact HO534.out), (by (with_reducible repeat (first | apply Kd.R_alloc | apply Kd.R_drewN | apply Kd.R_drew)); exact Kd.R_mono HO540.out (fun _ hk => ⟨hk.1.1, ⟨hk.2, hk.1.2⟩⟩)), (rG HO546), (by (with_reducible repeat (first | apply Kd.R_alloc | apply Kd.R_drewN | apply Kd.R_drew)); exact Kd.R_mono HO551.out (fun _ hk => ⟨hk.1.1, ⟨hk.1.2, hk.2⟩⟩)), (bG BK535), (lT HB (gC GE535 gN))⟩)
             ·skip
              refine Kd.R_lit_step k32 _ 32 ?hg (N := 47) ?hd (xs := ([(⟨(rd_T32 t526 (ji29)).f0, (⟨(rd_T32 t526 (ji29)).f1.f0, (rd_T32 t526 (ji29)).f1.f1, (rd_T32 t526 (ji29)).f1.f2, (rd_T32 t526 (ji29)).f1.f3, (rd_T32 t526 (ji29)).f1.f4, (rd_T32 t526 (ji29)).f1.f5, (rd_T32 t526 (ji29)).f1.f6, (rd_T32 t526 (ji29)).f1.f7⟩ : S23)⟩ : S32)] : List (S32))) (inner := [.int .i64 ((rd_T32 t526 (ji29)).f0), .int .i64 ((rd_T32 t526 (ji29)).f1.f0), .int .i64 ((rd_T32 t526 (ji29)).f1.f1), .int .i64 ((rd_T32 t526 (ji29)).f1.f2), .int .i64 ((rd_T32 t526 (ji29)).f1.f3), .int .i64 ((rd_T32 t526 (ji29)).f1.f4), .string ((rd_T32 t526 (ji29)).f1.f5), .string ((rd_T32 t526 (ji29)).f1.f6), .string ((rd_T32 t526 (ji29)).f1.f7)]) (ok := fun _ => True) (okp := fun _ => True) ?hr ?hp (fun _ hk => hk) trivial (Below.refl _ _) (Nat.le_refl _) (by simp) ?_; (case hd => rfl); (case hg => rfl); (case hr => first | (go_simp; done) | (go_simp; rfl)); (case hp => exact (Reps.c9 (show Kd.M k32 _ _ _ (⟨(rd_T32 t526 (ji29)).f0, (⟨(rd_T32 t526 (ji29)).f1.f0, (rd_T32 t526 (ji29)).f1.f1, (rd_T32 t526 (ji29)).f1.f2, (rd_T32 t526 (ji29)).f1.f3, (rd_T32 t526 (ji29)).f1.f4, (rd_T32 t526 (ji29)).f1.f5, (rd_T32 t526 (ji29)).f1.f6, (rd_T32 t526 (ji29)).f1.f7⟩ : S23)⟩ : S32) [.int .i64 ((rd_T32 t526 (ji29)).f0), .int .i64 ((rd_T32 t526 (ji29)).f1.f0), .int .i64 ((rd_T32 t526 (ji29)).f1.f1), .int .i64 ((rd_T32 t526 (ji29)).f1.f2), .int .i64 ((rd_T32 t526 (ji29)).f1.f3), .int .i64 ((rd_T32 t526 (ji29)).f1.f4), .string ((rd_T32 t526 (ji29)).f1.f5), .string ((rd_T32 t526 (ji29)).f1.f6), .string ((rd_T32 t526 (ji29)).f1.f7)] from (k32_mkM _ _ _ (⟨(rd_T32 t526 (ji29)).f0, (⟨(rd_T32 t526 (ji29)).f1.f0, (rd_T32 t526 (ji29)).f1.f1, (rd_T32 t526 (ji29)).f1.f2, (rd_T32 t526 (ji29)).f1.f3, (rd_T32 t526 (ji29)).f1.f4, (rd_T32 t526 (ji29)).f1.f5, (rd_T32 t526 (ji29)).f1.f6, (rd_T32 t526 (ji29)).f1.f7⟩ : S23)⟩ : S32) )) (Reps.none _ _)))
              intro v550 w53 ho54 hb hg_ hnew_
              have HS0_ := (hb.cell (World.block_lt_of_cell? _ _ (hHeld.1))).trans (hHeld.1)
              have HS1_ := (hb.cell (World.block_lt_of_cell? _ _ (hHeld.2.1))).trans (hHeld.2.1)
              have HS2_ := (hb.cell (World.block_lt_of_cell? _ _ (hHeld.2.2.1))).trans (hHeld.2.2.1)
              have HS3_ := (hb.cell (World.block_lt_of_cell? _ _ (hHeld.2.2.2.1))).trans (hHeld.2.2.2.1)
              have HS4_ := (hb.cell (World.block_lt_of_cell? _ _ (hHeld.2.2.2.2.1))).trans (hHeld.2.2.2.2.1)
              have HS5_ := (hb.cell (World.block_lt_of_cell? _ _ (hHeld.2.2.2.2.2.1))).trans (hHeld.2.2.2.2.2.1)
              have HS6_ := (hb.cell (World.block_lt_of_cell? _ _ (hHeld.2.2.2.2.2.2.1))).trans (hHeld.2.2.2.2.2.2.1)
              have HS7_ := (hb.cell (World.block_lt_of_cell? _ _ (hHeld.2.2.2.2.2.2.2.1))).trans (hHeld.2.2.2.2.2.2.2.1)
              have HS8_ := (hb.cell (World.block_lt_of_cell? _ _ (hHeld.2.2.2.2.2.2.2.2.1))).trans (hHeld.2.2.2.2.2.2.2.2.1)
              have HS9_ := (hb.cell (World.block_lt_of_cell? _ _ (hHeld.2.2.2.2.2.2.2.2.2))).trans (hHeld.2.2.2.2.2.2.2.2.2)
              clear hg_ hnew_
              (first | rw [← Ny549.out] at ho54 | (simp only [Int.reduceToNat] at ho54; rw [← Ny549.out] at ho54))
              replace HO531 := rB HO531 hb
              replace HO534 := ak (Kd.S_below (by (with_reducible repeat (first | apply Kd.S_alloc | apply Kd.S_drewN | apply Kd.S_drew)); exact HO534.out) hb)
              replace HO551 := ak (Kd.R_lower (Kd.R_new' (Kd.R_new' ho54 (Kd.R_lt (rG HO528))) (Kd.R_lt (rG HO540))) (below_size (lT HB (gC GE535 gN))))
              replace HO528 := ak (Kd.R_elder' (rG HO528) (Kd.R_base ho54) hb)
              replace HO540 := ak (Kd.R_elder' (rG HO540) (Kd.R_base ho54) hb)
              replace BK535 := bB BK535 hb
              replace HB := ak (below_step (lT HB (gC GE535 gN)) hb)
              clear hb ho54
              refine hK.out _ _ ⟨HS0_, HS1_, HS2_, HS3_, HS4_, HS5_, HS6_, HS7_, HS8_, HS9_⟩ (fun hHeld => ?_)
              clear hK K
              refine nm ?_
              refine on 0 (some 35) (fb 15 8187) HT_ (fun K hK => ?_)
              refine Kd.R_lit_step k32 _ 32 ?hg (N := 35) ?hd (xs := ([] : List (S32))) (inner := []) (ok := fun _ => True) (okp := fun _ => True) ?hr ?hp (fun _ hk => hk) trivial (Below.refl _ _) (Nat.le_refl _) (by simp) ?_; (case hd => rfl); (case hg => rfl); (case hr => first | (go_simp; done) | (go_simp; rfl)); (case hp => exact (Reps.none _ _))
              intro v542 w55 ho56 hb hg_ hnew_
              have HS0_ := (hb.cell (World.block_lt_of_cell? _ _ (hHeld.1))).trans (hHeld.1)
              have HS1_ := (hb.cell (World.block_lt_of_cell? _ _ (hHeld.2.1))).trans (hHeld.2.1)
              have HS2_ := (hb.cell (World.block_lt_of_cell? _ _ (hHeld.2.2.1))).trans (hHeld.2.2.1)
              have HS3_ := (hb.cell (World.block_lt_of_cell? _ _ (hHeld.2.2.2.1))).trans (hHeld.2.2.2.1)
              have HS4_ := (hb.cell (World.block_lt_of_cell? _ _ (hHeld.2.2.2.2.1))).trans (hHeld.2.2.2.2.1)
              have HS5_ := (hb.cell (World.block_lt_of_cell? _ _ (hHeld.2.2.2.2.2.1))).trans (hHeld.2.2.2.2.2.1)
              have HS6_ := (hb.cell (World.block_lt_of_cell? _ _ (hHeld.2.2.2.2.2.2.1))).trans (hHeld.2.2.2.2.2.2.1)
              have HS7_ := (hb.cell (World.block_lt_of_cell? _ _ (hHeld.2.2.2.2.2.2.2.1))).trans (hHeld.2.2.2.2.2.2.2.1)
              have HS8_ := (hb.cell (World.block_lt_of_cell? _ _ (hHeld.2.2.2.2.2.2.2.2.1))).trans (hHeld.2.2.2.2.2.2.2.2.1)
              have HS9_ := (hb.cell (World.block_lt_of_cell? _ _ (hHeld.2.2.2.2.2.2.2.2.2))).trans (hHeld.2.2.2.2.2.2.2.2.2)
              clear hg_ hnew_
              (first | rw [← Ny541.out] at ho56 | (simp only [Int.reduceToNat] at ho56; rw [← Ny541.out] at ho56))
              replace HO531 := rB HO531 hb
              replace HO534 := ak (Kd.S_below (by (with_reducible repeat (first | apply Kd.S_alloc | apply Kd.S_drewN | apply Kd.S_drew)); exact HO534.out) hb)
              replace HO543 := ak (Kd.R_lower (Kd.R_new' (Kd.R_new' (Kd.R_new' ho56 (Kd.R_lt (rG HO528))) (Kd.R_lt (rG HO540))) (Kd.R_lt (rG HO551))) (below_size (lT HB (gC GE535 gN))))
              replace HO528 := ak (Kd.R_elder' (rG HO528) (Kd.R_base ho56) hb)
              replace HO540 := ak (Kd.R_elder' (rG HO540) (Kd.R_base ho56) hb)
              replace HO551 := ak (Kd.R_elder' (rG HO551) (Kd.R_base ho56) hb)
              replace BK535 := bB BK535 hb
              replace HB := ak (below_step (lT HB (gC GE535 gN)) hb)
              clear hb ho56
              refine hK.out _ _ ⟨HS0_, HS1_, HS2_, HS3_, HS4_, HS5_, HS6_, HS7_, HS8_, HS9_⟩ (fun hHeld => ?_)
              clear hK K
              refine nm ?_
              refine on 2 (some 37) (fb 15 8191) HT_ (fun K hK => ?_)
              refine Kd.R_append_rows_step k32 (w0 := w) w.heap.size (by rfl) (.tmp 35) (.tmp 36) 42 32 (.agg #[(.int .i64 0), (.int .i64 0), (.int .i64 0), (.int .i64 0), (.int .i64 0), (.int .i64 0), (.string ⟨#[]⟩), (.string ⟨#[]⟩), (.string ⟨#[]⟩)]) 96 rfl Try.underlying42 info32 rfl (by decide) (by omega) v542 y541 t526 _ _ _ (fun k_ => some k_ ≠ (.slice (some ad548) t526.length co45 : Value).ownBlock ∧ some k_ ≠ (v539 : Value).ownBlock ∧ some k_ ≠ (v550 : Value).ownBlock) (fun _ => False) rfl rfl ?aO ?aR (fun _ _ h => h) (fun _ h => h.elim) ?aF ?aB ?aS ?aL ?_
              (case aR => exact cG (Kd.R_reads' HO528.out).2.2)
              (case aB => exact (lT HB (gC GE535 gN)))
              (case aF => exact (fun k_ hk => ⟨Kd.fresh' (Kd.R_lt (rG HO528)) k_ hk, Kd.fresh' (Kd.R_lt (rG HO540)) k_ hk, Kd.fresh' (Kd.R_lt (rG HO551)) k_ hk⟩))
              (case aO => exact (by (with_reducible repeat (first | apply Kd.R_alloc | apply Kd.R_drewN | apply Kd.R_drew)); exact Kd.R_mono HO543.out (fun _ hk => ⟨hk.1.1.2, ⟨hk.1.2, hk.2⟩⟩)))
              (case aS => exact (below_size (lT HB (gC GE535 gN))))
              (case aL => have := LMc27.out; omega)
              intro v545 w57 ho hb hg hat
              have HS0_ := cell_grown hg (hHeld.1) (by first | (rw [add_block]; exact (((Kd.R_apart' HO531.out (Kd.R_typed HO543.out) (by decide)).1 _ rfl).2)) | (show some (Addr.add _ _).block ≠ _; rw [add_block]; exact (((Kd.R_apart' HO531.out (Kd.R_typed HO543.out) (by decide)).1 _ rfl).2)) | exact (((Kd.R_apart' HO531.out (Kd.R_typed HO543.out) (by decide)).1 _ rfl).2))
              have HS1_ := cell_grown hg (hHeld.2.1) (by first | (rw [add_block]; exact ((show _ ∧ some _ ≠ (v542 : Value).ownBlock from (Kd.R_mono (ok' := fun k_ => (fun k_ => some k_ ≠ (v539 : Value).ownBlock ∧ some k_ ≠ (v550 : Value).ownBlock) k_ ∧ some k_ ≠ (v542 : Value).ownBlock) HO528.out (fun _ hk => ⟨⟨hk.1.1.2, hk.1.2⟩, hk.2⟩)).1 _ rfl).2)) | (show some (Addr.add _ _).block ≠ _; rw [add_block]; exact ((show _ ∧ some _ ≠ (v542 : Value).ownBlock from (Kd.R_mono (ok' := fun k_ => (fun k_ => some k_ ≠ (v539 : Value).ownBlock ∧ some k_ ≠ (v550 : Value).ownBlock) k_ ∧ some k_ ≠ (v542 : Value).ownBlock) HO528.out (fun _ hk => ⟨⟨hk.1.1.2, hk.1.2⟩, hk.2⟩)).1 _ rfl).2)) | exact ((show _ ∧ some _ ≠ (v542 : Value).ownBlock from (Kd.R_mono (ok' := fun k_ => (fun k_ => some k_ ≠ (v539 : Value).ownBlock ∧ some k_ ≠ (v550 : Value).ownBlock) k_ ∧ some k_ ≠ (v542 : Value).ownBlock) HO528.out (fun _ hk => ⟨⟨hk.1.1.2, hk.1.2⟩, hk.2⟩)).1 _ rfl).2))
              have HS2_ := cell_grown hg (hHeld.2.2.1) (by first | (rw [add_block]; exact ((show _ ∧ some _ ≠ (v542 : Value).ownBlock from (Kd.R_mono (ok' := fun k_ => (fun k_ => some k_ ≠ (v539 : Value).ownBlock ∧ some k_ ≠ (v550 : Value).ownBlock) k_ ∧ some k_ ≠ (v542 : Value).ownBlock) HO528.out (fun _ hk => ⟨⟨hk.1.1.2, hk.1.2⟩, hk.2⟩)).1 _ rfl).2)) | (show some (Addr.add _ _).block ≠ _; rw [add_block]; exact ((show _ ∧ some _ ≠ (v542 : Value).ownBlock from (Kd.R_mono (ok' := fun k_ => (fun k_ => some k_ ≠ (v539 : Value).ownBlock ∧ some k_ ≠ (v550 : Value).ownBlock) k_ ∧ some k_ ≠ (v542 : Value).ownBlock) HO528.out (fun _ hk => ⟨⟨hk.1.1.2, hk.1.2⟩, hk.2⟩)).1 _ rfl).2)) | exact ((show _ ∧ some _ ≠ (v542 : Value).ownBlock from (Kd.R_mono (ok' := fun k_ => (fun k_ => some k_ ≠ (v539 : Value).ownBlock ∧ some k_ ≠ (v550 : Value).ownBlock) k_ ∧ some k_ ≠ (v542 : Value).ownBlock) HO528.out (fun _ hk => ⟨⟨hk.1.1.2, hk.1.2⟩, hk.2⟩)).1 _ rfl).2))
              have HS3_ := cell_grown hg (hHeld.2.2.2.1) (by first | (rw [add_block]; exact ((show _ ∧ some _ ≠ (v542 : Value).ownBlock from (Kd.R_mono (ok' := fun k_ => (fun k_ => some k_ ≠ (v539 : Value).ownBlock ∧ some k_ ≠ (v550 : Value).ownBlock) k_ ∧ some k_ ≠ (v542 : Value).ownBlock) HO528.out (fun _ hk => ⟨⟨hk.1.1.2, hk.1.2⟩, hk.2⟩)).1 _ rfl).2)) | (show some (Addr.add _ _).block ≠ _; rw [add_block]; exact ((show _ ∧ some _ ≠ (v542 : Value).ownBlock from (Kd.R_mono (ok' := fun k_ => (fun k_ => some k_ ≠ (v539 : Value).ownBlock ∧ some k_ ≠ (v550 : Value).ownBlock) k_ ∧ some k_ ≠ (v542 : Value).ownBlock) HO528.out (fun _ hk => ⟨⟨hk.1.1.2, hk.1.2⟩, hk.2⟩)).1 _ rfl).2)) | exact ((show _ ∧ some _ ≠ (v542 : Value).ownBlock from (Kd.R_mono (ok' := fun k_ => (fun k_ => some k_ ≠ (v539 : Value).ownBlock ∧ some k_ ≠ (v550 : Value).ownBlock) k_ ∧ some k_ ≠ (v542 : Value).ownBlock) HO528.out (fun _ hk => ⟨⟨hk.1.1.2, hk.1.2⟩, hk.2⟩)).1 _ rfl).2))
              have HS4_ := cell_grown hg (hHeld.2.2.2.2.1) (by first | (rw [add_block]; exact ((show _ ∧ some _ ≠ (v542 : Value).ownBlock from (Kd.R_mono (ok' := fun k_ => (fun k_ => some k_ ≠ (v539 : Value).ownBlock ∧ some k_ ≠ (v550 : Value).ownBlock) k_ ∧ some k_ ≠ (v542 : Value).ownBlock) HO528.out (fun _ hk => ⟨⟨hk.1.1.2, hk.1.2⟩, hk.2⟩)).1 _ rfl).2)) | (show some (Addr.add _ _).block ≠ _; rw [add_block]; exact ((show _ ∧ some _ ≠ (v542 : Value).ownBlock from (Kd.R_mono (ok' := fun k_ => (fun k_ => some k_ ≠ (v539 : Value).ownBlock ∧ some k_ ≠ (v550 : Value).ownBlock) k_ ∧ some k_ ≠ (v542 : Value).ownBlock) HO528.out (fun _ hk => ⟨⟨hk.1.1.2, hk.1.2⟩, hk.2⟩)).1 _ rfl).2)) | exact ((show _ ∧ some _ ≠ (v542 : Value).ownBlock from (Kd.R_mono (ok' := fun k_ => (fun k_ => some k_ ≠ (v539 : Value).ownBlock ∧ some k_ ≠ (v550 : Value).ownBlock) k_ ∧ some k_ ≠ (v542 : Value).ownBlock) HO528.out (fun _ hk => ⟨⟨hk.1.1.2, hk.1.2⟩, hk.2⟩)).1 _ rfl).2))
              have HS5_ := cell_grown hg (hHeld.2.2.2.2.2.1) (by first | (rw [add_block]; exact ((show _ ∧ some _ ≠ (v542 : Value).ownBlock from (Kd.R_mono (ok' := fun k_ => (fun k_ => some k_ ≠ (v539 : Value).ownBlock ∧ some k_ ≠ (v550 : Value).ownBlock) k_ ∧ some k_ ≠ (v542 : Value).ownBlock) HO528.out (fun _ hk => ⟨⟨hk.1.1.2, hk.1.2⟩, hk.2⟩)).1 _ rfl).2)) | (show some (Addr.add _ _).block ≠ _; rw [add_block]; exact ((show _ ∧ some _ ≠ (v542 : Value).ownBlock from (Kd.R_mono (ok' := fun k_ => (fun k_ => some k_ ≠ (v539 : Value).ownBlock ∧ some k_ ≠ (v550 : Value).ownBlock) k_ ∧ some k_ ≠ (v542 : Value).ownBlock) HO528.out (fun _ hk => ⟨⟨hk.1.1.2, hk.1.2⟩, hk.2⟩)).1 _ rfl).2)) | exact ((show _ ∧ some _ ≠ (v542 : Value).ownBlock from (Kd.R_mono (ok' := fun k_ => (fun k_ => some k_ ≠ (v539 : Value).ownBlock ∧ some k_ ≠ (v550 : Value).ownBlock) k_ ∧ some k_ ≠ (v542 : Value).ownBlock) HO528.out (fun _ hk => ⟨⟨hk.1.1.2, hk.1.2⟩, hk.2⟩)).1 _ rfl).2))
              have HS6_ := cell_grown hg (hHeld.2.2.2.2.2.2.1) (by first | (rw [add_block]; exact ((show _ ∧ some _ ≠ (v542 : Value).ownBlock from (Kd.R_mono (ok' := fun k_ => (fun k_ => some k_ ≠ (v539 : Value).ownBlock ∧ some k_ ≠ (v550 : Value).ownBlock) k_ ∧ some k_ ≠ (v542 : Value).ownBlock) HO528.out (fun _ hk => ⟨⟨hk.1.1.2, hk.1.2⟩, hk.2⟩)).1 _ rfl).2)) | (show some (Addr.add _ _).block ≠ _; rw [add_block]; exact ((show _ ∧ some _ ≠ (v542 : Value).ownBlock from (Kd.R_mono (ok' := fun k_ => (fun k_ => some k_ ≠ (v539 : Value).ownBlock ∧ some k_ ≠ (v550 : Value).ownBlock) k_ ∧ some k_ ≠ (v542 : Value).ownBlock) HO528.out (fun _ hk => ⟨⟨hk.1.1.2, hk.1.2⟩, hk.2⟩)).1 _ rfl).2)) | exact ((show _ ∧ some _ ≠ (v542 : Value).ownBlock from (Kd.R_mono (ok' := fun k_ => (fun k_ => some k_ ≠ (v539 : Value).ownBlock ∧ some k_ ≠ (v550 : Value).ownBlock) k_ ∧ some k_ ≠ (v542 : Value).ownBlock) HO528.out (fun _ hk => ⟨⟨hk.1.1.2, hk.1.2⟩, hk.2⟩)).1 _ rfl).2))
              have HS7_ := cell_grown hg (hHeld.2.2.2.2.2.2.2.1) (by first | (rw [add_block]; exact ((show _ ∧ some _ ≠ (v542 : Value).ownBlock from (Kd.R_mono (ok' := fun k_ => (fun k_ => some k_ ≠ (v539 : Value).ownBlock ∧ some k_ ≠ (v550 : Value).ownBlock) k_ ∧ some k_ ≠ (v542 : Value).ownBlock) HO528.out (fun _ hk => ⟨⟨hk.1.1.2, hk.1.2⟩, hk.2⟩)).1 _ rfl).2)) | (show some (Addr.add _ _).block ≠ _; rw [add_block]; exact ((show _ ∧ some _ ≠ (v542 : Value).ownBlock from (Kd.R_mono (ok' := fun k_ => (fun k_ => some k_ ≠ (v539 : Value).ownBlock ∧ some k_ ≠ (v550 : Value).ownBlock) k_ ∧ some k_ ≠ (v542 : Value).ownBlock) HO528.out (fun _ hk => ⟨⟨hk.1.1.2, hk.1.2⟩, hk.2⟩)).1 _ rfl).2)) | exact ((show _ ∧ some _ ≠ (v542 : Value).ownBlock from (Kd.R_mono (ok' := fun k_ => (fun k_ => some k_ ≠ (v539 : Value).ownBlock ∧ some k_ ≠ (v550 : Value).ownBlock) k_ ∧ some k_ ≠ (v542 : Value).ownBlock) HO528.out (fun _ hk => ⟨⟨hk.1.1.2, hk.1.2⟩, hk.2⟩)).1 _ rfl).2))
              have HS8_ := cell_grown hg (hHeld.2.2.2.2.2.2.2.2.1) (by first | (rw [add_block]; exact ((show _ ∧ some _ ≠ (v542 : Value).ownBlock from (Kd.R_mono (ok' := fun k_ => (fun k_ => some k_ ≠ (v539 : Value).ownBlock ∧ some k_ ≠ (v550 : Value).ownBlock) k_ ∧ some k_ ≠ (v542 : Value).ownBlock) HO528.out (fun _ hk => ⟨⟨hk.1.1.2, hk.1.2⟩, hk.2⟩)).1 _ rfl).2)) | (show some (Addr.add _ _).block ≠ _; rw [add_block]; exact ((show _ ∧ some _ ≠ (v542 : Value).ownBlock from (Kd.R_mono (ok' := fun k_ => (fun k_ => some k_ ≠ (v539 : Value).ownBlock ∧ some k_ ≠ (v550 : Value).ownBlock) k_ ∧ some k_ ≠ (v542 : Value).ownBlock) HO528.out (fun _ hk => ⟨⟨hk.1.1.2, hk.1.2⟩, hk.2⟩)).1 _ rfl).2)) | exact ((show _ ∧ some _ ≠ (v542 : Value).ownBlock from (Kd.R_mono (ok' := fun k_ => (fun k_ => some k_ ≠ (v539 : Value).ownBlock ∧ some k_ ≠ (v550 : Value).ownBlock) k_ ∧ some k_ ≠ (v542 : Value).ownBlock) HO528.out (fun _ hk => ⟨⟨hk.1.1.2, hk.1.2⟩, hk.2⟩)).1 _ rfl).2))
              have HS9_ := cell_grown hg (hHeld.2.2.2.2.2.2.2.2.2) (by first | (rw [add_block]; exact ((show _ ∧ some _ ≠ (v542 : Value).ownBlock from (Kd.R_mono (ok' := fun k_ => (fun k_ => some k_ ≠ (v539 : Value).ownBlock ∧ some k_ ≠ (v550 : Value).ownBlock) k_ ∧ some k_ ≠ (v542 : Value).ownBlock) HO528.out (fun _ hk => ⟨⟨hk.1.1.2, hk.1.2⟩, hk.2⟩)).1 _ rfl).2)) | (show some (Addr.add _ _).block ≠ _; rw [add_block]; exact ((show _ ∧ some _ ≠ (v542 : Value).ownBlock from (Kd.R_mono (ok' := fun k_ => (fun k_ => some k_ ≠ (v539 : Value).ownBlock ∧ some k_ ≠ (v550 : Value).ownBlock) k_ ∧ some k_ ≠ (v542 : Value).ownBlock) HO528.out (fun _ hk => ⟨⟨hk.1.1.2, hk.1.2⟩, hk.2⟩)).1 _ rfl).2)) | exact ((show _ ∧ some _ ≠ (v542 : Value).ownBlock from (Kd.R_mono (ok' := fun k_ => (fun k_ => some k_ ≠ (v539 : Value).ownBlock ∧ some k_ ≠ (v550 : Value).ownBlock) k_ ∧ some k_ ≠ (v542 : Value).ownBlock) HO528.out (fun _ hk => ⟨⟨hk.1.1.2, hk.1.2⟩, hk.2⟩)).1 _ rfl).2))
              rw [← Ny544.out] at ho
              have n0_ := ak (Kd.R_after (ok := (fun k_ => some k_ ≠ (v539 : Value).ownBlock ∧ some k_ ≠ (v550 : Value).ownBlock)) (by (with_reducible repeat (first | apply Kd.R_alloc | apply Kd.R_drewN | apply Kd.R_drew)); exact Kd.R_mono HO528.out (fun _ hk => ⟨⟨hk.1.1.2, hk.1.2⟩, hk.2⟩)) hg hat)
              have n1_ := ak (Kd.R_over' (rG HO531) (Kd.R_typed (rG HO543)) (by decide) hg)
              have n2_ := ak (Kd.S_over' (by (with_reducible repeat (first | apply Kd.S_alloc | apply Kd.S_drewN | apply Kd.S_drew)); exact HO534.out) (Kd.R_typed (rG HO543)) (by decide) hg)
              have n3_ := ak (blk_grown (g := gb535) (o := .cells #[.slice Ao48 t532.length co48] 60 (0, 0)) (bG BK535) hg (Kd.R_ne HO543.out BK535.out (by decide)))
              have n4_ := ak (Kd.R_after (ok := (fun k_ => some k_ ≠ (.slice (some ad548) t526.length co45 : Value).ownBlock ∧ some k_ ≠ (v550 : Value).ownBlock)) (by (with_reducible repeat (first | apply Kd.R_alloc | apply Kd.R_drewN | apply Kd.R_drew)); exact Kd.R_mono HO540.out (fun _ hk => ⟨⟨hk.1.1.2, hk.1.2⟩, hk.2⟩)) hg hat)
              have n5_ := ak (Kd.R_after (ok := (fun k_ => some k_ ≠ (.slice (some ad548) t526.length co45 : Value).ownBlock ∧ some k_ ≠ (v539 : Value).ownBlock)) (by (with_reducible repeat (first | apply Kd.R_alloc | apply Kd.R_drewN | apply Kd.R_drew)); exact Kd.R_mono HO551.out (fun _ hk => ⟨⟨hk.1.1.2, hk.1.2⟩, hk.2⟩)) hg hat)
              have n6_ := ak (hb)
              have n7_ := ak (ho)
              clear HO528
              clear HO531
              clear HO534
              clear BK535
              clear HO540
              clear HO551
              clear HB
              clear HO543
              have HO528 := n0_
              have HO531 := n1_
              have HO534 := n2_
              have BK535 := n3_
              have HO540 := n4_
              have HO551 := n5_
              have HB := n6_
              have HO546 := n7_
              clear n0_ n1_ n2_ n3_ n4_ n5_ n6_ n7_
              clear ho hb hg hat
              refine hK.out _ _ ⟨HS0_, HS1_, HS2_, HS3_, HS4_, HS5_, HS6_, HS7_, HS8_, HS9_⟩ (fun hHeld => ?_)
              clear hK K
              refine nm ?_
              exact norm_ (by simp only [putAll, Act.put, List.setIfInBounds_toArray, List.set_cons_zero, List.set_cons_succ]) (hCont (v542, v545, v550) _ ⟨hHeld, (by (with_reducible repeat (first | apply Kd.R_alloc | apply Kd.R_drewN | apply Kd.R_drew)); exact Kd.R_mono HO528.out (fun _ hk => ⟨hk.1.1, ⟨hk.2, hk.1.2⟩⟩)), (rG HO531), (by (with_reducible repeat (first | apply Kd.S_alloc | apply Kd.S_drewN | apply Kd.S_drew)); exact HO534.out), (by (with_reducible repeat (first | apply Kd.R_alloc | apply Kd.R_drewN | apply Kd.R_drew)); exact Kd.R_mono HO540.out (fun _ hk => ⟨hk.1.1, ⟨hk.2, hk.1.2⟩⟩)), (rG HO546), (by (with_reducible repeat (first | apply Kd.R_alloc | apply Kd.R_drewN | apply Kd.R_drew)); exact Kd.R_mono HO551.out (fun _ hk => ⟨hk.1.1, ⟨hk.1.2, hk.2⟩⟩)), (bG BK535), (lT HB (gC GE535 gN))⟩)
            rintro ⟨v542, v545, v550⟩ w58 ⟨hS_, h0_, h1_, h2_, h3_, h4_, h5_, h6_, h7_⟩
            have n0_ : Aside0 (Kd.R k32 32 w58 w.heap.size (fun k_ => some k_ ≠ (v539 : Value).ownBlock ∧ some k_ ≠ (v545 : Value).ownBlock ∧ some k_ ≠ (v550 : Value).ownBlock) (.slice (some ad548) t526.length co45) t526) := ⟨h0_⟩
            have n1_ : Aside0 (Kd.R (Kd.int .i64) 3 w58 w.heap.size (fun _ => True) (.slice (some ad537) t529.length co50) t529) := ⟨h1_⟩
            have n2_ : Aside0 (Kd.S k66 66 w58 w.heap.size (fun _ => True) (.slice Ao48 t532.length co48) t532) := ⟨h2_⟩
            have n3_ : Aside0 (Kd.R k32 32 w58 w.heap.size (fun k_ => some k_ ≠ (.slice (some ad548) t526.length co45 : Value).ownBlock ∧ some k_ ≠ (v545 : Value).ownBlock ∧ some k_ ≠ (v550 : Value).ownBlock) v539 t538) := ⟨h3_⟩
            have n4_ : Aside0 (Kd.R k32 32 w58 w.heap.size (fun k_ => some k_ ≠ (.slice (some ad548) t526.length co45 : Value).ownBlock ∧ some k_ ≠ (v539 : Value).ownBlock ∧ some k_ ≠ (v550 : Value).ownBlock) v545 y544) := ⟨h4_⟩
            have n5_ : Aside0 (Kd.R k32 32 w58 w.heap.size (fun k_ => some k_ ≠ (.slice (some ad548) t526.length co45 : Value).ownBlock ∧ some k_ ≠ (v539 : Value).ownBlock ∧ some k_ ≠ (v545 : Value).ownBlock) v550 y549) := ⟨h5_⟩
            have n6_ : Aside0 (w58.heap[gb535]? = some (.cells #[.slice Ao48 t532.length co48] 60 (0, 0))) := ⟨h6_⟩
            have n7_ : Aside0 (Below w.heap.size w w58) := ⟨h7_⟩
            clear HO528
            clear HO531
            clear HO534
            clear HO540
            clear BK535
            clear HB
            clear h0_ h1_ h2_ h3_ h4_ h5_ h6_ h7_
            have HO528 := n0_
            have HO531 := n1_
            have HO534 := n2_
            have HO540 := n3_
            have HO546 := n4_
            have HO551 := n5_
            have BK535 := n6_
            have HB := n7_
            clear n0_ n1_ n2_ n3_ n4_ n5_ n6_ n7_
            have hHeld : w58.cell? ⟨ad537.block, ad537.off + 1, none⟩ = some (.int .i64 (rd t529 1)) ∧ w58.cell? (ad548.add (((ji29)).toNat * 9)) = some (.int .i64 ((rd_T32 t526 (ji29)).f0)) ∧ w58.cell? ⟨(ad548.add (((ji29)).toNat * 9)).block, (ad548.add (((ji29)).toNat * 9)).off + 1, none⟩ = some (.int .i64 ((rd_T32 t526 (ji29)).f1.f0)) ∧ w58.cell? ⟨(ad548.add (((ji29)).toNat * 9)).block, (ad548.add (((ji29)).toNat * 9)).off + 2, none⟩ = some (.int .i64 ((rd_T32 t526 (ji29)).f1.f1)) ∧ w58.cell? ⟨(ad548.add (((ji29)).toNat * 9)).block, (ad548.add (((ji29)).toNat * 9)).off + 3, none⟩ = some (.int .i64 ((rd_T32 t526 (ji29)).f1.f2)) ∧ w58.cell? ⟨(ad548.add (((ji29)).toNat * 9)).block, (ad548.add (((ji29)).toNat * 9)).off + 4, none⟩ = some (.int .i64 ((rd_T32 t526 (ji29)).f1.f3)) ∧ w58.cell? ⟨(ad548.add (((ji29)).toNat * 9)).block, (ad548.add (((ji29)).toNat * 9)).off + 5, none⟩ = some (.int .i64 ((rd_T32 t526 (ji29)).f1.f4)) ∧ w58.cell? ⟨(ad548.add (((ji29)).toNat * 9)).block, (ad548.add (((ji29)).toNat * 9)).off + 6, none⟩ = some (.string ((rd_T32 t526 (ji29)).f1.f5)) ∧ w58.cell? ⟨(ad548.add (((ji29)).toNat * 9)).block, (ad548.add (((ji29)).toNat * 9)).off + 7, none⟩ = some (.string ((rd_T32 t526 (ji29)).f1.f6)) ∧ w58.cell? ⟨(ad548.add (((ji29)).toNat * 9)).block, (ad548.add (((ji29)).toNat * 9)).off + 8, none⟩ = some (.string ((rd_T32 t526 (ji29)).f1.f7)) := hS_
            obtain ⟨Ao60, co60, eo60⟩ := Kd.R_slice HO551.out
            (first | subst eo60 | (injection eo60 with f1_ f2_ f3_; have f4_ := f1_.symm; have f5_ := f3_.symm; clear f1_ f2_ f3_; subst f4_; subst f5_))
            refine norm_ (a' := ?_) ?_ ?_
            rotate_left
            ·simp only [putAll, Act.put, List.setIfInBounds_toArray, List.set_cons_zero, List.set_cons_succ]
             rfl
            refine on 13 (some 48) (fb 15 16383) HT_ (fun K hK => ?_)
            refine Kd.R_append_rows_step k32 (w0 := w) w.heap.size (by rfl) (.tmp 37) (.tmp 47) 42 32 (.agg #[(.int .i64 0), (.int .i64 0), (.int .i64 0), (.int .i64 0), (.int .i64 0), (.int .i64 0), (.string ⟨#[]⟩), (.string ⟨#[]⟩), (.string ⟨#[]⟩)]) 96 rfl Try.underlying42 info32 rfl (by decide) (by omega) v545 y544 y549 _ _ _ (fun k_ => some k_ ≠ (.slice (some ad548) t526.length co45 : Value).ownBlock ∧ some k_ ≠ (v539 : Value).ownBlock ∧ some k_ ≠ (.slice Ao60 y549.length co60 : Value).ownBlock) (fun _ => False) rfl rfl ?aO ?aR (fun _ _ h => h) (fun _ h => h.elim) ?aF ?aB ?aS ?aL ?_
            (case aR => exact cG (Kd.R_reads' HO551.out).2.2)
            (case aB => exact (lT HB (gC GE535 gN)))
            (case aF => exact (fun k_ hk => ⟨Kd.fresh' (Kd.R_lt (rG HO528)) k_ hk, Kd.fresh' (Kd.R_lt (rG HO540)) k_ hk, Kd.fresh' (Kd.R_lt (rG HO551)) k_ hk⟩))
            (case aO => exact (rG HO546))
            (case aS => exact (below_size (lT HB (gC GE535 gN))))
            (case aL => have := LMc32.out; omega)
            intro v553 w59 ho hb hg hat
            have HS0_ := cell_grown hg (hHeld.1) (by first | (rw [add_block]; exact (((Kd.R_apart' HO531.out (Kd.R_typed HO546.out) (by decide)).1 _ rfl).2)) | (show some (Addr.add _ _).block ≠ _; rw [add_block]; exact (((Kd.R_apart' HO531.out (Kd.R_typed HO546.out) (by decide)).1 _ rfl).2)) | exact (((Kd.R_apart' HO531.out (Kd.R_typed HO546.out) (by decide)).1 _ rfl).2))
            have HS1_ := cell_grown hg (hHeld.2.1) (by first | (rw [add_block]; exact ((show _ ∧ some _ ≠ (v545 : Value).ownBlock from (Kd.R_mono (ok' := fun k_ => (fun k_ => some k_ ≠ (v539 : Value).ownBlock ∧ some k_ ≠ (.slice Ao60 y549.length co60 : Value).ownBlock) k_ ∧ some k_ ≠ (v545 : Value).ownBlock) HO528.out (fun _ hk => ⟨⟨hk.1, hk.2.2⟩, hk.2.1⟩)).1 _ rfl).2)) | (show some (Addr.add _ _).block ≠ _; rw [add_block]; exact ((show _ ∧ some _ ≠ (v545 : Value).ownBlock from (Kd.R_mono (ok' := fun k_ => (fun k_ => some k_ ≠ (v539 : Value).ownBlock ∧ some k_ ≠ (.slice Ao60 y549.length co60 : Value).ownBlock) k_ ∧ some k_ ≠ (v545 : Value).ownBlock) HO528.out (fun _ hk => ⟨⟨hk.1, hk.2.2⟩, hk.2.1⟩)).1 _ rfl).2)) | exact ((show _ ∧ some _ ≠ (v545 : Value).ownBlock from (Kd.R_mono (ok' := fun k_ => (fun k_ => some k_ ≠ (v539 : Value).ownBlock ∧ some k_ ≠ (.slice Ao60 y549.length co60 : Value).ownBlock) k_ ∧ some k_ ≠ (v545 : Value).ownBlock) HO528.out (fun _ hk => ⟨⟨hk.1, hk.2.2⟩, hk.2.1⟩)).1 _ rfl).2))
            have HS2_ := cell_grown hg (hHeld.2.2.1) (by first | (rw [add_block]; exact ((show _ ∧ some _ ≠ (v545 : Value).ownBlock from (Kd.R_mono (ok' := fun k_ => (fun k_ => some k_ ≠ (v539 : Value).ownBlock ∧ some k_ ≠ (.slice Ao60 y549.length co60 : Value).ownBlock) k_ ∧ some k_ ≠ (v545 : Value).ownBlock) HO528.out (fun _ hk => ⟨⟨hk.1, hk.2.2⟩, hk.2.1⟩)).1 _ rfl).2)) | (show some (Addr.add _ _).block ≠ _; rw [add_block]; exact ((show _ ∧ some _ ≠ (v545 : Value).ownBlock from (Kd.R_mono (ok' := fun k_ => (fun k_ => some k_ ≠ (v539 : Value).ownBlock ∧ some k_ ≠ (.slice Ao60 y549.length co60 : Value).ownBlock) k_ ∧ some k_ ≠ (v545 : Value).ownBlock) HO528.out (fun _ hk => ⟨⟨hk.1, hk.2.2⟩, hk.2.1⟩)).1 _ rfl).2)) | exact ((show _ ∧ some _ ≠ (v545 : Value).ownBlock from (Kd.R_mono (ok' := fun k_ => (fun k_ => some k_ ≠ (v539 : Value).ownBlock ∧ some k_ ≠ (.slice Ao60 y549.length co60 : Value).ownBlock) k_ ∧ some k_ ≠ (v545 : Value).ownBlock) HO528.out (fun _ hk => ⟨⟨hk.1, hk.2.2⟩, hk.2.1⟩)).1 _ rfl).2))
            have HS3_ := cell_grown hg (hHeld.2.2.2.1) (by first | (rw [add_block]; exact ((show _ ∧ some _ ≠ (v545 : Value).ownBlock from (Kd.R_mono (ok' := fun k_ => (fun k_ => some k_ ≠ (v539 : Value).ownBlock ∧ some k_ ≠ (.slice Ao60 y549.length co60 : Value).ownBlock) k_ ∧ some k_ ≠ (v545 : Value).ownBlock) HO528.out (fun _ hk => ⟨⟨hk.1, hk.2.2⟩, hk.2.1⟩)).1 _ rfl).2)) | (show some (Addr.add _ _).block ≠ _; rw [add_block]; exact ((show _ ∧ some _ ≠ (v545 : Value).ownBlock from (Kd.R_mono (ok' := fun k_ => (fun k_ => some k_ ≠ (v539 : Value).ownBlock ∧ some k_ ≠ (.slice Ao60 y549.length co60 : Value).ownBlock) k_ ∧ some k_ ≠ (v545 : Value).ownBlock) HO528.out (fun _ hk => ⟨⟨hk.1, hk.2.2⟩, hk.2.1⟩)).1 _ rfl).2)) | exact ((show _ ∧ some _ ≠ (v545 : Value).ownBlock from (Kd.R_mono (ok' := fun k_ => (fun k_ => some k_ ≠ (v539 : Value).ownBlock ∧ some k_ ≠ (.slice Ao60 y549.length co60 : Value).ownBlock) k_ ∧ some k_ ≠ (v545 : Value).ownBlock) HO528.out (fun _ hk => ⟨⟨hk.1, hk.2.2⟩, hk.2.1⟩)).1 _ rfl).2))
            have HS4_ := cell_grown hg (hHeld.2.2.2.2.1) (by first | (rw [add_block]; exact ((show _ ∧ some _ ≠ (v545 : Value).ownBlock from (Kd.R_mono (ok' := fun k_ => (fun k_ => some k_ ≠ (v539 : Value).ownBlock ∧ some k_ ≠ (.slice Ao60 y549.length co60 : Value).ownBlock) k_ ∧ some k_ ≠ (v545 : Value).ownBlock) HO528.out (fun _ hk => ⟨⟨hk.1, hk.2.2⟩, hk.2.1⟩)).1 _ rfl).2)) | (show some (Addr.add _ _).block ≠ _; rw [add_block]; exact ((show _ ∧ some _ ≠ (v545 : Value).ownBlock from (Kd.R_mono (ok' := fun k_ => (fun k_ => some k_ ≠ (v539 : Value).ownBlock ∧ some k_ ≠ (.slice Ao60 y549.length co60 : Value).ownBlock) k_ ∧ some k_ ≠ (v545 : Value).ownBlock) HO528.out (fun _ hk => ⟨⟨hk.1, hk.2.2⟩, hk.2.1⟩)).1 _ rfl).2)) | exact ((show _ ∧ some _ ≠ (v545 : Value).ownBlock from (Kd.R_mono (ok' := fun k_ => (fun k_ => some k_ ≠ (v539 : Value).ownBlock ∧ some k_ ≠ (.slice Ao60 y549.length co60 : Value).ownBlock) k_ ∧ some k_ ≠ (v545 : Value).ownBlock) HO528.out (fun _ hk => ⟨⟨hk.1, hk.2.2⟩, hk.2.1⟩)).1 _ rfl).2))
            have HS5_ := cell_grown hg (hHeld.2.2.2.2.2.1) (by first | (rw [add_block]; exact ((show _ ∧ some _ ≠ (v545 : Value).ownBlock from (Kd.R_mono (ok' := fun k_ => (fun k_ => some k_ ≠ (v539 : Value).ownBlock ∧ some k_ ≠ (.slice Ao60 y549.length co60 : Value).ownBlock) k_ ∧ some k_ ≠ (v545 : Value).ownBlock) HO528.out (fun _ hk => ⟨⟨hk.1, hk.2.2⟩, hk.2.1⟩)).1 _ rfl).2)) | (show some (Addr.add _ _).block ≠ _; rw [add_block]; exact ((show _ ∧ some _ ≠ (v545 : Value).ownBlock from (Kd.R_mono (ok' := fun k_ => (fun k_ => some k_ ≠ (v539 : Value).ownBlock ∧ some k_ ≠ (.slice Ao60 y549.length co60 : Value).ownBlock) k_ ∧ some k_ ≠ (v545 : Value).ownBlock) HO528.out (fun _ hk => ⟨⟨hk.1, hk.2.2⟩, hk.2.1⟩)).1 _ rfl).2)) | exact ((show _ ∧ some _ ≠ (v545 : Value).ownBlock from (Kd.R_mono (ok' := fun k_ => (fun k_ => some k_ ≠ (v539 : Value).ownBlock ∧ some k_ ≠ (.slice Ao60 y549.length co60 : Value).ownBlock) k_ ∧ some k_ ≠ (v545 : Value).ownBlock) HO528.out (fun _ hk => ⟨⟨hk.1, hk.2.2⟩, hk.2.1⟩)).1 _ rfl).2))
            have HS6_ := cell_grown hg (hHeld.2.2.2.2.2.2.1) (by first | (rw [add_block]; exact ((show _ ∧ some _ ≠ (v545 : Value).ownBlock from (Kd.R_mono (ok' := fun k_ => (fun k_ => some k_ ≠ (v539 : Value).ownBlock ∧ some k_ ≠ (.slice Ao60 y549.length co60 : Value).ownBlock) k_ ∧ some k_ ≠ (v545 : Value).ownBlock) HO528.out (fun _ hk => ⟨⟨hk.1, hk.2.2⟩, hk.2.1⟩)).1 _ rfl).2)) | (show some (Addr.add _ _).block ≠ _; rw [add_block]; exact ((show _ ∧ some _ ≠ (v545 : Value).ownBlock from (Kd.R_mono (ok' := fun k_ => (fun k_ => some k_ ≠ (v539 : Value).ownBlock ∧ some k_ ≠ (.slice Ao60 y549.length co60 : Value).ownBlock) k_ ∧ some k_ ≠ (v545 : Value).ownBlock) HO528.out (fun _ hk => ⟨⟨hk.1, hk.2.2⟩, hk.2.1⟩)).1 _ rfl).2)) | exact ((show _ ∧ some _ ≠ (v545 : Value).ownBlock from (Kd.R_mono (ok' := fun k_ => (fun k_ => some k_ ≠ (v539 : Value).ownBlock ∧ some k_ ≠ (.slice Ao60 y549.length co60 : Value).ownBlock) k_ ∧ some k_ ≠ (v545 : Value).ownBlock) HO528.out (fun _ hk => ⟨⟨hk.1, hk.2.2⟩, hk.2.1⟩)).1 _ rfl).2))
            have HS7_ := cell_grown hg (hHeld.2.2.2.2.2.2.2.1) (by first | (rw [add_block]; exact ((show _ ∧ some _ ≠ (v545 : Value).ownBlock from (Kd.R_mono (ok' := fun k_ => (fun k_ => some k_ ≠ (v539 : Value).ownBlock ∧ some k_ ≠ (.slice Ao60 y549.length co60 : Value).ownBlock) k_ ∧ some k_ ≠ (v545 : Value).ownBlock) HO528.out (fun _ hk => ⟨⟨hk.1, hk.2.2⟩, hk.2.1⟩)).1 _ rfl).2)) | (show some (Addr.add _ _).block ≠ _; rw [add_block]; exact ((show _ ∧ some _ ≠ (v545 : Value).ownBlock from (Kd.R_mono (ok' := fun k_ => (fun k_ => some k_ ≠ (v539 : Value).ownBlock ∧ some k_ ≠ (.slice Ao60 y549.length co60 : Value).ownBlock) k_ ∧ some k_ ≠ (v545 : Value).ownBlock) HO528.out (fun _ hk => ⟨⟨hk.1, hk.2.2⟩, hk.2.1⟩)).1 _ rfl).2)) | exact ((show _ ∧ some _ ≠ (v545 : Value).ownBlock from (Kd.R_mono (ok' := fun k_ => (fun k_ => some k_ ≠ (v539 : Value).ownBlock ∧ some k_ ≠ (.slice Ao60 y549.length co60 : Value).ownBlock) k_ ∧ some k_ ≠ (v545 : Value).ownBlock) HO528.out (fun _ hk => ⟨⟨hk.1, hk.2.2⟩, hk.2.1⟩)).1 _ rfl).2))
            have HS8_ := cell_grown hg (hHeld.2.2.2.2.2.2.2.2.1) (by first | (rw [add_block]; exact ((show _ ∧ some _ ≠ (v545 : Value).ownBlock from (Kd.R_mono (ok' := fun k_ => (fun k_ => some k_ ≠ (v539 : Value).ownBlock ∧ some k_ ≠ (.slice Ao60 y549.length co60 : Value).ownBlock) k_ ∧ some k_ ≠ (v545 : Value).ownBlock) HO528.out (fun _ hk => ⟨⟨hk.1, hk.2.2⟩, hk.2.1⟩)).1 _ rfl).2)) | (show some (Addr.add _ _).block ≠ _; rw [add_block]; exact ((show _ ∧ some _ ≠ (v545 : Value).ownBlock from (Kd.R_mono (ok' := fun k_ => (fun k_ => some k_ ≠ (v539 : Value).ownBlock ∧ some k_ ≠ (.slice Ao60 y549.length co60 : Value).ownBlock) k_ ∧ some k_ ≠ (v545 : Value).ownBlock) HO528.out (fun _ hk => ⟨⟨hk.1, hk.2.2⟩, hk.2.1⟩)).1 _ rfl).2)) | exact ((show _ ∧ some _ ≠ (v545 : Value).ownBlock from (Kd.R_mono (ok' := fun k_ => (fun k_ => some k_ ≠ (v539 : Value).ownBlock ∧ some k_ ≠ (.slice Ao60 y549.length co60 : Value).ownBlock) k_ ∧ some k_ ≠ (v545 : Value).ownBlock) HO528.out (fun _ hk => ⟨⟨hk.1, hk.2.2⟩, hk.2.1⟩)).1 _ rfl).2))
            have HS9_ := cell_grown hg (hHeld.2.2.2.2.2.2.2.2.2) (by first | (rw [add_block]; exact ((show _ ∧ some _ ≠ (v545 : Value).ownBlock from (Kd.R_mono (ok' := fun k_ => (fun k_ => some k_ ≠ (v539 : Value).ownBlock ∧ some k_ ≠ (.slice Ao60 y549.length co60 : Value).ownBlock) k_ ∧ some k_ ≠ (v545 : Value).ownBlock) HO528.out (fun _ hk => ⟨⟨hk.1, hk.2.2⟩, hk.2.1⟩)).1 _ rfl).2)) | (show some (Addr.add _ _).block ≠ _; rw [add_block]; exact ((show _ ∧ some _ ≠ (v545 : Value).ownBlock from (Kd.R_mono (ok' := fun k_ => (fun k_ => some k_ ≠ (v539 : Value).ownBlock ∧ some k_ ≠ (.slice Ao60 y549.length co60 : Value).ownBlock) k_ ∧ some k_ ≠ (v545 : Value).ownBlock) HO528.out (fun _ hk => ⟨⟨hk.1, hk.2.2⟩, hk.2.1⟩)).1 _ rfl).2)) | exact ((show _ ∧ some _ ≠ (v545 : Value).ownBlock from (Kd.R_mono (ok' := fun k_ => (fun k_ => some k_ ≠ (v539 : Value).ownBlock ∧ some k_ ≠ (.slice Ao60 y549.length co60 : Value).ownBlock) k_ ∧ some k_ ≠ (v545 : Value).ownBlock) HO528.out (fun _ hk => ⟨⟨hk.1, hk.2.2⟩, hk.2.1⟩)).1 _ rfl).2))
            rw [← Ny552.out] at ho
            have n0_ := ak (Kd.R_after (ok := (fun k_ => some k_ ≠ (v539 : Value).ownBlock ∧ some k_ ≠ (.slice Ao60 y549.length co60 : Value).ownBlock)) (by (with_reducible repeat (first | apply Kd.R_alloc | apply Kd.R_drewN | apply Kd.R_drew)); exact Kd.R_mono HO528.out (fun _ hk => ⟨⟨hk.1, hk.2.2⟩, hk.2.1⟩)) hg hat)
            have n1_ := ak (Kd.R_over' (rG HO531) (Kd.R_typed (rG HO546)) (by decide) hg)
            have n2_ := ak (Kd.S_over' (by (with_reducible repeat (first | apply Kd.S_alloc | apply Kd.S_drewN | apply Kd.S_drew)); exact HO534.out) (Kd.R_typed (rG HO546)) (by decide) hg)
            have n3_ := ak (blk_grown (g := gb535) (o := .cells #[.slice Ao48 t532.length co48] 60 (0, 0)) (bG BK535) hg (Kd.R_ne HO546.out BK535.out (by decide)))
            have n4_ := ak (Kd.R_after (ok := (fun k_ => some k_ ≠ (.slice (some ad548) t526.length co45 : Value).ownBlock ∧ some k_ ≠ (.slice Ao60 y549.length co60 : Value).ownBlock)) (by (with_reducible repeat (first | apply Kd.R_alloc | apply Kd.R_drewN | apply Kd.R_drew)); exact Kd.R_mono HO540.out (fun _ hk => ⟨⟨hk.1, hk.2.2⟩, hk.2.1⟩)) hg hat)
            have n5_ := ak (Kd.R_after (ok := (fun k_ => some k_ ≠ (.slice (some ad548) t526.length co45 : Value).ownBlock ∧ some k_ ≠ (v539 : Value).ownBlock)) (by (with_reducible repeat (first | apply Kd.R_alloc | apply Kd.R_drewN | apply Kd.R_drew)); exact Kd.R_mono HO551.out (fun _ hk => ⟨⟨hk.1, hk.2.1⟩, hk.2.2⟩)) hg hat)
            have n6_ := ak (hb)
            have n7_ := ak (ho)
            clear HO528
            clear HO531
            clear HO534
            clear BK535
            clear HO540
            clear HO551
            clear HB
            clear HO546
            have HO528 := n0_
            have HO531 := n1_
            have HO534 := n2_
            have BK535 := n3_
            have HO540 := n4_
            have HO551 := n5_
            have HB := n6_
            have HO554 := n7_
            clear n0_ n1_ n2_ n3_ n4_ n5_ n6_ n7_
            clear ho hb hg hat
            refine hK.out _ _ ⟨HS0_, HS1_, HS2_, HS3_, HS4_, HS5_, HS6_, HS7_, HS8_, HS9_⟩ (fun hHeld => ?_)
            clear hK K
            refine nm ?_
            refine pu 14 7 (fb 15 32767) HT_ ?_
            refine done_ (done_of HT_.out (by kernel_rfl)) ?_
            try go_wp2
            replace HO528 := ak (Kd.R_drew HO528.out)
            replace HO531 := ak (Kd.R_drew HO531.out)
            replace HO534 := ak (Kd.S_drew HO534.out)
            replace HO540 := ak (Kd.R_drew HO540.out)
            replace HO551 := ak (Kd.R_drew HO551.out)
            replace HO554 := ak (Kd.R_drew HO554.out)
            replace BK535 := ak (blk_drew BK535.out)
            replace HB := ak (below_drew1 HB.out)
            obtain ⟨Ao62, co62, eo62⟩ := Kd.R_slice HO540.out
            (first | subst eo62 | (injection eo62 with f1_ f2_ f3_; have f4_ := f1_.symm; have f5_ := f3_.symm; clear f1_ f2_ f3_; subst f4_; subst f5_))
            refine start_ (n := 21) (S := fun w' => w'.cell? ⟨gb535, 0, none⟩ = some (.slice Ao48 t532.length co48)) (ds := []) #[f_,f_,f_,f_,f_,f_,f_,f_,f_,f_,f_,f_,f_,f_,f_,f_,f_,f_,f_,f_,f_] (by kernel_rfl) rfl rfl (bc BK535 0) (fun hHeld => ?_); refine with_tabW laws_FnAnyOrder.tab10 laws_FnAnyOrder.bits10 (fun HT_ HW_ => ?_)
            generalize w59.drew = w61 at HO528 HO531 HO534 HO540 HO551 HO554 BK535 HB hHeld ⊢
            refine pu 0 49 (fb 21 1) HT_ ?_
            refine take_ (i := 2) (N := some 51) (v := ?_) (a' := ?_) #[t_,f_,t_,f_,f_,f_,f_,f_,f_,f_,f_,f_,f_,f_,f_,f_,f_,f_,f_,f_,f_] rfl rfl (take_ofW HT_.out HW_.out (by kernel_rfl)) (fun _ _ _ h => h) (Or.inl ⟨by rfl, ?_⟩) hHeld ?_ ?_
            rotate_left
            ·intro w' s0
             go_simp
             with_reducible rfl
            rotate_left
            ·simp only [Act.put, List.setIfInBounds_toArray, List.set_cons_zero, List.set_cons_succ, i64_w, i32_w]
             rfl
            refine on 1 (some 50) (fb 21 7) HT_ (fun K hK => ?_)
            refine goes_ Try.func35 (by kernel_rfl) rfl #[.slice Ao62 t538.length co62] (by rfl) rfl rfl (by (try simp only [List.map_toArray, List.map_cons, List.map_nil]); first | done | rfl | (simp only [List.length_drop, List.length_take]; rfl)) ?_
            with_reducible refine (impl_StateOf.calls k _ _ t538 t555 _ ?side1 ?side2 A33.out).mono ?_
            (case side1 => exact cG (Kd.R_reads' HO540.out).2.2)
            (case side2 => exact (Kd.R_reads' HO540.out).2.1)
            rintro e w63 ⟨v556, rfl, ho0, hb⟩
            refine ⟨_, rfl, ?_⟩
            replace HO528 := rB HO528 hb
            replace HO531 := rB HO531 hb
            replace HO540 := rB HO540 hb
            replace HO551 := rB HO551 hb
            replace HO554 := rB HO554 hb
            replace HO557 := ak (Kd.S_lower (Kd.S_new' ho0 (Kd.S_lt (by (with_reducible repeat (first | apply Kd.S_alloc | apply Kd.S_drewN | apply Kd.S_drew)); exact HO534.out))) (below_size (lT HB (gC GE535 gN))))
            replace HO534 := ak (Kd.S_elder' (by (with_reducible repeat (first | apply Kd.S_alloc | apply Kd.S_drewN | apply Kd.S_drew)); exact HO534.out) (Kd.S_base ho0) hb)
            replace BK535 := bB BK535 hb
            replace HB := ak (below_step (lT HB (gC GE535 gN)) hb)
            (try clear hb)
            (try clear hb2)
            (try clear hk)
            (try clear hi)
            (try clear ho0)
            obtain ⟨Ao64, co64, eo64⟩ := Kd.S_slice HO557.out
            (first | subst eo64 | (injection eo64 with f1_ f2_ f3_; have f4_ := f1_.symm; have f5_ := f3_.symm; clear f1_ f2_ f3_; subst f4_; subst f5_))
            refine hK.out _ _ (bc BK535 0) (fun hHeld => ?_)
            clear hK K
            refine nm ?_
            refine on 3 (some 52) (fb 21 15) HT_ (fun K hK => ?_)
            refine goes_ Try.func37 (by kernel_rfl) rfl #[.agg #[.slice Ao64 t555.length co64], .agg #[.slice Ao48 t532.length co48]] (by rfl) rfl rfl (by (try simp only [List.map_toArray, List.map_cons, List.map_nil]); first | done | rfl | (simp only [List.length_drop, List.length_take]; rfl)) ?_
            with_reducible refine (impl_SameState.calls k _ _ t555 _ _ t532 true _ ?side1 ?side2 ?side3 ?side4 A34.out).mono ?_
            (case side1 => repeat (first | exact (Kd.S_reads' HO557.out).2.2 | (with_reducible refine Kd.C_alloc ?_ _) | (with_reducible refine Kd.C_drewN ?_ _) | (with_reducible refine Kd.C_drew ?_)))
            (case side2 => exact (Kd.S_reads' HO557.out).2.1)
            (case side3 => repeat (first | exact (Kd.S_reads' HO534.out).2.2 | (with_reducible refine Kd.C_alloc ?_ _) | (with_reducible refine Kd.C_drewN ?_ _) | (with_reducible refine Kd.C_drew ?_)))
            (case side4 => exact (Kd.S_reads' HO534.out).2.1)
            rintro e w65 ⟨rfl, hb⟩
            refine ⟨_, rfl, ?_⟩
            replace HO528 := rB HO528 hb
            replace HO531 := rB HO531 hb
            replace HO534 := ak (Kd.S_below (by (with_reducible repeat (first | apply Kd.S_alloc | apply Kd.S_drewN | apply Kd.S_drew)); exact HO534.out) hb)
            replace HO540 := rB HO540 hb
            replace HO551 := rB HO551 hb
            replace HO554 := rB HO554 hb
            replace HO557 := ak (Kd.S_below (by (with_reducible repeat (first | apply Kd.S_alloc | apply Kd.S_drewN | apply Kd.S_drew)); exact HO557.out) hb)
            replace BK535 := bB BK535 hb
            replace HB := ak (below_step (lT HB (gC GE535 gN)) hb)
            (try clear hb)
            (try clear hb2)
            (try clear hk)
            (try clear hi)
            obtain ⟨Ao66, co66, eo66⟩ := Kd.R_slice HO554.out
            (first | subst eo66 | (injection eo66 with f1_ f2_ f3_; have f4_ := f1_.symm; have f5_ := f3_.symm; clear f1_ f2_ f3_; subst f4_; subst f5_))
            refine hK.out _ _ (bc BK535 0) (fun hHeld => ?_)
            clear hK K
            refine nm ?_
            refine pu 4 53 (fb 21 31) HT_ ?_
            refine pu 5 54 (fb 21 63) HT_ ?_
            refine take_ (i := 7) (N := some 56) (v := ?_) (a' := ?_) #[t_,t_,t_,t_,t_,t_,f_,t_,f_,f_,f_,f_,f_,f_,f_,f_,f_,f_,f_,f_,f_] rfl rfl (take_ofW HT_.out HW_.out (by kernel_rfl)) (fun _ _ _ h => h) (Or.inl ⟨by rfl, ?_⟩) hHeld ?_ ?_
            rotate_left
            ·intro w' s0
             go_simp
             with_reducible rfl
            rotate_left
            ·simp only [Act.put, List.setIfInBounds_toArray, List.set_cons_zero, List.set_cons_succ, i64_w, i32_w]
             rfl
            refine on 6 (some 55) (fb 21 255) HT_ (fun K hK => ?_)
            refine goes_ Try.func35 (by kernel_rfl) rfl #[.slice Ao66 y552.length co66] (by rfl) rfl rfl (by (try simp only [List.map_toArray, List.map_cons, List.map_nil]); first | done | rfl | (simp only [List.length_drop, List.length_take]; rfl)) ?_
            with_reducible refine (impl_StateOf.calls k _ _ y552 t559 _ ?side1 ?side2 A36.out).mono ?_
            (case side1 => exact cG (Kd.R_reads' HO554.out).2.2)
            (case side2 => exact (Kd.R_reads' HO554.out).2.1)
            rintro e w67 ⟨v560, rfl, ho0, hb⟩
            refine ⟨_, rfl, ?_⟩
            replace HO528 := rB HO528 hb
            replace HO531 := rB HO531 hb
            replace HO540 := rB HO540 hb
            replace HO551 := rB HO551 hb
            replace HO554 := rB HO554 hb
            replace HO561 := ak (Kd.S_lower (Kd.S_new' (Kd.S_new' ho0 (Kd.S_lt (by (with_reducible repeat (first | apply Kd.S_alloc | apply Kd.S_drewN | apply Kd.S_drew)); exact HO534.out))) (Kd.S_lt (by (with_reducible repeat (first | apply Kd.S_alloc | apply Kd.S_drewN | apply Kd.S_drew)); exact HO557.out))) (below_size (lT HB (gC GE535 gN))))
            replace HO534 := ak (Kd.S_elder' (by (with_reducible repeat (first | apply Kd.S_alloc | apply Kd.S_drewN | apply Kd.S_drew)); exact HO534.out) (Kd.S_base ho0) hb)
            replace HO557 := ak (Kd.S_elder' (by (with_reducible repeat (first | apply Kd.S_alloc | apply Kd.S_drewN | apply Kd.S_drew)); exact HO557.out) (Kd.S_base ho0) hb)
            replace BK535 := bB BK535 hb
            replace HB := ak (below_step (lT HB (gC GE535 gN)) hb)
            (try clear hb)
            (try clear hb2)
            (try clear hk)
            (try clear hi)
            (try clear ho0)
            obtain ⟨Ao68, co68, eo68⟩ := Kd.S_slice HO561.out
            (first | subst eo68 | (injection eo68 with f1_ f2_ f3_; have f4_ := f1_.symm; have f5_ := f3_.symm; clear f1_ f2_ f3_; subst f4_; subst f5_))
            refine hK.out _ _ (bc BK535 0) (fun hHeld => ?_)
            clear hK K
            refine nm ?_
            refine on 8 (some 57) (fb 21 511) HT_ (fun K hK => ?_)
            refine goes_ Try.func37 (by kernel_rfl) rfl #[.agg #[.slice Ao68 t559.length co68], .agg #[.slice Ao48 t532.length co48]] (by rfl) rfl rfl (by (try simp only [List.map_toArray, List.map_cons, List.map_nil]); first | done | rfl | (simp only [List.length_drop, List.length_take]; rfl)) ?_
            with_reducible refine (impl_SameState.calls k _ _ t559 _ _ t532 true _ ?side1 ?side2 ?side3 ?side4 A37.out).mono ?_
            (case side1 => repeat (first | exact (Kd.S_reads' HO561.out).2.2 | (with_reducible refine Kd.C_alloc ?_ _) | (with_reducible refine Kd.C_drewN ?_ _) | (with_reducible refine Kd.C_drew ?_)))
            (case side2 => exact (Kd.S_reads' HO561.out).2.1)
            (case side3 => repeat (first | exact (Kd.S_reads' HO534.out).2.2 | (with_reducible refine Kd.C_alloc ?_ _) | (with_reducible refine Kd.C_drewN ?_ _) | (with_reducible refine Kd.C_drew ?_)))
            (case side4 => exact (Kd.S_reads' HO534.out).2.1)
            rintro e w69 ⟨rfl, hb⟩
            refine ⟨_, rfl, ?_⟩
            replace HO528 := rB HO528 hb
            replace HO531 := rB HO531 hb
            replace HO534 := ak (Kd.S_below (by (with_reducible repeat (first | apply Kd.S_alloc | apply Kd.S_drewN | apply Kd.S_drew)); exact HO534.out) hb)
            replace HO540 := rB HO540 hb
            replace HO551 := rB HO551 hb
            replace HO554 := rB HO554 hb
            replace HO557 := ak (Kd.S_below (by (with_reducible repeat (first | apply Kd.S_alloc | apply Kd.S_drewN | apply Kd.S_drew)); exact HO557.out) hb)
            replace HO561 := ak (Kd.S_below (by (with_reducible repeat (first | apply Kd.S_alloc | apply Kd.S_drewN | apply Kd.S_drew)); exact HO561.out) hb)
            replace BK535 := bB BK535 hb
            replace HB := ak (below_step (lT HB (gC GE535 gN)) hb)
            (try clear hb)
            (try clear hb2)
            (try clear hk)
            (try clear hi)
            refine hK.out _ _ (bc BK535 0) (fun hHeld => ?_)
            clear hK K
            refine nm ?_
            refine pu 9 58 (fb 21 1023) HT_ ?_
            refine pu 10 59 (fb 21 2047) HT_ ?_
            refine pu 12 61 (fb 21 6143) HT_ ?_
            refine take_ (i := 11) (N := some 60) (v := ?_) (a' := ?_) #[t_,t_,t_,t_,t_,t_,t_,t_,t_,t_,t_,t_,t_,f_,f_,f_,f_,f_,f_,f_,f_] rfl rfl (take_ofW HT_.out HW_.out (by kernel_rfl)) (fun _ _ _ h => h) (Or.inl ⟨by rfl, ?_⟩) hHeld ?_ ?_
            rotate_left
            ·intro w' s0
             go_simp
             with_reducible rfl
            rotate_left
            ·simp only [Act.put, List.setIfInBounds_toArray, List.set_cons_zero, List.set_cons_succ, i64_w, i32_w]
             rfl
            refine on 13 (some 62) (fb 21 16383) HT_ (fun K hK => ?_)
            refine goes_ Try.func38 (by kernel_rfl) rfl #[.slice (some ad548) t526.length co45] (by rfl) rfl rfl (by (try simp only [List.map_toArray, List.map_cons, List.map_nil]); first | done | rfl | (simp only [List.length_drop, List.length_take]; rfl)) ?_
            with_reducible refine (spec_StateOf.calls k _ _ t526 t563 _ ?side1 ?side2 A39.out).mono ?_
            (case side1 => exact cG (Kd.R_reads' HO528.out).2.2)
            (case side2 => exact (Kd.R_reads' HO528.out).2.1)
            rintro e w70 ⟨v564, rfl, ho0, hb⟩
            refine ⟨_, rfl, ?_⟩
            replace HO528 := rB HO528 hb
            replace HO531 := rB HO531 hb
            replace HO540 := rB HO540 hb
            replace HO551 := rB HO551 hb
            replace HO554 := rB HO554 hb
            replace HO565 := ak (Kd.S_lower (Kd.S_new' (Kd.S_new' (Kd.S_new' ho0 (Kd.S_lt (by (with_reducible repeat (first | apply Kd.S_alloc | apply Kd.S_drewN | apply Kd.S_drew)); exact HO534.out))) (Kd.S_lt (by (with_reducible repeat (first | apply Kd.S_alloc | apply Kd.S_drewN | apply Kd.S_drew)); exact HO557.out))) (Kd.S_lt (by (with_reducible repeat (first | apply Kd.S_alloc | apply Kd.S_drewN | apply Kd.S_drew)); exact HO561.out))) (below_size (lT HB (gC GE535 gN))))
            replace HO534 := ak (Kd.S_elder' (by (with_reducible repeat (first | apply Kd.S_alloc | apply Kd.S_drewN | apply Kd.S_drew)); exact HO534.out) (Kd.S_base ho0) hb)
            replace HO557 := ak (Kd.S_elder' (by (with_reducible repeat (first | apply Kd.S_alloc | apply Kd.S_drewN | apply Kd.S_drew)); exact HO557.out) (Kd.S_base ho0) hb)
            replace HO561 := ak (Kd.S_elder' (by (with_reducible repeat (first | apply Kd.S_alloc | apply Kd.S_drewN | apply Kd.S_drew)); exact HO561.out) (Kd.S_base ho0) hb)
            replace BK535 := bB BK535 hb
            replace HB := ak (below_step (lT HB (gC GE535 gN)) hb)
            (try clear hb)
            (try clear hb2)
            (try clear hk)
            (try clear hi)
            (try clear ho0)
            obtain ⟨Ao71, co71, eo71⟩ := Kd.S_slice HO565.out
            (first | subst eo71 | (injection eo71 with f1_ f2_ f3_; have f4_ := f1_.symm; have f5_ := f3_.symm; clear f1_ f2_ f3_; subst f4_; subst f5_))
            refine hK.out _ _ (bc BK535 0) (fun hHeld => ?_)
            clear hK K
            refine nm ?_
            refine on 14 (some 63) (fb 21 32767) HT_ (fun K hK => ?_)
            refine goes_ Try.func37 (by kernel_rfl) rfl #[.agg #[.slice Ao48 t532.length co48], .agg #[.slice Ao71 t563.length co71]] (by rfl) rfl rfl (by (try simp only [List.map_toArray, List.map_cons, List.map_nil]); first | done | rfl | (simp only [List.length_drop, List.length_take]; rfl)) ?_
            with_reducible refine (impl_SameState.calls k _ _ t532 _ _ t563 true _ ?side1 ?side2 ?side3 ?side4 A40.out).mono ?_
            (case side1 => repeat (first | exact (Kd.S_reads' HO534.out).2.2 | (with_reducible refine Kd.C_alloc ?_ _) | (with_reducible refine Kd.C_drewN ?_ _) | (with_reducible refine Kd.C_drew ?_)))
            (case side2 => exact (Kd.S_reads' HO534.out).2.1)
            (case side3 => repeat (first | exact (Kd.S_reads' HO565.out).2.2 | (with_reducible refine Kd.C_alloc ?_ _) | (with_reducible refine Kd.C_drewN ?_ _) | (with_reducible refine Kd.C_drew ?_)))
            (case side4 => exact (Kd.S_reads' HO565.out).2.1)
            rintro e w72 ⟨rfl, hb⟩
            refine ⟨_, rfl, ?_⟩
            replace HO528 := rB HO528 hb
            replace HO531 := rB HO531 hb
            replace HO534 := ak (Kd.S_below (by (with_reducible repeat (first | apply Kd.S_alloc | apply Kd.S_drewN | apply Kd.S_drew)); exact HO534.out) hb)
            replace HO540 := rB HO540 hb
            replace HO551 := rB HO551 hb
            replace HO554 := rB HO554 hb
            replace HO557 := ak (Kd.S_below (by (with_reducible repeat (first | apply Kd.S_alloc | apply Kd.S_drewN | apply Kd.S_drew)); exact HO557.out) hb)
            replace HO561 := ak (Kd.S_below (by (with_reducible repeat (first | apply Kd.S_alloc | apply Kd.S_drewN | apply Kd.S_drew)); exact HO561.out) hb)
            replace HO565 := ak (Kd.S_below (by (with_reducible repeat (first | apply Kd.S_alloc | apply Kd.S_drewN | apply Kd.S_drew)); exact HO565.out) hb)
            replace BK535 := bB BK535 hb
            replace HB := ak (below_step (lT HB (gC GE535 gN)) hb)
            (try clear hb)
            (try clear hb2)
            (try clear hk)
            (try clear hi)
            refine hK.out _ _ (bc BK535 0) (fun hHeld => ?_)
            clear hK K
            refine nm ?_
            refine pu 15 64 (fb 21 65535) HT_ ?_
            refine pu 16 65 (fb 21 131071) HT_ ?_
            refine pu 17 66 (fb 21 262143) HT_ ?_
            refine on 18 (some 67) (fb 21 524287) HT_ (fun K hK => ?_)
            refine goes_ Try.func21 (by kernel_rfl) rfl #[.slice Ao62 t538.length co62] (by rfl) rfl rfl (by (try simp only [List.map_toArray, List.map_cons, List.map_nil]); first | done | rfl | (simp only [List.length_drop, List.length_take]; rfl)) ?_
            with_reducible refine (impl_ItemsOk.calls k _ _ t538 true _ ?side1 ?side2 A42.out).mono ?_
            (case side1 => exact cG (Kd.R_reads' HO540.out).2.2)
            (case side2 => exact (Kd.R_reads' HO540.out).2.1)
            rintro e w73 ⟨rfl, hb⟩
            refine ⟨_, rfl, ?_⟩
            replace HO528 := rB HO528 hb
            replace HO531 := rB HO531 hb
            replace HO534 := ak (Kd.S_below (by (with_reducible repeat (first | apply Kd.S_alloc | apply Kd.S_drewN | apply Kd.S_drew)); exact HO534.out) hb)
            replace HO540 := rB HO540 hb
            replace HO551 := rB HO551 hb
            replace HO554 := rB HO554 hb
            replace HO557 := ak (Kd.S_below (by (with_reducible repeat (first | apply Kd.S_alloc | apply Kd.S_drewN | apply Kd.S_drew)); exact HO557.out) hb)
            replace HO561 := ak (Kd.S_below (by (with_reducible repeat (first | apply Kd.S_alloc | apply Kd.S_drewN | apply Kd.S_drew)); exact HO561.out) hb)
            replace HO565 := ak (Kd.S_below (by (with_reducible repeat (first | apply Kd.S_alloc | apply Kd.S_drewN | apply Kd.S_drew)); exact HO565.out) hb)
            replace BK535 := bB BK535 hb
            replace HB := ak (below_step (lT HB (gC GE535 gN)) hb)
            (try clear hb)
            (try clear hb2)
            (try clear hk)
            (try clear hi)
            refine hK.out _ _ (bc BK535 0) (fun hHeld => ?_)
            clear hK K
            refine nm ?_
            refine pu 19 68 (fb 21 1048575) HT_ ?_
            refine pu 20 2 (fb 21 2097151) HT_ ?_
            refine done_ (done_of HT_.out (by kernel_rfl)) ?_
            try go_wp2
            go_ret
            exact ⟨by first | rfl | (simp [errW_none, errW_some] <;> rfl) | (simp only [← hji29]; first | rfl | (simp [errW_none, errW_some] <;> rfl)) | (simp [*, errW_none, errW_some] <;> rfl), by exact lT HB (gC GE535 gN)⟩
           ·replace c41 := Bool.eq_false_iff.mpr c41
            subst c41
            have H1 : (some false) = some true := by rw [if_neg (show ¬ (false = true) by decide)] at H; exact H
            exact absurd H1 (by simp)
          ·replace c38 := Bool.eq_false_iff.mpr c38
           subst c38
           have H1 : (some false) = some true := by rw [if_neg (show ¬ (false = true) by decide)] at H; exact H
           exact absurd H1 (by simp)
         ·replace c35 := Bool.eq_false_iff.mpr c35
          subst c35
          have H1 : (some false) = some true := by rw [if_neg (show ¬ (false = true) by decide)] at H; exact H
          exact absurd H1 (by simp)
        ·rw [if_neg c32] at H
         exact absurd H (by simp)
       ·rw [if_neg c31] at H
        exact absurd H (by simp)
      ·rw [if_neg c30] at H
       exact absurd H (by simp)
     ·rw [if_neg c28] at H
      exact absurd H (by simp)
    ·rw [if_neg c27] at H
     exact absurd H (by simp)
   ·rw [if_neg c25] at H
    exact absurd H (by simp)
/-- THE ONE PURE STATEMENT of laws_FnAnyOrder: yours. -/
def laws_FnAnyOrder.Pure : Prop := ∀ (l0 : List Int), l0.length ≤ maxLen → l0.length * 1 ≤ 140737488351232 → (∀ x ∈ l0, (Lit.int .u8 x).wf = true) → ∃ k, laws_FnAnyOrder.f k l0 = some true
theorem laws_FnAnyOrder.walk (P : laws_FnAnyOrder.Pure) (a0 : Option Addr) (len0 cap0 : Nat) (z0 : List Int) (w : World) (w0 : (a0 = none ∧ len0 = 0 ∧ cap0 = 0 ∧ z0 = []) ∨ ∃ x, a0 = some x ∧ len0 ≤ cap0 ∧ cap0 ≤ maxLen ∧ z0.length = cap0 ∧ (∀ i, i < z0.length → w.cell? (x.add i) = some (.int .u8 (z0.getD i 0))) ∧ ∀ n ∈ z0, (Lit.int .u8 n).wf = true) (y0 : len0 * 1 ≤ 140737488351232) :
  Calls Try.prog 7 #[.slice a0 len0 cap0] w fun e w' => e = .returned (.bool true) ∧ Below w.heap.size w w' := by
 obtain ⟨l0, rfl, hr0, hm0, hw0, hc0⟩ := ReadsInt.ofRowC w0
 obtain ⟨k, h⟩ := P l0 hm0 y0 hw0
 refine (laws_FnAnyOrder.calls k _ _ l0 w (Kd.C_of_reads (d := (0 : Int)) (h1 := fun _ => rfl) hr0) hc0 h).mono ?_
 rintro e w' ⟨rfl, hd⟩
 exact ⟨rfl, hd⟩
end Go.Proofs.Ytagkjeldheiejaa.PFnAnyOrder
