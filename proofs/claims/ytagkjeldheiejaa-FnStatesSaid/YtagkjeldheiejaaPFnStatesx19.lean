-- Written by a program of mine (a turned copy of the kit's print): functions as plain Lean, their contracts.
import Derived.Test.YtagkjeldheiejaaPFnStatesx17
import Derived.Test.YtagkjeldheiejaaPFnStatesx18
import Derived.Test.YtagkjeldheiejaaVFnStates1
namespace Go.Proofs.Ytagkjeldheiejaa.PFnStates
open Go.RowKit Go.Proofs.YtagkjeldheiejaaW.PrintWords Go.Proofs.YtagkjeldheiejaaW.PrintLast Go.Proofs.YtagkjeldheiejaaW.PrintMore
attribute [local go_sem] max2_int min2_int max_two min_two max_three min_three max_four min_four   -- for this text's walks alone
set_option maxHeartbeats 8000000
set_option maxRecDepth 100000
set_option linter.unusedVariables false
set_option linter.unusedSimpArgs false
/-! ### laws_FnStates: function 8 -/
mutual
def laws_FnStates.l0 : Nat → List Int → List (S32) → Int → List (S66) → Option (Bool)
 | 0, _, _, _, _ => none
 | k + 1, a, b, c, d => if c < (d.length : Int) then (if 0 ≤ c then (laws_FnStates.l1 k a b c 0 d ((rd_T66 d c).f0) ((rd_T66 d c).f1) ((rd_T66 d c).f2) ((rd_T66 d c).f3) ((rd_T66 d c).f4)) else (none)) else ((spec_DrawBoxOf.f k a).bind fun bt593 => ((impl_BoxOf.f k bt593.1 bt593.2.1 bt593.2.2).bind fun bt599 => ((spec_BoxOf.f k bt593.1 bt593.2.1 bt593.2.2).bind fun bt608 => (if (bt599.2.2.2.2.2 == bt608.2.2.2.2.2) = true then (if bt599.2.2.2.2.2 = true then (if bt599.2.1.toList = bt593.2.1.toList then (if bt599.2.2.1.toList = bt593.2.2.toList then ((impl_BoxesOf.f k bt593.1 bt593.2.1).bind fun t617 => ((spec_BoxesOf.f k bt593.1 bt593.2.1).bind fun t620 => ((laws_sameTexts.f k t617 t620).bind fun t623 => (if t623 = true then ((impl_ValidAfter.f k b).bind fun t624 => ((spec_ValidAfter.f k b).bind fun t625 => (some (t624 == t625)))) else (some false))))) else (some false)) else (some false)) else ((impl_BoxesOf.f k bt593.1 bt593.2.1).bind fun t626 => ((spec_BoxesOf.f k bt593.1 bt593.2.1).bind fun t629 => ((laws_sameTexts.f k t626 t629).bind fun t632 => (if t632 = true then ((impl_ValidAfter.f k b).bind fun t633 => ((spec_ValidAfter.f k b).bind fun t634 => (some (t633 == t634)))) else (some false)))))) else (some false)))))
def laws_FnStates.l1 : Nat → List Int → List (S32) → Int → Int → List (S66) → Int → ByteArray → ByteArray → Int → List (S68) → Option (Bool)
 | 0, _, _, _, _, _, _, _, _, _, _ => none
 | k + 1, a, b, c, d, e, f, g, h, i, j => if d < (j.length : Int) then (if 0 ≤ d then (if ((rd_T68 j d).f0) ≥ i then (laws_FnStates.j2 k a b c d true e f g h i j) else (if d > 0 then (if 0 ≤ (wrap64 (d - 1)) then (if (wrap64 (d - 1)) < (j.length : Int) then (laws_FnStates.j2 k a b c d (decide (((rd_T68 j (wrap64 (d - 1))).f0) ≥ ((rd_T68 j d).f0))) e f g h i j) else (none)) else (none)) else (laws_FnStates.j2 k a b c d false e f g h i j))) else (none)) else (laws_FnStates.l3 k a b c 0 e f g h i j)
def laws_FnStates.j2 : Nat → List Int → List (S32) → Int → Int → Bool → List (S66) → Int → ByteArray → ByteArray → Int → List (S68) → Option (Bool)
 | 0, _, _, _, _, _, _, _, _, _, _, _ => none
 | k + 1, a, b, c, d, e, f, g, h, i, j, l => if e = true then (some false) else (laws_FnStates.l2 k a b c d 0 f g h i j l)
def laws_FnStates.l2 : Nat → List Int → List (S32) → Int → Int → Int → List (S66) → Int → ByteArray → ByteArray → Int → List (S68) → Option (Bool)
 | 0, _, _, _, _, _, _, _, _, _, _, _ => none
 | k + 1, a, b, c, d, e, f, g, h, i, j, l => if e < (b.length : Int) then (if 0 ≤ e then (if ((rd_T32 b e).f1.f0) = 5 then (if ((rd_T32 b e).f1.f1) = g then (if 0 ≤ d then (if d < (l.length : Int) then (if ((rd_T32 b e).f1.f2) = ((rd_T68 l d).f0) then (some false) else (laws_FnStates.l2 k a b c d (wrap64 (e + 1)) f g h i j l)) else (none)) else (none)) else (laws_FnStates.l2 k a b c d (wrap64 (e + 1)) f g h i j l)) else (laws_FnStates.l2 k a b c d (wrap64 (e + 1)) f g h i j l)) else (none)) else (laws_FnStates.l1 k a b c (wrap64 (d + 1)) f g h i j l)
def laws_FnStates.l3 : Nat → List Int → List (S32) → Int → Int → List (S66) → Int → ByteArray → ByteArray → Int → List (S68) → Option (Bool)
 | 0, _, _, _, _, _, _, _, _, _, _ => none
 | k + 1, a, b, c, d, e, f, g, h, i, j => if d < (b.length : Int) then (if 0 ≤ d then (if ((rd_T32 b d).f1.f1) = f then (if ((rd_T32 b d).f1.f0) = 2 then (some false) else (if ((rd_T32 b d).f1.f0) = 3 then (if ((rd_T32 b d).f1.f2) ≥ i then (some false) else (laws_FnStates.l3 k a b c (wrap64 (d + 1)) e f g h i j)) else (laws_FnStates.l3 k a b c (wrap64 (d + 1)) e f g h i j))) else (laws_FnStates.l3 k a b c (wrap64 (d + 1)) e f g h i j)) else (none)) else (laws_FnStates.l0 k a b (wrap64 (c + 1)) e)
end
def laws_FnStates.f (k : Nat) (l0 : List Int) : Option (Bool) := (laws_big.f l0).bind fun t575 => (if t575 = true then (some true) else ((spec_DrawItems.f k l0).bind fun t576 => ((impl_StateOf.f k t576).bind fun t579 => (laws_FnStates.l0 k l0 t576 0 t579))))
theorem laws_FnStates.mono_l : ∀ k, (∀ y0 y1 y2 y3, LeO (laws_FnStates.l0 k y0 y1 y2 y3) (laws_FnStates.l0 (k + 1) y0 y1 y2 y3)) ∧ (∀ y0 y1 y2 y3 y4 y5 y6 y7 y8 y9, LeO (laws_FnStates.l1 k y0 y1 y2 y3 y4 y5 y6 y7 y8 y9) (laws_FnStates.l1 (k + 1) y0 y1 y2 y3 y4 y5 y6 y7 y8 y9)) ∧ (∀ y0 y1 y2 y3 y4 y5 y6 y7 y8 y9 y10, LeO (laws_FnStates.j2 k y0 y1 y2 y3 y4 y5 y6 y7 y8 y9 y10) (laws_FnStates.j2 (k + 1) y0 y1 y2 y3 y4 y5 y6 y7 y8 y9 y10)) ∧ (∀ y0 y1 y2 y3 y4 y5 y6 y7 y8 y9 y10, LeO (laws_FnStates.l2 k y0 y1 y2 y3 y4 y5 y6 y7 y8 y9 y10) (laws_FnStates.l2 (k + 1) y0 y1 y2 y3 y4 y5 y6 y7 y8 y9 y10)) ∧ (∀ y0 y1 y2 y3 y4 y5 y6 y7 y8 y9, LeO (laws_FnStates.l3 k y0 y1 y2 y3 y4 y5 y6 y7 y8 y9) (laws_FnStates.l3 (k + 1) y0 y1 y2 y3 y4 y5 y6 y7 y8 y9))
 | 0 => ⟨fun _ _ _ _ r h => by simp [laws_FnStates.l0] at h, fun _ _ _ _ _ _ _ _ _ _ r h => by simp [laws_FnStates.l1] at h, fun _ _ _ _ _ _ _ _ _ _ _ r h => by simp [laws_FnStates.j2] at h, fun _ _ _ _ _ _ _ _ _ _ _ r h => by simp [laws_FnStates.l2] at h, fun _ _ _ _ _ _ _ _ _ _ r h => by simp [laws_FnStates.l3] at h⟩
 | k + 1 => by
  obtain ⟨ih0, ih1, ih2, ih3, ih4⟩ := laws_FnStates.mono_l k
  refine ⟨?_, ?_, ?_, ?_, ?_⟩
  intro y0 y1 y2 y3;unfold laws_FnStates.l0;rotate_left
  intro y0 y1 y2 y3 y4 y5 y6 y7 y8 y9;unfold laws_FnStates.l1;rotate_left
  intro y0 y1 y2 y3 y4 y5 y6 y7 y8 y9 y10;unfold laws_FnStates.j2;rotate_left
  intro y0 y1 y2 y3 y4 y5 y6 y7 y8 y9 y10;unfold laws_FnStates.l2;rotate_left
  intro y0 y1 y2 y3 y4 y5 y6 y7 y8 y9;unfold laws_FnStates.l3;rotate_left
  all_goals repeat' with_reducible first | exact ih0 _ _ _ _ | exact ih1 _ _ _ _ _ _ _ _ _ _ | exact ih2 _ _ _ _ _ _ _ _ _ _ _ | exact ih3 _ _ _ _ _ _ _ _ _ _ _ | exact ih4 _ _ _ _ _ _ _ _ _ _ | exact impl_BoxOf.mono _ _ _ _ | exact impl_BoxesOf.mono _ _ _ | exact impl_StateOf.mono _ _ | exact impl_ValidAfter.mono _ _ | exact laws_sameTexts.mono _ _ _ | exact spec_BoxOf.mono _ _ _ _ | exact spec_BoxesOf.mono _ _ _ | exact spec_DrawBoxOf.mono _ _ | exact spec_DrawItems.mono _ _ | exact spec_ValidAfter.mono _ _ | exact LeO.refl _ | exact LeO.none _ | refine LeO.ite ?_ ?_ | refine LeO.bind ?_ (fun _ => ?_)
theorem laws_FnStates.mono : ∀ a0 k, LeO (laws_FnStates.f k a0) (laws_FnStates.f (k + 1) a0) := by
 intro a0 k
 obtain ⟨ih0, ih1, ih2, ih3, ih4⟩ := laws_FnStates.mono_l k
 unfold laws_FnStates.f
 repeat' with_reducible first | exact ih0 _ _ _ _ | exact ih1 _ _ _ _ _ _ _ _ _ _ | exact ih2 _ _ _ _ _ _ _ _ _ _ _ | exact ih3 _ _ _ _ _ _ _ _ _ _ _ | exact ih4 _ _ _ _ _ _ _ _ _ _ | exact impl_BoxOf.mono _ _ _ _ | exact impl_BoxesOf.mono _ _ _ | exact impl_StateOf.mono _ _ | exact impl_ValidAfter.mono _ _ | exact laws_sameTexts.mono _ _ _ | exact spec_BoxOf.mono _ _ _ _ | exact spec_BoxesOf.mono _ _ _ | exact spec_DrawBoxOf.mono _ _ | exact spec_DrawItems.mono _ _ | exact spec_ValidAfter.mono _ _ | exact LeO.refl _ | exact LeO.none _ | refine LeO.ite ?_ ?_ | refine LeO.bind ?_ (fun _ => ?_)
def laws_FnStates.T12 : Bool × List (List Nat × List Nat) := (true, [([], []), ([0], [0]), ([], []), ([1, 2], [1, 2]), ([3], [3]), ([4], [4]), ([], []), ([6], [6]), ([5, 7], [5, 7]), ([8], [8]), ([9], [9]), ([10, 9], [9, 10]), ([11, 9, 9], [9, 11]), ([12], [12]), ([13, 12], [12, 13]), ([12], [12]), ([15, 12], [12, 15]), ([14, 16, 12], [12, 14, 16]), ([17, 12], [12, 17]), ([18, 12], [12, 18]), ([12], [12]), ([20, 12], [12, 20]), ([12], [12]), ([21, 22, 12], [12, 21, 22]), ([23, 12], [12, 23]), ([24, 12], [12, 24]), ([19, 25, 12], [12, 19, 25]), ([12, 26, 9], [9, 12, 26]), ([9, 27], [9, 27])])
def laws_FnStates.B12 : List Nat := [0, 1, 0, 7, 15, 31, 0, 64, 255, 511, 1023, 2047, 4095, 8191, 16383, 8191, 40959, 131071, 262143, 524287, 8191, 1056767, 8191, 7348223, 15736831, 32514047, 67108863, 134217727, 268435455]
theorem laws_FnStates.tab12 : rtab .any (opsOf Try.f8 12) = laws_FnStates.T12 := by kernel_rfl
theorem laws_FnStates.bits12 : waitsOk laws_FnStates.T12.2 laws_FnStates.B12 = true := by kernel_rfl
def laws_FnStates.T18 : Bool × List (List Nat × List Nat) := (true, [([], []), ([0], [0]), ([1], [1]), ([2], [2]), ([3], [3]), ([4, 3], [3, 4]), ([3], [3]), ([6, 3], [3, 6]), ([5, 7, 3], [3, 5, 7]), ([3, 8], [3, 8]), ([9, 3], [9]), ([10], [10]), ([11, 10], [10, 11]), ([10], [10]), ([13, 10], [10, 13]), ([10], [10]), ([14, 15, 10], [10, 14, 15]), ([16, 10], [10, 16]), ([17, 10], [10, 17]), ([12, 18, 10], [10, 12, 18]), ([10, 19], [10, 19])])
def laws_FnStates.B18 : List Nat := [0, 1, 3, 7, 15, 31, 15, 79, 255, 511, 1023, 2047, 4095, 2047, 10239, 2047, 59391, 124927, 255999, 524287, 1048575]
theorem laws_FnStates.tab18 : rtab .any (opsOf Try.f8 18) = laws_FnStates.T18 := by kernel_rfl
theorem laws_FnStates.bits18 : waitsOk laws_FnStates.T18.2 laws_FnStates.B18 = true := by kernel_rfl
def laws_FnStates.T29 : Bool × List (List Nat × List Nat) := (true, [([], []), ([], []), ([0, 1], [0, 1]), ([2], [2]), ([3], [3]), ([4, 3], [3, 4]), ([5, 3, 3], [3, 5]), ([6], [6]), ([7, 6], [6, 7]), ([6], [6]), ([8, 9, 6], [6, 8, 9]), ([10, 6, 6], [6, 10]), ([11], [11]), ([12, 11], [11, 12]), ([11], [11]), ([13, 14, 11], [11, 13, 14]), ([11, 15, 6], [6, 11, 15]), ([6, 16, 3], [3, 6, 16]), ([3, 17], [3, 17]), ([18, 11], [18]), ([19], [19]), ([19], [19]), ([20, 21, 19, 19], [19, 20, 21]), ([19], [19]), ([19], [19]), ([23, 24, 22, 19], [19, 23, 24]), ([22, 25, 25, 19], [19, 22, 25]), ([19, 26], [19, 26]), ([27, 26], [27]), ([28], [28]), ([29, 28, 28], [28, 29]), ([28], [28]), ([31, 30, 28], [28, 31]), ([30, 32, 28], [28, 30, 32]), ([28, 33], [28, 33]), ([34, 32, 0, 1, 2, 3, 4, 5, 6, 7, 8, 9, 10, 11, 12, 13, 14, 15, 16, 17, 18, 19, 20, 21, 22, 23, 24, 25, 26, 27, 28, 29, 30, 31, 32, 33, 34], [34])])
def laws_FnStates.B29 : List Nat := [0, 0, 3, 7, 15, 31, 63, 127, 255, 127, 1023, 2047, 4095, 8191, 4095, 32767, 65535, 131071, 262143, 524287, 1048575, 1048575, 4194303, 1048575, 1048575, 33554431, 67108863, 134217727, 268435455, 536870911, 1073741823, 536870911, 4294967295, 8589934591, 17179869183, 34359738367]
theorem laws_FnStates.tab29 : rtab .any (opsOf Try.f8 29) = laws_FnStates.T29 := by kernel_rfl
theorem laws_FnStates.bits29 : waitsOk laws_FnStates.T29.2 laws_FnStates.B29 = true := by kernel_rfl
theorem laws_FnStates.calls (k : Nat) (A0 : Option Addr) (c0 : Nat) (l0 : List Int) (w : World) (hr0 : Kd.C (Kd.int .u8) w A0 l0.length l0) (hc0 : l0.length ≤ c0) (h : laws_FnStates.f k l0 = some true) :
  Calls Try.prog 8 #[.slice A0 l0.length c0] w fun e w' => e = .returned (.bool true) ∧ Below w.heap.size w w' := by
 have hu60 := Try.underlying60
 have hu66 := Try.underlying66
 have hu23 := Try.underlying23
 have HR0 := Aside0.mk hr0
 have HC0 := Aside0.mk hc0
 clear hr0 hc0
 have HB := ak (Below.refl w.heap.size w)
 have H := h
 clear h
 unfold laws_FnStates.f at H
 obtain ⟨t575, A2, H⟩ := eb H
 try dsimp only at H
 by_cases c3 : t575 = true
 ·subst c3
  have H1 : (some true) = some true := rfl
  clear H
  have H := H1
  clear H1
  go_enter Try.func8, Try.ntmps8
  go_wp2_with (first | ((with_reducible refine gate_callee (f := 23) rfl ?_); refine gl (some 20) Try.func23 #[.slice A0 l0.length c0] ?_; (with_reducible refine (laws_big.calls _ _ l0 true _ ?side1 ?side2 A2.out).mono ?_); (case side1 => repeat (first | exact HR0.out | (with_reducible refine Kd.C_alloc ?_ _) | (with_reducible refine Kd.C_drewN ?_ _) | (with_reducible refine Kd.C_drew ?_))); (case side2 => exact HC0.out); rintro e w' ⟨rfl, ⟨nd, rfl⟩⟩; refine ⟨_, rfl, ?_⟩))
  go_ret
  exact ⟨ew, by exact lG HB⟩
 ·replace c3 := Bool.eq_false_iff.mpr c3
  subst c3
  rw [if_neg (show ¬ (false = true) by decide)] at H
  obtain ⟨t576, A4, H⟩ := eb H
  try dsimp only at H
  obtain ⟨t579, A5, H⟩ := eb H
  try dsimp only at H
  have H' := Aside0.mk H
  clear H
  go_enter Try.func8, Try.ntmps8
  go_wp2_with (first | ((with_reducible refine gate_callee (f := 23) rfl ?_); refine gl (some 20) Try.func23 #[.slice A0 l0.length c0] ?_; (with_reducible refine (laws_big.calls _ _ l0 false _ ?side1 ?side2 A2.out).mono ?_); (case side1 => repeat (first | exact HR0.out | (with_reducible refine Kd.C_alloc ?_ _) | (with_reducible refine Kd.C_drewN ?_ _) | (with_reducible refine Kd.C_drew ?_))); (case side2 => exact HC0.out); rintro e w' ⟨rfl, ⟨nd, rfl⟩⟩; refine ⟨_, rfl, ?_⟩) | ((with_reducible refine gate_callee (f := 33) rfl ?_); refine gl (some 22) Try.func33 #[.slice A0 l0.length c0] ?_; (with_reducible refine (spec_DrawItems.calls k _ _ l0 t576 _ ?side1 ?side2 A4.out).mono ?_); (case side1 => repeat (first | exact HR0.out | (with_reducible refine Kd.C_alloc ?_ _) | (with_reducible refine Kd.C_drewN ?_ _) | (with_reducible refine Kd.C_drew ?_))); (case side2 => exact HC0.out); rintro e w6 ⟨v577, rfl, ho0, hb⟩; refine ⟨_, rfl, ?_⟩; replace HO578 := ak (Kd.R_lower ho0 (below_size (lG HB))); replace HB := lB HB hb; (try clear hb); (try clear hk); (try clear ho0); obtain ⟨Ao7, co7, eo7⟩ := Kd.R_slice HO578.out; subst eo7) | ((with_reducible refine gate_callee (f := 35) rfl ?_); refine gl (some 24) Try.func35 #[.slice Ao7 t576.length co7] ?_; (with_reducible refine (impl_StateOf.calls k _ _ t576 t579 _ ?side1 ?side2 A5.out).mono ?_); (case side1 => exact cG (Kd.R_reads' HO578.out).2.2); (case side2 => exact (Kd.R_reads' HO578.out).2.1); rintro e w8 ⟨v580, rfl, ho0, hb⟩; refine ⟨_, rfl, ?_⟩; replace HO578 := rB HO578 hb; replace HO581 := ak (Kd.S_lower ho0 (below_size (lG HB))); replace HB := lB HB hb; (try clear hb); (try clear hk); (try clear ho0)) | ((with_reducible refine gate_dst (N := 4) rfl ?_); refine bx 4 #[.slice none 0 0] 60 ?_; intro gb582 hg w9 hbox hb; replace HO578 := rB HO578 hb; replace HO581 := ak (Kd.S_below (by (with_reducible repeat (first | apply Kd.S_alloc | apply Kd.S_drewN | apply Kd.S_drew)); exact HO581.out) hb); replace BK582 := ak (hbox); replace GE582 := ak (bz hg (lG HB)); replace HB := lB HB hb; clear hb hbox hg; obtain ⟨Ao10, co10, eo10⟩ := Kd.S_slice HO581.out; subst eo10; obtain ⟨hcz11_0, hfz11_0⟩ := bC1 BK582))
  go_loopg [5] k (fun kq v5 w' => ∃ (x5_1 : Int), v5 = .int .i64 x5_1 ∧ Aside0 (laws_FnStates.l0 kq l0 t576 x5_1 t579 = some true) ∧ Aside0 (kq ≤ k) ∧ Aside0 (Kd.R k32 32 w' w.heap.size (fun _ => True) (.slice Ao7 t576.length co7) t576) ∧ Aside0 (Kd.S k66 66 w' w.heap.size (fun _ => True) (.slice Ao10 t579.length co10) t579) ∧ Aside0 (w'.heap[gb582]? = some (.cells #[(.slice Ao10 t579.length co10)] 60 (0, 0))) ∧ Aside0 (Below w.heap.size w w'))
  case atStart => exact ⟨_, rr, H', ⟨Nat.le_refl _⟩, ⟨by exact Kd.R_mono (rT HO578 BK582 (by decide)) (fun _ hk => trivial)⟩, ⟨by (with_reducible repeat (first | apply Kd.S_alloc | apply Kd.S_drewN | apply Kd.S_drew)); exact Kd.S_mono (Kd.S_far (p := ⟨gb582, 0, none⟩) (Kd.S_types HO581.out BK582.out (by decide)) (fun _ hk => hk.2) (.slice Ao10 t579.length co10)) (fun _ hk => trivial)⟩, ⟨bW BK582⟩, ⟨by exact lT HB (gC GE582 gN)⟩⟩
  case round =>
   clear H'
   try clear c2
   try clear p2
   try clear c3
   try clear c8
   try clear hcz11_0
   try clear hfz11_0
   obtain ⟨x5_1, rfl, HA, HK1, HO_3, HO_583000, BK582, HB⟩ := hrel
   cases gk with
   | zero => exact absurd HA.out (by simp [laws_FnStates.l0])
   | succ k1 =>
    have H := HA.out
    clear HA
    simp only [laws_FnStates.l0] at H
    by_cases c12 : x5_1 < (t579.length : Int)
    ·rw [if_pos c12] at H
     have c12b0 := decide_eq_true c12
     clear c12
     by_cases c13 : 0 ≤ x5_1
     ·rw [if_pos c13] at H
      have c13b0 := decide_eq_true c13
      clear c13
      have H' := Aside0.mk H
      clear H
      obtain ⟨hcz14_0, hfz14_0⟩ := bC1 BK582
      have p583 : 0 ≤ (x5_1 : Int) := oda
      have q583 : x5_1 < (t579.length : Int) := oda
      obtain ⟨ad583, A583_4, c583_4, e583, hx583_0, hx583_1, hx583_2, hx583_3, hx583_4, hl583_4, hi583_4⟩ := at_T66 (Kd.S_reads' HO_583000.out).2.2 x5_1 p583 q583
      cases e583
      obtain ⟨ce583, hce583, hMe583, hcc583⟩ := Kd.S_get HO_583000.out z66 x5_1 p583 (by first | exact q583 | exact oda | (have e_ := (Kd.S_reads' HO_583000.out).1; omega))
      obtain ⟨ve583_4, rfl, ge583_4⟩ := k66_openM hMe583
      have hv583_4 := hcc583 4 _ rfl
      rw [add_field _ _ 4 (by omega)] at hv583_4
      replace hv583_4 := Option.some.inj (hv583_4.symm.trans hx583_4)
      rw [hv583_4] at ge583_4
      have HL583_4 := ak (show Kd.R k68 68 _ _ _ _ ((rd_T66 t579 x5_1).f4) from ge583_4)
      clear hv583_4 ge583_4
      clear hcc583 hce583
      have HR583_4 := Aside0.mk hi583_4
      have HC583_4 := Aside0.mk hl583_4
      clear hi583_4 hl583_4
      replace p583 := eq_true p583
      replace q583 := eq_true q583
      go_wp2_with (first | ((with_reducible refine gate_dst (N := 6) rfl ?_); refine bx 6 #[.int .i64 0, .string (⟨#[]⟩ : ByteArray), .string (⟨#[]⟩ : ByteArray), .int .i64 0, .slice none 0 0] 66 ?_; intro gb584 hg w15 hbox hb; replace HO_3 := rB HO_3 hb; replace HO_583000 := ak (Kd.S_below (Kd.S_elderB (by (with_reducible repeat (first | apply Kd.S_alloc | apply Kd.S_drewN | apply Kd.S_drew)); exact HO_583000.out) gb584 (Nat.le_of_eq hg.symm)) hb); replace HL583_4 := ak (Kd.R_below (by (with_reducible repeat (first | apply Kd.R_alloc | apply Kd.R_drewN | apply Kd.R_drew)); exact HL583_4.out) hb); replace HR583_4 := ak (Kd.C_below (by repeat (first | (with_reducible exact HR583_4.out) | (with_reducible refine Kd.C_alloc ?_ _) | (with_reducible refine Kd.C_drewN ?_ _) | (with_reducible refine Kd.C_drew ?_) | exact HR583_4.out)) hb); replace BK584 := ak (hbox); replace GW584 := ak (bz hg (lT HB (gC GE582 gN))); replace GE584 := ak (bz hg (lT HB (gC GE582 gN))); replace HB := ak (below_step (lT HB (gC GE582 gN)) hb); replace NB582_584 := ak (nl hg (bG BK582)); replace NB584_582 := ak (ng hg (bG BK582)); replace BK582 := bB BK582 hb; clear hb hbox hg; have hnb16 := NB584_582.out; have hnc16 := NB582_584.out; obtain ⟨hcz17_0, hcz17_1, hcz17_2, hcz17_3, hcz17_4, hfz17_0, hfz17_1, hfz17_2, hfz17_3, hfz17_4⟩ := bC5 BK584))
      go_loopg [7] k1 (fun kq v7 w' => ∃ (x7_2 : Int), v7 = .int .i64 x7_2 ∧ Aside0 (laws_FnStates.l1 kq l0 t576 x5_1 x7_2 t579 ((rd_T66 t579 x5_1).f0) ((rd_T66 t579 x5_1).f1) ((rd_T66 t579 x5_1).f2) ((rd_T66 t579 x5_1).f3) ((rd_T66 t579 x5_1).f4) = some true) ∧ Aside0 (kq ≤ k1) ∧ Aside0 (Kd.R k32 32 w' w.heap.size (fun _ => True) (.slice Ao7 t576.length co7) t576) ∧ Aside0 (Kd.R k68 68 w' w.heap.size (fun _ => True) (.slice A583_4 ((rd_T66 t579 x5_1).f4).length c583_4) ((rd_T66 t579 x5_1).f4)) ∧ Aside0 (Kd.S k66 66 w' w.heap.size (fun k_ => k_ ≠ gb584) (.slice (some ad583) t579.length co10) t579) ∧ Aside0 (w'.heap[gb582]? = some (.cells #[(.slice (some ad583) t579.length co10)] 60 (0, 0))) ∧ Aside0 (w'.heap[gb584]? = some (.cells #[.int .i64 ((rd_T66 t579 x5_1).f0), .string ((rd_T66 t579 x5_1).f1), .string ((rd_T66 t579 x5_1).f2), .int .i64 ((rd_T66 t579 x5_1).f3), (.slice A583_4 ((rd_T66 t579 x5_1).f4).length c583_4)] 66 (0, 0))) ∧ Aside0 (Below w.heap.size w w'))
      case atStart => exact ⟨_, rr, H', ⟨Nat.le_refl _⟩, ⟨by exact Kd.R_mono (rT HO_3 BK584 (by decide)) (fun _ hk => trivial)⟩, ⟨by exact Kd.R_mono (rT HL583_4 BK584 (by decide)) (fun _ hk => trivial)⟩, ⟨by (with_reducible repeat (first | apply Kd.S_alloc | apply Kd.S_drewN | apply Kd.S_drew)); exact Kd.S_mono (Kd.S_far (p := ⟨gb584, 4, none⟩) (Kd.S_far (p := ⟨gb584, 3, none⟩) (Kd.S_far (p := ⟨gb584, 2, none⟩) (Kd.S_far (p := ⟨gb584, 1, none⟩) (Kd.S_far (p := ⟨gb584, 0, none⟩) (Kd.S_mono HO_583000.out (fun k_ hk => (⟨hk, hk.2⟩ : _ ∧ k_ ≠ gb584))) (fun _ hk => hk.2) (.int .i64 ((rd_T66 t579 x5_1).f0))) (fun _ hk => hk.2) (.string ((rd_T66 t579 x5_1).f1))) (fun _ hk => hk.2) (.string ((rd_T66 t579 x5_1).f2))) (fun _ hk => hk.2) (.int .i64 ((rd_T66 t579 x5_1).f3))) (fun _ hk => hk.2) (.slice A583_4 ((rd_T66 t579 x5_1).f4).length c583_4)) (fun _ hk => hk.1.2)⟩, ⟨bF BK582 (nC NB582_584 nN)⟩, ⟨bW BK584⟩, ⟨by exact lT HB (gC GE582 (gC GE584 gN))⟩⟩
      case round =>
       clear H'
       try clear c1
       try clear c2
       try clear p2
       try clear c3
       try clear c5
       try clear p5
       try clear q5
       try clear hx5
       try clear c8
       try clear c12
       try clear c12b0
       try clear c13
       try clear c13b0
       try clear c16
       try clear hcz11_0
       try clear hcz14_0
       try clear hcz17_0
       try clear hcz17_1
       try clear hcz17_2
       try clear hcz17_3
       try clear hcz17_4
       try clear hfz11_0
       try clear hfz14_0
       try clear hfz17_0
       try clear hfz17_1
       try clear hfz17_2
       try clear hfz17_3
       try clear hfz17_4
       try clear hx583_0
       try clear hx583_1
       try clear hx583_2
       try clear hx583_3
       try clear hx583_4
       try clear p2
       try clear p583
       try clear q583
       obtain ⟨x7_2, rfl, HA, HK2, HO_3, HL583_4, HO_583000, BK582, BK584, HB⟩ := hrel
       cases gk with
       | zero => exact absurd HA.out (by simp [laws_FnStates.l1])
       | succ k2 =>
        have H := HA.out
        clear HA
        simp only [laws_FnStates.l1] at H
        by_cases c18 : x7_2 < (((rd_T66 t579 x5_1).f4).length : Int)
        ·rw [if_pos c18] at H
         have c18b0 := decide_eq_true c18
         clear c18
         have HC19 := Aside0.mk H
         clear H
         have hnb20 := NB584_582.out
         have hnc20 := NB582_584.out
         obtain ⟨_, _, _, _, _, _, _, _, _, _⟩ := bC5 BK584
         go_upto_region 12 with (fail)
         go_cut [72] (fun v72 wc => ∃ (kq : Nat) (x72_18 : Bool), v72 = .bool x72_18 ∧ Aside0 (laws_FnStates.j2 kq l0 t576 x5_1 x7_2 x72_18 t579 ((rd_T66 t579 x5_1).f0) ((rd_T66 t579 x5_1).f1) ((rd_T66 t579 x5_1).f2) ((rd_T66 t579 x5_1).f3) ((rd_T66 t579 x5_1).f4) = some true) ∧ Aside0 (kq ≤ k2) ∧ Aside0 (Kd.R k32 32 wc w.heap.size (fun _ => True) (.slice Ao7 t576.length co7) t576) ∧ Aside0 (Kd.R k68 68 wc w.heap.size (fun _ => True) (.slice A583_4 ((rd_T66 t579 x5_1).f4).length c583_4) ((rd_T66 t579 x5_1).f4)) ∧ Aside0 (Kd.S k66 66 wc w.heap.size (fun k_ => k_ ≠ gb584) (.slice (some ad583) t579.length co10) t579) ∧ Aside0 (wc.heap[gb582]? = some (.cells #[(.slice (some ad583) t579.length co10)] 60 (0, 0))) ∧ Aside0 (wc.heap[gb584]? = some (.cells #[.int .i64 ((rd_T66 t579 x5_1).f0), .string ((rd_T66 t579 x5_1).f1), .string ((rd_T66 t579 x5_1).f2), .int .i64 ((rd_T66 t579 x5_1).f3), (.slice A583_4 ((rd_T66 t579 x5_1).f4).length c583_4)] 66 (0, 0))) ∧ Aside0 (Below w.heap.size w wc))
         case first =>
          have H := HC19.out
          clear HC19
          by_cases c22 : 0 ≤ x7_2
          ·rw [if_pos c22] at H
           have c22b0 := decide_eq_true c22
           clear c22
           (first | rw [c22b0] | (simp only [i64_w, i32_w]; rw [c22b0]) | skip)
           by_cases c23 : ((rd_T68 ((rd_T66 t579 x5_1).f4) x7_2).f0) ≥ ((rd_T66 t579 x5_1).f3)
           ·rw [if_pos c23] at H
            have c23b0 : decide (((rd_T66 t579 x5_1).f3) ≤ ((rd_T68 ((rd_T66 t579 x5_1).f4) x7_2).f0)) = true := decide_eq_true c23
            clear c23
            have H' := Aside0.mk H
            clear H
            try go_wp2
            replace HO_3 := ak (Kd.R_drew HO_3.out)
            replace HL583_4 := ak (Kd.R_drew HL583_4.out)
            replace HO_583000 := ak (Kd.S_drew HO_583000.out)
            replace BK582 := ak (blk_drew BK582.out)
            replace BK584 := ak (blk_drew BK584.out)
            replace HB := ak (below_drew1 HB.out)
            have p585 : 0 ≤ (x7_2 : Int) := oda
            have q585 : x7_2 < (((rd_T66 t579 x5_1).f4).length : Int) := oda
            obtain ⟨ad585, e585, hx585_0, hx585_1, hx585_2⟩ := at_T68 (Kd.R_reads' HL583_4.out).2.2 x7_2 p585 q585
            have hw585_2 := hx585_2
            have hw585_1 := hx585_1
            have hw585_0 := hx585_0
            cases e585
            replace p585 := eq_true p585
            replace q585 := eq_true q585
            refine start_ (n := 29) (S := fun w' => w'.cell? ⟨gb584, 0, none⟩ = some (.int .i64 ((rd_T66 t579 x5_1).f0)) ∧ w'.cell? ⟨gb584, 1, none⟩ = some (.string ((rd_T66 t579 x5_1).f1)) ∧ w'.cell? ⟨gb584, 2, none⟩ = some (.string ((rd_T66 t579 x5_1).f2)) ∧ w'.cell? ⟨gb584, 3, none⟩ = some (.int .i64 ((rd_T66 t579 x5_1).f3)) ∧ w'.cell? ⟨gb584, 4, none⟩ = some (.slice (some ad585) ((rd_T66 t579 x5_1).f4).length c583_4) ∧ w'.cell? (ad585.add ((x7_2).toNat * 3)) = some (.int .i64 ((rd_T68 ((rd_T66 t579 x5_1).f4) x7_2).f0)) ∧ w'.cell? ⟨(ad585.add ((x7_2).toNat * 3)).block, (ad585.add ((x7_2).toNat * 3)).off + 1, none⟩ = some (.int .i64 ((rd_T68 ((rd_T66 t579 x5_1).f4) x7_2).f1)) ∧ w'.cell? ⟨(ad585.add ((x7_2).toNat * 3)).block, (ad585.add ((x7_2).toNat * 3)).off + 2, none⟩ = some (.string ((rd_T68 ((rd_T66 t579 x5_1).f4) x7_2).f2))) (ds := []) (fb 29 0) (by kernel_rfl) rfl rfl ⟨bc BK584 0, bc BK584 1, bc BK584 2, bc BK584 3, bc BK584 4, (hw585_0), (hw585_1), (hw585_2)⟩ (fun hHeld => ?_); refine with_tabW laws_FnStates.tab12 laws_FnStates.bits12 (fun HT_ HW_ => ?_)
            generalize wr.drew = w24 at HO_3 HL583_4 HO_583000 BK582 BK584 HB hx585_0 hx585_1 hx585_2 hHeld ⊢
            refine pu 0 44 (fb 29 1) HT_ ?_
            refine pu 2 46 (fb 29 5) HT_ ?_
            refine pu 6 50 (fb 29 69) HT_ ?_
            refine tk 1 45 (fb 29 71) HT_ HW_ hHeld ?_
            refine pu 3 47 (fb 29 79) HT_ ?_
            refine pu 4 48 (fb 29 95) HT_ ?_
            refine tk 5 49 (fb 29 127) HT_ HW_ hHeld ?_
            refine tk 7 51 (fb 29 255) HT_ HW_ hHeld ?_
            refine pu 8 52 (fb 29 511) HT_ ?_
            refine pu 9 53 (fb 29 1023) HT_ ?_
            refine pn 10 54 (fb 29 2047) HT_ ?_
            refine pn 11 55 (fb 29 4095) HT_ ?_
            refine pn 12 56 (fb 29 8191) HT_ ?_
            refine pn 13 57 (fb 29 16383) HT_ ?_
            refine pn 14 58 (fb 29 32767) HT_ ?_
            refine pn 15 59 (fb 29 65535) HT_ ?_
            refine pn 16 60 (fb 29 131071) HT_ ?_
            refine pn 17 61 (fb 29 262143) HT_ ?_
            refine pn 18 62 (fb 29 524287) HT_ ?_
            refine pn 19 63 (fb 29 1048575) HT_ ?_
            refine pn 20 64 (fb 29 2097151) HT_ ?_
            refine pn 21 65 (fb 29 4194303) HT_ ?_
            refine pn 22 66 (fb 29 8388607) HT_ ?_
            refine pn 23 67 (fb 29 16777215) HT_ ?_
            refine pn 24 68 (fb 29 33554431) HT_ ?_
            refine pn 25 69 (fb 29 67108863) HT_ ?_
            refine pn 26 70 (fb 29 134217727) HT_ ?_
            refine pn 27 71 (fb 29 268435455) HT_ ?_
            refine pu 28 72 (fb 29 536870911) HT_ ?_
            refine done_ (done_of HT_.out (by kernel_rfl)) ?_
            try go_wp2
            go_meet
            case rel => exact ⟨_, _, rr, H', ⟨by have := HK1.out; have := HK2.out; first | omega | exact Nat.le_refl _⟩, ⟨by (with_reducible repeat (first | apply Kd.R_alloc | apply Kd.R_drewN | apply Kd.R_drew)); exact HO_3.out⟩, ⟨by (with_reducible repeat (first | apply Kd.R_alloc | apply Kd.R_drewN | apply Kd.R_drew)); exact HL583_4.out⟩, ⟨by (with_reducible repeat (first | apply Kd.S_alloc | apply Kd.S_drewN | apply Kd.S_drew)); exact HO_583000.out⟩, ⟨bG BK582⟩, ⟨bG BK584⟩, ⟨by exact lT HB (gC GE582 (gC GE584 gN))⟩⟩
           ·rw [if_neg c23] at H
            have c23b0 : decide (((rd_T66 t579 x5_1).f3) ≤ ((rd_T68 ((rd_T66 t579 x5_1).f4) x7_2).f0)) = false := decide_eq_false c23
            clear c23
            by_cases c25 : x7_2 > 0
            ·rw [if_pos c25] at H
             have c25b0 : decide (0 < x7_2) = true := decide_eq_true c25
             clear c25
             obtain ⟨ji26, hji26⟩ : ∃ j_ : Int, (wrap64 (x7_2 - 1)) = j_ := ⟨_, rfl⟩
             replace H : (if 0 ≤ (ji26) then (if (ji26) < (((rd_T66 t579 x5_1).f4).length : Int) then (laws_FnStates.j2 k2 l0 t576 x5_1 x7_2 (decide (((rd_T68 ((rd_T66 t579 x5_1).f4) (ji26)).f0) ≥ ((rd_T68 ((rd_T66 t579 x5_1).f4) x7_2).f0))) t579 ((rd_T66 t579 x5_1).f0) ((rd_T66 t579 x5_1).f1) ((rd_T66 t579 x5_1).f2) ((rd_T66 t579 x5_1).f3) ((rd_T66 t579 x5_1).f4)) else (none)) else (none)) = some true := by first | (rw [hji26] at H; exact H) | (simp only [hji26] at H ⊢; exact H)
             have hji26w : (IntKind.i64.wrap (x7_2 - 1)) = ji26 := (i64_w _).trans hji26
             by_cases c27 : 0 ≤ (ji26)
             ·rw [if_pos c27] at H
              have c27b0 := decide_eq_true c27
              clear c27
              by_cases c28 : (ji26) < (((rd_T66 t579 x5_1).f4).length : Int)
              ·rw [if_pos c28] at H
               have c28b0 := decide_eq_true c28
               clear c28
               have H' := Aside0.mk H
               clear H
               try go_wp2
               replace HO_3 := ak (Kd.R_drew HO_3.out)
               replace HL583_4 := ak (Kd.R_drew HL583_4.out)
               replace HO_583000 := ak (Kd.S_drew HO_583000.out)
               replace BK582 := ak (blk_drew BK582.out)
               replace BK584 := ak (blk_drew BK584.out)
               replace HB := ak (below_drew1 HB.out)
               have p585 : 0 ≤ (x7_2 : Int) := oda
               have q585 : x7_2 < (((rd_T66 t579 x5_1).f4).length : Int) := oda
               obtain ⟨ad585, e585, hx585_0, hx585_1, hx585_2⟩ := at_T68 (Kd.R_reads' HL583_4.out).2.2 x7_2 p585 q585
               have hw585_2 := hx585_2
               have hw585_1 := hx585_1
               have hw585_0 := hx585_0
               cases e585
               replace p585 := eq_true p585
               replace q585 := eq_true q585
               have p586 : 0 ≤ ((ji26) : Int) := oda
               have q586 : (ji26) < (((rd_T66 t579 x5_1).f4).length : Int) := oda
               obtain ⟨ad586, e586, hx586_0, hx586_1, hx586_2⟩ := at_T68 (Kd.R_reads' HL583_4.out).2.2 (ji26) p586 q586
               have hw586_2 := hx586_2
               have hw586_1 := hx586_1
               have hw586_0 := hx586_0
               obtain rfl : ad585 = ad586 := (by injection e586)
               replace p586 := eq_true p586
               replace q586 := eq_true q586
               have p587 : 0 ≤ (x7_2 : Int) := oda
               have q587 : x7_2 < (((rd_T66 t579 x5_1).f4).length : Int) := oda
               obtain ⟨ad587, e587, hx587_0, hx587_1, hx587_2⟩ := at_T68 (Kd.R_reads' HL583_4.out).2.2 x7_2 p587 q587
               have hw587_2 := hx587_2
               have hw587_1 := hx587_1
               have hw587_0 := hx587_0
               obtain rfl : ad585 = ad587 := (by injection e587)
               replace p587 := eq_true p587
               replace q587 := eq_true q587
               refine start_ (n := 29) (S := fun w' => w'.cell? ⟨gb584, 0, none⟩ = some (.int .i64 ((rd_T66 t579 x5_1).f0)) ∧ w'.cell? ⟨gb584, 1, none⟩ = some (.string ((rd_T66 t579 x5_1).f1)) ∧ w'.cell? ⟨gb584, 2, none⟩ = some (.string ((rd_T66 t579 x5_1).f2)) ∧ w'.cell? ⟨gb584, 3, none⟩ = some (.int .i64 ((rd_T66 t579 x5_1).f3)) ∧ w'.cell? ⟨gb584, 4, none⟩ = some (.slice (some ad585) ((rd_T66 t579 x5_1).f4).length c583_4) ∧ w'.cell? (ad585.add ((x7_2).toNat * 3)) = some (.int .i64 ((rd_T68 ((rd_T66 t579 x5_1).f4) x7_2).f0)) ∧ w'.cell? ⟨(ad585.add ((x7_2).toNat * 3)).block, (ad585.add ((x7_2).toNat * 3)).off + 1, none⟩ = some (.int .i64 ((rd_T68 ((rd_T66 t579 x5_1).f4) x7_2).f1)) ∧ w'.cell? ⟨(ad585.add ((x7_2).toNat * 3)).block, (ad585.add ((x7_2).toNat * 3)).off + 2, none⟩ = some (.string ((rd_T68 ((rd_T66 t579 x5_1).f4) x7_2).f2)) ∧ w'.cell? (ad585.add (((ji26)).toNat * 3)) = some (.int .i64 ((rd_T68 ((rd_T66 t579 x5_1).f4) (ji26)).f0)) ∧ w'.cell? ⟨(ad585.add (((ji26)).toNat * 3)).block, (ad585.add (((ji26)).toNat * 3)).off + 1, none⟩ = some (.int .i64 ((rd_T68 ((rd_T66 t579 x5_1).f4) (ji26)).f1)) ∧ w'.cell? ⟨(ad585.add (((ji26)).toNat * 3)).block, (ad585.add (((ji26)).toNat * 3)).off + 2, none⟩ = some (.string ((rd_T68 ((rd_T66 t579 x5_1).f4) (ji26)).f2)) ∧ w'.cell? (ad585.add ((x7_2).toNat * 3)) = some (.int .i64 ((rd_T68 ((rd_T66 t579 x5_1).f4) x7_2).f0)) ∧ w'.cell? ⟨(ad585.add ((x7_2).toNat * 3)).block, (ad585.add ((x7_2).toNat * 3)).off + 1, none⟩ = some (.int .i64 ((rd_T68 ((rd_T66 t579 x5_1).f4) x7_2).f1)) ∧ w'.cell? ⟨(ad585.add ((x7_2).toNat * 3)).block, (ad585.add ((x7_2).toNat * 3)).off + 2, none⟩ = some (.string ((rd_T68 ((rd_T66 t579 x5_1).f4) x7_2).f2))) (ds := []) (fb 29 0) (by kernel_rfl) rfl rfl ⟨bc BK584 0, bc BK584 1, bc BK584 2, bc BK584 3, bc BK584 4, (hw585_0), (hw585_1), (hw585_2), (hw586_0), (hw586_1), (hw586_2), (hw587_0), (hw587_1), (hw587_2)⟩ (fun hHeld => ?_); refine with_tabW laws_FnStates.tab12 laws_FnStates.bits12 (fun HT_ HW_ => ?_)
               generalize wr.drew = w29 at HO_3 HL583_4 HO_583000 BK582 BK584 HB hx585_0 hx585_1 hx585_2 hx586_0 hx586_1 hx586_2 hx587_0 hx587_1 hx587_2 hHeld ⊢
               refine pu 0 44 (fb 29 1) HT_ ?_
               refine pu 2 46 (fb 29 5) HT_ ?_
               refine pu 6 50 (fb 29 69) HT_ ?_
               refine tk 1 45 (fb 29 71) HT_ HW_ hHeld ?_
               refine pu 3 47 (fb 29 79) HT_ ?_
               refine pu 4 48 (fb 29 95) HT_ ?_
               refine tk 5 49 (fb 29 127) HT_ HW_ hHeld ?_
               refine tk 7 51 (fb 29 255) HT_ HW_ hHeld ?_
               refine pu 8 52 (fb 29 511) HT_ ?_
               refine pu 9 53 (fb 29 1023) HT_ ?_
               refine pu 10 54 (fb 29 2047) HT_ ?_
               refine pu 11 55 (fb 29 4095) HT_ ?_
               refine pu 12 56 (fb 29 8191) HT_ ?_
               refine pu 13 57 (fb 29 16383) HT_ ?_
               refine pu 15 59 (fb 29 49151) HT_ ?_
               refine pu 16 60 (fb 29 114687) HT_ ?_
               refine pu 20 64 (fb 29 1163263) HT_ ?_
               refine pu 22 66 (fb 29 5357567) HT_ ?_
               refine tk 14 58 (fb 29 5373951) HT_ HW_ hHeld ?_
               refine pu 17 61 (fb 29 5505023) HT_ ?_
               refine pu 18 62 (fb 29 5767167) HT_ ?_
               refine tk 19 63 (fb 29 6291455) HT_ HW_ hHeld ?_
               refine tk 21 65 (fb 29 8388607) HT_ HW_ hHeld ?_
               refine pu 23 67 (fb 29 16777215) HT_ ?_
               refine pu 24 68 (fb 29 33554431) HT_ ?_
               refine tk 25 69 (fb 29 67108863) HT_ HW_ hHeld ?_
               refine pu 26 70 (fb 29 134217727) HT_ ?_
               refine pu 27 71 (fb 29 268435455) HT_ ?_
               refine pu 28 72 (fb 29 536870911) HT_ ?_
               refine done_ (done_of HT_.out (by kernel_rfl)) ?_
               try go_wp2
               go_meet
               case rel => exact ⟨_, (decide (((rd_T68 ((rd_T66 t579 x5_1).f4) (ji26)).f0) ≥ ((rd_T68 ((rd_T66 t579 x5_1).f4) x7_2).f0))), (by first | rfl | (simp; done) | (simp only [← hji26] <;> (first | rfl | simp)) | (simp [*]; done)), H', ⟨by have := HK1.out; have := HK2.out; first | omega | exact Nat.le_refl _⟩, ⟨by (with_reducible repeat (first | apply Kd.R_alloc | apply Kd.R_drewN | apply Kd.R_drew)); exact HO_3.out⟩, ⟨by (with_reducible repeat (first | apply Kd.R_alloc | apply Kd.R_drewN | apply Kd.R_drew)); exact HL583_4.out⟩, ⟨by (with_reducible repeat (first | apply Kd.S_alloc | apply Kd.S_drewN | apply Kd.S_drew)); exact HO_583000.out⟩, ⟨bG BK582⟩, ⟨bG BK584⟩, ⟨by exact lT HB (gC GE582 (gC GE584 gN))⟩⟩
              ·rw [if_neg c28] at H
               exact absurd H (by simp)
             ·rw [if_neg c27] at H
              exact absurd H (by simp)
            ·rw [if_neg c25] at H
             have c25b0 : decide (0 < x7_2) = false := decide_eq_false c25
             clear c25
             have H' := Aside0.mk H
             clear H
             try go_wp2
             replace HO_3 := ak (Kd.R_drew HO_3.out)
             replace HL583_4 := ak (Kd.R_drew HL583_4.out)
             replace HO_583000 := ak (Kd.S_drew HO_583000.out)
             replace BK582 := ak (blk_drew BK582.out)
             replace BK584 := ak (blk_drew BK584.out)
             replace HB := ak (below_drew1 HB.out)
             have p585 : 0 ≤ (x7_2 : Int) := oda
             have q585 : x7_2 < (((rd_T66 t579 x5_1).f4).length : Int) := oda
             obtain ⟨ad585, e585, hx585_0, hx585_1, hx585_2⟩ := at_T68 (Kd.R_reads' HL583_4.out).2.2 x7_2 p585 q585
             have hw585_2 := hx585_2
             have hw585_1 := hx585_1
             have hw585_0 := hx585_0
             cases e585
             replace p585 := eq_true p585
             replace q585 := eq_true q585
             refine start_ (n := 29) (S := fun w' => w'.cell? ⟨gb584, 0, none⟩ = some (.int .i64 ((rd_T66 t579 x5_1).f0)) ∧ w'.cell? ⟨gb584, 1, none⟩ = some (.string ((rd_T66 t579 x5_1).f1)) ∧ w'.cell? ⟨gb584, 2, none⟩ = some (.string ((rd_T66 t579 x5_1).f2)) ∧ w'.cell? ⟨gb584, 3, none⟩ = some (.int .i64 ((rd_T66 t579 x5_1).f3)) ∧ w'.cell? ⟨gb584, 4, none⟩ = some (.slice (some ad585) ((rd_T66 t579 x5_1).f4).length c583_4) ∧ w'.cell? (ad585.add ((x7_2).toNat * 3)) = some (.int .i64 ((rd_T68 ((rd_T66 t579 x5_1).f4) x7_2).f0)) ∧ w'.cell? ⟨(ad585.add ((x7_2).toNat * 3)).block, (ad585.add ((x7_2).toNat * 3)).off + 1, none⟩ = some (.int .i64 ((rd_T68 ((rd_T66 t579 x5_1).f4) x7_2).f1)) ∧ w'.cell? ⟨(ad585.add ((x7_2).toNat * 3)).block, (ad585.add ((x7_2).toNat * 3)).off + 2, none⟩ = some (.string ((rd_T68 ((rd_T66 t579 x5_1).f4) x7_2).f2))) (ds := []) (fb 29 0) (by kernel_rfl) rfl rfl ⟨bc BK584 0, bc BK584 1, bc BK584 2, bc BK584 3, bc BK584 4, (hw585_0), (hw585_1), (hw585_2)⟩ (fun hHeld => ?_); refine with_tabW laws_FnStates.tab12 laws_FnStates.bits12 (fun HT_ HW_ => ?_)
             generalize wr.drew = w30 at HO_3 HL583_4 HO_583000 BK582 BK584 HB hx585_0 hx585_1 hx585_2 hHeld ⊢
             refine pu 0 44 (fb 29 1) HT_ ?_
             refine pu 2 46 (fb 29 5) HT_ ?_
             refine pu 6 50 (fb 29 69) HT_ ?_
             refine tk 1 45 (fb 29 71) HT_ HW_ hHeld ?_
             refine pu 3 47 (fb 29 79) HT_ ?_
             refine pu 4 48 (fb 29 95) HT_ ?_
             refine tk 5 49 (fb 29 127) HT_ HW_ hHeld ?_
             refine tk 7 51 (fb 29 255) HT_ HW_ hHeld ?_
             refine pu 8 52 (fb 29 511) HT_ ?_
             refine pu 9 53 (fb 29 1023) HT_ ?_
             refine pu 10 54 (fb 29 2047) HT_ ?_
             refine pu 11 55 (fb 29 4095) HT_ ?_
             refine pu 12 56 (fb 29 8191) HT_ ?_
             refine pn 13 57 (fb 29 16383) HT_ ?_
             refine pn 14 58 (fb 29 32767) HT_ ?_
             refine pn 15 59 (fb 29 65535) HT_ ?_
             refine pn 16 60 (fb 29 131071) HT_ ?_
             refine pn 17 61 (fb 29 262143) HT_ ?_
             refine pn 18 62 (fb 29 524287) HT_ ?_
             refine pn 19 63 (fb 29 1048575) HT_ ?_
             refine pn 20 64 (fb 29 2097151) HT_ ?_
             refine pn 21 65 (fb 29 4194303) HT_ ?_
             refine pn 22 66 (fb 29 8388607) HT_ ?_
             refine pn 23 67 (fb 29 16777215) HT_ ?_
             refine pn 24 68 (fb 29 33554431) HT_ ?_
             refine pn 25 69 (fb 29 67108863) HT_ ?_
             refine pn 26 70 (fb 29 134217727) HT_ ?_
             refine pu 27 71 (fb 29 268435455) HT_ ?_
             refine pu 28 72 (fb 29 536870911) HT_ ?_
             refine done_ (done_of HT_.out (by kernel_rfl)) ?_
             try go_wp2
             go_meet
             case rel => exact ⟨_, _, rr, H', ⟨by have := HK1.out; have := HK2.out; first | omega | exact Nat.le_refl _⟩, ⟨by (with_reducible repeat (first | apply Kd.R_alloc | apply Kd.R_drewN | apply Kd.R_drew)); exact HO_3.out⟩, ⟨by (with_reducible repeat (first | apply Kd.R_alloc | apply Kd.R_drewN | apply Kd.R_drew)); exact HL583_4.out⟩, ⟨by (with_reducible repeat (first | apply Kd.S_alloc | apply Kd.S_drewN | apply Kd.S_drew)); exact HO_583000.out⟩, ⟨bG BK582⟩, ⟨bG BK584⟩, ⟨by exact lT HB (gC GE582 (gC GE584 gN))⟩⟩
          ·rw [if_neg c22] at H
           exact absurd H (by simp)
         case rest =>
          clear HC19
          try clear c2
          try clear p2
          try clear c5
          try clear p5
          try clear q5
          try clear hx5
          try clear p6
          try clear c22
          try clear c23
          try clear c23b0
          try clear c25
          try clear c25b0
          try clear c27
          try clear c27b0
          try clear c28
          try clear c28b0
          try clear hx585_0
          try clear hx585_1
          try clear hx585_2
          try clear hx586_0
          try clear hx586_1
          try clear hx586_2
          try clear hx587_0
          try clear hx587_1
          try clear hx587_2
          try clear p585
          try clear p586
          try clear p587
          try clear q585
          try clear q586
          try clear q587
          obtain ⟨kq, x72_18, rfl, HA, HJ18, HO_3, HL583_4, HO_583000, BK582, BK584, HB⟩ := hcut
          cases kq with
          | zero => exact absurd HA.out (by simp [laws_FnStates.j2])
          | succ kj18 =>
           have H := HA.out
           clear HA
           simp only [laws_FnStates.j2] at H
           by_cases c31 : x72_18 = true
           ·subst c31
            have H1 : (some false) = some true := by rw [if_pos rfl] at H; exact H
            exact absurd H1 (by simp)
           ·replace c31 := Bool.eq_false_iff.mpr c31
            subst c31
            rw [if_neg (show ¬ (false = true) by decide)] at H
            have H' := Aside0.mk H
            clear H
            go_wp2
            go_loopg [8] kj18 (fun kq v8 w' => ∃ (x8_4 : Int), v8 = .int .i64 x8_4 ∧ Aside0 (laws_FnStates.l2 kq l0 t576 x5_1 x7_2 x8_4 t579 ((rd_T66 t579 x5_1).f0) ((rd_T66 t579 x5_1).f1) ((rd_T66 t579 x5_1).f2) ((rd_T66 t579 x5_1).f3) ((rd_T66 t579 x5_1).f4) = some true) ∧ Aside0 (kq ≤ kj18) ∧ Aside0 (Kd.R k32 32 w' w.heap.size (fun _ => True) (.slice Ao7 t576.length co7) t576) ∧ Aside0 (Kd.R k68 68 w' w.heap.size (fun _ => True) (.slice A583_4 ((rd_T66 t579 x5_1).f4).length c583_4) ((rd_T66 t579 x5_1).f4)) ∧ Aside0 (Kd.S k66 66 w' w.heap.size (fun k_ => k_ ≠ gb584) (.slice (some ad583) t579.length co10) t579) ∧ Aside0 (w'.heap[gb582]? = some (.cells #[(.slice (some ad583) t579.length co10)] 60 (0, 0))) ∧ Aside0 (w'.heap[gb584]? = some (.cells #[.int .i64 ((rd_T66 t579 x5_1).f0), .string ((rd_T66 t579 x5_1).f1), .string ((rd_T66 t579 x5_1).f2), .int .i64 ((rd_T66 t579 x5_1).f3), (.slice A583_4 ((rd_T66 t579 x5_1).f4).length c583_4)] 66 (0, 0))) ∧ Aside0 (Below w.heap.size w w'))
            case atStart => exact ⟨_, rr, H', ⟨Nat.le_refl _⟩, ⟨by (with_reducible repeat (first | apply Kd.R_alloc | apply Kd.R_drewN | apply Kd.R_drew)); exact HO_3.out⟩, ⟨by (with_reducible repeat (first | apply Kd.R_alloc | apply Kd.R_drewN | apply Kd.R_drew)); exact HL583_4.out⟩, ⟨by (with_reducible repeat (first | apply Kd.S_alloc | apply Kd.S_drewN | apply Kd.S_drew)); exact HO_583000.out⟩, ⟨bG BK582⟩, ⟨bG BK584⟩, ⟨by exact lT HB (gC GE582 (gC GE584 gN))⟩⟩
            case round =>
             clear H'
             try clear c2
             try clear p2
             try clear c3
             try clear c5
             try clear p5
             try clear q5
             try clear hx5
             try clear p6
             try clear c22
             try clear c23
             try clear c23b0
             try clear c25
             try clear c25b0
             try clear c27
             try clear c27b0
             try clear c28
             try clear c28b0
             try clear c31
             try clear hx585_0
             try clear hx585_1
             try clear hx585_2
             try clear hx586_0
             try clear hx586_1
             try clear hx586_2
             try clear hx587_0
             try clear hx587_1
             try clear hx587_2
             try clear p2
             try clear p5
             try clear p585
             try clear p586
             try clear p587
             try clear p6
             try clear q5
             try clear q585
             try clear q586
             try clear q587
             obtain ⟨x8_4, rfl, HA, HK4, HO_3, HL583_4, HO_583000, BK582, BK584, HB⟩ := hrel
             cases gk with
             | zero => exact absurd HA.out (by simp [laws_FnStates.l2])
             | succ k4 =>
              have H := HA.out
              clear HA
              simp only [laws_FnStates.l2] at H
              by_cases c32 : x8_4 < (t576.length : Int)
              ·rw [if_pos c32] at H
               have c32b0 := decide_eq_true c32
               clear c32
               by_cases c33 : 0 ≤ x8_4
               ·rw [if_pos c33] at H
                have c33b0 := decide_eq_true c33
                clear c33
                by_cases c34 : ((rd_T32 t576 x8_4).f1.f0) = 5
                ·rw [if_pos c34] at H
                 have c34b0 := beq_iff_eq.mpr c34
                 have c34b1 := bne_eq_false_iff_eq.mpr c34
                 clear c34
                 by_cases c35 : ((rd_T32 t576 x8_4).f1.f1) = ((rd_T66 t579 x5_1).f0)
                 ·rw [if_pos c35] at H
                  have c35b0 := beq_iff_eq.mpr c35
                  have c35b1 := bne_eq_false_iff_eq.mpr c35
                  clear c35
                  by_cases c36 : 0 ≤ x7_2
                  ·rw [if_pos c36] at H
                   have c36b0 := decide_eq_true c36
                   clear c36
                   by_cases c37 : x7_2 < (((rd_T66 t579 x5_1).f4).length : Int)
                   ·rw [if_pos c37] at H
                    have c37b0 := decide_eq_true c37
                    clear c37
                    by_cases c38 : ((rd_T32 t576 x8_4).f1.f2) = ((rd_T68 ((rd_T66 t579 x5_1).f4) x7_2).f0)
                    ·rw [if_pos c38] at H
                     have c38b0 := beq_iff_eq.mpr c38
                     have c38b1 := bne_eq_false_iff_eq.mpr c38
                     clear c38
                     exact absurd H (by simp)
                    ·rw [if_neg c38] at H
                     have c38b0 := beq_eq_false_iff_ne.mpr c38
                     have c38b1 := bne_iff_ne.mpr c38
                     have H' := Aside0.mk H
                     clear H
                     have p588 : 0 ≤ (x8_4 : Int) := oda
                     have q588 : x8_4 < (t576.length : Int) := oda
                     obtain ⟨ad588, e588, hx588_0, hx588_1, hx588_2, hx588_3, hx588_4, hx588_5, hx588_6, hx588_7, hx588_8⟩ := at_T32 (Kd.R_reads' HO_3.out).2.2 x8_4 p588 q588
                     cases e588
                     replace p588 := eq_true p588
                     replace q588 := eq_true q588
                     try go_wp2_with (first | ((with_reducible refine gate_dst (N := 9) rfl ?_); refine bx 9 #[.int .i64 0, .int .i64 0, .int .i64 0, .int .i64 0, .int .i64 0, .string (⟨#[]⟩ : ByteArray), .string (⟨#[]⟩ : ByteArray), .string (⟨#[]⟩ : ByteArray)] 23 ?_; intro gb589 hg w45 hbox hb; replace HO_3 := rB HO_3 hb; replace HL583_4 := rB HL583_4 hb; replace HO_583000 := ak (Kd.S_below (by (with_reducible repeat (first | apply Kd.S_alloc | apply Kd.S_drewN | apply Kd.S_drew)); exact HO_583000.out) hb); replace BK589 := ak (hbox); replace GW589 := ak (bz hg (lT HB (gC GE582 (gC GE584 gN)))); replace GE589 := ak (bz hg (lT HB (gC GE582 (gC GE584 gN)))); replace HB := ak (below_step (lT HB (gC GE582 (gC GE584 gN))) hb); replace NB582_589 := ak (nl hg (bG BK582)); replace NB589_582 := ak (ng hg (bG BK582)); replace BK582 := bB BK582 hb; replace NB584_589 := ak (nl hg (bG BK584)); replace NB589_584 := ak (ng hg (bG BK584)); replace BK584 := bB BK584 hb; clear hb hbox hg; have hnb46 := NB589_582.out; have hnc46 := NB582_589.out; have hnb47 := NB589_584.out; have hnc47 := NB584_589.out; obtain ⟨_, _, _, _, _, _, _, _, _, _, _, _, _, _, _, _⟩ := bC8 BK589))
                     have n0_ : Aside0 (Kd.R k32 32 ((((((((w45.setCell ⟨gb589, 0, none⟩ (.int .i64 ((rd_T32 t576 x8_4).f1.f0))).setCell ⟨gb589, 1, none⟩ (.int .i64 ((rd_T32 t576 x8_4).f1.f1))).setCell ⟨gb589, 2, none⟩ (.int .i64 ((rd_T32 t576 x8_4).f1.f2))).setCell ⟨gb589, 3, none⟩ (.int .i64 ((rd_T32 t576 x8_4).f1.f3))).setCell ⟨gb589, 4, none⟩ (.int .i64 ((rd_T32 t576 x8_4).f1.f4))).setCell ⟨gb589, 5, none⟩ (.string ((rd_T32 t576 x8_4).f1.f5))).setCell ⟨gb589, 6, none⟩ (.string ((rd_T32 t576 x8_4).f1.f6))).setCell ⟨gb589, 7, none⟩ (.string ((rd_T32 t576 x8_4).f1.f7))) w.heap.size (fun _ => True) (.slice (some ad588) t576.length co7) t576) := ⟨by exact Kd.R_mono (rT HO_3 BK589 (by decide)) (fun _ hk => trivial)⟩
                     have nL_ : Aside0 (Kd.R k68 68 ((((((((w45.setCell ⟨gb589, 0, none⟩ (.int .i64 ((rd_T32 t576 x8_4).f1.f0))).setCell ⟨gb589, 1, none⟩ (.int .i64 ((rd_T32 t576 x8_4).f1.f1))).setCell ⟨gb589, 2, none⟩ (.int .i64 ((rd_T32 t576 x8_4).f1.f2))).setCell ⟨gb589, 3, none⟩ (.int .i64 ((rd_T32 t576 x8_4).f1.f3))).setCell ⟨gb589, 4, none⟩ (.int .i64 ((rd_T32 t576 x8_4).f1.f4))).setCell ⟨gb589, 5, none⟩ (.string ((rd_T32 t576 x8_4).f1.f5))).setCell ⟨gb589, 6, none⟩ (.string ((rd_T32 t576 x8_4).f1.f6))).setCell ⟨gb589, 7, none⟩ (.string ((rd_T32 t576 x8_4).f1.f7))) w.heap.size (fun _ => True) (.slice A583_4 ((rd_T66 t579 x5_1).f4).length c583_4) ((rd_T66 t579 x5_1).f4)) := ⟨by exact Kd.R_mono (rT HL583_4 BK589 (by decide)) (fun _ hk => trivial)⟩
                     have n1_ : Aside0 (Kd.S k66 66 ((((((((w45.setCell ⟨gb589, 0, none⟩ (.int .i64 ((rd_T32 t576 x8_4).f1.f0))).setCell ⟨gb589, 1, none⟩ (.int .i64 ((rd_T32 t576 x8_4).f1.f1))).setCell ⟨gb589, 2, none⟩ (.int .i64 ((rd_T32 t576 x8_4).f1.f2))).setCell ⟨gb589, 3, none⟩ (.int .i64 ((rd_T32 t576 x8_4).f1.f3))).setCell ⟨gb589, 4, none⟩ (.int .i64 ((rd_T32 t576 x8_4).f1.f4))).setCell ⟨gb589, 5, none⟩ (.string ((rd_T32 t576 x8_4).f1.f5))).setCell ⟨gb589, 6, none⟩ (.string ((rd_T32 t576 x8_4).f1.f6))).setCell ⟨gb589, 7, none⟩ (.string ((rd_T32 t576 x8_4).f1.f7))) w.heap.size (fun k_ => k_ ≠ gb584) (.slice (some ad583) t579.length co10) t579) := ⟨by (with_reducible repeat (first | apply Kd.S_alloc | apply Kd.S_drewN | apply Kd.S_drew)); exact Kd.S_mono (Kd.S_far (p := ⟨gb589, 7, none⟩) (Kd.S_far (p := ⟨gb589, 6, none⟩) (Kd.S_far (p := ⟨gb589, 5, none⟩) (Kd.S_far (p := ⟨gb589, 4, none⟩) (Kd.S_far (p := ⟨gb589, 3, none⟩) (Kd.S_far (p := ⟨gb589, 2, none⟩) (Kd.S_far (p := ⟨gb589, 1, none⟩) (Kd.S_far (p := ⟨gb589, 0, none⟩) (Kd.S_types HO_583000.out BK589.out (by decide)) (fun _ hk => hk.2) (.int .i64 ((rd_T32 t576 x8_4).f1.f0))) (fun _ hk => hk.2) (.int .i64 ((rd_T32 t576 x8_4).f1.f1))) (fun _ hk => hk.2) (.int .i64 ((rd_T32 t576 x8_4).f1.f2))) (fun _ hk => hk.2) (.int .i64 ((rd_T32 t576 x8_4).f1.f3))) (fun _ hk => hk.2) (.int .i64 ((rd_T32 t576 x8_4).f1.f4))) (fun _ hk => hk.2) (.string ((rd_T32 t576 x8_4).f1.f5))) (fun _ hk => hk.2) (.string ((rd_T32 t576 x8_4).f1.f6))) (fun _ hk => hk.2) (.string ((rd_T32 t576 x8_4).f1.f7))) (fun _ hk => hk.1)⟩
                     have n2_ : Aside0 (((((((((w45.setCell ⟨gb589, 0, none⟩ (.int .i64 ((rd_T32 t576 x8_4).f1.f0))).setCell ⟨gb589, 1, none⟩ (.int .i64 ((rd_T32 t576 x8_4).f1.f1))).setCell ⟨gb589, 2, none⟩ (.int .i64 ((rd_T32 t576 x8_4).f1.f2))).setCell ⟨gb589, 3, none⟩ (.int .i64 ((rd_T32 t576 x8_4).f1.f3))).setCell ⟨gb589, 4, none⟩ (.int .i64 ((rd_T32 t576 x8_4).f1.f4))).setCell ⟨gb589, 5, none⟩ (.string ((rd_T32 t576 x8_4).f1.f5))).setCell ⟨gb589, 6, none⟩ (.string ((rd_T32 t576 x8_4).f1.f6))).setCell ⟨gb589, 7, none⟩ (.string ((rd_T32 t576 x8_4).f1.f7))).heap[gb582]? = some (.cells #[.slice (some ad583) t579.length co10] 60 (0, 0))) := ⟨bF BK582 (nC NB582_589 nN)⟩
                     have n3_ : Aside0 (((((((((w45.setCell ⟨gb589, 0, none⟩ (.int .i64 ((rd_T32 t576 x8_4).f1.f0))).setCell ⟨gb589, 1, none⟩ (.int .i64 ((rd_T32 t576 x8_4).f1.f1))).setCell ⟨gb589, 2, none⟩ (.int .i64 ((rd_T32 t576 x8_4).f1.f2))).setCell ⟨gb589, 3, none⟩ (.int .i64 ((rd_T32 t576 x8_4).f1.f3))).setCell ⟨gb589, 4, none⟩ (.int .i64 ((rd_T32 t576 x8_4).f1.f4))).setCell ⟨gb589, 5, none⟩ (.string ((rd_T32 t576 x8_4).f1.f5))).setCell ⟨gb589, 6, none⟩ (.string ((rd_T32 t576 x8_4).f1.f6))).setCell ⟨gb589, 7, none⟩ (.string ((rd_T32 t576 x8_4).f1.f7))).heap[gb584]? = some (.cells #[.int .i64 ((rd_T66 t579 x5_1).f0), .string ((rd_T66 t579 x5_1).f1), .string ((rd_T66 t579 x5_1).f2), .int .i64 ((rd_T66 t579 x5_1).f3), .slice A583_4 ((rd_T66 t579 x5_1).f4).length c583_4] 66 (0, 0))) := ⟨bF BK584 (nC NB584_589 nN)⟩
                     have n4_ : Aside0 (((((((((w45.setCell ⟨gb589, 0, none⟩ (.int .i64 ((rd_T32 t576 x8_4).f1.f0))).setCell ⟨gb589, 1, none⟩ (.int .i64 ((rd_T32 t576 x8_4).f1.f1))).setCell ⟨gb589, 2, none⟩ (.int .i64 ((rd_T32 t576 x8_4).f1.f2))).setCell ⟨gb589, 3, none⟩ (.int .i64 ((rd_T32 t576 x8_4).f1.f3))).setCell ⟨gb589, 4, none⟩ (.int .i64 ((rd_T32 t576 x8_4).f1.f4))).setCell ⟨gb589, 5, none⟩ (.string ((rd_T32 t576 x8_4).f1.f5))).setCell ⟨gb589, 6, none⟩ (.string ((rd_T32 t576 x8_4).f1.f6))).setCell ⟨gb589, 7, none⟩ (.string ((rd_T32 t576 x8_4).f1.f7))).heap[gb589]? = some (.cells #[.int .i64 ((rd_T32 t576 x8_4).f1.f0), .int .i64 ((rd_T32 t576 x8_4).f1.f1), .int .i64 ((rd_T32 t576 x8_4).f1.f2), .int .i64 ((rd_T32 t576 x8_4).f1.f3), .int .i64 ((rd_T32 t576 x8_4).f1.f4), .string ((rd_T32 t576 x8_4).f1.f5), .string ((rd_T32 t576 x8_4).f1.f6), .string ((rd_T32 t576 x8_4).f1.f7)] 23 (0, 0))) := ⟨bW BK589⟩
                     have n5_ : Aside0 (Below w.heap.size w ((((((((w45.setCell ⟨gb589, 0, none⟩ (.int .i64 ((rd_T32 t576 x8_4).f1.f0))).setCell ⟨gb589, 1, none⟩ (.int .i64 ((rd_T32 t576 x8_4).f1.f1))).setCell ⟨gb589, 2, none⟩ (.int .i64 ((rd_T32 t576 x8_4).f1.f2))).setCell ⟨gb589, 3, none⟩ (.int .i64 ((rd_T32 t576 x8_4).f1.f3))).setCell ⟨gb589, 4, none⟩ (.int .i64 ((rd_T32 t576 x8_4).f1.f4))).setCell ⟨gb589, 5, none⟩ (.string ((rd_T32 t576 x8_4).f1.f5))).setCell ⟨gb589, 6, none⟩ (.string ((rd_T32 t576 x8_4).f1.f6))).setCell ⟨gb589, 7, none⟩ (.string ((rd_T32 t576 x8_4).f1.f7)))) := ⟨by exact lT HB (gC GE582 (gC GE584 (gC GE589 gN)))⟩
                     (try clear HO_3)
                     (try clear HL583_4)
                     (try clear HO_583000)
                     (try clear BK582)
                     (try clear BK584)
                     (try clear BK589)
                     (try clear HB)
                     generalize ((((((((w45.setCell ⟨gb589, 0, none⟩ (.int .i64 ((rd_T32 t576 x8_4).f1.f0))).setCell ⟨gb589, 1, none⟩ (.int .i64 ((rd_T32 t576 x8_4).f1.f1))).setCell ⟨gb589, 2, none⟩ (.int .i64 ((rd_T32 t576 x8_4).f1.f2))).setCell ⟨gb589, 3, none⟩ (.int .i64 ((rd_T32 t576 x8_4).f1.f3))).setCell ⟨gb589, 4, none⟩ (.int .i64 ((rd_T32 t576 x8_4).f1.f4))).setCell ⟨gb589, 5, none⟩ (.string ((rd_T32 t576 x8_4).f1.f5))).setCell ⟨gb589, 6, none⟩ (.string ((rd_T32 t576 x8_4).f1.f6))).setCell ⟨gb589, 7, none⟩ (.string ((rd_T32 t576 x8_4).f1.f7))) = w49 at n0_ nL_ n1_ n2_ n3_ n4_ n5_ ⊢
                     have HO_3 := n0_
                     have HL583_4 := nL_
                     have HO_583000 := n1_
                     have BK582 := n2_
                     have BK584 := n3_
                     have BK589 := n4_
                     have HB := n5_
                     clear n0_ nL_ n1_ n2_ n3_ n4_ n5_
                     replace HO_3 := ak (Kd.R_drew HO_3.out)
                     replace HL583_4 := ak (Kd.R_drew HL583_4.out)
                     replace HO_583000 := ak (Kd.S_drew HO_583000.out)
                     replace BK582 := ak (blk_drew BK582.out)
                     replace BK584 := ak (blk_drew BK584.out)
                     replace BK589 := ak (blk_drew BK589.out)
                     replace HB := ak (below_drew1 HB.out)
                     have p590 : 0 ≤ (x7_2 : Int) := oda
                     have q590 : x7_2 < (((rd_T66 t579 x5_1).f4).length : Int) := oda
                     obtain ⟨ad590, e590, hx590_0, hx590_1, hx590_2⟩ := at_T68 (Kd.R_reads' HL583_4.out).2.2 x7_2 p590 q590
                     have hw590_2 := hx590_2
                     have hw590_1 := hx590_1
                     have hw590_0 := hx590_0
                     cases e590
                     replace p590 := eq_true p590
                     replace q590 := eq_true q590
                     refine start_ (n := 21) (S := fun w' => w'.cell? ⟨gb589, 0, none⟩ = some (.int .i64 ((rd_T32 t576 x8_4).f1.f0)) ∧ w'.cell? ⟨gb589, 1, none⟩ = some (.int .i64 ((rd_T32 t576 x8_4).f1.f1)) ∧ w'.cell? ⟨gb589, 2, none⟩ = some (.int .i64 ((rd_T32 t576 x8_4).f1.f2)) ∧ w'.cell? ⟨gb589, 3, none⟩ = some (.int .i64 ((rd_T32 t576 x8_4).f1.f3)) ∧ w'.cell? ⟨gb589, 4, none⟩ = some (.int .i64 ((rd_T32 t576 x8_4).f1.f4)) ∧ w'.cell? ⟨gb589, 5, none⟩ = some (.string ((rd_T32 t576 x8_4).f1.f5)) ∧ w'.cell? ⟨gb589, 6, none⟩ = some (.string ((rd_T32 t576 x8_4).f1.f6)) ∧ w'.cell? ⟨gb589, 7, none⟩ = some (.string ((rd_T32 t576 x8_4).f1.f7)) ∧ w'.cell? ⟨gb584, 0, none⟩ = some (.int .i64 ((rd_T66 t579 x5_1).f0)) ∧ w'.cell? ⟨gb584, 1, none⟩ = some (.string ((rd_T66 t579 x5_1).f1)) ∧ w'.cell? ⟨gb584, 2, none⟩ = some (.string ((rd_T66 t579 x5_1).f2)) ∧ w'.cell? ⟨gb584, 3, none⟩ = some (.int .i64 ((rd_T66 t579 x5_1).f3)) ∧ w'.cell? ⟨gb584, 4, none⟩ = some (.slice (some ad590) ((rd_T66 t579 x5_1).f4).length c583_4) ∧ w'.cell? (ad590.add ((x7_2).toNat * 3)) = some (.int .i64 ((rd_T68 ((rd_T66 t579 x5_1).f4) x7_2).f0)) ∧ w'.cell? ⟨(ad590.add ((x7_2).toNat * 3)).block, (ad590.add ((x7_2).toNat * 3)).off + 1, none⟩ = some (.int .i64 ((rd_T68 ((rd_T66 t579 x5_1).f4) x7_2).f1)) ∧ w'.cell? ⟨(ad590.add ((x7_2).toNat * 3)).block, (ad590.add ((x7_2).toNat * 3)).off + 2, none⟩ = some (.string ((rd_T68 ((rd_T66 t579 x5_1).f4) x7_2).f2))) (ds := []) (fb 21 0) (by kernel_rfl) rfl rfl ⟨bc BK589 0, bc BK589 1, bc BK589 2, bc BK589 3, bc BK589 4, bc BK589 5, bc BK589 6, bc BK589 7, bc BK584 0, bc BK584 1, bc BK584 2, bc BK584 3, bc BK584 4, (hw590_0), (hw590_1), (hw590_2)⟩ (fun hHeld => ?_); refine with_tabW laws_FnStates.tab18 laws_FnStates.bits18 (fun HT_ HW_ => ?_)
                     generalize w49.drew = w50 at HO_3 HL583_4 HO_583000 BK582 BK584 BK589 HB hx590_0 hx590_1 hx590_2 hHeld ⊢
                     refine pu 0 84 (fb 21 1) HT_ ?_
                     refine tk 1 85 (fb 21 3) HT_ HW_ hHeld ?_
                     refine pu 2 86 (fb 21 7) HT_ ?_
                     refine pu 3 87 (fb 21 15) HT_ ?_
                     refine pu 4 88 (fb 21 31) HT_ ?_
                     refine pu 6 90 (fb 21 95) HT_ ?_
                     refine tk 5 89 (fb 21 127) HT_ HW_ hHeld ?_
                     refine tk 7 91 (fb 21 255) HT_ HW_ hHeld ?_
                     refine pu 8 92 (fb 21 511) HT_ ?_
                     refine pu 9 93 (fb 21 1023) HT_ ?_
                     refine pu 10 94 (fb 21 2047) HT_ ?_
                     refine pu 11 95 (fb 21 4095) HT_ ?_
                     refine pu 13 97 (fb 21 12287) HT_ ?_
                     refine pu 15 99 (fb 21 45055) HT_ ?_
                     refine tk 12 96 (fb 21 49151) HT_ HW_ hHeld ?_
                     refine tk 14 98 (fb 21 65535) HT_ HW_ hHeld ?_
                     refine pu 16 100 (fb 21 131071) HT_ ?_
                     refine pu 17 101 (fb 21 262143) HT_ ?_
                     refine tk 18 102 (fb 21 524287) HT_ HW_ hHeld ?_
                     refine pu 19 103 (fb 21 1048575) HT_ ?_
                     refine pu 20 104 (fb 21 2097151) HT_ ?_
                     refine done_ (done_of HT_.out (by kernel_rfl)) ?_
                     try go_wp2
                     go_roundg k4
                     case measure => have := HK1.out; have := HK2.out; have := HJ18.out; have := HK4.out; omega
                     case rel => exact ⟨_, rr, H', ⟨by have := HK1.out; have := HK2.out; have := HJ18.out; have := HK4.out; omega⟩, ⟨by (with_reducible repeat (first | apply Kd.R_alloc | apply Kd.R_drewN | apply Kd.R_drew)); exact HO_3.out⟩, ⟨by (with_reducible repeat (first | apply Kd.R_alloc | apply Kd.R_drewN | apply Kd.R_drew)); exact HL583_4.out⟩, ⟨by (with_reducible repeat (first | apply Kd.S_alloc | apply Kd.S_drewN | apply Kd.S_drew)); exact HO_583000.out⟩, ⟨bG BK582⟩, ⟨bG BK584⟩, ⟨by exact lT HB (gC GE582 (gC GE584 (gC GE589 gN)))⟩⟩
                   ·rw [if_neg c37] at H
                    exact absurd H (by simp)
                  ·rw [if_neg c36] at H
                   exact absurd H (by simp)
                 ·rw [if_neg c35] at H
                  have c35b0 := beq_eq_false_iff_ne.mpr c35
                  have c35b1 := bne_iff_ne.mpr c35
                  have H' := Aside0.mk H
                  clear H
                  have p588 : 0 ≤ (x8_4 : Int) := oda
                  have q588 : x8_4 < (t576.length : Int) := oda
                  obtain ⟨ad588, e588, hx588_0, hx588_1, hx588_2, hx588_3, hx588_4, hx588_5, hx588_6, hx588_7, hx588_8⟩ := at_T32 (Kd.R_reads' HO_3.out).2.2 x8_4 p588 q588
                  cases e588
                  replace p588 := eq_true p588
                  replace q588 := eq_true q588
                  try go_wp2_with (first | ((with_reducible refine gate_dst (N := 9) rfl ?_); refine bx 9 #[.int .i64 0, .int .i64 0, .int .i64 0, .int .i64 0, .int .i64 0, .string (⟨#[]⟩ : ByteArray), .string (⟨#[]⟩ : ByteArray), .string (⟨#[]⟩ : ByteArray)] 23 ?_; intro gb589 hg w51 hbox hb; replace HO_3 := rB HO_3 hb; replace HL583_4 := rB HL583_4 hb; replace HO_583000 := ak (Kd.S_below (by (with_reducible repeat (first | apply Kd.S_alloc | apply Kd.S_drewN | apply Kd.S_drew)); exact HO_583000.out) hb); replace BK589 := ak (hbox); replace GW589 := ak (bz hg (lT HB (gC GE582 (gC GE584 gN)))); replace GE589 := ak (bz hg (lT HB (gC GE582 (gC GE584 gN)))); replace HB := ak (below_step (lT HB (gC GE582 (gC GE584 gN))) hb); replace NB582_589 := ak (nl hg (bG BK582)); replace NB589_582 := ak (ng hg (bG BK582)); replace BK582 := bB BK582 hb; replace NB584_589 := ak (nl hg (bG BK584)); replace NB589_584 := ak (ng hg (bG BK584)); replace BK584 := bB BK584 hb; clear hb hbox hg; have hnb52 := NB589_582.out; have hnc52 := NB582_589.out; have hnb53 := NB589_584.out; have hnc53 := NB584_589.out; obtain ⟨hcz54_0, hcz54_1, hcz54_2, hcz54_3, hcz54_4, hcz54_5, hcz54_6, hcz54_7, hfz54_0, hfz54_1, hfz54_2, hfz54_3, hfz54_4, hfz54_5, hfz54_6, hfz54_7⟩ := bC8 BK589))
                  have n0_ : Aside0 (Kd.R k32 32 ((((((((w51.setCell ⟨gb589, 0, none⟩ (.int .i64 ((rd_T32 t576 x8_4).f1.f0))).setCell ⟨gb589, 1, none⟩ (.int .i64 ((rd_T32 t576 x8_4).f1.f1))).setCell ⟨gb589, 2, none⟩ (.int .i64 ((rd_T32 t576 x8_4).f1.f2))).setCell ⟨gb589, 3, none⟩ (.int .i64 ((rd_T32 t576 x8_4).f1.f3))).setCell ⟨gb589, 4, none⟩ (.int .i64 ((rd_T32 t576 x8_4).f1.f4))).setCell ⟨gb589, 5, none⟩ (.string ((rd_T32 t576 x8_4).f1.f5))).setCell ⟨gb589, 6, none⟩ (.string ((rd_T32 t576 x8_4).f1.f6))).setCell ⟨gb589, 7, none⟩ (.string ((rd_T32 t576 x8_4).f1.f7))) w.heap.size (fun _ => True) (.slice (some ad588) t576.length co7) t576) := ⟨by exact Kd.R_mono (rT HO_3 BK589 (by decide)) (fun _ hk => trivial)⟩
                  have nL_ : Aside0 (Kd.R k68 68 ((((((((w51.setCell ⟨gb589, 0, none⟩ (.int .i64 ((rd_T32 t576 x8_4).f1.f0))).setCell ⟨gb589, 1, none⟩ (.int .i64 ((rd_T32 t576 x8_4).f1.f1))).setCell ⟨gb589, 2, none⟩ (.int .i64 ((rd_T32 t576 x8_4).f1.f2))).setCell ⟨gb589, 3, none⟩ (.int .i64 ((rd_T32 t576 x8_4).f1.f3))).setCell ⟨gb589, 4, none⟩ (.int .i64 ((rd_T32 t576 x8_4).f1.f4))).setCell ⟨gb589, 5, none⟩ (.string ((rd_T32 t576 x8_4).f1.f5))).setCell ⟨gb589, 6, none⟩ (.string ((rd_T32 t576 x8_4).f1.f6))).setCell ⟨gb589, 7, none⟩ (.string ((rd_T32 t576 x8_4).f1.f7))) w.heap.size (fun _ => True) (.slice A583_4 ((rd_T66 t579 x5_1).f4).length c583_4) ((rd_T66 t579 x5_1).f4)) := ⟨by exact Kd.R_mono (rT HL583_4 BK589 (by decide)) (fun _ hk => trivial)⟩
                  have n1_ : Aside0 (Kd.S k66 66 ((((((((w51.setCell ⟨gb589, 0, none⟩ (.int .i64 ((rd_T32 t576 x8_4).f1.f0))).setCell ⟨gb589, 1, none⟩ (.int .i64 ((rd_T32 t576 x8_4).f1.f1))).setCell ⟨gb589, 2, none⟩ (.int .i64 ((rd_T32 t576 x8_4).f1.f2))).setCell ⟨gb589, 3, none⟩ (.int .i64 ((rd_T32 t576 x8_4).f1.f3))).setCell ⟨gb589, 4, none⟩ (.int .i64 ((rd_T32 t576 x8_4).f1.f4))).setCell ⟨gb589, 5, none⟩ (.string ((rd_T32 t576 x8_4).f1.f5))).setCell ⟨gb589, 6, none⟩ (.string ((rd_T32 t576 x8_4).f1.f6))).setCell ⟨gb589, 7, none⟩ (.string ((rd_T32 t576 x8_4).f1.f7))) w.heap.size (fun k_ => k_ ≠ gb584) (.slice (some ad583) t579.length co10) t579) := ⟨by (with_reducible repeat (first | apply Kd.S_alloc | apply Kd.S_drewN | apply Kd.S_drew)); exact Kd.S_mono (Kd.S_far (p := ⟨gb589, 7, none⟩) (Kd.S_far (p := ⟨gb589, 6, none⟩) (Kd.S_far (p := ⟨gb589, 5, none⟩) (Kd.S_far (p := ⟨gb589, 4, none⟩) (Kd.S_far (p := ⟨gb589, 3, none⟩) (Kd.S_far (p := ⟨gb589, 2, none⟩) (Kd.S_far (p := ⟨gb589, 1, none⟩) (Kd.S_far (p := ⟨gb589, 0, none⟩) (Kd.S_types HO_583000.out BK589.out (by decide)) (fun _ hk => hk.2) (.int .i64 ((rd_T32 t576 x8_4).f1.f0))) (fun _ hk => hk.2) (.int .i64 ((rd_T32 t576 x8_4).f1.f1))) (fun _ hk => hk.2) (.int .i64 ((rd_T32 t576 x8_4).f1.f2))) (fun _ hk => hk.2) (.int .i64 ((rd_T32 t576 x8_4).f1.f3))) (fun _ hk => hk.2) (.int .i64 ((rd_T32 t576 x8_4).f1.f4))) (fun _ hk => hk.2) (.string ((rd_T32 t576 x8_4).f1.f5))) (fun _ hk => hk.2) (.string ((rd_T32 t576 x8_4).f1.f6))) (fun _ hk => hk.2) (.string ((rd_T32 t576 x8_4).f1.f7))) (fun _ hk => hk.1)⟩
                  have n2_ : Aside0 (((((((((w51.setCell ⟨gb589, 0, none⟩ (.int .i64 ((rd_T32 t576 x8_4).f1.f0))).setCell ⟨gb589, 1, none⟩ (.int .i64 ((rd_T32 t576 x8_4).f1.f1))).setCell ⟨gb589, 2, none⟩ (.int .i64 ((rd_T32 t576 x8_4).f1.f2))).setCell ⟨gb589, 3, none⟩ (.int .i64 ((rd_T32 t576 x8_4).f1.f3))).setCell ⟨gb589, 4, none⟩ (.int .i64 ((rd_T32 t576 x8_4).f1.f4))).setCell ⟨gb589, 5, none⟩ (.string ((rd_T32 t576 x8_4).f1.f5))).setCell ⟨gb589, 6, none⟩ (.string ((rd_T32 t576 x8_4).f1.f6))).setCell ⟨gb589, 7, none⟩ (.string ((rd_T32 t576 x8_4).f1.f7))).heap[gb582]? = some (.cells #[.slice (some ad583) t579.length co10] 60 (0, 0))) := ⟨bF BK582 (nC NB582_589 nN)⟩
                  have n3_ : Aside0 (((((((((w51.setCell ⟨gb589, 0, none⟩ (.int .i64 ((rd_T32 t576 x8_4).f1.f0))).setCell ⟨gb589, 1, none⟩ (.int .i64 ((rd_T32 t576 x8_4).f1.f1))).setCell ⟨gb589, 2, none⟩ (.int .i64 ((rd_T32 t576 x8_4).f1.f2))).setCell ⟨gb589, 3, none⟩ (.int .i64 ((rd_T32 t576 x8_4).f1.f3))).setCell ⟨gb589, 4, none⟩ (.int .i64 ((rd_T32 t576 x8_4).f1.f4))).setCell ⟨gb589, 5, none⟩ (.string ((rd_T32 t576 x8_4).f1.f5))).setCell ⟨gb589, 6, none⟩ (.string ((rd_T32 t576 x8_4).f1.f6))).setCell ⟨gb589, 7, none⟩ (.string ((rd_T32 t576 x8_4).f1.f7))).heap[gb584]? = some (.cells #[.int .i64 ((rd_T66 t579 x5_1).f0), .string ((rd_T66 t579 x5_1).f1), .string ((rd_T66 t579 x5_1).f2), .int .i64 ((rd_T66 t579 x5_1).f3), .slice A583_4 ((rd_T66 t579 x5_1).f4).length c583_4] 66 (0, 0))) := ⟨bF BK584 (nC NB584_589 nN)⟩
                  have n4_ : Aside0 (((((((((w51.setCell ⟨gb589, 0, none⟩ (.int .i64 ((rd_T32 t576 x8_4).f1.f0))).setCell ⟨gb589, 1, none⟩ (.int .i64 ((rd_T32 t576 x8_4).f1.f1))).setCell ⟨gb589, 2, none⟩ (.int .i64 ((rd_T32 t576 x8_4).f1.f2))).setCell ⟨gb589, 3, none⟩ (.int .i64 ((rd_T32 t576 x8_4).f1.f3))).setCell ⟨gb589, 4, none⟩ (.int .i64 ((rd_T32 t576 x8_4).f1.f4))).setCell ⟨gb589, 5, none⟩ (.string ((rd_T32 t576 x8_4).f1.f5))).setCell ⟨gb589, 6, none⟩ (.string ((rd_T32 t576 x8_4).f1.f6))).setCell ⟨gb589, 7, none⟩ (.string ((rd_T32 t576 x8_4).f1.f7))).heap[gb589]? = some (.cells #[.int .i64 ((rd_T32 t576 x8_4).f1.f0), .int .i64 ((rd_T32 t576 x8_4).f1.f1), .int .i64 ((rd_T32 t576 x8_4).f1.f2), .int .i64 ((rd_T32 t576 x8_4).f1.f3), .int .i64 ((rd_T32 t576 x8_4).f1.f4), .string ((rd_T32 t576 x8_4).f1.f5), .string ((rd_T32 t576 x8_4).f1.f6), .string ((rd_T32 t576 x8_4).f1.f7)] 23 (0, 0))) := ⟨bW BK589⟩
                  have n5_ : Aside0 (Below w.heap.size w ((((((((w51.setCell ⟨gb589, 0, none⟩ (.int .i64 ((rd_T32 t576 x8_4).f1.f0))).setCell ⟨gb589, 1, none⟩ (.int .i64 ((rd_T32 t576 x8_4).f1.f1))).setCell ⟨gb589, 2, none⟩ (.int .i64 ((rd_T32 t576 x8_4).f1.f2))).setCell ⟨gb589, 3, none⟩ (.int .i64 ((rd_T32 t576 x8_4).f1.f3))).setCell ⟨gb589, 4, none⟩ (.int .i64 ((rd_T32 t576 x8_4).f1.f4))).setCell ⟨gb589, 5, none⟩ (.string ((rd_T32 t576 x8_4).f1.f5))).setCell ⟨gb589, 6, none⟩ (.string ((rd_T32 t576 x8_4).f1.f6))).setCell ⟨gb589, 7, none⟩ (.string ((rd_T32 t576 x8_4).f1.f7)))) := ⟨by exact lT HB (gC GE582 (gC GE584 (gC GE589 gN)))⟩
                  (try clear HO_3)
                  (try clear HL583_4)
                  (try clear HO_583000)
                  (try clear BK582)
                  (try clear BK584)
                  (try clear BK589)
                  (try clear HB)
                  generalize ((((((((w51.setCell ⟨gb589, 0, none⟩ (.int .i64 ((rd_T32 t576 x8_4).f1.f0))).setCell ⟨gb589, 1, none⟩ (.int .i64 ((rd_T32 t576 x8_4).f1.f1))).setCell ⟨gb589, 2, none⟩ (.int .i64 ((rd_T32 t576 x8_4).f1.f2))).setCell ⟨gb589, 3, none⟩ (.int .i64 ((rd_T32 t576 x8_4).f1.f3))).setCell ⟨gb589, 4, none⟩ (.int .i64 ((rd_T32 t576 x8_4).f1.f4))).setCell ⟨gb589, 5, none⟩ (.string ((rd_T32 t576 x8_4).f1.f5))).setCell ⟨gb589, 6, none⟩ (.string ((rd_T32 t576 x8_4).f1.f6))).setCell ⟨gb589, 7, none⟩ (.string ((rd_T32 t576 x8_4).f1.f7))) = w55 at n0_ nL_ n1_ n2_ n3_ n4_ n5_ ⊢
                  have HO_3 := n0_
                  have HL583_4 := nL_
                  have HO_583000 := n1_
                  have BK582 := n2_
                  have BK584 := n3_
                  have BK589 := n4_
                  have HB := n5_
                  clear n0_ nL_ n1_ n2_ n3_ n4_ n5_
                  replace HO_3 := ak (Kd.R_drew HO_3.out)
                  replace HL583_4 := ak (Kd.R_drew HL583_4.out)
                  replace HO_583000 := ak (Kd.S_drew HO_583000.out)
                  replace BK582 := ak (blk_drew BK582.out)
                  replace BK584 := ak (blk_drew BK584.out)
                  replace BK589 := ak (blk_drew BK589.out)
                  replace HB := ak (below_drew1 HB.out)
                  refine start_ (n := 21) (S := fun w' => w'.cell? ⟨gb589, 0, none⟩ = some (.int .i64 ((rd_T32 t576 x8_4).f1.f0)) ∧ w'.cell? ⟨gb589, 1, none⟩ = some (.int .i64 ((rd_T32 t576 x8_4).f1.f1)) ∧ w'.cell? ⟨gb589, 2, none⟩ = some (.int .i64 ((rd_T32 t576 x8_4).f1.f2)) ∧ w'.cell? ⟨gb589, 3, none⟩ = some (.int .i64 ((rd_T32 t576 x8_4).f1.f3)) ∧ w'.cell? ⟨gb589, 4, none⟩ = some (.int .i64 ((rd_T32 t576 x8_4).f1.f4)) ∧ w'.cell? ⟨gb589, 5, none⟩ = some (.string ((rd_T32 t576 x8_4).f1.f5)) ∧ w'.cell? ⟨gb589, 6, none⟩ = some (.string ((rd_T32 t576 x8_4).f1.f6)) ∧ w'.cell? ⟨gb589, 7, none⟩ = some (.string ((rd_T32 t576 x8_4).f1.f7)) ∧ w'.cell? ⟨gb584, 0, none⟩ = some (.int .i64 ((rd_T66 t579 x5_1).f0)) ∧ w'.cell? ⟨gb584, 1, none⟩ = some (.string ((rd_T66 t579 x5_1).f1)) ∧ w'.cell? ⟨gb584, 2, none⟩ = some (.string ((rd_T66 t579 x5_1).f2)) ∧ w'.cell? ⟨gb584, 3, none⟩ = some (.int .i64 ((rd_T66 t579 x5_1).f3)) ∧ w'.cell? ⟨gb584, 4, none⟩ = some (.slice A583_4 ((rd_T66 t579 x5_1).f4).length c583_4)) (ds := []) (fb 21 0) (by kernel_rfl) rfl rfl ⟨bc BK589 0, bc BK589 1, bc BK589 2, bc BK589 3, bc BK589 4, bc BK589 5, bc BK589 6, bc BK589 7, bc BK584 0, bc BK584 1, bc BK584 2, bc BK584 3, bc BK584 4⟩ (fun hHeld => ?_); refine with_tabW laws_FnStates.tab18 laws_FnStates.bits18 (fun HT_ HW_ => ?_)
                  generalize w55.drew = w56 at HO_3 HL583_4 HO_583000 BK582 BK584 BK589 HB hHeld ⊢
                  refine pu 0 84 (fb 21 1) HT_ ?_
                  refine tk 1 85 (fb 21 3) HT_ HW_ hHeld ?_
                  refine pu 2 86 (fb 21 7) HT_ ?_
                  refine pu 3 87 (fb 21 15) HT_ ?_
                  refine pu 4 88 (fb 21 31) HT_ ?_
                  refine pu 6 90 (fb 21 95) HT_ ?_
                  refine tk 5 89 (fb 21 127) HT_ HW_ hHeld ?_
                  refine tk 7 91 (fb 21 255) HT_ HW_ hHeld ?_
                  refine pu 8 92 (fb 21 511) HT_ ?_
                  refine pu 9 93 (fb 21 1023) HT_ ?_
                  refine pu 10 94 (fb 21 2047) HT_ ?_
                  refine pn 11 95 (fb 21 4095) HT_ ?_
                  refine pn 12 96 (fb 21 8191) HT_ ?_
                  refine pn 13 97 (fb 21 16383) HT_ ?_
                  refine pn 14 98 (fb 21 32767) HT_ ?_
                  refine pn 15 99 (fb 21 65535) HT_ ?_
                  refine pn 16 100 (fb 21 131071) HT_ ?_
                  refine pn 17 101 (fb 21 262143) HT_ ?_
                  refine pn 18 102 (fb 21 524287) HT_ ?_
                  refine pn 19 103 (fb 21 1048575) HT_ ?_
                  refine pu 20 104 (fb 21 2097151) HT_ ?_
                  refine done_ (done_of HT_.out (by kernel_rfl)) ?_
                  try go_wp2
                  go_roundg k4
                  case measure => have := HK1.out; have := HK2.out; have := HJ18.out; have := HK4.out; omega
                  case rel => exact ⟨_, rr, H', ⟨by have := HK1.out; have := HK2.out; have := HJ18.out; have := HK4.out; omega⟩, ⟨by (with_reducible repeat (first | apply Kd.R_alloc | apply Kd.R_drewN | apply Kd.R_drew)); exact HO_3.out⟩, ⟨by (with_reducible repeat (first | apply Kd.R_alloc | apply Kd.R_drewN | apply Kd.R_drew)); exact HL583_4.out⟩, ⟨by (with_reducible repeat (first | apply Kd.S_alloc | apply Kd.S_drewN | apply Kd.S_drew)); exact HO_583000.out⟩, ⟨bG BK582⟩, ⟨bG BK584⟩, ⟨by exact lT HB (gC GE582 (gC GE584 (gC GE589 gN)))⟩⟩
                ·rw [if_neg c34] at H
                 have c34b0 := beq_eq_false_iff_ne.mpr c34
                 have c34b1 := bne_iff_ne.mpr c34
                 have H' := Aside0.mk H
                 clear H
                 have p588 : 0 ≤ (x8_4 : Int) := oda
                 have q588 : x8_4 < (t576.length : Int) := oda
                 obtain ⟨ad588, e588, hx588_0, hx588_1, hx588_2, hx588_3, hx588_4, hx588_5, hx588_6, hx588_7, hx588_8⟩ := at_T32 (Kd.R_reads' HO_3.out).2.2 x8_4 p588 q588
                 cases e588
                 replace p588 := eq_true p588
                 replace q588 := eq_true q588
                 try go_wp2_with (first | ((with_reducible refine gate_dst (N := 9) rfl ?_); refine bx 9 #[.int .i64 0, .int .i64 0, .int .i64 0, .int .i64 0, .int .i64 0, .string (⟨#[]⟩ : ByteArray), .string (⟨#[]⟩ : ByteArray), .string (⟨#[]⟩ : ByteArray)] 23 ?_; intro gb589 hg w57 hbox hb; replace HO_3 := rB HO_3 hb; replace HL583_4 := rB HL583_4 hb; replace HO_583000 := ak (Kd.S_below (by (with_reducible repeat (first | apply Kd.S_alloc | apply Kd.S_drewN | apply Kd.S_drew)); exact HO_583000.out) hb); replace BK589 := ak (hbox); replace GW589 := ak (bz hg (lT HB (gC GE582 (gC GE584 gN)))); replace GE589 := ak (bz hg (lT HB (gC GE582 (gC GE584 gN)))); replace HB := ak (below_step (lT HB (gC GE582 (gC GE584 gN))) hb); replace NB582_589 := ak (nl hg (bG BK582)); replace NB589_582 := ak (ng hg (bG BK582)); replace BK582 := bB BK582 hb; replace NB584_589 := ak (nl hg (bG BK584)); replace NB589_584 := ak (ng hg (bG BK584)); replace BK584 := bB BK584 hb; clear hb hbox hg; have hnb58 := NB589_582.out; have hnc58 := NB582_589.out; have hnb59 := NB589_584.out; have hnc59 := NB584_589.out; obtain ⟨hcz60_0, hcz60_1, hcz60_2, hcz60_3, hcz60_4, hcz60_5, hcz60_6, hcz60_7, hfz60_0, hfz60_1, hfz60_2, hfz60_3, hfz60_4, hfz60_5, hfz60_6, hfz60_7⟩ := bC8 BK589))
                 have n0_ : Aside0 (Kd.R k32 32 ((((((((w57.setCell ⟨gb589, 0, none⟩ (.int .i64 ((rd_T32 t576 x8_4).f1.f0))).setCell ⟨gb589, 1, none⟩ (.int .i64 ((rd_T32 t576 x8_4).f1.f1))).setCell ⟨gb589, 2, none⟩ (.int .i64 ((rd_T32 t576 x8_4).f1.f2))).setCell ⟨gb589, 3, none⟩ (.int .i64 ((rd_T32 t576 x8_4).f1.f3))).setCell ⟨gb589, 4, none⟩ (.int .i64 ((rd_T32 t576 x8_4).f1.f4))).setCell ⟨gb589, 5, none⟩ (.string ((rd_T32 t576 x8_4).f1.f5))).setCell ⟨gb589, 6, none⟩ (.string ((rd_T32 t576 x8_4).f1.f6))).setCell ⟨gb589, 7, none⟩ (.string ((rd_T32 t576 x8_4).f1.f7))) w.heap.size (fun _ => True) (.slice (some ad588) t576.length co7) t576) := ⟨by exact Kd.R_mono (rT HO_3 BK589 (by decide)) (fun _ hk => trivial)⟩
                 have nL_ : Aside0 (Kd.R k68 68 ((((((((w57.setCell ⟨gb589, 0, none⟩ (.int .i64 ((rd_T32 t576 x8_4).f1.f0))).setCell ⟨gb589, 1, none⟩ (.int .i64 ((rd_T32 t576 x8_4).f1.f1))).setCell ⟨gb589, 2, none⟩ (.int .i64 ((rd_T32 t576 x8_4).f1.f2))).setCell ⟨gb589, 3, none⟩ (.int .i64 ((rd_T32 t576 x8_4).f1.f3))).setCell ⟨gb589, 4, none⟩ (.int .i64 ((rd_T32 t576 x8_4).f1.f4))).setCell ⟨gb589, 5, none⟩ (.string ((rd_T32 t576 x8_4).f1.f5))).setCell ⟨gb589, 6, none⟩ (.string ((rd_T32 t576 x8_4).f1.f6))).setCell ⟨gb589, 7, none⟩ (.string ((rd_T32 t576 x8_4).f1.f7))) w.heap.size (fun _ => True) (.slice A583_4 ((rd_T66 t579 x5_1).f4).length c583_4) ((rd_T66 t579 x5_1).f4)) := ⟨by exact Kd.R_mono (rT HL583_4 BK589 (by decide)) (fun _ hk => trivial)⟩
                 have n1_ : Aside0 (Kd.S k66 66 ((((((((w57.setCell ⟨gb589, 0, none⟩ (.int .i64 ((rd_T32 t576 x8_4).f1.f0))).setCell ⟨gb589, 1, none⟩ (.int .i64 ((rd_T32 t576 x8_4).f1.f1))).setCell ⟨gb589, 2, none⟩ (.int .i64 ((rd_T32 t576 x8_4).f1.f2))).setCell ⟨gb589, 3, none⟩ (.int .i64 ((rd_T32 t576 x8_4).f1.f3))).setCell ⟨gb589, 4, none⟩ (.int .i64 ((rd_T32 t576 x8_4).f1.f4))).setCell ⟨gb589, 5, none⟩ (.string ((rd_T32 t576 x8_4).f1.f5))).setCell ⟨gb589, 6, none⟩ (.string ((rd_T32 t576 x8_4).f1.f6))).setCell ⟨gb589, 7, none⟩ (.string ((rd_T32 t576 x8_4).f1.f7))) w.heap.size (fun k_ => k_ ≠ gb584) (.slice (some ad583) t579.length co10) t579) := ⟨by (with_reducible repeat (first | apply Kd.S_alloc | apply Kd.S_drewN | apply Kd.S_drew)); exact Kd.S_mono (Kd.S_far (p := ⟨gb589, 7, none⟩) (Kd.S_far (p := ⟨gb589, 6, none⟩) (Kd.S_far (p := ⟨gb589, 5, none⟩) (Kd.S_far (p := ⟨gb589, 4, none⟩) (Kd.S_far (p := ⟨gb589, 3, none⟩) (Kd.S_far (p := ⟨gb589, 2, none⟩) (Kd.S_far (p := ⟨gb589, 1, none⟩) (Kd.S_far (p := ⟨gb589, 0, none⟩) (Kd.S_types HO_583000.out BK589.out (by decide)) (fun _ hk => hk.2) (.int .i64 ((rd_T32 t576 x8_4).f1.f0))) (fun _ hk => hk.2) (.int .i64 ((rd_T32 t576 x8_4).f1.f1))) (fun _ hk => hk.2) (.int .i64 ((rd_T32 t576 x8_4).f1.f2))) (fun _ hk => hk.2) (.int .i64 ((rd_T32 t576 x8_4).f1.f3))) (fun _ hk => hk.2) (.int .i64 ((rd_T32 t576 x8_4).f1.f4))) (fun _ hk => hk.2) (.string ((rd_T32 t576 x8_4).f1.f5))) (fun _ hk => hk.2) (.string ((rd_T32 t576 x8_4).f1.f6))) (fun _ hk => hk.2) (.string ((rd_T32 t576 x8_4).f1.f7))) (fun _ hk => hk.1)⟩
                 have n2_ : Aside0 (((((((((w57.setCell ⟨gb589, 0, none⟩ (.int .i64 ((rd_T32 t576 x8_4).f1.f0))).setCell ⟨gb589, 1, none⟩ (.int .i64 ((rd_T32 t576 x8_4).f1.f1))).setCell ⟨gb589, 2, none⟩ (.int .i64 ((rd_T32 t576 x8_4).f1.f2))).setCell ⟨gb589, 3, none⟩ (.int .i64 ((rd_T32 t576 x8_4).f1.f3))).setCell ⟨gb589, 4, none⟩ (.int .i64 ((rd_T32 t576 x8_4).f1.f4))).setCell ⟨gb589, 5, none⟩ (.string ((rd_T32 t576 x8_4).f1.f5))).setCell ⟨gb589, 6, none⟩ (.string ((rd_T32 t576 x8_4).f1.f6))).setCell ⟨gb589, 7, none⟩ (.string ((rd_T32 t576 x8_4).f1.f7))).heap[gb582]? = some (.cells #[.slice (some ad583) t579.length co10] 60 (0, 0))) := ⟨bF BK582 (nC NB582_589 nN)⟩
                 have n3_ : Aside0 (((((((((w57.setCell ⟨gb589, 0, none⟩ (.int .i64 ((rd_T32 t576 x8_4).f1.f0))).setCell ⟨gb589, 1, none⟩ (.int .i64 ((rd_T32 t576 x8_4).f1.f1))).setCell ⟨gb589, 2, none⟩ (.int .i64 ((rd_T32 t576 x8_4).f1.f2))).setCell ⟨gb589, 3, none⟩ (.int .i64 ((rd_T32 t576 x8_4).f1.f3))).setCell ⟨gb589, 4, none⟩ (.int .i64 ((rd_T32 t576 x8_4).f1.f4))).setCell ⟨gb589, 5, none⟩ (.string ((rd_T32 t576 x8_4).f1.f5))).setCell ⟨gb589, 6, none⟩ (.string ((rd_T32 t576 x8_4).f1.f6))).setCell ⟨gb589, 7, none⟩ (.string ((rd_T32 t576 x8_4).f1.f7))).heap[gb584]? = some (.cells #[.int .i64 ((rd_T66 t579 x5_1).f0), .string ((rd_T66 t579 x5_1).f1), .string ((rd_T66 t579 x5_1).f2), .int .i64 ((rd_T66 t579 x5_1).f3), .slice A583_4 ((rd_T66 t579 x5_1).f4).length c583_4] 66 (0, 0))) := ⟨bF BK584 (nC NB584_589 nN)⟩
                 have n4_ : Aside0 (((((((((w57.setCell ⟨gb589, 0, none⟩ (.int .i64 ((rd_T32 t576 x8_4).f1.f0))).setCell ⟨gb589, 1, none⟩ (.int .i64 ((rd_T32 t576 x8_4).f1.f1))).setCell ⟨gb589, 2, none⟩ (.int .i64 ((rd_T32 t576 x8_4).f1.f2))).setCell ⟨gb589, 3, none⟩ (.int .i64 ((rd_T32 t576 x8_4).f1.f3))).setCell ⟨gb589, 4, none⟩ (.int .i64 ((rd_T32 t576 x8_4).f1.f4))).setCell ⟨gb589, 5, none⟩ (.string ((rd_T32 t576 x8_4).f1.f5))).setCell ⟨gb589, 6, none⟩ (.string ((rd_T32 t576 x8_4).f1.f6))).setCell ⟨gb589, 7, none⟩ (.string ((rd_T32 t576 x8_4).f1.f7))).heap[gb589]? = some (.cells #[.int .i64 ((rd_T32 t576 x8_4).f1.f0), .int .i64 ((rd_T32 t576 x8_4).f1.f1), .int .i64 ((rd_T32 t576 x8_4).f1.f2), .int .i64 ((rd_T32 t576 x8_4).f1.f3), .int .i64 ((rd_T32 t576 x8_4).f1.f4), .string ((rd_T32 t576 x8_4).f1.f5), .string ((rd_T32 t576 x8_4).f1.f6), .string ((rd_T32 t576 x8_4).f1.f7)] 23 (0, 0))) := ⟨bW BK589⟩
                 have n5_ : Aside0 (Below w.heap.size w ((((((((w57.setCell ⟨gb589, 0, none⟩ (.int .i64 ((rd_T32 t576 x8_4).f1.f0))).setCell ⟨gb589, 1, none⟩ (.int .i64 ((rd_T32 t576 x8_4).f1.f1))).setCell ⟨gb589, 2, none⟩ (.int .i64 ((rd_T32 t576 x8_4).f1.f2))).setCell ⟨gb589, 3, none⟩ (.int .i64 ((rd_T32 t576 x8_4).f1.f3))).setCell ⟨gb589, 4, none⟩ (.int .i64 ((rd_T32 t576 x8_4).f1.f4))).setCell ⟨gb589, 5, none⟩ (.string ((rd_T32 t576 x8_4).f1.f5))).setCell ⟨gb589, 6, none⟩ (.string ((rd_T32 t576 x8_4).f1.f6))).setCell ⟨gb589, 7, none⟩ (.string ((rd_T32 t576 x8_4).f1.f7)))) := ⟨by exact lT HB (gC GE582 (gC GE584 (gC GE589 gN)))⟩
                 (try clear HO_3)
                 (try clear HL583_4)
                 (try clear HO_583000)
                 (try clear BK582)
                 (try clear BK584)
                 (try clear BK589)
                 (try clear HB)
                 generalize ((((((((w57.setCell ⟨gb589, 0, none⟩ (.int .i64 ((rd_T32 t576 x8_4).f1.f0))).setCell ⟨gb589, 1, none⟩ (.int .i64 ((rd_T32 t576 x8_4).f1.f1))).setCell ⟨gb589, 2, none⟩ (.int .i64 ((rd_T32 t576 x8_4).f1.f2))).setCell ⟨gb589, 3, none⟩ (.int .i64 ((rd_T32 t576 x8_4).f1.f3))).setCell ⟨gb589, 4, none⟩ (.int .i64 ((rd_T32 t576 x8_4).f1.f4))).setCell ⟨gb589, 5, none⟩ (.string ((rd_T32 t576 x8_4).f1.f5))).setCell ⟨gb589, 6, none⟩ (.string ((rd_T32 t576 x8_4).f1.f6))).setCell ⟨gb589, 7, none⟩ (.string ((rd_T32 t576 x8_4).f1.f7))) = w61 at n0_ nL_ n1_ n2_ n3_ n4_ n5_ ⊢
                 have HO_3 := n0_
                 have HL583_4 := nL_
                 have HO_583000 := n1_
                 have BK582 := n2_
                 have BK584 := n3_
                 have BK589 := n4_
                 have HB := n5_
                 clear n0_ nL_ n1_ n2_ n3_ n4_ n5_
                 replace HO_3 := ak (Kd.R_drew HO_3.out)
                 replace HL583_4 := ak (Kd.R_drew HL583_4.out)
                 replace HO_583000 := ak (Kd.S_drew HO_583000.out)
                 replace BK582 := ak (blk_drew BK582.out)
                 replace BK584 := ak (blk_drew BK584.out)
                 replace BK589 := ak (blk_drew BK589.out)
                 replace HB := ak (below_drew1 HB.out)
                 refine start_ (n := 21) (S := fun w' => w'.cell? ⟨gb589, 0, none⟩ = some (.int .i64 ((rd_T32 t576 x8_4).f1.f0)) ∧ w'.cell? ⟨gb589, 1, none⟩ = some (.int .i64 ((rd_T32 t576 x8_4).f1.f1)) ∧ w'.cell? ⟨gb589, 2, none⟩ = some (.int .i64 ((rd_T32 t576 x8_4).f1.f2)) ∧ w'.cell? ⟨gb589, 3, none⟩ = some (.int .i64 ((rd_T32 t576 x8_4).f1.f3)) ∧ w'.cell? ⟨gb589, 4, none⟩ = some (.int .i64 ((rd_T32 t576 x8_4).f1.f4)) ∧ w'.cell? ⟨gb589, 5, none⟩ = some (.string ((rd_T32 t576 x8_4).f1.f5)) ∧ w'.cell? ⟨gb589, 6, none⟩ = some (.string ((rd_T32 t576 x8_4).f1.f6)) ∧ w'.cell? ⟨gb589, 7, none⟩ = some (.string ((rd_T32 t576 x8_4).f1.f7))) (ds := []) (fb 21 0) (by kernel_rfl) rfl rfl ⟨bc BK589 0, bc BK589 1, bc BK589 2, bc BK589 3, bc BK589 4, bc BK589 5, bc BK589 6, bc BK589 7⟩ (fun hHeld => ?_); refine with_tabW laws_FnStates.tab18 laws_FnStates.bits18 (fun HT_ HW_ => ?_)
                 generalize w61.drew = w62 at HO_3 HL583_4 HO_583000 BK582 BK584 BK589 HB hHeld ⊢
                 refine pu 0 84 (fb 21 1) HT_ ?_
                 refine tk 1 85 (fb 21 3) HT_ HW_ hHeld ?_
                 refine pu 2 86 (fb 21 7) HT_ ?_
                 refine pu 3 87 (fb 21 15) HT_ ?_
                 refine pn 4 88 (fb 21 31) HT_ ?_
                 refine pn 5 89 (fb 21 63) HT_ ?_
                 refine pn 6 90 (fb 21 127) HT_ ?_
                 refine pn 7 91 (fb 21 255) HT_ ?_
                 refine pn 8 92 (fb 21 511) HT_ ?_
                 refine pu 9 93 (fb 21 1023) HT_ ?_
                 refine pu 10 94 (fb 21 2047) HT_ ?_
                 refine pn 11 95 (fb 21 4095) HT_ ?_
                 refine pn 12 96 (fb 21 8191) HT_ ?_
                 refine pn 13 97 (fb 21 16383) HT_ ?_
                 refine pn 14 98 (fb 21 32767) HT_ ?_
                 refine pn 15 99 (fb 21 65535) HT_ ?_
                 refine pn 16 100 (fb 21 131071) HT_ ?_
                 refine pn 17 101 (fb 21 262143) HT_ ?_
                 refine pn 18 102 (fb 21 524287) HT_ ?_
                 refine pn 19 103 (fb 21 1048575) HT_ ?_
                 refine pu 20 104 (fb 21 2097151) HT_ ?_
                 refine done_ (done_of HT_.out (by kernel_rfl)) ?_
                 try go_wp2
                 go_roundg k4
                 case measure => have := HK1.out; have := HK2.out; have := HJ18.out; have := HK4.out; omega
                 case rel => exact ⟨_, rr, H', ⟨by have := HK1.out; have := HK2.out; have := HJ18.out; have := HK4.out; omega⟩, ⟨by (with_reducible repeat (first | apply Kd.R_alloc | apply Kd.R_drewN | apply Kd.R_drew)); exact HO_3.out⟩, ⟨by (with_reducible repeat (first | apply Kd.R_alloc | apply Kd.R_drewN | apply Kd.R_drew)); exact HL583_4.out⟩, ⟨by (with_reducible repeat (first | apply Kd.S_alloc | apply Kd.S_drewN | apply Kd.S_drew)); exact HO_583000.out⟩, ⟨bG BK582⟩, ⟨bG BK584⟩, ⟨by exact lT HB (gC GE582 (gC GE584 (gC GE589 gN)))⟩⟩
               ·rw [if_neg c33] at H
                exact absurd H (by simp)
              ·rw [if_neg c32] at H
               have c32b0 := decide_eq_false c32
               clear c32
               have H' := Aside0.mk H
               clear H
               go_wp2
               go_roundg k4
               case measure => have := HK1.out; have := HK2.out; have := HJ18.out; have := HK4.out; omega
               case rel => exact ⟨_, rr, H', ⟨by have := HK1.out; have := HK2.out; have := HJ18.out; have := HK4.out; omega⟩, ⟨by (with_reducible repeat (first | apply Kd.R_alloc | apply Kd.R_drewN | apply Kd.R_drew)); exact HO_3.out⟩, ⟨by (with_reducible repeat (first | apply Kd.R_alloc | apply Kd.R_drewN | apply Kd.R_drew)); exact HL583_4.out⟩, ⟨by (with_reducible repeat (first | apply Kd.S_alloc | apply Kd.S_drewN | apply Kd.S_drew)); exact HO_583000.out⟩, ⟨bG BK582⟩, ⟨bG BK584⟩, ⟨by exact lT HB (gC GE582 (gC GE584 gN))⟩⟩
        ·rw [if_neg c18] at H
         have c18b0 := decide_eq_false c18
         clear c18
         have H' := Aside0.mk H
         clear H
         have hnb63 := NB584_582.out
         have hnc63 := NB582_584.out
         obtain ⟨hcz64_0, hcz64_1, hcz64_2, hcz64_3, hcz64_4, hfz64_0, hfz64_1, hfz64_2, hfz64_3, hfz64_4⟩ := bC5 BK584
         go_wp2
         go_loopg [10] k2 (fun kq v10 w' => ∃ (x10_3 : Int), v10 = .int .i64 x10_3 ∧ Aside0 (laws_FnStates.l3 kq l0 t576 x5_1 x10_3 t579 ((rd_T66 t579 x5_1).f0) ((rd_T66 t579 x5_1).f1) ((rd_T66 t579 x5_1).f2) ((rd_T66 t579 x5_1).f3) ((rd_T66 t579 x5_1).f4) = some true) ∧ Aside0 (kq ≤ k2) ∧ Aside0 (Kd.R k32 32 w' w.heap.size (fun _ => True) (.slice Ao7 t576.length co7) t576) ∧ Aside0 (Kd.S k66 66 w' w.heap.size (fun k_ => k_ ≠ gb584) (.slice (some ad583) t579.length co10) t579) ∧ Aside0 (w'.heap[gb582]? = some (.cells #[(.slice (some ad583) t579.length co10)] 60 (0, 0))) ∧ Aside0 (w'.heap[gb584]? = some (.cells #[.int .i64 ((rd_T66 t579 x5_1).f0), .string ((rd_T66 t579 x5_1).f1), .string ((rd_T66 t579 x5_1).f2), .int .i64 ((rd_T66 t579 x5_1).f3), (.slice A583_4 ((rd_T66 t579 x5_1).f4).length c583_4)] 66 (0, 0))) ∧ Aside0 (Below w.heap.size w w'))
         case atStart => exact ⟨_, rr, H', ⟨Nat.le_refl _⟩, ⟨by (with_reducible repeat (first | apply Kd.R_alloc | apply Kd.R_drewN | apply Kd.R_drew)); exact HO_3.out⟩, ⟨by (with_reducible repeat (first | apply Kd.S_alloc | apply Kd.S_drewN | apply Kd.S_drew)); exact HO_583000.out⟩, ⟨bG BK582⟩, ⟨bG BK584⟩, ⟨by exact lT HB (gC GE582 (gC GE584 gN))⟩⟩
         case round =>
          clear H'
          try clear c1
          try clear p2
          try clear c3
          try clear c5
          try clear p5
          try clear q5
          try clear hx5
          try clear c6
          try clear p6
          try clear c18
          try clear c18b0
          try clear c32
          try clear c32b0
          try clear c33
          try clear c34
          try clear c34b0
          try clear c34b1
          try clear c35
          try clear c35b0
          try clear c35b1
          try clear c36
          try clear c37
          try clear c52
          try clear c53
          try clear c58
          try clear p58
          try clear q58
          try clear hx58
          try clear c59
          try clear p59
          try clear q59
          try clear hx59
          try clear c63
          try clear p64
          try clear hcz54_0
          try clear hcz54_1
          try clear hcz54_2
          try clear hcz54_3
          try clear hcz54_4
          try clear hcz54_5
          try clear hcz54_6
          try clear hcz54_7
          try clear hcz60_0
          try clear hcz60_1
          try clear hcz60_2
          try clear hcz60_3
          try clear hcz60_4
          try clear hcz60_5
          try clear hcz60_6
          try clear hcz60_7
          try clear hcz64_0
          try clear hcz64_1
          try clear hcz64_2
          try clear hcz64_3
          try clear hcz64_4
          try clear hfz54_0
          try clear hfz54_1
          try clear hfz54_2
          try clear hfz54_3
          try clear hfz54_4
          try clear hfz54_5
          try clear hfz54_6
          try clear hfz54_7
          try clear hfz60_0
          try clear hfz60_1
          try clear hfz60_2
          try clear hfz60_3
          try clear hfz60_4
          try clear hfz60_5
          try clear hfz60_6
          try clear hfz60_7
          try clear hfz64_0
          try clear hfz64_1
          try clear hfz64_2
          try clear hfz64_3
          try clear hfz64_4
          try clear hx588_0
          try clear hx588_1
          try clear hx588_2
          try clear hx588_3
          try clear hx588_4
          try clear hx588_5
          try clear hx588_6
          try clear hx588_7
          try clear hx588_8
          try clear hx590_0
          try clear hx590_1
          try clear hx590_2
          try clear p588
          try clear p590
          try clear q588
          try clear q590
          obtain ⟨x10_3, rfl, HA, HK3, HO_3, HO_583000, BK582, BK584, HB⟩ := hrel
          cases gk with
          | zero => exact absurd HA.out (by simp [laws_FnStates.l3])
          | succ k3 =>
           have H := HA.out
           clear HA
           simp only [laws_FnStates.l3] at H
           by_cases c65 : x10_3 < (t576.length : Int)
           ·rw [if_pos c65] at H
            have c65b0 := decide_eq_true c65
            clear c65
            by_cases c66 : 0 ≤ x10_3
            ·rw [if_pos c66] at H
             have c66b0 := decide_eq_true c66
             clear c66
             by_cases c67 : ((rd_T32 t576 x10_3).f1.f1) = ((rd_T66 t579 x5_1).f0)
             ·rw [if_pos c67] at H
              have c67b0 := beq_iff_eq.mpr c67
              have c67b1 := bne_eq_false_iff_eq.mpr c67
              clear c67
              by_cases c68 : ((rd_T32 t576 x10_3).f1.f0) = 2
              ·rw [if_pos c68] at H
               have c68b0 := beq_iff_eq.mpr c68
               have c68b1 := bne_eq_false_iff_eq.mpr c68
               clear c68
               exact absurd H (by simp)
              ·rw [if_neg c68] at H
               have c68b0 := beq_eq_false_iff_ne.mpr c68
               have c68b1 := bne_iff_ne.mpr c68
               by_cases c75 : ((rd_T32 t576 x10_3).f1.f0) = 3
               ·rw [if_pos c75] at H
                have c75b0 := beq_iff_eq.mpr c75
                have c75b1 := bne_eq_false_iff_eq.mpr c75
                clear c75
                by_cases c76 : ((rd_T32 t576 x10_3).f1.f2) ≥ ((rd_T66 t579 x5_1).f3)
                ·rw [if_pos c76] at H
                 have c76b0 : decide (((rd_T66 t579 x5_1).f3) ≤ ((rd_T32 t576 x10_3).f1.f2)) = true := decide_eq_true c76
                 clear c76
                 exact absurd H (by simp)
                ·rw [if_neg c76] at H
                 have c76b0 : decide (((rd_T66 t579 x5_1).f3) ≤ ((rd_T32 t576 x10_3).f1.f2)) = false := decide_eq_false c76
                 clear c76
                 have H' := Aside0.mk H
                 clear H
                 have p591 : 0 ≤ (x10_3 : Int) := oda
                 have q591 : x10_3 < (t576.length : Int) := oda
                 obtain ⟨ad591, e591, hx591_0, hx591_1, hx591_2, hx591_3, hx591_4, hx591_5, hx591_6, hx591_7, hx591_8⟩ := at_T32 (Kd.R_reads' HO_3.out).2.2 x10_3 p591 q591
                 cases e591
                 replace p591 := eq_true p591
                 replace q591 := eq_true q591
                 go_wp2_with (first | ((with_reducible refine gate_dst (N := 11) rfl ?_); refine bx 11 #[.int .i64 0, .int .i64 0, .int .i64 0, .int .i64 0, .int .i64 0, .string (⟨#[]⟩ : ByteArray), .string (⟨#[]⟩ : ByteArray), .string (⟨#[]⟩ : ByteArray)] 23 ?_; intro gb592 hg w83 hbox hb; replace HO_3 := rB HO_3 hb; replace HO_583000 := ak (Kd.S_below (by (with_reducible repeat (first | apply Kd.S_alloc | apply Kd.S_drewN | apply Kd.S_drew)); exact HO_583000.out) hb); replace BK592 := ak (hbox); replace GW592 := ak (bz hg (lT HB (gC GE582 (gC GE584 gN)))); replace GE592 := ak (bz hg (lT HB (gC GE582 (gC GE584 gN)))); replace HB := ak (below_step (lT HB (gC GE582 (gC GE584 gN))) hb); replace NB582_592 := ak (nl hg (bG BK582)); replace NB592_582 := ak (ng hg (bG BK582)); replace BK582 := bB BK582 hb; replace NB584_592 := ak (nl hg (bG BK584)); replace NB592_584 := ak (ng hg (bG BK584)); replace BK584 := bB BK584 hb; clear hb hbox hg; have hnb84 := NB592_582.out; have hnc84 := NB582_592.out; have hnb85 := NB592_584.out; have hnc85 := NB584_592.out; obtain ⟨_, _, _, _, _, _, _, _, _, _, _, _, _, _, _, _⟩ := bC8 BK592; have hnb87 := NB584_582.out; have hnc87 := NB582_584.out; obtain ⟨_, _, _, _, _, _, _, _, _, _⟩ := bC5 BK584))
                 go_roundg k3
                 case measure => have := HK1.out; have := HK2.out; have := HK3.out; omega
                 case rel => exact ⟨_, rr, H', ⟨by have := HK1.out; have := HK2.out; have := HK3.out; omega⟩, ⟨by exact Kd.R_mono (rT HO_3 BK592 (by decide)) (fun _ hk => trivial)⟩, ⟨by (with_reducible repeat (first | apply Kd.S_alloc | apply Kd.S_drewN | apply Kd.S_drew)); exact Kd.S_mono (Kd.S_far (p := ⟨gb592, 7, none⟩) (Kd.S_far (p := ⟨gb592, 6, none⟩) (Kd.S_far (p := ⟨gb592, 5, none⟩) (Kd.S_far (p := ⟨gb592, 4, none⟩) (Kd.S_far (p := ⟨gb592, 3, none⟩) (Kd.S_far (p := ⟨gb592, 2, none⟩) (Kd.S_far (p := ⟨gb592, 1, none⟩) (Kd.S_far (p := ⟨gb592, 0, none⟩) (Kd.S_types HO_583000.out BK592.out (by decide)) (fun _ hk => hk.2) (.int .i64 ((rd_T32 t576 x10_3).f1.f0))) (fun _ hk => hk.2) (.int .i64 ((rd_T32 t576 x10_3).f1.f1))) (fun _ hk => hk.2) (.int .i64 ((rd_T32 t576 x10_3).f1.f2))) (fun _ hk => hk.2) (.int .i64 ((rd_T32 t576 x10_3).f1.f3))) (fun _ hk => hk.2) (.int .i64 ((rd_T32 t576 x10_3).f1.f4))) (fun _ hk => hk.2) (.string ((rd_T32 t576 x10_3).f1.f5))) (fun _ hk => hk.2) (.string ((rd_T32 t576 x10_3).f1.f6))) (fun _ hk => hk.2) (.string ((rd_T32 t576 x10_3).f1.f7))) (fun _ hk => hk.1)⟩, ⟨bF BK582 (nC NB582_592 nN)⟩, ⟨bF BK584 (nC NB584_592 nN)⟩, ⟨by exact lT HB (gC GE582 (gC GE584 (gC GE592 gN)))⟩⟩
               ·rw [if_neg c75] at H
                have c75b0 := beq_eq_false_iff_ne.mpr c75
                have c75b1 := bne_iff_ne.mpr c75
                have H' := Aside0.mk H
                clear H
                have p591 : 0 ≤ (x10_3 : Int) := oda
                have q591 : x10_3 < (t576.length : Int) := oda
                obtain ⟨ad591, e591, hx591_0, hx591_1, hx591_2, hx591_3, hx591_4, hx591_5, hx591_6, hx591_7, hx591_8⟩ := at_T32 (Kd.R_reads' HO_3.out).2.2 x10_3 p591 q591
                cases e591
                replace p591 := eq_true p591
                replace q591 := eq_true q591
                go_wp2_with (first | ((with_reducible refine gate_dst (N := 11) rfl ?_); refine bx 11 #[.int .i64 0, .int .i64 0, .int .i64 0, .int .i64 0, .int .i64 0, .string (⟨#[]⟩ : ByteArray), .string (⟨#[]⟩ : ByteArray), .string (⟨#[]⟩ : ByteArray)] 23 ?_; intro gb592 hg w89 hbox hb; replace HO_3 := rB HO_3 hb; replace HO_583000 := ak (Kd.S_below (by (with_reducible repeat (first | apply Kd.S_alloc | apply Kd.S_drewN | apply Kd.S_drew)); exact HO_583000.out) hb); replace BK592 := ak (hbox); replace GW592 := ak (bz hg (lT HB (gC GE582 (gC GE584 gN)))); replace GE592 := ak (bz hg (lT HB (gC GE582 (gC GE584 gN)))); replace HB := ak (below_step (lT HB (gC GE582 (gC GE584 gN))) hb); replace NB582_592 := ak (nl hg (bG BK582)); replace NB592_582 := ak (ng hg (bG BK582)); replace BK582 := bB BK582 hb; replace NB584_592 := ak (nl hg (bG BK584)); replace NB592_584 := ak (ng hg (bG BK584)); replace BK584 := bB BK584 hb; clear hb hbox hg; have hnb90 := NB592_582.out; have hnc90 := NB582_592.out; have hnb91 := NB592_584.out; have hnc91 := NB584_592.out; obtain ⟨_, _, _, _, _, _, _, _, _, _, _, _, _, _, _, _⟩ := bC8 BK592; have hnb93 := NB584_582.out; have hnc93 := NB582_584.out; obtain ⟨_, _, _, _, _, _, _, _, _, _⟩ := bC5 BK584))
                go_roundg k3
                case measure => have := HK1.out; have := HK2.out; have := HK3.out; omega
                case rel => exact ⟨_, rr, H', ⟨by have := HK1.out; have := HK2.out; have := HK3.out; omega⟩, ⟨by exact Kd.R_mono (rT HO_3 BK592 (by decide)) (fun _ hk => trivial)⟩, ⟨by (with_reducible repeat (first | apply Kd.S_alloc | apply Kd.S_drewN | apply Kd.S_drew)); exact Kd.S_mono (Kd.S_far (p := ⟨gb592, 7, none⟩) (Kd.S_far (p := ⟨gb592, 6, none⟩) (Kd.S_far (p := ⟨gb592, 5, none⟩) (Kd.S_far (p := ⟨gb592, 4, none⟩) (Kd.S_far (p := ⟨gb592, 3, none⟩) (Kd.S_far (p := ⟨gb592, 2, none⟩) (Kd.S_far (p := ⟨gb592, 1, none⟩) (Kd.S_far (p := ⟨gb592, 0, none⟩) (Kd.S_types HO_583000.out BK592.out (by decide)) (fun _ hk => hk.2) (.int .i64 ((rd_T32 t576 x10_3).f1.f0))) (fun _ hk => hk.2) (.int .i64 ((rd_T32 t576 x10_3).f1.f1))) (fun _ hk => hk.2) (.int .i64 ((rd_T32 t576 x10_3).f1.f2))) (fun _ hk => hk.2) (.int .i64 ((rd_T32 t576 x10_3).f1.f3))) (fun _ hk => hk.2) (.int .i64 ((rd_T32 t576 x10_3).f1.f4))) (fun _ hk => hk.2) (.string ((rd_T32 t576 x10_3).f1.f5))) (fun _ hk => hk.2) (.string ((rd_T32 t576 x10_3).f1.f6))) (fun _ hk => hk.2) (.string ((rd_T32 t576 x10_3).f1.f7))) (fun _ hk => hk.1)⟩, ⟨bF BK582 (nC NB582_592 nN)⟩, ⟨bF BK584 (nC NB584_592 nN)⟩, ⟨by exact lT HB (gC GE582 (gC GE584 (gC GE592 gN)))⟩⟩
             ·rw [if_neg c67] at H
              have c67b0 := beq_eq_false_iff_ne.mpr c67
              have c67b1 := bne_iff_ne.mpr c67
              have H' := Aside0.mk H
              clear H
              have p591 : 0 ≤ (x10_3 : Int) := oda
              have q591 : x10_3 < (t576.length : Int) := oda
              obtain ⟨ad591, e591, hx591_0, hx591_1, hx591_2, hx591_3, hx591_4, hx591_5, hx591_6, hx591_7, hx591_8⟩ := at_T32 (Kd.R_reads' HO_3.out).2.2 x10_3 p591 q591
              cases e591
              replace p591 := eq_true p591
              replace q591 := eq_true q591
              go_wp2_with (first | ((with_reducible refine gate_dst (N := 11) rfl ?_); refine bx 11 #[.int .i64 0, .int .i64 0, .int .i64 0, .int .i64 0, .int .i64 0, .string (⟨#[]⟩ : ByteArray), .string (⟨#[]⟩ : ByteArray), .string (⟨#[]⟩ : ByteArray)] 23 ?_; intro gb592 hg w95 hbox hb; replace HO_3 := rB HO_3 hb; replace HO_583000 := ak (Kd.S_below (by (with_reducible repeat (first | apply Kd.S_alloc | apply Kd.S_drewN | apply Kd.S_drew)); exact HO_583000.out) hb); replace BK592 := ak (hbox); replace GW592 := ak (bz hg (lT HB (gC GE582 (gC GE584 gN)))); replace GE592 := ak (bz hg (lT HB (gC GE582 (gC GE584 gN)))); replace HB := ak (below_step (lT HB (gC GE582 (gC GE584 gN))) hb); replace NB582_592 := ak (nl hg (bG BK582)); replace NB592_582 := ak (ng hg (bG BK582)); replace BK582 := bB BK582 hb; replace NB584_592 := ak (nl hg (bG BK584)); replace NB592_584 := ak (ng hg (bG BK584)); replace BK584 := bB BK584 hb; clear hb hbox hg; have hnb96 := NB592_582.out; have hnc96 := NB582_592.out; have hnb97 := NB592_584.out; have hnc97 := NB584_592.out; obtain ⟨_, _, _, _, _, _, _, _, _, _, _, _, _, _, _, _⟩ := bC8 BK592; have hnb99 := NB584_582.out; have hnc99 := NB582_584.out; obtain ⟨_, _, _, _, _, _, _, _, _, _⟩ := bC5 BK584))
              go_roundg k3
              case measure => have := HK1.out; have := HK2.out; have := HK3.out; omega
              case rel => exact ⟨_, rr, H', ⟨by have := HK1.out; have := HK2.out; have := HK3.out; omega⟩, ⟨by exact Kd.R_mono (rT HO_3 BK592 (by decide)) (fun _ hk => trivial)⟩, ⟨by (with_reducible repeat (first | apply Kd.S_alloc | apply Kd.S_drewN | apply Kd.S_drew)); exact Kd.S_mono (Kd.S_far (p := ⟨gb592, 7, none⟩) (Kd.S_far (p := ⟨gb592, 6, none⟩) (Kd.S_far (p := ⟨gb592, 5, none⟩) (Kd.S_far (p := ⟨gb592, 4, none⟩) (Kd.S_far (p := ⟨gb592, 3, none⟩) (Kd.S_far (p := ⟨gb592, 2, none⟩) (Kd.S_far (p := ⟨gb592, 1, none⟩) (Kd.S_far (p := ⟨gb592, 0, none⟩) (Kd.S_types HO_583000.out BK592.out (by decide)) (fun _ hk => hk.2) (.int .i64 ((rd_T32 t576 x10_3).f1.f0))) (fun _ hk => hk.2) (.int .i64 ((rd_T32 t576 x10_3).f1.f1))) (fun _ hk => hk.2) (.int .i64 ((rd_T32 t576 x10_3).f1.f2))) (fun _ hk => hk.2) (.int .i64 ((rd_T32 t576 x10_3).f1.f3))) (fun _ hk => hk.2) (.int .i64 ((rd_T32 t576 x10_3).f1.f4))) (fun _ hk => hk.2) (.string ((rd_T32 t576 x10_3).f1.f5))) (fun _ hk => hk.2) (.string ((rd_T32 t576 x10_3).f1.f6))) (fun _ hk => hk.2) (.string ((rd_T32 t576 x10_3).f1.f7))) (fun _ hk => hk.1)⟩, ⟨bF BK582 (nC NB582_592 nN)⟩, ⟨bF BK584 (nC NB584_592 nN)⟩, ⟨by exact lT HB (gC GE582 (gC GE584 (gC GE592 gN)))⟩⟩
            ·rw [if_neg c66] at H
             exact absurd H (by simp)
           ·rw [if_neg c65] at H
            have c65b0 := decide_eq_false c65
            clear c65
            have H' := Aside0.mk H
            clear H
            go_wp2
            go_roundg k3
            case measure => have := HK1.out; have := HK2.out; have := HK3.out; omega
            case rel => exact ⟨_, rr, H', ⟨by have := HK1.out; have := HK2.out; have := HK3.out; omega⟩, ⟨by (with_reducible repeat (first | apply Kd.R_alloc | apply Kd.R_drewN | apply Kd.R_drew)); exact HO_3.out⟩, ⟨by (with_reducible repeat (first | apply Kd.S_alloc | apply Kd.S_drewN | apply Kd.S_drew)); exact Kd.S_mono HO_583000.out (fun _ hk => trivial)⟩, ⟨bG BK582⟩, ⟨by exact lT HB (gC GE582 (gC GE584 gN))⟩⟩
     ·rw [if_neg c13] at H
      exact absurd H (by simp)
    ·rw [if_neg c12] at H
     have c12b0 := decide_eq_false c12
     clear c12
     obtain ⟨⟨t593, t596, t597⟩, A101, H⟩ := eb H
     try dsimp only at H
     obtain ⟨⟨t599, t600, t601, t602, t603, t606⟩, A102, H⟩ := eb H
     try dsimp only at H
     obtain ⟨⟨t608, t609, t610, t611, t612, t615⟩, A103, H⟩ := eb H
     try dsimp only at H
     by_cases c104 : (t606 == t615) = true
     ·rw [if_pos c104] at H
      have c104b0 : (t606 == t615) = true := c104
      (try (have c104b1 : decide (t606 = t615) = true := by simpa using c104))
      (try (have c104b2 : (t606 == t615) = true := by simpa using c104))
      clear c104
      by_cases c105 : t606 = true
      ·subst c105
       rw [if_pos rfl] at H
       by_cases c106 : t600.toList = t596.toList
       ·rw [if_pos c106] at H
        have c106b0 := beq_iff_eq.mpr c106
        have c106b1 := bne_eq_false_iff_eq.mpr c106
        clear c106
        by_cases c107 : t601.toList = t597.toList
        ·rw [if_pos c107] at H
         have c107b0 := beq_iff_eq.mpr c107
         have c107b1 := bne_eq_false_iff_eq.mpr c107
         clear c107
         obtain ⟨t617, A108, H⟩ := eb H
         try dsimp only at H
         obtain ⟨t620, A109, H⟩ := eb H
         try dsimp only at H
         obtain ⟨t623, A110, H⟩ := eb H
         try dsimp only at H
         by_cases c111 : t623 = true
         ·subst c111
          rw [if_pos rfl] at H
          obtain ⟨t624, A112, H⟩ := eb H
          try dsimp only at H
          obtain ⟨t625, A113, H⟩ := eb H
          try dsimp only at H
          have HRES := Option.some.inj H
          obtain ⟨_, _⟩ := bC1 BK582
          try go_wp2_with (first | ((with_reducible refine gate_callee (f := 39) rfl ?_); refine gl (some 140) Try.func39 #[.slice A0 l0.length c0] ?_; (with_reducible refine (spec_DrawBoxOf.calls k1 _ _ l0 t593 t596 t597 _ ?side1 ?side2 A101.out).mono ?_); (case side1 => exact cG (Kd.C_below HR0.out HB.out)); (case side2 => exact HC0.out); rintro e w115 ⟨v594, rfl, ho0, hb⟩; refine ⟨_, rfl, ?_⟩; replace HO_3 := rB HO_3 hb; replace HO595 := ak (Kd.S_lower (Kd.S_new' ho0 (Kd.S_lt (by (with_reducible repeat (first | apply Kd.S_alloc | apply Kd.S_drewN | apply Kd.S_drew)); exact HO_583000.out))) (below_size (lT HB (gC GE582 gN)))); replace HO_583000 := ak (Kd.S_elder' (by (with_reducible repeat (first | apply Kd.S_alloc | apply Kd.S_drewN | apply Kd.S_drew)); exact HO_583000.out) (Kd.S_base ho0) hb); replace BK582 := bB BK582 hb; replace HB := ak (below_step (lT HB (gC GE582 gN)) hb); (try clear hb); (try clear hk); (try clear ho0)) | ((with_reducible refine gate_dst (N := 12) rfl ?_); refine bx 12 #[.slice none 0 0] 60 ?_; intro gb598 hg w116 hbox hb; replace HO_3 := rB HO_3 hb; replace HO_583000 := ak (Kd.S_below (by (with_reducible repeat (first | apply Kd.S_alloc | apply Kd.S_drewN | apply Kd.S_drew)); exact HO_583000.out) hb); replace HO595 := ak (Kd.S_below (by (with_reducible repeat (first | apply Kd.S_alloc | apply Kd.S_drewN | apply Kd.S_drew)); exact HO595.out) hb); replace BK598 := ak (hbox); replace GW598 := ak (bz hg (lT HB (gC GE582 gN))); replace GE598 := ak (bz hg (lT HB (gC GE582 gN))); replace HB := ak (below_step (lT HB (gC GE582 gN)) hb); replace NB582_598 := ak (nl hg (bG BK582)); replace NB598_582 := ak (ng hg (bG BK582)); replace BK582 := bB BK582 hb; clear hb hbox hg; obtain ⟨Ao117, co117, eo117⟩ := Kd.S_slice HO595.out; subst eo117; have hnb118 := NB598_582.out; have hnc118 := NB582_598.out; obtain ⟨_, _⟩ := bC1 BK598) | ((with_reducible refine gate_callee (f := 40) rfl ?_); refine gl (some 148) Try.func40 #[.agg #[.slice Ao117 t593.length co117], .string t596, .string t597] ?_; (with_reducible refine (impl_BoxOf.calls k1 _ _ t593 t596 t597 t599 t600 t601 t602 t603 true _ ?side1 ?side2 A102.out).mono ?_); (case side1 => refine (Kd.S_reads' (e := 66) (base := w.heap.size) (ok := fun k_ => (True ∧ some k_ ≠ (.slice Ao10 t579.length co10 : Value).ownBlock)) (n := t593.length) (c := co117) ?_).2.2; exact (by (with_reducible repeat (first | apply Kd.S_alloc | apply Kd.S_drewN | apply Kd.S_drew)); exact (Kd.S_mono (Kd.S_far (p := ⟨gb598, 0, none⟩) (Kd.S_types HO595.out BK598.out (by decide)) (fun _ hk => hk.2) (.slice Ao117 t593.length co117)) (fun _ h_ => h_.1)))); (case side2 => exact (Kd.S_reads' HO595.out).2.1); rintro e w120 ⟨v604, rfl, ho0, hb⟩; refine ⟨_, rfl, ?_⟩; replace HO_3 := ak (Kd.R_below (rT HO_3 BK598 (by decide)) hb); replace HO_583000 := ak (Kd.S_elder' (by (with_reducible repeat (first | apply Kd.S_alloc | apply Kd.S_drewN | apply Kd.S_drew)); exact (Kd.S_mono (Kd.S_far (p := ⟨gb598, 0, none⟩) (Kd.S_types HO_583000.out BK598.out (by decide)) (fun _ hk => hk.2) (.slice Ao117 t593.length co117)) (fun _ h_ => h_.1))) (Kd.R_base ho0) hb); replace HO595 := ak (Kd.S_elder' (by (with_reducible repeat (first | apply Kd.S_alloc | apply Kd.S_drewN | apply Kd.S_drew)); exact (Kd.S_mono (Kd.S_far (p := ⟨gb598, 0, none⟩) (Kd.S_types HO595.out BK598.out (by decide)) (fun _ hk => hk.2) (.slice Ao117 t593.length co117)) (fun _ h_ => h_.1))) (Kd.R_base ho0) hb); replace HO605 := ak (Kd.R_lower ho0 (below_size (lT HB (gC GE582 (gC GE598 gN))))); replace BK582 := ak (blk_below (bT BK582 (nC NB582_598 nN)) hb); replace BK598 := ak (blk_below (g := gb598) (o := .cells #[.slice Ao117 t593.length co117] 60 (0, 0)) (bW BK598) hb); replace HB := ak (below_step (lT HB (gC GE582 (gC GE598 gN))) hb); (try clear hb); (try clear hk); (try clear ho0)) | ((with_reducible refine gate_dst (N := 15) rfl ?_); refine bx 15 #[.int .i64 0, .string (⟨#[]⟩ : ByteArray), .string (⟨#[]⟩ : ByteArray), .int .i64 0, .slice none 0 0] 66 ?_; intro gb607 hg w121 hbox hb; replace HO_3 := rB HO_3 hb; replace HO_583000 := ak (Kd.S_below (Kd.S_elderB (by (with_reducible repeat (first | apply Kd.S_alloc | apply Kd.S_drewN | apply Kd.S_drew)); exact HO_583000.out) gb607 (Nat.le_of_eq hg.symm)) hb); replace HO595 := ak (Kd.S_below (Kd.S_elderB (by (with_reducible repeat (first | apply Kd.S_alloc | apply Kd.S_drewN | apply Kd.S_drew)); exact HO595.out) gb607 (Nat.le_of_eq hg.symm)) hb); replace HO605 := rB HO605 hb; replace BK607 := ak (hbox); replace GW607 := ak (bz hg (lT HB (gC GE582 (gC GE598 gN)))); replace GE607 := ak (bz hg (lT HB (gC GE582 (gC GE598 gN)))); replace HB := ak (below_step (lT HB (gC GE582 (gC GE598 gN))) hb); replace NB582_607 := ak (nl hg (bG BK582)); replace NB607_582 := ak (ng hg (bG BK582)); replace BK582 := bB BK582 hb; replace NB598_607 := ak (nl hg (bG BK598)); replace NB607_598 := ak (ng hg (bG BK598)); replace BK598 := bB BK598 hb; clear hb hbox hg; have hnb122 := NB607_582.out; have hnc122 := NB582_607.out; have hnb123 := NB607_598.out; have hnc123 := NB598_607.out; obtain ⟨_, _, _, _, _, _, _, _, _, _⟩ := bC5 BK607; obtain ⟨Ao125, co125, eo125⟩ := Kd.R_slice HO605.out; subst eo125; obtain ⟨_, _⟩ := bC1 BK598) | ((with_reducible refine gate_callee (f := 41) rfl ?_); refine gl (some 155) Try.func41 #[.agg #[.slice Ao117 t593.length co117], .string t596, .string t597] ?_; (with_reducible refine (spec_BoxOf.calls k1 _ _ t593 t596 t597 t608 t609 t610 t611 t612 t615 _ ?side1 ?side2 A103.out).mono ?_); (case side1 => refine (Kd.S_reads' (e := 66) (base := w.heap.size) (ok := fun k_ => (((True ∧ some k_ ≠ (.slice Ao10 t579.length co10 : Value).ownBlock) ∧ some k_ ≠ (.slice Ao125 t603.length co125 : Value).ownBlock) ∧ k_ ≠ gb607)) (n := t593.length) (c := co117) ?_).2.2; exact (by (with_reducible repeat (first | apply Kd.S_alloc | apply Kd.S_drewN | apply Kd.S_drew)); exact (Kd.S_mono (Kd.S_far (p := ⟨gb607, 4, none⟩) (Kd.S_far (p := ⟨gb607, 3, none⟩) (Kd.S_far (p := ⟨gb607, 2, none⟩) (Kd.S_far (p := ⟨gb607, 1, none⟩) (Kd.S_far (p := ⟨gb607, 0, none⟩) (Kd.S_mono HO595.out (fun k_ hk => (⟨hk, hk.2⟩ : _ ∧ k_ ≠ gb607))) (fun _ hk => hk.2) (.int .i64 t599)) (fun _ hk => hk.2) (.string t600)) (fun _ hk => hk.2) (.string t601)) (fun _ hk => hk.2) (.int .i64 t602)) (fun _ hk => hk.2) (.slice Ao125 t603.length co125)) (fun _ h_ => h_.1)))); (case side2 => exact (Kd.S_reads' HO595.out).2.1); rintro e w127 ⟨v613, rfl, ho0, hb⟩; refine ⟨_, rfl, ?_⟩; replace HO_3 := ak (Kd.R_below (rT HO_3 BK607 (by decide)) hb); replace HO_583000 := ak (Kd.S_elder' (by (with_reducible repeat (first | apply Kd.S_alloc | apply Kd.S_drewN | apply Kd.S_drew)); exact (Kd.S_mono (Kd.S_far (p := ⟨gb607, 4, none⟩) (Kd.S_far (p := ⟨gb607, 3, none⟩) (Kd.S_far (p := ⟨gb607, 2, none⟩) (Kd.S_far (p := ⟨gb607, 1, none⟩) (Kd.S_far (p := ⟨gb607, 0, none⟩) (Kd.S_mono HO_583000.out (fun k_ hk => (⟨hk, hk.2⟩ : _ ∧ k_ ≠ gb607))) (fun _ hk => hk.2) (.int .i64 t599)) (fun _ hk => hk.2) (.string t600)) (fun _ hk => hk.2) (.string t601)) (fun _ hk => hk.2) (.int .i64 t602)) (fun _ hk => hk.2) (.slice Ao125 t603.length co125)) (fun _ h_ => h_.1))) (Kd.R_base ho0) hb); replace HO595 := ak (Kd.S_elder' (by (with_reducible repeat (first | apply Kd.S_alloc | apply Kd.S_drewN | apply Kd.S_drew)); exact (Kd.S_mono (Kd.S_far (p := ⟨gb607, 4, none⟩) (Kd.S_far (p := ⟨gb607, 3, none⟩) (Kd.S_far (p := ⟨gb607, 2, none⟩) (Kd.S_far (p := ⟨gb607, 1, none⟩) (Kd.S_far (p := ⟨gb607, 0, none⟩) (Kd.S_mono HO595.out (fun k_ hk => (⟨hk, hk.2⟩ : _ ∧ k_ ≠ gb607))) (fun _ hk => hk.2) (.int .i64 t599)) (fun _ hk => hk.2) (.string t600)) (fun _ hk => hk.2) (.string t601)) (fun _ hk => hk.2) (.int .i64 t602)) (fun _ hk => hk.2) (.slice Ao125 t603.length co125)) (fun _ h_ => h_.1))) (Kd.R_base ho0) hb); replace HO614 := ak (Kd.R_lower (Kd.R_new' ho0 (Kd.R_lt (rT HO605 BK607 (by decide)))) (below_size (lT HB (gC GE582 (gC GE598 (gC GE607 gN)))))); replace HO605 := ak (Kd.R_elder' (rT HO605 BK607 (by decide)) (Kd.R_base ho0) hb); replace BK582 := ak (blk_below (bT BK582 (nC NB582_607 nN)) hb); replace BK598 := ak (blk_below (bT BK598 (nC NB598_607 nN)) hb); replace BK607 := ak (blk_below (g := gb607) (o := .cells #[.int .i64 t599, .string t600, .string t601, .int .i64 t602, .slice Ao125 t603.length co125] 66 (0, 0)) (bW BK607) hb); replace HB := ak (below_step (lT HB (gC GE582 (gC GE598 (gC GE607 gN)))) hb); (try clear hb); (try clear hk); (try clear ho0)) | ((with_reducible refine gate_dst (N := 17) rfl ?_); refine bx 17 #[.int .i64 0, .string (⟨#[]⟩ : ByteArray), .string (⟨#[]⟩ : ByteArray), .int .i64 0, .slice none 0 0] 66 ?_; intro gb616 hg w128 hbox hb; replace HO_3 := rB HO_3 hb; replace HO_583000 := ak (Kd.S_below (Kd.S_elderB (by (with_reducible repeat (first | apply Kd.S_alloc | apply Kd.S_drewN | apply Kd.S_drew)); exact HO_583000.out) gb616 (Nat.le_of_eq hg.symm)) hb); replace HO595 := ak (Kd.S_below (Kd.S_elderB (by (with_reducible repeat (first | apply Kd.S_alloc | apply Kd.S_drewN | apply Kd.S_drew)); exact HO595.out) gb616 (Nat.le_of_eq hg.symm)) hb); replace HO605 := rB HO605 hb; replace HO614 := rB HO614 hb; replace BK616 := ak (hbox); replace GW616 := ak (bz hg (lT HB (gC GE582 (gC GE598 (gC GE607 gN))))); replace GE616 := ak (bz hg (lT HB (gC GE582 (gC GE598 (gC GE607 gN))))); replace HB := ak (below_step (lT HB (gC GE582 (gC GE598 (gC GE607 gN)))) hb); replace NB582_616 := ak (nl hg (bG BK582)); replace NB616_582 := ak (ng hg (bG BK582)); replace BK582 := bB BK582 hb; replace NB598_616 := ak (nl hg (bG BK598)); replace NB616_598 := ak (ng hg (bG BK598)); replace BK598 := bB BK598 hb; replace NB607_616 := ak (nl hg (bG BK607)); replace NB616_607 := ak (ng hg (bG BK607)); replace BK607 := bB BK607 hb; clear hb hbox hg; have hnb129 := NB616_582.out; have hnc129 := NB582_616.out; have hnb130 := NB616_598.out; have hnc130 := NB598_616.out; have hnb131 := NB616_607.out; have hnc131 := NB607_616.out; obtain ⟨_, _, _, _, _, _, _, _, _, _⟩ := bC5 BK616; obtain ⟨Ao133, co133, eo133⟩ := Kd.R_slice HO614.out; subst eo133))
          obtain ⟨w134, eW_⟩ : ∃ w_, w_ = (((((w128.setCell ⟨gb616, 0, none⟩ (.int .i64 t608)).setCell ⟨gb616, 1, none⟩ (.string t609)).setCell ⟨gb616, 2, none⟩ (.string t610)).setCell ⟨gb616, 3, none⟩ (.int .i64 t611)).setCell ⟨gb616, 4, none⟩ (.slice Ao133 t612.length co133)) := ⟨_, rfl⟩
          have n0_ : Aside0 (Kd.R k32 32 w134 w.heap.size (fun _ => True) (.slice Ao7 t576.length co7) t576) := by rw [eW_]; exact ⟨by exact Kd.R_mono (rT HO_3 BK616 (by decide)) (fun _ hk => trivial)⟩
          have n1_ : Aside0 (Kd.S k66 66 w134 w.heap.size (fun k_ => some k_ ≠ (.slice Ao117 t593.length co117 : Value).ownBlock ∧ some k_ ≠ (.slice Ao125 t603.length co125 : Value).ownBlock ∧ some k_ ≠ (.slice Ao133 t612.length co133 : Value).ownBlock ∧ k_ ≠ gb607 ∧ k_ ≠ gb616) (.slice Ao10 t579.length co10) t579) := by rw [eW_]; exact ⟨by (with_reducible repeat (first | apply Kd.S_alloc | apply Kd.S_drewN | apply Kd.S_drew)); exact Kd.S_mono (Kd.S_far (p := ⟨gb616, 4, none⟩) (Kd.S_far (p := ⟨gb616, 3, none⟩) (Kd.S_far (p := ⟨gb616, 2, none⟩) (Kd.S_far (p := ⟨gb616, 1, none⟩) (Kd.S_far (p := ⟨gb616, 0, none⟩) (Kd.S_mono HO_583000.out (fun k_ hk => (⟨hk, hk.2⟩ : _ ∧ k_ ≠ gb616))) (fun _ hk => hk.2) (.int .i64 t608)) (fun _ hk => hk.2) (.string t609)) (fun _ hk => hk.2) (.string t610)) (fun _ hk => hk.2) (.int .i64 t611)) (fun _ hk => hk.2) (.slice Ao133 t612.length co133)) (fun _ hk => ⟨hk.1.1.1.1.1.2, ⟨hk.1.1.1.1.2, ⟨hk.1.1.2, ⟨hk.1.1.1.2, hk.1.2⟩⟩⟩⟩)⟩
          have n2_ : Aside0 (Kd.S k66 66 w134 w.heap.size (fun k_ => some k_ ≠ (.slice Ao10 t579.length co10 : Value).ownBlock ∧ some k_ ≠ (.slice Ao125 t603.length co125 : Value).ownBlock ∧ some k_ ≠ (.slice Ao133 t612.length co133 : Value).ownBlock ∧ k_ ≠ gb607 ∧ k_ ≠ gb616) (.slice Ao117 t593.length co117) t593) := by rw [eW_]; exact ⟨by (with_reducible repeat (first | apply Kd.S_alloc | apply Kd.S_drewN | apply Kd.S_drew)); exact Kd.S_mono (Kd.S_far (p := ⟨gb616, 4, none⟩) (Kd.S_far (p := ⟨gb616, 3, none⟩) (Kd.S_far (p := ⟨gb616, 2, none⟩) (Kd.S_far (p := ⟨gb616, 1, none⟩) (Kd.S_far (p := ⟨gb616, 0, none⟩) (Kd.S_mono HO595.out (fun k_ hk => (⟨hk, hk.2⟩ : _ ∧ k_ ≠ gb616))) (fun _ hk => hk.2) (.int .i64 t608)) (fun _ hk => hk.2) (.string t609)) (fun _ hk => hk.2) (.string t610)) (fun _ hk => hk.2) (.int .i64 t611)) (fun _ hk => hk.2) (.slice Ao133 t612.length co133)) (fun _ hk => ⟨hk.1.1.1.1.1.2, ⟨hk.1.1.1.1.2, ⟨hk.1.1.2, ⟨hk.1.1.1.2, hk.1.2⟩⟩⟩⟩)⟩
          have n3_ : Aside0 (Kd.R k68 68 w134 w.heap.size (fun k_ => some k_ ≠ (.slice Ao133 t612.length co133 : Value).ownBlock) (.slice Ao125 t603.length co125) t603) := by rw [eW_]; exact ⟨by (with_reducible repeat (first | apply Kd.R_alloc | apply Kd.R_drewN | apply Kd.R_drew)); exact Kd.R_mono (Kd.R_far (p := ⟨gb616, 4, none⟩) (Kd.R_far (p := ⟨gb616, 3, none⟩) (Kd.R_far (p := ⟨gb616, 2, none⟩) (Kd.R_far (p := ⟨gb616, 1, none⟩) (Kd.R_far (p := ⟨gb616, 0, none⟩) (Kd.R_types HO605.out BK616.out (by decide)) (fun _ hk => hk.2) (.int .i64 t608)) (fun _ hk => hk.2) (.string t609)) (fun _ hk => hk.2) (.string t610)) (fun _ hk => hk.2) (.int .i64 t611)) (fun _ hk => hk.2) (.slice Ao133 t612.length co133)) (fun _ hk => hk.1.2)⟩
          have n4_ : Aside0 (Kd.R k68 68 w134 w.heap.size (fun k_ => some k_ ≠ (.slice Ao125 t603.length co125 : Value).ownBlock) (.slice Ao133 t612.length co133) t612) := by rw [eW_]; exact ⟨by (with_reducible repeat (first | apply Kd.R_alloc | apply Kd.R_drewN | apply Kd.R_drew)); exact Kd.R_mono (Kd.R_far (p := ⟨gb616, 4, none⟩) (Kd.R_far (p := ⟨gb616, 3, none⟩) (Kd.R_far (p := ⟨gb616, 2, none⟩) (Kd.R_far (p := ⟨gb616, 1, none⟩) (Kd.R_far (p := ⟨gb616, 0, none⟩) (Kd.R_types HO614.out BK616.out (by decide)) (fun _ hk => hk.2) (.int .i64 t608)) (fun _ hk => hk.2) (.string t609)) (fun _ hk => hk.2) (.string t610)) (fun _ hk => hk.2) (.int .i64 t611)) (fun _ hk => hk.2) (.slice Ao133 t612.length co133)) (fun _ hk => hk.1.2)⟩
          have n5_ : Aside0 (w134.heap[gb582]? = some (.cells #[.slice Ao10 t579.length co10] 60 (0, 0))) := by rw [eW_]; exact ⟨bF BK582 (nC NB582_616 nN)⟩
          have n6_ : Aside0 (w134.heap[gb598]? = some (.cells #[.slice Ao117 t593.length co117] 60 (0, 0))) := by rw [eW_]; exact ⟨bF BK598 (nC NB598_616 nN)⟩
          have n7_ : Aside0 (w134.heap[gb607]? = some (.cells #[.int .i64 t599, .string t600, .string t601, .int .i64 t602, .slice Ao125 t603.length co125] 66 (0, 0))) := by rw [eW_]; exact ⟨bF BK607 (nC NB607_616 nN)⟩
          have n8_ : Aside0 (w134.heap[gb616]? = some (.cells #[.int .i64 t608, .string t609, .string t610, .int .i64 t611, .slice Ao133 t612.length co133] 66 (0, 0))) := by rw [eW_]; exact ⟨bW BK616⟩
          have n9_ : Aside0 (Below w.heap.size w w134) := by rw [eW_]; exact ⟨by exact lT HB (gC GE582 (gC GE598 (gC GE607 (gC GE616 gN))))⟩
          (try clear HO_3)
          (try clear HO_583000)
          (try clear HO595)
          (try clear HO605)
          (try clear HO614)
          (try clear BK582)
          (try clear BK598)
          (try clear BK607)
          (try clear BK616)
          (try clear HB)
          rw [← eW_];clear eW_
          have HO_3 := n0_
          have HO_583000 := n1_
          have HO595 := n2_
          have HO605 := n3_
          have HO614 := n4_
          have BK582 := n5_
          have BK598 := n6_
          have BK607 := n7_
          have BK616 := n8_
          have HB := n9_
          clear n0_ n1_ n2_ n3_ n4_ n5_ n6_ n7_ n8_ n9_
          replace HO_3 := ak (Kd.R_drew HO_3.out)
          replace HO_583000 := ak (Kd.S_drew HO_583000.out)
          replace HO595 := ak (Kd.S_drew HO595.out)
          replace HO605 := ak (Kd.R_drew HO605.out)
          replace HO614 := ak (Kd.R_drew HO614.out)
          replace BK582 := ak (blk_drew BK582.out)
          replace BK598 := ak (blk_drew BK598.out)
          replace BK607 := ak (blk_drew BK607.out)
          replace BK616 := ak (blk_drew BK616.out)
          replace HB := ak (below_drew1 HB.out)
          refine start_ (n := 36) (S := fun w' => w'.cell? ⟨gb607, 0, none⟩ = some (.int .i64 t599) ∧ w'.cell? ⟨gb607, 1, none⟩ = some (.string t600) ∧ w'.cell? ⟨gb607, 2, none⟩ = some (.string t601) ∧ w'.cell? ⟨gb607, 3, none⟩ = some (.int .i64 t602) ∧ w'.cell? ⟨gb607, 4, none⟩ = some (.slice Ao125 t603.length co125) ∧ w'.cell? ⟨gb598, 0, none⟩ = some (.slice Ao117 t593.length co117)) (ds := []) (fb 36 0) (by kernel_rfl) rfl rfl ⟨bc BK607 0, bc BK607 1, bc BK607 2, bc BK607 3, bc BK607 4, bc BK598 0⟩ (fun hHeld => ?_); refine with_tabW laws_FnStates.tab29 laws_FnStates.bits29 (fun HT_ HW_ => ?_)
          generalize w134.drew = w135 at HO_3 HO_583000 HO595 HO605 HO614 BK582 BK598 BK607 BK616 HB hHeld ⊢
          refine pu 0 158 (fb 36 1) HT_ ?_
          refine pu 1 159 (fb 36 3) HT_ ?_
          refine pu 2 160 (fb 36 7) HT_ ?_
          refine pu 3 161 (fb 36 15) HT_ ?_
          refine pu 4 162 (fb 36 31) HT_ ?_
          refine pu 5 163 (fb 36 63) HT_ ?_
          refine pu 6 164 (fb 36 127) HT_ ?_
          refine pu 7 165 (fb 36 255) HT_ ?_
          refine pu 9 167 (fb 36 767) HT_ ?_
          refine tk 8 166 (fb 36 1023) HT_ HW_ hHeld ?_
          refine pu 10 168 (fb 36 2047) HT_ ?_
          refine pu 11 169 (fb 36 4095) HT_ ?_
          refine pu 12 170 (fb 36 8191) HT_ ?_
          refine pu 14 172 (fb 36 24575) HT_ ?_
          refine tk 13 171 (fb 36 32767) HT_ HW_ hHeld ?_
          refine pu 15 173 (fb 36 65535) HT_ ?_
          refine pu 16 174 (fb 36 131071) HT_ ?_
          refine pu 17 175 (fb 36 262143) HT_ ?_
          refine pu 18 176 (fb 36 524287) HT_ ?_
          refine pu 19 177 (fb 36 1048575) HT_ ?_
          refine pu 21 179 (fb 36 3145727) HT_ ?_
          refine pu 24 182 (fb 36 19922943) HT_ ?_
          refine tk 20 178 (fb 36 20971519) HT_ HW_ hHeld ?_
          refine tk 23 181 (fb 36 29360127) HT_ HW_ hHeld ?_
          refine on 22 (some 180) (fb 36 33554431) HT_ (fun K hK => ?_)
          refine gs Try.func43 #[.agg #[.slice Ao117 t593.length co117], .string t596] ?_
          with_reducible refine (impl_BoxesOf.calls k1 _ _ t593 t596 t617 _ ?side1 ?side2 A108.out).mono ?_
          (case side1 => repeat (first | exact (Kd.S_reads' HO595.out).2.2 | (with_reducible refine Kd.C_alloc ?_ _) | (with_reducible refine Kd.C_drewN ?_ _) | (with_reducible refine Kd.C_drew ?_)))
          (case side2 => exact (Kd.S_reads' HO595.out).2.1)
          rintro e w136 ⟨v618, rfl, ho0, hb⟩
          refine ⟨_, rfl, ?_⟩
          replace HO_3 := rB HO_3 hb
          replace HO_583000 := ak (Kd.S_below (by (with_reducible repeat (first | apply Kd.S_alloc | apply Kd.S_drewN | apply Kd.S_drew)); exact HO_583000.out) hb)
          replace HO595 := ak (Kd.S_below (by (with_reducible repeat (first | apply Kd.S_alloc | apply Kd.S_drewN | apply Kd.S_drew)); exact HO595.out) hb)
          replace HO605 := rB HO605 hb
          replace HO614 := rB HO614 hb
          replace HO619 := ak (Kd.R_lower ho0 (below_size (lT HB (gC GE582 (gC GE598 (gC GE607 (gC GE616 gN)))))))
          replace BK582 := bB BK582 hb
          replace BK598 := bB BK598 hb
          replace BK607 := bB BK607 hb
          replace BK616 := bB BK616 hb
          replace HB := ak (below_step (lT HB (gC GE582 (gC GE598 (gC GE607 (gC GE616 gN))))) hb)
          (try clear hb)
          (try clear hb2)
          (try clear hk)
          (try clear hi)
          (try clear ho0)
          refine hK.out _ _ ⟨bc BK607 0, bc BK607 1, bc BK607 2, bc BK607 3, bc BK607 4, bc BK598 0⟩ (fun hHeld => ?_)
          clear hK K
          refine nm ?_
          refine on 25 (some 183) (fb 36 67108863) HT_ (fun K hK => ?_)
          refine gs Try.func44 #[.agg #[.slice Ao117 t593.length co117], .string t596] ?_
          with_reducible refine (spec_BoxesOf.calls k1 _ _ t593 t596 t620 _ ?side1 ?side2 A109.out).mono ?_
          (case side1 => repeat (first | exact (Kd.S_reads' HO595.out).2.2 | (with_reducible refine Kd.C_alloc ?_ _) | (with_reducible refine Kd.C_drewN ?_ _) | (with_reducible refine Kd.C_drew ?_)))
          (case side2 => exact (Kd.S_reads' HO595.out).2.1)
          rintro e w137 ⟨v621, rfl, ho0, hb⟩
          refine ⟨_, rfl, ?_⟩
          replace HO_3 := rB HO_3 hb
          replace HO_583000 := ak (Kd.S_below (by (with_reducible repeat (first | apply Kd.S_alloc | apply Kd.S_drewN | apply Kd.S_drew)); exact HO_583000.out) hb)
          replace HO595 := ak (Kd.S_below (by (with_reducible repeat (first | apply Kd.S_alloc | apply Kd.S_drewN | apply Kd.S_drew)); exact HO595.out) hb)
          replace HO605 := rB HO605 hb
          replace HO614 := rB HO614 hb
          replace HO622 := ak (Kd.R_lower (Kd.R_new' ho0 (Kd.R_lt (rG HO619))) (below_size (lT HB (gC GE582 (gC GE598 (gC GE607 (gC GE616 gN)))))))
          replace HO619 := ak (Kd.R_elder' (rG HO619) (Kd.R_base ho0) hb)
          replace BK582 := bB BK582 hb
          replace BK598 := bB BK598 hb
          replace BK607 := bB BK607 hb
          replace BK616 := bB BK616 hb
          replace HB := ak (below_step (lT HB (gC GE582 (gC GE598 (gC GE607 (gC GE616 gN))))) hb)
          (try clear hb)
          (try clear hb2)
          (try clear hk)
          (try clear hi)
          (try clear ho0)
          obtain ⟨Ao138, co138, eo138⟩ := Kd.R_slice HO619.out
          (first | subst eo138 | (injection eo138 with f1_ f2_ f3_; have f4_ := f1_.symm; have f5_ := f3_.symm; clear f1_ f2_ f3_; subst f4_; subst f5_))
          obtain ⟨Ao139, co139, eo139⟩ := Kd.R_slice HO622.out
          (first | subst eo139 | (injection eo139 with f1_ f2_ f3_; have f4_ := f1_.symm; have f5_ := f3_.symm; clear f1_ f2_ f3_; subst f4_; subst f5_))
          refine hK.out _ _ ⟨bc BK607 0, bc BK607 1, bc BK607 2, bc BK607 3, bc BK607 4, bc BK598 0⟩ (fun hHeld => ?_)
          clear hK K
          refine nm ?_
          refine on 26 (some 184) (fb 36 134217727) HT_ (fun K hK => ?_)
          refine gs Try.func42 #[.slice Ao138 t617.length co138, .slice Ao139 t620.length co139] ?_
          with_reducible refine (laws_sameTexts.calls k1 _ _ t617 _ _ t620 true _ ?side1 ?side2 ?side3 ?side4 A110.out).mono ?_
          (case side1 => exact cG (Kd.R_reads' HO619.out).2.2)
          (case side2 => exact (Kd.R_reads' HO619.out).2.1)
          (case side3 => exact cG (Kd.R_reads' HO622.out).2.2)
          (case side4 => exact (Kd.R_reads' HO622.out).2.1)
          rintro e w' ⟨rfl, ⟨nd, rfl⟩⟩
          refine ⟨_, rfl, ?_⟩
          refine hK.out _ _ ⟨bc BK607 0, bc BK607 1, bc BK607 2, bc BK607 3, bc BK607 4, bc BK598 0⟩ (fun hHeld => ?_)
          clear hK K
          refine nm ?_
          refine pu 27 185 (fb 36 268435455) HT_ ?_
          refine pu 28 186 (fb 36 536870911) HT_ ?_
          refine pu 29 187 (fb 36 1073741823) HT_ ?_
          refine pu 31 189 (fb 36 3221225471) HT_ ?_
          refine on 30 (some 188) (fb 36 4294967295) HT_ (fun K hK => ?_)
          refine gs Try.func45 #[.slice Ao7 t576.length co7] ?_
          with_reducible refine (impl_ValidAfter.calls k1 _ _ t576 t624 _ ?side1 ?side2 A112.out).mono ?_
          (case side1 => exact cG (Kd.R_reads' HO_3.out).2.2)
          (case side2 => exact (Kd.R_reads' HO_3.out).2.1)
          rintro e w140 ⟨rfl, hb⟩
          refine ⟨_, rfl, ?_⟩
          replace HO_3 := rB HO_3 hb
          replace HO_583000 := ak (Kd.S_below (by (with_reducible repeat (first | apply Kd.S_alloc | apply Kd.S_drewN | apply Kd.S_drew)); exact HO_583000.out) hb)
          replace HO595 := ak (Kd.S_below (by (with_reducible repeat (first | apply Kd.S_alloc | apply Kd.S_drewN | apply Kd.S_drew)); exact HO595.out) hb)
          replace HO605 := rB HO605 hb
          replace HO614 := rB HO614 hb
          replace HO619 := rB HO619 hb
          replace HO622 := rB HO622 hb
          replace BK582 := bB BK582 hb
          replace BK598 := bB BK598 hb
          replace BK607 := bB BK607 hb
          replace BK616 := bB BK616 hb
          replace HB := ak (below_step (lT HB (gC GE582 (gC GE598 (gC GE607 (gC GE616 gN))))) hb)
          (try clear hb)
          (try clear hb2)
          (try clear hk)
          (try clear hi)
          refine hK.out _ _ ⟨bc BK607 0, bc BK607 1, bc BK607 2, bc BK607 3, bc BK607 4, bc BK598 0⟩ (fun hHeld => ?_)
          clear hK K
          refine nm ?_
          refine on 32 (some 190) (fb 36 8589934591) HT_ (fun K hK => ?_)
          refine gs Try.func46 #[.slice Ao7 t576.length co7] ?_
          with_reducible refine (spec_ValidAfter.calls k1 _ _ t576 t625 _ ?side1 ?side2 A113.out).mono ?_
          (case side1 => exact cG (Kd.R_reads' HO_3.out).2.2)
          (case side2 => exact (Kd.R_reads' HO_3.out).2.1)
          rintro e w' ⟨rfl, ⟨nd, rfl⟩⟩
          refine ⟨_, rfl, ?_⟩
          refine hK.out _ _ ⟨bc BK607 0, bc BK607 1, bc BK607 2, bc BK607 3, bc BK607 4, bc BK598 0⟩ (fun hHeld => ?_)
          clear hK K
          refine nm ?_
          refine pu 33 191 (fb 36 17179869183) HT_ ?_
          refine pu 34 192 (fb 36 34359738367) HT_ ?_
          refine pu 35 2 (fb 36 68719476735) HT_ ?_
          refine done_ (done_of HT_.out (by kernel_rfl)) ?_
          try go_wp2
          go_ret
          exact ⟨ew, by exact lT HB (gC GE582 (gC GE598 (gC GE607 (gC GE616 gN))))⟩
         ·replace c111 := Bool.eq_false_iff.mpr c111
          subst c111
          have H1 : (some false) = some true := by rw [if_neg (show ¬ (false = true) by decide)] at H; exact H
          exact absurd H1 (by simp)
        ·rw [if_neg c107] at H
         have c107b0 := beq_eq_false_iff_ne.mpr c107
         have c107b1 := bne_iff_ne.mpr c107
         exact absurd H (by simp)
       ·rw [if_neg c106] at H
        have c106b0 := beq_eq_false_iff_ne.mpr c106
        have c106b1 := bne_iff_ne.mpr c106
        exact absurd H (by simp)
      ·replace c105 := Bool.eq_false_iff.mpr c105
       subst c105
       rw [if_neg (show ¬ (false = true) by decide)] at H
       obtain ⟨t626, A211, H⟩ := eb H
       try dsimp only at H
       obtain ⟨t629, A212, H⟩ := eb H
       try dsimp only at H
       obtain ⟨t632, A213, H⟩ := eb H
       try dsimp only at H
       by_cases c214 : t632 = true
       ·subst c214
        rw [if_pos rfl] at H
        obtain ⟨t633, A215, H⟩ := eb H
        try dsimp only at H
        obtain ⟨t634, A216, H⟩ := eb H
        try dsimp only at H
        have HRES := Option.some.inj H
        obtain ⟨_, _⟩ := bC1 BK582
        try go_wp2_with (first | ((with_reducible refine gate_callee (f := 39) rfl ?_); refine gl (some 140) Try.func39 #[.slice A0 l0.length c0] ?_; (with_reducible refine (spec_DrawBoxOf.calls k1 _ _ l0 t593 t596 t597 _ ?side1 ?side2 A101.out).mono ?_); (case side1 => exact cG (Kd.C_below HR0.out HB.out)); (case side2 => exact HC0.out); rintro e w218 ⟨v594, rfl, ho0, hb⟩; refine ⟨_, rfl, ?_⟩; replace HO_3 := rB HO_3 hb; replace HO595 := ak (Kd.S_lower (Kd.S_new' ho0 (Kd.S_lt (by (with_reducible repeat (first | apply Kd.S_alloc | apply Kd.S_drewN | apply Kd.S_drew)); exact HO_583000.out))) (below_size (lT HB (gC GE582 gN)))); replace HO_583000 := ak (Kd.S_elder' (by (with_reducible repeat (first | apply Kd.S_alloc | apply Kd.S_drewN | apply Kd.S_drew)); exact HO_583000.out) (Kd.S_base ho0) hb); replace BK582 := bB BK582 hb; replace HB := ak (below_step (lT HB (gC GE582 gN)) hb); (try clear hb); (try clear hk); (try clear ho0)) | ((with_reducible refine gate_dst (N := 12) rfl ?_); refine bx 12 #[.slice none 0 0] 60 ?_; intro gb598 hg w219 hbox hb; replace HO_3 := rB HO_3 hb; replace HO_583000 := ak (Kd.S_below (by (with_reducible repeat (first | apply Kd.S_alloc | apply Kd.S_drewN | apply Kd.S_drew)); exact HO_583000.out) hb); replace HO595 := ak (Kd.S_below (by (with_reducible repeat (first | apply Kd.S_alloc | apply Kd.S_drewN | apply Kd.S_drew)); exact HO595.out) hb); replace BK598 := ak (hbox); replace GW598 := ak (bz hg (lT HB (gC GE582 gN))); replace GE598 := ak (bz hg (lT HB (gC GE582 gN))); replace HB := ak (below_step (lT HB (gC GE582 gN)) hb); replace NB582_598 := ak (nl hg (bG BK582)); replace NB598_582 := ak (ng hg (bG BK582)); replace BK582 := bB BK582 hb; clear hb hbox hg; obtain ⟨Ao220, co220, eo220⟩ := Kd.S_slice HO595.out; subst eo220; have hnb221 := NB598_582.out; have hnc221 := NB582_598.out; obtain ⟨_, _⟩ := bC1 BK598) | ((with_reducible refine gate_callee (f := 40) rfl ?_); refine gl (some 148) Try.func40 #[.agg #[.slice Ao220 t593.length co220], .string t596, .string t597] ?_; (with_reducible refine (impl_BoxOf.calls k1 _ _ t593 t596 t597 t599 t600 t601 t602 t603 false _ ?side1 ?side2 A102.out).mono ?_); (case side1 => refine (Kd.S_reads' (e := 66) (base := w.heap.size) (ok := fun k_ => (True ∧ some k_ ≠ (.slice Ao10 t579.length co10 : Value).ownBlock)) (n := t593.length) (c := co220) ?_).2.2; exact (by (with_reducible repeat (first | apply Kd.S_alloc | apply Kd.S_drewN | apply Kd.S_drew)); exact (Kd.S_mono (Kd.S_far (p := ⟨gb598, 0, none⟩) (Kd.S_types HO595.out BK598.out (by decide)) (fun _ hk => hk.2) (.slice Ao220 t593.length co220)) (fun _ h_ => h_.1)))); (case side2 => exact (Kd.S_reads' HO595.out).2.1); rintro e w223 ⟨v604, rfl, ho0, hb⟩; refine ⟨_, rfl, ?_⟩; replace HO_3 := ak (Kd.R_below (rT HO_3 BK598 (by decide)) hb); replace HO_583000 := ak (Kd.S_elder' (by (with_reducible repeat (first | apply Kd.S_alloc | apply Kd.S_drewN | apply Kd.S_drew)); exact (Kd.S_mono (Kd.S_far (p := ⟨gb598, 0, none⟩) (Kd.S_types HO_583000.out BK598.out (by decide)) (fun _ hk => hk.2) (.slice Ao220 t593.length co220)) (fun _ h_ => h_.1))) (Kd.R_base ho0) hb); replace HO595 := ak (Kd.S_elder' (by (with_reducible repeat (first | apply Kd.S_alloc | apply Kd.S_drewN | apply Kd.S_drew)); exact (Kd.S_mono (Kd.S_far (p := ⟨gb598, 0, none⟩) (Kd.S_types HO595.out BK598.out (by decide)) (fun _ hk => hk.2) (.slice Ao220 t593.length co220)) (fun _ h_ => h_.1))) (Kd.R_base ho0) hb); replace HO605 := ak (Kd.R_lower ho0 (below_size (lT HB (gC GE582 (gC GE598 gN))))); replace BK582 := ak (blk_below (bT BK582 (nC NB582_598 nN)) hb); replace BK598 := ak (blk_below (g := gb598) (o := .cells #[.slice Ao220 t593.length co220] 60 (0, 0)) (bW BK598) hb); replace HB := ak (below_step (lT HB (gC GE582 (gC GE598 gN))) hb); (try clear hb); (try clear hk); (try clear ho0)) | ((with_reducible refine gate_dst (N := 15) rfl ?_); refine bx 15 #[.int .i64 0, .string (⟨#[]⟩ : ByteArray), .string (⟨#[]⟩ : ByteArray), .int .i64 0, .slice none 0 0] 66 ?_; intro gb607 hg w224 hbox hb; replace HO_3 := rB HO_3 hb; replace HO_583000 := ak (Kd.S_below (Kd.S_elderB (by (with_reducible repeat (first | apply Kd.S_alloc | apply Kd.S_drewN | apply Kd.S_drew)); exact HO_583000.out) gb607 (Nat.le_of_eq hg.symm)) hb); replace HO595 := ak (Kd.S_below (Kd.S_elderB (by (with_reducible repeat (first | apply Kd.S_alloc | apply Kd.S_drewN | apply Kd.S_drew)); exact HO595.out) gb607 (Nat.le_of_eq hg.symm)) hb); replace HO605 := rB HO605 hb; replace BK607 := ak (hbox); replace GW607 := ak (bz hg (lT HB (gC GE582 (gC GE598 gN)))); replace GE607 := ak (bz hg (lT HB (gC GE582 (gC GE598 gN)))); replace HB := ak (below_step (lT HB (gC GE582 (gC GE598 gN))) hb); replace NB582_607 := ak (nl hg (bG BK582)); replace NB607_582 := ak (ng hg (bG BK582)); replace BK582 := bB BK582 hb; replace NB598_607 := ak (nl hg (bG BK598)); replace NB607_598 := ak (ng hg (bG BK598)); replace BK598 := bB BK598 hb; clear hb hbox hg; have hnb225 := NB607_582.out; have hnc225 := NB582_607.out; have hnb226 := NB607_598.out; have hnc226 := NB598_607.out; obtain ⟨_, _, _, _, _, _, _, _, _, _⟩ := bC5 BK607; obtain ⟨Ao228, co228, eo228⟩ := Kd.R_slice HO605.out; subst eo228; obtain ⟨_, _⟩ := bC1 BK598) | ((with_reducible refine gate_callee (f := 41) rfl ?_); refine gl (some 155) Try.func41 #[.agg #[.slice Ao220 t593.length co220], .string t596, .string t597] ?_; (with_reducible refine (spec_BoxOf.calls k1 _ _ t593 t596 t597 t608 t609 t610 t611 t612 t615 _ ?side1 ?side2 A103.out).mono ?_); (case side1 => refine (Kd.S_reads' (e := 66) (base := w.heap.size) (ok := fun k_ => (((True ∧ some k_ ≠ (.slice Ao10 t579.length co10 : Value).ownBlock) ∧ some k_ ≠ (.slice Ao228 t603.length co228 : Value).ownBlock) ∧ k_ ≠ gb607)) (n := t593.length) (c := co220) ?_).2.2; exact (by (with_reducible repeat (first | apply Kd.S_alloc | apply Kd.S_drewN | apply Kd.S_drew)); exact (Kd.S_mono (Kd.S_far (p := ⟨gb607, 4, none⟩) (Kd.S_far (p := ⟨gb607, 3, none⟩) (Kd.S_far (p := ⟨gb607, 2, none⟩) (Kd.S_far (p := ⟨gb607, 1, none⟩) (Kd.S_far (p := ⟨gb607, 0, none⟩) (Kd.S_mono HO595.out (fun k_ hk => (⟨hk, hk.2⟩ : _ ∧ k_ ≠ gb607))) (fun _ hk => hk.2) (.int .i64 t599)) (fun _ hk => hk.2) (.string t600)) (fun _ hk => hk.2) (.string t601)) (fun _ hk => hk.2) (.int .i64 t602)) (fun _ hk => hk.2) (.slice Ao228 t603.length co228)) (fun _ h_ => h_.1)))); (case side2 => exact (Kd.S_reads' HO595.out).2.1); rintro e w230 ⟨v613, rfl, ho0, hb⟩; refine ⟨_, rfl, ?_⟩; replace HO_3 := ak (Kd.R_below (rT HO_3 BK607 (by decide)) hb); replace HO_583000 := ak (Kd.S_elder' (by (with_reducible repeat (first | apply Kd.S_alloc | apply Kd.S_drewN | apply Kd.S_drew)); exact (Kd.S_mono (Kd.S_far (p := ⟨gb607, 4, none⟩) (Kd.S_far (p := ⟨gb607, 3, none⟩) (Kd.S_far (p := ⟨gb607, 2, none⟩) (Kd.S_far (p := ⟨gb607, 1, none⟩) (Kd.S_far (p := ⟨gb607, 0, none⟩) (Kd.S_mono HO_583000.out (fun k_ hk => (⟨hk, hk.2⟩ : _ ∧ k_ ≠ gb607))) (fun _ hk => hk.2) (.int .i64 t599)) (fun _ hk => hk.2) (.string t600)) (fun _ hk => hk.2) (.string t601)) (fun _ hk => hk.2) (.int .i64 t602)) (fun _ hk => hk.2) (.slice Ao228 t603.length co228)) (fun _ h_ => h_.1))) (Kd.R_base ho0) hb); replace HO595 := ak (Kd.S_elder' (by (with_reducible repeat (first | apply Kd.S_alloc | apply Kd.S_drewN | apply Kd.S_drew)); exact (Kd.S_mono (Kd.S_far (p := ⟨gb607, 4, none⟩) (Kd.S_far (p := ⟨gb607, 3, none⟩) (Kd.S_far (p := ⟨gb607, 2, none⟩) (Kd.S_far (p := ⟨gb607, 1, none⟩) (Kd.S_far (p := ⟨gb607, 0, none⟩) (Kd.S_mono HO595.out (fun k_ hk => (⟨hk, hk.2⟩ : _ ∧ k_ ≠ gb607))) (fun _ hk => hk.2) (.int .i64 t599)) (fun _ hk => hk.2) (.string t600)) (fun _ hk => hk.2) (.string t601)) (fun _ hk => hk.2) (.int .i64 t602)) (fun _ hk => hk.2) (.slice Ao228 t603.length co228)) (fun _ h_ => h_.1))) (Kd.R_base ho0) hb); replace HO614 := ak (Kd.R_lower (Kd.R_new' ho0 (Kd.R_lt (rT HO605 BK607 (by decide)))) (below_size (lT HB (gC GE582 (gC GE598 (gC GE607 gN)))))); replace HO605 := ak (Kd.R_elder' (rT HO605 BK607 (by decide)) (Kd.R_base ho0) hb); replace BK582 := ak (blk_below (bT BK582 (nC NB582_607 nN)) hb); replace BK598 := ak (blk_below (bT BK598 (nC NB598_607 nN)) hb); replace BK607 := ak (blk_below (g := gb607) (o := .cells #[.int .i64 t599, .string t600, .string t601, .int .i64 t602, .slice Ao228 t603.length co228] 66 (0, 0)) (bW BK607) hb); replace HB := ak (below_step (lT HB (gC GE582 (gC GE598 (gC GE607 gN)))) hb); (try clear hb); (try clear hk); (try clear ho0)) | ((with_reducible refine gate_dst (N := 17) rfl ?_); refine bx 17 #[.int .i64 0, .string (⟨#[]⟩ : ByteArray), .string (⟨#[]⟩ : ByteArray), .int .i64 0, .slice none 0 0] 66 ?_; intro gb616 hg w231 hbox hb; replace HO_3 := rB HO_3 hb; replace HO_583000 := ak (Kd.S_below (Kd.S_elderB (by (with_reducible repeat (first | apply Kd.S_alloc | apply Kd.S_drewN | apply Kd.S_drew)); exact HO_583000.out) gb616 (Nat.le_of_eq hg.symm)) hb); replace HO595 := ak (Kd.S_below (Kd.S_elderB (by (with_reducible repeat (first | apply Kd.S_alloc | apply Kd.S_drewN | apply Kd.S_drew)); exact HO595.out) gb616 (Nat.le_of_eq hg.symm)) hb); replace HO605 := rB HO605 hb; replace HO614 := rB HO614 hb; replace BK616 := ak (hbox); replace GW616 := ak (bz hg (lT HB (gC GE582 (gC GE598 (gC GE607 gN))))); replace GE616 := ak (bz hg (lT HB (gC GE582 (gC GE598 (gC GE607 gN))))); replace HB := ak (below_step (lT HB (gC GE582 (gC GE598 (gC GE607 gN)))) hb); replace NB582_616 := ak (nl hg (bG BK582)); replace NB616_582 := ak (ng hg (bG BK582)); replace BK582 := bB BK582 hb; replace NB598_616 := ak (nl hg (bG BK598)); replace NB616_598 := ak (ng hg (bG BK598)); replace BK598 := bB BK598 hb; replace NB607_616 := ak (nl hg (bG BK607)); replace NB616_607 := ak (ng hg (bG BK607)); replace BK607 := bB BK607 hb; clear hb hbox hg; have hnb232 := NB616_582.out; have hnc232 := NB582_616.out; have hnb233 := NB616_598.out; have hnc233 := NB598_616.out; have hnb234 := NB616_607.out; have hnc234 := NB607_616.out; obtain ⟨_, _, _, _, _, _, _, _, _, _⟩ := bC5 BK616; obtain ⟨Ao236, co236, eo236⟩ := Kd.R_slice HO614.out; subst eo236))
        obtain ⟨w237, eW_⟩ : ∃ w_, w_ = (((((w231.setCell ⟨gb616, 0, none⟩ (.int .i64 t608)).setCell ⟨gb616, 1, none⟩ (.string t609)).setCell ⟨gb616, 2, none⟩ (.string t610)).setCell ⟨gb616, 3, none⟩ (.int .i64 t611)).setCell ⟨gb616, 4, none⟩ (.slice Ao236 t612.length co236)) := ⟨_, rfl⟩
        have n0_ : Aside0 (Kd.R k32 32 w237 w.heap.size (fun _ => True) (.slice Ao7 t576.length co7) t576) := by rw [eW_]; exact ⟨by exact Kd.R_mono (rT HO_3 BK616 (by decide)) (fun _ hk => trivial)⟩
        have n1_ : Aside0 (Kd.S k66 66 w237 w.heap.size (fun k_ => some k_ ≠ (.slice Ao220 t593.length co220 : Value).ownBlock ∧ some k_ ≠ (.slice Ao228 t603.length co228 : Value).ownBlock ∧ some k_ ≠ (.slice Ao236 t612.length co236 : Value).ownBlock ∧ k_ ≠ gb607 ∧ k_ ≠ gb616) (.slice Ao10 t579.length co10) t579) := by rw [eW_]; exact ⟨by (with_reducible repeat (first | apply Kd.S_alloc | apply Kd.S_drewN | apply Kd.S_drew)); exact Kd.S_mono (Kd.S_far (p := ⟨gb616, 4, none⟩) (Kd.S_far (p := ⟨gb616, 3, none⟩) (Kd.S_far (p := ⟨gb616, 2, none⟩) (Kd.S_far (p := ⟨gb616, 1, none⟩) (Kd.S_far (p := ⟨gb616, 0, none⟩) (Kd.S_mono HO_583000.out (fun k_ hk => (⟨hk, hk.2⟩ : _ ∧ k_ ≠ gb616))) (fun _ hk => hk.2) (.int .i64 t608)) (fun _ hk => hk.2) (.string t609)) (fun _ hk => hk.2) (.string t610)) (fun _ hk => hk.2) (.int .i64 t611)) (fun _ hk => hk.2) (.slice Ao236 t612.length co236)) (fun _ hk => ⟨hk.1.1.1.1.1.2, ⟨hk.1.1.1.1.2, ⟨hk.1.1.2, ⟨hk.1.1.1.2, hk.1.2⟩⟩⟩⟩)⟩
        have n2_ : Aside0 (Kd.S k66 66 w237 w.heap.size (fun k_ => some k_ ≠ (.slice Ao10 t579.length co10 : Value).ownBlock ∧ some k_ ≠ (.slice Ao228 t603.length co228 : Value).ownBlock ∧ some k_ ≠ (.slice Ao236 t612.length co236 : Value).ownBlock ∧ k_ ≠ gb607 ∧ k_ ≠ gb616) (.slice Ao220 t593.length co220) t593) := by rw [eW_]; exact ⟨by (with_reducible repeat (first | apply Kd.S_alloc | apply Kd.S_drewN | apply Kd.S_drew)); exact Kd.S_mono (Kd.S_far (p := ⟨gb616, 4, none⟩) (Kd.S_far (p := ⟨gb616, 3, none⟩) (Kd.S_far (p := ⟨gb616, 2, none⟩) (Kd.S_far (p := ⟨gb616, 1, none⟩) (Kd.S_far (p := ⟨gb616, 0, none⟩) (Kd.S_mono HO595.out (fun k_ hk => (⟨hk, hk.2⟩ : _ ∧ k_ ≠ gb616))) (fun _ hk => hk.2) (.int .i64 t608)) (fun _ hk => hk.2) (.string t609)) (fun _ hk => hk.2) (.string t610)) (fun _ hk => hk.2) (.int .i64 t611)) (fun _ hk => hk.2) (.slice Ao236 t612.length co236)) (fun _ hk => ⟨hk.1.1.1.1.1.2, ⟨hk.1.1.1.1.2, ⟨hk.1.1.2, ⟨hk.1.1.1.2, hk.1.2⟩⟩⟩⟩)⟩
        have n3_ : Aside0 (Kd.R k68 68 w237 w.heap.size (fun k_ => some k_ ≠ (.slice Ao236 t612.length co236 : Value).ownBlock) (.slice Ao228 t603.length co228) t603) := by rw [eW_]; exact ⟨by (with_reducible repeat (first | apply Kd.R_alloc | apply Kd.R_drewN | apply Kd.R_drew)); exact Kd.R_mono (Kd.R_far (p := ⟨gb616, 4, none⟩) (Kd.R_far (p := ⟨gb616, 3, none⟩) (Kd.R_far (p := ⟨gb616, 2, none⟩) (Kd.R_far (p := ⟨gb616, 1, none⟩) (Kd.R_far (p := ⟨gb616, 0, none⟩) (Kd.R_types HO605.out BK616.out (by decide)) (fun _ hk => hk.2) (.int .i64 t608)) (fun _ hk => hk.2) (.string t609)) (fun _ hk => hk.2) (.string t610)) (fun _ hk => hk.2) (.int .i64 t611)) (fun _ hk => hk.2) (.slice Ao236 t612.length co236)) (fun _ hk => hk.1.2)⟩
        have n4_ : Aside0 (Kd.R k68 68 w237 w.heap.size (fun k_ => some k_ ≠ (.slice Ao228 t603.length co228 : Value).ownBlock) (.slice Ao236 t612.length co236) t612) := by rw [eW_]; exact ⟨by (with_reducible repeat (first | apply Kd.R_alloc | apply Kd.R_drewN | apply Kd.R_drew)); exact Kd.R_mono (Kd.R_far (p := ⟨gb616, 4, none⟩) (Kd.R_far (p := ⟨gb616, 3, none⟩) (Kd.R_far (p := ⟨gb616, 2, none⟩) (Kd.R_far (p := ⟨gb616, 1, none⟩) (Kd.R_far (p := ⟨gb616, 0, none⟩) (Kd.R_types HO614.out BK616.out (by decide)) (fun _ hk => hk.2) (.int .i64 t608)) (fun _ hk => hk.2) (.string t609)) (fun _ hk => hk.2) (.string t610)) (fun _ hk => hk.2) (.int .i64 t611)) (fun _ hk => hk.2) (.slice Ao236 t612.length co236)) (fun _ hk => hk.1.2)⟩
        have n5_ : Aside0 (w237.heap[gb582]? = some (.cells #[.slice Ao10 t579.length co10] 60 (0, 0))) := by rw [eW_]; exact ⟨bF BK582 (nC NB582_616 nN)⟩
        have n6_ : Aside0 (w237.heap[gb598]? = some (.cells #[.slice Ao220 t593.length co220] 60 (0, 0))) := by rw [eW_]; exact ⟨bF BK598 (nC NB598_616 nN)⟩
        have n7_ : Aside0 (w237.heap[gb607]? = some (.cells #[.int .i64 t599, .string t600, .string t601, .int .i64 t602, .slice Ao228 t603.length co228] 66 (0, 0))) := by rw [eW_]; exact ⟨bF BK607 (nC NB607_616 nN)⟩
        have n8_ : Aside0 (w237.heap[gb616]? = some (.cells #[.int .i64 t608, .string t609, .string t610, .int .i64 t611, .slice Ao236 t612.length co236] 66 (0, 0))) := by rw [eW_]; exact ⟨bW BK616⟩
        have n9_ : Aside0 (Below w.heap.size w w237) := by rw [eW_]; exact ⟨by exact lT HB (gC GE582 (gC GE598 (gC GE607 (gC GE616 gN))))⟩
        (try clear HO_3)
        (try clear HO_583000)
        (try clear HO595)
        (try clear HO605)
        (try clear HO614)
        (try clear BK582)
        (try clear BK598)
        (try clear BK607)
        (try clear BK616)
        (try clear HB)
        rw [← eW_];clear eW_
        have HO_3 := n0_
        have HO_583000 := n1_
        have HO595 := n2_
        have HO605 := n3_
        have HO614 := n4_
        have BK582 := n5_
        have BK598 := n6_
        have BK607 := n7_
        have BK616 := n8_
        have HB := n9_
        clear n0_ n1_ n2_ n3_ n4_ n5_ n6_ n7_ n8_ n9_
        replace HO_3 := ak (Kd.R_drew HO_3.out)
        replace HO_583000 := ak (Kd.S_drew HO_583000.out)
        replace HO595 := ak (Kd.S_drew HO595.out)
        replace HO605 := ak (Kd.R_drew HO605.out)
        replace HO614 := ak (Kd.R_drew HO614.out)
        replace BK582 := ak (blk_drew BK582.out)
        replace BK598 := ak (blk_drew BK598.out)
        replace BK607 := ak (blk_drew BK607.out)
        replace BK616 := ak (blk_drew BK616.out)
        replace HB := ak (below_drew1 HB.out)
        refine start_ (n := 36) (S := fun w' => w'.cell? ⟨gb598, 0, none⟩ = some (.slice Ao220 t593.length co220)) (ds := []) (fb 36 0) (by kernel_rfl) rfl rfl (bc BK598 0) (fun hHeld => ?_); refine with_tabW laws_FnStates.tab29 laws_FnStates.bits29 (fun HT_ HW_ => ?_)
        generalize w237.drew = w238 at HO_3 HO_583000 HO595 HO605 HO614 BK582 BK598 BK607 BK616 HB hHeld ⊢
        refine pu 0 158 (fb 36 1) HT_ ?_
        refine pu 1 159 (fb 36 3) HT_ ?_
        refine pu 2 160 (fb 36 7) HT_ ?_
        refine pu 3 161 (fb 36 15) HT_ ?_
        refine pu 4 162 (fb 36 31) HT_ ?_
        refine pu 5 163 (fb 36 63) HT_ ?_
        refine pu 6 164 (fb 36 127) HT_ ?_
        refine pn 7 165 (fb 36 255) HT_ ?_
        refine pn 8 166 (fb 36 511) HT_ ?_
        refine pn 9 167 (fb 36 1023) HT_ ?_
        refine pn 10 168 (fb 36 2047) HT_ ?_
        refine pn 11 169 (fb 36 4095) HT_ ?_
        refine pn 12 170 (fb 36 8191) HT_ ?_
        refine pn 13 171 (fb 36 16383) HT_ ?_
        refine pn 14 172 (fb 36 32767) HT_ ?_
        refine pn 15 173 (fb 36 65535) HT_ ?_
        refine pn 16 174 (fb 36 131071) HT_ ?_
        refine pu 17 175 (fb 36 262143) HT_ ?_
        refine pu 18 176 (fb 36 524287) HT_ ?_
        refine pu 19 177 (fb 36 1048575) HT_ ?_
        refine pu 21 179 (fb 36 3145727) HT_ ?_
        refine pu 24 182 (fb 36 19922943) HT_ ?_
        refine take_ (i := 20) (N := some 178) (v := ?_) (a' := ?_) #[t_,t_,t_,t_,t_,t_,t_,t_,t_,t_,t_,t_,t_,t_,t_,t_,t_,t_,t_,t_,t_,t_,f_,f_,t_,f_,f_,f_,f_,f_,f_,f_,f_,f_,f_,f_] rfl rfl (take_ofW HT_.out HW_.out (by kernel_rfl)) (fun _ _ _ h => h) (Or.inl ⟨by rfl, ?_⟩) hHeld ?_ ?_
        rotate_left
        ·intro w' s0
         go_simp
         with_reducible rfl
        rotate_left
        ·simp only [Act.put, List.setIfInBounds_toArray, List.set_cons_zero, List.set_cons_succ, i64_w, i32_w]
         rfl
        refine take_ (i := 23) (N := some 181) (v := ?_) (a' := ?_) #[t_,t_,t_,t_,t_,t_,t_,t_,t_,t_,t_,t_,t_,t_,t_,t_,t_,t_,t_,t_,t_,t_,f_,t_,t_,f_,f_,f_,f_,f_,f_,f_,f_,f_,f_,f_] rfl rfl (take_ofW HT_.out HW_.out (by kernel_rfl)) (fun _ _ _ h => h) (Or.inl ⟨by rfl, ?_⟩) hHeld ?_ ?_
        rotate_left
        ·intro w' s0
         go_simp
         with_reducible rfl
        rotate_left
        ·simp only [Act.put, List.setIfInBounds_toArray, List.set_cons_zero, List.set_cons_succ, i64_w, i32_w]
         rfl
        refine on 22 (some 180) (fb 36 33554431) HT_ (fun K hK => ?_)
        refine gs Try.func43 #[.agg #[.slice Ao220 t593.length co220], .string t596] ?_
        with_reducible refine (impl_BoxesOf.calls k1 _ _ t593 t596 t626 _ ?side1 ?side2 A211.out).mono ?_
        (case side1 => repeat (first | exact (Kd.S_reads' HO595.out).2.2 | (with_reducible refine Kd.C_alloc ?_ _) | (with_reducible refine Kd.C_drewN ?_ _) | (with_reducible refine Kd.C_drew ?_)))
        (case side2 => exact (Kd.S_reads' HO595.out).2.1)
        rintro e w239 ⟨v627, rfl, ho0, hb⟩
        refine ⟨_, rfl, ?_⟩
        replace HO_3 := rB HO_3 hb
        replace HO_583000 := ak (Kd.S_below (by (with_reducible repeat (first | apply Kd.S_alloc | apply Kd.S_drewN | apply Kd.S_drew)); exact HO_583000.out) hb)
        replace HO595 := ak (Kd.S_below (by (with_reducible repeat (first | apply Kd.S_alloc | apply Kd.S_drewN | apply Kd.S_drew)); exact HO595.out) hb)
        replace HO605 := rB HO605 hb
        replace HO614 := rB HO614 hb
        replace HO628 := ak (Kd.R_lower ho0 (below_size (lT HB (gC GE582 (gC GE598 (gC GE607 (gC GE616 gN)))))))
        replace BK582 := bB BK582 hb
        replace BK598 := bB BK598 hb
        replace BK607 := bB BK607 hb
        replace BK616 := bB BK616 hb
        replace HB := ak (below_step (lT HB (gC GE582 (gC GE598 (gC GE607 (gC GE616 gN))))) hb)
        (try clear hb)
        (try clear hb2)
        (try clear hk)
        (try clear hi)
        (try clear ho0)
        refine hK.out _ _ (bc BK598 0) (fun hHeld => ?_)
        clear hK K
        refine nm ?_
        refine on 25 (some 183) (fb 36 67108863) HT_ (fun K hK => ?_)
        refine gs Try.func44 #[.agg #[.slice Ao220 t593.length co220], .string t596] ?_
        with_reducible refine (spec_BoxesOf.calls k1 _ _ t593 t596 t629 _ ?side1 ?side2 A212.out).mono ?_
        (case side1 => repeat (first | exact (Kd.S_reads' HO595.out).2.2 | (with_reducible refine Kd.C_alloc ?_ _) | (with_reducible refine Kd.C_drewN ?_ _) | (with_reducible refine Kd.C_drew ?_)))
        (case side2 => exact (Kd.S_reads' HO595.out).2.1)
        rintro e w240 ⟨v630, rfl, ho0, hb⟩
        refine ⟨_, rfl, ?_⟩
        replace HO_3 := rB HO_3 hb
        replace HO_583000 := ak (Kd.S_below (by (with_reducible repeat (first | apply Kd.S_alloc | apply Kd.S_drewN | apply Kd.S_drew)); exact HO_583000.out) hb)
        replace HO595 := ak (Kd.S_below (by (with_reducible repeat (first | apply Kd.S_alloc | apply Kd.S_drewN | apply Kd.S_drew)); exact HO595.out) hb)
        replace HO605 := rB HO605 hb
        replace HO614 := rB HO614 hb
        replace HO631 := ak (Kd.R_lower (Kd.R_new' ho0 (Kd.R_lt (rG HO628))) (below_size (lT HB (gC GE582 (gC GE598 (gC GE607 (gC GE616 gN)))))))
        replace HO628 := ak (Kd.R_elder' (rG HO628) (Kd.R_base ho0) hb)
        replace BK582 := bB BK582 hb
        replace BK598 := bB BK598 hb
        replace BK607 := bB BK607 hb
        replace BK616 := bB BK616 hb
        replace HB := ak (below_step (lT HB (gC GE582 (gC GE598 (gC GE607 (gC GE616 gN))))) hb)
        (try clear hb)
        (try clear hb2)
        (try clear hk)
        (try clear hi)
        (try clear ho0)
        obtain ⟨Ao241, co241, eo241⟩ := Kd.R_slice HO628.out
        (first | subst eo241 | (injection eo241 with f1_ f2_ f3_; have f4_ := f1_.symm; have f5_ := f3_.symm; clear f1_ f2_ f3_; subst f4_; subst f5_))
        obtain ⟨Ao242, co242, eo242⟩ := Kd.R_slice HO631.out
        (first | subst eo242 | (injection eo242 with f1_ f2_ f3_; have f4_ := f1_.symm; have f5_ := f3_.symm; clear f1_ f2_ f3_; subst f4_; subst f5_))
        refine hK.out _ _ (bc BK598 0) (fun hHeld => ?_)
        clear hK K
        refine nm ?_
        refine on 26 (some 184) (fb 36 134217727) HT_ (fun K hK => ?_)
        refine gs Try.func42 #[.slice Ao241 t626.length co241, .slice Ao242 t629.length co242] ?_
        with_reducible refine (laws_sameTexts.calls k1 _ _ t626 _ _ t629 true _ ?side1 ?side2 ?side3 ?side4 A213.out).mono ?_
        (case side1 => exact cG (Kd.R_reads' HO628.out).2.2)
        (case side2 => exact (Kd.R_reads' HO628.out).2.1)
        (case side3 => exact cG (Kd.R_reads' HO631.out).2.2)
        (case side4 => exact (Kd.R_reads' HO631.out).2.1)
        rintro e w' ⟨rfl, ⟨nd, rfl⟩⟩
        refine ⟨_, rfl, ?_⟩
        refine hK.out _ _ (bc BK598 0) (fun hHeld => ?_)
        clear hK K
        refine nm ?_
        refine pu 27 185 (fb 36 268435455) HT_ ?_
        refine pu 28 186 (fb 36 536870911) HT_ ?_
        refine pu 29 187 (fb 36 1073741823) HT_ ?_
        refine pu 31 189 (fb 36 3221225471) HT_ ?_
        refine on 30 (some 188) (fb 36 4294967295) HT_ (fun K hK => ?_)
        refine gs Try.func45 #[.slice Ao7 t576.length co7] ?_
        with_reducible refine (impl_ValidAfter.calls k1 _ _ t576 t633 _ ?side1 ?side2 A215.out).mono ?_
        (case side1 => exact cG (Kd.R_reads' HO_3.out).2.2)
        (case side2 => exact (Kd.R_reads' HO_3.out).2.1)
        rintro e w243 ⟨rfl, hb⟩
        refine ⟨_, rfl, ?_⟩
        replace HO_3 := rB HO_3 hb
        replace HO_583000 := ak (Kd.S_below (by (with_reducible repeat (first | apply Kd.S_alloc | apply Kd.S_drewN | apply Kd.S_drew)); exact HO_583000.out) hb)
        replace HO595 := ak (Kd.S_below (by (with_reducible repeat (first | apply Kd.S_alloc | apply Kd.S_drewN | apply Kd.S_drew)); exact HO595.out) hb)
        replace HO605 := rB HO605 hb
        replace HO614 := rB HO614 hb
        replace HO628 := rB HO628 hb
        replace HO631 := rB HO631 hb
        replace BK582 := bB BK582 hb
        replace BK598 := bB BK598 hb
        replace BK607 := bB BK607 hb
        replace BK616 := bB BK616 hb
        replace HB := ak (below_step (lT HB (gC GE582 (gC GE598 (gC GE607 (gC GE616 gN))))) hb)
        (try clear hb)
        (try clear hb2)
        (try clear hk)
        (try clear hi)
        refine hK.out _ _ (bc BK598 0) (fun hHeld => ?_)
        clear hK K
        refine nm ?_
        refine on 32 (some 190) (fb 36 8589934591) HT_ (fun K hK => ?_)
        refine gs Try.func46 #[.slice Ao7 t576.length co7] ?_
        with_reducible refine (spec_ValidAfter.calls k1 _ _ t576 t634 _ ?side1 ?side2 A216.out).mono ?_
        (case side1 => exact cG (Kd.R_reads' HO_3.out).2.2)
        (case side2 => exact (Kd.R_reads' HO_3.out).2.1)
        rintro e w' ⟨rfl, ⟨nd, rfl⟩⟩
        refine ⟨_, rfl, ?_⟩
        refine hK.out _ _ (bc BK598 0) (fun hHeld => ?_)
        clear hK K
        refine nm ?_
        refine pu 33 191 (fb 36 17179869183) HT_ ?_
        refine pu 34 192 (fb 36 34359738367) HT_ ?_
        refine pu 35 2 (fb 36 68719476735) HT_ ?_
        refine done_ (done_of HT_.out (by kernel_rfl)) ?_
        try go_wp2
        go_ret
        exact ⟨ew, by exact lT HB (gC GE582 (gC GE598 (gC GE607 (gC GE616 gN))))⟩
       ·replace c214 := Bool.eq_false_iff.mpr c214
        subst c214
        have H1 : (some false) = some true := by rw [if_neg (show ¬ (false = true) by decide)] at H; exact H
        exact absurd H1 (by simp)
     ·rw [if_neg c104] at H
      have c104b0 : (t606 == t615) = false := by simpa using c104
      (try (have c104b1 : decide (t606 = t615) = false := by simpa using c104))
      (try (have c104b2 : (t606 == t615) = false := by simpa using c104))
      (try (have c104b3 : ¬ (t606 = t615) := by simpa using c104))
      clear c104
      exact absurd H (by simp)
/-- THE ONE PURE STATEMENT of laws_FnStates: yours. -/
def laws_FnStates.Pure : Prop := ∀ (l0 : List Int), l0.length ≤ maxLen → l0.length * 1 ≤ 140737488351232 → (∀ x ∈ l0, (Lit.int .u8 x).wf = true) → ∃ k, laws_FnStates.f k l0 = some true
theorem laws_FnStates.walk (P : laws_FnStates.Pure) (a0 : Option Addr) (len0 cap0 : Nat) (z0 : List Int) (w : World) (w0 : (a0 = none ∧ len0 = 0 ∧ cap0 = 0 ∧ z0 = []) ∨ ∃ x, a0 = some x ∧ len0 ≤ cap0 ∧ cap0 ≤ maxLen ∧ z0.length = cap0 ∧ (∀ i, i < z0.length → w.cell? (x.add i) = some (.int .u8 (z0.getD i 0))) ∧ ∀ n ∈ z0, (Lit.int .u8 n).wf = true) (y0 : len0 * 1 ≤ 140737488351232) :
  Calls Try.prog 8 #[.slice a0 len0 cap0] w fun e w' => e = .returned (.bool true) ∧ Below w.heap.size w w' := by
 obtain ⟨l0, rfl, hr0, hm0, hw0, hc0⟩ := ReadsInt.ofRowC w0
 obtain ⟨k, h⟩ := P l0 hm0 y0 hw0
 refine (laws_FnStates.calls k _ _ l0 w (Kd.C_of_reads (d := (0 : Int)) (h1 := fun _ => rfl) hr0) hc0 h).mono ?_
 rintro e w' ⟨rfl, hd⟩
 exact ⟨rfl, hd⟩
end Go.Proofs.Ytagkjeldheiejaa.PFnStates
