-- printed
import Derived.Test.YtagkjeldheiejaaPFnStatesToldx17
import Derived.Test.YtagkjeldheiejaaVFnStatesTold1
namespace Go.Proofs.Ytagkjeldheiejaa.PFnStatesTold
open Go.RowKit YtagkjeldheiejaaW.PrintWords YtagkjeldheiejaaW.PrintLast YtagkjeldheiejaaW.PrintMore
set_option linter.unusedVariables false
set_option linter.unusedSimpArgs false
attribute [local go_sem] max2_int min2_int max_two min_two max_three min_three max_four min_four
set_option maxHeartbeats 8000000
set_option maxRecDepth 100000
def spec_l06Any.f (k : Nat) (s0_0 : List Int) (s0_1 : Int) (s0_2 : Int) : Option (Int × Int × Int × Int × Int × ByteArray × ByteArray × ByteArray × Int × Int) := (spec_l01Below.f s0_0 s0_1 s0_2 14).bind fun bt463 => ((spec_l01Below.f s0_0 bt463.2.1 bt463.2.2 60).bind fun bt466 => ((spec_l06Rec.f s0_0 bt466.2.1 bt466.2.2).bind fun bt469 => (if bt463.1 = 0 then (some (Int.tmod bt466.1 7, bt469.2.1, bt469.2.2.1, bt469.2.2.2.1, bt469.2.2.2.2.1, bt469.2.2.2.2.2.1, bt469.2.2.2.2.2.2.1, bt469.2.2.2.2.2.2.2.1, bt469.2.2.2.2.2.2.2.2.1, bt469.2.2.2.2.2.2.2.2.2)) else (if bt463.1 = 1 then ((some (([0, 9999, 10000] : List Int) : List Int)).bind fun y480 => (if 0 ≤ (Int.tmod bt466.1 3) then (if (Int.tmod bt466.1 3) < (y480.length : Int) then (some (bt469.1, rd y480 (Int.tmod bt466.1 3), bt469.2.2.1, bt469.2.2.2.1, bt469.2.2.2.2.1, bt469.2.2.2.2.2.1, bt469.2.2.2.2.2.2.1, bt469.2.2.2.2.2.2.2.1, bt469.2.2.2.2.2.2.2.2.1, bt469.2.2.2.2.2.2.2.2.2)) else (none)) else (none))) else (if bt463.1 = 2 then ((some (([0, 9999, 10000, (-1)] : List Int) : List Int)).bind fun y484 => (if 0 ≤ (Int.tmod bt466.1 4) then (if (Int.tmod bt466.1 4) < (y484.length : Int) then (some (bt469.1, bt469.2.1, rd y484 (Int.tmod bt466.1 4), bt469.2.2.2.1, bt469.2.2.2.2.1, bt469.2.2.2.2.2.1, bt469.2.2.2.2.2.2.1, bt469.2.2.2.2.2.2.2.1, bt469.2.2.2.2.2.2.2.2.1, bt469.2.2.2.2.2.2.2.2.2)) else (none)) else (none))) else (if bt463.1 = 3 then (some (bt469.1, bt469.2.1, bt469.2.2.1, bt469.2.2.2.1, wrap64 ((Int.tmod bt466.1 10) - 1), bt469.2.2.2.2.2.1, bt469.2.2.2.2.2.2.1, bt469.2.2.2.2.2.2.2.1, bt469.2.2.2.2.2.2.2.2.1, bt469.2.2.2.2.2.2.2.2.2)) else (if bt463.1 = 4 then ((some (([(⟨#[]⟩ : ByteArray), (⟨#[65]⟩ : ByteArray), (⟨#[110, 105, 110, 101, 98, 121, 116, 101, 115]⟩ : ByteArray)] : List ByteArray) : List ByteArray)).bind fun y488 => (if 0 ≤ (Int.tmod bt466.1 3) then (if (Int.tmod bt466.1 3) < (y488.length : Int) then (some (bt469.1, bt469.2.1, bt469.2.2.1, bt469.2.2.2.1, bt469.2.2.2.2.1, rdOf ByteArray.empty y488 (Int.tmod bt466.1 3), bt469.2.2.2.2.2.2.1, bt469.2.2.2.2.2.2.2.1, bt469.2.2.2.2.2.2.2.2.1, bt469.2.2.2.2.2.2.2.2.2)) else (none)) else (none))) else (if bt463.1 = 5 then ((spec_l01Long.f k (wrap64 (100 + (Int.tmod bt466.1 2))) 97).bind fun t492 => (some (bt469.1, bt469.2.1, bt469.2.2.1, bt469.2.2.2.1, bt469.2.2.2.2.1, bt469.2.2.2.2.2.1, bt469.2.2.2.2.2.2.1, t492, bt469.2.2.2.2.2.2.2.2.1, bt469.2.2.2.2.2.2.2.2.2))) else (if bt463.1 = 6 then (some (bt469.1, bt469.2.1, bt469.2.2.1, Int.tmod bt466.1 4, bt469.2.2.2.2.1, bt469.2.2.2.2.2.1, bt469.2.2.2.2.2.2.1, bt469.2.2.2.2.2.2.2.1, bt469.2.2.2.2.2.2.2.2.1, bt469.2.2.2.2.2.2.2.2.2)) else (some (bt469.1, bt469.2.1, bt469.2.2.1, bt469.2.2.2.1, bt469.2.2.2.2.1, bt469.2.2.2.2.2.1, bt469.2.2.2.2.2.2.1, bt469.2.2.2.2.2.2.2.1, bt469.2.2.2.2.2.2.2.2.1, bt469.2.2.2.2.2.2.2.2.2)))))))))))
theorem spec_l06Any.mono : ∀ a0 a1 a2 k, LeO (spec_l06Any.f k a0 a1 a2) (spec_l06Any.f (k + 1) a0 a1 a2) := by
 intro a0 a1 a2 k
 unfold spec_l06Any.f
 repeat' with_reducible first | exact spec_l01Long.mono _ _ _ | exact LeO.refl _ | exact LeO.none _ | refine LeO.ite ?_ ?_ | refine LeO.bind ?_ (fun _ => ?_)
theorem spec_l06Any.calls (k : Nat) (g : Nat) (s0_0 : List Int) (s0_1 : Int) (s0_2 : Int) (r1 : Int) (r2 : Int) (r3 : Int) (r4 : Int) (r5 : Int) (r6 : ByteArray) (r7 : ByteArray) (r8 : ByteArray) (r9 : Int) (r10 : Int) (w0 w : World) (hI : IsS134 w0 w g s0_0 s0_1 s0_2) (hB : Below w0.heap.size w0 w) (h : spec_l06Any.f k s0_0 s0_1 s0_2 = some (r1, r2, r3, r4, r5, r6, r7, r8, r9, r10)) :
  Calls Try.prog 66 #[.pointer (some ⟨g, 0, none⟩)] w fun e w' => e = .returned (.agg #[.int .i64 r1, .int .i64 r2, .int .i64 r3, .int .i64 r4, .int .i64 r5, .string r6, .string r7, .string r8]) ∧ IsS134 w0 w' g s0_0 r9 r10 ∧ Below w0.heap.size w0 w' ∧ KeepBut w w' g none := by
 have hu23 := Try.underlying23
 have HI0 := Aside0.mk hI
 have HK := ak (KeepBut.refl w g none)
 have HL := Aside0.mk hB.size
 clear hI
 have HW0 := Aside0.mk hB.size
 have HB := Aside0.mk hB
 clear hB
 have H := h
 clear h
 unfold spec_l06Any.f at H
 obtain ⟨⟨t463, t464, t465⟩, A2, H⟩ := eb H
 try dsimp only at H
 have HS_ := Aside0.mk H
 clear H
 go_enter Try.func66, Try.ntmps66
 go_wp2_with (first | ((with_reducible refine gate_dst (N := 2) rfl ?_); refine b8 2 ?_; intro gb462 hg w106 hbox hb; replace HB := ak (below_step (lT HB gN) hb); replace BK462 := ak (hbox); replace GW462 := gW hg (kT HK gN); replace GE462 := gE HW0 GW462; replace HK := ak (KeepBut.trans (kT HK gN) (KeepBut.of_below hb g none) (.inl rfl)); replace NB0_462 := nS hg (IsS134.lt (IsS134.T_ HI0 nN)); replace NB462_0 := mS hg (IsS134.lt (IsS134.T_ HI0 nN)); replace HI0 := ak (IsS134.below (IsS134.T_ HI0 nN) hb); clear hb hbox hg) | ((with_reducible refine gate_callee (f := 69) rfl ?_); refine gl (some 7) Try.func69 #[.pointer (some ⟨g, 0, none⟩), .int .i64 14] ?_; (with_reducible refine (spec_l01Below.calls g s0_0 s0_1 s0_2 14 _ _ _ w0 _ ?side1 ?side2 A2.out).mono ?_); (case side1 => exact IsS134.T_ HI0 (nC NB0_462 nN)); (case side2 => exact lT HB (gC GE462 gN)); rintro e w107 ⟨rfl, hi, hb, hk⟩; refine ⟨_, rfl, ?_⟩; replace BK462 := kB hk (bG BK462) NB462_0; replace HK := ak (KeepBut.trans (kT HK (gC GW462 gN)) hk (.inl rfl)); replace HB := ak (hb); replace HI0 := ak (hi); (try clear hb); (try clear hk); (try clear hi); refine Stop.out ?_))
 have H := HS_.out
 clear HS_
 obtain ⟨⟨t466, t467, t468⟩, A3, H⟩ := eb H
 try dsimp only at H
 have HS_ := Aside0.mk H
 clear H
 refine ⟨?_⟩
 go_wp2_with ((with_reducible refine gate_callee (f := 69) rfl ?_); refine gl (some 9) Try.func69 #[.pointer (some ⟨g, 0, none⟩), .int .i64 60] ?_; (with_reducible refine (spec_l01Below.calls g s0_0 t464 t465 60 _ _ _ w0 _ ?side1 ?side2 A3.out).mono ?_); (case side1 => exact IsS134.T_ HI0 (nC NB0_462 nN)); (case side2 => exact lT HB (gC GE462 gN)); rintro e w108 ⟨rfl, hi, hb, hk⟩; refine ⟨_, rfl, ?_⟩; replace BK462 := kB hk (bG BK462) NB462_0; replace HK := ak (KeepBut.trans (kT HK (gC GW462 gN)) hk (.inl rfl)); replace HB := ak (hb); replace HI0 := ak (hi); (try clear hb); (try clear hk); (try clear hi); refine Stop.out ?_)
 have H := HS_.out
 clear HS_
 obtain ⟨⟨t469, t470, t471, t472, t473, t474, t475, t476, t477, t478⟩, A4, H⟩ := eb H
 try dsimp only at H
 have HS_ := Aside0.mk H
 clear H
 refine ⟨?_⟩
 go_wp2_with ((with_reducible refine gate_callee (f := 99) rfl ?_); refine gl (some 11) Try.func99 #[.pointer (some ⟨g, 0, none⟩)] ?_; (with_reducible refine (spec_l06Rec.calls g s0_0 t467 t468 _ _ _ _ _ _ _ _ _ _ w0 _ ?side1 ?side2 A4.out).mono ?_); (case side1 => exact IsS134.T_ HI0 (nC NB0_462 nN)); (case side2 => exact lT HB (gC GE462 gN)); rintro e w109 ⟨rfl, hi, hb, hk⟩; refine ⟨_, rfl, ?_⟩; replace BK462 := kB hk (bG BK462) NB462_0; replace HK := ak (KeepBut.trans (kT HK (gC GW462 gN)) hk (.inl rfl)); replace HB := ak (hb); replace HI0 := ak (hi); (try clear hb); (try clear hk); (try clear hi); refine Stop.out ?_)
 have H := HS_.out
 clear HS_
 by_cases c5 : t463 = 0
 {
 rw [if_pos c5] at H
 have c5b0 := beq_iff_eq.mpr c5
 have c5b1 := bne_eq_false_iff_eq.mpr c5
 clear c5
 simp only [Option.some.injEq, Prod.mk.injEq] at H
 obtain ⟨rfl, rfl, rfl, rfl, rfl, rfl, rfl, rfl, rfl, rfl⟩ := H
 refine ⟨?_⟩
 go_wp2_with ((with_reducible refine gate_dst (N := 5) rfl ?_); refine b8 5 ?_; intro gb479 hg w10 hbox hb; replace HB := ak (below_step (lT HB (gC GE462 gN)) hb); replace BK479 := ak (hbox); replace GW479 := gW hg (kT HK (gC GW462 gN)); replace GE479 := gE HW0 GW479; replace HK := ak (KeepBut.trans (kT HK (gC GW462 gN)) (KeepBut.of_below hb g none) (.inl rfl)); replace NB462_479 := ak (nl hg (bG BK462)); replace NB479_462 := ak (ng hg (bG BK462)); replace BK462 := bB BK462 hb; replace NB0_479 := nS hg (IsS134.lt (IsS134.T_ HI0 (nC NB0_462 nN))); replace NB479_0 := mS hg (IsS134.lt (IsS134.T_ HI0 (nC NB0_462 nN))); replace HI0 := ak (IsS134.below (IsS134.T_ HI0 (nC NB0_462 nN)) hb); clear hb hbox hg; have hnb11 := NB479_462.out; have hnc11 := NB462_479.out; have hnb12 := NB479_0.out; have hnc12 := NB0_479.out; obtain ⟨_, _, _, _, _, _, _, _, _, _, _, _, _, _, _, _⟩ := bC8 BK479; have hnb14 := NB462_0.out; have hnc14 := NB0_462.out; obtain ⟨_, _, _, _, _, _, _, _, _, _, _, _, _, _, _, _⟩ := bC8 BK462)
 refine bodyPost_ret (results_cell_row rfl _ _ gb462 23 #[.int .i64 (Int.tmod t466 7), .int .i64 t470, .int .i64 t471, .int .i64 t472, .int .i64 t473, .string t474, .string t475, .string t476] (0, 0) _ rfl (bF BK462 (nC NB462_479 nN)) Try.underlying23 rfl (by kernel_rfl)) rfl ?_
 exact ⟨ew, IsS134.T_ HI0 (nC NB0_462 (nC NB0_479 nN)), lT HB (gC GE462 (gC GE479 gN)), kT HK (gC GW462 (gC GW479 gN))⟩
 }
 {
 rw [if_neg c5] at H
 have c5b0 := beq_eq_false_iff_ne.mpr c5
 have c5b1 := bne_iff_ne.mpr c5
 by_cases c16 : t463 = 1
 {
 rw [if_pos c16] at H
 have c16b0 := beq_iff_eq.mpr c16
 have c16b1 := bne_eq_false_iff_eq.mpr c16
 clear c16
 obtain ⟨y480, hy480⟩ : ∃ y_ : List Int, y_ = (([0, 9999, 10000] : List Int)) := ⟨_, rfl⟩
 replace H : (if 0 ≤ (Int.tmod t466 3) then (if (Int.tmod t466 3) < (y480.length : Int) then (some (t469, rd y480 (Int.tmod t466 3), t471, t472, t473, t474, t475, t476, t477, t478)) else (none)) else (none)) = some (r1, r2, r3, r4, r5, r6, r7, r8, r9, r10) := by first | (rw [hy480]; with_reducible exact H) | (have H2_ := (Option.bind_some _ _).symm.trans H; rw [hy480]; with_reducible exact H2_) | (have H2_ := (Option.bind_some _ _).symm.trans H; with_reducible exact H2_) | with_reducible exact H | (rw [hy480]; exact H) | exact H
 have Ny480 := Aside0.mk hy480
 clear hy480
 obtain ⟨ji17, hji17⟩ : ∃ j_ : Int, (Int.tmod t466 3) = j_ := ⟨_, rfl⟩
 replace H : (if 0 ≤ (ji17) then (if (ji17) < (y480.length : Int) then (some (t469, rd y480 (ji17), t471, t472, t473, t474, t475, t476, t477, t478)) else (none)) else (none)) = some (r1, r2, r3, r4, r5, r6, r7, r8, r9, r10) := by first | (rw [hji17] at H; exact H) | (simp only [hji17] at H ⊢; exact H)
 (try rw [hji17] at A2)
 (try rw [hji17] at A3)
 (try rw [hji17] at A4)
 by_cases c18 : 0 ≤ (ji17)
 {
 rw [if_pos c18] at H
 have c18b0 := decide_eq_true c18
 clear c18
 by_cases c19 : (ji17) < (y480.length : Int)
 {
 rw [if_pos c19] at H
 have c19b0 := decide_eq_true c19
 clear c19
 simp only [Option.some.injEq, Prod.mk.injEq] at H
 obtain ⟨rfl, rfl, rfl, rfl, rfl, rfl, rfl, rfl, rfl, rfl⟩ := H
 refine ⟨?_⟩
 go_wp2_with (first | ((with_reducible refine gate_dst (N := 5) rfl ?_); refine b8 5 ?_; intro gb479 hg w24 hbox hb; replace HB := ak (below_step (lT HB (gC GE462 gN)) hb); replace BK479 := ak (hbox); replace GW479 := gW hg (kT HK (gC GW462 gN)); replace GE479 := gE HW0 GW479; replace HK := ak (KeepBut.trans (kT HK (gC GW462 gN)) (KeepBut.of_below hb g none) (.inl rfl)); replace NB462_479 := ak (nl hg (bG BK462)); replace NB479_462 := ak (ng hg (bG BK462)); replace BK462 := bB BK462 hb; replace NB0_479 := nS hg (IsS134.lt (IsS134.T_ HI0 (nC NB0_462 nN))); replace NB479_0 := mS hg (IsS134.lt (IsS134.T_ HI0 (nC NB0_462 nN))); replace HI0 := ak (IsS134.below (IsS134.T_ HI0 (nC NB0_462 nN)) hb); clear hb hbox hg; have hnb25 := NB479_462.out; have hnc25 := NB462_479.out; have hnb26 := NB479_0.out; have hnc26 := NB0_479.out; obtain ⟨_, _, _, _, _, _, _, _, _, _, _, _, _, _, _, _⟩ := bC8 BK479) | ((with_reducible refine gate_dst (N := 20) rfl ?_); refine Kd.R_lit (Kd.int .i64) _ 3 ?hg (N := 20) ?hd (xs := ([0, 9999, 10000] : List Int)) (inner := [.int .i64 0, .int .i64 9999, .int .i64 10000]) (ok := fun _ => True) (okp := fun _ => True) ?hr ?hp (fun _ hk => hk) trivial (Below.refl _ _) (Nat.le_refl _) (by simp) ?_; (case hd => rfl); (case hg => rfl); (case hr => first | (go_simp; done) | (go_simp; rfl)); (case hp => exact hpR); intro v481 w28 ho29 hb hg_ hnew_; clear hg_ hnew_; (first | rw [← Ny480.out] at ho29 | (simp only [Int.reduceToNat] at ho29; rw [← Ny480.out] at ho29)); replace HO482 := ak (Kd.R_lower ho29 (keep_size (w := w) (g := g) (row := none) (kT HK (gC GW462 (gC GW479 gN))))); replace BK462 := ak (blk_below (bT BK462 (nC NB462_479 nN)) hb); replace BK479 := ak (blk_below (g := gb479) (o := .cells #[.int .i64 t469, .int .i64 t470, .int .i64 t471, .int .i64 t472, .int .i64 t473, .string t474, .string t475, .string t476] 23 (0, 0)) (bW BK479) hb); replace HK := ak (KeepBut.trans (kT HK (gC GW462 (gC GW479 gN))) (KeepBut.of_below hb g none) (.inl rfl)); replace HB := ak (below_step (lT HB (gC GE462 (gC GE479 gN))) hb); replace HI0 := ak (IsS134.below (IsS134.T_ HI0 (nC NB0_462 (nC NB0_479 nN))) hb); clear hb ho29; obtain ⟨Ao30, co30, eo30⟩ := Kd.R_slice HO482.out; subst eo30; have p483 : 0 ≤ ((ji17) : Int) := oda; have q483 : (ji17) < (y480.length : Int) := oda; obtain ⟨ad483, e483, hx483_0⟩ := Kd.at_int (Kd.R_reads' HO482.out).2.2 (ji17) p483 q483; cases e483; replace p483 := eq_true p483; replace q483 := eq_true q483; obtain ⟨_, _, _, _, _, _, _, _, _, _, _, _, _, _, _, _⟩ := bC8 BK479; have hnb32 := NB462_0.out; have hnc32 := NB0_462.out; obtain ⟨_, _, _, _, _, _, _, _, _, _, _, _, _, _, _, _⟩ := bC8 BK462))
 refine bodyPost_ret (results_cell_row rfl _ _ gb462 23 #[.int .i64 t469, .int .i64 (rd y480 (ji17)), .int .i64 t471, .int .i64 t472, .int .i64 t473, .string t474, .string t475, .string t476] (0, 0) _ rfl (bF BK462 (nC NB462_479 nN)) Try.underlying23 rfl (by kernel_rfl)) rfl ?_
 exact ⟨by first | rfl | (simp [errW_none, errW_some] <;> rfl) | (simp only [← hji17]; first | rfl | (simp [errW_none, errW_some] <;> rfl)) | (simp [*, errW_none, errW_some] <;> rfl), IsS134.T_ HI0 (nC NB0_462 (nC NB0_479 nN)), lT HB (gC GE462 (gC GE479 gN)), kT HK (gC GW462 (gC GW479 gN))⟩
 }
 {rw [if_neg c19] at H;exact absurd H (by simp)}
 }
 {rw [if_neg c18] at H;exact absurd H (by simp)}
 }
 {
 rw [if_neg c16] at H
 have c16b0 := beq_eq_false_iff_ne.mpr c16
 have c16b1 := bne_iff_ne.mpr c16
 by_cases c34 : t463 = 2
 {
 rw [if_pos c34] at H
 have c34b0 := beq_iff_eq.mpr c34
 have c34b1 := bne_eq_false_iff_eq.mpr c34
 clear c34
 obtain ⟨y484, hy484⟩ : ∃ y_ : List Int, y_ = (([0, 9999, 10000, (-1)] : List Int)) := ⟨_, rfl⟩
 replace H : (if 0 ≤ (Int.tmod t466 4) then (if (Int.tmod t466 4) < (y484.length : Int) then (some (t469, t470, rd y484 (Int.tmod t466 4), t472, t473, t474, t475, t476, t477, t478)) else (none)) else (none)) = some (r1, r2, r3, r4, r5, r6, r7, r8, r9, r10) := by first | (rw [hy484]; with_reducible exact H) | (have H2_ := (Option.bind_some _ _).symm.trans H; rw [hy484]; with_reducible exact H2_) | (have H2_ := (Option.bind_some _ _).symm.trans H; with_reducible exact H2_) | with_reducible exact H | (rw [hy484]; exact H) | exact H
 have Ny484 := Aside0.mk hy484
 clear hy484
 obtain ⟨ji35, hji35⟩ : ∃ j_ : Int, (Int.tmod t466 4) = j_ := ⟨_, rfl⟩
 replace H : (if 0 ≤ (ji35) then (if (ji35) < (y484.length : Int) then (some (t469, t470, rd y484 (ji35), t472, t473, t474, t475, t476, t477, t478)) else (none)) else (none)) = some (r1, r2, r3, r4, r5, r6, r7, r8, r9, r10) := by first | (rw [hji35] at H; exact H) | (simp only [hji35] at H ⊢; exact H)
 (try rw [hji35] at A2)
 (try rw [hji35] at A3)
 (try rw [hji35] at A4)
 by_cases c36 : 0 ≤ (ji35)
 {
 rw [if_pos c36] at H
 have c36b0 := decide_eq_true c36
 clear c36
 by_cases c37 : (ji35) < (y484.length : Int)
 {
 rw [if_pos c37] at H
 have c37b0 := decide_eq_true c37
 clear c37
 simp only [Option.some.injEq, Prod.mk.injEq] at H
 obtain ⟨rfl, rfl, rfl, rfl, rfl, rfl, rfl, rfl, rfl, rfl⟩ := H
 refine ⟨?_⟩
 go_wp2_with (first | ((with_reducible refine gate_dst (N := 5) rfl ?_); refine b8 5 ?_; intro gb479 hg w42 hbox hb; replace HB := ak (below_step (lT HB (gC GE462 gN)) hb); replace BK479 := ak (hbox); replace GW479 := gW hg (kT HK (gC GW462 gN)); replace GE479 := gE HW0 GW479; replace HK := ak (KeepBut.trans (kT HK (gC GW462 gN)) (KeepBut.of_below hb g none) (.inl rfl)); replace NB462_479 := ak (nl hg (bG BK462)); replace NB479_462 := ak (ng hg (bG BK462)); replace BK462 := bB BK462 hb; replace NB0_479 := nS hg (IsS134.lt (IsS134.T_ HI0 (nC NB0_462 nN))); replace NB479_0 := mS hg (IsS134.lt (IsS134.T_ HI0 (nC NB0_462 nN))); replace HI0 := ak (IsS134.below (IsS134.T_ HI0 (nC NB0_462 nN)) hb); clear hb hbox hg; have hnb43 := NB479_462.out; have hnc43 := NB462_479.out; have hnb44 := NB479_0.out; have hnc44 := NB0_479.out; obtain ⟨_, _, _, _, _, _, _, _, _, _, _, _, _, _, _, _⟩ := bC8 BK479) | ((with_reducible refine gate_dst (N := 28) rfl ?_); refine Kd.R_lit (Kd.int .i64) _ 3 ?hg (N := 28) ?hd (xs := ([0, 9999, 10000, (-1)] : List Int)) (inner := [.int .i64 0, .int .i64 9999, .int .i64 10000, .int .i64 (-1)]) (ok := fun _ => True) (okp := fun _ => True) ?hr ?hp (fun _ hk => hk) trivial (Below.refl _ _) (Nat.le_refl _) (by simp) ?_; (case hd => rfl); (case hg => rfl); (case hr => first | (go_simp; done) | (go_simp; rfl)); (case hp => exact hpR); intro v485 w46 ho47 hb hg_ hnew_; clear hg_ hnew_; (first | rw [← Ny484.out] at ho47 | (simp only [Int.reduceToNat] at ho47; rw [← Ny484.out] at ho47)); replace HO486 := ak (Kd.R_lower ho47 (keep_size (w := w) (g := g) (row := none) (kT HK (gC GW462 (gC GW479 gN))))); replace BK462 := ak (blk_below (bT BK462 (nC NB462_479 nN)) hb); replace BK479 := ak (blk_below (g := gb479) (o := .cells #[.int .i64 t469, .int .i64 t470, .int .i64 t471, .int .i64 t472, .int .i64 t473, .string t474, .string t475, .string t476] 23 (0, 0)) (bW BK479) hb); replace HK := ak (KeepBut.trans (kT HK (gC GW462 (gC GW479 gN))) (KeepBut.of_below hb g none) (.inl rfl)); replace HB := ak (below_step (lT HB (gC GE462 (gC GE479 gN))) hb); replace HI0 := ak (IsS134.below (IsS134.T_ HI0 (nC NB0_462 (nC NB0_479 nN))) hb); clear hb ho47; obtain ⟨Ao48, co48, eo48⟩ := Kd.R_slice HO486.out; subst eo48; have p487 : 0 ≤ ((ji35) : Int) := oda; have q487 : (ji35) < (y484.length : Int) := oda; obtain ⟨ad487, e487, hx487_0⟩ := Kd.at_int (Kd.R_reads' HO486.out).2.2 (ji35) p487 q487; cases e487; replace p487 := eq_true p487; replace q487 := eq_true q487; obtain ⟨_, _, _, _, _, _, _, _, _, _, _, _, _, _, _, _⟩ := bC8 BK479; have hnb50 := NB462_0.out; have hnc50 := NB0_462.out; obtain ⟨_, _, _, _, _, _, _, _, _, _, _, _, _, _, _, _⟩ := bC8 BK462))
 refine bodyPost_ret (results_cell_row rfl _ _ gb462 23 #[.int .i64 t469, .int .i64 t470, .int .i64 (rd y484 (ji35)), .int .i64 t472, .int .i64 t473, .string t474, .string t475, .string t476] (0, 0) _ rfl (bF BK462 (nC NB462_479 nN)) Try.underlying23 rfl (by kernel_rfl)) rfl ?_
 exact ⟨by first | rfl | (simp [errW_none, errW_some] <;> rfl) | (simp only [← hji35]; first | rfl | (simp [errW_none, errW_some] <;> rfl)) | (simp [*, errW_none, errW_some] <;> rfl), IsS134.T_ HI0 (nC NB0_462 (nC NB0_479 nN)), lT HB (gC GE462 (gC GE479 gN)), kT HK (gC GW462 (gC GW479 gN))⟩
 }
 {rw [if_neg c37] at H;exact absurd H (by simp)}
 }
 {rw [if_neg c36] at H;exact absurd H (by simp)}
 }
 {
 rw [if_neg c34] at H
 have c34b0 := beq_eq_false_iff_ne.mpr c34
 have c34b1 := bne_iff_ne.mpr c34
 by_cases c52 : t463 = 3
 {
 rw [if_pos c52] at H
 have c52b0 := beq_iff_eq.mpr c52
 have c52b1 := bne_eq_false_iff_eq.mpr c52
 clear c52
 simp only [Option.some.injEq, Prod.mk.injEq] at H
 obtain ⟨rfl, rfl, rfl, rfl, rfl, rfl, rfl, rfl, rfl, rfl⟩ := H
 refine ⟨?_⟩
 go_upto_region 12 with ((with_reducible refine gate_dst (N := 5) rfl ?_); refine b8 5 ?_; intro gb479 hg w57 hbox hb; replace HB := ak (below_step (lT HB (gC GE462 gN)) hb); replace BK479 := ak (hbox); replace GW479 := gW hg (kT HK (gC GW462 gN)); replace GE479 := gE HW0 GW479; replace HK := ak (KeepBut.trans (kT HK (gC GW462 gN)) (KeepBut.of_below hb g none) (.inl rfl)); replace NB462_479 := ak (nl hg (bG BK462)); replace NB479_462 := ak (ng hg (bG BK462)); replace BK462 := bB BK462 hb; replace NB0_479 := nS hg (IsS134.lt (IsS134.T_ HI0 (nC NB0_462 nN))); replace NB479_0 := mS hg (IsS134.lt (IsS134.T_ HI0 (nC NB0_462 nN))); replace HI0 := ak (IsS134.below (IsS134.T_ HI0 (nC NB0_462 nN)) hb); clear hb hbox hg; have hnb58 := NB479_462.out; have hnc58 := NB462_479.out; have hnb59 := NB479_0.out; have hnc59 := NB0_479.out; obtain ⟨_, _, _, _, _, _, _, _, _, _, _, _, _, _, _, _⟩ := bC8 BK479; have hnb61 := NB462_0.out; have hnc61 := NB0_462.out; obtain ⟨_, _, _, _, _, _, _, _, _, _, _, _, _, _, _, _⟩ := bC8 BK462)
 have m1_ : Aside0 (((((((((w57.setCell ⟨gb479, 0, none⟩ (.int .i64 t469)).setCell ⟨gb479, 1, none⟩ (.int .i64 t470)).setCell ⟨gb479, 2, none⟩ (.int .i64 t471)).setCell ⟨gb479, 3, none⟩ (.int .i64 t472)).setCell ⟨gb479, 4, none⟩ (.int .i64 t473)).setCell ⟨gb479, 5, none⟩ (.string t474)).setCell ⟨gb479, 6, none⟩ (.string t475)).setCell ⟨gb479, 7, none⟩ (.string t476)).heap[gb479]? = some (.cells #[.int .i64 t469, .int .i64 t470, .int .i64 t471, .int .i64 t472, .int .i64 t473, .string t474, .string t475, .string t476] 23 (0, 0))) := ak (bW BK479)
 have m2_ := ak (bT (w' := ((((((((w57.setCell ⟨gb479, 0, none⟩ (.int .i64 t469)).setCell ⟨gb479, 1, none⟩ (.int .i64 t470)).setCell ⟨gb479, 2, none⟩ (.int .i64 t471)).setCell ⟨gb479, 3, none⟩ (.int .i64 t472)).setCell ⟨gb479, 4, none⟩ (.int .i64 t473)).setCell ⟨gb479, 5, none⟩ (.string t474)).setCell ⟨gb479, 6, none⟩ (.string t475)).setCell ⟨gb479, 7, none⟩ (.string t476))) BK462 (nC NB462_479 nN))
 have m3_ := ak (IsS134.T_ (W' := ((((((((w57.setCell ⟨gb479, 0, none⟩ (.int .i64 t469)).setCell ⟨gb479, 1, none⟩ (.int .i64 t470)).setCell ⟨gb479, 2, none⟩ (.int .i64 t471)).setCell ⟨gb479, 3, none⟩ (.int .i64 t472)).setCell ⟨gb479, 4, none⟩ (.int .i64 t473)).setCell ⟨gb479, 5, none⟩ (.string t474)).setCell ⟨gb479, 6, none⟩ (.string t475)).setCell ⟨gb479, 7, none⟩ (.string t476))) HI0 (nC NB0_462 (nC NB0_479 nN)))
 have m4_ := ak (lT (w' := ((((((((w57.setCell ⟨gb479, 0, none⟩ (.int .i64 t469)).setCell ⟨gb479, 1, none⟩ (.int .i64 t470)).setCell ⟨gb479, 2, none⟩ (.int .i64 t471)).setCell ⟨gb479, 3, none⟩ (.int .i64 t472)).setCell ⟨gb479, 4, none⟩ (.int .i64 t473)).setCell ⟨gb479, 5, none⟩ (.string t474)).setCell ⟨gb479, 6, none⟩ (.string t475)).setCell ⟨gb479, 7, none⟩ (.string t476))) HB (gC GE462 (gC GE479 gN)))
 have m5_ := ak (kT (w' := ((((((((w57.setCell ⟨gb479, 0, none⟩ (.int .i64 t469)).setCell ⟨gb479, 1, none⟩ (.int .i64 t470)).setCell ⟨gb479, 2, none⟩ (.int .i64 t471)).setCell ⟨gb479, 3, none⟩ (.int .i64 t472)).setCell ⟨gb479, 4, none⟩ (.int .i64 t473)).setCell ⟨gb479, 5, none⟩ (.string t474)).setCell ⟨gb479, 6, none⟩ (.string t475)).setCell ⟨gb479, 7, none⟩ (.string t476))) HK (gC GW462 (gC GW479 gN)))
 clear BK479 BK462 HI0 HB HK
 generalize ((((((((w57.setCell ⟨gb479, 0, none⟩ (.int .i64 t469)).setCell ⟨gb479, 1, none⟩ (.int .i64 t470)).setCell ⟨gb479, 2, none⟩ (.int .i64 t471)).setCell ⟨gb479, 3, none⟩ (.int .i64 t472)).setCell ⟨gb479, 4, none⟩ (.int .i64 t473)).setCell ⟨gb479, 5, none⟩ (.string t474)).setCell ⟨gb479, 6, none⟩ (.string t475)).setCell ⟨gb479, 7, none⟩ (.string t476)) = w99 at m1_ m2_ m3_ m4_ m5_ ⊢
 have BK479 := m1_
 have BK462 := m2_
 have HI0 := m3_
 have HB := m4_
 have HK := m5_
 clear m1_ m2_ m3_ m4_ m5_
 obtain ⟨hcy0_0, hcy0_1, hcy0_2, hcy0_3, hcy0_4, hcy0_5, hcy0_6, hcy0_7, hfy0_0, hfy0_1, hfy0_2, hfy0_3, hfy0_4, hfy0_5, hfy0_6, hfy0_7⟩ := bC8 BK479
 obtain ⟨hcy1_0, hcy1_1, hcy1_2, hcy1_3, hcy1_4, hcy1_5, hcy1_6, hcy1_7, hfy1_0, hfy1_1, hfy1_2, hfy1_3, hfy1_4, hfy1_5, hfy1_6, hfy1_7⟩ := bC8 BK462
 go_wp2
 refine bodyPost_ret (results_cell_row rfl _ _ gb462 23 #[.int .i64 t469, .int .i64 t470, .int .i64 t471, .int .i64 t472, .int .i64 (wrap64 ((Int.tmod t466 10) - 1)), .string t474, .string t475, .string t476] (0, 0) _ rfl (bF BK462 (nC NB462_479 nN)) Try.underlying23 rfl (by kernel_rfl)) rfl ?_
 exact ⟨ew, IsS134.T_ HI0 (nC NB0_462 (nC NB0_479 nN)), lT HB (gC GE462 (gC GE479 gN)), kT HK (gC GW462 (gC GW479 gN))⟩
 }
 {
 rw [if_neg c52] at H
 have c52b0 := beq_eq_false_iff_ne.mpr c52
 have c52b1 := bne_iff_ne.mpr c52
 by_cases c63 : t463 = 4
 {
 rw [if_pos c63] at H
 have c63b0 := beq_iff_eq.mpr c63
 have c63b1 := bne_eq_false_iff_eq.mpr c63
 clear c63
 obtain ⟨y488, hy488⟩ : ∃ y_ : List ByteArray, y_ = (([(⟨#[]⟩ : ByteArray), (⟨#[65]⟩ : ByteArray), (⟨#[110, 105, 110, 101, 98, 121, 116, 101, 115]⟩ : ByteArray)] : List ByteArray)) := ⟨_, rfl⟩
 replace H : (if 0 ≤ (Int.tmod t466 3) then (if (Int.tmod t466 3) < (y488.length : Int) then (some (t469, t470, t471, t472, t473, rdOf ByteArray.empty y488 (Int.tmod t466 3), t475, t476, t477, t478)) else (none)) else (none)) = some (r1, r2, r3, r4, r5, r6, r7, r8, r9, r10) := by first | (rw [hy488]; with_reducible exact H) | (have H2_ := (Option.bind_some _ _).symm.trans H; rw [hy488]; with_reducible exact H2_) | (have H2_ := (Option.bind_some _ _).symm.trans H; with_reducible exact H2_) | with_reducible exact H | (rw [hy488]; exact H) | exact H
 have Ny488 := Aside0.mk hy488
 clear hy488
 obtain ⟨ji64, hji64⟩ : ∃ j_ : Int, (Int.tmod t466 3) = j_ := ⟨_, rfl⟩
 replace H : (if 0 ≤ (ji64) then (if (ji64) < (y488.length : Int) then (some (t469, t470, t471, t472, t473, rdOf ByteArray.empty y488 (ji64), t475, t476, t477, t478)) else (none)) else (none)) = some (r1, r2, r3, r4, r5, r6, r7, r8, r9, r10) := by first | (rw [hji64] at H; exact H) | (simp only [hji64] at H ⊢; exact H)
 (try rw [hji64] at A2)
 (try rw [hji64] at A3)
 (try rw [hji64] at A4)
 by_cases c65 : 0 ≤ (ji64)
 {
 rw [if_pos c65] at H
 have c65b0 := decide_eq_true c65
 clear c65
 by_cases c66 : (ji64) < (y488.length : Int)
 {
 rw [if_pos c66] at H
 have c66b0 := decide_eq_true c66
 clear c66
 simp only [Option.some.injEq, Prod.mk.injEq] at H
 obtain ⟨rfl, rfl, rfl, rfl, rfl, rfl, rfl, rfl, rfl, rfl⟩ := H
 refine ⟨?_⟩
 go_wp2_with (first | ((with_reducible refine gate_dst (N := 5) rfl ?_); refine b8 5 ?_; intro gb479 hg w71 hbox hb; replace HB := ak (below_step (lT HB (gC GE462 gN)) hb); replace BK479 := ak (hbox); replace GW479 := gW hg (kT HK (gC GW462 gN)); replace GE479 := gE HW0 GW479; replace HK := ak (KeepBut.trans (kT HK (gC GW462 gN)) (KeepBut.of_below hb g none) (.inl rfl)); replace NB462_479 := ak (nl hg (bG BK462)); replace NB479_462 := ak (ng hg (bG BK462)); replace BK462 := bB BK462 hb; replace NB0_479 := nS hg (IsS134.lt (IsS134.T_ HI0 (nC NB0_462 nN))); replace NB479_0 := mS hg (IsS134.lt (IsS134.T_ HI0 (nC NB0_462 nN))); replace HI0 := ak (IsS134.below (IsS134.T_ HI0 (nC NB0_462 nN)) hb); clear hb hbox hg; have hnb72 := NB479_462.out; have hnc72 := NB462_479.out; have hnb73 := NB479_0.out; have hnc73 := NB0_479.out; obtain ⟨_, _, _, _, _, _, _, _, _, _, _, _, _, _, _, _⟩ := bC8 BK479) | ((with_reducible refine gate_dst (N := 42) rfl ?_); refine Kd.R_lit Kd.string _ 9 ?hg (N := 42) ?hd (xs := ([(⟨#[]⟩ : ByteArray), (⟨#[65]⟩ : ByteArray), (⟨#[110, 105, 110, 101, 98, 121, 116, 101, 115]⟩ : ByteArray)] : List ByteArray)) (inner := [.string (⟨#[]⟩ : ByteArray), .string (⟨#[65]⟩ : ByteArray), .string (⟨#[110, 105, 110, 101, 98, 121, 116, 101, 115]⟩ : ByteArray)]) (ok := fun _ => True) (okp := fun _ => True) ?hr ?hp (fun _ hk => hk) trivial (Below.refl _ _) (Nat.le_refl _) (by simp) ?_; (case hd => rfl); (case hg => rfl); (case hr => first | (go_simp; done) | (go_simp; rfl)); (case hp => exact hpR); intro v489 w75 ho76 hb hg_ hnew_; clear hg_ hnew_; (first | rw [← Ny488.out] at ho76 | (simp only [Int.reduceToNat] at ho76; rw [← Ny488.out] at ho76)); replace HO490 := ak (Kd.R_lower ho76 (keep_size (w := w) (g := g) (row := none) (kT HK (gC GW462 (gC GW479 gN))))); replace BK462 := ak (blk_below (bT BK462 (nC NB462_479 nN)) hb); replace BK479 := ak (blk_below (g := gb479) (o := .cells #[.int .i64 t469, .int .i64 t470, .int .i64 t471, .int .i64 t472, .int .i64 t473, .string t474, .string t475, .string t476] 23 (0, 0)) (bW BK479) hb); replace HK := ak (KeepBut.trans (kT HK (gC GW462 (gC GW479 gN))) (KeepBut.of_below hb g none) (.inl rfl)); replace HB := ak (below_step (lT HB (gC GE462 (gC GE479 gN))) hb); replace HI0 := ak (IsS134.below (IsS134.T_ HI0 (nC NB0_462 (nC NB0_479 nN))) hb); clear hb ho76; obtain ⟨Ao77, co77, eo77⟩ := Kd.R_slice HO490.out; subst eo77; have p491 : 0 ≤ ((ji64) : Int) := oda; have q491 : (ji64) < (y488.length : Int) := oda; obtain ⟨ad491, e491, hx491_0⟩ := Kd.at_string (Kd.R_reads' HO490.out).2.2 (ji64) p491 q491; cases e491; replace p491 := eq_true p491; replace q491 := eq_true q491; obtain ⟨_, _, _, _, _, _, _, _, _, _, _, _, _, _, _, _⟩ := bC8 BK479; have hnb79 := NB462_0.out; have hnc79 := NB0_462.out; obtain ⟨_, _, _, _, _, _, _, _, _, _, _, _, _, _, _, _⟩ := bC8 BK462))
 refine bodyPost_ret (results_cell_row rfl _ _ gb462 23 #[.int .i64 t469, .int .i64 t470, .int .i64 t471, .int .i64 t472, .int .i64 t473, .string (rdOf ByteArray.empty y488 (ji64)), .string t475, .string t476] (0, 0) _ rfl (bF BK462 (nC NB462_479 nN)) Try.underlying23 rfl (by kernel_rfl)) rfl ?_
 exact ⟨by first | rfl | (simp [errW_none, errW_some] <;> rfl) | (simp only [← hji64]; first | rfl | (simp [errW_none, errW_some] <;> rfl)) | (simp [*, errW_none, errW_some] <;> rfl), IsS134.T_ HI0 (nC NB0_462 (nC NB0_479 nN)), lT HB (gC GE462 (gC GE479 gN)), kT HK (gC GW462 (gC GW479 gN))⟩
 }
 {rw [if_neg c66] at H;exact absurd H (by simp)}
 }
 {rw [if_neg c65] at H;exact absurd H (by simp)}
 }
 {
 rw [if_neg c63] at H
 have c63b0 := beq_eq_false_iff_ne.mpr c63
 have c63b1 := bne_iff_ne.mpr c63
 by_cases c81 : t463 = 5
 {
 rw [if_pos c81] at H
 have c81b0 := beq_iff_eq.mpr c81
 have c81b1 := bne_eq_false_iff_eq.mpr c81
 clear c81
 obtain ⟨t492, A82, H⟩ := eb H
 try dsimp only at H
 simp only [Option.some.injEq, Prod.mk.injEq] at H
 obtain ⟨rfl, rfl, rfl, rfl, rfl, rfl, rfl, rfl, rfl, rfl⟩ := H
 refine ⟨?_⟩
 go_wp2_with (first | ((with_reducible refine gate_dst (N := 5) rfl ?_); refine b8 5 ?_; intro gb479 hg w87 hbox hb; replace HB := ak (below_step (lT HB (gC GE462 gN)) hb); replace BK479 := ak (hbox); replace GW479 := gW hg (kT HK (gC GW462 gN)); replace GE479 := gE HW0 GW479; replace HK := ak (KeepBut.trans (kT HK (gC GW462 gN)) (KeepBut.of_below hb g none) (.inl rfl)); replace NB462_479 := ak (nl hg (bG BK462)); replace NB479_462 := ak (ng hg (bG BK462)); replace BK462 := bB BK462 hb; replace NB0_479 := nS hg (IsS134.lt (IsS134.T_ HI0 (nC NB0_462 nN))); replace NB479_0 := mS hg (IsS134.lt (IsS134.T_ HI0 (nC NB0_462 nN))); replace HI0 := ak (IsS134.below (IsS134.T_ HI0 (nC NB0_462 nN)) hb); clear hb hbox hg; have hnb88 := NB479_462.out; have hnc88 := NB462_479.out; have hnb89 := NB479_0.out; have hnc89 := NB0_479.out; obtain ⟨_, _, _, _, _, _, _, _, _, _, _, _, _, _, _, _⟩ := bC8 BK479) | ((with_reducible refine gate_callee (f := 100) rfl ?_); refine gl (some 53) Try.func100 #[.int .i64 (wrap64 (100 + (Int.tmod t466 2))), .int .u8 97] ?_; (with_reducible refine (spec_l01Long.calls k (wrap64 (100 + (Int.tmod t466 2))) 97 t492 _ A82.out).mono ?_); rintro e w91 ⟨rfl, hb⟩; refine ⟨_, rfl, ?_⟩; replace BK462 := ak (blk_below (bT BK462 (nC NB462_479 nN)) hb); replace BK479 := ak (blk_below (g := gb479) (o := .cells #[.int .i64 t469, .int .i64 t470, .int .i64 t471, .int .i64 t472, .int .i64 t473, .string t474, .string t475, .string t476] 23 (0, 0)) (bW BK479) hb); replace HK := ak (KeepBut.trans (kT HK (gC GW462 (gC GW479 gN))) (KeepBut.of_below hb g none) (.inl rfl)); replace HB := ak (below_step (lT HB (gC GE462 (gC GE479 gN))) hb); replace HI0 := ak (IsS134.below (IsS134.T_ HI0 (nC NB0_462 (nC NB0_479 nN))) hb); (try clear hb); (try clear hk); (try clear hi); obtain ⟨_, _, _, _, _, _, _, _, _, _, _, _, _, _, _, _⟩ := bC8 BK479; have hnb93 := NB462_0.out; have hnc93 := NB0_462.out; obtain ⟨_, _, _, _, _, _, _, _, _, _, _, _, _, _, _, _⟩ := bC8 BK462))
 refine bodyPost_ret (results_cell_row rfl _ _ gb462 23 #[.int .i64 t469, .int .i64 t470, .int .i64 t471, .int .i64 t472, .int .i64 t473, .string t474, .string t475, .string t492] (0, 0) _ rfl (bF BK462 (nC NB462_479 nN)) Try.underlying23 rfl (by kernel_rfl)) rfl ?_
 exact ⟨ew, IsS134.T_ HI0 (nC NB0_462 (nC NB0_479 nN)), lT HB (gC GE462 (gC GE479 gN)), kT HK (gC GW462 (gC GW479 gN))⟩
 }
 {
 rw [if_neg c81] at H
 have c81b0 := beq_eq_false_iff_ne.mpr c81
 have c81b1 := bne_iff_ne.mpr c81
 by_cases c95 : t463 = 6
 {
 rw [if_pos c95] at H
 have c95b0 := beq_iff_eq.mpr c95
 have c95b1 := bne_eq_false_iff_eq.mpr c95
 clear c95
 simp only [Option.some.injEq, Prod.mk.injEq] at H
 obtain ⟨rfl, rfl, rfl, rfl, rfl, rfl, rfl, rfl, rfl, rfl⟩ := H
 refine ⟨?_⟩
 go_upto_region 18 with ((with_reducible refine gate_dst (N := 5) rfl ?_); refine b8 5 ?_; intro gb479 hg w100 hbox hb; replace HB := ak (below_step (lT HB (gC GE462 gN)) hb); replace BK479 := ak (hbox); replace GW479 := gW hg (kT HK (gC GW462 gN)); replace GE479 := gE HW0 GW479; replace HK := ak (KeepBut.trans (kT HK (gC GW462 gN)) (KeepBut.of_below hb g none) (.inl rfl)); replace NB462_479 := ak (nl hg (bG BK462)); replace NB479_462 := ak (ng hg (bG BK462)); replace BK462 := bB BK462 hb; replace NB0_479 := nS hg (IsS134.lt (IsS134.T_ HI0 (nC NB0_462 nN))); replace NB479_0 := mS hg (IsS134.lt (IsS134.T_ HI0 (nC NB0_462 nN))); replace HI0 := ak (IsS134.below (IsS134.T_ HI0 (nC NB0_462 nN)) hb); clear hb hbox hg; have hnb101 := NB479_462.out; have hnc101 := NB462_479.out; have hnb102 := NB479_0.out; have hnc102 := NB0_479.out; obtain ⟨_, _, _, _, _, _, _, _, _, _, _, _, _, _, _, _⟩ := bC8 BK479; have hnb104 := NB462_0.out; have hnc104 := NB0_462.out; obtain ⟨_, _, _, _, _, _, _, _, _, _, _, _, _, _, _, _⟩ := bC8 BK462)
 have m1_ : Aside0 (((((((((w100.setCell ⟨gb479, 0, none⟩ (.int .i64 t469)).setCell ⟨gb479, 1, none⟩ (.int .i64 t470)).setCell ⟨gb479, 2, none⟩ (.int .i64 t471)).setCell ⟨gb479, 3, none⟩ (.int .i64 t472)).setCell ⟨gb479, 4, none⟩ (.int .i64 t473)).setCell ⟨gb479, 5, none⟩ (.string t474)).setCell ⟨gb479, 6, none⟩ (.string t475)).setCell ⟨gb479, 7, none⟩ (.string t476)).heap[gb479]? = some (.cells #[.int .i64 t469, .int .i64 t470, .int .i64 t471, .int .i64 t472, .int .i64 t473, .string t474, .string t475, .string t476] 23 (0, 0))) := ak (bW BK479)
 have m2_ := ak (bT (w' := ((((((((w100.setCell ⟨gb479, 0, none⟩ (.int .i64 t469)).setCell ⟨gb479, 1, none⟩ (.int .i64 t470)).setCell ⟨gb479, 2, none⟩ (.int .i64 t471)).setCell ⟨gb479, 3, none⟩ (.int .i64 t472)).setCell ⟨gb479, 4, none⟩ (.int .i64 t473)).setCell ⟨gb479, 5, none⟩ (.string t474)).setCell ⟨gb479, 6, none⟩ (.string t475)).setCell ⟨gb479, 7, none⟩ (.string t476))) BK462 (nC NB462_479 nN))
 have m3_ := ak (IsS134.T_ (W' := ((((((((w100.setCell ⟨gb479, 0, none⟩ (.int .i64 t469)).setCell ⟨gb479, 1, none⟩ (.int .i64 t470)).setCell ⟨gb479, 2, none⟩ (.int .i64 t471)).setCell ⟨gb479, 3, none⟩ (.int .i64 t472)).setCell ⟨gb479, 4, none⟩ (.int .i64 t473)).setCell ⟨gb479, 5, none⟩ (.string t474)).setCell ⟨gb479, 6, none⟩ (.string t475)).setCell ⟨gb479, 7, none⟩ (.string t476))) HI0 (nC NB0_462 (nC NB0_479 nN)))
 have m4_ := ak (lT (w' := ((((((((w100.setCell ⟨gb479, 0, none⟩ (.int .i64 t469)).setCell ⟨gb479, 1, none⟩ (.int .i64 t470)).setCell ⟨gb479, 2, none⟩ (.int .i64 t471)).setCell ⟨gb479, 3, none⟩ (.int .i64 t472)).setCell ⟨gb479, 4, none⟩ (.int .i64 t473)).setCell ⟨gb479, 5, none⟩ (.string t474)).setCell ⟨gb479, 6, none⟩ (.string t475)).setCell ⟨gb479, 7, none⟩ (.string t476))) HB (gC GE462 (gC GE479 gN)))
 have m5_ := ak (kT (w' := ((((((((w100.setCell ⟨gb479, 0, none⟩ (.int .i64 t469)).setCell ⟨gb479, 1, none⟩ (.int .i64 t470)).setCell ⟨gb479, 2, none⟩ (.int .i64 t471)).setCell ⟨gb479, 3, none⟩ (.int .i64 t472)).setCell ⟨gb479, 4, none⟩ (.int .i64 t473)).setCell ⟨gb479, 5, none⟩ (.string t474)).setCell ⟨gb479, 6, none⟩ (.string t475)).setCell ⟨gb479, 7, none⟩ (.string t476))) HK (gC GW462 (gC GW479 gN)))
 clear BK479 BK462 HI0 HB HK
 generalize ((((((((w100.setCell ⟨gb479, 0, none⟩ (.int .i64 t469)).setCell ⟨gb479, 1, none⟩ (.int .i64 t470)).setCell ⟨gb479, 2, none⟩ (.int .i64 t471)).setCell ⟨gb479, 3, none⟩ (.int .i64 t472)).setCell ⟨gb479, 4, none⟩ (.int .i64 t473)).setCell ⟨gb479, 5, none⟩ (.string t474)).setCell ⟨gb479, 6, none⟩ (.string t475)).setCell ⟨gb479, 7, none⟩ (.string t476)) = w109 at m1_ m2_ m3_ m4_ m5_ ⊢
 have BK479 := m1_
 have BK462 := m2_
 have HI0 := m3_
 have HB := m4_
 have HK := m5_
 clear m1_ m2_ m3_ m4_ m5_
 obtain ⟨hcy0_0, hcy0_1, hcy0_2, hcy0_3, hcy0_4, hcy0_5, hcy0_6, hcy0_7, hfy0_0, hfy0_1, hfy0_2, hfy0_3, hfy0_4, hfy0_5, hfy0_6, hfy0_7⟩ := bC8 BK479
 obtain ⟨hcy1_0, hcy1_1, hcy1_2, hcy1_3, hcy1_4, hcy1_5, hcy1_6, hcy1_7, hfy1_0, hfy1_1, hfy1_2, hfy1_3, hfy1_4, hfy1_5, hfy1_6, hfy1_7⟩ := bC8 BK462
 go_wp2
 refine bodyPost_ret (results_cell_row rfl _ _ gb462 23 #[.int .i64 t469, .int .i64 t470, .int .i64 t471, .int .i64 (Int.tmod t466 4), .int .i64 t473, .string t474, .string t475, .string t476] (0, 0) _ rfl (bF BK462 (nC NB462_479 nN)) Try.underlying23 rfl (by kernel_rfl)) rfl ?_
 exact ⟨ew, IsS134.T_ HI0 (nC NB0_462 (nC NB0_479 nN)), lT HB (gC GE462 (gC GE479 gN)), kT HK (gC GW462 (gC GW479 gN))⟩
 }
 {
 rw [if_neg c95] at H
 have c95b0 := beq_eq_false_iff_ne.mpr c95
 have c95b1 := bne_iff_ne.mpr c95
 simp only [Option.some.injEq, Prod.mk.injEq] at H
 obtain ⟨rfl, rfl, rfl, rfl, rfl, rfl, rfl, rfl, rfl, rfl⟩ := H
 refine ⟨?_⟩
 go_wp2_with ((with_reducible refine gate_dst (N := 5) rfl ?_); refine b8 5 ?_; intro gb479 hg w110 hbox hb; replace HB := ak (below_step (lT HB (gC GE462 gN)) hb); replace BK479 := ak (hbox); replace GW479 := gW hg (kT HK (gC GW462 gN)); replace GE479 := gE HW0 GW479; replace HK := ak (KeepBut.trans (kT HK (gC GW462 gN)) (KeepBut.of_below hb g none) (.inl rfl)); replace NB462_479 := ak (nl hg (bG BK462)); replace NB479_462 := ak (ng hg (bG BK462)); replace BK462 := bB BK462 hb; replace NB0_479 := nS hg (IsS134.lt (IsS134.T_ HI0 (nC NB0_462 nN))); replace NB479_0 := mS hg (IsS134.lt (IsS134.T_ HI0 (nC NB0_462 nN))); replace HI0 := ak (IsS134.below (IsS134.T_ HI0 (nC NB0_462 nN)) hb); clear hb hbox hg; have hnb111 := NB479_462.out; have hnc111 := NB462_479.out; have hnb112 := NB479_0.out; have hnc112 := NB0_479.out; obtain ⟨_, _, _, _, _, _, _, _, _, _, _, _, _, _, _, _⟩ := bC8 BK479; have hnb114 := NB462_0.out; have hnc114 := NB0_462.out; obtain ⟨_, _, _, _, _, _, _, _, _, _, _, _, _, _, _, _⟩ := bC8 BK462)
 refine bodyPost_ret (results_cell_row rfl _ _ gb462 23 #[.int .i64 t469, .int .i64 t470, .int .i64 t471, .int .i64 t472, .int .i64 t473, .string t474, .string t475, .string t476] (0, 0) _ rfl (bF BK462 (nC NB462_479 nN)) Try.underlying23 rfl (by kernel_rfl)) rfl ?_
 exact ⟨ew, IsS134.T_ HI0 (nC NB0_462 (nC NB0_479 nN)), lT HB (gC GE462 (gC GE479 gN)), kT HK (gC GW462 (gC GW479 gN))⟩
 }
 }
 }
 }
 }
 }
 }
def spec_l01Once.f (s0_0 : List Int) (s0_1 : Int) (s0_2 : Int) (a1 : Int) : Option (Bool × Int × Int) := (spec_l01Below.f s0_0 s0_1 s0_2 a1).bind fun bt493 => (some ((bt493.1 == 0), bt493.2.1, bt493.2.2))
theorem spec_l01Once.calls (g : Nat) (s0_0 : List Int) (s0_1 : Int) (s0_2 : Int) (a1 : Int) (r1 : Bool) (r2 : Int) (r3 : Int) (w0 w : World) (hI : IsS134 w0 w g s0_0 s0_1 s0_2) (hB : Below w0.heap.size w0 w) (h : spec_l01Once.f s0_0 s0_1 s0_2 a1 = some (r1, r2, r3)) :
  Calls Try.prog 88 #[.pointer (some ⟨g, 0, none⟩), .int .i64 a1] w fun e w' => e = .returned (.bool r1) ∧ IsS134 w0 w' g s0_0 r2 r3 ∧ Below w0.heap.size w0 w' ∧ KeepBut w w' g none := by
 have HI0 := Aside0.mk hI
 have HK := ak (KeepBut.refl w g none)
 have HL := Aside0.mk hB.size
 clear hI
 have HW0 := Aside0.mk hB.size
 have HB := Aside0.mk hB
 clear hB
 have H := h
 clear h
 unfold spec_l01Once.f at H
 obtain ⟨⟨t493, t494, t495⟩, A3, H⟩ := eb H
 try dsimp only at H
 simp only [Option.some.injEq, Prod.mk.injEq] at H
 obtain ⟨rfl, rfl, rfl⟩ := H
 go_enter Try.func88, Try.ntmps88
 go_wp2_with ((with_reducible refine gate_callee (f := 69) rfl ?_); refine gl (some 7) Try.func69 #[.pointer (some ⟨g, 0, none⟩), .int .i64 a1] ?_; (with_reducible refine (spec_l01Below.calls g s0_0 s0_1 s0_2 a1 t493 t494 t495 w0 _ ?side1 ?side2 A3.out).mono ?_); (case side1 => exact IsS134.T_ HI0 nN); (case side2 => exact lT HB gN); rintro e w4 ⟨rfl, hi, hb, hk⟩; refine ⟨_, rfl, ?_⟩; replace HK := ak (KeepBut.trans (kT HK gN) hk (.inl rfl)); replace HB := ak (hb); replace HI0 := ak (hi); (try clear hb); (try clear hk); (try clear hi))
 go_ret
 exact ⟨ew, IsS134.T_ HI0 nN, lT HB gN, kT HK gN⟩
def spec_l07Items.l0 : Nat → List (S32) → Int → List Int → Int → Int → Option ((List (S32)) × Int × Int)
 | 0, _, _, _, _, _ => none
 | k + 1, a, b, c, d, e => (spec_l01Below.f c d e 22).bind fun bt499 => (if b < bt499.1 then ((spec_l06Rec.f c bt499.2.1 bt499.2.2).bind fun bt502 => (if a.length < 1466015503701 then (spec_l07Items.l0 k (a ++ [(⟨wrap64 (2 + b), (⟨bt502.1, bt502.2.1, bt502.2.2.1, bt502.2.2.2.1, bt502.2.2.2.2.1, bt502.2.2.2.2.2.1, bt502.2.2.2.2.2.2.1, bt502.2.2.2.2.2.2.2.1⟩ : S23)⟩ : S32)]) (wrap64 (b + 1)) c bt502.2.2.2.2.2.2.2.2.1 bt502.2.2.2.2.2.2.2.2.2) else (none))) else (if (a.length : Int) > 1 then ((spec_l01Once.f c bt499.2.1 bt499.2.2 3).bind fun bt515 => (if bt515.1 = true then ((spec_l01Below.f c bt515.2.1 bt515.2.2 (a.length : Int)).bind fun bt518 => (if 0 ≤ bt518.1 then (if bt518.1 < (a.length : Int) then (if a.length < 1466015503701 then (some ((a ++ [(⟨(rd_T32 a bt518.1).f0, (⟨(rd_T32 a bt518.1).f1.f0, (rd_T32 a bt518.1).f1.f1, (rd_T32 a bt518.1).f1.f2, (rd_T32 a bt518.1).f1.f3, (rd_T32 a bt518.1).f1.f4, (rd_T32 a bt518.1).f1.f5, (rd_T32 a bt518.1).f1.f6, (rd_T32 a bt518.1).f1.f7⟩ : S23)⟩ : S32)]), bt518.2.1, bt518.2.2)) else (none)) else (none)) else (none))) else (some (a, bt515.2.1, bt515.2.2)))) else (some (a, bt499.2.1, bt499.2.2))))
def spec_l07Items.f (k : Nat) (s0_0 : List Int) (s0_1 : Int) (s0_2 : Int) : Option ((List (S32)) × Int × Int) := spec_l07Items.l0 k (([] : List (S32))) 0 s0_0 s0_1 s0_2
theorem spec_l07Items.mono_l : ∀ k, (∀ y0 y1 y2 y3 y4, LeO (spec_l07Items.l0 k y0 y1 y2 y3 y4) (spec_l07Items.l0 (k + 1) y0 y1 y2 y3 y4))
 | 0 => fun _ _ _ _ _ r h => by simp [spec_l07Items.l0] at h
 | k + 1 => by
  have ih0 := spec_l07Items.mono_l k
  ·intro y0 y1 y2 y3 y4
   unfold spec_l07Items.l0
   repeat' with_reducible first | exact ih0 _ _ _ _ _ | exact LeO.refl _ | exact LeO.none _ | refine LeO.ite ?_ ?_ | refine LeO.bind ?_ (fun _ => ?_)
theorem spec_l07Items.mono : ∀ a0 a1 a2 k, LeO (spec_l07Items.f k a0 a1 a2) (spec_l07Items.f (k + 1) a0 a1 a2) := by
 intro a0 a1 a2 k
 have ih0 := spec_l07Items.mono_l k
 unfold spec_l07Items.f
 repeat' with_reducible first | exact ih0 _ _ _ _ _ | exact LeO.refl _ | exact LeO.none _ | refine LeO.ite ?_ ?_ | refine LeO.bind ?_ (fun _ => ?_)
theorem spec_l07Items.calls (k : Nat) (g : Nat) (s0_0 : List Int) (s0_1 : Int) (s0_2 : Int) (r1 : List (S32)) (r2 : Int) (r3 : Int) (w0 w : World) (hI : IsS134 w0 w g s0_0 s0_1 s0_2) (hB : Below w0.heap.size w0 w) (h : spec_l07Items.f k s0_0 s0_1 s0_2 = some (r1, r2, r3)) :
  Calls Try.prog 72 #[.pointer (some ⟨g, 0, none⟩)] w fun e w' => ∃ v0_ : Value, e = .returned (v0_) ∧ Kd.R k32 32 w' w.heap.size (fun _ => True) v0_ r1 ∧ IsS134 w0 w' g s0_0 r2 r3 ∧ Below w0.heap.size w0 w' ∧ KeepBut w w' g none := by
 have hu32 := Try.underlying32
 have HI0 := Aside0.mk hI
 have HK := ak (KeepBut.refl w g none)
 have HL := Aside0.mk hB.size
 clear hI
 have HW0 := Aside0.mk hB.size
 have HB := Aside0.mk hB
 clear hB
 have H := h
 clear h
 unfold spec_l07Items.f at H
 obtain ⟨y496, hy496⟩ : ∃ y_ : List (S32), y_ = (([] : List (S32))) := ⟨_, rfl⟩
 replace H : (spec_l07Items.l0 k y496 0 s0_0 s0_1 s0_2) = some (r1, r2, r3) := by first | (rw [hy496]; with_reducible exact H) | (have H2_ := (Option.bind_some _ _).symm.trans H; rw [hy496]; with_reducible exact H2_) | (have H2_ := (Option.bind_some _ _).symm.trans H; with_reducible exact H2_) | with_reducible exact H | (rw [hy496]; exact H) | exact H
 have Ny496 := Aside0.mk hy496
 clear hy496
 have H' := Aside0.mk H
 clear H
 go_enter Try.func72, Try.ntmps72
 go_wp2_with ((with_reducible refine gate_dst (N := 5) rfl ?_); refine Kd.R_lit k32 _ 32 ?hg (N := 5) ?hd (xs := ([] : List (S32))) (inner := []) (ok := fun _ => True) (okp := fun _ => True) ?hr ?hp (fun _ hk => hk) trivial (Below.refl _ _) (Nat.le_refl _) (by simp) ?_; (case hd => rfl); (case hg => rfl); (case hr => first | (go_simp; done) | (go_simp; rfl)); (case hp => exact (Reps.none _ _)); intro v497 w2 ho3 hb hg_ hnew_; clear hg_ hnew_; (first | rw [← Ny496.out] at ho3 | (simp only [Int.reduceToNat] at ho3; rw [← Ny496.out] at ho3)); replace HO498 := ak (Kd.R_lower ho3 (keep_size (w := w) (g := g) (row := none) (kT HK gN))); replace HK := ak (KeepBut.trans (kT HK gN) (KeepBut.of_below hb g none) (.inl rfl)); replace HB := ak (below_step (lT HB gN) hb); replace HI0 := ak (IsS134.below (IsS134.T_ HI0 nN) hb); clear hb ho3)
 go_loopg [3, 4] k (fun kq v3 v4 w' => ∃ (x3_1 : List (S32)) (x4_1 : Int) (x1001_1 : Int) (x1002_1 : Int), v4 = .int .i64 x4_1 ∧ Aside0 (spec_l07Items.l0 kq x3_1 x4_1 s0_0 x1001_1 x1002_1 = some (r1, r2, r3)) ∧ Aside0 (kq ≤ k) ∧ Aside0 (Kd.R k32 32 w' w.heap.size (fun _ => True) v3 x3_1) ∧ Aside0 (IsS134 w0 w' g s0_0 x1001_1 x1002_1) ∧ Aside0 (KeepBut w w' g none) ∧ Aside0 (Below w0.heap.size w0 w'))
 case atStart => exact ⟨_, _, _, _, rr, H', ⟨Nat.le_refl _⟩, ⟨by (with_reducible repeat (first | apply Kd.R_alloc | apply Kd.R_drewN | apply Kd.R_drew)); exact HO498.out⟩, ⟨IsS134.T_ HI0 nN⟩, ⟨kT HK gN⟩, ⟨lT HB gN⟩⟩
 case round =>
  skip;{
 clear H'
 obtain ⟨x3_1, x4_1, x1001_1, x1002_1, rfl, HA, HK1, HO_3, HI0, HK, HB⟩ := hrel
 cases gk with
 | zero => exact absurd HA.out (by simp [spec_l07Items.l0])
 | succ k1 =>
  skip;{
 have H := HA.out
 clear HA
 simp only [spec_l07Items.l0] at H
 obtain ⟨⟨t499, t500, t501⟩, A4, H⟩ := eb H
 try dsimp only at H
 by_cases c5 : x4_1 < t499
 {
 rw [if_pos c5] at H
 have c5b0 := decide_eq_true c5
 clear c5
 obtain ⟨⟨t502, t503, t504, t505, t506, t507, t508, t509, t510, t511⟩, A6, H⟩ := eb H
 try dsimp only at H
 by_cases c7 : x3_1.length < 1466015503701
 {
 rw [if_pos c7] at H
 have LMc7 := Aside0.mk c7
 clear c7
 obtain ⟨y512, hy512⟩ : ∃ y_ : List (S32), y_ = (x3_1 ++ [(⟨wrap64 (2 + x4_1), (⟨t502, t503, t504, t505, t506, t507, t508, t509⟩ : S23)⟩ : S32)]) := ⟨_, rfl⟩
 replace H : (spec_l07Items.l0 k1 y512 (wrap64 (x4_1 + 1)) s0_0 t510 t511) = some (r1, r2, r3) := by first | (rw [hy512]; with_reducible exact H) | (have H2_ := (Option.bind_some _ _).symm.trans H; rw [hy512]; with_reducible exact H2_) | (have H2_ := (Option.bind_some _ _).symm.trans H; with_reducible exact H2_) | with_reducible exact H | (rw [hy512]; exact H) | exact H
 have Ny512 := Aside0.mk hy512
 clear hy512
 have H' := Aside0.mk H
 clear H
 go_wp2_with (first | ((with_reducible refine gate_callee (f := 69) rfl ?_); refine gl (some 8) Try.func69 #[.pointer (some ⟨g, 0, none⟩), .int .i64 22] ?_; (with_reducible refine (spec_l01Below.calls g s0_0 x1001_1 x1002_1 22 _ _ _ w0 _ ?side1 ?side2 A4.out).mono ?_); (case side1 => exact IsS134.T_ HI0 nN); (case side2 => exact lT HB gN); rintro e w8 ⟨rfl, hi, hb, hk⟩; refine ⟨_, rfl, ?_⟩; replace HO_3 := IsS134.kR hk (IsS134.T_ HI0 nN) (rG HO_3); replace HK := ak (KeepBut.trans (kT HK gN) hk (.inl rfl)); replace HB := ak (hb); replace HI0 := ak (hi); (try clear hb); (try clear hk); (try clear hi)) | ((with_reducible refine gate_callee (f := 99) rfl ?_); refine gl (some 16) Try.func99 #[.pointer (some ⟨g, 0, none⟩)] ?_; (with_reducible refine (spec_l06Rec.calls g s0_0 t500 t501 t502 t503 t504 t505 t506 t507 t508 t509 t510 t511 w0 _ ?side1 ?side2 A6.out).mono ?_); (case side1 => exact IsS134.T_ HI0 nN); (case side2 => exact lT HB gN); rintro e w9 ⟨rfl, hi, hb, hk⟩; refine ⟨_, rfl, ?_⟩; replace HO_3 := IsS134.kR hk (IsS134.T_ HI0 nN) (rG HO_3); replace HK := ak (KeepBut.trans (kT HK gN) hk (.inl rfl)); replace HB := ak (hb); replace HI0 := ak (hi); (try clear hb); (try clear hk); (try clear hi)) | ((with_reducible refine gate_builtin (b := .append) (xs := #[.tmp 12, .tmp 18]) rfl ?_); at_builtin; refine Kd.R_append k32 w.heap.size rfl (.tmp 12) (.tmp 18) 42 32 (.agg #[(.int .i64 0), (.int .i64 0), (.int .i64 0), (.int .i64 0), (.int .i64 0), (.int .i64 0), (.string ⟨#[]⟩), (.string ⟨#[]⟩), (.string ⟨#[]⟩)]) 96 rfl Try.underlying42 info32 rfl (by decide) (by omega) u3 x3_1 (⟨wrap64 (2 + x4_1), (⟨t502, t503, t504, t505, t506, t507, t508, t509⟩ : S23)⟩ : S32) [.int .i64 (wrap64 (2 + x4_1)), .int .i64 t502, .int .i64 t503, .int .i64 t504, .int .i64 t505, .int .i64 t506, .string t507, .string t508, .string t509] (fun _ => True) (fun _ => False) rfl rfl ?aP (fun _ hk => hk.elim) ?aF ?aO (Below.refl _ _) ?aS ?aL ?_; (case aP => exact k32_mkM _ _ _ (⟨wrap64 (2 + x4_1), (⟨t502, t503, t504, t505, t506, t507, t508, t509⟩ : S23)⟩ : S32)); (case aF => exact (fun _ _ => trivial)); (case aO => exact (rG HO_3)); (case aS => exact (keep_size (w := w) (g := g) (row := none) (kT HK gN))); (case aL => have := LMc7.out; omega); intro v513 w10 ho hb hg hat; rw [← Ny512.out] at ho; have n0_ := ak (IsS134.grown (IsS134.T_ HI0 nN) hg (IsS134.own_ne HI0.out HO_3.out (by decide))); have n1_ := ak (below_weaken (lT HB gN) HL.out hb); have n2_ := ak (KeepBut.trans (kT HK gN) (KeepBut.of_grown hg g) (Kd.R_base2 HO_3.out)); have n3_ := ak (ho); clear HI0; clear HB; clear HK; clear HO_3; have HI0 := n0_; have HB := n1_; have HK := n2_; have HO514 := n3_; clear n0_ n1_ n2_ n3_; clear ho hb hg hat))
 go_roundg k1
 case measure => have := HK1.out; omega
 case rel => exact ⟨_, _, _, _, rr, H', ⟨by have := HK1.out; omega⟩, ⟨by (with_reducible repeat (first | apply Kd.R_alloc | apply Kd.R_drewN | apply Kd.R_drew)); exact HO514.out⟩, ⟨IsS134.T_ HI0 nN⟩, ⟨kT HK gN⟩, ⟨lT HB gN⟩⟩
 }
 {rw [if_neg c7] at H;exact absurd H (by simp)}
 }
 {
 rw [if_neg c5] at H
 have c5b0 := decide_eq_false c5
 clear c5
 have HS_ := Aside0.mk H
 clear H
 go_wp2_with ((with_reducible refine gate_callee (f := 69) rfl ?_); refine gl (some 8) Try.func69 #[.pointer (some ⟨g, 0, none⟩), .int .i64 22] ?_; (with_reducible refine (spec_l01Below.calls g s0_0 x1001_1 x1002_1 22 _ _ _ w0 _ ?side1 ?side2 A4.out).mono ?_); (case side1 => exact IsS134.T_ HI0 nN); (case side2 => exact lT HB gN); rintro e w18 ⟨rfl, hi, hb, hk⟩; refine ⟨_, rfl, ?_⟩; replace HO_3 := IsS134.kR hk (IsS134.T_ HI0 nN) (rG HO_3); replace HK := ak (KeepBut.trans (kT HK gN) hk (.inl rfl)); replace HB := ak (hb); replace HI0 := ak (hi); (try clear hb); (try clear hk); (try clear hi); obtain ⟨Ao19, co19, eo19⟩ := Kd.R_slice HO_3.out; subst eo19; refine Stop.out ?_)
 have H := HS_.out
 clear HS_
 by_cases c11 : (x3_1.length : Int) > 1
 {
 rw [if_pos c11] at H
 have c11b0 : decide (1 < (x3_1.length : Int)) = true := decide_eq_true c11
 have c11b1 : decide (1 < x3_1.length) = true := decide_eq_true (by omega)
 clear c11
 obtain ⟨⟨t515, t516, t517⟩, A12, H⟩ := eb H
 try dsimp only at H
 have HS_ := Aside0.mk H
 clear H
 refine ⟨?_⟩
 go_wp2_with (go_at_call 88; (with_reducible refine (spec_l01Once.calls g s0_0 t500 t501 3 _ _ _ w0 _ ?side1 ?side2 A12.out).mono ?_); (case side1 => exact IsS134.T_ HI0 nN); (case side2 => exact lT HB gN); rintro e w20 ⟨rfl, hi, hb, hk⟩; replace HO_3 := IsS134.kR hk (IsS134.T_ HI0 nN) (rG HO_3); replace HK := ak (KeepBut.trans (kT HK gN) hk (.inl rfl)); replace HB := ak (hb); replace HI0 := ak (hi); (try clear hb); (try clear hk); (try clear hi); refine Stop.out ?_)
 have H := HS_.out
 clear HS_
 by_cases c13 : t515 = true
 {
 subst c13
 rw [if_pos rfl] at H
 obtain ⟨⟨t518, t519, t520⟩, A14, H⟩ := eb H
 try dsimp only at H
 by_cases c15 : 0 ≤ t518
 {
 rw [if_pos c15] at H
 have c15b0 := decide_eq_true c15
 clear c15
 by_cases c16 : t518 < (x3_1.length : Int)
 {
 rw [if_pos c16] at H
 have c16b0 := decide_eq_true c16
 clear c16
 by_cases c17 : x3_1.length < 1466015503701
 {
 rw [if_pos c17] at H
 have LMc17 := Aside0.mk c17
 clear c17
 obtain ⟨y522, hy522⟩ : ∃ y_ : List (S32), y_ = (x3_1 ++ [(⟨(rd_T32 x3_1 t518).f0, (⟨(rd_T32 x3_1 t518).f1.f0, (rd_T32 x3_1 t518).f1.f1, (rd_T32 x3_1 t518).f1.f2, (rd_T32 x3_1 t518).f1.f3, (rd_T32 x3_1 t518).f1.f4, (rd_T32 x3_1 t518).f1.f5, (rd_T32 x3_1 t518).f1.f6, (rd_T32 x3_1 t518).f1.f7⟩ : S23)⟩ : S32)]) := ⟨_, rfl⟩
 replace H : (some (y522, t519, t520)) = some (r1, r2, r3) := by first | (rw [hy522]; with_reducible exact H) | (have H2_ := (Option.bind_some _ _).symm.trans H; rw [hy522]; with_reducible exact H2_) | (have H2_ := (Option.bind_some _ _).symm.trans H; with_reducible exact H2_) | with_reducible exact H | (rw [hy522]; exact H) | exact H
 have Ny522 := Aside0.mk hy522
 clear hy522
 simp only [Option.some.injEq, Prod.mk.injEq] at H
 obtain ⟨rfl, rfl, rfl⟩ := H
 refine ⟨?_⟩
 go_wp2_with (first | ((with_reducible refine gate_callee (f := 69) rfl ?_); refine gl (some 32) Try.func69 #[.pointer (some ⟨g, 0, none⟩), .int .i64 (x3_1.length : Int)] ?_; (with_reducible refine (spec_l01Below.calls g s0_0 t516 t517 (x3_1.length : Int) t518 t519 t520 w0 _ ?side1 ?side2 A14.out).mono ?_); (case side1 => exact IsS134.T_ HI0 nN); (case side2 => exact lT HB gN); rintro e w21 ⟨rfl, hi, hb, hk⟩; refine ⟨_, rfl, ?_⟩; replace HO_3 := IsS134.kR hk (IsS134.T_ HI0 nN) (rG HO_3); replace HK := ak (KeepBut.trans (kT HK gN) hk (.inl rfl)); replace HB := ak (hb); replace HI0 := ak (hi); (try clear hb); (try clear hk); (try clear hi); have p521 : 0 ≤ (t518 : Int) := oda; have q521 : t518 < (x3_1.length : Int) := oda; obtain ⟨ad521, e521, hx521_0, hx521_1, hx521_2, hx521_3, hx521_4, hx521_5, hx521_6, hx521_7, hx521_8⟩ := at_T32 (Kd.R_reads' HO_3.out).2.2 t518 p521 q521; cases e521; replace p521 := eq_true p521; replace q521 := eq_true q521) | ((with_reducible refine gate_builtin (b := .append) (xs := #[.tmp 27, .tmp 35]) rfl ?_); at_builtin; refine Kd.R_append k32 w.heap.size rfl (.tmp 27) (.tmp 35) 42 32 (.agg #[(.int .i64 0), (.int .i64 0), (.int .i64 0), (.int .i64 0), (.int .i64 0), (.int .i64 0), (.string ⟨#[]⟩), (.string ⟨#[]⟩), (.string ⟨#[]⟩)]) 96 rfl Try.underlying42 info32 rfl (by decide) (by omega) (.slice (some ad521) x3_1.length co19) x3_1 (⟨(rd_T32 x3_1 t518).f0, (⟨(rd_T32 x3_1 t518).f1.f0, (rd_T32 x3_1 t518).f1.f1, (rd_T32 x3_1 t518).f1.f2, (rd_T32 x3_1 t518).f1.f3, (rd_T32 x3_1 t518).f1.f4, (rd_T32 x3_1 t518).f1.f5, (rd_T32 x3_1 t518).f1.f6, (rd_T32 x3_1 t518).f1.f7⟩ : S23)⟩ : S32) [.int .i64 ((rd_T32 x3_1 t518).f0), .int .i64 ((rd_T32 x3_1 t518).f1.f0), .int .i64 ((rd_T32 x3_1 t518).f1.f1), .int .i64 ((rd_T32 x3_1 t518).f1.f2), .int .i64 ((rd_T32 x3_1 t518).f1.f3), .int .i64 ((rd_T32 x3_1 t518).f1.f4), .string ((rd_T32 x3_1 t518).f1.f5), .string ((rd_T32 x3_1 t518).f1.f6), .string ((rd_T32 x3_1 t518).f1.f7)] (fun _ => True) (fun _ => False) rfl rfl ?aP (fun _ hk => hk.elim) ?aF ?aO (Below.refl _ _) ?aS ?aL ?_; (case aP => exact k32_mkM _ _ _ (⟨(rd_T32 x3_1 t518).f0, (⟨(rd_T32 x3_1 t518).f1.f0, (rd_T32 x3_1 t518).f1.f1, (rd_T32 x3_1 t518).f1.f2, (rd_T32 x3_1 t518).f1.f3, (rd_T32 x3_1 t518).f1.f4, (rd_T32 x3_1 t518).f1.f5, (rd_T32 x3_1 t518).f1.f6, (rd_T32 x3_1 t518).f1.f7⟩ : S23)⟩ : S32)); (case aF => exact (fun _ _ => trivial)); (case aO => exact (rG HO_3)); (case aS => exact (keep_size (w := w) (g := g) (row := none) (kT HK gN))); (case aL => have := LMc17.out; omega); intro v523 w22 ho hb hg hat; rw [← Ny522.out] at ho; have n0_ := ak (IsS134.grown (IsS134.T_ HI0 nN) hg (IsS134.own_ne HI0.out HO_3.out (by decide))); have n1_ := ak (below_weaken (lT HB gN) HL.out hb); have n2_ := ak (KeepBut.trans (kT HK gN) (KeepBut.of_grown hg g) (Kd.R_base2 HO_3.out)); have n3_ := ak (ho); clear HI0; clear HB; clear HK; clear HO_3; have HI0 := n0_; have HB := n1_; have HK := n2_; have HO524 := n3_; clear n0_ n1_ n2_ n3_; clear ho hb hg hat))
 go_ret
 exact ⟨_, ew, by (with_reducible repeat (first | apply Kd.R_alloc | apply Kd.R_drewN | apply Kd.R_drew)); exact HO524.out, IsS134.T_ HI0 nN, lT HB gN, kT HK gN⟩
 }
 {rw [if_neg c17] at H;exact absurd H (by simp)}
 }
 {rw [if_neg c16] at H;exact absurd H (by simp)}
 }
 {rw [if_neg c15] at H;exact absurd H (by simp)}
 }
 {
 replace c13 := Bool.eq_false_iff.mpr c13
 subst c13
 rw [if_neg (show ¬ (false = true) by decide)] at H
 simp only [Option.some.injEq, Prod.mk.injEq] at H
 obtain ⟨rfl, rfl, rfl⟩ := H
 refine ⟨?_⟩
 go_wp2
 go_ret
 exact ⟨_, ew, by (with_reducible repeat (first | apply Kd.R_alloc | apply Kd.R_drewN | apply Kd.R_drew)); exact HO_3.out, IsS134.T_ HI0 nN, lT HB gN, kT HK gN⟩
 }
 }
 {
 rw [if_neg c11] at H
 have c11b0 : decide (1 < (x3_1.length : Int)) = false := decide_eq_false c11
 have c11b1 : decide (1 < x3_1.length) = false := decide_eq_false (by omega)
 clear c11
 simp only [Option.some.injEq, Prod.mk.injEq] at H
 obtain ⟨rfl, rfl, rfl⟩ := H
 refine ⟨?_⟩
 go_wp2
 go_ret
 exact ⟨_, ew, by (with_reducible repeat (first | apply Kd.R_alloc | apply Kd.R_drewN | apply Kd.R_drew)); exact HO_3.out, IsS134.T_ HI0 nN, lT HB gN, kT HK gN⟩
 }
 }
 }
 }
def spec_l07Any.l0 : Nat → Int → List (S32) → List Int → Int → Int → Option ((List (S32)) × Int × Int)
 | 0, _, _, _, _, _ => none
 | k + 1, a, b, c, d, e => if (b.length : Int) < (wrap64 (199 + (Int.tmod a 3))) then (if b.length < 1466015503701 then (spec_l07Any.l0 k a (b ++ [(⟨wrap64 (100 + (b.length : Int)), (⟨2, 7, 0, 0, 0, (⟨#[]⟩ : ByteArray), (⟨#[]⟩ : ByteArray), (⟨#[]⟩ : ByteArray)⟩ : S23)⟩ : S32)]) c d e) else (none)) else (some (b, d, e))
def spec_l07Any.f (k : Nat) (s0_0 : List Int) (s0_1 : Int) (s0_2 : Int) : Option ((List (S32)) × Int × Int) := (spec_l01Below.f s0_0 s0_1 s0_2 14).bind fun bt525 => ((spec_l01Below.f s0_0 bt525.2.1 bt525.2.2 60).bind fun bt528 => ((some (([] : List (S32)) : List (S32))).bind fun y531 => ((spec_l07Items.f k s0_0 bt528.2.1 bt528.2.2).bind fun bt534 => (if y531.length + bt534.1.length < 1466015503701 then ((some (y531 ++ bt534.1 : List (S32))).bind fun y539 => (if bt525.1 = 0 then ((spec_l06Rec.f s0_0 bt534.2.1 bt534.2.2).bind fun bt542 => (if y539.length < 1466015503701 then (some ((y539 ++ [(⟨2, (⟨bt542.1, bt542.2.1, bt542.2.2.1, bt542.2.2.2.1, bt542.2.2.2.2.1, bt542.2.2.2.2.2.1, bt542.2.2.2.2.2.2.1, bt542.2.2.2.2.2.2.2.1⟩ : S23)⟩ : S32)]), bt542.2.2.2.2.2.2.2.2.1, bt542.2.2.2.2.2.2.2.2.2)) else (none))) else (if bt525.1 = 1 then ((spec_l06Any.f k s0_0 bt534.2.1 bt534.2.2).bind fun bt555 => (if y539.length < 1466015503701 then (some ((y539 ++ [(⟨99, (⟨bt555.1, bt555.2.1, bt555.2.2.1, bt555.2.2.2.1, bt555.2.2.2.2.1, bt555.2.2.2.2.2.1, bt555.2.2.2.2.2.2.1, bt555.2.2.2.2.2.2.2.1⟩ : S23)⟩ : S32)]), bt555.2.2.2.2.2.2.2.2.1, bt555.2.2.2.2.2.2.2.2.2)) else (none))) else (if bt525.1 = 2 then ((spec_l06Rec.f s0_0 bt534.2.1 bt534.2.2).bind fun bt568 => (if y539.length < 1466015503701 then (some ((y539 ++ [(⟨0, (⟨bt568.1, bt568.2.1, bt568.2.2.1, bt568.2.2.2.1, bt568.2.2.2.2.1, bt568.2.2.2.2.2.1, bt568.2.2.2.2.2.2.1, bt568.2.2.2.2.2.2.2.1⟩ : S23)⟩ : S32)]), bt568.2.2.2.2.2.2.2.2.1, bt568.2.2.2.2.2.2.2.2.2)) else (none))) else (if bt525.1 = 3 then (spec_l07Any.l0 k bt528.1 y539 s0_0 bt534.2.1 bt534.2.2) else (some (y539, bt534.2.1, bt534.2.2))))))) else (none)))))
theorem spec_l07Any.mono_l : ∀ k, (∀ y0 y1 y2 y3 y4, LeO (spec_l07Any.l0 k y0 y1 y2 y3 y4) (spec_l07Any.l0 (k + 1) y0 y1 y2 y3 y4))
 | 0 => fun _ _ _ _ _ r h => by simp [spec_l07Any.l0] at h
 | k + 1 => by
  have ih0 := spec_l07Any.mono_l k
  ·intro y0 y1 y2 y3 y4
   unfold spec_l07Any.l0
   repeat' with_reducible first | exact ih0 _ _ _ _ _ | exact spec_l06Any.mono _ _ _ _ | exact spec_l07Items.mono _ _ _ _ | exact LeO.refl _ | exact LeO.none _ | refine LeO.ite ?_ ?_ | refine LeO.bind ?_ (fun _ => ?_)
theorem spec_l07Any.mono : ∀ a0 a1 a2 k, LeO (spec_l07Any.f k a0 a1 a2) (spec_l07Any.f (k + 1) a0 a1 a2) := by
 intro a0 a1 a2 k
 have ih0 := spec_l07Any.mono_l k
 unfold spec_l07Any.f
 repeat' with_reducible first | exact ih0 _ _ _ _ _ | exact spec_l06Any.mono _ _ _ _ | exact spec_l07Items.mono _ _ _ _ | exact LeO.refl _ | exact LeO.none _ | refine LeO.ite ?_ ?_ | refine LeO.bind ?_ (fun _ => ?_)
theorem spec_l07Any.calls (k : Nat) (g : Nat) (s0_0 : List Int) (s0_1 : Int) (s0_2 : Int) (r1 : List (S32)) (r2 : Int) (r3 : Int) (w0 w : World) (hI : IsS134 w0 w g s0_0 s0_1 s0_2) (hB : Below w0.heap.size w0 w) (h : spec_l07Any.f k s0_0 s0_1 s0_2 = some (r1, r2, r3)) :
  Calls Try.prog 87 #[.pointer (some ⟨g, 0, none⟩)] w fun e w' => ∃ v0_ : Value, e = .returned (v0_) ∧ Kd.R k32 32 w' w.heap.size (fun _ => True) v0_ r1 ∧ IsS134 w0 w' g s0_0 r2 r3 ∧ Below w0.heap.size w0 w' ∧ KeepBut w w' g none := by
 have hu32 := Try.underlying32
 have hu23 := Try.underlying23
 have HI0 := Aside0.mk hI
 have HK := ak (KeepBut.refl w g none)
 have HL := Aside0.mk hB.size
 clear hI
 have HW0 := Aside0.mk hB.size
 have HB := Aside0.mk hB
 clear hB
 have H := h
 clear h
 unfold spec_l07Any.f at H
 obtain ⟨⟨t525, t526, t527⟩, A2, H⟩ := eb H
 try dsimp only at H
 have HS_ := Aside0.mk H
 clear H
 go_enter Try.func87, Try.ntmps87
 go_wp2_with ((with_reducible refine gate_callee (f := 69) rfl ?_); refine gl (some 7) Try.func69 #[.pointer (some ⟨g, 0, none⟩), .int .i64 14] ?_; (with_reducible refine (spec_l01Below.calls g s0_0 s0_1 s0_2 14 _ _ _ w0 _ ?side1 ?side2 A2.out).mono ?_); (case side1 => exact IsS134.T_ HI0 nN); (case side2 => exact lT HB gN); rintro e w21 ⟨rfl, hi, hb, hk⟩; refine ⟨_, rfl, ?_⟩; replace HK := ak (KeepBut.trans (kT HK gN) hk (.inl rfl)); replace HB := ak (hb); replace HI0 := ak (hi); (try clear hb); (try clear hk); (try clear hi); refine Stop.out ?_)
 have H := HS_.out
 clear HS_
 obtain ⟨⟨t528, t529, t530⟩, A3, H⟩ := eb H
 try dsimp only at H
 have HS_ := Aside0.mk H
 clear H
 refine ⟨?_⟩
 go_wp2_with ((with_reducible refine gate_callee (f := 69) rfl ?_); refine gl (some 9) Try.func69 #[.pointer (some ⟨g, 0, none⟩), .int .i64 60] ?_; (with_reducible refine (spec_l01Below.calls g s0_0 t526 t527 60 _ _ _ w0 _ ?side1 ?side2 A3.out).mono ?_); (case side1 => exact IsS134.T_ HI0 nN); (case side2 => exact lT HB gN); rintro e w10 ⟨rfl, hi, hb, hk⟩; refine ⟨_, rfl, ?_⟩; replace HK := ak (KeepBut.trans (kT HK gN) hk (.inl rfl)); replace HB := ak (hb); replace HI0 := ak (hi); (try clear hb); (try clear hk); (try clear hi); refine Stop.out ?_)
 have H := HS_.out
 clear HS_
 obtain ⟨y531, hy531⟩ : ∃ y_ : List (S32), y_ = (([] : List (S32))) := ⟨_, rfl⟩
 replace H : ((spec_l07Items.f k s0_0 t529 t530).bind fun bt534 => (if y531.length + bt534.1.length < 1466015503701 then ((some (y531 ++ bt534.1 : List (S32))).bind fun y539 => (if t525 = 0 then ((spec_l06Rec.f s0_0 bt534.2.1 bt534.2.2).bind fun bt542 => (if y539.length < 1466015503701 then (some ((y539 ++ [(⟨2, (⟨bt542.1, bt542.2.1, bt542.2.2.1, bt542.2.2.2.1, bt542.2.2.2.2.1, bt542.2.2.2.2.2.1, bt542.2.2.2.2.2.2.1, bt542.2.2.2.2.2.2.2.1⟩ : S23)⟩ : S32)]), bt542.2.2.2.2.2.2.2.2.1, bt542.2.2.2.2.2.2.2.2.2)) else (none))) else (if t525 = 1 then ((spec_l06Any.f k s0_0 bt534.2.1 bt534.2.2).bind fun bt555 => (if y539.length < 1466015503701 then (some ((y539 ++ [(⟨99, (⟨bt555.1, bt555.2.1, bt555.2.2.1, bt555.2.2.2.1, bt555.2.2.2.2.1, bt555.2.2.2.2.2.1, bt555.2.2.2.2.2.2.1, bt555.2.2.2.2.2.2.2.1⟩ : S23)⟩ : S32)]), bt555.2.2.2.2.2.2.2.2.1, bt555.2.2.2.2.2.2.2.2.2)) else (none))) else (if t525 = 2 then ((spec_l06Rec.f s0_0 bt534.2.1 bt534.2.2).bind fun bt568 => (if y539.length < 1466015503701 then (some ((y539 ++ [(⟨0, (⟨bt568.1, bt568.2.1, bt568.2.2.1, bt568.2.2.2.1, bt568.2.2.2.2.1, bt568.2.2.2.2.2.1, bt568.2.2.2.2.2.2.1, bt568.2.2.2.2.2.2.2.1⟩ : S23)⟩ : S32)]), bt568.2.2.2.2.2.2.2.2.1, bt568.2.2.2.2.2.2.2.2.2)) else (none))) else (if t525 = 3 then (spec_l07Any.l0 k t528 y539 s0_0 bt534.2.1 bt534.2.2) else (some (y539, bt534.2.1, bt534.2.2))))))) else (none))) = some (r1, r2, r3) := by first | (rw [hy531]; with_reducible exact H) | (have H2_ := (Option.bind_some _ _).symm.trans H; rw [hy531]; with_reducible exact H2_) | (have H2_ := (Option.bind_some _ _).symm.trans H; with_reducible exact H2_) | with_reducible exact H | (rw [hy531]; exact H) | exact H
 have Ny531 := Aside0.mk hy531
 clear hy531
 obtain ⟨⟨t534, t537, t538⟩, A4, H⟩ := eb H
 try dsimp only at H
 have HS_ := Aside0.mk H
 clear H
 refine ⟨?_⟩
 go_wp2_with (first | ((with_reducible refine gate_dst (N := 10) rfl ?_); refine Kd.R_lit k32 _ 32 ?hg (N := 10) ?hd (xs := ([] : List (S32))) (inner := []) (ok := fun _ => True) (okp := fun _ => True) ?hr ?hp (fun _ hk => hk) trivial (Below.refl _ _) (Nat.le_refl _) (by simp) ?_; (case hd => rfl); (case hg => rfl); (case hr => first | (go_simp; done) | (go_simp; rfl)); (case hp => exact (Reps.none _ _)); intro v532 w11 ho12 hb hg_ hnew_; clear hg_ hnew_; (first | rw [← Ny531.out] at ho12 | (simp only [Int.reduceToNat] at ho12; rw [← Ny531.out] at ho12)); replace HO533 := ak (Kd.R_lower ho12 (keep_size (w := w) (g := g) (row := none) (kT HK gN))); replace HK := ak (KeepBut.trans (kT HK gN) (KeepBut.of_below hb g none) (.inl rfl)); replace HB := ak (below_step (lT HB gN) hb); replace HI0 := ak (IsS134.below (IsS134.T_ HI0 nN) hb); clear hb ho12) | ((with_reducible refine gate_callee (f := 72) rfl ?_); refine gl (some 12) Try.func72 #[.pointer (some ⟨g, 0, none⟩)] ?_; (with_reducible refine (spec_l07Items.calls k g s0_0 t529 t530 _ _ _ w0 _ ?side1 ?side2 A4.out).mono ?_); (case side1 => exact IsS134.T_ HI0 nN); (case side2 => exact lT HB gN); rintro e w13 ⟨v535, rfl, ho0, hi, hb, hk⟩; refine ⟨_, rfl, ?_⟩; replace HO536 := ak (Kd.R_lower (Kd.R_new' ho0 (Kd.R_lt (rG HO533))) (keep_size (w := w) (g := g) (row := none) (kT HK gN))); replace HO533 := ak (Kd.R_mono (Kd.R_told (Kd.R_oldK (IsS134.apart (IsS134.T_ HI0 nN) (rG HO533) (by decide)) hk) (Kd.R_base ho0)) (fun _ h_ => h_.1)); replace HK := ak (KeepBut.trans (kT HK gN) hk (.inl rfl)); replace HB := ak (hb); replace HI0 := ak (hi); (try clear hb); (try clear hk); (try clear hi); (try clear ho0); obtain ⟨Ao15, co15, eo15⟩ := Kd.R_slice HO536.out; subst eo15; refine Stop.out ?_))
 have H := HS_.out
 clear HS_
 by_cases c5 : y531.length + t534.length < 1466015503701
 {
 rw [if_pos c5] at H
 have LMc5 := Aside0.mk c5
 clear c5
 obtain ⟨y539, hy539⟩ : ∃ y_ : List (S32), y_ = (y531 ++ t534) := ⟨_, rfl⟩
 replace H : (if t525 = 0 then ((spec_l06Rec.f s0_0 t537 t538).bind fun bt542 => (if y539.length < 1466015503701 then (some ((y539 ++ [(⟨2, (⟨bt542.1, bt542.2.1, bt542.2.2.1, bt542.2.2.2.1, bt542.2.2.2.2.1, bt542.2.2.2.2.2.1, bt542.2.2.2.2.2.2.1, bt542.2.2.2.2.2.2.2.1⟩ : S23)⟩ : S32)]), bt542.2.2.2.2.2.2.2.2.1, bt542.2.2.2.2.2.2.2.2.2)) else (none))) else (if t525 = 1 then ((spec_l06Any.f k s0_0 t537 t538).bind fun bt555 => (if y539.length < 1466015503701 then (some ((y539 ++ [(⟨99, (⟨bt555.1, bt555.2.1, bt555.2.2.1, bt555.2.2.2.1, bt555.2.2.2.2.1, bt555.2.2.2.2.2.1, bt555.2.2.2.2.2.2.1, bt555.2.2.2.2.2.2.2.1⟩ : S23)⟩ : S32)]), bt555.2.2.2.2.2.2.2.2.1, bt555.2.2.2.2.2.2.2.2.2)) else (none))) else (if t525 = 2 then ((spec_l06Rec.f s0_0 t537 t538).bind fun bt568 => (if y539.length < 1466015503701 then (some ((y539 ++ [(⟨0, (⟨bt568.1, bt568.2.1, bt568.2.2.1, bt568.2.2.2.1, bt568.2.2.2.2.1, bt568.2.2.2.2.2.1, bt568.2.2.2.2.2.2.1, bt568.2.2.2.2.2.2.2.1⟩ : S23)⟩ : S32)]), bt568.2.2.2.2.2.2.2.2.1, bt568.2.2.2.2.2.2.2.2.2)) else (none))) else (if t525 = 3 then (spec_l07Any.l0 k t528 y539 s0_0 t537 t538) else (some (y539, t537, t538)))))) = some (r1, r2, r3) := by first | (rw [hy539]; with_reducible exact H) | (have H2_ := (Option.bind_some _ _).symm.trans H; rw [hy539]; with_reducible exact H2_) | (have H2_ := (Option.bind_some _ _).symm.trans H; with_reducible exact H2_) | with_reducible exact H | (rw [hy539]; exact H) | exact H
 have Ny539 := Aside0.mk hy539
 clear hy539
 by_cases c6 : t525 = 0
 {
 rw [if_pos c6] at H
 have c6b0 := beq_iff_eq.mpr c6
 have c6b1 := bne_eq_false_iff_eq.mpr c6
 clear c6
 obtain ⟨⟨t542, t543, t544, t545, t546, t547, t548, t549, t550, t551⟩, A7, H⟩ := eb H
 try dsimp only at H
 by_cases c8 : y539.length < 1466015503701
 {
 rw [if_pos c8] at H
 have LMc8 := Aside0.mk c8
 clear c8
 obtain ⟨y552, hy552⟩ : ∃ y_ : List (S32), y_ = (y539 ++ [(⟨2, (⟨t542, t543, t544, t545, t546, t547, t548, t549⟩ : S23)⟩ : S32)]) := ⟨_, rfl⟩
 replace H : (some (y552, t550, t551)) = some (r1, r2, r3) := by first | (rw [hy552]; with_reducible exact H) | (have H2_ := (Option.bind_some _ _).symm.trans H; rw [hy552]; with_reducible exact H2_) | (have H2_ := (Option.bind_some _ _).symm.trans H; with_reducible exact H2_) | with_reducible exact H | (rw [hy552]; exact H) | exact H
 have Ny552 := Aside0.mk hy552
 clear hy552
 simp only [Option.some.injEq, Prod.mk.injEq] at H
 obtain ⟨rfl, rfl, rfl⟩ := H
 refine ⟨?_⟩
 go_wp2_with (first | ((with_reducible refine gate_builtin (b := .append) (xs := #[.tmp 10, .tmp 12]) rfl ?_); at_builtin; refine Kd.R_append_rows k32 w.heap.size rfl (.tmp 10) (.tmp 12) 42 32 (.agg #[(.int .i64 0), (.int .i64 0), (.int .i64 0), (.int .i64 0), (.int .i64 0), (.int .i64 0), (.string ⟨#[]⟩), (.string ⟨#[]⟩), (.string ⟨#[]⟩)]) 96 rfl Try.underlying42 info32 rfl (by decide) (by omega) v532 y531 t534 _ _ _ (fun k_ => some k_ ≠ (.slice Ao15 t534.length co15 : Value).ownBlock) (fun _ => False) rfl rfl ?aO ?aR (fun _ _ h => h) (fun _ h => h.elim) ?aF (Below.refl _ _) ?aS ?aL ?_; (case aR => exact cG (Kd.R_reads' HO536.out).2.2); (case aF => exact (fun k_ hk => Kd.fresh' (Kd.R_lt (rG HO536)) k_ hk)); (case aO => exact (by (with_reducible repeat (first | apply Kd.R_alloc | apply Kd.R_drewN | apply Kd.R_drew)); exact Kd.R_mono HO533.out (fun _ hk => hk.2))); (case aS => exact (keep_size (w := w) (g := g) (row := none) (kT HK gN))); (case aL => have := LMc5.out; omega); intro v540 w14 ho hb hg hat; rw [← Ny539.out] at ho; have n0_ := ak (IsS134.grown (IsS134.T_ HI0 nN) hg (IsS134.own_ne HI0.out HO533.out (by decide))); have n1_ := ak (Kd.R_after (ok := (fun _ => True)) (rG HO536) hg hat); have n2_ := ak (below_weaken (lT HB gN) HL.out hb); have n3_ := ak (KeepBut.trans (kT HK gN) (KeepBut.of_grown hg g) (Kd.R_base2 HO533.out)); have n4_ := ak (ho); clear HI0; clear HO536; clear HB; clear HK; clear HO533; have HI0 := n0_; have HO536 := n1_; have HB := n2_; have HK := n3_; have HO541 := n4_; clear n0_ n1_ n2_ n3_ n4_; clear ho hb hg hat) | ((with_reducible refine gate_callee (f := 99) rfl ?_); refine gl (some 19) Try.func99 #[.pointer (some ⟨g, 0, none⟩)] ?_; (with_reducible refine (spec_l06Rec.calls g s0_0 t537 t538 t542 t543 t544 t545 t546 t547 t548 t549 t550 t551 w0 _ ?side1 ?side2 A7.out).mono ?_); (case side1 => exact IsS134.T_ HI0 nN); (case side2 => exact lT HB gN); rintro e w16 ⟨rfl, hi, hb, hk⟩; refine ⟨_, rfl, ?_⟩; replace HO536 := IsS134.kR hk (IsS134.T_ HI0 nN) (rG HO536); replace HO541 := IsS134.kR hk (IsS134.T_ HI0 nN) (rG HO541); replace HK := ak (KeepBut.trans (kT HK gN) hk (.inl rfl)); replace HB := ak (hb); replace HI0 := ak (hi); (try clear hb); (try clear hk); (try clear hi)) | ((with_reducible refine gate_builtin (b := .append) (xs := #[.tmp 17, .tmp 21]) rfl ?_); at_builtin; refine Kd.R_append k32 w.heap.size rfl (.tmp 17) (.tmp 21) 42 32 (.agg #[(.int .i64 0), (.int .i64 0), (.int .i64 0), (.int .i64 0), (.int .i64 0), (.int .i64 0), (.string ⟨#[]⟩), (.string ⟨#[]⟩), (.string ⟨#[]⟩)]) 96 rfl Try.underlying42 info32 rfl (by decide) (by omega) v540 y539 (⟨2, (⟨t542, t543, t544, t545, t546, t547, t548, t549⟩ : S23)⟩ : S32) [.int .i64 2, .int .i64 t542, .int .i64 t543, .int .i64 t544, .int .i64 t545, .int .i64 t546, .string t547, .string t548, .string t549] (fun k_ => some k_ ≠ (.slice Ao15 t534.length co15 : Value).ownBlock) (fun _ => False) rfl rfl ?aP (fun _ hk => hk.elim) ?aF ?aO (Below.refl _ _) ?aS ?aL ?_; (case aP => exact k32_mkM _ _ _ (⟨2, (⟨t542, t543, t544, t545, t546, t547, t548, t549⟩ : S23)⟩ : S32)); (case aF => exact (fun k_ hk => Kd.fresh' (Kd.R_lt (rG HO536)) k_ hk)); (case aO => exact (rG HO541)); (case aS => exact (keep_size (w := w) (g := g) (row := none) (kT HK gN))); (case aL => have := LMc8.out; omega); intro v553 w17 ho hb hg hat; rw [← Ny552.out] at ho; have n0_ := ak (IsS134.grown (IsS134.T_ HI0 nN) hg (IsS134.own_ne HI0.out HO541.out (by decide))); have n1_ := ak (Kd.R_after (ok := (fun _ => True)) (rG HO536) hg hat); have n2_ := ak (below_weaken (lT HB gN) HL.out hb); have n3_ := ak (KeepBut.trans (kT HK gN) (KeepBut.of_grown hg g) (Kd.R_base2 HO541.out)); have n4_ := ak (ho); clear HI0; clear HO536; clear HB; clear HK; clear HO541; have HI0 := n0_; have HO536 := n1_; have HB := n2_; have HK := n3_; have HO554 := n4_; clear n0_ n1_ n2_ n3_ n4_; clear ho hb hg hat))
 go_ret
 exact ⟨_, ew, by (with_reducible repeat (first | apply Kd.R_alloc | apply Kd.R_drewN | apply Kd.R_drew)); exact Kd.R_mono HO554.out (fun _ hk => trivial), IsS134.T_ HI0 nN, lT HB gN, kT HK gN⟩
 }
 {rw [if_neg c8] at H;exact absurd H (by simp)}
 }
 {
 rw [if_neg c6] at H
 have c6b0 := beq_eq_false_iff_ne.mpr c6
 have c6b1 := bne_iff_ne.mpr c6
 by_cases c18 : t525 = 1
 {
 rw [if_pos c18] at H
 have c18b0 := beq_iff_eq.mpr c18
 have c18b1 := bne_eq_false_iff_eq.mpr c18
 clear c18
 obtain ⟨⟨t555, t556, t557, t558, t559, t560, t561, t562, t563, t564⟩, A19, H⟩ := eb H
 try dsimp only at H
 by_cases c20 : y539.length < 1466015503701
 {
 rw [if_pos c20] at H
 have LMc20 := Aside0.mk c20
 clear c20
 obtain ⟨y565, hy565⟩ : ∃ y_ : List (S32), y_ = (y539 ++ [(⟨99, (⟨t555, t556, t557, t558, t559, t560, t561, t562⟩ : S23)⟩ : S32)]) := ⟨_, rfl⟩
 replace H : (some (y565, t563, t564)) = some (r1, r2, r3) := by first | (rw [hy565]; with_reducible exact H) | (have H2_ := (Option.bind_some _ _).symm.trans H; rw [hy565]; with_reducible exact H2_) | (have H2_ := (Option.bind_some _ _).symm.trans H; with_reducible exact H2_) | with_reducible exact H | (rw [hy565]; exact H) | exact H
 have Ny565 := Aside0.mk hy565
 clear hy565
 simp only [Option.some.injEq, Prod.mk.injEq] at H
 obtain ⟨rfl, rfl, rfl⟩ := H
 refine ⟨?_⟩
 go_wp2_with (first | ((with_reducible refine gate_builtin (b := .append) (xs := #[.tmp 10, .tmp 12]) rfl ?_); at_builtin; refine Kd.R_append_rows k32 w.heap.size rfl (.tmp 10) (.tmp 12) 42 32 (.agg #[(.int .i64 0), (.int .i64 0), (.int .i64 0), (.int .i64 0), (.int .i64 0), (.int .i64 0), (.string ⟨#[]⟩), (.string ⟨#[]⟩), (.string ⟨#[]⟩)]) 96 rfl Try.underlying42 info32 rfl (by decide) (by omega) v532 y531 t534 _ _ _ (fun k_ => some k_ ≠ (.slice Ao15 t534.length co15 : Value).ownBlock) (fun _ => False) rfl rfl ?aO ?aR (fun _ _ h => h) (fun _ h => h.elim) ?aF (Below.refl _ _) ?aS ?aL ?_; (case aR => exact cG (Kd.R_reads' HO536.out).2.2); (case aF => exact (fun k_ hk => Kd.fresh' (Kd.R_lt (rG HO536)) k_ hk)); (case aO => exact (by (with_reducible repeat (first | apply Kd.R_alloc | apply Kd.R_drewN | apply Kd.R_drew)); exact Kd.R_mono HO533.out (fun _ hk => hk.2))); (case aS => exact (keep_size (w := w) (g := g) (row := none) (kT HK gN))); (case aL => have := LMc5.out; omega); intro v540 w26 ho hb hg hat; rw [← Ny539.out] at ho; have n0_ := ak (IsS134.grown (IsS134.T_ HI0 nN) hg (IsS134.own_ne HI0.out HO533.out (by decide))); have n1_ := ak (Kd.R_after (ok := (fun _ => True)) (rG HO536) hg hat); have n2_ := ak (below_weaken (lT HB gN) HL.out hb); have n3_ := ak (KeepBut.trans (kT HK gN) (KeepBut.of_grown hg g) (Kd.R_base2 HO533.out)); have n4_ := ak (ho); clear HI0; clear HO536; clear HB; clear HK; clear HO533; have HI0 := n0_; have HO536 := n1_; have HB := n2_; have HK := n3_; have HO541 := n4_; clear n0_ n1_ n2_ n3_ n4_; clear ho hb hg hat) | ((with_reducible refine gate_callee (f := 66) rfl ?_); refine gl (some 27) Try.func66 #[.pointer (some ⟨g, 0, none⟩)] ?_; (with_reducible refine (spec_l06Any.calls k g s0_0 t537 t538 t555 t556 t557 t558 t559 t560 t561 t562 t563 t564 w0 _ ?side1 ?side2 A19.out).mono ?_); (case side1 => exact IsS134.T_ HI0 nN); (case side2 => exact lT HB gN); rintro e w28 ⟨rfl, hi, hb, hk⟩; refine ⟨_, rfl, ?_⟩; replace HO536 := IsS134.kR hk (IsS134.T_ HI0 nN) (rG HO536); replace HO541 := IsS134.kR hk (IsS134.T_ HI0 nN) (rG HO541); replace HK := ak (KeepBut.trans (kT HK gN) hk (.inl rfl)); replace HB := ak (hb); replace HI0 := ak (hi); (try clear hb); (try clear hk); (try clear hi)) | ((with_reducible refine gate_builtin (b := .append) (xs := #[.tmp 25, .tmp 29]) rfl ?_); at_builtin; refine Kd.R_append k32 w.heap.size rfl (.tmp 25) (.tmp 29) 42 32 (.agg #[(.int .i64 0), (.int .i64 0), (.int .i64 0), (.int .i64 0), (.int .i64 0), (.int .i64 0), (.string ⟨#[]⟩), (.string ⟨#[]⟩), (.string ⟨#[]⟩)]) 96 rfl Try.underlying42 info32 rfl (by decide) (by omega) v540 y539 (⟨99, (⟨t555, t556, t557, t558, t559, t560, t561, t562⟩ : S23)⟩ : S32) [.int .i64 99, .int .i64 t555, .int .i64 t556, .int .i64 t557, .int .i64 t558, .int .i64 t559, .string t560, .string t561, .string t562] (fun k_ => some k_ ≠ (.slice Ao15 t534.length co15 : Value).ownBlock) (fun _ => False) rfl rfl ?aP (fun _ hk => hk.elim) ?aF ?aO (Below.refl _ _) ?aS ?aL ?_; (case aP => exact k32_mkM _ _ _ (⟨99, (⟨t555, t556, t557, t558, t559, t560, t561, t562⟩ : S23)⟩ : S32)); (case aF => exact (fun k_ hk => Kd.fresh' (Kd.R_lt (rG HO536)) k_ hk)); (case aO => exact (rG HO541)); (case aS => exact (keep_size (w := w) (g := g) (row := none) (kT HK gN))); (case aL => have := LMc20.out; omega); intro v566 w29 ho hb hg hat; rw [← Ny565.out] at ho; have n0_ := ak (IsS134.grown (IsS134.T_ HI0 nN) hg (IsS134.own_ne HI0.out HO541.out (by decide))); have n1_ := ak (Kd.R_after (ok := (fun _ => True)) (rG HO536) hg hat); have n2_ := ak (below_weaken (lT HB gN) HL.out hb); have n3_ := ak (KeepBut.trans (kT HK gN) (KeepBut.of_grown hg g) (Kd.R_base2 HO541.out)); have n4_ := ak (ho); clear HI0; clear HO536; clear HB; clear HK; clear HO541; have HI0 := n0_; have HO536 := n1_; have HB := n2_; have HK := n3_; have HO567 := n4_; clear n0_ n1_ n2_ n3_ n4_; clear ho hb hg hat))
 go_ret
 exact ⟨_, ew, by (with_reducible repeat (first | apply Kd.R_alloc | apply Kd.R_drewN | apply Kd.R_drew)); exact Kd.R_mono HO567.out (fun _ hk => trivial), IsS134.T_ HI0 nN, lT HB gN, kT HK gN⟩
 }
 {rw [if_neg c20] at H;exact absurd H (by simp)}
 }
 {
 rw [if_neg c18] at H
 have c18b0 := beq_eq_false_iff_ne.mpr c18
 have c18b1 := bne_iff_ne.mpr c18
 by_cases c30 : t525 = 2
 {
 rw [if_pos c30] at H
 have c30b0 := beq_iff_eq.mpr c30
 have c30b1 := bne_eq_false_iff_eq.mpr c30
 clear c30
 obtain ⟨⟨t568, t569, t570, t571, t572, t573, t574, t575, t576, t577⟩, A31, H⟩ := eb H
 try dsimp only at H
 by_cases c32 : y539.length < 1466015503701
 {
 rw [if_pos c32] at H
 have LMc32 := Aside0.mk c32
 clear c32
 obtain ⟨y578, hy578⟩ : ∃ y_ : List (S32), y_ = (y539 ++ [(⟨0, (⟨t568, t569, t570, t571, t572, t573, t574, t575⟩ : S23)⟩ : S32)]) := ⟨_, rfl⟩
 replace H : (some (y578, t576, t577)) = some (r1, r2, r3) := by first | (rw [hy578]; with_reducible exact H) | (have H2_ := (Option.bind_some _ _).symm.trans H; rw [hy578]; with_reducible exact H2_) | (have H2_ := (Option.bind_some _ _).symm.trans H; with_reducible exact H2_) | with_reducible exact H | (rw [hy578]; exact H) | exact H
 have Ny578 := Aside0.mk hy578
 clear hy578
 simp only [Option.some.injEq, Prod.mk.injEq] at H
 obtain ⟨rfl, rfl, rfl⟩ := H
 refine ⟨?_⟩
 go_wp2_with (first | ((with_reducible refine gate_builtin (b := .append) (xs := #[.tmp 10, .tmp 12]) rfl ?_); at_builtin; refine Kd.R_append_rows k32 w.heap.size rfl (.tmp 10) (.tmp 12) 42 32 (.agg #[(.int .i64 0), (.int .i64 0), (.int .i64 0), (.int .i64 0), (.int .i64 0), (.int .i64 0), (.string ⟨#[]⟩), (.string ⟨#[]⟩), (.string ⟨#[]⟩)]) 96 rfl Try.underlying42 info32 rfl (by decide) (by omega) v532 y531 t534 _ _ _ (fun k_ => some k_ ≠ (.slice Ao15 t534.length co15 : Value).ownBlock) (fun _ => False) rfl rfl ?aO ?aR (fun _ _ h => h) (fun _ h => h.elim) ?aF (Below.refl _ _) ?aS ?aL ?_; (case aR => exact cG (Kd.R_reads' HO536.out).2.2); (case aF => exact (fun k_ hk => Kd.fresh' (Kd.R_lt (rG HO536)) k_ hk)); (case aO => exact (by (with_reducible repeat (first | apply Kd.R_alloc | apply Kd.R_drewN | apply Kd.R_drew)); exact Kd.R_mono HO533.out (fun _ hk => hk.2))); (case aS => exact (keep_size (w := w) (g := g) (row := none) (kT HK gN))); (case aL => have := LMc5.out; omega); intro v540 w38 ho hb hg hat; rw [← Ny539.out] at ho; have n0_ := ak (IsS134.grown (IsS134.T_ HI0 nN) hg (IsS134.own_ne HI0.out HO533.out (by decide))); have n1_ := ak (Kd.R_after (ok := (fun _ => True)) (rG HO536) hg hat); have n2_ := ak (below_weaken (lT HB gN) HL.out hb); have n3_ := ak (KeepBut.trans (kT HK gN) (KeepBut.of_grown hg g) (Kd.R_base2 HO533.out)); have n4_ := ak (ho); clear HI0; clear HO536; clear HB; clear HK; clear HO533; have HI0 := n0_; have HO536 := n1_; have HB := n2_; have HK := n3_; have HO541 := n4_; clear n0_ n1_ n2_ n3_ n4_; clear ho hb hg hat) | ((with_reducible refine gate_callee (f := 99) rfl ?_); refine gl (some 35) Try.func99 #[.pointer (some ⟨g, 0, none⟩)] ?_; (with_reducible refine (spec_l06Rec.calls g s0_0 t537 t538 t568 t569 t570 t571 t572 t573 t574 t575 t576 t577 w0 _ ?side1 ?side2 A31.out).mono ?_); (case side1 => exact IsS134.T_ HI0 nN); (case side2 => exact lT HB gN); rintro e w40 ⟨rfl, hi, hb, hk⟩; refine ⟨_, rfl, ?_⟩; replace HO536 := IsS134.kR hk (IsS134.T_ HI0 nN) (rG HO536); replace HO541 := IsS134.kR hk (IsS134.T_ HI0 nN) (rG HO541); replace HK := ak (KeepBut.trans (kT HK gN) hk (.inl rfl)); replace HB := ak (hb); replace HI0 := ak (hi); (try clear hb); (try clear hk); (try clear hi)) | ((with_reducible refine gate_builtin (b := .append) (xs := #[.tmp 33, .tmp 37]) rfl ?_); at_builtin; refine Kd.R_append k32 w.heap.size rfl (.tmp 33) (.tmp 37) 42 32 (.agg #[(.int .i64 0), (.int .i64 0), (.int .i64 0), (.int .i64 0), (.int .i64 0), (.int .i64 0), (.string ⟨#[]⟩), (.string ⟨#[]⟩), (.string ⟨#[]⟩)]) 96 rfl Try.underlying42 info32 rfl (by decide) (by omega) v540 y539 (⟨0, (⟨t568, t569, t570, t571, t572, t573, t574, t575⟩ : S23)⟩ : S32) [.int .i64 0, .int .i64 t568, .int .i64 t569, .int .i64 t570, .int .i64 t571, .int .i64 t572, .string t573, .string t574, .string t575] (fun k_ => some k_ ≠ (.slice Ao15 t534.length co15 : Value).ownBlock) (fun _ => False) rfl rfl ?aP (fun _ hk => hk.elim) ?aF ?aO (Below.refl _ _) ?aS ?aL ?_; (case aP => exact k32_mkM _ _ _ (⟨0, (⟨t568, t569, t570, t571, t572, t573, t574, t575⟩ : S23)⟩ : S32)); (case aF => exact (fun k_ hk => Kd.fresh' (Kd.R_lt (rG HO536)) k_ hk)); (case aO => exact (rG HO541)); (case aS => exact (keep_size (w := w) (g := g) (row := none) (kT HK gN))); (case aL => have := LMc32.out; omega); intro v579 w41 ho hb hg hat; rw [← Ny578.out] at ho; have n0_ := ak (IsS134.grown (IsS134.T_ HI0 nN) hg (IsS134.own_ne HI0.out HO541.out (by decide))); have n1_ := ak (Kd.R_after (ok := (fun _ => True)) (rG HO536) hg hat); have n2_ := ak (below_weaken (lT HB gN) HL.out hb); have n3_ := ak (KeepBut.trans (kT HK gN) (KeepBut.of_grown hg g) (Kd.R_base2 HO541.out)); have n4_ := ak (ho); clear HI0; clear HO536; clear HB; clear HK; clear HO541; have HI0 := n0_; have HO536 := n1_; have HB := n2_; have HK := n3_; have HO580 := n4_; clear n0_ n1_ n2_ n3_ n4_; clear ho hb hg hat))
 go_ret
 exact ⟨_, ew, by (with_reducible repeat (first | apply Kd.R_alloc | apply Kd.R_drewN | apply Kd.R_drew)); exact Kd.R_mono HO580.out (fun _ hk => trivial), IsS134.T_ HI0 nN, lT HB gN, kT HK gN⟩
 }
 {rw [if_neg c32] at H;exact absurd H (by simp)}
 }
 {
 rw [if_neg c30] at H
 have c30b0 := beq_eq_false_iff_ne.mpr c30
 have c30b1 := bne_iff_ne.mpr c30
 by_cases c42 : t525 = 3
 {
 rw [if_pos c42] at H
 have c42b0 := beq_iff_eq.mpr c42
 have c42b1 := bne_eq_false_iff_eq.mpr c42
 clear c42
 have H' := Aside0.mk H
 clear H
 refine ⟨?_⟩
 go_wp2_with ((with_reducible refine gate_builtin (b := .append) (xs := #[.tmp 10, .tmp 12]) rfl ?_); at_builtin; refine Kd.R_append_rows k32 w.heap.size rfl (.tmp 10) (.tmp 12) 42 32 (.agg #[(.int .i64 0), (.int .i64 0), (.int .i64 0), (.int .i64 0), (.int .i64 0), (.int .i64 0), (.string ⟨#[]⟩), (.string ⟨#[]⟩), (.string ⟨#[]⟩)]) 96 rfl Try.underlying42 info32 rfl (by decide) (by omega) v532 y531 t534 _ _ _ (fun k_ => some k_ ≠ (.slice Ao15 t534.length co15 : Value).ownBlock) (fun _ => False) rfl rfl ?aO ?aR (fun _ _ h => h) (fun _ h => h.elim) ?aF (Below.refl _ _) ?aS ?aL ?_; (case aR => exact cG (Kd.R_reads' HO536.out).2.2); (case aF => exact (fun k_ hk => Kd.fresh' (Kd.R_lt (rG HO536)) k_ hk)); (case aO => exact (by (with_reducible repeat (first | apply Kd.R_alloc | apply Kd.R_drewN | apply Kd.R_drew)); exact Kd.R_mono HO533.out (fun _ hk => hk.2))); (case aS => exact (keep_size (w := w) (g := g) (row := none) (kT HK gN))); (case aL => have := LMc5.out; omega); intro v540 w48 ho hb hg hat; rw [← Ny539.out] at ho; have n0_ := ak (IsS134.grown (IsS134.T_ HI0 nN) hg (IsS134.own_ne HI0.out HO533.out (by decide))); have n1_ := ak (Kd.R_after (ok := (fun _ => True)) (rG HO536) hg hat); have n2_ := ak (below_weaken (lT HB gN) HL.out hb); have n3_ := ak (KeepBut.trans (kT HK gN) (KeepBut.of_grown hg g) (Kd.R_base2 HO533.out)); have n4_ := ak (ho); clear HI0; clear HO536; clear HB; clear HK; clear HO533; have HI0 := n0_; have HO536 := n1_; have HB := n2_; have HK := n3_; have HO541 := n4_; clear n0_ n1_ n2_ n3_ n4_; clear ho hb hg hat)
 go_loopg [5] k (fun kq v5 w' => ∃ (x5_1 : List (S32)), Aside0 (spec_l07Any.l0 kq t528 x5_1 s0_0 t537 t538 = some (r1, r2, r3)) ∧ Aside0 (kq ≤ k) ∧ Aside0 (Kd.R k32 32 w' w.heap.size (fun _ => True) v5 x5_1) ∧ Aside0 (IsS134 w0 w' g s0_0 t537 t538) ∧ Aside0 (KeepBut w w' g none) ∧ Aside0 (Below w0.heap.size w0 w'))
 case atStart => exact ⟨(y539), H', ⟨Nat.le_refl _⟩, ⟨by (with_reducible repeat (first | apply Kd.R_alloc | apply Kd.R_drewN | apply Kd.R_drew)); exact Kd.R_mono HO541.out (fun _ hk => trivial)⟩, ⟨IsS134.T_ HI0 nN⟩, ⟨kT HK gN⟩, ⟨lT HB gN⟩⟩
 case round =>
  skip;{
 clear H'
 try clear c5 c6 c6b0 c6b1 c18 c18b0 c18b1 c30 c30b0 c30b1 c42 c42b0 c42b1
 obtain ⟨x5_1, HA, HK1, HO_5, HI0, HK, HB⟩ := hrel
 cases gk with
 | zero => exact absurd HA.out (by simp [spec_l07Any.l0])
 | succ k1 =>
  skip;{
 have H := HA.out
 clear HA
 simp only [spec_l07Any.l0] at H
 by_cases c50 : (x5_1.length : Int) < (wrap64 (199 + (Int.tmod t528 3)))
 {
 rw [if_pos c50] at H
 have c50b0 := decide_eq_true c50
 clear c50
 by_cases c51 : x5_1.length < 1466015503701
 {
 rw [if_pos c51] at H
 have LMc51 := Aside0.mk c51
 clear c51
 obtain ⟨y581, hy581⟩ : ∃ y_ : List (S32), y_ = (x5_1 ++ [(⟨wrap64 (100 + (x5_1.length : Int)), (⟨2, 7, 0, 0, 0, (⟨#[]⟩ : ByteArray), (⟨#[]⟩ : ByteArray), (⟨#[]⟩ : ByteArray)⟩ : S23)⟩ : S32)]) := ⟨_, rfl⟩
 replace H : (spec_l07Any.l0 k1 t528 y581 s0_0 t537 t538) = some (r1, r2, r3) := by first | (rw [hy581]; with_reducible exact H) | (have H2_ := (Option.bind_some _ _).symm.trans H; rw [hy581]; with_reducible exact H2_) | (have H2_ := (Option.bind_some _ _).symm.trans H; with_reducible exact H2_) | with_reducible exact H | (rw [hy581]; exact H) | exact H
 have Ny581 := Aside0.mk hy581
 clear hy581
 have H' := Aside0.mk H
 clear H
 obtain ⟨Ao52, co52, eo52⟩ := Kd.R_slice HO_5.out
 subst eo52
 go_wp2_with ((with_reducible refine gate_builtin (b := .append) (xs := #[.tmp 47, .tmp 53]) rfl ?_); at_builtin; refine Kd.R_append k32 w.heap.size rfl (.tmp 47) (.tmp 53) 42 32 (.agg #[(.int .i64 0), (.int .i64 0), (.int .i64 0), (.int .i64 0), (.int .i64 0), (.int .i64 0), (.string ⟨#[]⟩), (.string ⟨#[]⟩), (.string ⟨#[]⟩)]) 96 rfl Try.underlying42 info32 rfl (by decide) (by omega) (.slice Ao52 x5_1.length co52) x5_1 (⟨wrap64 (100 + (x5_1.length : Int)), (⟨2, 7, 0, 0, 0, (⟨#[]⟩ : ByteArray), (⟨#[]⟩ : ByteArray), (⟨#[]⟩ : ByteArray)⟩ : S23)⟩ : S32) [.int .i64 (wrap64 (100 + (x5_1.length : Int))), .int .i64 2, .int .i64 7, .int .i64 0, .int .i64 0, .int .i64 0, .string (⟨#[]⟩ : ByteArray), .string (⟨#[]⟩ : ByteArray), .string (⟨#[]⟩ : ByteArray)] (fun _ => True) (fun _ => False) rfl rfl ?aP (fun _ hk => hk.elim) ?aF ?aO (Below.refl _ _) ?aS ?aL ?_; (case aP => exact k32_mkM _ _ _ (⟨wrap64 (100 + (x5_1.length : Int)), (⟨2, 7, 0, 0, 0, (⟨#[]⟩ : ByteArray), (⟨#[]⟩ : ByteArray), (⟨#[]⟩ : ByteArray)⟩ : S23)⟩ : S32)); (case aF => exact (fun _ _ => trivial)); (case aO => exact (rG HO_5)); (case aS => exact (keep_size (w := w) (g := g) (row := none) (kT HK gN))); (case aL => have := LMc51.out; omega); intro v582 w53 ho hb hg hat; rw [← Ny581.out] at ho; have n0_ := ak (IsS134.grown (IsS134.T_ HI0 nN) hg (IsS134.own_ne HI0.out HO_5.out (by decide))); have n1_ := ak (below_weaken (lT HB gN) HL.out hb); have n2_ := ak (KeepBut.trans (kT HK gN) (KeepBut.of_grown hg g) (Kd.R_base2 HO_5.out)); have n3_ := ak (ho); clear HI0; clear HB; clear HK; clear HO_5; have HI0 := n0_; have HB := n1_; have HK := n2_; have HO583 := n3_; clear n0_ n1_ n2_ n3_; clear ho hb hg hat)
 go_roundg k1
 case measure => have := HK1.out; omega
 case rel => exact ⟨(y581), H', ⟨by have := HK1.out; omega⟩, ⟨by (with_reducible repeat (first | apply Kd.R_alloc | apply Kd.R_drewN | apply Kd.R_drew)); exact HO583.out⟩, ⟨IsS134.T_ HI0 nN⟩, ⟨kT HK gN⟩, ⟨lT HB gN⟩⟩
 }
 {rw [if_neg c51] at H;exact absurd H (by simp)}
 }
 {
 rw [if_neg c50] at H
 have c50b0 := decide_eq_false c50
 clear c50
 simp only [Option.some.injEq, Prod.mk.injEq] at H
 obtain ⟨rfl, rfl, rfl⟩ := H
 obtain ⟨Ao54, co54, eo54⟩ := Kd.R_slice HO_5.out
 subst eo54
 go_wp2
 go_ret
 exact ⟨_, ew, by (with_reducible repeat (first | apply Kd.R_alloc | apply Kd.R_drewN | apply Kd.R_drew)); exact HO_5.out, IsS134.T_ HI0 nN, lT HB gN, kT HK gN⟩
 }
 }
 }
 }
 {
 rw [if_neg c42] at H
 have c42b0 := beq_eq_false_iff_ne.mpr c42
 have c42b1 := bne_iff_ne.mpr c42
 simp only [Option.some.injEq, Prod.mk.injEq] at H
 obtain ⟨rfl, rfl, rfl⟩ := H
 refine ⟨?_⟩
 go_wp2_with ((with_reducible refine gate_builtin (b := .append) (xs := #[.tmp 10, .tmp 12]) rfl ?_); at_builtin; refine Kd.R_append_rows k32 w.heap.size rfl (.tmp 10) (.tmp 12) 42 32 (.agg #[(.int .i64 0), (.int .i64 0), (.int .i64 0), (.int .i64 0), (.int .i64 0), (.int .i64 0), (.string ⟨#[]⟩), (.string ⟨#[]⟩), (.string ⟨#[]⟩)]) 96 rfl Try.underlying42 info32 rfl (by decide) (by omega) v532 y531 t534 _ _ _ (fun k_ => some k_ ≠ (.slice Ao15 t534.length co15 : Value).ownBlock) (fun _ => False) rfl rfl ?aO ?aR (fun _ _ h => h) (fun _ h => h.elim) ?aF (Below.refl _ _) ?aS ?aL ?_; (case aR => exact cG (Kd.R_reads' HO536.out).2.2); (case aF => exact (fun k_ hk => Kd.fresh' (Kd.R_lt (rG HO536)) k_ hk)); (case aO => exact (by (with_reducible repeat (first | apply Kd.R_alloc | apply Kd.R_drewN | apply Kd.R_drew)); exact Kd.R_mono HO533.out (fun _ hk => hk.2))); (case aS => exact (keep_size (w := w) (g := g) (row := none) (kT HK gN))); (case aL => have := LMc5.out; omega); intro v540 w60 ho hb hg hat; rw [← Ny539.out] at ho; have n0_ := ak (IsS134.grown (IsS134.T_ HI0 nN) hg (IsS134.own_ne HI0.out HO533.out (by decide))); have n1_ := ak (Kd.R_after (ok := (fun _ => True)) (rG HO536) hg hat); have n2_ := ak (below_weaken (lT HB gN) HL.out hb); have n3_ := ak (KeepBut.trans (kT HK gN) (KeepBut.of_grown hg g) (Kd.R_base2 HO533.out)); have n4_ := ak (ho); clear HI0; clear HO536; clear HB; clear HK; clear HO533; have HI0 := n0_; have HO536 := n1_; have HB := n2_; have HK := n3_; have HO541 := n4_; clear n0_ n1_ n2_ n3_ n4_; clear ho hb hg hat)
 go_ret
 exact ⟨_, ew, by (with_reducible repeat (first | apply Kd.R_alloc | apply Kd.R_drewN | apply Kd.R_drew)); exact Kd.R_mono HO541.out (fun _ hk => trivial), IsS134.T_ HI0 nN, lT HB gN, kT HK gN⟩
 }
 }
 }
 }
 }
 {rw [if_neg c5] at H;exact absurd H (by simp)}
def spec_DrawStateOf.f (k : Nat) (l0 : List Int) : Option ((List (S32))) := (spec_l01New.f k l0).bind fun bt584 => ((spec_l07Any.f k bt584.1 bt584.2.1 bt584.2.2).bind fun bt588 => (some bt588.1))
theorem spec_DrawStateOf.mono : ∀ a0 k, LeO (spec_DrawStateOf.f k a0) (spec_DrawStateOf.f (k + 1) a0) := by
 intro a0 k
 unfold spec_DrawStateOf.f
 repeat' with_reducible first | exact spec_l01New.mono _ _ | exact spec_l07Any.mono _ _ _ _ | exact LeO.refl _ | exact LeO.none _ | refine LeO.ite ?_ ?_ | refine LeO.bind ?_ (fun _ => ?_)
theorem spec_DrawStateOf.calls (k : Nat) (A0 : Option Addr) (c0 : Nat) (l0 : List Int) (r : List (S32)) (w : World) (hr0 : Kd.C (Kd.int .u8) w A0 l0.length l0) (hc0 : l0.length ≤ c0) (h : spec_DrawStateOf.f k l0 = some r) :
  Calls Try.prog 47 #[.slice A0 l0.length c0] w fun e w' => ∃ v0_ : Value, e = .returned (v0_) ∧ Kd.R k32 32 w' w.heap.size (fun _ => True) v0_ r ∧ Below w.heap.size w w' := by
 have HR0 := Aside0.mk hr0
 have HC0 := Aside0.mk hc0
 clear hr0 hc0
 have HB := ak (Below.refl w.heap.size w)
 have H := h
 clear h
 unfold spec_DrawStateOf.f at H
 obtain ⟨⟨t584, t585, t586⟩, A2, H⟩ := eb H
 try dsimp only at H
 obtain ⟨⟨t588, t591, t592⟩, A3, H⟩ := eb H
 try dsimp only at H
 obtain rfl := Option.some.inj H
 go_enter Try.func47, Try.ntmps47
 go_wp2_with (first | ((with_reducible refine gate_callee (f := 67) rfl ?_); refine gl (some 4) Try.func67 #[.slice A0 l0.length c0] ?_; (with_reducible refine (spec_l01New.calls k _ _ l0 t584 t585 t586 w _ ?side1 ?side2 ?side3 A2.out).mono ?_); (case side1 => exact lG HB); (case side2 => exact HR0.out); (case side3 => exact HC0.out); rintro e w4 ⟨g587, rfl, hi, hb, hb2⟩; refine ⟨_, rfl, ?_⟩; replace HB := ak (hb); replace HI587 := ak (hi); (try clear hb); (try clear hb2); (try clear hk); (try clear hi)) | ((with_reducible refine gate_callee (f := 87) rfl ?_); refine gl (some 5) Try.func87 #[.pointer (some ⟨g587, 0, none⟩)] ?_; (with_reducible refine (spec_l07Any.calls k g587 t584 t585 t586 t588 t591 t592 w _ ?side1 ?side2 A3.out).mono ?_); (case side1 => exact IsS134.T_ HI587 nN); (case side2 => exact lT HB gN); rintro e w5 ⟨v589, rfl, ho0, hi, hb, hk⟩; refine ⟨_, rfl, ?_⟩; replace HO590 := ak (Kd.R_lower ho0 (below_size (lT HB gN))); replace HB := ak (hb); replace HI587 := ak (hi); (try clear hb); (try clear hb2); (try clear hk); (try clear hi); (try clear ho0)))
 go_ret
 exact ⟨_, ew, by (with_reducible repeat (first | apply Kd.R_alloc | apply Kd.R_drewN | apply Kd.R_drew)); exact HO590.out, lT HB gN⟩
end Go.Proofs.Ytagkjeldheiejaa.PFnStatesTold
