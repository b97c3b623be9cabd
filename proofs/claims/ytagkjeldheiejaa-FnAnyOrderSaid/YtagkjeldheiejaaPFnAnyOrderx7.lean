-- Written by a program of mine (a turned copy of the kit's print): functions as plain Lean, their contracts.
import Derived.Test.YtagkjeldheiejaaPFnAnyOrderx6
import Derived.Test.YtagkjeldheiejaaVFnAnyOrder1
namespace Go.Proofs.Ytagkjeldheiejaa.PFnAnyOrder
open Go.RowKit Go.Proofs.YtagkjeldheiejaaW.PrintWords Go.Proofs.YtagkjeldheiejaaW.PrintLast Go.Proofs.YtagkjeldheiejaaW.PrintMore
attribute [local go_sem] max2_int min2_int max_two min_two max_three min_three max_four min_four   -- for this text's walks alone
set_option maxHeartbeats 16000000
set_option maxRecDepth 100000
set_option linter.unusedVariables false
set_option linter.unusedSimpArgs false
/-! ### spec_l06Rec: function 99 -/
def spec_l06Rec.f (s0_0 : List Int) (s0_1 : Int) (s0_2 : Int) : Option (Int × Int × Int × Int × Int × ByteArray × ByteArray × ByteArray × Int × Int) := (spec_l01PickInt.f s0_0 s0_1 s0_2 (([1, 1, 2, 3, 3, 3, 3, 4, 4, 5, 5] : List Int))).bind fun bt150 => ((spec_l01Below.f s0_0 bt150.2.1 bt150.2.2 3).bind fun bt153 => (if bt150.1 = 1 then ((spec_l01Pick.f s0_0 bt153.2.1 bt153.2.2 (([(⟨#[97, 110, 110]⟩ : ByteArray), (⟨#[98, 111, 98]⟩ : ByteArray)] : List ByteArray))).bind fun bt160 => ((spec_l01Pick.f s0_0 bt160.2.1 bt160.2.2 (([(⟨#[105, 110, 98, 111, 120]⟩ : ByteArray), (⟨#[119, 111, 114, 107]⟩ : ByteArray)] : List ByteArray))).bind fun bt166 => ((spec_l01Below.f s0_0 bt166.2.1 bt166.2.2 6).bind fun bt169 => (some (bt150.1, wrap64 (1 + bt153.1), 0, wrap64 (1 + bt169.1), 0, bt160.1, bt166.1, (⟨#[]⟩ : ByteArray), bt169.2.1, bt169.2.2))))) else (if bt150.1 = 3 then ((spec_l01Below.f s0_0 bt153.2.1 bt153.2.2 5).bind fun bt172 => ((spec_l01Below.f s0_0 bt172.2.1 bt172.2.2 8).bind fun bt175 => ((spec_l06Text.f s0_0 bt175.2.1 bt175.2.2).bind fun bt178 => (some (bt150.1, wrap64 (1 + bt153.1), wrap64 (1 + bt172.1), 0, bt175.1, (⟨#[]⟩ : ByteArray), (⟨#[]⟩ : ByteArray), bt178.1, bt178.2.1, bt178.2.2))))) else (if bt150.1 = 4 then ((spec_l01Below.f s0_0 bt153.2.1 bt153.2.2 5).bind fun bt181 => ((spec_l01Below.f s0_0 bt181.2.1 bt181.2.2 8).bind fun bt184 => (some (bt150.1, wrap64 (1 + bt153.1), wrap64 (1 + bt181.1), 0, bt184.1, (⟨#[]⟩ : ByteArray), (⟨#[]⟩ : ByteArray), (⟨#[]⟩ : ByteArray), bt184.2.1, bt184.2.2)))) else (if bt150.1 = 5 then ((spec_l01Below.f s0_0 bt153.2.1 bt153.2.2 5).bind fun bt187 => (some (bt150.1, wrap64 (1 + bt153.1), wrap64 (1 + bt187.1), 0, 0, (⟨#[]⟩ : ByteArray), (⟨#[]⟩ : ByteArray), (⟨#[]⟩ : ByteArray), bt187.2.1, bt187.2.2))) else (some (bt150.1, wrap64 (1 + bt153.1), 0, 0, 0, (⟨#[]⟩ : ByteArray), (⟨#[]⟩ : ByteArray), (⟨#[]⟩ : ByteArray), bt153.2.1, bt153.2.2)))))))
theorem spec_l06Rec.calls (g : Nat) (s0_0 : List Int) (s0_1 : Int) (s0_2 : Int) (r1 : Int) (r2 : Int) (r3 : Int) (r4 : Int) (r5 : Int) (r6 : ByteArray) (r7 : ByteArray) (r8 : ByteArray) (r9 : Int) (r10 : Int) (w0 w : World) (hI : IsS134 w0 w g s0_0 s0_1 s0_2) (hB : Below w0.heap.size w0 w) (h : spec_l06Rec.f s0_0 s0_1 s0_2 = some (r1, r2, r3, r4, r5, r6, r7, r8, r9, r10)) :
  Calls Try.prog 99 #[.pointer (some ⟨g, 0, none⟩)] w fun e w' => e = .returned (.agg #[.int .i64 r1, .int .i64 r2, .int .i64 r3, .int .i64 r4, .int .i64 r5, .string r6, .string r7, .string r8]) ∧ IsS134 w0 w' g s0_0 r9 r10 ∧ Below w0.heap.size w0 w' ∧ KeepBut w w' g none := by
 have hu23 := Try.underlying23
 have HI0 := Aside0.mk hI
 have HK := ak (KeepBut.refl w g none)
 have HL := Aside0.mk hB.size
 clear hI
 have HW0 := Aside0.mk hB.size
 have HB := Aside0.mk hB
 clear hB
 have H : ((spec_l01PickInt.f s0_0 s0_1 s0_2 (([1, 1, 2, 3, 3, 3, 3, 4, 4, 5, 5] : List Int))).bind fun bt150 => ((spec_l01Below.f s0_0 bt150.2.1 bt150.2.2 3).bind fun bt153 => (if bt150.1 = 1 then ((spec_l01Pick.f s0_0 bt153.2.1 bt153.2.2 (([(⟨#[97, 110, 110]⟩ : ByteArray), (⟨#[98, 111, 98]⟩ : ByteArray)] : List ByteArray))).bind fun bt160 => ((spec_l01Pick.f s0_0 bt160.2.1 bt160.2.2 (([(⟨#[105, 110, 98, 111, 120]⟩ : ByteArray), (⟨#[119, 111, 114, 107]⟩ : ByteArray)] : List ByteArray))).bind fun bt166 => ((spec_l01Below.f s0_0 bt166.2.1 bt166.2.2 6).bind fun bt169 => (some (bt150.1, wrap64 (1 + bt153.1), 0, wrap64 (1 + bt169.1), 0, bt160.1, bt166.1, (⟨#[]⟩ : ByteArray), bt169.2.1, bt169.2.2))))) else (if bt150.1 = 3 then ((spec_l01Below.f s0_0 bt153.2.1 bt153.2.2 5).bind fun bt172 => ((spec_l01Below.f s0_0 bt172.2.1 bt172.2.2 8).bind fun bt175 => ((spec_l06Text.f s0_0 bt175.2.1 bt175.2.2).bind fun bt178 => (some (bt150.1, wrap64 (1 + bt153.1), wrap64 (1 + bt172.1), 0, bt175.1, (⟨#[]⟩ : ByteArray), (⟨#[]⟩ : ByteArray), bt178.1, bt178.2.1, bt178.2.2))))) else (if bt150.1 = 4 then ((spec_l01Below.f s0_0 bt153.2.1 bt153.2.2 5).bind fun bt181 => ((spec_l01Below.f s0_0 bt181.2.1 bt181.2.2 8).bind fun bt184 => (some (bt150.1, wrap64 (1 + bt153.1), wrap64 (1 + bt181.1), 0, bt184.1, (⟨#[]⟩ : ByteArray), (⟨#[]⟩ : ByteArray), (⟨#[]⟩ : ByteArray), bt184.2.1, bt184.2.2)))) else (if bt150.1 = 5 then ((spec_l01Below.f s0_0 bt153.2.1 bt153.2.2 5).bind fun bt187 => (some (bt150.1, wrap64 (1 + bt153.1), wrap64 (1 + bt187.1), 0, 0, (⟨#[]⟩ : ByteArray), (⟨#[]⟩ : ByteArray), (⟨#[]⟩ : ByteArray), bt187.2.1, bt187.2.2))) else (some (bt150.1, wrap64 (1 + bt153.1), 0, 0, 0, (⟨#[]⟩ : ByteArray), (⟨#[]⟩ : ByteArray), (⟨#[]⟩ : ByteArray), bt153.2.1, bt153.2.2)))))))) = some (r1, r2, r3, r4, r5, r6, r7, r8, r9, r10) := h
 clear h
 obtain ⟨y147, hy147⟩ : ∃ y_ : List Int, y_ = (([1, 1, 2, 3, 3, 3, 3, 4, 4, 5, 5] : List Int)) := ⟨_, rfl⟩
 replace H : ((spec_l01PickInt.f s0_0 s0_1 s0_2 y147).bind fun bt150 => ((spec_l01Below.f s0_0 bt150.2.1 bt150.2.2 3).bind fun bt153 => (if bt150.1 = 1 then ((spec_l01Pick.f s0_0 bt153.2.1 bt153.2.2 (([(⟨#[97, 110, 110]⟩ : ByteArray), (⟨#[98, 111, 98]⟩ : ByteArray)] : List ByteArray))).bind fun bt160 => ((spec_l01Pick.f s0_0 bt160.2.1 bt160.2.2 (([(⟨#[105, 110, 98, 111, 120]⟩ : ByteArray), (⟨#[119, 111, 114, 107]⟩ : ByteArray)] : List ByteArray))).bind fun bt166 => ((spec_l01Below.f s0_0 bt166.2.1 bt166.2.2 6).bind fun bt169 => (some (bt150.1, wrap64 (1 + bt153.1), 0, wrap64 (1 + bt169.1), 0, bt160.1, bt166.1, (⟨#[]⟩ : ByteArray), bt169.2.1, bt169.2.2))))) else (if bt150.1 = 3 then ((spec_l01Below.f s0_0 bt153.2.1 bt153.2.2 5).bind fun bt172 => ((spec_l01Below.f s0_0 bt172.2.1 bt172.2.2 8).bind fun bt175 => ((spec_l06Text.f s0_0 bt175.2.1 bt175.2.2).bind fun bt178 => (some (bt150.1, wrap64 (1 + bt153.1), wrap64 (1 + bt172.1), 0, bt175.1, (⟨#[]⟩ : ByteArray), (⟨#[]⟩ : ByteArray), bt178.1, bt178.2.1, bt178.2.2))))) else (if bt150.1 = 4 then ((spec_l01Below.f s0_0 bt153.2.1 bt153.2.2 5).bind fun bt181 => ((spec_l01Below.f s0_0 bt181.2.1 bt181.2.2 8).bind fun bt184 => (some (bt150.1, wrap64 (1 + bt153.1), wrap64 (1 + bt181.1), 0, bt184.1, (⟨#[]⟩ : ByteArray), (⟨#[]⟩ : ByteArray), (⟨#[]⟩ : ByteArray), bt184.2.1, bt184.2.2)))) else (if bt150.1 = 5 then ((spec_l01Below.f s0_0 bt153.2.1 bt153.2.2 5).bind fun bt187 => (some (bt150.1, wrap64 (1 + bt153.1), wrap64 (1 + bt187.1), 0, 0, (⟨#[]⟩ : ByteArray), (⟨#[]⟩ : ByteArray), (⟨#[]⟩ : ByteArray), bt187.2.1, bt187.2.2))) else (some (bt150.1, wrap64 (1 + bt153.1), 0, 0, 0, (⟨#[]⟩ : ByteArray), (⟨#[]⟩ : ByteArray), (⟨#[]⟩ : ByteArray), bt153.2.1, bt153.2.2)))))))) = some (r1, r2, r3, r4, r5, r6, r7, r8, r9, r10) := by first | (rw [hy147]; with_reducible exact H) | (have H2_ := (Option.bind_some _ _).symm.trans H; rw [hy147]; with_reducible exact H2_) | (have H2_ := (Option.bind_some _ _).symm.trans H; with_reducible exact H2_) | with_reducible exact H | (rw [hy147]; exact H) | exact H
 have Ny147 := Aside0.mk hy147
 clear hy147
 obtain ⟨⟨t150, t151, t152⟩, A2, H⟩ := eb H
 try dsimp only at H
 obtain ⟨⟨t153, t154, t155⟩, A3, H⟩ := eb H
 try dsimp only at H
 by_cases c4 : t150 = 1
 ·rw [if_pos c4] at H
  have c4b0 : (t150 == 1) = true := beq_iff_eq.mpr c4
  have c4b1 : (t150 != 1) = false := bne_eq_false_iff_eq.mpr c4
  clear c4
  obtain ⟨y157, hy157⟩ : ∃ y_ : List ByteArray, y_ = (([(⟨#[97, 110, 110]⟩ : ByteArray), (⟨#[98, 111, 98]⟩ : ByteArray)] : List ByteArray)) := ⟨_, rfl⟩
  replace H : ((spec_l01Pick.f s0_0 t154 t155 y157).bind fun bt160 => ((spec_l01Pick.f s0_0 bt160.2.1 bt160.2.2 (([(⟨#[105, 110, 98, 111, 120]⟩ : ByteArray), (⟨#[119, 111, 114, 107]⟩ : ByteArray)] : List ByteArray))).bind fun bt166 => ((spec_l01Below.f s0_0 bt166.2.1 bt166.2.2 6).bind fun bt169 => (some (t150, wrap64 (1 + t153), 0, wrap64 (1 + bt169.1), 0, bt160.1, bt166.1, (⟨#[]⟩ : ByteArray), bt169.2.1, bt169.2.2))))) = some (r1, r2, r3, r4, r5, r6, r7, r8, r9, r10) := by first | (rw [hy157]; with_reducible exact H) | (have H2_ := (Option.bind_some _ _).symm.trans H; rw [hy157]; with_reducible exact H2_) | (have H2_ := (Option.bind_some _ _).symm.trans H; with_reducible exact H2_) | with_reducible exact H | (rw [hy157]; exact H) | exact H
  have Ny157 := Aside0.mk hy157
  clear hy157
  obtain ⟨⟨t160, t161, t162⟩, A5, H⟩ := eb H
  try dsimp only at H
  obtain ⟨y163, hy163⟩ : ∃ y_ : List ByteArray, y_ = (([(⟨#[105, 110, 98, 111, 120]⟩ : ByteArray), (⟨#[119, 111, 114, 107]⟩ : ByteArray)] : List ByteArray)) := ⟨_, rfl⟩
  replace H : ((spec_l01Pick.f s0_0 t161 t162 y163).bind fun bt166 => ((spec_l01Below.f s0_0 bt166.2.1 bt166.2.2 6).bind fun bt169 => (some (t150, wrap64 (1 + t153), 0, wrap64 (1 + bt169.1), 0, t160, bt166.1, (⟨#[]⟩ : ByteArray), bt169.2.1, bt169.2.2)))) = some (r1, r2, r3, r4, r5, r6, r7, r8, r9, r10) := by first | (rw [hy163]; with_reducible exact H) | (have H2_ := (Option.bind_some _ _).symm.trans H; rw [hy163]; with_reducible exact H2_) | (have H2_ := (Option.bind_some _ _).symm.trans H; with_reducible exact H2_) | with_reducible exact H | (rw [hy163]; exact H) | exact H
  have Ny163 := Aside0.mk hy163
  clear hy163
  obtain ⟨⟨t166, t167, t168⟩, A6, H⟩ := eb H
  try dsimp only at H
  obtain ⟨⟨t169, t170, t171⟩, A7, H⟩ := eb H
  try dsimp only at H
  simp only [Option.some.injEq, Prod.mk.injEq] at H
  obtain ⟨rfl, rfl, rfl, rfl, rfl, rfl, rfl, rfl, rfl, rfl⟩ := H
  go_enter Try.func99, Try.ntmps99
  go_wp2_with (first | ((with_reducible refine gate_dst (N := 2) rfl ?_); refine bx 2 #[.int .i64 0, .int .i64 0, .int .i64 0, .int .i64 0, .int .i64 0, .string (⟨#[]⟩ : ByteArray), .string (⟨#[]⟩ : ByteArray), .string (⟨#[]⟩ : ByteArray)] 23 ?_; intro gb146 hg w8 hbox hb; replace HB := ak (below_step (lT HB gN) hb); replace BK146 := ak (hbox); replace GW146 := ak ((by rw [hg]; exact (keep_size (w := w) (g := g) (row := none) (kT HK gN)) : w.heap.size ≤ gb146)); replace GE146 := ak ((Nat.le_trans HW0.out (by rw [hg]; exact (keep_size (w := w) (g := g) (row := none) (kT HK gN)) : w.heap.size ≤ gb146) : w0.heap.size ≤ gb146)); replace HK := ak (KeepBut.trans (kT HK gN) (KeepBut.of_below hb g none) (.inl rfl)); replace NB0_146 := ak ((by rw [hg]; exact Nat.ne_of_lt (IsS134.lt (show IsS134 w0 _ g s0_0 s0_1 s0_2 from IsS134.T_ HI0 nN)) : g ≠ gb146)); replace NB146_0 := ak ((by rw [hg]; exact Nat.ne_of_gt (IsS134.lt (show IsS134 w0 _ g s0_0 s0_1 s0_2 from IsS134.T_ HI0 nN)) : gb146 ≠ g)); replace HI0 := ak (IsS134.below (IsS134.T_ HI0 nN) hb); clear hb hbox hg) | ((with_reducible refine gate_dst (N := 5) rfl ?_); refine Kd.R_lit (Kd.int .i64) _ 3 ?hg (N := 5) ?hd (xs := ([1, 1, 2, 3, 3, 3, 3, 4, 4, 5, 5] : List Int)) (inner := [.int .i64 1, .int .i64 1, .int .i64 2, .int .i64 3, .int .i64 3, .int .i64 3, .int .i64 3, .int .i64 4, .int .i64 4, .int .i64 5, .int .i64 5]) (ok := fun _ => True) (okp := fun _ => True) ?hr ?hp (fun _ hk => hk) trivial (Below.refl _ _) (Nat.le_refl _) (by simp) ?_; (case hd => rfl); (case hg => rfl); (case hr => first | (go_simp; done) | (go_simp; rfl)); (case hp => exact (Reps.one (show Kd.M (Kd.int .i64) _ _ _ 1 [.int .i64 1] from rfl) (Reps.one (show Kd.M (Kd.int .i64) _ _ _ 1 [.int .i64 1] from rfl) (Reps.one (show Kd.M (Kd.int .i64) _ _ _ 2 [.int .i64 2] from rfl) (Reps.one (show Kd.M (Kd.int .i64) _ _ _ 3 [.int .i64 3] from rfl) (Reps.one (show Kd.M (Kd.int .i64) _ _ _ 3 [.int .i64 3] from rfl) (Reps.one (show Kd.M (Kd.int .i64) _ _ _ 3 [.int .i64 3] from rfl) (Reps.one (show Kd.M (Kd.int .i64) _ _ _ 3 [.int .i64 3] from rfl) (Reps.one (show Kd.M (Kd.int .i64) _ _ _ 4 [.int .i64 4] from rfl) (Reps.one (show Kd.M (Kd.int .i64) _ _ _ 4 [.int .i64 4] from rfl) (Reps.one (show Kd.M (Kd.int .i64) _ _ _ 5 [.int .i64 5] from rfl) (Reps.one (show Kd.M (Kd.int .i64) _ _ _ 5 [.int .i64 5] from rfl) (Reps.none _ _))))))))))))); intro v148 w9 ho10 hb hg_ hnew_; clear hg_ hnew_; (first | rw [← Ny147.out] at ho10 | (simp only [Int.reduceToNat] at ho10; rw [← Ny147.out] at ho10)); replace HO149 := ak (Kd.R_lower ho10 (keep_size (w := w) (g := g) (row := none) (kT HK (gC GW146 gN)))); replace BK146 := bB BK146 hb; replace HK := ak (KeepBut.trans (kT HK (gC GW146 gN)) (KeepBut.of_below hb g none) (.inl rfl)); replace HB := ak (below_step (lT HB (gC GE146 gN)) hb); replace HI0 := ak (IsS134.below (IsS134.T_ HI0 (nC NB0_146 nN)) hb); clear hb ho10; obtain ⟨Ao11, co11, eo11⟩ := Kd.R_slice HO149.out; subst eo11) | ((with_reducible refine gate_callee (f := 116) rfl ?_); refine gl (some 6) Try.func116 #[.pointer (some ⟨g, 0, none⟩), .slice Ao11 y147.length co11] ?_; (with_reducible refine (spec_l01PickInt.calls g s0_0 s0_1 s0_2 _ _ y147 t150 t151 t152 w0 _ ?side1 ?side2 ?side3 ?side4 ?side5 A2.out).mono ?_); (case side1 => exact IsS134.T_ HI0 (nC NB0_146 nN)); (case side2 => exact lT HB (gC GE146 gN)); (case side3 => exact cG (Kd.R_reads' HO149.out).2.2); (case side4 => exact (Kd.R_reads' HO149.out).2.1); (case side5 => exact far_slice (IsS134.own_ne HI0.out HO149.out (by decide))); rintro e w12 ⟨rfl, hi, hb, hk⟩; refine ⟨_, rfl, ?_⟩; replace BK146 := ak (KeepBut.blk hk (g' := gb146) (o := .cells #[.int .i64 0, .int .i64 0, .int .i64 0, .int .i64 0, .int .i64 0, .string (⟨#[]⟩ : ByteArray), .string (⟨#[]⟩ : ByteArray), .string (⟨#[]⟩ : ByteArray)] 23 (0, 0)) (bG BK146) NB146_0.out (by simp)); replace HO149 := ak (Kd.R_mono (Kd.R_keep (IsS134.apart (show IsS134 w0 _ g s0_0 s0_1 s0_2 from IsS134.T_ HI0 (nC NB0_146 nN)) (rG HO149) (by decide)) hk (fun _ h => h.2)) (fun _ h => h.1)); replace HK := ak (KeepBut.trans (kT HK (gC GW146 gN)) hk (.inl rfl)); replace HB := ak (hb); replace HI0 := ak (hi); (try clear hb); (try clear hk); (try clear hi)) | ((with_reducible refine gate_callee (f := 69) rfl ?_); refine gl (some 8) Try.func69 #[.pointer (some ⟨g, 0, none⟩), .int .i64 3] ?_; (with_reducible refine (spec_l01Below.calls g s0_0 t151 t152 3 t153 t154 t155 w0 _ ?side1 ?side2 A3.out).mono ?_); (case side1 => exact IsS134.T_ HI0 (nC NB0_146 nN)); (case side2 => exact lT HB (gC GE146 gN)); rintro e w13 ⟨rfl, hi, hb, hk⟩; refine ⟨_, rfl, ?_⟩; replace BK146 := ak (KeepBut.blk hk (g' := gb146) (o := .cells #[.int .i64 0, .int .i64 0, .int .i64 0, .int .i64 0, .int .i64 0, .string (⟨#[]⟩ : ByteArray), .string (⟨#[]⟩ : ByteArray), .string (⟨#[]⟩ : ByteArray)] 23 (0, 0)) (bG BK146) NB146_0.out (by simp)); replace HO149 := ak (Kd.R_mono (Kd.R_keep (IsS134.apart (show IsS134 w0 _ g s0_0 t151 t152 from IsS134.T_ HI0 (nC NB0_146 nN)) (rG HO149) (by decide)) hk (fun _ h => h.2)) (fun _ h => h.1)); replace HK := ak (KeepBut.trans (kT HK (gC GW146 gN)) hk (.inl rfl)); replace HB := ak (hb); replace HI0 := ak (hi); (try clear hb); (try clear hk); (try clear hi)) | ((with_reducible refine gate_dst (N := 3) rfl ?_); refine bx 3 #[.int .i64 0, .int .i64 0, .int .i64 0, .int .i64 0, .int .i64 0, .string (⟨#[]⟩ : ByteArray), .string (⟨#[]⟩ : ByteArray), .string (⟨#[]⟩ : ByteArray)] 23 ?_; intro gb156 hg w14 hbox hb; replace HO149 := rB HO149 hb; replace HB := ak (below_step (lT HB (gC GE146 gN)) hb); replace BK156 := ak (hbox); replace GW156 := ak ((by rw [hg]; exact (keep_size (w := w) (g := g) (row := none) (kT HK (gC GW146 gN))) : w.heap.size ≤ gb156)); replace GE156 := ak ((Nat.le_trans HW0.out (by rw [hg]; exact (keep_size (w := w) (g := g) (row := none) (kT HK (gC GW146 gN))) : w.heap.size ≤ gb156) : w0.heap.size ≤ gb156)); replace HK := ak (KeepBut.trans (kT HK (gC GW146 gN)) (KeepBut.of_below hb g none) (.inl rfl)); replace NB146_156 := ak (nl hg (bG BK146)); replace NB156_146 := ak (ng hg (bG BK146)); replace BK146 := bB BK146 hb; replace NB0_156 := ak ((by rw [hg]; exact Nat.ne_of_lt (IsS134.lt (show IsS134 w0 _ g s0_0 t154 t155 from IsS134.T_ HI0 (nC NB0_146 nN))) : g ≠ gb156)); replace NB156_0 := ak ((by rw [hg]; exact Nat.ne_of_gt (IsS134.lt (show IsS134 w0 _ g s0_0 t154 t155 from IsS134.T_ HI0 (nC NB0_146 nN))) : gb156 ≠ g)); replace HI0 := ak (IsS134.below (IsS134.T_ HI0 (nC NB0_146 nN)) hb); clear hb hbox hg; have hnb15 := NB156_146.out; have hnc15 := NB146_156.out; have hnb16 := NB156_0.out; have hnc16 := NB0_156.out; obtain ⟨_, _, _, _, _, _, _, _, _, _, _, _, _, _, _, _⟩ := bC8 BK156) | ((with_reducible refine gate_dst (N := 16) rfl ?_); refine Kd.R_lit Kd.string _ 9 ?hg (N := 16) ?hd (xs := ([(⟨#[97, 110, 110]⟩ : ByteArray), (⟨#[98, 111, 98]⟩ : ByteArray)] : List ByteArray)) (inner := [.string (⟨#[97, 110, 110]⟩ : ByteArray), .string (⟨#[98, 111, 98]⟩ : ByteArray)]) (ok := fun _ => True) (okp := fun _ => True) ?hr ?hp (fun _ hk => hk) trivial (Below.refl _ _) (Nat.le_refl _) (by simp) ?_; (case hd => rfl); (case hg => rfl); (case hr => first | (go_simp; done) | (go_simp; rfl)); (case hp => exact (Reps.one (show Kd.M Kd.string _ _ _ (⟨#[97, 110, 110]⟩ : ByteArray) [.string (⟨#[97, 110, 110]⟩ : ByteArray)] from rfl) (Reps.one (show Kd.M Kd.string _ _ _ (⟨#[98, 111, 98]⟩ : ByteArray) [.string (⟨#[98, 111, 98]⟩ : ByteArray)] from rfl) (Reps.none _ _)))); intro v158 w18 ho19 hb hg_ hnew_; clear hg_ hnew_; (first | rw [← Ny157.out] at ho19 | (simp only [Int.reduceToNat] at ho19; rw [← Ny157.out] at ho19)); replace HO149 := ak (Kd.R_below (rT HO149 BK156 (by decide)) hb); replace HO159 := ak (Kd.R_lower ho19 (keep_size (w := w) (g := g) (row := none) (kT HK (gC GW146 (gC GW156 gN))))); replace BK146 := ak (blk_below (bT BK146 (nC NB146_156 nN)) hb); replace BK156 := ak (blk_below (g := gb156) (o := .cells #[.int .i64 t150, .int .i64 (wrap64 (1 + t153)), .int .i64 0, .int .i64 0, .int .i64 0, .string (⟨#[]⟩ : ByteArray), .string (⟨#[]⟩ : ByteArray), .string (⟨#[]⟩ : ByteArray)] 23 (0, 0)) (bW BK156) hb); replace HK := ak (KeepBut.trans (kT HK (gC GW146 (gC GW156 gN))) (KeepBut.of_below hb g none) (.inl rfl)); replace HB := ak (below_step (lT HB (gC GE146 (gC GE156 gN))) hb); replace HI0 := ak (IsS134.below (show IsS134 w0 ((((((((w14.setCell ⟨gb156, 0, none⟩ (.int .i64 t150)).setCell ⟨gb156, 1, none⟩ (.int .i64 (wrap64 (1 + t153)))).setCell ⟨gb156, 2, none⟩ (.int .i64 0)).setCell ⟨gb156, 3, none⟩ (.int .i64 0)).setCell ⟨gb156, 4, none⟩ (.int .i64 0)).setCell ⟨gb156, 5, none⟩ (.string (⟨#[]⟩ : ByteArray))).setCell ⟨gb156, 6, none⟩ (.string (⟨#[]⟩ : ByteArray))).setCell ⟨gb156, 7, none⟩ (.string (⟨#[]⟩ : ByteArray))) g s0_0 t154 t155 from IsS134.T_ HI0 (nC NB0_146 (nC NB0_156 nN))) hb); clear hb ho19; obtain ⟨Ao20, co20, eo20⟩ := Kd.R_slice HO159.out; subst eo20) | ((with_reducible refine gate_callee (f := 71) rfl ?_); refine gl (some 17) Try.func71 #[.pointer (some ⟨g, 0, none⟩), .slice Ao20 y157.length co20] ?_; (with_reducible refine (spec_l01Pick.calls g s0_0 t154 t155 _ _ y157 t160 t161 t162 w0 _ ?side1 ?side2 ?side3 ?side4 ?side5 A5.out).mono ?_); (case side1 => exact IsS134.T_ HI0 (nC NB0_146 (nC NB0_156 nN))); (case side2 => exact lT HB (gC GE146 (gC GE156 gN))); (case side3 => exact cG (Kd.R_reads' HO159.out).2.2); (case side4 => exact (Kd.R_reads' HO159.out).2.1); (case side5 => exact far_slice (IsS134.own_ne HI0.out HO159.out (by decide))); rintro e w21 ⟨rfl, hi, hb, hk⟩; refine ⟨_, rfl, ?_⟩; replace BK146 := ak (KeepBut.blk hk (g' := gb146) (o := .cells #[.int .i64 0, .int .i64 0, .int .i64 0, .int .i64 0, .int .i64 0, .string (⟨#[]⟩ : ByteArray), .string (⟨#[]⟩ : ByteArray), .string (⟨#[]⟩ : ByteArray)] 23 (0, 0)) (bG BK146) NB146_0.out (by simp)); replace HO149 := ak (Kd.R_mono (Kd.R_keep (IsS134.apart (show IsS134 w0 _ g s0_0 t154 t155 from IsS134.T_ HI0 (nC NB0_146 (nC NB0_156 nN))) (rG HO149) (by decide)) hk (fun _ h => h.2)) (fun _ h => h.1)); replace BK156 := ak (KeepBut.blk hk (g' := gb156) (o := .cells #[.int .i64 t150, .int .i64 (wrap64 (1 + t153)), .int .i64 0, .int .i64 0, .int .i64 0, .string (⟨#[]⟩ : ByteArray), .string (⟨#[]⟩ : ByteArray), .string (⟨#[]⟩ : ByteArray)] 23 (0, 0)) (bG BK156) NB156_0.out (by simp)); replace HO159 := ak (Kd.R_mono (Kd.R_keep (IsS134.apart (show IsS134 w0 _ g s0_0 t154 t155 from IsS134.T_ HI0 (nC NB0_146 (nC NB0_156 nN))) (rG HO159) (by decide)) hk (fun _ h => h.2)) (fun _ h => h.1)); replace HK := ak (KeepBut.trans (kT HK (gC GW146 (gC GW156 gN))) hk (.inl rfl)); replace HB := ak (hb); replace HI0 := ak (hi); (try clear hb); (try clear hk); (try clear hi); obtain ⟨_, _, _, _, _, _, _, _, _, _, _, _, _, _, _, _⟩ := bC8 BK156) | ((with_reducible refine gate_dst (N := 20) rfl ?_); refine Kd.R_lit Kd.string _ 9 ?hg (N := 20) ?hd (xs := ([(⟨#[105, 110, 98, 111, 120]⟩ : ByteArray), (⟨#[119, 111, 114, 107]⟩ : ByteArray)] : List ByteArray)) (inner := [.string (⟨#[105, 110, 98, 111, 120]⟩ : ByteArray), .string (⟨#[119, 111, 114, 107]⟩ : ByteArray)]) (ok := fun _ => True) (okp := fun _ => True) ?hr ?hp (fun _ hk => hk) trivial (Below.refl _ _) (Nat.le_refl _) (by simp) ?_; (case hd => rfl); (case hg => rfl); (case hr => first | (go_simp; done) | (go_simp; rfl)); (case hp => exact (Reps.one (show Kd.M Kd.string _ _ _ (⟨#[105, 110, 98, 111, 120]⟩ : ByteArray) [.string (⟨#[105, 110, 98, 111, 120]⟩ : ByteArray)] from rfl) (Reps.one (show Kd.M Kd.string _ _ _ (⟨#[119, 111, 114, 107]⟩ : ByteArray) [.string (⟨#[119, 111, 114, 107]⟩ : ByteArray)] from rfl) (Reps.none _ _)))); intro v164 w23 ho24 hb hg_ hnew_; clear hg_ hnew_; (first | rw [← Ny163.out] at ho24 | (simp only [Int.reduceToNat] at ho24; rw [← Ny163.out] at ho24)); replace HO149 := ak (Kd.R_below (rT HO149 BK156 (by decide)) hb); replace HO165 := ak (Kd.R_lower (Kd.R_new' ho24 (Kd.R_lt (rT HO159 BK156 (by decide)))) (keep_size (w := w) (g := g) (row := none) (kT HK (gC GW146 (gC GW156 gN))))); replace HO159 := ak (Kd.R_elder' (rT HO159 BK156 (by decide)) (Kd.R_base ho24) hb); replace BK146 := ak (blk_below (bT BK146 (nC NB146_156 nN)) hb); replace BK156 := ak (blk_below (g := gb156) (o := .cells #[.int .i64 t150, .int .i64 (wrap64 (1 + t153)), .int .i64 0, .int .i64 0, .int .i64 0, .string t160, .string (⟨#[]⟩ : ByteArray), .string (⟨#[]⟩ : ByteArray)] 23 (0, 0)) (bW BK156) hb); replace HK := ak (KeepBut.trans (kT HK (gC GW146 (gC GW156 gN))) (KeepBut.of_below hb g none) (.inl rfl)); replace HB := ak (below_step (lT HB (gC GE146 (gC GE156 gN))) hb); replace HI0 := ak (IsS134.below (show IsS134 w0 (w21.setCell ⟨gb156, 5, none⟩ (.string t160)) g s0_0 t161 t162 from IsS134.T_ HI0 (nC NB0_146 (nC NB0_156 nN))) hb); clear hb ho24; obtain ⟨Ao25, co25, eo25⟩ := Kd.R_slice HO165.out; subst eo25) | ((with_reducible refine gate_callee (f := 71) rfl ?_); refine gl (some 21) Try.func71 #[.pointer (some ⟨g, 0, none⟩), .slice Ao25 y163.length co25] ?_; (with_reducible refine (spec_l01Pick.calls g s0_0 t161 t162 _ _ y163 t166 t167 t168 w0 _ ?side1 ?side2 ?side3 ?side4 ?side5 A6.out).mono ?_); (case side1 => exact IsS134.T_ HI0 (nC NB0_146 (nC NB0_156 nN))); (case side2 => exact lT HB (gC GE146 (gC GE156 gN))); (case side3 => exact cG (Kd.R_reads' HO165.out).2.2); (case side4 => exact (Kd.R_reads' HO165.out).2.1); (case side5 => exact far_slice (IsS134.own_ne HI0.out HO165.out (by decide))); rintro e w26 ⟨rfl, hi, hb, hk⟩; refine ⟨_, rfl, ?_⟩; replace BK146 := ak (KeepBut.blk hk (g' := gb146) (o := .cells #[.int .i64 0, .int .i64 0, .int .i64 0, .int .i64 0, .int .i64 0, .string (⟨#[]⟩ : ByteArray), .string (⟨#[]⟩ : ByteArray), .string (⟨#[]⟩ : ByteArray)] 23 (0, 0)) (bG BK146) NB146_0.out (by simp)); replace HO149 := ak (Kd.R_mono (Kd.R_keep (IsS134.apart (show IsS134 w0 _ g s0_0 t161 t162 from IsS134.T_ HI0 (nC NB0_146 (nC NB0_156 nN))) (rG HO149) (by decide)) hk (fun _ h => h.2)) (fun _ h => h.1)); replace BK156 := ak (KeepBut.blk hk (g' := gb156) (o := .cells #[.int .i64 t150, .int .i64 (wrap64 (1 + t153)), .int .i64 0, .int .i64 0, .int .i64 0, .string t160, .string (⟨#[]⟩ : ByteArray), .string (⟨#[]⟩ : ByteArray)] 23 (0, 0)) (bG BK156) NB156_0.out (by simp)); replace HO159 := ak (Kd.R_mono (Kd.R_keep (IsS134.apart (show IsS134 w0 _ g s0_0 t161 t162 from IsS134.T_ HI0 (nC NB0_146 (nC NB0_156 nN))) (rG HO159) (by decide)) hk (fun _ h => h.2)) (fun _ h => h.1)); replace HO165 := ak (Kd.R_mono (Kd.R_keep (IsS134.apart (show IsS134 w0 _ g s0_0 t161 t162 from IsS134.T_ HI0 (nC NB0_146 (nC NB0_156 nN))) (rG HO165) (by decide)) hk (fun _ h => h.2)) (fun _ h => h.1)); replace HK := ak (KeepBut.trans (kT HK (gC GW146 (gC GW156 gN))) hk (.inl rfl)); replace HB := ak (hb); replace HI0 := ak (hi); (try clear hb); (try clear hk); (try clear hi); obtain ⟨_, _, _, _, _, _, _, _, _, _, _, _, _, _, _, _⟩ := bC8 BK156) | ((with_reducible refine gate_callee (f := 69) rfl ?_); refine gl (some 24) Try.func69 #[.pointer (some ⟨g, 0, none⟩), .int .i64 6] ?_; (with_reducible refine (spec_l01Below.calls g s0_0 t167 t168 6 t169 t170 t171 w0 _ ?side1 ?side2 A7.out).mono ?_); (case side1 => exact IsS134.T_ HI0 (nC NB0_146 (nC NB0_156 nN))); (case side2 => exact lT HB (gC GE146 (gC GE156 gN))); rintro e w28 ⟨rfl, hi, hb, hk⟩; refine ⟨_, rfl, ?_⟩; replace BK146 := ak (KeepBut.blk hk (g' := gb146) (o := .cells #[.int .i64 0, .int .i64 0, .int .i64 0, .int .i64 0, .int .i64 0, .string (⟨#[]⟩ : ByteArray), .string (⟨#[]⟩ : ByteArray), .string (⟨#[]⟩ : ByteArray)] 23 (0, 0)) (bT BK146 (nC NB146_156 nN)) NB146_0.out (by simp)); replace HO149 := ak (Kd.R_mono (Kd.R_keep (IsS134.apart (show IsS134 w0 _ g s0_0 t167 t168 from IsS134.T_ HI0 (nC NB0_146 (nC NB0_156 nN))) (rT HO149 BK156 (by decide)) (by decide)) hk (fun _ h => h.2)) (fun _ h => h.1)); replace HO159 := ak (Kd.R_mono (Kd.R_keep (IsS134.apart (show IsS134 w0 _ g s0_0 t167 t168 from IsS134.T_ HI0 (nC NB0_146 (nC NB0_156 nN))) (rT HO159 BK156 (by decide)) (by decide)) hk (fun _ h => h.2)) (fun _ h => h.1)); replace HO165 := ak (Kd.R_mono (Kd.R_keep (IsS134.apart (show IsS134 w0 _ g s0_0 t167 t168 from IsS134.T_ HI0 (nC NB0_146 (nC NB0_156 nN))) (rT HO165 BK156 (by decide)) (by decide)) hk (fun _ h => h.2)) (fun _ h => h.1)); replace BK156 := ak (KeepBut.blk hk (g' := gb156) (o := .cells #[.int .i64 t150, .int .i64 (wrap64 (1 + t153)), .int .i64 0, .int .i64 0, .int .i64 0, .string t160, .string t166, .string (⟨#[]⟩ : ByteArray)] 23 (0, 0)) (bW BK156) NB156_0.out (by simp)); replace HK := ak (KeepBut.trans (kT HK (gC GW146 (gC GW156 gN))) hk (.inl rfl)); replace HB := ak (hb); replace HI0 := ak (hi); (try clear hb); (try clear hk); (try clear hi); obtain ⟨_, _, _, _, _, _, _, _, _, _, _, _, _, _, _, _⟩ := bC8 BK156; have hnb30 := NB146_0.out; have hnc30 := NB0_146.out; obtain ⟨_, _, _, _, _, _, _, _, _, _, _, _, _, _, _, _⟩ := bC8 BK146))
  refine bodyPost_ret (results_cell_row rfl _ _ gb146 23 #[.int .i64 t150, .int .i64 (wrap64 (1 + t153)), .int .i64 0, .int .i64 (wrap64 (1 + t169)), .int .i64 0, .string t160, .string t166, .string (⟨#[]⟩ : ByteArray)] (0, 0) _ rfl (bF BK146 (nC NB146_156 nN)) Try.underlying23 rfl (by kernel_rfl)) rfl ?_
  exact ⟨ew, IsS134.T_ HI0 (nC NB0_146 (nC NB0_156 nN)), lT HB (gC GE146 (gC GE156 gN)), kT HK (gC GW146 (gC GW156 gN))⟩
 ·rw [if_neg c4] at H
  have c4b0 : (t150 == 1) = false := beq_eq_false_iff_ne.mpr c4
  have c4b1 : (t150 != 1) = true := bne_iff_ne.mpr c4
  by_cases c32 : t150 = 3
  ·rw [if_pos c32] at H
   have c32b0 : (t150 == 3) = true := beq_iff_eq.mpr c32
   have c32b1 : (t150 != 3) = false := bne_eq_false_iff_eq.mpr c32
   clear c32
   obtain ⟨⟨t172, t173, t174⟩, A33, H⟩ := eb H
   try dsimp only at H
   obtain ⟨⟨t175, t176, t177⟩, A34, H⟩ := eb H
   try dsimp only at H
   obtain ⟨⟨t178, t179, t180⟩, A35, H⟩ := eb H
   try dsimp only at H
   simp only [Option.some.injEq, Prod.mk.injEq] at H
   obtain ⟨rfl, rfl, rfl, rfl, rfl, rfl, rfl, rfl, rfl, rfl⟩ := H
   go_enter Try.func99, Try.ntmps99
   go_wp2_with (first | ((with_reducible refine gate_dst (N := 2) rfl ?_); refine bx 2 #[.int .i64 0, .int .i64 0, .int .i64 0, .int .i64 0, .int .i64 0, .string (⟨#[]⟩ : ByteArray), .string (⟨#[]⟩ : ByteArray), .string (⟨#[]⟩ : ByteArray)] 23 ?_; intro gb146 hg w36 hbox hb; replace HB := ak (below_step (lT HB gN) hb); replace BK146 := ak (hbox); replace GW146 := ak ((by rw [hg]; exact (keep_size (w := w) (g := g) (row := none) (kT HK gN)) : w.heap.size ≤ gb146)); replace GE146 := ak ((Nat.le_trans HW0.out (by rw [hg]; exact (keep_size (w := w) (g := g) (row := none) (kT HK gN)) : w.heap.size ≤ gb146) : w0.heap.size ≤ gb146)); replace HK := ak (KeepBut.trans (kT HK gN) (KeepBut.of_below hb g none) (.inl rfl)); replace NB0_146 := ak ((by rw [hg]; exact Nat.ne_of_lt (IsS134.lt (show IsS134 w0 _ g s0_0 s0_1 s0_2 from IsS134.T_ HI0 nN)) : g ≠ gb146)); replace NB146_0 := ak ((by rw [hg]; exact Nat.ne_of_gt (IsS134.lt (show IsS134 w0 _ g s0_0 s0_1 s0_2 from IsS134.T_ HI0 nN)) : gb146 ≠ g)); replace HI0 := ak (IsS134.below (IsS134.T_ HI0 nN) hb); clear hb hbox hg) | ((with_reducible refine gate_dst (N := 5) rfl ?_); refine Kd.R_lit (Kd.int .i64) _ 3 ?hg (N := 5) ?hd (xs := ([1, 1, 2, 3, 3, 3, 3, 4, 4, 5, 5] : List Int)) (inner := [.int .i64 1, .int .i64 1, .int .i64 2, .int .i64 3, .int .i64 3, .int .i64 3, .int .i64 3, .int .i64 4, .int .i64 4, .int .i64 5, .int .i64 5]) (ok := fun _ => True) (okp := fun _ => True) ?hr ?hp (fun _ hk => hk) trivial (Below.refl _ _) (Nat.le_refl _) (by simp) ?_; (case hd => rfl); (case hg => rfl); (case hr => first | (go_simp; done) | (go_simp; rfl)); (case hp => exact (Reps.one (show Kd.M (Kd.int .i64) _ _ _ 1 [.int .i64 1] from rfl) (Reps.one (show Kd.M (Kd.int .i64) _ _ _ 1 [.int .i64 1] from rfl) (Reps.one (show Kd.M (Kd.int .i64) _ _ _ 2 [.int .i64 2] from rfl) (Reps.one (show Kd.M (Kd.int .i64) _ _ _ 3 [.int .i64 3] from rfl) (Reps.one (show Kd.M (Kd.int .i64) _ _ _ 3 [.int .i64 3] from rfl) (Reps.one (show Kd.M (Kd.int .i64) _ _ _ 3 [.int .i64 3] from rfl) (Reps.one (show Kd.M (Kd.int .i64) _ _ _ 3 [.int .i64 3] from rfl) (Reps.one (show Kd.M (Kd.int .i64) _ _ _ 4 [.int .i64 4] from rfl) (Reps.one (show Kd.M (Kd.int .i64) _ _ _ 4 [.int .i64 4] from rfl) (Reps.one (show Kd.M (Kd.int .i64) _ _ _ 5 [.int .i64 5] from rfl) (Reps.one (show Kd.M (Kd.int .i64) _ _ _ 5 [.int .i64 5] from rfl) (Reps.none _ _))))))))))))); intro v148 w37 ho38 hb hg_ hnew_; clear hg_ hnew_; (first | rw [← Ny147.out] at ho38 | (simp only [Int.reduceToNat] at ho38; rw [← Ny147.out] at ho38)); replace HO149 := ak (Kd.R_lower ho38 (keep_size (w := w) (g := g) (row := none) (kT HK (gC GW146 gN)))); replace BK146 := bB BK146 hb; replace HK := ak (KeepBut.trans (kT HK (gC GW146 gN)) (KeepBut.of_below hb g none) (.inl rfl)); replace HB := ak (below_step (lT HB (gC GE146 gN)) hb); replace HI0 := ak (IsS134.below (IsS134.T_ HI0 (nC NB0_146 nN)) hb); clear hb ho38; obtain ⟨Ao39, co39, eo39⟩ := Kd.R_slice HO149.out; subst eo39) | ((with_reducible refine gate_callee (f := 116) rfl ?_); refine gl (some 6) Try.func116 #[.pointer (some ⟨g, 0, none⟩), .slice Ao39 y147.length co39] ?_; (with_reducible refine (spec_l01PickInt.calls g s0_0 s0_1 s0_2 _ _ y147 t150 t151 t152 w0 _ ?side1 ?side2 ?side3 ?side4 ?side5 A2.out).mono ?_); (case side1 => exact IsS134.T_ HI0 (nC NB0_146 nN)); (case side2 => exact lT HB (gC GE146 gN)); (case side3 => exact cG (Kd.R_reads' HO149.out).2.2); (case side4 => exact (Kd.R_reads' HO149.out).2.1); (case side5 => exact far_slice (IsS134.own_ne HI0.out HO149.out (by decide))); rintro e w40 ⟨rfl, hi, hb, hk⟩; refine ⟨_, rfl, ?_⟩; replace BK146 := ak (KeepBut.blk hk (g' := gb146) (o := .cells #[.int .i64 0, .int .i64 0, .int .i64 0, .int .i64 0, .int .i64 0, .string (⟨#[]⟩ : ByteArray), .string (⟨#[]⟩ : ByteArray), .string (⟨#[]⟩ : ByteArray)] 23 (0, 0)) (bG BK146) NB146_0.out (by simp)); replace HO149 := ak (Kd.R_mono (Kd.R_keep (IsS134.apart (show IsS134 w0 _ g s0_0 s0_1 s0_2 from IsS134.T_ HI0 (nC NB0_146 nN)) (rG HO149) (by decide)) hk (fun _ h => h.2)) (fun _ h => h.1)); replace HK := ak (KeepBut.trans (kT HK (gC GW146 gN)) hk (.inl rfl)); replace HB := ak (hb); replace HI0 := ak (hi); (try clear hb); (try clear hk); (try clear hi)) | ((with_reducible refine gate_callee (f := 69) rfl ?_); refine gl (some 8) Try.func69 #[.pointer (some ⟨g, 0, none⟩), .int .i64 3] ?_; (with_reducible refine (spec_l01Below.calls g s0_0 t151 t152 3 t153 t154 t155 w0 _ ?side1 ?side2 A3.out).mono ?_); (case side1 => exact IsS134.T_ HI0 (nC NB0_146 nN)); (case side2 => exact lT HB (gC GE146 gN)); rintro e w41 ⟨rfl, hi, hb, hk⟩; refine ⟨_, rfl, ?_⟩; replace BK146 := ak (KeepBut.blk hk (g' := gb146) (o := .cells #[.int .i64 0, .int .i64 0, .int .i64 0, .int .i64 0, .int .i64 0, .string (⟨#[]⟩ : ByteArray), .string (⟨#[]⟩ : ByteArray), .string (⟨#[]⟩ : ByteArray)] 23 (0, 0)) (bG BK146) NB146_0.out (by simp)); replace HO149 := ak (Kd.R_mono (Kd.R_keep (IsS134.apart (show IsS134 w0 _ g s0_0 t151 t152 from IsS134.T_ HI0 (nC NB0_146 nN)) (rG HO149) (by decide)) hk (fun _ h => h.2)) (fun _ h => h.1)); replace HK := ak (KeepBut.trans (kT HK (gC GW146 gN)) hk (.inl rfl)); replace HB := ak (hb); replace HI0 := ak (hi); (try clear hb); (try clear hk); (try clear hi)) | ((with_reducible refine gate_dst (N := 3) rfl ?_); refine bx 3 #[.int .i64 0, .int .i64 0, .int .i64 0, .int .i64 0, .int .i64 0, .string (⟨#[]⟩ : ByteArray), .string (⟨#[]⟩ : ByteArray), .string (⟨#[]⟩ : ByteArray)] 23 ?_; intro gb156 hg w42 hbox hb; replace HO149 := rB HO149 hb; replace HB := ak (below_step (lT HB (gC GE146 gN)) hb); replace BK156 := ak (hbox); replace GW156 := ak ((by rw [hg]; exact (keep_size (w := w) (g := g) (row := none) (kT HK (gC GW146 gN))) : w.heap.size ≤ gb156)); replace GE156 := ak ((Nat.le_trans HW0.out (by rw [hg]; exact (keep_size (w := w) (g := g) (row := none) (kT HK (gC GW146 gN))) : w.heap.size ≤ gb156) : w0.heap.size ≤ gb156)); replace HK := ak (KeepBut.trans (kT HK (gC GW146 gN)) (KeepBut.of_below hb g none) (.inl rfl)); replace NB146_156 := ak (nl hg (bG BK146)); replace NB156_146 := ak (ng hg (bG BK146)); replace BK146 := bB BK146 hb; replace NB0_156 := ak ((by rw [hg]; exact Nat.ne_of_lt (IsS134.lt (show IsS134 w0 _ g s0_0 t154 t155 from IsS134.T_ HI0 (nC NB0_146 nN))) : g ≠ gb156)); replace NB156_0 := ak ((by rw [hg]; exact Nat.ne_of_gt (IsS134.lt (show IsS134 w0 _ g s0_0 t154 t155 from IsS134.T_ HI0 (nC NB0_146 nN))) : gb156 ≠ g)); replace HI0 := ak (IsS134.below (IsS134.T_ HI0 (nC NB0_146 nN)) hb); clear hb hbox hg; have hnb43 := NB156_146.out; have hnc43 := NB146_156.out; have hnb44 := NB156_0.out; have hnc44 := NB0_156.out; obtain ⟨_, _, _, _, _, _, _, _, _, _, _, _, _, _, _, _⟩ := bC8 BK156) | ((with_reducible refine gate_callee (f := 69) rfl ?_); refine gl (some 30) Try.func69 #[.pointer (some ⟨g, 0, none⟩), .int .i64 5] ?_; (with_reducible refine (spec_l01Below.calls g s0_0 t154 t155 5 t172 t173 t174 w0 _ ?side1 ?side2 A33.out).mono ?_); (case side1 => exact IsS134.T_ HI0 (nC NB0_146 (nC NB0_156 nN))); (case side2 => exact lT HB (gC GE146 (gC GE156 gN))); rintro e w46 ⟨rfl, hi, hb, hk⟩; refine ⟨_, rfl, ?_⟩; replace BK146 := ak (KeepBut.blk hk (g' := gb146) (o := .cells #[.int .i64 0, .int .i64 0, .int .i64 0, .int .i64 0, .int .i64 0, .string (⟨#[]⟩ : ByteArray), .string (⟨#[]⟩ : ByteArray), .string (⟨#[]⟩ : ByteArray)] 23 (0, 0)) (bT BK146 (nC NB146_156 nN)) NB146_0.out (by simp)); replace HO149 := ak (Kd.R_mono (Kd.R_keep (IsS134.apart (show IsS134 w0 _ g s0_0 t154 t155 from IsS134.T_ HI0 (nC NB0_146 (nC NB0_156 nN))) (rT HO149 BK156 (by decide)) (by decide)) hk (fun _ h => h.2)) (fun _ h => h.1)); replace BK156 := ak (KeepBut.blk hk (g' := gb156) (o := .cells #[.int .i64 t150, .int .i64 (wrap64 (1 + t153)), .int .i64 0, .int .i64 0, .int .i64 0, .string (⟨#[]⟩ : ByteArray), .string (⟨#[]⟩ : ByteArray), .string (⟨#[]⟩ : ByteArray)] 23 (0, 0)) (bW BK156) NB156_0.out (by simp)); replace HK := ak (KeepBut.trans (kT HK (gC GW146 (gC GW156 gN))) hk (.inl rfl)); replace HB := ak (hb); replace HI0 := ak (hi); (try clear hb); (try clear hk); (try clear hi); obtain ⟨_, _, _, _, _, _, _, _, _, _, _, _, _, _, _, _⟩ := bC8 BK156) | ((with_reducible refine gate_callee (f := 69) rfl ?_); refine gl (some 34) Try.func69 #[.pointer (some ⟨g, 0, none⟩), .int .i64 8] ?_; (with_reducible refine (spec_l01Below.calls g s0_0 t173 t174 8 t175 t176 t177 w0 _ ?side1 ?side2 A34.out).mono ?_); (case side1 => exact IsS134.T_ HI0 (nC NB0_146 (nC NB0_156 nN))); (case side2 => exact lT HB (gC GE146 (gC GE156 gN))); rintro e w48 ⟨rfl, hi, hb, hk⟩; refine ⟨_, rfl, ?_⟩; replace BK146 := ak (KeepBut.blk hk (g' := gb146) (o := .cells #[.int .i64 0, .int .i64 0, .int .i64 0, .int .i64 0, .int .i64 0, .string (⟨#[]⟩ : ByteArray), .string (⟨#[]⟩ : ByteArray), .string (⟨#[]⟩ : ByteArray)] 23 (0, 0)) (bT BK146 (nC NB146_156 nN)) NB146_0.out (by simp)); replace HO149 := ak (Kd.R_mono (Kd.R_keep (IsS134.apart (show IsS134 w0 _ g s0_0 t173 t174 from IsS134.T_ HI0 (nC NB0_146 (nC NB0_156 nN))) (rT HO149 BK156 (by decide)) (by decide)) hk (fun _ h => h.2)) (fun _ h => h.1)); replace BK156 := ak (KeepBut.blk hk (g' := gb156) (o := .cells #[.int .i64 t150, .int .i64 (wrap64 (1 + t153)), .int .i64 (wrap64 (1 + t172)), .int .i64 0, .int .i64 0, .string (⟨#[]⟩ : ByteArray), .string (⟨#[]⟩ : ByteArray), .string (⟨#[]⟩ : ByteArray)] 23 (0, 0)) (bW BK156) NB156_0.out (by simp)); replace HK := ak (KeepBut.trans (kT HK (gC GW146 (gC GW156 gN))) hk (.inl rfl)); replace HB := ak (hb); replace HI0 := ak (hi); (try clear hb); (try clear hk); (try clear hi); obtain ⟨_, _, _, _, _, _, _, _, _, _, _, _, _, _, _, _⟩ := bC8 BK156) | ((with_reducible refine gate_callee (f := 117) rfl ?_); refine gl (some 37) Try.func117 #[.pointer (some ⟨g, 0, none⟩)] ?_; (with_reducible refine (spec_l06Text.calls g s0_0 t176 t177 t178 t179 t180 w0 _ ?side1 ?side2 A35.out).mono ?_); (case side1 => exact IsS134.T_ HI0 (nC NB0_146 (nC NB0_156 nN))); (case side2 => exact lT HB (gC GE146 (gC GE156 gN))); rintro e w50 ⟨rfl, hi, hb, hk⟩; refine ⟨_, rfl, ?_⟩; replace BK146 := ak (KeepBut.blk hk (g' := gb146) (o := .cells #[.int .i64 0, .int .i64 0, .int .i64 0, .int .i64 0, .int .i64 0, .string (⟨#[]⟩ : ByteArray), .string (⟨#[]⟩ : ByteArray), .string (⟨#[]⟩ : ByteArray)] 23 (0, 0)) (bT BK146 (nC NB146_156 nN)) NB146_0.out (by simp)); replace HO149 := ak (Kd.R_mono (Kd.R_keep (IsS134.apart (show IsS134 w0 _ g s0_0 t176 t177 from IsS134.T_ HI0 (nC NB0_146 (nC NB0_156 nN))) (rT HO149 BK156 (by decide)) (by decide)) hk (fun _ h => h.2)) (fun _ h => h.1)); replace BK156 := ak (KeepBut.blk hk (g' := gb156) (o := .cells #[.int .i64 t150, .int .i64 (wrap64 (1 + t153)), .int .i64 (wrap64 (1 + t172)), .int .i64 0, .int .i64 t175, .string (⟨#[]⟩ : ByteArray), .string (⟨#[]⟩ : ByteArray), .string (⟨#[]⟩ : ByteArray)] 23 (0, 0)) (bW BK156) NB156_0.out (by simp)); replace HK := ak (KeepBut.trans (kT HK (gC GW146 (gC GW156 gN))) hk (.inl rfl)); replace HB := ak (hb); replace HI0 := ak (hi); (try clear hb); (try clear hk); (try clear hi); obtain ⟨_, _, _, _, _, _, _, _, _, _, _, _, _, _, _, _⟩ := bC8 BK156; have hnb52 := NB146_0.out; have hnc52 := NB0_146.out; obtain ⟨_, _, _, _, _, _, _, _, _, _, _, _, _, _, _, _⟩ := bC8 BK146))
   refine bodyPost_ret (results_cell_row rfl _ _ gb146 23 #[.int .i64 t150, .int .i64 (wrap64 (1 + t153)), .int .i64 (wrap64 (1 + t172)), .int .i64 0, .int .i64 t175, .string (⟨#[]⟩ : ByteArray), .string (⟨#[]⟩ : ByteArray), .string t178] (0, 0) _ rfl (bF BK146 (nC NB146_156 nN)) Try.underlying23 rfl (by kernel_rfl)) rfl ?_
   exact ⟨ew, IsS134.T_ HI0 (nC NB0_146 (nC NB0_156 nN)), lT HB (gC GE146 (gC GE156 gN)), kT HK (gC GW146 (gC GW156 gN))⟩
  ·rw [if_neg c32] at H
   have c32b0 : (t150 == 3) = false := beq_eq_false_iff_ne.mpr c32
   have c32b1 : (t150 != 3) = true := bne_iff_ne.mpr c32
   by_cases c54 : t150 = 4
   ·rw [if_pos c54] at H
    have c54b0 : (t150 == 4) = true := beq_iff_eq.mpr c54
    have c54b1 : (t150 != 4) = false := bne_eq_false_iff_eq.mpr c54
    clear c54
    obtain ⟨⟨t181, t182, t183⟩, A55, H⟩ := eb H
    try dsimp only at H
    obtain ⟨⟨t184, t185, t186⟩, A56, H⟩ := eb H
    try dsimp only at H
    simp only [Option.some.injEq, Prod.mk.injEq] at H
    obtain ⟨rfl, rfl, rfl, rfl, rfl, rfl, rfl, rfl, rfl, rfl⟩ := H
    go_enter Try.func99, Try.ntmps99
    go_wp2_with (first | ((with_reducible refine gate_dst (N := 2) rfl ?_); refine bx 2 #[.int .i64 0, .int .i64 0, .int .i64 0, .int .i64 0, .int .i64 0, .string (⟨#[]⟩ : ByteArray), .string (⟨#[]⟩ : ByteArray), .string (⟨#[]⟩ : ByteArray)] 23 ?_; intro gb146 hg w57 hbox hb; replace HB := ak (below_step (lT HB gN) hb); replace BK146 := ak (hbox); replace GW146 := ak ((by rw [hg]; exact (keep_size (w := w) (g := g) (row := none) (kT HK gN)) : w.heap.size ≤ gb146)); replace GE146 := ak ((Nat.le_trans HW0.out (by rw [hg]; exact (keep_size (w := w) (g := g) (row := none) (kT HK gN)) : w.heap.size ≤ gb146) : w0.heap.size ≤ gb146)); replace HK := ak (KeepBut.trans (kT HK gN) (KeepBut.of_below hb g none) (.inl rfl)); replace NB0_146 := ak ((by rw [hg]; exact Nat.ne_of_lt (IsS134.lt (show IsS134 w0 _ g s0_0 s0_1 s0_2 from IsS134.T_ HI0 nN)) : g ≠ gb146)); replace NB146_0 := ak ((by rw [hg]; exact Nat.ne_of_gt (IsS134.lt (show IsS134 w0 _ g s0_0 s0_1 s0_2 from IsS134.T_ HI0 nN)) : gb146 ≠ g)); replace HI0 := ak (IsS134.below (IsS134.T_ HI0 nN) hb); clear hb hbox hg) | ((with_reducible refine gate_dst (N := 5) rfl ?_); refine Kd.R_lit (Kd.int .i64) _ 3 ?hg (N := 5) ?hd (xs := ([1, 1, 2, 3, 3, 3, 3, 4, 4, 5, 5] : List Int)) (inner := [.int .i64 1, .int .i64 1, .int .i64 2, .int .i64 3, .int .i64 3, .int .i64 3, .int .i64 3, .int .i64 4, .int .i64 4, .int .i64 5, .int .i64 5]) (ok := fun _ => True) (okp := fun _ => True) ?hr ?hp (fun _ hk => hk) trivial (Below.refl _ _) (Nat.le_refl _) (by simp) ?_; (case hd => rfl); (case hg => rfl); (case hr => first | (go_simp; done) | (go_simp; rfl)); (case hp => exact (Reps.one (show Kd.M (Kd.int .i64) _ _ _ 1 [.int .i64 1] from rfl) (Reps.one (show Kd.M (Kd.int .i64) _ _ _ 1 [.int .i64 1] from rfl) (Reps.one (show Kd.M (Kd.int .i64) _ _ _ 2 [.int .i64 2] from rfl) (Reps.one (show Kd.M (Kd.int .i64) _ _ _ 3 [.int .i64 3] from rfl) (Reps.one (show Kd.M (Kd.int .i64) _ _ _ 3 [.int .i64 3] from rfl) (Reps.one (show Kd.M (Kd.int .i64) _ _ _ 3 [.int .i64 3] from rfl) (Reps.one (show Kd.M (Kd.int .i64) _ _ _ 3 [.int .i64 3] from rfl) (Reps.one (show Kd.M (Kd.int .i64) _ _ _ 4 [.int .i64 4] from rfl) (Reps.one (show Kd.M (Kd.int .i64) _ _ _ 4 [.int .i64 4] from rfl) (Reps.one (show Kd.M (Kd.int .i64) _ _ _ 5 [.int .i64 5] from rfl) (Reps.one (show Kd.M (Kd.int .i64) _ _ _ 5 [.int .i64 5] from rfl) (Reps.none _ _))))))))))))); intro v148 w58 ho59 hb hg_ hnew_; clear hg_ hnew_; (first | rw [← Ny147.out] at ho59 | (simp only [Int.reduceToNat] at ho59; rw [← Ny147.out] at ho59)); replace HO149 := ak (Kd.R_lower ho59 (keep_size (w := w) (g := g) (row := none) (kT HK (gC GW146 gN)))); replace BK146 := bB BK146 hb; replace HK := ak (KeepBut.trans (kT HK (gC GW146 gN)) (KeepBut.of_below hb g none) (.inl rfl)); replace HB := ak (below_step (lT HB (gC GE146 gN)) hb); replace HI0 := ak (IsS134.below (IsS134.T_ HI0 (nC NB0_146 nN)) hb); clear hb ho59; obtain ⟨Ao60, co60, eo60⟩ := Kd.R_slice HO149.out; subst eo60) | ((with_reducible refine gate_callee (f := 116) rfl ?_); refine gl (some 6) Try.func116 #[.pointer (some ⟨g, 0, none⟩), .slice Ao60 y147.length co60] ?_; (with_reducible refine (spec_l01PickInt.calls g s0_0 s0_1 s0_2 _ _ y147 t150 t151 t152 w0 _ ?side1 ?side2 ?side3 ?side4 ?side5 A2.out).mono ?_); (case side1 => exact IsS134.T_ HI0 (nC NB0_146 nN)); (case side2 => exact lT HB (gC GE146 gN)); (case side3 => exact cG (Kd.R_reads' HO149.out).2.2); (case side4 => exact (Kd.R_reads' HO149.out).2.1); (case side5 => exact far_slice (IsS134.own_ne HI0.out HO149.out (by decide))); rintro e w61 ⟨rfl, hi, hb, hk⟩; refine ⟨_, rfl, ?_⟩; replace BK146 := ak (KeepBut.blk hk (g' := gb146) (o := .cells #[.int .i64 0, .int .i64 0, .int .i64 0, .int .i64 0, .int .i64 0, .string (⟨#[]⟩ : ByteArray), .string (⟨#[]⟩ : ByteArray), .string (⟨#[]⟩ : ByteArray)] 23 (0, 0)) (bG BK146) NB146_0.out (by simp)); replace HO149 := ak (Kd.R_mono (Kd.R_keep (IsS134.apart (show IsS134 w0 _ g s0_0 s0_1 s0_2 from IsS134.T_ HI0 (nC NB0_146 nN)) (rG HO149) (by decide)) hk (fun _ h => h.2)) (fun _ h => h.1)); replace HK := ak (KeepBut.trans (kT HK (gC GW146 gN)) hk (.inl rfl)); replace HB := ak (hb); replace HI0 := ak (hi); (try clear hb); (try clear hk); (try clear hi)) | ((with_reducible refine gate_callee (f := 69) rfl ?_); refine gl (some 8) Try.func69 #[.pointer (some ⟨g, 0, none⟩), .int .i64 3] ?_; (with_reducible refine (spec_l01Below.calls g s0_0 t151 t152 3 t153 t154 t155 w0 _ ?side1 ?side2 A3.out).mono ?_); (case side1 => exact IsS134.T_ HI0 (nC NB0_146 nN)); (case side2 => exact lT HB (gC GE146 gN)); rintro e w62 ⟨rfl, hi, hb, hk⟩; refine ⟨_, rfl, ?_⟩; replace BK146 := ak (KeepBut.blk hk (g' := gb146) (o := .cells #[.int .i64 0, .int .i64 0, .int .i64 0, .int .i64 0, .int .i64 0, .string (⟨#[]⟩ : ByteArray), .string (⟨#[]⟩ : ByteArray), .string (⟨#[]⟩ : ByteArray)] 23 (0, 0)) (bG BK146) NB146_0.out (by simp)); replace HO149 := ak (Kd.R_mono (Kd.R_keep (IsS134.apart (show IsS134 w0 _ g s0_0 t151 t152 from IsS134.T_ HI0 (nC NB0_146 nN)) (rG HO149) (by decide)) hk (fun _ h => h.2)) (fun _ h => h.1)); replace HK := ak (KeepBut.trans (kT HK (gC GW146 gN)) hk (.inl rfl)); replace HB := ak (hb); replace HI0 := ak (hi); (try clear hb); (try clear hk); (try clear hi)) | ((with_reducible refine gate_dst (N := 3) rfl ?_); refine bx 3 #[.int .i64 0, .int .i64 0, .int .i64 0, .int .i64 0, .int .i64 0, .string (⟨#[]⟩ : ByteArray), .string (⟨#[]⟩ : ByteArray), .string (⟨#[]⟩ : ByteArray)] 23 ?_; intro gb156 hg w63 hbox hb; replace HO149 := rB HO149 hb; replace HB := ak (below_step (lT HB (gC GE146 gN)) hb); replace BK156 := ak (hbox); replace GW156 := ak ((by rw [hg]; exact (keep_size (w := w) (g := g) (row := none) (kT HK (gC GW146 gN))) : w.heap.size ≤ gb156)); replace GE156 := ak ((Nat.le_trans HW0.out (by rw [hg]; exact (keep_size (w := w) (g := g) (row := none) (kT HK (gC GW146 gN))) : w.heap.size ≤ gb156) : w0.heap.size ≤ gb156)); replace HK := ak (KeepBut.trans (kT HK (gC GW146 gN)) (KeepBut.of_below hb g none) (.inl rfl)); replace NB146_156 := ak (nl hg (bG BK146)); replace NB156_146 := ak (ng hg (bG BK146)); replace BK146 := bB BK146 hb; replace NB0_156 := ak ((by rw [hg]; exact Nat.ne_of_lt (IsS134.lt (show IsS134 w0 _ g s0_0 t154 t155 from IsS134.T_ HI0 (nC NB0_146 nN))) : g ≠ gb156)); replace NB156_0 := ak ((by rw [hg]; exact Nat.ne_of_gt (IsS134.lt (show IsS134 w0 _ g s0_0 t154 t155 from IsS134.T_ HI0 (nC NB0_146 nN))) : gb156 ≠ g)); replace HI0 := ak (IsS134.below (IsS134.T_ HI0 (nC NB0_146 nN)) hb); clear hb hbox hg; have hnb64 := NB156_146.out; have hnc64 := NB146_156.out; have hnb65 := NB156_0.out; have hnc65 := NB0_156.out; obtain ⟨_, _, _, _, _, _, _, _, _, _, _, _, _, _, _, _⟩ := bC8 BK156) | ((with_reducible refine gate_callee (f := 69) rfl ?_); refine gl (some 42) Try.func69 #[.pointer (some ⟨g, 0, none⟩), .int .i64 5] ?_; (with_reducible refine (spec_l01Below.calls g s0_0 t154 t155 5 t181 t182 t183 w0 _ ?side1 ?side2 A55.out).mono ?_); (case side1 => exact IsS134.T_ HI0 (nC NB0_146 (nC NB0_156 nN))); (case side2 => exact lT HB (gC GE146 (gC GE156 gN))); rintro e w67 ⟨rfl, hi, hb, hk⟩; refine ⟨_, rfl, ?_⟩; replace BK146 := ak (KeepBut.blk hk (g' := gb146) (o := .cells #[.int .i64 0, .int .i64 0, .int .i64 0, .int .i64 0, .int .i64 0, .string (⟨#[]⟩ : ByteArray), .string (⟨#[]⟩ : ByteArray), .string (⟨#[]⟩ : ByteArray)] 23 (0, 0)) (bT BK146 (nC NB146_156 nN)) NB146_0.out (by simp)); replace HO149 := ak (Kd.R_mono (Kd.R_keep (IsS134.apart (show IsS134 w0 _ g s0_0 t154 t155 from IsS134.T_ HI0 (nC NB0_146 (nC NB0_156 nN))) (rT HO149 BK156 (by decide)) (by decide)) hk (fun _ h => h.2)) (fun _ h => h.1)); replace BK156 := ak (KeepBut.blk hk (g' := gb156) (o := .cells #[.int .i64 t150, .int .i64 (wrap64 (1 + t153)), .int .i64 0, .int .i64 0, .int .i64 0, .string (⟨#[]⟩ : ByteArray), .string (⟨#[]⟩ : ByteArray), .string (⟨#[]⟩ : ByteArray)] 23 (0, 0)) (bW BK156) NB156_0.out (by simp)); replace HK := ak (KeepBut.trans (kT HK (gC GW146 (gC GW156 gN))) hk (.inl rfl)); replace HB := ak (hb); replace HI0 := ak (hi); (try clear hb); (try clear hk); (try clear hi); obtain ⟨_, _, _, _, _, _, _, _, _, _, _, _, _, _, _, _⟩ := bC8 BK156) | ((with_reducible refine gate_callee (f := 69) rfl ?_); refine gl (some 46) Try.func69 #[.pointer (some ⟨g, 0, none⟩), .int .i64 8] ?_; (with_reducible refine (spec_l01Below.calls g s0_0 t182 t183 8 t184 t185 t186 w0 _ ?side1 ?side2 A56.out).mono ?_); (case side1 => exact IsS134.T_ HI0 (nC NB0_146 (nC NB0_156 nN))); (case side2 => exact lT HB (gC GE146 (gC GE156 gN))); rintro e w69 ⟨rfl, hi, hb, hk⟩; refine ⟨_, rfl, ?_⟩; replace BK146 := ak (KeepBut.blk hk (g' := gb146) (o := .cells #[.int .i64 0, .int .i64 0, .int .i64 0, .int .i64 0, .int .i64 0, .string (⟨#[]⟩ : ByteArray), .string (⟨#[]⟩ : ByteArray), .string (⟨#[]⟩ : ByteArray)] 23 (0, 0)) (bT BK146 (nC NB146_156 nN)) NB146_0.out (by simp)); replace HO149 := ak (Kd.R_mono (Kd.R_keep (IsS134.apart (show IsS134 w0 _ g s0_0 t182 t183 from IsS134.T_ HI0 (nC NB0_146 (nC NB0_156 nN))) (rT HO149 BK156 (by decide)) (by decide)) hk (fun _ h => h.2)) (fun _ h => h.1)); replace BK156 := ak (KeepBut.blk hk (g' := gb156) (o := .cells #[.int .i64 t150, .int .i64 (wrap64 (1 + t153)), .int .i64 (wrap64 (1 + t181)), .int .i64 0, .int .i64 0, .string (⟨#[]⟩ : ByteArray), .string (⟨#[]⟩ : ByteArray), .string (⟨#[]⟩ : ByteArray)] 23 (0, 0)) (bW BK156) NB156_0.out (by simp)); replace HK := ak (KeepBut.trans (kT HK (gC GW146 (gC GW156 gN))) hk (.inl rfl)); replace HB := ak (hb); replace HI0 := ak (hi); (try clear hb); (try clear hk); (try clear hi); obtain ⟨_, _, _, _, _, _, _, _, _, _, _, _, _, _, _, _⟩ := bC8 BK156; have hnb71 := NB146_0.out; have hnc71 := NB0_146.out; obtain ⟨_, _, _, _, _, _, _, _, _, _, _, _, _, _, _, _⟩ := bC8 BK146))
    refine bodyPost_ret (results_cell_row rfl _ _ gb146 23 #[.int .i64 t150, .int .i64 (wrap64 (1 + t153)), .int .i64 (wrap64 (1 + t181)), .int .i64 0, .int .i64 t184, .string (⟨#[]⟩ : ByteArray), .string (⟨#[]⟩ : ByteArray), .string (⟨#[]⟩ : ByteArray)] (0, 0) _ rfl (bF BK146 (nC NB146_156 nN)) Try.underlying23 rfl (by kernel_rfl)) rfl ?_
    exact ⟨ew, IsS134.T_ HI0 (nC NB0_146 (nC NB0_156 nN)), lT HB (gC GE146 (gC GE156 gN)), kT HK (gC GW146 (gC GW156 gN))⟩
   ·rw [if_neg c54] at H
    have c54b0 : (t150 == 4) = false := beq_eq_false_iff_ne.mpr c54
    have c54b1 : (t150 != 4) = true := bne_iff_ne.mpr c54
    by_cases c73 : t150 = 5
    ·rw [if_pos c73] at H
     have c73b0 : (t150 == 5) = true := beq_iff_eq.mpr c73
     have c73b1 : (t150 != 5) = false := bne_eq_false_iff_eq.mpr c73
     clear c73
     obtain ⟨⟨t187, t188, t189⟩, A74, H⟩ := eb H
     try dsimp only at H
     simp only [Option.some.injEq, Prod.mk.injEq] at H
     obtain ⟨rfl, rfl, rfl, rfl, rfl, rfl, rfl, rfl, rfl, rfl⟩ := H
     go_enter Try.func99, Try.ntmps99
     go_wp2_with (first | ((with_reducible refine gate_dst (N := 2) rfl ?_); refine bx 2 #[.int .i64 0, .int .i64 0, .int .i64 0, .int .i64 0, .int .i64 0, .string (⟨#[]⟩ : ByteArray), .string (⟨#[]⟩ : ByteArray), .string (⟨#[]⟩ : ByteArray)] 23 ?_; intro gb146 hg w75 hbox hb; replace HB := ak (below_step (lT HB gN) hb); replace BK146 := ak (hbox); replace GW146 := ak ((by rw [hg]; exact (keep_size (w := w) (g := g) (row := none) (kT HK gN)) : w.heap.size ≤ gb146)); replace GE146 := ak ((Nat.le_trans HW0.out (by rw [hg]; exact (keep_size (w := w) (g := g) (row := none) (kT HK gN)) : w.heap.size ≤ gb146) : w0.heap.size ≤ gb146)); replace HK := ak (KeepBut.trans (kT HK gN) (KeepBut.of_below hb g none) (.inl rfl)); replace NB0_146 := ak ((by rw [hg]; exact Nat.ne_of_lt (IsS134.lt (show IsS134 w0 _ g s0_0 s0_1 s0_2 from IsS134.T_ HI0 nN)) : g ≠ gb146)); replace NB146_0 := ak ((by rw [hg]; exact Nat.ne_of_gt (IsS134.lt (show IsS134 w0 _ g s0_0 s0_1 s0_2 from IsS134.T_ HI0 nN)) : gb146 ≠ g)); replace HI0 := ak (IsS134.below (IsS134.T_ HI0 nN) hb); clear hb hbox hg) | ((with_reducible refine gate_dst (N := 5) rfl ?_); refine Kd.R_lit (Kd.int .i64) _ 3 ?hg (N := 5) ?hd (xs := ([1, 1, 2, 3, 3, 3, 3, 4, 4, 5, 5] : List Int)) (inner := [.int .i64 1, .int .i64 1, .int .i64 2, .int .i64 3, .int .i64 3, .int .i64 3, .int .i64 3, .int .i64 4, .int .i64 4, .int .i64 5, .int .i64 5]) (ok := fun _ => True) (okp := fun _ => True) ?hr ?hp (fun _ hk => hk) trivial (Below.refl _ _) (Nat.le_refl _) (by simp) ?_; (case hd => rfl); (case hg => rfl); (case hr => first | (go_simp; done) | (go_simp; rfl)); (case hp => exact (Reps.one (show Kd.M (Kd.int .i64) _ _ _ 1 [.int .i64 1] from rfl) (Reps.one (show Kd.M (Kd.int .i64) _ _ _ 1 [.int .i64 1] from rfl) (Reps.one (show Kd.M (Kd.int .i64) _ _ _ 2 [.int .i64 2] from rfl) (Reps.one (show Kd.M (Kd.int .i64) _ _ _ 3 [.int .i64 3] from rfl) (Reps.one (show Kd.M (Kd.int .i64) _ _ _ 3 [.int .i64 3] from rfl) (Reps.one (show Kd.M (Kd.int .i64) _ _ _ 3 [.int .i64 3] from rfl) (Reps.one (show Kd.M (Kd.int .i64) _ _ _ 3 [.int .i64 3] from rfl) (Reps.one (show Kd.M (Kd.int .i64) _ _ _ 4 [.int .i64 4] from rfl) (Reps.one (show Kd.M (Kd.int .i64) _ _ _ 4 [.int .i64 4] from rfl) (Reps.one (show Kd.M (Kd.int .i64) _ _ _ 5 [.int .i64 5] from rfl) (Reps.one (show Kd.M (Kd.int .i64) _ _ _ 5 [.int .i64 5] from rfl) (Reps.none _ _))))))))))))); intro v148 w76 ho77 hb hg_ hnew_; clear hg_ hnew_; (first | rw [← Ny147.out] at ho77 | (simp only [Int.reduceToNat] at ho77; rw [← Ny147.out] at ho77)); replace HO149 := ak (Kd.R_lower ho77 (keep_size (w := w) (g := g) (row := none) (kT HK (gC GW146 gN)))); replace BK146 := bB BK146 hb; replace HK := ak (KeepBut.trans (kT HK (gC GW146 gN)) (KeepBut.of_below hb g none) (.inl rfl)); replace HB := ak (below_step (lT HB (gC GE146 gN)) hb); replace HI0 := ak (IsS134.below (IsS134.T_ HI0 (nC NB0_146 nN)) hb); clear hb ho77; obtain ⟨Ao78, co78, eo78⟩ := Kd.R_slice HO149.out; subst eo78) | ((with_reducible refine gate_callee (f := 116) rfl ?_); refine gl (some 6) Try.func116 #[.pointer (some ⟨g, 0, none⟩), .slice Ao78 y147.length co78] ?_; (with_reducible refine (spec_l01PickInt.calls g s0_0 s0_1 s0_2 _ _ y147 t150 t151 t152 w0 _ ?side1 ?side2 ?side3 ?side4 ?side5 A2.out).mono ?_); (case side1 => exact IsS134.T_ HI0 (nC NB0_146 nN)); (case side2 => exact lT HB (gC GE146 gN)); (case side3 => exact cG (Kd.R_reads' HO149.out).2.2); (case side4 => exact (Kd.R_reads' HO149.out).2.1); (case side5 => exact far_slice (IsS134.own_ne HI0.out HO149.out (by decide))); rintro e w79 ⟨rfl, hi, hb, hk⟩; refine ⟨_, rfl, ?_⟩; replace BK146 := ak (KeepBut.blk hk (g' := gb146) (o := .cells #[.int .i64 0, .int .i64 0, .int .i64 0, .int .i64 0, .int .i64 0, .string (⟨#[]⟩ : ByteArray), .string (⟨#[]⟩ : ByteArray), .string (⟨#[]⟩ : ByteArray)] 23 (0, 0)) (bG BK146) NB146_0.out (by simp)); replace HO149 := ak (Kd.R_mono (Kd.R_keep (IsS134.apart (show IsS134 w0 _ g s0_0 s0_1 s0_2 from IsS134.T_ HI0 (nC NB0_146 nN)) (rG HO149) (by decide)) hk (fun _ h => h.2)) (fun _ h => h.1)); replace HK := ak (KeepBut.trans (kT HK (gC GW146 gN)) hk (.inl rfl)); replace HB := ak (hb); replace HI0 := ak (hi); (try clear hb); (try clear hk); (try clear hi)) | ((with_reducible refine gate_callee (f := 69) rfl ?_); refine gl (some 8) Try.func69 #[.pointer (some ⟨g, 0, none⟩), .int .i64 3] ?_; (with_reducible refine (spec_l01Below.calls g s0_0 t151 t152 3 t153 t154 t155 w0 _ ?side1 ?side2 A3.out).mono ?_); (case side1 => exact IsS134.T_ HI0 (nC NB0_146 nN)); (case side2 => exact lT HB (gC GE146 gN)); rintro e w80 ⟨rfl, hi, hb, hk⟩; refine ⟨_, rfl, ?_⟩; replace BK146 := ak (KeepBut.blk hk (g' := gb146) (o := .cells #[.int .i64 0, .int .i64 0, .int .i64 0, .int .i64 0, .int .i64 0, .string (⟨#[]⟩ : ByteArray), .string (⟨#[]⟩ : ByteArray), .string (⟨#[]⟩ : ByteArray)] 23 (0, 0)) (bG BK146) NB146_0.out (by simp)); replace HO149 := ak (Kd.R_mono (Kd.R_keep (IsS134.apart (show IsS134 w0 _ g s0_0 t151 t152 from IsS134.T_ HI0 (nC NB0_146 nN)) (rG HO149) (by decide)) hk (fun _ h => h.2)) (fun _ h => h.1)); replace HK := ak (KeepBut.trans (kT HK (gC GW146 gN)) hk (.inl rfl)); replace HB := ak (hb); replace HI0 := ak (hi); (try clear hb); (try clear hk); (try clear hi)) | ((with_reducible refine gate_dst (N := 3) rfl ?_); refine bx 3 #[.int .i64 0, .int .i64 0, .int .i64 0, .int .i64 0, .int .i64 0, .string (⟨#[]⟩ : ByteArray), .string (⟨#[]⟩ : ByteArray), .string (⟨#[]⟩ : ByteArray)] 23 ?_; intro gb156 hg w81 hbox hb; replace HO149 := rB HO149 hb; replace HB := ak (below_step (lT HB (gC GE146 gN)) hb); replace BK156 := ak (hbox); replace GW156 := ak ((by rw [hg]; exact (keep_size (w := w) (g := g) (row := none) (kT HK (gC GW146 gN))) : w.heap.size ≤ gb156)); replace GE156 := ak ((Nat.le_trans HW0.out (by rw [hg]; exact (keep_size (w := w) (g := g) (row := none) (kT HK (gC GW146 gN))) : w.heap.size ≤ gb156) : w0.heap.size ≤ gb156)); replace HK := ak (KeepBut.trans (kT HK (gC GW146 gN)) (KeepBut.of_below hb g none) (.inl rfl)); replace NB146_156 := ak (nl hg (bG BK146)); replace NB156_146 := ak (ng hg (bG BK146)); replace BK146 := bB BK146 hb; replace NB0_156 := ak ((by rw [hg]; exact Nat.ne_of_lt (IsS134.lt (show IsS134 w0 _ g s0_0 t154 t155 from IsS134.T_ HI0 (nC NB0_146 nN))) : g ≠ gb156)); replace NB156_0 := ak ((by rw [hg]; exact Nat.ne_of_gt (IsS134.lt (show IsS134 w0 _ g s0_0 t154 t155 from IsS134.T_ HI0 (nC NB0_146 nN))) : gb156 ≠ g)); replace HI0 := ak (IsS134.below (IsS134.T_ HI0 (nC NB0_146 nN)) hb); clear hb hbox hg; have hnb82 := NB156_146.out; have hnc82 := NB146_156.out; have hnb83 := NB156_0.out; have hnc83 := NB0_156.out; obtain ⟨_, _, _, _, _, _, _, _, _, _, _, _, _, _, _, _⟩ := bC8 BK156) | ((with_reducible refine gate_callee (f := 69) rfl ?_); refine gl (some 51) Try.func69 #[.pointer (some ⟨g, 0, none⟩), .int .i64 5] ?_; (with_reducible refine (spec_l01Below.calls g s0_0 t154 t155 5 t187 t188 t189 w0 _ ?side1 ?side2 A74.out).mono ?_); (case side1 => exact IsS134.T_ HI0 (nC NB0_146 (nC NB0_156 nN))); (case side2 => exact lT HB (gC GE146 (gC GE156 gN))); rintro e w85 ⟨rfl, hi, hb, hk⟩; refine ⟨_, rfl, ?_⟩; replace BK146 := ak (KeepBut.blk hk (g' := gb146) (o := .cells #[.int .i64 0, .int .i64 0, .int .i64 0, .int .i64 0, .int .i64 0, .string (⟨#[]⟩ : ByteArray), .string (⟨#[]⟩ : ByteArray), .string (⟨#[]⟩ : ByteArray)] 23 (0, 0)) (bT BK146 (nC NB146_156 nN)) NB146_0.out (by simp)); replace HO149 := ak (Kd.R_mono (Kd.R_keep (IsS134.apart (show IsS134 w0 _ g s0_0 t154 t155 from IsS134.T_ HI0 (nC NB0_146 (nC NB0_156 nN))) (rT HO149 BK156 (by decide)) (by decide)) hk (fun _ h => h.2)) (fun _ h => h.1)); replace BK156 := ak (KeepBut.blk hk (g' := gb156) (o := .cells #[.int .i64 t150, .int .i64 (wrap64 (1 + t153)), .int .i64 0, .int .i64 0, .int .i64 0, .string (⟨#[]⟩ : ByteArray), .string (⟨#[]⟩ : ByteArray), .string (⟨#[]⟩ : ByteArray)] 23 (0, 0)) (bW BK156) NB156_0.out (by simp)); replace HK := ak (KeepBut.trans (kT HK (gC GW146 (gC GW156 gN))) hk (.inl rfl)); replace HB := ak (hb); replace HI0 := ak (hi); (try clear hb); (try clear hk); (try clear hi); obtain ⟨_, _, _, _, _, _, _, _, _, _, _, _, _, _, _, _⟩ := bC8 BK156; have hnb87 := NB146_0.out; have hnc87 := NB0_146.out; obtain ⟨_, _, _, _, _, _, _, _, _, _, _, _, _, _, _, _⟩ := bC8 BK146))
     refine bodyPost_ret (results_cell_row rfl _ _ gb146 23 #[.int .i64 t150, .int .i64 (wrap64 (1 + t153)), .int .i64 (wrap64 (1 + t187)), .int .i64 0, .int .i64 0, .string (⟨#[]⟩ : ByteArray), .string (⟨#[]⟩ : ByteArray), .string (⟨#[]⟩ : ByteArray)] (0, 0) _ rfl (bF BK146 (nC NB146_156 nN)) Try.underlying23 rfl (by kernel_rfl)) rfl ?_
     exact ⟨ew, IsS134.T_ HI0 (nC NB0_146 (nC NB0_156 nN)), lT HB (gC GE146 (gC GE156 gN)), kT HK (gC GW146 (gC GW156 gN))⟩
    ·rw [if_neg c73] at H
     have c73b0 : (t150 == 5) = false := beq_eq_false_iff_ne.mpr c73
     have c73b1 : (t150 != 5) = true := bne_iff_ne.mpr c73
     simp only [Option.some.injEq, Prod.mk.injEq] at H
     obtain ⟨rfl, rfl, rfl, rfl, rfl, rfl, rfl, rfl, rfl, rfl⟩ := H
     go_enter Try.func99, Try.ntmps99
     go_wp2_with (first | ((with_reducible refine gate_dst (N := 2) rfl ?_); refine bx 2 #[.int .i64 0, .int .i64 0, .int .i64 0, .int .i64 0, .int .i64 0, .string (⟨#[]⟩ : ByteArray), .string (⟨#[]⟩ : ByteArray), .string (⟨#[]⟩ : ByteArray)] 23 ?_; intro gb146 hg w89 hbox hb; replace HB := ak (below_step (lT HB gN) hb); replace BK146 := ak (hbox); replace GW146 := ak ((by rw [hg]; exact (keep_size (w := w) (g := g) (row := none) (kT HK gN)) : w.heap.size ≤ gb146)); replace GE146 := ak ((Nat.le_trans HW0.out (by rw [hg]; exact (keep_size (w := w) (g := g) (row := none) (kT HK gN)) : w.heap.size ≤ gb146) : w0.heap.size ≤ gb146)); replace HK := ak (KeepBut.trans (kT HK gN) (KeepBut.of_below hb g none) (.inl rfl)); replace NB0_146 := ak ((by rw [hg]; exact Nat.ne_of_lt (IsS134.lt (show IsS134 w0 _ g s0_0 s0_1 s0_2 from IsS134.T_ HI0 nN)) : g ≠ gb146)); replace NB146_0 := ak ((by rw [hg]; exact Nat.ne_of_gt (IsS134.lt (show IsS134 w0 _ g s0_0 s0_1 s0_2 from IsS134.T_ HI0 nN)) : gb146 ≠ g)); replace HI0 := ak (IsS134.below (IsS134.T_ HI0 nN) hb); clear hb hbox hg) | ((with_reducible refine gate_dst (N := 5) rfl ?_); refine Kd.R_lit (Kd.int .i64) _ 3 ?hg (N := 5) ?hd (xs := ([1, 1, 2, 3, 3, 3, 3, 4, 4, 5, 5] : List Int)) (inner := [.int .i64 1, .int .i64 1, .int .i64 2, .int .i64 3, .int .i64 3, .int .i64 3, .int .i64 3, .int .i64 4, .int .i64 4, .int .i64 5, .int .i64 5]) (ok := fun _ => True) (okp := fun _ => True) ?hr ?hp (fun _ hk => hk) trivial (Below.refl _ _) (Nat.le_refl _) (by simp) ?_; (case hd => rfl); (case hg => rfl); (case hr => first | (go_simp; done) | (go_simp; rfl)); (case hp => exact (Reps.one (show Kd.M (Kd.int .i64) _ _ _ 1 [.int .i64 1] from rfl) (Reps.one (show Kd.M (Kd.int .i64) _ _ _ 1 [.int .i64 1] from rfl) (Reps.one (show Kd.M (Kd.int .i64) _ _ _ 2 [.int .i64 2] from rfl) (Reps.one (show Kd.M (Kd.int .i64) _ _ _ 3 [.int .i64 3] from rfl) (Reps.one (show Kd.M (Kd.int .i64) _ _ _ 3 [.int .i64 3] from rfl) (Reps.one (show Kd.M (Kd.int .i64) _ _ _ 3 [.int .i64 3] from rfl) (Reps.one (show Kd.M (Kd.int .i64) _ _ _ 3 [.int .i64 3] from rfl) (Reps.one (show Kd.M (Kd.int .i64) _ _ _ 4 [.int .i64 4] from rfl) (Reps.one (show Kd.M (Kd.int .i64) _ _ _ 4 [.int .i64 4] from rfl) (Reps.one (show Kd.M (Kd.int .i64) _ _ _ 5 [.int .i64 5] from rfl) (Reps.one (show Kd.M (Kd.int .i64) _ _ _ 5 [.int .i64 5] from rfl) (Reps.none _ _))))))))))))); intro v148 w90 ho91 hb hg_ hnew_; clear hg_ hnew_; (first | rw [← Ny147.out] at ho91 | (simp only [Int.reduceToNat] at ho91; rw [← Ny147.out] at ho91)); replace HO149 := ak (Kd.R_lower ho91 (keep_size (w := w) (g := g) (row := none) (kT HK (gC GW146 gN)))); replace BK146 := bB BK146 hb; replace HK := ak (KeepBut.trans (kT HK (gC GW146 gN)) (KeepBut.of_below hb g none) (.inl rfl)); replace HB := ak (below_step (lT HB (gC GE146 gN)) hb); replace HI0 := ak (IsS134.below (IsS134.T_ HI0 (nC NB0_146 nN)) hb); clear hb ho91; obtain ⟨Ao92, co92, eo92⟩ := Kd.R_slice HO149.out; subst eo92) | ((with_reducible refine gate_callee (f := 116) rfl ?_); refine gl (some 6) Try.func116 #[.pointer (some ⟨g, 0, none⟩), .slice Ao92 y147.length co92] ?_; (with_reducible refine (spec_l01PickInt.calls g s0_0 s0_1 s0_2 _ _ y147 t150 t151 t152 w0 _ ?side1 ?side2 ?side3 ?side4 ?side5 A2.out).mono ?_); (case side1 => exact IsS134.T_ HI0 (nC NB0_146 nN)); (case side2 => exact lT HB (gC GE146 gN)); (case side3 => exact cG (Kd.R_reads' HO149.out).2.2); (case side4 => exact (Kd.R_reads' HO149.out).2.1); (case side5 => exact far_slice (IsS134.own_ne HI0.out HO149.out (by decide))); rintro e w93 ⟨rfl, hi, hb, hk⟩; refine ⟨_, rfl, ?_⟩; replace BK146 := ak (KeepBut.blk hk (g' := gb146) (o := .cells #[.int .i64 0, .int .i64 0, .int .i64 0, .int .i64 0, .int .i64 0, .string (⟨#[]⟩ : ByteArray), .string (⟨#[]⟩ : ByteArray), .string (⟨#[]⟩ : ByteArray)] 23 (0, 0)) (bG BK146) NB146_0.out (by simp)); replace HO149 := ak (Kd.R_mono (Kd.R_keep (IsS134.apart (show IsS134 w0 _ g s0_0 s0_1 s0_2 from IsS134.T_ HI0 (nC NB0_146 nN)) (rG HO149) (by decide)) hk (fun _ h => h.2)) (fun _ h => h.1)); replace HK := ak (KeepBut.trans (kT HK (gC GW146 gN)) hk (.inl rfl)); replace HB := ak (hb); replace HI0 := ak (hi); (try clear hb); (try clear hk); (try clear hi)) | ((with_reducible refine gate_callee (f := 69) rfl ?_); refine gl (some 8) Try.func69 #[.pointer (some ⟨g, 0, none⟩), .int .i64 3] ?_; (with_reducible refine (spec_l01Below.calls g s0_0 t151 t152 3 t153 t154 t155 w0 _ ?side1 ?side2 A3.out).mono ?_); (case side1 => exact IsS134.T_ HI0 (nC NB0_146 nN)); (case side2 => exact lT HB (gC GE146 gN)); rintro e w94 ⟨rfl, hi, hb, hk⟩; refine ⟨_, rfl, ?_⟩; replace BK146 := ak (KeepBut.blk hk (g' := gb146) (o := .cells #[.int .i64 0, .int .i64 0, .int .i64 0, .int .i64 0, .int .i64 0, .string (⟨#[]⟩ : ByteArray), .string (⟨#[]⟩ : ByteArray), .string (⟨#[]⟩ : ByteArray)] 23 (0, 0)) (bG BK146) NB146_0.out (by simp)); replace HO149 := ak (Kd.R_mono (Kd.R_keep (IsS134.apart (show IsS134 w0 _ g s0_0 t151 t152 from IsS134.T_ HI0 (nC NB0_146 nN)) (rG HO149) (by decide)) hk (fun _ h => h.2)) (fun _ h => h.1)); replace HK := ak (KeepBut.trans (kT HK (gC GW146 gN)) hk (.inl rfl)); replace HB := ak (hb); replace HI0 := ak (hi); (try clear hb); (try clear hk); (try clear hi)) | ((with_reducible refine gate_dst (N := 3) rfl ?_); refine bx 3 #[.int .i64 0, .int .i64 0, .int .i64 0, .int .i64 0, .int .i64 0, .string (⟨#[]⟩ : ByteArray), .string (⟨#[]⟩ : ByteArray), .string (⟨#[]⟩ : ByteArray)] 23 ?_; intro gb156 hg w95 hbox hb; replace HO149 := rB HO149 hb; replace HB := ak (below_step (lT HB (gC GE146 gN)) hb); replace BK156 := ak (hbox); replace GW156 := ak ((by rw [hg]; exact (keep_size (w := w) (g := g) (row := none) (kT HK (gC GW146 gN))) : w.heap.size ≤ gb156)); replace GE156 := ak ((Nat.le_trans HW0.out (by rw [hg]; exact (keep_size (w := w) (g := g) (row := none) (kT HK (gC GW146 gN))) : w.heap.size ≤ gb156) : w0.heap.size ≤ gb156)); replace HK := ak (KeepBut.trans (kT HK (gC GW146 gN)) (KeepBut.of_below hb g none) (.inl rfl)); replace NB146_156 := ak (nl hg (bG BK146)); replace NB156_146 := ak (ng hg (bG BK146)); replace BK146 := bB BK146 hb; replace NB0_156 := ak ((by rw [hg]; exact Nat.ne_of_lt (IsS134.lt (show IsS134 w0 _ g s0_0 t154 t155 from IsS134.T_ HI0 (nC NB0_146 nN))) : g ≠ gb156)); replace NB156_0 := ak ((by rw [hg]; exact Nat.ne_of_gt (IsS134.lt (show IsS134 w0 _ g s0_0 t154 t155 from IsS134.T_ HI0 (nC NB0_146 nN))) : gb156 ≠ g)); replace HI0 := ak (IsS134.below (IsS134.T_ HI0 (nC NB0_146 nN)) hb); clear hb hbox hg; have hnb96 := NB156_146.out; have hnc96 := NB146_156.out; have hnb97 := NB156_0.out; have hnc97 := NB0_156.out; obtain ⟨_, _, _, _, _, _, _, _, _, _, _, _, _, _, _, _⟩ := bC8 BK156; have hnb99 := NB146_0.out; have hnc99 := NB0_146.out; obtain ⟨_, _, _, _, _, _, _, _, _, _, _, _, _, _, _, _⟩ := bC8 BK146))
     refine bodyPost_ret (results_cell_row rfl _ _ gb146 23 #[.int .i64 t150, .int .i64 (wrap64 (1 + t153)), .int .i64 0, .int .i64 0, .int .i64 0, .string (⟨#[]⟩ : ByteArray), .string (⟨#[]⟩ : ByteArray), .string (⟨#[]⟩ : ByteArray)] (0, 0) _ rfl (bF BK146 (nC NB146_156 nN)) Try.underlying23 rfl (by kernel_rfl)) rfl ?_
     exact ⟨ew, IsS134.T_ HI0 (nC NB0_146 (nC NB0_156 nN)), lT HB (gC GE146 (gC GE156 gN)), kT HK (gC GW146 (gC GW156 gN))⟩
/-! ### spec_l07Items: function 72 -/
def spec_l07Items.l0 : Nat → List (S32) → Int → List Int → Int → Int → Option ((List (S32)) × Int × Int)
 | 0, _, _, _, _, _ => none
 | k + 1, x3, x4, x1000, x1001, x1002 => (spec_l01Below.f x1000 x1001 x1002 22).bind fun bt193 => (if x4 < bt193.1 then ((spec_l06Rec.f x1000 bt193.2.1 bt193.2.2).bind fun bt196 => (if x3.length < 1466015503701 then (spec_l07Items.l0 k (x3 ++ [(⟨wrap64 (2 + x4), (⟨bt196.1, bt196.2.1, bt196.2.2.1, bt196.2.2.2.1, bt196.2.2.2.2.1, bt196.2.2.2.2.2.1, bt196.2.2.2.2.2.2.1, bt196.2.2.2.2.2.2.2.1⟩ : S23)⟩ : S32)]) (wrap64 (x4 + 1)) x1000 bt196.2.2.2.2.2.2.2.2.1 bt196.2.2.2.2.2.2.2.2.2) else (none))) else (if (x3.length : Int) > 1 then ((spec_l01Once.f x1000 bt193.2.1 bt193.2.2 3).bind fun bt209 => (if bt209.1 = true then ((spec_l01Below.f x1000 bt209.2.1 bt209.2.2 (x3.length : Int)).bind fun bt212 => (if 0 ≤ bt212.1 then (if bt212.1 < (x3.length : Int) then (if x3.length < 1466015503701 then (some ((x3 ++ [(⟨(rd_T32 x3 bt212.1).f0, (⟨(rd_T32 x3 bt212.1).f1.f0, (rd_T32 x3 bt212.1).f1.f1, (rd_T32 x3 bt212.1).f1.f2, (rd_T32 x3 bt212.1).f1.f3, (rd_T32 x3 bt212.1).f1.f4, (rd_T32 x3 bt212.1).f1.f5, (rd_T32 x3 bt212.1).f1.f6, (rd_T32 x3 bt212.1).f1.f7⟩ : S23)⟩ : S32)]), bt212.2.1, bt212.2.2)) else (none)) else (none)) else (none))) else (some (x3, bt209.2.1, bt209.2.2)))) else (some (x3, bt193.2.1, bt193.2.2))))
def spec_l07Items.f (k : Nat) (s0_0 : List Int) (s0_1 : Int) (s0_2 : Int) : Option ((List (S32)) × Int × Int) := spec_l07Items.l0 k (([] : List (S32))) 0 s0_0 s0_1 s0_2
theorem spec_l07Items.mono_l : ∀ k, (∀ y0 y1 y2 y3 y4, LeO (spec_l07Items.l0 k y0 y1 y2 y3 y4) (spec_l07Items.l0 (k + 1) y0 y1 y2 y3 y4))
 | 0 => fun _ _ _ _ _ r h => by simp [spec_l07Items.l0] at h
 | k + 1 => by
  have ih0 := spec_l07Items.mono_l k
  ·intro y0 y1 y2 y3 y4
   unfold spec_l07Items.l0
   repeat' first
   | (with_reducible exact ih0 _ _ _ _ _)
   | (with_reducible exact LeO.refl _)
   | (with_reducible exact LeO.none _)
   | (with_reducible refine LeO.ite ?_ ?_)
   | (with_reducible refine LeO.bind ?_ (fun _ => ?_))
   | exact ih0 _ _ _ _ _
   | exact LeO.none _
   | refine LeO.ite ?_ ?_
   | refine LeO.bind ?_ (fun _ => ?_)
theorem spec_l07Items.mono : ∀ a0 a1 a2 k, LeO (spec_l07Items.f k a0 a1 a2) (spec_l07Items.f (k + 1) a0 a1 a2) := by
 intro a0 a1 a2 k
 have ih0 := spec_l07Items.mono_l k
 unfold spec_l07Items.f
 repeat' first
   | (with_reducible exact ih0 _ _ _ _ _)
   | (with_reducible exact LeO.refl _)
   | (with_reducible exact LeO.none _)
   | (with_reducible refine LeO.ite ?_ ?_)
   | (with_reducible refine LeO.bind ?_ (fun _ => ?_))
   | exact ih0 _ _ _ _ _
   | exact LeO.none _
   | refine LeO.ite ?_ ?_
   | refine LeO.bind ?_ (fun _ => ?_)
theorem spec_l07Items.calls (k : Nat) (g : Nat) (s0_0 : List Int) (s0_1 : Int) (s0_2 : Int) (r1 : List (S32)) (r2 : Int) (r3 : Int) (w0 w : World) (hI : IsS134 w0 w g s0_0 s0_1 s0_2) (hB : Below w0.heap.size w0 w) (h : spec_l07Items.f k s0_0 s0_1 s0_2 = some (r1, r2, r3)) :
  Calls Try.prog 72 #[.pointer (some ⟨g, 0, none⟩)] w fun e w' => ∃ v0_ : Value, e = .returned (v0_) ∧ Kd.R k32 32 w' w.heap.size (fun _ => True) v0_ r1 ∧ IsS134 w0 w' g s0_0 r2 r3 ∧ Below w0.heap.size w0 w' ∧ KeepBut w w' g none := by
 have hu32 := Try.underlying32
 have HI0 := Aside0.mk hI
 have HK := ak (KeepBut.refl w g none)
 have HL := Aside0.mk hB.size
 clear hI
 have HW0 := Aside0.mk hB.size
 have HB := Aside0.mk hB
 clear hB
 have H : (spec_l07Items.l0 k (([] : List (S32))) 0 s0_0 s0_1 s0_2) = some (r1, r2, r3) := h
 clear h
 obtain ⟨y190, hy190⟩ : ∃ y_ : List (S32), y_ = (([] : List (S32))) := ⟨_, rfl⟩
 replace H : (spec_l07Items.l0 k y190 0 s0_0 s0_1 s0_2) = some (r1, r2, r3) := by first | (rw [hy190]; with_reducible exact H) | (have H2_ := (Option.bind_some _ _).symm.trans H; rw [hy190]; with_reducible exact H2_) | (have H2_ := (Option.bind_some _ _).symm.trans H; with_reducible exact H2_) | with_reducible exact H | (rw [hy190]; exact H) | exact H
 have Ny190 := Aside0.mk hy190
 clear hy190
 have H' := Aside0.mk H
 clear H
 go_enter Try.func72, Try.ntmps72
 go_wp2_with (first | ((with_reducible refine gate_dst (N := 5) rfl ?_); refine Kd.R_lit k32 _ 32 ?hg (N := 5) ?hd (xs := ([] : List (S32))) (inner := []) (ok := fun _ => True) (okp := fun _ => True) ?hr ?hp (fun _ hk => hk) trivial (Below.refl _ _) (Nat.le_refl _) (by simp) ?_; (case hd => rfl); (case hg => rfl); (case hr => first | (go_simp; done) | (go_simp; rfl)); (case hp => exact (Reps.none _ _)); intro v191 w2 ho3 hb hg_ hnew_; clear hg_ hnew_; (first | rw [← Ny190.out] at ho3 | (simp only [Int.reduceToNat] at ho3; rw [← Ny190.out] at ho3)); replace HO192 := ak (Kd.R_lower ho3 (keep_size (w := w) (g := g) (row := none) (kT HK gN))); replace HK := ak (KeepBut.trans (kT HK gN) (KeepBut.of_below hb g none) (.inl rfl)); replace HB := ak (below_step (lT HB gN) hb); replace HI0 := ak (IsS134.below (IsS134.T_ HI0 nN) hb); clear hb ho3))
 go_loopg [3, 4] k (fun kq v3 v4 w' => ∃ (x3_1 : List (S32)) (x4_1 : Int) (x1001_1 : Int) (x1002_1 : Int), v4 = .int .i64 x4_1 ∧ Aside0 (spec_l07Items.l0 kq x3_1 x4_1 s0_0 x1001_1 x1002_1 = some (r1, r2, r3)) ∧ Aside0 (kq ≤ k) ∧ Aside0 (Kd.R k32 32 w' w.heap.size (fun _ => True) v3 x3_1) ∧ Aside0 (IsS134 w0 w' g s0_0 x1001_1 x1002_1) ∧ Aside0 (KeepBut w w' g none) ∧ Aside0 (Below w0.heap.size w0 w'))
 case atStart => exact ⟨_, _, _, _, rr, H', ⟨Nat.le_refl _⟩, ⟨by (with_reducible repeat (first | apply Kd.R_alloc | apply Kd.R_drewN | apply Kd.R_drew)); exact HO192.out⟩, ⟨IsS134.T_ HI0 nN⟩, ⟨kT HK gN⟩, ⟨lT HB gN⟩⟩
 case round =>
  clear H'
  try clear p2
  obtain ⟨x3_1, x4_1, x1001_1, x1002_1, rfl, HA, HK1, HO_3, HI0, HK, HB⟩ := hrel
  cases gk with
  | zero => exact absurd HA.out (by simp [spec_l07Items.l0])
  | succ k1 =>
   have H := HA.out
   clear HA
   simp only [spec_l07Items.l0] at H
   obtain ⟨⟨t193, t194, t195⟩, A4, H⟩ := eb H
   try dsimp only at H
   by_cases c5 : x4_1 < t193
   ·rw [if_pos c5] at H
    have c5b0 : decide (x4_1 < t193) = true := decide_eq_true c5
    clear c5
    obtain ⟨⟨t196, t197, t198, t199, t200, t201, t202, t203, t204, t205⟩, A6, H⟩ := eb H
    try dsimp only at H
    by_cases c7 : x3_1.length < 1466015503701
    ·rw [if_pos c7] at H
     have LMc7 := Aside0.mk c7
     clear c7
     obtain ⟨y206, hy206⟩ : ∃ y_ : List (S32), y_ = (x3_1 ++ [(⟨wrap64 (2 + x4_1), (⟨t196, t197, t198, t199, t200, t201, t202, t203⟩ : S23)⟩ : S32)]) := ⟨_, rfl⟩
     replace H : (spec_l07Items.l0 k1 y206 (wrap64 (x4_1 + 1)) s0_0 t204 t205) = some (r1, r2, r3) := by first | (rw [hy206]; with_reducible exact H) | (have H2_ := (Option.bind_some _ _).symm.trans H; rw [hy206]; with_reducible exact H2_) | (have H2_ := (Option.bind_some _ _).symm.trans H; with_reducible exact H2_) | with_reducible exact H | (rw [hy206]; exact H) | exact H
     have Ny206 := Aside0.mk hy206
     clear hy206
     have H' := Aside0.mk H
     clear H
     go_wp2_with (first | ((with_reducible refine gate_callee (f := 69) rfl ?_); refine gl (some 8) Try.func69 #[.pointer (some ⟨g, 0, none⟩), .int .i64 22] ?_; (with_reducible refine (spec_l01Below.calls g s0_0 x1001_1 x1002_1 22 t193 t194 t195 w0 _ ?side1 ?side2 A4.out).mono ?_); (case side1 => exact IsS134.T_ HI0 nN); (case side2 => exact lT HB gN); rintro e w8 ⟨rfl, hi, hb, hk⟩; refine ⟨_, rfl, ?_⟩; replace HO_3 := ak (Kd.R_mono (Kd.R_keep (IsS134.apart (show IsS134 w0 _ g s0_0 x1001_1 x1002_1 from IsS134.T_ HI0 nN) (rG HO_3) (by decide)) hk (fun _ h => h.2)) (fun _ h => h.1)); replace HK := ak (KeepBut.trans (kT HK gN) hk (.inl rfl)); replace HB := ak (hb); replace HI0 := ak (hi); (try clear hb); (try clear hk); (try clear hi)) | ((with_reducible refine gate_callee (f := 99) rfl ?_); refine gl (some 16) Try.func99 #[.pointer (some ⟨g, 0, none⟩)] ?_; (with_reducible refine (spec_l06Rec.calls g s0_0 t194 t195 t196 t197 t198 t199 t200 t201 t202 t203 t204 t205 w0 _ ?side1 ?side2 A6.out).mono ?_); (case side1 => exact IsS134.T_ HI0 nN); (case side2 => exact lT HB gN); rintro e w9 ⟨rfl, hi, hb, hk⟩; refine ⟨_, rfl, ?_⟩; replace HO_3 := ak (Kd.R_mono (Kd.R_keep (IsS134.apart (show IsS134 w0 _ g s0_0 t194 t195 from IsS134.T_ HI0 nN) (rG HO_3) (by decide)) hk (fun _ h => h.2)) (fun _ h => h.1)); replace HK := ak (KeepBut.trans (kT HK gN) hk (.inl rfl)); replace HB := ak (hb); replace HI0 := ak (hi); (try clear hb); (try clear hk); (try clear hi)) | ((with_reducible refine gate_builtin (b := .append) (xs := #[.tmp 12, .tmp 18]) rfl ?_); at_builtin; refine Kd.R_append k32 w.heap.size rfl (.tmp 12) (.tmp 18) 42 32 (.agg #[(.int .i64 0), (.int .i64 0), (.int .i64 0), (.int .i64 0), (.int .i64 0), (.int .i64 0), (.string ⟨#[]⟩), (.string ⟨#[]⟩), (.string ⟨#[]⟩)]) 96 rfl Try.underlying42 info32 rfl (by decide) (by omega) u3 x3_1 (⟨wrap64 (2 + x4_1), (⟨t196, t197, t198, t199, t200, t201, t202, t203⟩ : S23)⟩ : S32) [.int .i64 (wrap64 (2 + x4_1)), .int .i64 t196, .int .i64 t197, .int .i64 t198, .int .i64 t199, .int .i64 t200, .string t201, .string t202, .string t203] (fun _ => True) (fun _ => False) rfl rfl ?aP (fun _ hk => hk.elim) ?aF ?aO (Below.refl _ _) ?aS ?aL ?_; (case aP => exact k32_mkM _ _ _ (⟨wrap64 (2 + x4_1), (⟨t196, t197, t198, t199, t200, t201, t202, t203⟩ : S23)⟩ : S32)); (case aF => exact (fun _ _ => trivial)); (case aO => exact (rG HO_3)); (case aS => exact (keep_size (w := w) (g := g) (row := none) (kT HK gN))); (case aL => have := LMc7.out; omega); intro v207 w10 ho hb hg hat; rw [← Ny206.out] at ho; have n0_ := ak (IsS134.grown (IsS134.T_ HI0 nN) hg (IsS134.own_ne HI0.out HO_3.out (by decide))); have n1_ := ak (below_weaken (lT HB gN) HL.out hb); have n2_ := ak (KeepBut.trans (kT HK gN) (KeepBut.of_grown hg g) (Kd.R_base2 HO_3.out)); have n3_ := ak (ho); clear HI0; clear HB; clear HK; clear HO_3; have HI0 := n0_; have HB := n1_; have HK := n2_; have HO208 := n3_; clear n0_ n1_ n2_ n3_; clear ho hb hg hat))
     go_roundg k1
     case measure => have := HK1.out; omega
     case rel => exact ⟨_, _, _, _, rr, H', ⟨by have := HK1.out; omega⟩, ⟨by (with_reducible repeat (first | apply Kd.R_alloc | apply Kd.R_drewN | apply Kd.R_drew)); exact HO208.out⟩, ⟨IsS134.T_ HI0 nN⟩, ⟨kT HK gN⟩, ⟨lT HB gN⟩⟩
    ·rw [if_neg c7] at H
     exact absurd H (by simp)
   ·rw [if_neg c5] at H
    have c5b0 : decide (x4_1 < t193) = false := decide_eq_false c5
    clear c5
    by_cases c11 : (x3_1.length : Int) > 1
    ·rw [if_pos c11] at H
     have c11b0 : decide (1 < (x3_1.length : Int)) = true := decide_eq_true c11
     have c11b1 : decide (1 < x3_1.length) = true := decide_eq_true (by omega)
     clear c11
     obtain ⟨⟨t209, t210, t211⟩, A12, H⟩ := eb H
     try dsimp only at H
     by_cases c13 : t209 = true
     ·subst c13
      rw [if_pos rfl] at H
      obtain ⟨⟨t212, t213, t214⟩, A14, H⟩ := eb H
      try dsimp only at H
      by_cases c15 : 0 ≤ t212
      ·rw [if_pos c15] at H
       have c15b0 : decide (0 ≤ t212) = true := decide_eq_true c15
       clear c15
       by_cases c16 : t212 < (x3_1.length : Int)
       ·rw [if_pos c16] at H
        have c16b0 : decide (t212 < (x3_1.length : Int)) = true := decide_eq_true c16
        clear c16
        by_cases c17 : x3_1.length < 1466015503701
        ·rw [if_pos c17] at H
         have LMc17 := Aside0.mk c17
         clear c17
         obtain ⟨y216, hy216⟩ : ∃ y_ : List (S32), y_ = (x3_1 ++ [(⟨(rd_T32 x3_1 t212).f0, (⟨(rd_T32 x3_1 t212).f1.f0, (rd_T32 x3_1 t212).f1.f1, (rd_T32 x3_1 t212).f1.f2, (rd_T32 x3_1 t212).f1.f3, (rd_T32 x3_1 t212).f1.f4, (rd_T32 x3_1 t212).f1.f5, (rd_T32 x3_1 t212).f1.f6, (rd_T32 x3_1 t212).f1.f7⟩ : S23)⟩ : S32)]) := ⟨_, rfl⟩
         replace H : (some (y216, t213, t214)) = some (r1, r2, r3) := by first | (rw [hy216]; with_reducible exact H) | (have H2_ := (Option.bind_some _ _).symm.trans H; rw [hy216]; with_reducible exact H2_) | (have H2_ := (Option.bind_some _ _).symm.trans H; with_reducible exact H2_) | with_reducible exact H | (rw [hy216]; exact H) | exact H
         have Ny216 := Aside0.mk hy216
         clear hy216
         simp only [Option.some.injEq, Prod.mk.injEq] at H
         obtain ⟨rfl, rfl, rfl⟩ := H
         go_wp2_with (first | ((with_reducible refine gate_callee (f := 69) rfl ?_); refine gl (some 8) Try.func69 #[.pointer (some ⟨g, 0, none⟩), .int .i64 22] ?_; (with_reducible refine (spec_l01Below.calls g s0_0 x1001_1 x1002_1 22 t193 t194 t195 w0 _ ?side1 ?side2 A4.out).mono ?_); (case side1 => exact IsS134.T_ HI0 nN); (case side2 => exact lT HB gN); rintro e w18 ⟨rfl, hi, hb, hk⟩; refine ⟨_, rfl, ?_⟩; replace HO_3 := ak (Kd.R_mono (Kd.R_keep (IsS134.apart (show IsS134 w0 _ g s0_0 x1001_1 x1002_1 from IsS134.T_ HI0 nN) (rG HO_3) (by decide)) hk (fun _ h => h.2)) (fun _ h => h.1)); replace HK := ak (KeepBut.trans (kT HK gN) hk (.inl rfl)); replace HB := ak (hb); replace HI0 := ak (hi); (try clear hb); (try clear hk); (try clear hi); obtain ⟨Ao19, co19, eo19⟩ := Kd.R_slice HO_3.out; subst eo19) | (go_at_call 88; (with_reducible refine (spec_l01Once.calls g s0_0 t194 t195 3 true t210 t211 w0 _ ?side1 ?side2 A12.out).mono ?_); (case side1 => exact IsS134.T_ HI0 nN); (case side2 => exact lT HB gN); rintro e w20 ⟨rfl, hi, hb, hk⟩; replace HO_3 := ak (Kd.R_mono (Kd.R_keep (IsS134.apart (show IsS134 w0 _ g s0_0 t194 t195 from IsS134.T_ HI0 nN) (rG HO_3) (by decide)) hk (fun _ h => h.2)) (fun _ h => h.1)); replace HK := ak (KeepBut.trans (kT HK gN) hk (.inl rfl)); replace HB := ak (hb); replace HI0 := ak (hi); (try clear hb); (try clear hk); (try clear hi)) | ((with_reducible refine gate_callee (f := 69) rfl ?_); refine gl (some 32) Try.func69 #[.pointer (some ⟨g, 0, none⟩), .int .i64 (x3_1.length : Int)] ?_; (with_reducible refine (spec_l01Below.calls g s0_0 t210 t211 (x3_1.length : Int) t212 t213 t214 w0 _ ?side1 ?side2 A14.out).mono ?_); (case side1 => exact IsS134.T_ HI0 nN); (case side2 => exact lT HB gN); rintro e w21 ⟨rfl, hi, hb, hk⟩; refine ⟨_, rfl, ?_⟩; replace HO_3 := ak (Kd.R_mono (Kd.R_keep (IsS134.apart (show IsS134 w0 _ g s0_0 t210 t211 from IsS134.T_ HI0 nN) (rG HO_3) (by decide)) hk (fun _ h => h.2)) (fun _ h => h.1)); replace HK := ak (KeepBut.trans (kT HK gN) hk (.inl rfl)); replace HB := ak (hb); replace HI0 := ak (hi); (try clear hb); (try clear hk); (try clear hi); have p215 : 0 ≤ (t212 : Int) := oda; have q215 : t212 < (x3_1.length : Int) := oda; obtain ⟨ad215, e215, hx215_0, hx215_1, hx215_2, hx215_3, hx215_4, hx215_5, hx215_6, hx215_7, hx215_8⟩ := at_T32 (Kd.R_reads' HO_3.out).2.2 t212 p215 q215; cases e215; replace p215 := eq_true p215; replace q215 := eq_true q215) | ((with_reducible refine gate_builtin (b := .append) (xs := #[.tmp 27, .tmp 35]) rfl ?_); at_builtin; refine Kd.R_append k32 w.heap.size rfl (.tmp 27) (.tmp 35) 42 32 (.agg #[(.int .i64 0), (.int .i64 0), (.int .i64 0), (.int .i64 0), (.int .i64 0), (.int .i64 0), (.string ⟨#[]⟩), (.string ⟨#[]⟩), (.string ⟨#[]⟩)]) 96 rfl Try.underlying42 info32 rfl (by decide) (by omega) (.slice (some ad215) x3_1.length co19) x3_1 (⟨(rd_T32 x3_1 t212).f0, (⟨(rd_T32 x3_1 t212).f1.f0, (rd_T32 x3_1 t212).f1.f1, (rd_T32 x3_1 t212).f1.f2, (rd_T32 x3_1 t212).f1.f3, (rd_T32 x3_1 t212).f1.f4, (rd_T32 x3_1 t212).f1.f5, (rd_T32 x3_1 t212).f1.f6, (rd_T32 x3_1 t212).f1.f7⟩ : S23)⟩ : S32) [.int .i64 ((rd_T32 x3_1 t212).f0), .int .i64 ((rd_T32 x3_1 t212).f1.f0), .int .i64 ((rd_T32 x3_1 t212).f1.f1), .int .i64 ((rd_T32 x3_1 t212).f1.f2), .int .i64 ((rd_T32 x3_1 t212).f1.f3), .int .i64 ((rd_T32 x3_1 t212).f1.f4), .string ((rd_T32 x3_1 t212).f1.f5), .string ((rd_T32 x3_1 t212).f1.f6), .string ((rd_T32 x3_1 t212).f1.f7)] (fun _ => True) (fun _ => False) rfl rfl ?aP (fun _ hk => hk.elim) ?aF ?aO (Below.refl _ _) ?aS ?aL ?_; (case aP => exact k32_mkM _ _ _ (⟨(rd_T32 x3_1 t212).f0, (⟨(rd_T32 x3_1 t212).f1.f0, (rd_T32 x3_1 t212).f1.f1, (rd_T32 x3_1 t212).f1.f2, (rd_T32 x3_1 t212).f1.f3, (rd_T32 x3_1 t212).f1.f4, (rd_T32 x3_1 t212).f1.f5, (rd_T32 x3_1 t212).f1.f6, (rd_T32 x3_1 t212).f1.f7⟩ : S23)⟩ : S32)); (case aF => exact (fun _ _ => trivial)); (case aO => exact (rG HO_3)); (case aS => exact (keep_size (w := w) (g := g) (row := none) (kT HK gN))); (case aL => have := LMc17.out; omega); intro v217 w22 ho hb hg hat; rw [← Ny216.out] at ho; have n0_ := ak (IsS134.grown (IsS134.T_ HI0 nN) hg (IsS134.own_ne HI0.out HO_3.out (by decide))); have n1_ := ak (below_weaken (lT HB gN) HL.out hb); have n2_ := ak (KeepBut.trans (kT HK gN) (KeepBut.of_grown hg g) (Kd.R_base2 HO_3.out)); have n3_ := ak (ho); clear HI0; clear HB; clear HK; clear HO_3; have HI0 := n0_; have HB := n1_; have HK := n2_; have HO218 := n3_; clear n0_ n1_ n2_ n3_; clear ho hb hg hat))
         go_ret
         exact ⟨_, ew, by (with_reducible repeat (first | apply Kd.R_alloc | apply Kd.R_drewN | apply Kd.R_drew)); exact HO218.out, IsS134.T_ HI0 nN, lT HB gN, kT HK gN⟩
        ·rw [if_neg c17] at H
         exact absurd H (by simp)
       ·rw [if_neg c16] at H
        exact absurd H (by simp)
      ·rw [if_neg c15] at H
       exact absurd H (by simp)
     ·replace c13 := Bool.eq_false_iff.mpr c13
      subst c13
      rw [if_neg (show ¬ (false = true) by decide)] at H
      simp only [Option.some.injEq, Prod.mk.injEq] at H
      obtain ⟨rfl, rfl, rfl⟩ := H
      go_wp2_with (first | ((with_reducible refine gate_callee (f := 69) rfl ?_); refine gl (some 8) Try.func69 #[.pointer (some ⟨g, 0, none⟩), .int .i64 22] ?_; (with_reducible refine (spec_l01Below.calls g s0_0 x1001_1 x1002_1 22 t193 t194 t195 w0 _ ?side1 ?side2 A4.out).mono ?_); (case side1 => exact IsS134.T_ HI0 nN); (case side2 => exact lT HB gN); rintro e w23 ⟨rfl, hi, hb, hk⟩; refine ⟨_, rfl, ?_⟩; replace HO_3 := ak (Kd.R_mono (Kd.R_keep (IsS134.apart (show IsS134 w0 _ g s0_0 x1001_1 x1002_1 from IsS134.T_ HI0 nN) (rG HO_3) (by decide)) hk (fun _ h => h.2)) (fun _ h => h.1)); replace HK := ak (KeepBut.trans (kT HK gN) hk (.inl rfl)); replace HB := ak (hb); replace HI0 := ak (hi); (try clear hb); (try clear hk); (try clear hi); obtain ⟨Ao24, co24, eo24⟩ := Kd.R_slice HO_3.out; subst eo24) | (go_at_call 88; (with_reducible refine (spec_l01Once.calls g s0_0 t194 t195 3 false t210 t211 w0 _ ?side1 ?side2 A12.out).mono ?_); (case side1 => exact IsS134.T_ HI0 nN); (case side2 => exact lT HB gN); rintro e w25 ⟨rfl, hi, hb, hk⟩; replace HO_3 := ak (Kd.R_mono (Kd.R_keep (IsS134.apart (show IsS134 w0 _ g s0_0 t194 t195 from IsS134.T_ HI0 nN) (rG HO_3) (by decide)) hk (fun _ h => h.2)) (fun _ h => h.1)); replace HK := ak (KeepBut.trans (kT HK gN) hk (.inl rfl)); replace HB := ak (hb); replace HI0 := ak (hi); (try clear hb); (try clear hk); (try clear hi)))
      go_ret
      exact ⟨_, ew, by (with_reducible repeat (first | apply Kd.R_alloc | apply Kd.R_drewN | apply Kd.R_drew)); exact HO_3.out, IsS134.T_ HI0 nN, lT HB gN, kT HK gN⟩
    ·rw [if_neg c11] at H
     have c11b0 : decide (1 < (x3_1.length : Int)) = false := decide_eq_false c11
     have c11b1 : decide (1 < x3_1.length) = false := decide_eq_false (by omega)
     clear c11
     simp only [Option.some.injEq, Prod.mk.injEq] at H
     obtain ⟨rfl, rfl, rfl⟩ := H
     go_wp2_with (first | ((with_reducible refine gate_callee (f := 69) rfl ?_); refine gl (some 8) Try.func69 #[.pointer (some ⟨g, 0, none⟩), .int .i64 22] ?_; (with_reducible refine (spec_l01Below.calls g s0_0 x1001_1 x1002_1 22 t193 t194 t195 w0 _ ?side1 ?side2 A4.out).mono ?_); (case side1 => exact IsS134.T_ HI0 nN); (case side2 => exact lT HB gN); rintro e w26 ⟨rfl, hi, hb, hk⟩; refine ⟨_, rfl, ?_⟩; replace HO_3 := ak (Kd.R_mono (Kd.R_keep (IsS134.apart (show IsS134 w0 _ g s0_0 x1001_1 x1002_1 from IsS134.T_ HI0 nN) (rG HO_3) (by decide)) hk (fun _ h => h.2)) (fun _ h => h.1)); replace HK := ak (KeepBut.trans (kT HK gN) hk (.inl rfl)); replace HB := ak (hb); replace HI0 := ak (hi); (try clear hb); (try clear hk); (try clear hi); obtain ⟨Ao27, co27, eo27⟩ := Kd.R_slice HO_3.out; subst eo27))
     go_ret
     exact ⟨_, ew, by (with_reducible repeat (first | apply Kd.R_alloc | apply Kd.R_drewN | apply Kd.R_drew)); exact HO_3.out, IsS134.T_ HI0 nN, lT HB gN, kT HK gN⟩
/-! ### spec_DrawItems: function 33 -/
def spec_DrawItems.f (k : Nat) (l0 : List Int) : Option ((List (S32))) := (spec_l01New.f k l0).bind fun bt219 => ((spec_l07Items.f k bt219.1 bt219.2.1 bt219.2.2).bind fun bt223 => (some bt223.1))
theorem spec_DrawItems.mono : ∀ a0 k, LeO (spec_DrawItems.f k a0) (spec_DrawItems.f (k + 1) a0) := by
 intro a0 k
 unfold spec_DrawItems.f
 repeat' first
   | (with_reducible exact spec_l01New.mono _ _)
   | (with_reducible exact spec_l07Items.mono _ _ _ _)
   | (with_reducible exact LeO.refl _)
   | (with_reducible exact LeO.none _)
   | (with_reducible refine LeO.ite ?_ ?_)
   | (with_reducible refine LeO.bind ?_ (fun _ => ?_))
   | exact spec_l01New.mono _ _
   | exact spec_l07Items.mono _ _ _ _
   | exact LeO.none _
   | refine LeO.ite ?_ ?_
   | refine LeO.bind ?_ (fun _ => ?_)
theorem spec_DrawItems.calls (k : Nat) (A0 : Option Addr) (c0 : Nat) (l0 : List Int) (r : List (S32)) (w : World) (hr0 : Kd.C (Kd.int .u8) w A0 l0.length l0) (hc0 : l0.length ≤ c0) (h : spec_DrawItems.f k l0 = some r) :
  Calls Try.prog 33 #[.slice A0 l0.length c0] w fun e w' => ∃ v0_ : Value, e = .returned (v0_) ∧ Kd.R k32 32 w' w.heap.size (fun _ => True) v0_ r ∧ Below w.heap.size w w' := by
 have HR0 := Aside0.mk hr0
 have HC0 := Aside0.mk hc0
 clear hr0 hc0
 have HB := ak (Below.refl w.heap.size w)
 have H : ((spec_l01New.f k l0).bind fun bt219 => ((spec_l07Items.f k bt219.1 bt219.2.1 bt219.2.2).bind fun bt223 => (some bt223.1))) = some r := h
 clear h
 obtain ⟨⟨t219, t220, t221⟩, A2, H⟩ := eb H
 try dsimp only at H
 obtain ⟨⟨t223, t226, t227⟩, A3, H⟩ := eb H
 try dsimp only at H
 obtain rfl := Option.some.inj H
 go_enter Try.func33, Try.ntmps33
 go_wp2_with (first | ((with_reducible refine gate_callee (f := 67) rfl ?_); refine gl (some 4) Try.func67 #[.slice A0 l0.length c0] ?_; (with_reducible refine (spec_l01New.calls k _ _ l0 t219 t220 t221 w _ ?side1 ?side2 ?side3 A2.out).mono ?_); (case side1 => exact lG HB); (case side2 => exact HR0.out); (case side3 => exact HC0.out); rintro e w4 ⟨g222, rfl, hi, hb, hb2⟩; refine ⟨_, rfl, ?_⟩; replace HB := ak (hb); replace HI222 := ak (hi); (try clear hb); (try clear hb2); (try clear hk); (try clear hi)) | ((with_reducible refine gate_callee (f := 72) rfl ?_); refine gl (some 5) Try.func72 #[.pointer (some ⟨g222, 0, none⟩)] ?_; (with_reducible refine (spec_l07Items.calls k g222 t219 t220 t221 t223 t226 t227 w _ ?side1 ?side2 A3.out).mono ?_); (case side1 => exact IsS134.T_ HI222 nN); (case side2 => exact lT HB gN); rintro e w5 ⟨v224, rfl, ho0, hi, hb, hk⟩; refine ⟨_, rfl, ?_⟩; replace HO225 := ak (Kd.R_lower ho0 (below_size (lT HB gN))); replace HB := ak (hb); replace HI222 := ak (hi); (try clear hb); (try clear hb2); (try clear hk); (try clear hi); (try clear ho0)))
 go_ret
 exact ⟨_, ew, by (with_reducible repeat (first | apply Kd.R_alloc | apply Kd.R_drewN | apply Kd.R_drew)); exact HO225.out, lT HB gN⟩
/-! ### spec_DrawPlaces: function 34 -/
def spec_DrawPlaces.l0 : Nat → List Int → Int → List Int → Int → Int → Option (List Int)
 | 0, _, _, _, _, _ => none
 | k + 1, x4, x5, x232000, x232001, x232002 => if x5 < 12 then ((spec_l01Below.f x232000 x232001 x232002 10000).bind fun bt238 => (if x4.length < 17592186044416 then (spec_DrawPlaces.l0 k (x4 ++ [bt238.1]) (wrap64 (x5 + 1)) x232000 bt238.2.1 bt238.2.2) else (none))) else (some x4)
def spec_DrawPlaces.f (k : Nat) (l0 : List Int) : Option (List Int) := (spec_l01New.f k l0).bind fun bt228 => ((spec_l01Byte.f bt228.1 bt228.2.1 bt228.2.2).bind fun bt232 => (spec_DrawPlaces.l0 k (([] : List Int)) 0 bt228.1 bt232.2.1 bt232.2.2))
theorem spec_DrawPlaces.mono_l : ∀ k, (∀ y0 y1 y2 y3 y4, LeO (spec_DrawPlaces.l0 k y0 y1 y2 y3 y4) (spec_DrawPlaces.l0 (k + 1) y0 y1 y2 y3 y4))
 | 0 => fun _ _ _ _ _ r h => by simp [spec_DrawPlaces.l0] at h
 | k + 1 => by
  have ih0 := spec_DrawPlaces.mono_l k
  ·intro y0 y1 y2 y3 y4
   unfold spec_DrawPlaces.l0
   repeat' first
   | (with_reducible exact ih0 _ _ _ _ _)
   | (with_reducible exact spec_l01New.mono _ _)
   | (with_reducible exact LeO.refl _)
   | (with_reducible exact LeO.none _)
   | (with_reducible refine LeO.ite ?_ ?_)
   | (with_reducible refine LeO.bind ?_ (fun _ => ?_))
   | exact ih0 _ _ _ _ _
   | exact spec_l01New.mono _ _
   | exact LeO.none _
   | refine LeO.ite ?_ ?_
   | refine LeO.bind ?_ (fun _ => ?_)
theorem spec_DrawPlaces.mono : ∀ a0 k, LeO (spec_DrawPlaces.f k a0) (spec_DrawPlaces.f (k + 1) a0) := by
 intro a0 k
 have ih0 := spec_DrawPlaces.mono_l k
 unfold spec_DrawPlaces.f
 repeat' first
   | (with_reducible exact ih0 _ _ _ _ _)
   | (with_reducible exact spec_l01New.mono _ _)
   | (with_reducible exact LeO.refl _)
   | (with_reducible exact LeO.none _)
   | (with_reducible refine LeO.ite ?_ ?_)
   | (with_reducible refine LeO.bind ?_ (fun _ => ?_))
   | exact ih0 _ _ _ _ _
   | exact spec_l01New.mono _ _
   | exact LeO.none _
   | refine LeO.ite ?_ ?_
   | refine LeO.bind ?_ (fun _ => ?_)
theorem spec_DrawPlaces.calls (k : Nat) (A0 : Option Addr) (c0 : Nat) (l0 : List Int) (r : List Int) (w : World) (hr0 : Kd.C (Kd.int .u8) w A0 l0.length l0) (hc0 : l0.length ≤ c0) (h : spec_DrawPlaces.f k l0 = some r) :
  Calls Try.prog 34 #[.slice A0 l0.length c0] w fun e w' => ∃ v0_ : Value, e = .returned (v0_) ∧ Kd.R (Kd.int .i64) 3 w' w.heap.size (fun _ => True) v0_ r ∧ Below w.heap.size w w' := by
 have HR0 := Aside0.mk hr0
 have HC0 := Aside0.mk hc0
 clear hr0 hc0
 have HB := ak (Below.refl w.heap.size w)
 have H : ((spec_l01New.f k l0).bind fun bt228 => ((spec_l01Byte.f bt228.1 bt228.2.1 bt228.2.2).bind fun bt232 => (spec_DrawPlaces.l0 k (([] : List Int)) 0 bt228.1 bt232.2.1 bt232.2.2))) = some r := h
 clear h
 obtain ⟨⟨t228, t229, t230⟩, A2, H⟩ := eb H
 try dsimp only at H
 obtain ⟨⟨t232, t233, t234⟩, A3, H⟩ := eb H
 try dsimp only at H
 obtain ⟨y235, hy235⟩ : ∃ y_ : List Int, y_ = (([] : List Int)) := ⟨_, rfl⟩
 replace H : (spec_DrawPlaces.l0 k y235 0 t228 t233 t234) = some r := by first | (rw [hy235]; with_reducible exact H) | (have H2_ := (Option.bind_some _ _).symm.trans H; rw [hy235]; with_reducible exact H2_) | (have H2_ := (Option.bind_some _ _).symm.trans H; with_reducible exact H2_) | with_reducible exact H | (rw [hy235]; exact H) | exact H
 have Ny235 := Aside0.mk hy235
 clear hy235
 have H' := Aside0.mk H
 clear H
 go_enter Try.func34, Try.ntmps34
 go_wp2_with (first | ((with_reducible refine gate_callee (f := 67) rfl ?_); refine gl (some 7) Try.func67 #[.slice A0 l0.length c0] ?_; (with_reducible refine (spec_l01New.calls k _ _ l0 t228 t229 t230 w _ ?side1 ?side2 ?side3 A2.out).mono ?_); (case side1 => exact lG HB); (case side2 => exact HR0.out); (case side3 => exact HC0.out); rintro e w4 ⟨g231, rfl, hi, hb, hb2⟩; refine ⟨_, rfl, ?_⟩; replace HB := ak (hb); replace HI231 := ak (hi); (try clear hb); (try clear hb2); (try clear hk); (try clear hi)) | ((with_reducible refine gate_callee (f := 73) rfl ?_); refine gl (some 9) Try.func73 #[.pointer (some ⟨g231, 0, none⟩)] ?_; (with_reducible refine (spec_l01Byte.calls g231 t228 t229 t230 t232 t233 t234 w _ ?side1 ?side2 A3.out).mono ?_); (case side1 => exact IsS134.T_ HI231 nN); (case side2 => exact lT HB gN); rintro e w5 ⟨rfl, hi, hb, hk⟩; refine ⟨_, rfl, ?_⟩; replace HB := ak (hb); replace HI231 := ak (hi); (try clear hb); (try clear hb2); (try clear hk); (try clear hi)) | ((with_reducible refine gate_dst (N := 10) rfl ?_); refine Kd.R_lit (Kd.int .i64) _ 3 ?hg (N := 10) ?hd (xs := ([] : List Int)) (inner := []) (ok := fun _ => True) (okp := fun _ => True) ?hr ?hp (fun _ hk => hk) trivial (Below.refl _ _) (Nat.le_refl _) (by simp) ?_; (case hd => rfl); (case hg => rfl); (case hr => first | (go_simp; done) | (go_simp; rfl)); (case hp => exact (Reps.none _ _)); intro v236 w6 ho7 hb hg_ hnew_; clear hg_ hnew_; (first | rw [← Ny235.out] at ho7 | (simp only [Int.reduceToNat] at ho7; rw [← Ny235.out] at ho7)); replace HO237 := ak (Kd.R_lower ho7 (below_size (lT HB gN))); replace HB := ak (below_step (lT HB gN) hb); replace HI231 := ak (IsS134.below (IsS134.T_ HI231 nN) hb); clear hb ho7))
 go_loopg [4, 5] k (fun kq v4 v5 w' => ∃ (x4_1 : List Int) (x5_1 : Int) (x232001_1 : Int) (x232002_1 : Int), v5 = .int .i64 x5_1 ∧ Aside0 (spec_DrawPlaces.l0 kq x4_1 x5_1 t228 x232001_1 x232002_1 = some r) ∧ Aside0 (kq ≤ k) ∧ Aside0 (Kd.R (Kd.int .i64) 3 w' w.heap.size (fun _ => True) v4 x4_1) ∧ Aside0 (IsS134 w w' g231 t228 x232001_1 x232002_1) ∧ Aside0 (Below w.heap.size w w'))
 case atStart => exact ⟨_, _, _, _, rr, H', ⟨Nat.le_refl _⟩, ⟨by (with_reducible repeat (first | apply Kd.R_alloc | apply Kd.R_drewN | apply Kd.R_drew)); exact HO237.out⟩, ⟨IsS134.T_ HI231 nN⟩, ⟨lT HB gN⟩⟩
 case round =>
  clear H'
  try clear p2
  try clear c3
  try clear c6
  try clear c7
  obtain ⟨x4_1, x5_1, x232001_1, x232002_1, rfl, HA, HK1, HO_4, HI231, HB⟩ := hrel
  cases gk with
  | zero => exact absurd HA.out (by simp [spec_DrawPlaces.l0])
  | succ k1 =>
   have H := HA.out
   clear HA
   simp only [spec_DrawPlaces.l0] at H
   by_cases c8 : x5_1 < 12
   ·rw [if_pos c8] at H
    have c8b0 : decide (x5_1 < 12) = true := decide_eq_true c8
    clear c8
    obtain ⟨⟨t238, t239, t240⟩, A9, H⟩ := eb H
    try dsimp only at H
    by_cases c10 : x4_1.length < 17592186044416
    ·rw [if_pos c10] at H
     have LMc10 := Aside0.mk c10
     clear c10
     obtain ⟨y241, hy241⟩ : ∃ y_ : List Int, y_ = (x4_1 ++ [t238]) := ⟨_, rfl⟩
     replace H : (spec_DrawPlaces.l0 k1 y241 (wrap64 (x5_1 + 1)) t228 t239 t240) = some r := by first | (rw [hy241]; with_reducible exact H) | (have H2_ := (Option.bind_some _ _).symm.trans H; rw [hy241]; with_reducible exact H2_) | (have H2_ := (Option.bind_some _ _).symm.trans H; with_reducible exact H2_) | with_reducible exact H | (rw [hy241]; exact H) | exact H
     have Ny241 := Aside0.mk hy241
     clear hy241
     have H' := Aside0.mk H
     clear H
     go_wp2_with (first | ((with_reducible refine gate_callee (f := 69) rfl ?_); refine gl (some 17) Try.func69 #[.pointer (some ⟨g231, 0, none⟩), .int .i64 10000] ?_; (with_reducible refine (spec_l01Below.calls g231 t228 x232001_1 x232002_1 10000 t238 t239 t240 w _ ?side1 ?side2 A9.out).mono ?_); (case side1 => exact IsS134.T_ HI231 nN); (case side2 => exact lT HB gN); rintro e w11 ⟨rfl, hi, hb, hk⟩; refine ⟨_, rfl, ?_⟩; replace HO_4 := ak (Kd.R_mono (Kd.R_keep (IsS134.apart (show IsS134 w _ g231 t228 x232001_1 x232002_1 from IsS134.T_ HI231 nN) (rG HO_4) (by decide)) hk (fun _ h => h.2)) (fun _ h => h.1)); replace HB := ak (hb); replace HI231 := ak (hi); (try clear hb); (try clear hb2); (try clear hk); (try clear hi)) | ((with_reducible refine gate_builtin (b := .append) (xs := #[.tmp 15, .tmp 18]) rfl ?_); at_builtin; refine Kd.R_append (Kd.int .i64) (w0 := w) w.heap.size rfl (.tmp 15) (.tmp 18) 56 3 (.int .i64 0) 8 rfl Try.underlying56 info3 rfl (by decide) (by omega) u4 x4_1 t238 [.int .i64 t238] (fun _ => True) (fun _ => False) rfl rfl ?aP (fun _ hk => hk.elim) ?aF ?aO ?aB ?aS ?aL ?_; (case aP => exact rfl); (case aB => exact (lT HB gN)); (case aF => exact (fun _ _ => trivial)); (case aO => exact (rG HO_4)); (case aS => exact (below_size (lT HB gN))); (case aL => have := LMc10.out; omega); intro v242 w12 ho hb hg hat; rw [← Ny241.out] at ho; have n0_ := ak (IsS134.grown (IsS134.T_ HI231 nN) hg (IsS134.own_ne HI231.out HO_4.out (by decide))); have n1_ := ak (hb); have n2_ := ak (ho); clear HI231; clear HB; clear HO_4; have HI231 := n0_; have HB := n1_; have HO243 := n2_; clear n0_ n1_ n2_; clear ho hb hg hat))
     go_roundg k1
     case measure => have := HK1.out; omega
     case rel => exact ⟨_, _, _, _, rr, H', ⟨by have := HK1.out; omega⟩, ⟨by (with_reducible repeat (first | apply Kd.R_alloc | apply Kd.R_drewN | apply Kd.R_drew)); exact HO243.out⟩, ⟨IsS134.T_ HI231 nN⟩, ⟨lT HB gN⟩⟩
    ·rw [if_neg c10] at H
     exact absurd H (by simp)
   ·rw [if_neg c8] at H
    have c8b0 : decide (x5_1 < 12) = false := decide_eq_false c8
    clear c8
    obtain rfl := Option.some.inj H
    go_wp2
    go_ret
    exact ⟨_, ew, by (with_reducible repeat (first | apply Kd.R_alloc | apply Kd.R_drewN | apply Kd.R_drew)); exact HO_4.out, lT HB gN⟩
-- NOT PRINTED: function 137 (cmp_isNaN_int)
-- NOT PRINTED: function 127 (cmp_Less_int)
-- NOT PRINTED: function 121 (slices_insertionSortOrdered_int)
-- NOT PRINTED: function 132 (slices_siftDownOrdered_int)
-- NOT PRINTED: function 122 (slices_heapSortOrdered_int)
-- NOT PRINTED: function 130 (bits_Len32)
-- NOT PRINTED: function 131 (bits_Len64)
-- NOT PRINTED: function 119 (bits_Len)
-- NOT PRINTED: function 133 (slices_nextPowerOfTwo)
-- NOT PRINTED: function 134 (slices_xorshift_Next)
-- NOT PRINTED: function 123 (slices_breakPatternsOrdered_int)
-- NOT PRINTED: function 138 (slices_order2Ordered_int)
-- NOT PRINTED: function 136 (slices_medianOrdered_int)
-- NOT PRINTED: function 135 (slices_medianAdjacentOrdered_int)
-- NOT PRINTED: function 124 (slices_choosePivotOrdered_int)
-- NOT PRINTED: function 125 (slices_reverseRangeOrdered_int)
-- NOT PRINTED: function 126 (slices_partialInsertionSortOrdered_int)
-- NOT PRINTED: function 128 (slices_partitionEqualOrdered_int)
-- NOT PRINTED: function 129 (slices_partitionOrdered_int)
-- NOT PRINTED: function 118 (slices_pdqsortOrdered_int)
-- NOT PRINTED: function 102 (slices_Sort_int_int)
-- NOT PRINTED: function 103 (slices_Compact_int_int)
-- NOT PRINTED: function 74 (impl_numbers)
/-! ### impl_numbers_valid: function 7401 -/
def numL (g : S32 → Int × Bool) (l : List S32) : List Int := (l.filter (fun x => (g x).2)).map (fun x => (g x).1)
def numC (xs : List Int) : List Int := Lib.compact (xs.mergeSort fun x y => decide (x ≤ y))
theorem numL_take (g : S32 → Int × Bool) (l : List S32) (i : Nat) (h : i < l.length) : numL g (l.take (i + 1)) = numL g (l.take i) ++ (if (g (rd_T32 l (i : Int))).2 then [(g (rd_T32 l (i : Int))).1] else []) := by
 have e : rd_T32 l (i : Int) = l[i] := by
  unfold rd_T32
  rw [Int.toNat_natCast, List.getD_eq_getElem?_getD, List.getElem?_eq_getElem h]
  rfl
 unfold numL
 rw [List.take_succ_eq_append_getElem h, List.filter_append, List.map_append, e]
 congr 1
 cases hc : (g l[i]).2 <;> simp [hc]
theorem numL_len (g : S32 → Int × Bool) (l : List S32) : (numL g l).length ≤ l.length := by
 unfold numL
 rw [List.length_map]
 exact List.length_filter_le _ _
theorem num_sort (v : Value) (xs : List Int) (w : World) (base : Nat) (hR : Kd.R (Kd.int .i64) 3 w base (fun _ => True) v xs) (hl : xs.length < 4611686018427387904) :
  Calls Try.prog 102 #[v] w fun e w' => e = .returned (.tuple #[]) ∧ Kd.R (Kd.int .i64) 3 w' base (fun _ => True) v (xs.mergeSort fun x y => decide (x ≤ y)) ∧ ∀ w0 : World, w0.heap.size = base → Below base w0 w → Below base w0 w' := by
 have ho := Kd.own_of_R hR
 rcases ho.2 with ⟨rfl, h0⟩ | ⟨g, cap, cur, rfl, hg, hh, hn, hcap, hsz, htk⟩
 ·obtain rfl : xs = [] := List.eq_nil_of_length_eq_zero h0
  refine (Any.slices_Sort_int_none Try.lays189 none 0 w).mono ?_
  rintro e w' ⟨rfl, rfl⟩
  exact ⟨rfl, by simpa using hR, fun _ _ h => h⟩
 ·have htk' : cur.toList.take xs.length = xs.map (Value.int .i64) := by simpa [encs] using htk
  refine (Any.slices_Sort_int Try.lays189 g 0 cap xs w (holds_of_blockI hh htk') (blk_lt hh) hl).mono ?_
  rintro e w' ⟨rfl, n, os, rfl⟩
  have hlen : (xs.mergeSort fun x y => decide (x ≤ y)).length = xs.length := List.length_mergeSort _
  refine ⟨rfl, Kd.R_of_own ?_ (fun _ _ => trivial), fun w0 hb0 hB => hB.grown (grownBy_sortedI _) (by have := own_lt ho g rfl; omega) (fun k hk => by injection hk with hk; omega)⟩
  have h2 := ownsRow_sortedI (os := os) (n := n) hlen hg hh hn hcap hsz
  rw [← hlen] at h2
  rw [← hlen]
  simpa [encs] using h2
theorem num_compact (v : Value) (xs : List Int) (w : World) (base : Nat) (hR : Kd.R (Kd.int .i64) 3 w base (fun _ => True) v xs) (hl : xs.length ≤ 9223372036854775807) :
  Calls Try.prog 103 #[v] w fun e w' => ∃ v1, e = .returned v1 ∧ Kd.R (Kd.int .i64) 3 w' base (fun _ => True) v1 (Lib.compact xs) ∧ ∀ w0 : World, w0.heap.size = base → Below base w0 w → Below base w0 w' := by
 have ho := Kd.own_of_R hR
 rcases ho.2 with ⟨rfl, h0⟩ | ⟨g, cap, cur, rfl, hg, hh, hn, hcap, hsz, htk⟩
 ·obtain rfl : xs = [] := List.eq_nil_of_length_eq_zero h0
  refine (Any.slices_Compact_int_empty Try.lays2_20 none 0 w).mono ?_
  rintro e w' ⟨rfl, rfl⟩
  exact ⟨_, rfl, hR, fun _ _ h => h⟩
 ·have htk' : cur.toList.take xs.length = xs.map (Value.int .i64) := by simpa [encs] using htk
  refine (Any.slices_Compact_int Try.lays2_20 g 0 cap xs w (holds_of_blockI hh htk') hl hn).mono ?_
  rintro e w' ⟨rfl, q, rfl⟩
  have hle : (Lib.compact xs).length ≤ xs.length := Lib.compact_length_le xs
  obtain ⟨ts, hts⟩ : ∃ ts, Lib.compact xs ++ List.replicate (xs.length - (Lib.compact xs).length) 0 = ts := ⟨_, rfl⟩
  have hlen : ts.length = xs.length := by rw [← hts]; simp; omega
  rw [hts]
  have e0 : ∀ W : World, Sort.grow W #[] = W := fun W => by simp [Sort.grow]
  rw [← e0 (Sort.putRow (Value.int .i64) (Sort.ahead w q) g 0 ts.toArray)]
  refine ⟨_, rfl, Kd.R_of_own ?_ (fun _ _ => trivial), fun w0 hb0 hB => hB.grown (grownBy_sortedI _) (by have := own_lt ho g rfl; omega) (fun k hk => by injection hk with hk; omega)⟩
  have h2 := ownsRow_sortedI (os := #[]) (n := q) hlen hg hh hn hcap hsz
  rcases h2.2 with ⟨h3, _⟩ | ⟨g', cap', cur', h3, hg', hh', hn', hcap', hsz', htk2⟩
  ·cases h3
  ·injection h3 with h4 h5 h6
   injection h4 with h4
   injection h4 with h4
   subst h4
   subst h6
   refine ⟨by simp [encs], .inr ⟨g, cap, cur', rfl, hg, hh', by omega, hcap, hsz', ?_⟩⟩
   have h7 : (cur'.toList.take (xs.length * 1)).take (Lib.compact xs).length = (ts.map (Value.int .i64)).take (Lib.compact xs).length := by rw [htk2]
   rw [List.take_take, Nat.mul_one, Nat.min_eq_left hle] at h7
   rw [Nat.mul_one, h7, ← hts]
   simp [encs]
theorem numbers_nv (caps : Array Value) (g : S32 → Int × Bool) (A0 : Option Addr) (c0 : Nat) (l0 : List S32) (w : World) (hr0 : Kd.C k32 w A0 l0.length l0) (hc0 : l0.length ≤ c0) (hl0 : l0.length < 17592186044416)
  (hp : ∀ x, x ∈ l0 → ∀ W, Below w.heap.size w W → Calls Try.prog 75 (#[.agg #[.int .i64 x.f1.f0, .int .i64 x.f1.f1, .int .i64 x.f1.f2, .int .i64 x.f1.f3, .int .i64 x.f1.f4, .string x.f1.f5, .string x.f1.f6, .string x.f1.f7]] ++ caps) W fun e W' => e = .returned (.tuple #[.int .i64 (g x).1, .bool (g x).2]) ∧ Below W.heap.size W W') :
  Calls Try.prog 74 #[.slice A0 l0.length c0, .func (.func 75) #[] caps] w fun e w' => ∃ v0_ : Value, e = .returned (v0_) ∧ Kd.R (Kd.int .i64) 3 w' w.heap.size (fun _ => True) v0_ (numC (numL g l0)) ∧ Below w.heap.size w w' := by
 have hu23 := Try.underlying23
 have hu32 := Try.underlying32
 have hu56 := Try.underlying56
 have HR0 := ak hr0
 have HC0 := ak hc0
 have HP := ak hp
 have hm : l0.length ≤ 9223372036854775807 := hr0.2.1
 have HB := ak (Below.refl w.heap.size w)
 clear hr0 hc0 hp
 go_enter Try.func74, Try.ntmps74
 go_wp2_with (first | ((with_reducible refine gate_dst (N := 10) rfl ?_); refine Kd.R_lit (Kd.int .i64) _ 3 ?hg (N := 10) ?hd (xs := ([] : List Int)) (inner := []) (ok := fun _ => True) (okp := fun _ => True) ?hr ?hp (fun _ hk => hk) trivial (Below.refl _ _) (Nat.le_refl _) (by simp) ?_; (case hd => rfl); (case hg => rfl); (case hr => first | (go_simp; done) | (go_simp; rfl)); (case hp => exact (Reps.none _ _)); intro v443 w3 ho4 hb hg_ hnew_; clear hg_ hnew_; replace HO := ak (Kd.R_lower ho4 (below_size (lG HB))); replace HB := lB HB hb; clear hb ho4))
 go_loopg [5, 13] l0.length (fun kq v5 v13 w' => ∃ (x13 : Int) (i : Nat), v13 = .int .i64 x13 ∧ Aside0 (x13 = (i : Int) ∧ kq + i = l0.length) ∧ Aside0 (Kd.R (Kd.int .i64) 3 w' w.heap.size (fun _ => True) v5 (numL g (l0.take i))) ∧ Aside0 (Below w.heap.size w w'))
 case atStart => exact ⟨0, 0, by first | rfl | (simp; done), ⟨rfl, by omega⟩, ⟨rG HO⟩, ⟨lG HB⟩⟩
 case round =>
  clear HB HO
  obtain ⟨x13, i, rfl, HX, HO, HB⟩ := hrel
  cases gk with
  | zero =>
   have c4 : decide (x13 < (l0.length : Int)) = false := decide_eq_false (by have := HX.out; omega)
   have hall : l0.take i = l0 := List.take_of_length_le (by have := HX.out; omega)
   rw [hall] at HO
   have LM := ak (Nat.lt_of_le_of_lt (numL_len g l0) hl0)
   go_wp2_with (first | (go_at_call 102; refine (num_sort u5 (numL g l0) _ w.heap.size (rG HO) (by have := LM.out; omega)).mono ?_; rintro e w10 ⟨rfl, ho, hb⟩; replace HO := ak ho; replace HB := ak (hb w rfl (lG HB)); clear ho hb; skip) | (go_at_call 103; refine (num_compact u5 _ _ w.heap.size (rG HO) (by rw [List.length_mergeSort]; have := LM.out; omega)).mono ?_; rintro e w11 ⟨v1, rfl, ho, hb⟩; replace HO := ak ho; replace HB := ak (hb w rfl (lG HB)); clear ho hb; skip))
   go_ret
   exact ⟨_, rfl, rG HO, lG HB⟩
  | succ k1 =>
   have c4 : decide (x13 < (l0.length : Int)) = true := decide_eq_true (by have := HX.out; omega)
   have c5 : decide (0 ≤ x13) = true := decide_eq_true (by have := HX.out; omega)
   have hi : i < l0.length := by have := HX.out; omega
   have hstep := numL_take g l0 i hi
   rw [← HX.out.1] at hstep
   have hmem : rd_T32 l0 x13 ∈ l0 := by
    rw [HX.out.1]
    unfold rd_T32
    rw [Int.toNat_natCast, List.getD_eq_getElem?_getD, List.getElem?_eq_getElem hi]
    exact List.getElem_mem hi
   have LM : Aside0 ((numL g (l0.take i)).length < 17592186044415) := ⟨by have := numL_len g (l0.take i); rw [List.length_take] at this; omega⟩
   have p103 : 0 ≤ (x13 : Int) := by have := HX.out; omega
   have q103 : x13 < (l0.length : Int) := by have := HX.out; omega
   obtain ⟨ad103, e103, hx103_0, hx103_1, hx103_2, hx103_3, hx103_4, hx103_5, hx103_6, hx103_7, hx103_8⟩ := at_T32 HR0.out x13 p103 q103
   cases e103
   replace hx103_0 := (HB.out.cell (World.block_lt_of_cell? w _ hx103_0)).trans hx103_0
   replace hx103_1 := (HB.out.cell (World.block_lt_of_cell? w _ hx103_1)).trans hx103_1
   replace hx103_2 := (HB.out.cell (World.block_lt_of_cell? w _ hx103_2)).trans hx103_2
   replace hx103_3 := (HB.out.cell (World.block_lt_of_cell? w _ hx103_3)).trans hx103_3
   replace hx103_4 := (HB.out.cell (World.block_lt_of_cell? w _ hx103_4)).trans hx103_4
   replace hx103_5 := (HB.out.cell (World.block_lt_of_cell? w _ hx103_5)).trans hx103_5
   replace hx103_6 := (HB.out.cell (World.block_lt_of_cell? w _ hx103_6)).trans hx103_6
   replace hx103_7 := (HB.out.cell (World.block_lt_of_cell? w _ hx103_7)).trans hx103_7
   replace hx103_8 := (HB.out.cell (World.block_lt_of_cell? w _ hx103_8)).trans hx103_8
   replace p103 := eq_true p103
   replace q103 := eq_true q103
   obtain ⟨y, hy⟩ : ∃ y, rd_T32 l0 x13 = y := ⟨_, rfl⟩
   rw [hy] at hmem hstep hx103_0 hx103_1 hx103_2 hx103_3 hx103_4 hx103_5 hx103_6 hx103_7 hx103_8
   have HQ0 := HP.out _ hmem
   clear hy hmem
   obtain ⟨y0, ⟨y1, y2, y3, y4, y5, y6, y7, y8⟩⟩ := y
   simp only at hx103_0 hx103_1 hx103_2 hx103_3 hx103_4 hx103_5 hx103_6 hx103_7 hx103_8
   obtain ⟨⟨gn, gb⟩, hgv⟩ : ∃ gv, g (⟨y0, ⟨y1, y2, y3, y4, y5, y6, y7, y8⟩⟩ : S32) = gv := ⟨_, rfl⟩
   simp only [hgv] at HQ0 hstep
   have HQ := ak HQ0
   clear HQ0 hgv
   have e1 : wrap64 (x13 + 1) = x13 + 1 := by have := HX.out; unfold wrap64; omega
   cases gb with
   | false =>
    have HS2 := ak (show numL g (l0.take (i + 1)) = numL g (l0.take i) by rw [hstep]; simp)
    clear hstep
    go_wp2_with (first | ((with_reducible refine gate_dst (N := 7) rfl ?_); refine bx 7 #[.int .i64 0, .int .i64 0, .int .i64 0, .int .i64 0, .int .i64 0, .int .i64 0, .string (⟨#[]⟩ : ByteArray), .string (⟨#[]⟩ : ByteArray), .string (⟨#[]⟩ : ByteArray)] 32 ?_; intro gx hg w7 hbox hb; replace HO := rB HO hb; replace BX := ak (hbox); replace GX := ak (bz hg (lG HB)); replace HB := lB HB hb; replace hx103_0 := (hb.cell (World.block_lt_of_cell? _ _ hx103_0)).trans hx103_0; replace hx103_1 := (hb.cell (World.block_lt_of_cell? _ _ hx103_1)).trans hx103_1; replace hx103_2 := (hb.cell (World.block_lt_of_cell? _ _ hx103_2)).trans hx103_2; replace hx103_3 := (hb.cell (World.block_lt_of_cell? _ _ hx103_3)).trans hx103_3; replace hx103_4 := (hb.cell (World.block_lt_of_cell? _ _ hx103_4)).trans hx103_4; replace hx103_5 := (hb.cell (World.block_lt_of_cell? _ _ hx103_5)).trans hx103_5; replace hx103_6 := (hb.cell (World.block_lt_of_cell? _ _ hx103_6)).trans hx103_6; replace hx103_7 := (hb.cell (World.block_lt_of_cell? _ _ hx103_7)).trans hx103_7; replace hx103_8 := (hb.cell (World.block_lt_of_cell? _ _ hx103_8)).trans hx103_8; clear hb hbox hg; obtain ⟨hcx_0, hcx_1, hcx_2, hcx_3, hcx_4, hcx_5, hcx_6, hcx_7, hcx_8, hfx_0, hfx_1, hfx_2, hfx_3, hfx_4, hfx_5, hfx_6, hfx_7, hfx_8⟩ := bC9 BX; skip) | (go_at_call 75; refine (HQ.out _ (lT HB (gC GX gN))).mono ?_; rintro e w8 ⟨rfl, hb⟩; replace HO := ak (Kd.R_mono (Kd.R_below (rT HO BX (by decide)) hb) (fun _ _ => trivial)); replace HB := ak (below_step (lT HB (gC GX gN)) hb); clear hb BX; skip))
    go_roundg k1
    case measure => omega
    case rel => exact ⟨x13 + 1, i + 1, by first | rfl | (rw [e1]) | (simp [e1]; done), ⟨by have := HX.out; omega, by have := HX.out; omega⟩, by rw [HS2.out]; exact ⟨rG HO⟩, ⟨lG HB⟩⟩
   | true =>
    have HS2 := ak (show numL g (l0.take (i + 1)) = numL g (l0.take i) ++ [gn] by rw [hstep]; simp)
    clear hstep
    go_wp2_with (first | ((with_reducible refine gate_dst (N := 7) rfl ?_); refine bx 7 #[.int .i64 0, .int .i64 0, .int .i64 0, .int .i64 0, .int .i64 0, .int .i64 0, .string (⟨#[]⟩ : ByteArray), .string (⟨#[]⟩ : ByteArray), .string (⟨#[]⟩ : ByteArray)] 32 ?_; intro gx hg w7 hbox hb; replace HO := rB HO hb; replace BX := ak (hbox); replace GX := ak (bz hg (lG HB)); replace HB := lB HB hb; replace hx103_0 := (hb.cell (World.block_lt_of_cell? _ _ hx103_0)).trans hx103_0; replace hx103_1 := (hb.cell (World.block_lt_of_cell? _ _ hx103_1)).trans hx103_1; replace hx103_2 := (hb.cell (World.block_lt_of_cell? _ _ hx103_2)).trans hx103_2; replace hx103_3 := (hb.cell (World.block_lt_of_cell? _ _ hx103_3)).trans hx103_3; replace hx103_4 := (hb.cell (World.block_lt_of_cell? _ _ hx103_4)).trans hx103_4; replace hx103_5 := (hb.cell (World.block_lt_of_cell? _ _ hx103_5)).trans hx103_5; replace hx103_6 := (hb.cell (World.block_lt_of_cell? _ _ hx103_6)).trans hx103_6; replace hx103_7 := (hb.cell (World.block_lt_of_cell? _ _ hx103_7)).trans hx103_7; replace hx103_8 := (hb.cell (World.block_lt_of_cell? _ _ hx103_8)).trans hx103_8; clear hb hbox hg; obtain ⟨hcx_0, hcx_1, hcx_2, hcx_3, hcx_4, hcx_5, hcx_6, hcx_7, hcx_8, hfx_0, hfx_1, hfx_2, hfx_3, hfx_4, hfx_5, hfx_6, hfx_7, hfx_8⟩ := bC9 BX; skip) | (go_at_call 75; refine (HQ.out _ (lT HB (gC GX gN))).mono ?_; rintro e w8 ⟨rfl, hb⟩; replace HO := ak (Kd.R_mono (Kd.R_below (rT HO BX (by decide)) hb) (fun _ _ => trivial)); replace HB := ak (below_step (lT HB (gC GX gN)) hb); clear hb BX; skip) | ((with_reducible refine gate_builtin (b := .append) (xs := #[.tmp 25, .tmp 27]) rfl ?_); at_builtin; refine Kd.R_append (Kd.int .i64) (w0 := w) w.heap.size rfl (.tmp 25) (.tmp 27) 56 3 (.int .i64 0) 8 rfl Try.underlying56 info3 rfl (by decide) (by omega) u5 (numL g (l0.take i)) gn [.int .i64 gn] (fun _ => True) (fun _ => False) rfl rfl ?aP (fun _ hk => hk.elim) ?aF ?aO ?aB ?aS ?aL ?_; (case aP => exact rfl); (case aB => exact (lG HB)); (case aF => exact (fun _ _ => trivial)); (case aO => exact (rG HO)); (case aS => exact (below_size (lG HB))); (case aL => have := LM.out; omega); intro v448 w9 ho hb hg hat; replace HB := ak (hb); replace HO := ak (ho); clear ho hb hg hat))
    go_roundg k1
    case measure => omega
    case rel => exact ⟨x13 + 1, i + 1, by first | rfl | (rw [e1]) | (simp [e1]; done), ⟨by have := HX.out; omega, by have := HX.out; omega⟩, by rw [HS2.out]; exact ⟨rG HO⟩, ⟨lG HB⟩⟩
def nvG (x : S32) : Int × Bool := (x.f1.f1, x.f1.f0 == 1)
theorem clo_nv (x : S32) (W : World) : Calls Try.prog 75 #[.agg #[.int .i64 x.f1.f0, .int .i64 x.f1.f1, .int .i64 x.f1.f2, .int .i64 x.f1.f3, .int .i64 x.f1.f4, .string x.f1.f5, .string x.f1.f6, .string x.f1.f7]] W fun e W' => e = .returned (.tuple #[.int .i64 (nvG x).1, .bool (nvG x).2]) ∧ Below W.heap.size W W' := by
 have hu23 := Try.underlying23
 unfold nvG
 obtain ⟨x0, ⟨x1, x2, x3, x4, x5, x6, x7, x8⟩⟩ := x
 simp only
 have HB := ak (Below.refl W.heap.size W)
 go_enter Try.func75, Try.ntmps75
 go_wp2_with (first | ((with_reducible refine gate_dst (N := 1) rfl ?_); refine bx 1 #[.int .i64 x1, .int .i64 x2, .int .i64 x3, .int .i64 x4, .int .i64 x5, .string x6, .string x7, .string x8] 23 ?_; intro gb hg w5 hbox hb; replace BX := ak (hbox); replace HB := lB HB hb; clear hb hbox hg; obtain ⟨_, _, _, _, _, _, _, _, _, _, _, _, _, _, _, _⟩ := bC8 BX; skip))
 repeat (go_quiet (fail); try go_wp2)
 go_ret2
 exact ⟨rfl, lG HB⟩
def impl_numbers_valid.f (l0 : List S32) : Option (List Int) := if l0.length < 17592186044416 then some (numC (numL nvG l0)) else none
theorem impl_numbers_valid.calls (A0 : Option Addr) (c0 : Nat) (l0 : List S32) (r : List Int) (w : World) (hr0 : Kd.C k32 w A0 l0.length l0) (hc0 : l0.length ≤ c0) (h : impl_numbers_valid.f l0 = some r) :
  Calls Try.prog 74 #[.slice A0 l0.length c0, .func (.func 75) #[] #[]] w fun e w' => ∃ v0_ : Value, e = .returned (v0_) ∧ Kd.R (Kd.int .i64) 3 w' w.heap.size (fun _ => True) v0_ r ∧ Below w.heap.size w w' := by
 unfold impl_numbers_valid.f at h
 split at h
 ·next hl =>
  obtain rfl := Option.some.inj h
  exact numbers_nv #[] nvG A0 c0 l0 w hr0 hc0 hl (fun x _ W _ => clo_nv x W)
 ·cases h
end Go.Proofs.Ytagkjeldheiejaa.PFnAnyOrder
