-- Written for this claim by a program of mine (a turned copy of the kit's print): functions as plain Lean, and their contracts. Lean checks it.
import Derived.Test.YtjpngldnkgofaaaPFnSegmentsx0
import Derived.Test.YtjpngldnkgofaaaPFnSegmentsx1
import Derived.Test.YtjpngldnkgofaaaPFnSegmentsx8
import Derived.Test.YtjpngldnkgofaaaPFnSegmentsx11
import Derived.Test.YtjpngldnkgofaaaVFnSegments1
namespace Go.Proofs.Ytjpngldnkgofaaa.PFnSegments
open Go.RowKit Go.Proofs.YtjpngldnkgofaaaW.PrintWords Go.Proofs.YtjpngldnkgofaaaW.PrintLast Go.Proofs.YtjpngldnkgofaaaW.PrintMore
attribute [local go_sem] max2_int min2_int max_two min_two max_three min_three max_four min_four   -- for this text's walks alone
set_option linter.unusedVariables false
set_option linter.unusedSimpArgs false

/-! ### impl_SegText: function 26 -/
def impl_SegText.f (k : Nat) (l0_0 : List ByteArray) (l0_1 : List (S63)) (a1 : Int) : Option (ByteArray) := (impl_in.f a1 0 10).bind fun t474 => (if t474 = true then ((impl_SegFirst.f a1).bind fun t475 => ((impl_SectorText.f k l0_0 l0_1 t475 8).bind fun bt476 => (some bt476.1))) else (some (⟨#[]⟩ : ByteArray)))
theorem impl_SegText.mono : ∀ a0 a1 a2 k, LeO (impl_SegText.f k a0 a1 a2) (impl_SegText.f (k + 1) a0 a1 a2) := by
 intro a0 a1 a2 k
 unfold impl_SegText.f
 repeat' first
   | (with_reducible exact impl_SectorText.mono _ _ _ _ _)
   | (with_reducible exact LeO.refl _)
   | (with_reducible exact LeO.none _)
   | (with_reducible refine LeO.ite ?_ ?_)
   | (with_reducible refine LeO.bind ?_ (fun _ => ?_))
   | exact impl_SectorText.mono _ _ _ _ _
   | exact LeO.none _
   | refine LeO.ite ?_ ?_
   | refine LeO.bind ?_ (fun _ => ?_)
def impl_SegText.T3 : Bool × List (List Nat × List Nat) := (true, [([], []), ([], []), ([1], [1]), ([0, 2, 2], [0, 2]), ([3], [3]), ([4], [4]), ([4], [4]), ([5, 3, 0, 1, 2, 3, 4, 5], [5]), ([6, 7, 0, 1, 2, 3, 4, 5, 6, 7], [6])])
def impl_SegText.B3 : List Nat := [0, 0, 2, 7, 15, 31, 31, 63, 255]
theorem impl_SegText.tab3 : rtab .any (opsOf Try.f26 3) = impl_SegText.T3 := by kernel_rfl
theorem impl_SegText.bits3 : waitsOk impl_SegText.T3.2 impl_SegText.B3 = true := by kernel_rfl
set_option maxHeartbeats 8000000 in
set_option maxRecDepth 100000 in
theorem impl_SegText.calls (k : Nat) (A0_0 : Option Addr) (c0_0 : Nat) (l0_0 : List ByteArray) (A0_1 : Option Addr) (c0_1 : Nat) (l0_1 : List (S63)) (a1 : Int) (r : ByteArray) (w : World) (hr0_0 : Kd.C Kd.string w A0_0 l0_0.length l0_0) (hc0_0 : l0_0.length ≤ c0_0) (hr0_1 : Kd.C k63 w A0_1 l0_1.length l0_1) (hc0_1 : l0_1.length ≤ c0_1) (h : impl_SegText.f k l0_0 l0_1 a1 = some r) :
  Calls Try.prog 26 #[.agg #[.slice A0_0 l0_0.length c0_0, .slice A0_1 l0_1.length c0_1], .int .i64 a1] w fun e w' => e = .returned (.string r) ∧ Below w.heap.size w w' := by
 have hu27 := Try.underlying27
 have HR0_0 := Aside0.mk hr0_0
 have HC0_0 := Aside0.mk hc0_0
 clear hr0_0 hc0_0
 have HR0_1 := Aside0.mk hr0_1
 have HC0_1 := Aside0.mk hc0_1
 clear hr0_1 hc0_1
 have HB := ak (Below.refl w.heap.size w)
 have H : ((impl_in.f a1 0 10).bind fun t474 => (if t474 = true then ((impl_SegFirst.f a1).bind fun t475 => ((impl_SectorText.f k l0_0 l0_1 t475 8).bind fun bt476 => (some bt476.1))) else (some (⟨#[]⟩ : ByteArray)))) = some r := h
 clear h
 replace H := Option.bind_eq_some_iff.mp H
 obtain ⟨t474, A30, H⟩ := H
 replace H : (if t474 = true then ((impl_SegFirst.f a1).bind fun t475 => ((impl_SectorText.f k l0_0 l0_1 t475 8).bind fun bt476 => (some bt476.1))) else (some (⟨#[]⟩ : ByteArray))) = some r := H
 have A3 := Aside0.mk A30
 clear A30
 by_cases c4 : t474 = true
 ·subst c4
  have H1 : ((impl_SegFirst.f a1).bind fun t475 => ((impl_SectorText.f k l0_0 l0_1 t475 8).bind fun bt476 => (some bt476.1))) = some r := by rw [if_pos rfl] at H; exact H
  clear H
  have H := H1
  clear H1
  replace H := Option.bind_eq_some_iff.mp H
  obtain ⟨t475, A50, H⟩ := H
  replace H : ((impl_SectorText.f k l0_0 l0_1 t475 8).bind fun bt476 => (some bt476.1)) = some r := H
  have A5 := Aside0.mk A50
  clear A50
  replace H := Option.bind_eq_some_iff.mp H
  obtain ⟨⟨t476, t477⟩, A60, H⟩ := H
  replace H : (some t476) = some r := H
  have A6 := Aside0.mk A60
  clear A60
  obtain rfl := Option.some.inj H
  go_enter Try.func26, Try.ntmps26
  try go_wp2_with (first | ((with_reducible refine gate_dst (N := 2) rfl ?_); refine bx 2 #[.slice A0_0 l0_0.length c0_0, .slice A0_1 l0_1.length c0_1] 27 ?_; intro gb473 hg w7 hbox hb; replace BK473 := ak (hbox); replace GW473 := ak (bz hg (lG HB)); replace GE473 := ak (bz hg (lG HB)); replace HB := lB HB hb; clear hb hbox hg) | ((with_reducible refine gate_callee (f := 50) rfl ?_); refine gl (some 8) Try.func50 #[.int .i64 a1, .int .i64 0, .int .i64 10] ?_; (with_reducible refine (impl_in.calls a1 0 10 true _ A3.out).mono ?_); rintro e w' ⟨rfl, ⟨nd, rfl⟩⟩; refine ⟨_, rfl, ?_⟩))
  (try (rw [drewN_self w7]; generalize hq_ : World.drewN w7 _ = w7; have n0_ : Aside0 (w7.heap[gb473]? = some (.cells #[.slice A0_0 l0_0.length c0_0, .slice A0_1 l0_1.length c0_1] 27 (0, 0))) := ⟨by rw [← hq_]; exact (bG BK473)⟩; have n1_ : Aside0 (Below w.heap.size w w7) := ⟨by rw [← hq_]; exact (lT HB (gC GE473 gN))⟩; clear BK473 HB hq_; have BK473 := n0_; have HB := n1_; clear n0_ n1_))
  (try (have hy473_0 : w7.cell? ⟨gb473, 0, none⟩ = some (.slice A0_0 l0_0.length c0_0) := bc BK473 0; have hv473_0 := blk_frozen BK473.out 0; have hy473_1 : w7.cell? ⟨gb473, 1, none⟩ = some (.slice A0_1 l0_1.length c0_1) := bc BK473 1; have hv473_1 := blk_frozen BK473.out 1))
  replace BK473 := ak (blk_drew BK473.out)
  replace HB := ak (below_drew1 HB.out)
  refine start_ (n := 9) (S := fun w' => w'.cell? ⟨gb473, 0, none⟩ = some (.slice A0_0 l0_0.length c0_0) ∧ w'.cell? ⟨gb473, 1, none⟩ = some (.slice A0_1 l0_1.length c0_1)) (ds := []) #[f_,f_,f_,f_,f_,f_,f_,f_,f_] (by kernel_rfl) rfl rfl ⟨bc BK473 0, bc BK473 1⟩ (fun hHeld => ?_); refine with_tabW impl_SegText.tab3 impl_SegText.bits3 (fun HT_ HW_ => ?_)
  generalize w7.drew = w8 at BK473 HB hHeld ⊢
  refine pu 1 12 (fb 9 2) HT_ ?_
  refine tk 0 11 (fb 9 3) HT_ HW_ hHeld ?_
  refine on 2 (some 13) (fb 9 7) HT_ (fun K hK => ?_)
  refine goes_ Try.func28 (by kernel_rfl) rfl #[.int .i64 a1] (by rfl) rfl rfl (by (try simp only [List.map_toArray, List.map_cons, List.map_nil]); first | done | rfl | (simp only [List.length_drop, List.length_take]; rfl)) ?_
  with_reducible refine (impl_SegFirst.calls a1 t475 _ A5.out).mono ?_
  rintro e w' ⟨rfl, ⟨nd, rfl⟩⟩
  refine ⟨_, rfl, ?_⟩
  refine hK.out _ _ ⟨bc BK473 0, bc BK473 1⟩ (fun hHeld => ?_)
  clear hK K
  refine nm ?_
  refine on 3 (some 14) (fb 9 15) HT_ (fun K hK => ?_)
  refine goes_ Try.func32 (by kernel_rfl) rfl #[.agg #[.slice A0_0 l0_0.length c0_0, .slice A0_1 l0_1.length c0_1], .int .i64 t475, .int .i64 8] (by rfl) rfl rfl (by (try simp only [List.map_toArray, List.map_cons, List.map_nil]); first | done | rfl | (simp only [List.length_drop, List.length_take]; rfl)) ?_
  with_reducible refine (impl_SectorText.calls k _ _ l0_0 _ _ l0_1 t475 8 t476 t477 _ ?side1 ?side2 ?side3 ?side4 A6.out).mono ?_
  (case side1 => repeat (first | exact (Kd.C_below HR0_0.out (lT HB (gC GE473 gN))) | (with_reducible refine Kd.C_alloc ?_ _) | (with_reducible refine Kd.C_drewN ?_ _) | (with_reducible refine Kd.C_drew ?_)))
  (case side2 => exact HC0_0.out)
  (case side3 => repeat (first | exact (Kd.C_below HR0_1.out (lT HB (gC GE473 gN))) | (with_reducible refine Kd.C_alloc ?_ _) | (with_reducible refine Kd.C_drewN ?_ _) | (with_reducible refine Kd.C_drew ?_)))
  (case side4 => exact HC0_1.out)
  rintro e w9 ⟨rfl, hb⟩
  refine ⟨_, rfl, ?_⟩
  replace BK473 := bB BK473 hb
  replace HB := ak (below_step (lT HB (gC GE473 gN)) hb)
  (try clear hb)
  (try clear hb2)
  (try clear hk)
  (try clear hi)
  refine hK.out _ _ ⟨bc BK473 0, bc BK473 1⟩ (fun hHeld => ?_)
  clear hK K
  refine nm ?_
  refine pu 4 10 (fb 9 31) HT_ ?_
  refine pu 5 15 (fb 9 63) HT_ ?_
  refine pu 6 16 (fb 9 127) HT_ ?_
  refine pu 7 5 (fb 9 255) HT_ ?_
  refine pu 8 6 (fb 9 511) HT_ ?_
  refine done_ (done_of HT_.out (by kernel_rfl)) ?_
  try go_wp2
  go_ret
  exact ⟨ew, by exact lT HB (gC GE473 gN)⟩
 ·replace c4 := Bool.eq_false_iff.mpr c4
  subst c4
  have H1 : (some (⟨#[]⟩ : ByteArray)) = some r := by rw [if_neg (show ¬ (false = true) by decide)] at H; exact H
  clear H
  have H := H1
  clear H1
  obtain rfl := Option.some.inj H
  go_enter Try.func26, Try.ntmps26
  go_wp2_with (first | ((with_reducible refine gate_dst (N := 2) rfl ?_); refine bx 2 #[.slice A0_0 l0_0.length c0_0, .slice A0_1 l0_1.length c0_1] 27 ?_; intro gb473 hg w10 hbox hb; replace BK473 := ak (hbox); replace GW473 := ak (bz hg (lG HB)); replace GE473 := ak (bz hg (lG HB)); replace HB := lB HB hb; clear hb hbox hg) | ((with_reducible refine gate_callee (f := 50) rfl ?_); refine gl (some 8) Try.func50 #[.int .i64 a1, .int .i64 0, .int .i64 10] ?_; (with_reducible refine (impl_in.calls a1 0 10 false _ A3.out).mono ?_); rintro e w' ⟨rfl, ⟨nd, rfl⟩⟩; refine ⟨_, rfl, ?_⟩))
  go_ret
  exact ⟨ew, by exact lT HB (gC GE473 gN)⟩

/-! ### spec_SegsOf: function 27 -/
def spec_SegsOf.f (l0_0 : List ByteArray) (l0_1 : List (S63)) : Option (Int) := (spec_l01In.f (wrap64 (Int.tdiv (wrap64 ((l0_0.length : Int) - 8)) 8)) 5 11).bind fun t479 => (if t479 = true then (some (wrap64 (Int.tdiv (wrap64 ((l0_0.length : Int) - 8)) 8))) else (some 0))
set_option maxHeartbeats 8000000 in
set_option maxRecDepth 100000 in
theorem spec_SegsOf.calls (A0_0 : Option Addr) (c0_0 : Nat) (l0_0 : List ByteArray) (A0_1 : Option Addr) (c0_1 : Nat) (l0_1 : List (S63)) (r : Int) (w : World) (hr0_0 : Kd.C Kd.string w A0_0 l0_0.length l0_0) (hc0_0 : l0_0.length ≤ c0_0) (hr0_1 : Kd.C k63 w A0_1 l0_1.length l0_1) (hc0_1 : l0_1.length ≤ c0_1) (h : spec_SegsOf.f l0_0 l0_1 = some r) :
  Calls Try.prog 27 #[.agg #[.slice A0_0 l0_0.length c0_0, .slice A0_1 l0_1.length c0_1]] w fun e w' => e = .returned (.int .i64 r) ∧ Below w.heap.size w w' := by
 have hu27 := Try.underlying27
 have HR0_0 := Aside0.mk hr0_0
 have HC0_0 := Aside0.mk hc0_0
 clear hr0_0 hc0_0
 have HR0_1 := Aside0.mk hr0_1
 have HC0_1 := Aside0.mk hc0_1
 clear hr0_1 hc0_1
 have HB := ak (Below.refl w.heap.size w)
 have H : ((spec_l01In.f (wrap64 (Int.tdiv (wrap64 ((l0_0.length : Int) - 8)) 8)) 5 11).bind fun t479 => (if t479 = true then (some (wrap64 (Int.tdiv (wrap64 ((l0_0.length : Int) - 8)) 8))) else (some 0))) = some r := h
 clear h
 replace H := Option.bind_eq_some_iff.mp H
 obtain ⟨t479, A20, H⟩ := H
 replace H : (if t479 = true then (some (wrap64 (Int.tdiv (wrap64 ((l0_0.length : Int) - 8)) 8))) else (some 0)) = some r := H
 have A2 := Aside0.mk A20
 clear A20
 by_cases c3 : t479 = true
 ·subst c3
  have H1 : (some (wrap64 (Int.tdiv (wrap64 ((l0_0.length : Int) - 8)) 8))) = some r := by rw [if_pos rfl] at H; exact H
  clear H
  have H := H1
  clear H1
  obtain rfl := Option.some.inj H
  go_enter Try.func27, Try.ntmps27
  go_wp2_with (first | ((with_reducible refine gate_dst (N := 1) rfl ?_); refine bx 1 #[.slice A0_0 l0_0.length c0_0, .slice A0_1 l0_1.length c0_1] 27 ?_; intro gb478 hg w4 hbox hb; replace BK478 := ak (hbox); replace GW478 := ak (bz hg (lG HB)); replace GE478 := ak (bz hg (lG HB)); replace HB := lB HB hb; clear hb hbox hg; obtain ⟨hcz5_0, hcz5_1, hfz5_0, hfz5_1⟩ := bC2 BK478) | ((with_reducible refine gate_callee (f := 49) rfl ?_); refine gl (some 10) Try.func49 #[.int .i64 (wrap64 (Int.tdiv (wrap64 ((l0_0.length : Int) - 8)) 8)), .int .i64 5, .int .i64 11] ?_; (with_reducible refine (spec_l01In.calls (wrap64 (Int.tdiv (wrap64 ((l0_0.length : Int) - 8)) 8)) 5 11 true _ A2.out).mono ?_); rintro e w' ⟨rfl, ⟨nd, rfl⟩⟩; refine ⟨_, rfl, ?_⟩))
  go_ret
  exact ⟨ew, by exact lT HB (gC GE478 gN)⟩
 ·replace c3 := Bool.eq_false_iff.mpr c3
  subst c3
  have H1 : (some 0) = some r := by rw [if_neg (show ¬ (false = true) by decide)] at H; exact H
  clear H
  have H := H1
  clear H1
  obtain rfl := Option.some.inj H
  go_enter Try.func27, Try.ntmps27
  go_wp2_with (first | ((with_reducible refine gate_dst (N := 1) rfl ?_); refine bx 1 #[.slice A0_0 l0_0.length c0_0, .slice A0_1 l0_1.length c0_1] 27 ?_; intro gb478 hg w6 hbox hb; replace BK478 := ak (hbox); replace GW478 := ak (bz hg (lG HB)); replace GE478 := ak (bz hg (lG HB)); replace HB := lB HB hb; clear hb hbox hg; obtain ⟨hcz7_0, hcz7_1, hfz7_0, hfz7_1⟩ := bC2 BK478) | ((with_reducible refine gate_callee (f := 49) rfl ?_); refine gl (some 10) Try.func49 #[.int .i64 (wrap64 (Int.tdiv (wrap64 ((l0_0.length : Int) - 8)) 8)), .int .i64 5, .int .i64 11] ?_; (with_reducible refine (spec_l01In.calls (wrap64 (Int.tdiv (wrap64 ((l0_0.length : Int) - 8)) 8)) 5 11 false _ A2.out).mono ?_); rintro e w' ⟨rfl, ⟨nd, rfl⟩⟩; refine ⟨_, rfl, ?_⟩))
  go_ret
  exact ⟨ew, by exact lT HB (gC GE478 gN)⟩

/-! ### laws_FnSegments: function 6 -/
def laws_FnSegments.l0 : Nat → Int → Int → Int → ByteArray → Bool → Bool → Int → List ByteArray → List (S63) → List ByteArray → List (S63) → Option (Bool)
 | 0, _, _, _, _, _, _, _, _, _, _, _ => none
 | k + 1, x5, x6, x7, x8, x10, x12, x13, x488000, x488001, x502000, x502001 => if x13 < x5 then ((spec_SegText.f k x488000 x488001 x13).bind fun t512 => ((impl_SegText.f k x502000 x502001 x13).bind fun t513 => (if x13 = x6 then (if 0 ≤ x7 then (if x7 ≤ (t512.size : Int) then (if (t512.extract 0 (x7 : Int).toNat).size + x8.size ≤ 9223372036854775807 then (if 0 ≤ (wrap64 (x7 + (x8.size : Int))) then (if (wrap64 (x7 + (x8.size : Int))) ≤ (t512.size : Int) then (if (t512.extract 0 (x7 : Int).toNat).size + x8.size + (t512.extract ((wrap64 (x7 + (x8.size : Int))) : Int).toNat t512.size).size ≤ 9223372036854775807 then (if t513.toList = (((t512.extract 0 (x7 : Int).toNat) ++ x8) ++ (t512.extract ((wrap64 (x7 + (x8.size : Int))) : Int).toNat t512.size)).toList then (laws_FnSegments.l0 k x5 x6 x7 x8 x10 x12 (wrap64 (x13 + 1)) x488000 x488001 x502000 x502001) else (some false)) else (none)) else (none)) else (none)) else (none)) else (none)) else (none)) else (if t512.toList = t513.toList then (laws_FnSegments.l0 k x5 x6 x7 x8 x10 x12 (wrap64 (x13 + 1)) x488000 x488001 x502000 x502001) else (some false))))) else (if x10 = true then (if x12 = true then (some false) else ((spec_SegsOf.f x488000 x488001).bind fun t510 => (if x5 = t510 then ((impl_SegFirst.f x6).bind fun t511 => (some (t511 == (wrap64 (8 + (wrap64 (8 * x6))))))) else (some false)))) else (some false))
def laws_FnSegments.f (k : Nat) (l0 : List Int) : Option (Bool) := (laws_big.f l0).bind fun t480 => (if t480 = true then (some true) else ((spec_DrawSegDisk.f k l0).bind fun bt481 => ((spec_DrawPlaces.f k l0).bind fun t488 => ((impl_SegsOf.f bt481.1 bt481.2).bind fun t491 => (if 0 < (t488.length : Int) then (if t491 = 0 then (none) else (if 1 < (t488.length : Int) then ((impl_SegWrite.f k bt481.1 bt481.2 (Int.tmod (rd t488 0) t491) (Int.tmod (rd t488 1) 200) (⟨#[119, 114, 105, 116, 116, 101, 110]⟩ : ByteArray)).bind fun bt494 => ((impl_SegWrite.f k bt481.1 bt481.2 (Int.tmod (rd t488 0) t491) 253 (⟨#[119, 114, 105, 116, 116, 101, 110]⟩ : ByteArray)).bind fun bt502 => (laws_FnSegments.l0 k t491 (Int.tmod (rd t488 0) t491) (Int.tmod (rd t488 1) 200) (⟨#[119, 114, 105, 116, 116, 101, 110]⟩ : ByteArray) bt494.2.2 bt502.2.2 0 bt481.1 bt481.2 bt494.1 bt494.2.1))) else (none))) else (none))))))
theorem laws_FnSegments.mono_l : ∀ k, (∀ y0 y1 y2 y3 y4 y5 y6 y7 y8 y9 y10, LeO (laws_FnSegments.l0 k y0 y1 y2 y3 y4 y5 y6 y7 y8 y9 y10) (laws_FnSegments.l0 (k + 1) y0 y1 y2 y3 y4 y5 y6 y7 y8 y9 y10))
 | 0 => fun _ _ _ _ _ _ _ _ _ _ _ r h => by simp [laws_FnSegments.l0] at h
 | k + 1 => by
  have ih0 := laws_FnSegments.mono_l k
  ·intro y0 y1 y2 y3 y4 y5 y6 y7 y8 y9 y10
   unfold laws_FnSegments.l0
   repeat' first
   | (with_reducible exact ih0 _ _ _ _ _ _ _ _ _ _ _)
   | (with_reducible exact impl_SegText.mono _ _ _ _)
   | (with_reducible exact impl_SegWrite.mono _ _ _ _ _ _)
   | (with_reducible exact spec_DrawPlaces.mono _ _)
   | (with_reducible exact spec_DrawSegDisk.mono _ _)
   | (with_reducible exact spec_SegText.mono _ _ _ _)
   | (with_reducible exact LeO.refl _)
   | (with_reducible exact LeO.none _)
   | (with_reducible refine LeO.ite ?_ ?_)
   | (with_reducible refine LeO.bind ?_ (fun _ => ?_))
   | exact ih0 _ _ _ _ _ _ _ _ _ _ _
   | exact impl_SegText.mono _ _ _ _
   | exact impl_SegWrite.mono _ _ _ _ _ _
   | exact spec_DrawPlaces.mono _ _
   | exact spec_DrawSegDisk.mono _ _
   | exact spec_SegText.mono _ _ _ _
   | exact LeO.none _
   | refine LeO.ite ?_ ?_
   | refine LeO.bind ?_ (fun _ => ?_)
theorem laws_FnSegments.mono : ∀ a0 k, LeO (laws_FnSegments.f k a0) (laws_FnSegments.f (k + 1) a0) := by
 intro a0 k
 have ih0 := laws_FnSegments.mono_l k
 unfold laws_FnSegments.f
 repeat' first
   | (with_reducible exact ih0 _ _ _ _ _ _ _ _ _ _ _)
   | (with_reducible exact impl_SegText.mono _ _ _ _)
   | (with_reducible exact impl_SegWrite.mono _ _ _ _ _ _)
   | (with_reducible exact spec_DrawPlaces.mono _ _)
   | (with_reducible exact spec_DrawSegDisk.mono _ _)
   | (with_reducible exact spec_SegText.mono _ _ _ _)
   | (with_reducible exact LeO.refl _)
   | (with_reducible exact LeO.none _)
   | (with_reducible refine LeO.ite ?_ ?_)
   | (with_reducible refine LeO.bind ?_ (fun _ => ?_))
   | exact ih0 _ _ _ _ _ _ _ _ _ _ _
   | exact impl_SegText.mono _ _ _ _
   | exact impl_SegWrite.mono _ _ _ _ _ _
   | exact spec_DrawPlaces.mono _ _
   | exact spec_DrawSegDisk.mono _ _
   | exact spec_SegText.mono _ _ _ _
   | exact LeO.none _
   | refine LeO.ite ?_ ?_
   | refine LeO.bind ?_ (fun _ => ?_)
set_option maxHeartbeats 8000000 in
set_option maxRecDepth 100000 in
theorem laws_FnSegments.calls (k : Nat) (A0 : Option Addr) (c0 : Nat) (l0 : List Int) (r : Bool) (w : World) (hr0 : Kd.C (Kd.int .u8) w A0 l0.length l0) (hc0 : l0.length ≤ c0) (h : laws_FnSegments.f k l0 = some r) :
  Calls Try.prog 6 #[.slice A0 l0.length c0] w fun e w' => e = .returned (.bool r) ∧ Below w.heap.size w w' := by
 have hu27 := Try.underlying27
 have HR0 := Aside0.mk hr0
 have HC0 := Aside0.mk hc0
 clear hr0 hc0
 have HB := ak (Below.refl w.heap.size w)
 have H : ((laws_big.f l0).bind fun t480 => (if t480 = true then (some true) else ((spec_DrawSegDisk.f k l0).bind fun bt481 => ((spec_DrawPlaces.f k l0).bind fun t488 => ((impl_SegsOf.f bt481.1 bt481.2).bind fun t491 => (if 0 < (t488.length : Int) then (if t491 = 0 then (none) else (if 1 < (t488.length : Int) then ((impl_SegWrite.f k bt481.1 bt481.2 (Int.tmod (rd t488 0) t491) (Int.tmod (rd t488 1) 200) (⟨#[119, 114, 105, 116, 116, 101, 110]⟩ : ByteArray)).bind fun bt494 => ((impl_SegWrite.f k bt481.1 bt481.2 (Int.tmod (rd t488 0) t491) 253 (⟨#[119, 114, 105, 116, 116, 101, 110]⟩ : ByteArray)).bind fun bt502 => (laws_FnSegments.l0 k t491 (Int.tmod (rd t488 0) t491) (Int.tmod (rd t488 1) 200) (⟨#[119, 114, 105, 116, 116, 101, 110]⟩ : ByteArray) bt494.2.2 bt502.2.2 0 bt481.1 bt481.2 bt494.1 bt494.2.1))) else (none))) else (none))))))) = some r := h
 clear h
 replace H := Option.bind_eq_some_iff.mp H
 obtain ⟨t480, A20, H⟩ := H
 replace H : (if t480 = true then (some true) else ((spec_DrawSegDisk.f k l0).bind fun bt481 => ((spec_DrawPlaces.f k l0).bind fun t488 => ((impl_SegsOf.f bt481.1 bt481.2).bind fun t491 => (if 0 < (t488.length : Int) then (if t491 = 0 then (none) else (if 1 < (t488.length : Int) then ((impl_SegWrite.f k bt481.1 bt481.2 (Int.tmod (rd t488 0) t491) (Int.tmod (rd t488 1) 200) (⟨#[119, 114, 105, 116, 116, 101, 110]⟩ : ByteArray)).bind fun bt494 => ((impl_SegWrite.f k bt481.1 bt481.2 (Int.tmod (rd t488 0) t491) 253 (⟨#[119, 114, 105, 116, 116, 101, 110]⟩ : ByteArray)).bind fun bt502 => (laws_FnSegments.l0 k t491 (Int.tmod (rd t488 0) t491) (Int.tmod (rd t488 1) 200) (⟨#[119, 114, 105, 116, 116, 101, 110]⟩ : ByteArray) bt494.2.2 bt502.2.2 0 bt481.1 bt481.2 bt494.1 bt494.2.1))) else (none))) else (none)))))) = some r := H
 have A2 := Aside0.mk A20
 clear A20
 by_cases c3 : t480 = true
 ·subst c3
  have H1 : (some true) = some r := by rw [if_pos rfl] at H; exact H
  clear H
  have H := H1
  clear H1
  obtain rfl := Option.some.inj H
  go_enter Try.func6, Try.ntmps6
  go_wp2_with (first | (go_at_call 9; (with_reducible refine (laws_big.calls _ _ l0 true _ ?side1 ?side2 A2.out).mono ?_); (case side1 => repeat (first | exact HR0.out | (with_reducible refine Kd.C_alloc ?_ _) | (with_reducible refine Kd.C_drewN ?_ _) | (with_reducible refine Kd.C_drew ?_))); (case side2 => exact HC0.out); rintro e w' ⟨rfl, ⟨nd, rfl⟩⟩; (try first | exact ⟨rfl, _, World.drewN_drewN _ _ _⟩ | exact ⟨rfl, _, Eq.trans (World.drewN_drewN _ _ _) (congrArg (World.drewN _) (Nat.add_assoc _ _ _))⟩)))
  repeat (go_quiet (first | (go_at_call 9; (with_reducible refine (laws_big.calls _ _ l0 true _ ?side1 ?side2 A2.out).mono ?_); (case side1 => repeat (first | exact HR0.out | (with_reducible refine Kd.C_alloc ?_ _) | (with_reducible refine Kd.C_drewN ?_ _) | (with_reducible refine Kd.C_drew ?_))); (case side2 => exact HC0.out); rintro e w' ⟨rfl, ⟨nd, rfl⟩⟩; (try first | exact ⟨rfl, _, World.drewN_drewN _ _ _⟩ | exact ⟨rfl, _, Eq.trans (World.drewN_drewN _ _ _) (congrArg (World.drewN _) (Nat.add_assoc _ _ _))⟩))); try go_wp2_with (first | (go_at_call 9; (with_reducible refine (laws_big.calls _ _ l0 true _ ?side1 ?side2 A2.out).mono ?_); (case side1 => repeat (first | exact HR0.out | (with_reducible refine Kd.C_alloc ?_ _) | (with_reducible refine Kd.C_drewN ?_ _) | (with_reducible refine Kd.C_drew ?_))); (case side2 => exact HC0.out); rintro e w' ⟨rfl, ⟨nd, rfl⟩⟩; (try first | exact ⟨rfl, _, World.drewN_drewN _ _ _⟩ | exact ⟨rfl, _, Eq.trans (World.drewN_drewN _ _ _) (congrArg (World.drewN _) (Nat.add_assoc _ _ _))⟩))))
  go_ret
  exact ⟨ew, by exact lG HB⟩
 ·replace c3 := Bool.eq_false_iff.mpr c3
  subst c3
  have H1 : ((spec_DrawSegDisk.f k l0).bind fun bt481 => ((spec_DrawPlaces.f k l0).bind fun t488 => ((impl_SegsOf.f bt481.1 bt481.2).bind fun t491 => (if 0 < (t488.length : Int) then (if t491 = 0 then (none) else (if 1 < (t488.length : Int) then ((impl_SegWrite.f k bt481.1 bt481.2 (Int.tmod (rd t488 0) t491) (Int.tmod (rd t488 1) 200) (⟨#[119, 114, 105, 116, 116, 101, 110]⟩ : ByteArray)).bind fun bt494 => ((impl_SegWrite.f k bt481.1 bt481.2 (Int.tmod (rd t488 0) t491) 253 (⟨#[119, 114, 105, 116, 116, 101, 110]⟩ : ByteArray)).bind fun bt502 => (laws_FnSegments.l0 k t491 (Int.tmod (rd t488 0) t491) (Int.tmod (rd t488 1) 200) (⟨#[119, 114, 105, 116, 116, 101, 110]⟩ : ByteArray) bt494.2.2 bt502.2.2 0 bt481.1 bt481.2 bt494.1 bt494.2.1))) else (none))) else (none))))) = some r := by rw [if_neg (show ¬ (false = true) by decide)] at H; exact H
  clear H
  have H := H1
  clear H1
  replace H := Option.bind_eq_some_iff.mp H
  obtain ⟨⟨t481, t484⟩, A40, H⟩ := H
  replace H : ((spec_DrawPlaces.f k l0).bind fun t488 => ((impl_SegsOf.f t481 t484).bind fun t491 => (if 0 < (t488.length : Int) then (if t491 = 0 then (none) else (if 1 < (t488.length : Int) then ((impl_SegWrite.f k t481 t484 (Int.tmod (rd t488 0) t491) (Int.tmod (rd t488 1) 200) (⟨#[119, 114, 105, 116, 116, 101, 110]⟩ : ByteArray)).bind fun bt494 => ((impl_SegWrite.f k t481 t484 (Int.tmod (rd t488 0) t491) 253 (⟨#[119, 114, 105, 116, 116, 101, 110]⟩ : ByteArray)).bind fun bt502 => (laws_FnSegments.l0 k t491 (Int.tmod (rd t488 0) t491) (Int.tmod (rd t488 1) 200) (⟨#[119, 114, 105, 116, 116, 101, 110]⟩ : ByteArray) bt494.2.2 bt502.2.2 0 t481 t484 bt494.1 bt494.2.1))) else (none))) else (none)))) = some r := H
  have A4 := Aside0.mk A40
  clear A40
  replace H := Option.bind_eq_some_iff.mp H
  obtain ⟨t488, A50, H⟩ := H
  replace H : ((impl_SegsOf.f t481 t484).bind fun t491 => (if 0 < (t488.length : Int) then (if t491 = 0 then (none) else (if 1 < (t488.length : Int) then ((impl_SegWrite.f k t481 t484 (Int.tmod (rd t488 0) t491) (Int.tmod (rd t488 1) 200) (⟨#[119, 114, 105, 116, 116, 101, 110]⟩ : ByteArray)).bind fun bt494 => ((impl_SegWrite.f k t481 t484 (Int.tmod (rd t488 0) t491) 253 (⟨#[119, 114, 105, 116, 116, 101, 110]⟩ : ByteArray)).bind fun bt502 => (laws_FnSegments.l0 k t491 (Int.tmod (rd t488 0) t491) (Int.tmod (rd t488 1) 200) (⟨#[119, 114, 105, 116, 116, 101, 110]⟩ : ByteArray) bt494.2.2 bt502.2.2 0 t481 t484 bt494.1 bt494.2.1))) else (none))) else (none))) = some r := H
  have A5 := Aside0.mk A50
  clear A50
  replace H := Option.bind_eq_some_iff.mp H
  obtain ⟨t491, A60, H⟩ := H
  replace H : (if 0 < (t488.length : Int) then (if t491 = 0 then (none) else (if 1 < (t488.length : Int) then ((impl_SegWrite.f k t481 t484 (Int.tmod (rd t488 0) t491) (Int.tmod (rd t488 1) 200) (⟨#[119, 114, 105, 116, 116, 101, 110]⟩ : ByteArray)).bind fun bt494 => ((impl_SegWrite.f k t481 t484 (Int.tmod (rd t488 0) t491) 253 (⟨#[119, 114, 105, 116, 116, 101, 110]⟩ : ByteArray)).bind fun bt502 => (laws_FnSegments.l0 k t491 (Int.tmod (rd t488 0) t491) (Int.tmod (rd t488 1) 200) (⟨#[119, 114, 105, 116, 116, 101, 110]⟩ : ByteArray) bt494.2.2 bt502.2.2 0 t481 t484 bt494.1 bt494.2.1))) else (none))) else (none)) = some r := H
  have A6 := Aside0.mk A60
  clear A60
  by_cases c7 : 0 < (t488.length : Int)
  ·rw [if_pos c7] at H
   have c7b0 : decide (0 < (t488.length : Int)) = true := decide_eq_true c7
   have c7b1 : decide (0 < t488.length) = true := decide_eq_true (by omega)
   clear c7
   by_cases c8 : t491 = 0
   ·rw [if_pos c8] at H
    exact absurd H (by simp)
   ·rw [if_neg c8] at H
    have c8b0 : (t491 == 0) = false := beq_eq_false_iff_ne.mpr c8
    have c8b1 : (t491 != 0) = true := bne_iff_ne.mpr c8
    by_cases c9 : 1 < (t488.length : Int)
    ·rw [if_pos c9] at H
     have c9b0 : decide (1 < (t488.length : Int)) = true := decide_eq_true c9
     have c9b1 : decide (1 < t488.length) = true := decide_eq_true (by omega)
     clear c9
     replace H := Option.bind_eq_some_iff.mp H
     obtain ⟨⟨t494, t497, t500⟩, A100, H⟩ := H
     replace H : ((impl_SegWrite.f k t481 t484 (Int.tmod (rd t488 0) t491) 253 (⟨#[119, 114, 105, 116, 116, 101, 110]⟩ : ByteArray)).bind fun bt502 => (laws_FnSegments.l0 k t491 (Int.tmod (rd t488 0) t491) (Int.tmod (rd t488 1) 200) (⟨#[119, 114, 105, 116, 116, 101, 110]⟩ : ByteArray) t500 bt502.2.2 0 t481 t484 t494 t497)) = some r := H
     have A10 := Aside0.mk A100
     clear A100
     replace H := Option.bind_eq_some_iff.mp H
     obtain ⟨⟨t502, t505, t508⟩, A110, H⟩ := H
     replace H : (laws_FnSegments.l0 k t491 (Int.tmod (rd t488 0) t491) (Int.tmod (rd t488 1) 200) (⟨#[119, 114, 105, 116, 116, 101, 110]⟩ : ByteArray) t500 t508 0 t481 t484 t494 t497) = some r := H
     have A11 := Aside0.mk A110
     clear A110
     have H' := Aside0.mk H
     clear H
     go_enter Try.func6, Try.ntmps6
     go_wp2_with (first | (go_at_call 9; (with_reducible refine (laws_big.calls _ _ l0 false _ ?side1 ?side2 A2.out).mono ?_); (case side1 => repeat (first | exact HR0.out | (with_reducible refine Kd.C_alloc ?_ _) | (with_reducible refine Kd.C_drewN ?_ _) | (with_reducible refine Kd.C_drew ?_))); (case side2 => exact HC0.out); rintro e w' ⟨rfl, ⟨nd, rfl⟩⟩; (try first | exact ⟨rfl, _, World.drewN_drewN _ _ _⟩ | exact ⟨rfl, _, Eq.trans (World.drewN_drewN _ _ _) (congrArg (World.drewN _) (Nat.add_assoc _ _ _))⟩)) | (go_at_call 22; (with_reducible refine (spec_DrawSegDisk.calls k _ _ l0 t481 t484 _ ?side1 ?side2 A4.out).mono ?_); (case side1 => repeat (first | exact HR0.out | (with_reducible refine Kd.C_alloc ?_ _) | (with_reducible refine Kd.C_drewN ?_ _) | (with_reducible refine Kd.C_drew ?_))); (case side2 => exact HC0.out); rintro e w12 ⟨v482, v485, rfl, ho0, ho1, hb⟩; replace HO483 := ak (Kd.R_lower ho0 (below_size (lG HB))); replace HO486 := ak (Kd.R_lower ho1 (below_size (lG HB))); replace HB := lB HB hb; (try clear hb); (try clear hk); (try clear ho0); (try clear ho1)) | ((with_reducible refine gate_dst (N := 3) rfl ?_); (try (refine gate_guard (by rfl) ?_; dsimp only)); refine bx 3 #[.slice none 0 0, .slice none 0 0] 27 ?_; intro gb487 hg w13 hbox hb; replace HO483 := rB HO483 hb; replace HO486 := rB HO486 hb; replace BK487 := ak (hbox); replace GW487 := ak (bz hg (lG HB)); replace GE487 := ak (bz hg (lG HB)); replace HB := lB HB hb; clear hb hbox hg; obtain ⟨Ao14, co14, eo14⟩ := Kd.R_slice HO483.out; subst eo14; obtain ⟨hcz15_0, hcz15_1, hfz15_0, hfz15_1⟩ := bC2 BK487; obtain ⟨Ao16, co16, eo16⟩ := Kd.R_slice HO486.out; subst eo16) | (go_at_call 11; (with_reducible refine (spec_DrawPlaces.calls k _ _ l0 t488 _ ?side1 ?side2 A5.out).mono ?_); (case side1 => exact Kd.C_below HR0.out (lT HB (gC GE487 gN))); (case side2 => exact HC0.out); rintro e w17 ⟨v489, rfl, ho0, hb⟩; replace HO483 := ak (Kd.R_below (rT HO483 BK487 (by decide)) hb); replace HO486 := ak (Kd.R_below (rT HO486 BK487 (by decide)) hb); replace HO490 := ak (Kd.R_lower ho0 (below_size (lT HB (gC GE487 gN)))); replace BK487 := ak (blk_below (g := gb487) (o := .cells #[.slice Ao14 t481.length co14, .slice Ao16 t484.length co16] 27 (0, 0)) (bW BK487) hb); replace HB := ak (below_step (lT HB (gC GE487 gN)) hb); (try clear hb); (try clear hk); (try clear ho0); obtain ⟨hcz18_0, hcz18_1, hfz18_0, hfz18_1⟩ := bC2 BK487) | (go_at_call 23; (with_reducible refine (impl_SegsOf.calls _ _ t481 _ _ t484 t491 _ ?side1 ?side2 ?side3 ?side4 A6.out).mono ?_); (case side1 => exact cG (Kd.R_reads' HO483.out).2.2); (case side2 => exact (Kd.R_reads' HO483.out).2.1); (case side3 => exact cG (Kd.R_reads' HO486.out).2.2); (case side4 => exact (Kd.R_reads' HO486.out).2.1); rintro e w19 ⟨rfl, hb⟩; replace HO483 := rB HO483 hb; replace HO486 := rB HO486 hb; replace HO490 := rB HO490 hb; replace BK487 := bB BK487 hb; replace HB := ak (below_step (lT HB (gC GE487 gN)) hb); (try clear hb); (try clear hk); obtain ⟨Ao20, co20, eo20⟩ := Kd.R_slice HO490.out; subst eo20; have p492 : 0 ≤ (0 : Int) := (by omega); have q492 : 0 < (t488.length : Int) := of_decide_eq_true (by first | (with_reducible assumption) | assumption); obtain ⟨ad492, e492, hx492_0⟩ := Kd.at_int (Kd.R_reads' HO490.out).2.2 0 p492 q492; cases e492; have qi492 : (0 < t488.length) = True := eq_true (by omega); (try rw [show ((0 : Int)).toNat = 0 from rfl] at hx492_0); (try rw [Addr.add_zero'] at hx492_0); replace p492 := eq_true p492; replace q492 := eq_true q492; have p493 : 0 ≤ (1 : Int) := (by omega); have q493 : 1 < (t488.length : Int) := of_decide_eq_true (by first | (with_reducible assumption) | assumption); obtain ⟨ad493, e493, hx493_0⟩ := Kd.at_int (Kd.R_reads' HO490.out).2.2 1 p493 q493; obtain rfl : ad492 = ad493 := (by injection e493); (try simp only [show (1 : Int).toNat = 1 from rfl, Nat.reduceMul, Nat.reduceEqDiff, Go.Addr.add, ↓reduceIte] at hx493_0); have qi493 : (1 < t488.length) = True := eq_true (by omega); (try rw [show ((1 : Int)).toNat = 1 from rfl] at hx493_0); replace p493 := eq_true p493; replace q493 := eq_true q493; obtain ⟨hcz21_0, hcz21_1, hfz21_0, hfz21_1⟩ := bC2 BK487) | (go_at_call 24; (with_reducible refine (impl_SegWrite.calls k _ _ t481 _ _ t484 (Int.tmod (rd t488 0) t491) (Int.tmod (rd t488 1) 200) (⟨#[119, 114, 105, 116, 116, 101, 110]⟩ : ByteArray) t494 t497 t500 _ ?side1 ?side2 ?side3 ?side4 A10.out).mono ?_); (case side1 => exact cG (Kd.R_reads' HO483.out).2.2); (case side2 => exact (Kd.R_reads' HO483.out).2.1); (case side3 => exact cG (Kd.R_reads' HO486.out).2.2); (case side4 => exact (Kd.R_reads' HO486.out).2.1); rintro e w22 ⟨v495, v498, rfl, ho0, ho1, hb⟩; replace HO490 := rB HO490 hb; replace HO496 := ak (Kd.R_lower (Kd.R_new' ho0 (Kd.R_lt (rG HO483))) (below_size (lT HB (gC GE487 gN)))); replace HO483 := ak (Kd.R_elder' (rG HO483) (Kd.R_base ho0) hb); replace HO499 := ak (Kd.R_lower (Kd.R_new' ho1 (Kd.R_lt (rG HO486))) (below_size (lT HB (gC GE487 gN)))); replace HO486 := ak (Kd.R_elder' (rG HO486) (Kd.R_base ho1) hb); replace BK487 := bB BK487 hb; replace HB := ak (below_step (lT HB (gC GE487 gN)) hb); (try clear hb); (try clear hk); (try clear ho0); (try clear ho1)) | ((with_reducible refine gate_dst (N := 9) rfl ?_); (try (refine gate_guard (by rfl) ?_; dsimp only)); refine bx 9 #[.slice none 0 0, .slice none 0 0] 27 ?_; intro gb501 hg w23 hbox hb; replace HO483 := rB HO483 hb; replace HO486 := rB HO486 hb; replace HO490 := rB HO490 hb; replace HO496 := rB HO496 hb; replace HO499 := rB HO499 hb; replace BK501 := ak (hbox); replace GW501 := ak (bz hg (lT HB (gC GE487 gN))); replace GE501 := ak (bz hg (lT HB (gC GE487 gN))); replace HB := ak (below_step (lT HB (gC GE487 gN)) hb); replace NB487_501 := ak (nl hg (bG BK487)); replace NB501_487 := ak (ng hg (bG BK487)); replace BK487 := bB BK487 hb; clear hb hbox hg; obtain ⟨Ao24, co24, eo24⟩ := Kd.R_slice HO496.out; subst eo24; have hnb25 := NB501_487.out; have hnc25 := NB487_501.out; obtain ⟨hcz26_0, hcz26_1, hfz26_0, hfz26_1⟩ := bC2 BK501; obtain ⟨Ao27, co27, eo27⟩ := Kd.R_slice HO499.out; subst eo27; obtain ⟨hcz28_0, hcz28_1, hfz28_0, hfz28_1⟩ := bC2 BK487) | (go_at_call 24; (with_reducible refine (impl_SegWrite.calls k _ _ t481 _ _ t484 (Int.tmod (rd t488 0) t491) 253 (⟨#[119, 114, 105, 116, 116, 101, 110]⟩ : ByteArray) t502 t505 t508 _ ?side1 ?side2 ?side3 ?side4 A11.out).mono ?_); (case side1 => exact (Kd.R_reads' (rT HO483 BK501 (by decide))).2.2); (case side2 => exact (Kd.R_reads' HO483.out).2.1); (case side3 => exact (Kd.R_reads' (rT HO486 BK501 (by decide))).2.2); (case side4 => exact (Kd.R_reads' HO486.out).2.1); rintro e w29 ⟨v503, v506, rfl, ho0, ho1, hb⟩; replace HO490 := ak (Kd.R_below (rT HO490 BK501 (by decide)) hb); replace HO504 := ak (Kd.R_lower (Kd.R_new' (Kd.R_new' ho0 (Kd.R_lt (rT HO483 BK501 (by decide)))) (Kd.R_lt (rT HO496 BK501 (by decide)))) (below_size (lT HB (gC GE487 (gC GE501 gN))))); replace HO483 := ak (Kd.R_elder' (rT HO483 BK501 (by decide)) (Kd.R_base ho0) hb); replace HO496 := ak (Kd.R_elder' (rT HO496 BK501 (by decide)) (Kd.R_base ho0) hb); replace HO507 := ak (Kd.R_lower (Kd.R_new' (Kd.R_new' ho1 (Kd.R_lt (rT HO486 BK501 (by decide)))) (Kd.R_lt (rT HO499 BK501 (by decide)))) (below_size (lT HB (gC GE487 (gC GE501 gN))))); replace HO486 := ak (Kd.R_elder' (rT HO486 BK501 (by decide)) (Kd.R_base ho1) hb); replace HO499 := ak (Kd.R_elder' (rT HO499 BK501 (by decide)) (Kd.R_base ho1) hb); replace BK487 := ak (blk_below (bT BK487 (nC NB487_501 nN)) hb); replace BK501 := ak (blk_below (g := gb501) (o := .cells #[.slice Ao24 t494.length co24, .slice Ao27 t497.length co27] 27 (0, 0)) (bW BK501) hb); replace HB := ak (below_step (lT HB (gC GE487 (gC GE501 gN))) hb); (try clear hb); (try clear hk); (try clear ho0); (try clear ho1)) | ((with_reducible refine gate_dst (N := 11) rfl ?_); (try (refine gate_guard (by rfl) ?_; dsimp only)); refine bx 11 #[.slice none 0 0, .slice none 0 0] 27 ?_; intro gb509 hg w30 hbox hb; replace HO483 := rB HO483 hb; replace HO486 := rB HO486 hb; replace HO490 := rB HO490 hb; replace HO496 := rB HO496 hb; replace HO499 := rB HO499 hb; replace HO504 := rB HO504 hb; replace HO507 := rB HO507 hb; replace BK509 := ak (hbox); replace GW509 := ak (bz hg (lT HB (gC GE487 (gC GE501 gN)))); replace GE509 := ak (bz hg (lT HB (gC GE487 (gC GE501 gN)))); replace HB := ak (below_step (lT HB (gC GE487 (gC GE501 gN))) hb); replace NB487_509 := ak (nl hg (bG BK487)); replace NB509_487 := ak (ng hg (bG BK487)); replace BK487 := bB BK487 hb; replace NB501_509 := ak (nl hg (bG BK501)); replace NB509_501 := ak (ng hg (bG BK501)); replace BK501 := bB BK501 hb; clear hb hbox hg; obtain ⟨Ao31, co31, eo31⟩ := Kd.R_slice HO504.out; subst eo31; have hnb32 := NB509_487.out; have hnc32 := NB487_509.out; have hnb33 := NB509_501.out; have hnc33 := NB501_509.out; obtain ⟨hcz34_0, hcz34_1, hfz34_0, hfz34_1⟩ := bC2 BK509; obtain ⟨Ao35, co35, eo35⟩ := Kd.R_slice HO507.out; subst eo35))
     repeat (go_quiet (first | (go_at_call 9; (with_reducible refine (laws_big.calls _ _ l0 false _ ?side1 ?side2 A2.out).mono ?_); (case side1 => repeat (first | exact HR0.out | (with_reducible refine Kd.C_alloc ?_ _) | (with_reducible refine Kd.C_drewN ?_ _) | (with_reducible refine Kd.C_drew ?_))); (case side2 => exact HC0.out); rintro e w' ⟨rfl, ⟨nd, rfl⟩⟩; (try first | exact ⟨rfl, _, World.drewN_drewN _ _ _⟩ | exact ⟨rfl, _, Eq.trans (World.drewN_drewN _ _ _) (congrArg (World.drewN _) (Nat.add_assoc _ _ _))⟩)) | (go_at_call 22; (with_reducible refine (spec_DrawSegDisk.calls k _ _ l0 t481 t484 _ ?side1 ?side2 A4.out).mono ?_); (case side1 => repeat (first | exact HR0.out | (with_reducible refine Kd.C_alloc ?_ _) | (with_reducible refine Kd.C_drewN ?_ _) | (with_reducible refine Kd.C_drew ?_))); (case side2 => exact HC0.out); rintro e w12 ⟨v482, v485, rfl, ho0, ho1, hb⟩; replace HO483 := ak (Kd.R_lower ho0 (below_size (lG HB))); replace HO486 := ak (Kd.R_lower ho1 (below_size (lG HB))); replace HB := lB HB hb; (try clear hb); (try clear hk); (try clear ho0); (try clear ho1)) | ((with_reducible refine gate_dst (N := 3) rfl ?_); (try (refine gate_guard (by rfl) ?_; dsimp only)); refine bx 3 #[.slice none 0 0, .slice none 0 0] 27 ?_; intro gb487 hg w13 hbox hb; replace HO483 := rB HO483 hb; replace HO486 := rB HO486 hb; replace BK487 := ak (hbox); replace GW487 := ak (bz hg (lG HB)); replace GE487 := ak (bz hg (lG HB)); replace HB := lB HB hb; clear hb hbox hg; obtain ⟨Ao14, co14, eo14⟩ := Kd.R_slice HO483.out; subst eo14; obtain ⟨hcz15_0, hcz15_1, hfz15_0, hfz15_1⟩ := bC2 BK487; obtain ⟨Ao16, co16, eo16⟩ := Kd.R_slice HO486.out; subst eo16) | (go_at_call 11; (with_reducible refine (spec_DrawPlaces.calls k _ _ l0 t488 _ ?side1 ?side2 A5.out).mono ?_); (case side1 => exact Kd.C_below HR0.out (lT HB (gC GE487 gN))); (case side2 => exact HC0.out); rintro e w17 ⟨v489, rfl, ho0, hb⟩; replace HO483 := ak (Kd.R_below (rT HO483 BK487 (by decide)) hb); replace HO486 := ak (Kd.R_below (rT HO486 BK487 (by decide)) hb); replace HO490 := ak (Kd.R_lower ho0 (below_size (lT HB (gC GE487 gN)))); replace BK487 := ak (blk_below (g := gb487) (o := .cells #[.slice Ao14 t481.length co14, .slice Ao16 t484.length co16] 27 (0, 0)) (bW BK487) hb); replace HB := ak (below_step (lT HB (gC GE487 gN)) hb); (try clear hb); (try clear hk); (try clear ho0); obtain ⟨hcz18_0, hcz18_1, hfz18_0, hfz18_1⟩ := bC2 BK487) | (go_at_call 23; (with_reducible refine (impl_SegsOf.calls _ _ t481 _ _ t484 t491 _ ?side1 ?side2 ?side3 ?side4 A6.out).mono ?_); (case side1 => exact cG (Kd.R_reads' HO483.out).2.2); (case side2 => exact (Kd.R_reads' HO483.out).2.1); (case side3 => exact cG (Kd.R_reads' HO486.out).2.2); (case side4 => exact (Kd.R_reads' HO486.out).2.1); rintro e w19 ⟨rfl, hb⟩; replace HO483 := rB HO483 hb; replace HO486 := rB HO486 hb; replace HO490 := rB HO490 hb; replace BK487 := bB BK487 hb; replace HB := ak (below_step (lT HB (gC GE487 gN)) hb); (try clear hb); (try clear hk); obtain ⟨Ao20, co20, eo20⟩ := Kd.R_slice HO490.out; subst eo20; have p492 : 0 ≤ (0 : Int) := (by omega); have q492 : 0 < (t488.length : Int) := of_decide_eq_true (by first | (with_reducible assumption) | assumption); obtain ⟨ad492, e492, hx492_0⟩ := Kd.at_int (Kd.R_reads' HO490.out).2.2 0 p492 q492; cases e492; have qi492 : (0 < t488.length) = True := eq_true (by omega); (try rw [show ((0 : Int)).toNat = 0 from rfl] at hx492_0); (try rw [Addr.add_zero'] at hx492_0); replace p492 := eq_true p492; replace q492 := eq_true q492; have p493 : 0 ≤ (1 : Int) := (by omega); have q493 : 1 < (t488.length : Int) := of_decide_eq_true (by first | (with_reducible assumption) | assumption); obtain ⟨ad493, e493, hx493_0⟩ := Kd.at_int (Kd.R_reads' HO490.out).2.2 1 p493 q493; obtain rfl : ad492 = ad493 := (by injection e493); (try simp only [show (1 : Int).toNat = 1 from rfl, Nat.reduceMul, Nat.reduceEqDiff, Go.Addr.add, ↓reduceIte] at hx493_0); have qi493 : (1 < t488.length) = True := eq_true (by omega); (try rw [show ((1 : Int)).toNat = 1 from rfl] at hx493_0); replace p493 := eq_true p493; replace q493 := eq_true q493; obtain ⟨hcz21_0, hcz21_1, hfz21_0, hfz21_1⟩ := bC2 BK487) | (go_at_call 24; (with_reducible refine (impl_SegWrite.calls k _ _ t481 _ _ t484 (Int.tmod (rd t488 0) t491) (Int.tmod (rd t488 1) 200) (⟨#[119, 114, 105, 116, 116, 101, 110]⟩ : ByteArray) t494 t497 t500 _ ?side1 ?side2 ?side3 ?side4 A10.out).mono ?_); (case side1 => exact cG (Kd.R_reads' HO483.out).2.2); (case side2 => exact (Kd.R_reads' HO483.out).2.1); (case side3 => exact cG (Kd.R_reads' HO486.out).2.2); (case side4 => exact (Kd.R_reads' HO486.out).2.1); rintro e w22 ⟨v495, v498, rfl, ho0, ho1, hb⟩; replace HO490 := rB HO490 hb; replace HO496 := ak (Kd.R_lower (Kd.R_new' ho0 (Kd.R_lt (rG HO483))) (below_size (lT HB (gC GE487 gN)))); replace HO483 := ak (Kd.R_elder' (rG HO483) (Kd.R_base ho0) hb); replace HO499 := ak (Kd.R_lower (Kd.R_new' ho1 (Kd.R_lt (rG HO486))) (below_size (lT HB (gC GE487 gN)))); replace HO486 := ak (Kd.R_elder' (rG HO486) (Kd.R_base ho1) hb); replace BK487 := bB BK487 hb; replace HB := ak (below_step (lT HB (gC GE487 gN)) hb); (try clear hb); (try clear hk); (try clear ho0); (try clear ho1)) | ((with_reducible refine gate_dst (N := 9) rfl ?_); (try (refine gate_guard (by rfl) ?_; dsimp only)); refine bx 9 #[.slice none 0 0, .slice none 0 0] 27 ?_; intro gb501 hg w23 hbox hb; replace HO483 := rB HO483 hb; replace HO486 := rB HO486 hb; replace HO490 := rB HO490 hb; replace HO496 := rB HO496 hb; replace HO499 := rB HO499 hb; replace BK501 := ak (hbox); replace GW501 := ak (bz hg (lT HB (gC GE487 gN))); replace GE501 := ak (bz hg (lT HB (gC GE487 gN))); replace HB := ak (below_step (lT HB (gC GE487 gN)) hb); replace NB487_501 := ak (nl hg (bG BK487)); replace NB501_487 := ak (ng hg (bG BK487)); replace BK487 := bB BK487 hb; clear hb hbox hg; obtain ⟨Ao24, co24, eo24⟩ := Kd.R_slice HO496.out; subst eo24; have hnb25 := NB501_487.out; have hnc25 := NB487_501.out; obtain ⟨hcz26_0, hcz26_1, hfz26_0, hfz26_1⟩ := bC2 BK501; obtain ⟨Ao27, co27, eo27⟩ := Kd.R_slice HO499.out; subst eo27; obtain ⟨hcz28_0, hcz28_1, hfz28_0, hfz28_1⟩ := bC2 BK487) | (go_at_call 24; (with_reducible refine (impl_SegWrite.calls k _ _ t481 _ _ t484 (Int.tmod (rd t488 0) t491) 253 (⟨#[119, 114, 105, 116, 116, 101, 110]⟩ : ByteArray) t502 t505 t508 _ ?side1 ?side2 ?side3 ?side4 A11.out).mono ?_); (case side1 => exact (Kd.R_reads' (rT HO483 BK501 (by decide))).2.2); (case side2 => exact (Kd.R_reads' HO483.out).2.1); (case side3 => exact (Kd.R_reads' (rT HO486 BK501 (by decide))).2.2); (case side4 => exact (Kd.R_reads' HO486.out).2.1); rintro e w29 ⟨v503, v506, rfl, ho0, ho1, hb⟩; replace HO490 := ak (Kd.R_below (rT HO490 BK501 (by decide)) hb); replace HO504 := ak (Kd.R_lower (Kd.R_new' (Kd.R_new' ho0 (Kd.R_lt (rT HO483 BK501 (by decide)))) (Kd.R_lt (rT HO496 BK501 (by decide)))) (below_size (lT HB (gC GE487 (gC GE501 gN))))); replace HO483 := ak (Kd.R_elder' (rT HO483 BK501 (by decide)) (Kd.R_base ho0) hb); replace HO496 := ak (Kd.R_elder' (rT HO496 BK501 (by decide)) (Kd.R_base ho0) hb); replace HO507 := ak (Kd.R_lower (Kd.R_new' (Kd.R_new' ho1 (Kd.R_lt (rT HO486 BK501 (by decide)))) (Kd.R_lt (rT HO499 BK501 (by decide)))) (below_size (lT HB (gC GE487 (gC GE501 gN))))); replace HO486 := ak (Kd.R_elder' (rT HO486 BK501 (by decide)) (Kd.R_base ho1) hb); replace HO499 := ak (Kd.R_elder' (rT HO499 BK501 (by decide)) (Kd.R_base ho1) hb); replace BK487 := ak (blk_below (bT BK487 (nC NB487_501 nN)) hb); replace BK501 := ak (blk_below (g := gb501) (o := .cells #[.slice Ao24 t494.length co24, .slice Ao27 t497.length co27] 27 (0, 0)) (bW BK501) hb); replace HB := ak (below_step (lT HB (gC GE487 (gC GE501 gN))) hb); (try clear hb); (try clear hk); (try clear ho0); (try clear ho1)) | ((with_reducible refine gate_dst (N := 11) rfl ?_); (try (refine gate_guard (by rfl) ?_; dsimp only)); refine bx 11 #[.slice none 0 0, .slice none 0 0] 27 ?_; intro gb509 hg w30 hbox hb; replace HO483 := rB HO483 hb; replace HO486 := rB HO486 hb; replace HO490 := rB HO490 hb; replace HO496 := rB HO496 hb; replace HO499 := rB HO499 hb; replace HO504 := rB HO504 hb; replace HO507 := rB HO507 hb; replace BK509 := ak (hbox); replace GW509 := ak (bz hg (lT HB (gC GE487 (gC GE501 gN)))); replace GE509 := ak (bz hg (lT HB (gC GE487 (gC GE501 gN)))); replace HB := ak (below_step (lT HB (gC GE487 (gC GE501 gN))) hb); replace NB487_509 := ak (nl hg (bG BK487)); replace NB509_487 := ak (ng hg (bG BK487)); replace BK487 := bB BK487 hb; replace NB501_509 := ak (nl hg (bG BK501)); replace NB509_501 := ak (ng hg (bG BK501)); replace BK501 := bB BK501 hb; clear hb hbox hg; obtain ⟨Ao31, co31, eo31⟩ := Kd.R_slice HO504.out; subst eo31; have hnb32 := NB509_487.out; have hnc32 := NB487_509.out; have hnb33 := NB509_501.out; have hnc33 := NB501_509.out; obtain ⟨hcz34_0, hcz34_1, hfz34_0, hfz34_1⟩ := bC2 BK509; obtain ⟨Ao35, co35, eo35⟩ := Kd.R_slice HO507.out; subst eo35)); try go_wp2_with (first | (go_at_call 9; (with_reducible refine (laws_big.calls _ _ l0 false _ ?side1 ?side2 A2.out).mono ?_); (case side1 => repeat (first | exact HR0.out | (with_reducible refine Kd.C_alloc ?_ _) | (with_reducible refine Kd.C_drewN ?_ _) | (with_reducible refine Kd.C_drew ?_))); (case side2 => exact HC0.out); rintro e w' ⟨rfl, ⟨nd, rfl⟩⟩; (try first | exact ⟨rfl, _, World.drewN_drewN _ _ _⟩ | exact ⟨rfl, _, Eq.trans (World.drewN_drewN _ _ _) (congrArg (World.drewN _) (Nat.add_assoc _ _ _))⟩)) | (go_at_call 22; (with_reducible refine (spec_DrawSegDisk.calls k _ _ l0 t481 t484 _ ?side1 ?side2 A4.out).mono ?_); (case side1 => repeat (first | exact HR0.out | (with_reducible refine Kd.C_alloc ?_ _) | (with_reducible refine Kd.C_drewN ?_ _) | (with_reducible refine Kd.C_drew ?_))); (case side2 => exact HC0.out); rintro e w12 ⟨v482, v485, rfl, ho0, ho1, hb⟩; replace HO483 := ak (Kd.R_lower ho0 (below_size (lG HB))); replace HO486 := ak (Kd.R_lower ho1 (below_size (lG HB))); replace HB := lB HB hb; (try clear hb); (try clear hk); (try clear ho0); (try clear ho1)) | ((with_reducible refine gate_dst (N := 3) rfl ?_); (try (refine gate_guard (by rfl) ?_; dsimp only)); refine bx 3 #[.slice none 0 0, .slice none 0 0] 27 ?_; intro gb487 hg w13 hbox hb; replace HO483 := rB HO483 hb; replace HO486 := rB HO486 hb; replace BK487 := ak (hbox); replace GW487 := ak (bz hg (lG HB)); replace GE487 := ak (bz hg (lG HB)); replace HB := lB HB hb; clear hb hbox hg; obtain ⟨Ao14, co14, eo14⟩ := Kd.R_slice HO483.out; subst eo14; obtain ⟨hcz15_0, hcz15_1, hfz15_0, hfz15_1⟩ := bC2 BK487; obtain ⟨Ao16, co16, eo16⟩ := Kd.R_slice HO486.out; subst eo16) | (go_at_call 11; (with_reducible refine (spec_DrawPlaces.calls k _ _ l0 t488 _ ?side1 ?side2 A5.out).mono ?_); (case side1 => exact Kd.C_below HR0.out (lT HB (gC GE487 gN))); (case side2 => exact HC0.out); rintro e w17 ⟨v489, rfl, ho0, hb⟩; replace HO483 := ak (Kd.R_below (rT HO483 BK487 (by decide)) hb); replace HO486 := ak (Kd.R_below (rT HO486 BK487 (by decide)) hb); replace HO490 := ak (Kd.R_lower ho0 (below_size (lT HB (gC GE487 gN)))); replace BK487 := ak (blk_below (g := gb487) (o := .cells #[.slice Ao14 t481.length co14, .slice Ao16 t484.length co16] 27 (0, 0)) (bW BK487) hb); replace HB := ak (below_step (lT HB (gC GE487 gN)) hb); (try clear hb); (try clear hk); (try clear ho0); obtain ⟨hcz18_0, hcz18_1, hfz18_0, hfz18_1⟩ := bC2 BK487) | (go_at_call 23; (with_reducible refine (impl_SegsOf.calls _ _ t481 _ _ t484 t491 _ ?side1 ?side2 ?side3 ?side4 A6.out).mono ?_); (case side1 => exact cG (Kd.R_reads' HO483.out).2.2); (case side2 => exact (Kd.R_reads' HO483.out).2.1); (case side3 => exact cG (Kd.R_reads' HO486.out).2.2); (case side4 => exact (Kd.R_reads' HO486.out).2.1); rintro e w19 ⟨rfl, hb⟩; replace HO483 := rB HO483 hb; replace HO486 := rB HO486 hb; replace HO490 := rB HO490 hb; replace BK487 := bB BK487 hb; replace HB := ak (below_step (lT HB (gC GE487 gN)) hb); (try clear hb); (try clear hk); obtain ⟨Ao20, co20, eo20⟩ := Kd.R_slice HO490.out; subst eo20; have p492 : 0 ≤ (0 : Int) := (by omega); have q492 : 0 < (t488.length : Int) := of_decide_eq_true (by first | (with_reducible assumption) | assumption); obtain ⟨ad492, e492, hx492_0⟩ := Kd.at_int (Kd.R_reads' HO490.out).2.2 0 p492 q492; cases e492; have qi492 : (0 < t488.length) = True := eq_true (by omega); (try rw [show ((0 : Int)).toNat = 0 from rfl] at hx492_0); (try rw [Addr.add_zero'] at hx492_0); replace p492 := eq_true p492; replace q492 := eq_true q492; have p493 : 0 ≤ (1 : Int) := (by omega); have q493 : 1 < (t488.length : Int) := of_decide_eq_true (by first | (with_reducible assumption) | assumption); obtain ⟨ad493, e493, hx493_0⟩ := Kd.at_int (Kd.R_reads' HO490.out).2.2 1 p493 q493; obtain rfl : ad492 = ad493 := (by injection e493); (try simp only [show (1 : Int).toNat = 1 from rfl, Nat.reduceMul, Nat.reduceEqDiff, Go.Addr.add, ↓reduceIte] at hx493_0); have qi493 : (1 < t488.length) = True := eq_true (by omega); (try rw [show ((1 : Int)).toNat = 1 from rfl] at hx493_0); replace p493 := eq_true p493; replace q493 := eq_true q493; obtain ⟨hcz21_0, hcz21_1, hfz21_0, hfz21_1⟩ := bC2 BK487) | (go_at_call 24; (with_reducible refine (impl_SegWrite.calls k _ _ t481 _ _ t484 (Int.tmod (rd t488 0) t491) (Int.tmod (rd t488 1) 200) (⟨#[119, 114, 105, 116, 116, 101, 110]⟩ : ByteArray) t494 t497 t500 _ ?side1 ?side2 ?side3 ?side4 A10.out).mono ?_); (case side1 => exact cG (Kd.R_reads' HO483.out).2.2); (case side2 => exact (Kd.R_reads' HO483.out).2.1); (case side3 => exact cG (Kd.R_reads' HO486.out).2.2); (case side4 => exact (Kd.R_reads' HO486.out).2.1); rintro e w22 ⟨v495, v498, rfl, ho0, ho1, hb⟩; replace HO490 := rB HO490 hb; replace HO496 := ak (Kd.R_lower (Kd.R_new' ho0 (Kd.R_lt (rG HO483))) (below_size (lT HB (gC GE487 gN)))); replace HO483 := ak (Kd.R_elder' (rG HO483) (Kd.R_base ho0) hb); replace HO499 := ak (Kd.R_lower (Kd.R_new' ho1 (Kd.R_lt (rG HO486))) (below_size (lT HB (gC GE487 gN)))); replace HO486 := ak (Kd.R_elder' (rG HO486) (Kd.R_base ho1) hb); replace BK487 := bB BK487 hb; replace HB := ak (below_step (lT HB (gC GE487 gN)) hb); (try clear hb); (try clear hk); (try clear ho0); (try clear ho1)) | ((with_reducible refine gate_dst (N := 9) rfl ?_); (try (refine gate_guard (by rfl) ?_; dsimp only)); refine bx 9 #[.slice none 0 0, .slice none 0 0] 27 ?_; intro gb501 hg w23 hbox hb; replace HO483 := rB HO483 hb; replace HO486 := rB HO486 hb; replace HO490 := rB HO490 hb; replace HO496 := rB HO496 hb; replace HO499 := rB HO499 hb; replace BK501 := ak (hbox); replace GW501 := ak (bz hg (lT HB (gC GE487 gN))); replace GE501 := ak (bz hg (lT HB (gC GE487 gN))); replace HB := ak (below_step (lT HB (gC GE487 gN)) hb); replace NB487_501 := ak (nl hg (bG BK487)); replace NB501_487 := ak (ng hg (bG BK487)); replace BK487 := bB BK487 hb; clear hb hbox hg; obtain ⟨Ao24, co24, eo24⟩ := Kd.R_slice HO496.out; subst eo24; have hnb25 := NB501_487.out; have hnc25 := NB487_501.out; obtain ⟨hcz26_0, hcz26_1, hfz26_0, hfz26_1⟩ := bC2 BK501; obtain ⟨Ao27, co27, eo27⟩ := Kd.R_slice HO499.out; subst eo27; obtain ⟨hcz28_0, hcz28_1, hfz28_0, hfz28_1⟩ := bC2 BK487) | (go_at_call 24; (with_reducible refine (impl_SegWrite.calls k _ _ t481 _ _ t484 (Int.tmod (rd t488 0) t491) 253 (⟨#[119, 114, 105, 116, 116, 101, 110]⟩ : ByteArray) t502 t505 t508 _ ?side1 ?side2 ?side3 ?side4 A11.out).mono ?_); (case side1 => exact (Kd.R_reads' (rT HO483 BK501 (by decide))).2.2); (case side2 => exact (Kd.R_reads' HO483.out).2.1); (case side3 => exact (Kd.R_reads' (rT HO486 BK501 (by decide))).2.2); (case side4 => exact (Kd.R_reads' HO486.out).2.1); rintro e w29 ⟨v503, v506, rfl, ho0, ho1, hb⟩; replace HO490 := ak (Kd.R_below (rT HO490 BK501 (by decide)) hb); replace HO504 := ak (Kd.R_lower (Kd.R_new' (Kd.R_new' ho0 (Kd.R_lt (rT HO483 BK501 (by decide)))) (Kd.R_lt (rT HO496 BK501 (by decide)))) (below_size (lT HB (gC GE487 (gC GE501 gN))))); replace HO483 := ak (Kd.R_elder' (rT HO483 BK501 (by decide)) (Kd.R_base ho0) hb); replace HO496 := ak (Kd.R_elder' (rT HO496 BK501 (by decide)) (Kd.R_base ho0) hb); replace HO507 := ak (Kd.R_lower (Kd.R_new' (Kd.R_new' ho1 (Kd.R_lt (rT HO486 BK501 (by decide)))) (Kd.R_lt (rT HO499 BK501 (by decide)))) (below_size (lT HB (gC GE487 (gC GE501 gN))))); replace HO486 := ak (Kd.R_elder' (rT HO486 BK501 (by decide)) (Kd.R_base ho1) hb); replace HO499 := ak (Kd.R_elder' (rT HO499 BK501 (by decide)) (Kd.R_base ho1) hb); replace BK487 := ak (blk_below (bT BK487 (nC NB487_501 nN)) hb); replace BK501 := ak (blk_below (g := gb501) (o := .cells #[.slice Ao24 t494.length co24, .slice Ao27 t497.length co27] 27 (0, 0)) (bW BK501) hb); replace HB := ak (below_step (lT HB (gC GE487 (gC GE501 gN))) hb); (try clear hb); (try clear hk); (try clear ho0); (try clear ho1)) | ((with_reducible refine gate_dst (N := 11) rfl ?_); (try (refine gate_guard (by rfl) ?_; dsimp only)); refine bx 11 #[.slice none 0 0, .slice none 0 0] 27 ?_; intro gb509 hg w30 hbox hb; replace HO483 := rB HO483 hb; replace HO486 := rB HO486 hb; replace HO490 := rB HO490 hb; replace HO496 := rB HO496 hb; replace HO499 := rB HO499 hb; replace HO504 := rB HO504 hb; replace HO507 := rB HO507 hb; replace BK509 := ak (hbox); replace GW509 := ak (bz hg (lT HB (gC GE487 (gC GE501 gN)))); replace GE509 := ak (bz hg (lT HB (gC GE487 (gC GE501 gN)))); replace HB := ak (below_step (lT HB (gC GE487 (gC GE501 gN))) hb); replace NB487_509 := ak (nl hg (bG BK487)); replace NB509_487 := ak (ng hg (bG BK487)); replace BK487 := bB BK487 hb; replace NB501_509 := ak (nl hg (bG BK501)); replace NB509_501 := ak (ng hg (bG BK501)); replace BK501 := bB BK501 hb; clear hb hbox hg; obtain ⟨Ao31, co31, eo31⟩ := Kd.R_slice HO504.out; subst eo31; have hnb32 := NB509_487.out; have hnc32 := NB487_509.out; have hnb33 := NB509_501.out; have hnc33 := NB501_509.out; obtain ⟨hcz34_0, hcz34_1, hfz34_0, hfz34_1⟩ := bC2 BK509; obtain ⟨Ao35, co35, eo35⟩ := Kd.R_slice HO507.out; subst eo35)))
     go_loopg [13] k (fun kq v13 w' => ∃ (x13_1 : Int), v13 = .int .i64 x13_1 ∧ Aside0 (laws_FnSegments.l0 kq t491 (Int.tmod (rd t488 0) t491) (Int.tmod (rd t488 1) 200) (⟨#[119, 114, 105, 116, 116, 101, 110]⟩ : ByteArray) t500 t508 x13_1 t481 t484 t494 t497 = some r) ∧ Aside0 (kq ≤ k) ∧ Aside0 (Kd.R Kd.string 9 w' w.heap.size (fun k_ => some k_ ≠ ((.slice Ao24 t494.length co24) : Value).ownBlock ∧ some k_ ≠ ((.slice Ao31 t502.length co31) : Value).ownBlock) (.slice Ao14 t481.length co14) t481) ∧ Aside0 (Kd.R k63 63 w' w.heap.size (fun k_ => some k_ ≠ ((.slice Ao27 t497.length co27) : Value).ownBlock ∧ some k_ ≠ ((.slice Ao35 t505.length co35) : Value).ownBlock) (.slice Ao16 t484.length co16) t484) ∧ Aside0 (Kd.R Kd.string 9 w' w.heap.size (fun k_ => some k_ ≠ ((.slice Ao14 t481.length co14) : Value).ownBlock ∧ some k_ ≠ ((.slice Ao31 t502.length co31) : Value).ownBlock) (.slice Ao24 t494.length co24) t494) ∧ Aside0 (Kd.R k63 63 w' w.heap.size (fun k_ => some k_ ≠ ((.slice Ao16 t484.length co16) : Value).ownBlock ∧ some k_ ≠ ((.slice Ao35 t505.length co35) : Value).ownBlock) (.slice Ao27 t497.length co27) t497) ∧ Aside0 (Kd.R Kd.string 9 w' w.heap.size (fun k_ => some k_ ≠ ((.slice Ao14 t481.length co14) : Value).ownBlock ∧ some k_ ≠ ((.slice Ao24 t494.length co24) : Value).ownBlock) (.slice Ao31 t502.length co31) t502) ∧ Aside0 (Kd.R k63 63 w' w.heap.size (fun k_ => some k_ ≠ ((.slice Ao16 t484.length co16) : Value).ownBlock ∧ some k_ ≠ ((.slice Ao27 t497.length co27) : Value).ownBlock) (.slice Ao35 t505.length co35) t505) ∧ Aside0 (w'.heap[gb487]? = some (.cells #[(.slice Ao14 t481.length co14), (.slice Ao16 t484.length co16)] 27 (0, 0))) ∧ Aside0 (w'.heap[gb501]? = some (.cells #[(.slice Ao24 t494.length co24), (.slice Ao27 t497.length co27)] 27 (0, 0))) ∧ Aside0 (w'.heap[gb509]? = some (.cells #[(.slice Ao31 t502.length co31), (.slice Ao35 t505.length co35)] 27 (0, 0))) ∧ Aside0 (Below w.heap.size w w'))
     case atStart => exact ⟨(0), (by first | rfl | (simp; done) | (simp [*]; done)), H', ⟨Nat.le_refl _⟩, ⟨by (with_reducible repeat (first | apply Kd.R_alloc | apply Kd.R_drewN | apply Kd.R_drew)); exact Kd.R_mono (Kd.R_far (p := ⟨gb509, 1, none⟩) (Kd.R_far (p := ⟨gb509, 0, none⟩) (Kd.R_types HO483.out BK509.out (by decide)) (fun _ hk => hk.2) (.slice Ao31 t502.length co31)) (fun _ hk => hk.2) (.slice Ao35 t505.length co35)) (fun _ hk => ⟨hk.1.1.2, hk.1.2⟩)⟩, ⟨by (with_reducible repeat (first | apply Kd.R_alloc | apply Kd.R_drewN | apply Kd.R_drew)); exact Kd.R_mono (Kd.R_far (p := ⟨gb509, 1, none⟩) (Kd.R_far (p := ⟨gb509, 0, none⟩) (Kd.R_types HO486.out BK509.out (by decide)) (fun _ hk => hk.2) (.slice Ao31 t502.length co31)) (fun _ hk => hk.2) (.slice Ao35 t505.length co35)) (fun _ hk => ⟨hk.1.1.2, hk.1.2⟩)⟩, ⟨by (with_reducible repeat (first | apply Kd.R_alloc | apply Kd.R_drewN | apply Kd.R_drew)); exact Kd.R_mono (Kd.R_far (p := ⟨gb509, 1, none⟩) (Kd.R_far (p := ⟨gb509, 0, none⟩) (Kd.R_types HO496.out BK509.out (by decide)) (fun _ hk => hk.2) (.slice Ao31 t502.length co31)) (fun _ hk => hk.2) (.slice Ao35 t505.length co35)) (fun _ hk => ⟨hk.1.1.2, hk.1.2⟩)⟩, ⟨by (with_reducible repeat (first | apply Kd.R_alloc | apply Kd.R_drewN | apply Kd.R_drew)); exact Kd.R_mono (Kd.R_far (p := ⟨gb509, 1, none⟩) (Kd.R_far (p := ⟨gb509, 0, none⟩) (Kd.R_types HO499.out BK509.out (by decide)) (fun _ hk => hk.2) (.slice Ao31 t502.length co31)) (fun _ hk => hk.2) (.slice Ao35 t505.length co35)) (fun _ hk => ⟨hk.1.1.2, hk.1.2⟩)⟩, ⟨by (with_reducible repeat (first | apply Kd.R_alloc | apply Kd.R_drewN | apply Kd.R_drew)); exact Kd.R_mono (Kd.R_far (p := ⟨gb509, 1, none⟩) (Kd.R_far (p := ⟨gb509, 0, none⟩) (Kd.R_types HO504.out BK509.out (by decide)) (fun _ hk => hk.2) (.slice Ao31 t502.length co31)) (fun _ hk => hk.2) (.slice Ao35 t505.length co35)) (fun _ hk => ⟨hk.1.1.2, hk.1.2⟩)⟩, ⟨by (with_reducible repeat (first | apply Kd.R_alloc | apply Kd.R_drewN | apply Kd.R_drew)); exact Kd.R_mono (Kd.R_far (p := ⟨gb509, 1, none⟩) (Kd.R_far (p := ⟨gb509, 0, none⟩) (Kd.R_types HO507.out BK509.out (by decide)) (fun _ hk => hk.2) (.slice Ao31 t502.length co31)) (fun _ hk => hk.2) (.slice Ao35 t505.length co35)) (fun _ hk => ⟨hk.1.1.2, hk.1.2⟩)⟩, ⟨by (with_reducible repeat (first | refine blk_drewN ?_ _ | refine blk_drew ?_ | refine blk_alloc ?_ _)); refine blk_far ?_ NB487_509.out _; (with_reducible repeat (first | refine blk_drewN ?_ _ | refine blk_drew ?_ | refine blk_alloc ?_ _)); refine blk_far ?_ NB487_509.out _; (with_reducible repeat (first | refine blk_drewN ?_ _ | refine blk_drew ?_ | refine blk_alloc ?_ _)); exact BK487.out⟩, ⟨by (with_reducible repeat (first | refine blk_drewN ?_ _ | refine blk_drew ?_ | refine blk_alloc ?_ _)); refine blk_far ?_ NB501_509.out _; (with_reducible repeat (first | refine blk_drewN ?_ _ | refine blk_drew ?_ | refine blk_alloc ?_ _)); refine blk_far ?_ NB501_509.out _; (with_reducible repeat (first | refine blk_drewN ?_ _ | refine blk_drew ?_ | refine blk_alloc ?_ _)); exact BK501.out⟩, ⟨bW BK509⟩, ⟨by exact lT HB (gC GE487 (gC GE501 (gC GE509 gN)))⟩⟩
     case round =>
      clear H'
      try clear c2
      try clear p2
      try clear c3
      try clear p4
      try clear q4
      try clear hx4
      try clear qi4
      try clear c6
      try clear c7
      try clear c7b0
      try clear c7b1
      try clear c8
      try clear c8b0
      try clear c8b1
      try clear c9
      try clear c9b0
      try clear c9b1
      try clear c25
      try clear c32
      try clear c33
      try clear hcz15_0
      try clear hcz15_1
      try clear hcz18_0
      try clear hcz18_1
      try clear hcz21_0
      try clear hcz21_1
      try clear hcz26_0
      try clear hcz26_1
      try clear hcz28_0
      try clear hcz28_1
      try clear hcz34_0
      try clear hcz34_1
      try clear hfz15_0
      try clear hfz15_1
      try clear hfz18_0
      try clear hfz18_1
      try clear hfz21_0
      try clear hfz21_1
      try clear hfz26_0
      try clear hfz26_1
      try clear hfz28_0
      try clear hfz28_1
      try clear hfz34_0
      try clear hfz34_1
      try clear hx492_0
      try clear hx493_0
      try clear p492
      try clear p493
      try clear q492
      try clear q493
      obtain ⟨x13_1, rfl, HA, HK1, HO_488000, HO_488001, HO_502000, HO_502001, HO_510000, HO_510001, BK487, BK501, BK509, HB⟩ := hrel
      cases gk with
      | zero => exact absurd HA.out (by simp [laws_FnSegments.l0])
      | succ k1 =>
       have H := HA.out
       clear HA
       simp only [laws_FnSegments.l0] at H
       by_cases c36 : x13_1 < t491
       ·rw [if_pos c36] at H
        have c36b0 : decide (x13_1 < t491) = true := decide_eq_true c36
        clear c36
        replace H := Option.bind_eq_some_iff.mp H
        obtain ⟨t512, A370, H⟩ := H
        replace H : ((impl_SegText.f k1 t494 t497 x13_1).bind fun t513 => (if x13_1 = (Int.tmod (rd t488 0) t491) then (if 0 ≤ (Int.tmod (rd t488 1) 200) then (if (Int.tmod (rd t488 1) 200) ≤ (t512.size : Int) then (if (t512.extract 0 ((Int.tmod (rd t488 1) 200) : Int).toNat).size + (⟨#[119, 114, 105, 116, 116, 101, 110]⟩ : ByteArray).size ≤ 9223372036854775807 then (if 0 ≤ (wrap64 ((Int.tmod (rd t488 1) 200) + ((⟨#[119, 114, 105, 116, 116, 101, 110]⟩ : ByteArray).size : Int))) then (if (wrap64 ((Int.tmod (rd t488 1) 200) + ((⟨#[119, 114, 105, 116, 116, 101, 110]⟩ : ByteArray).size : Int))) ≤ (t512.size : Int) then (if (t512.extract 0 ((Int.tmod (rd t488 1) 200) : Int).toNat).size + (⟨#[119, 114, 105, 116, 116, 101, 110]⟩ : ByteArray).size + (t512.extract ((wrap64 ((Int.tmod (rd t488 1) 200) + ((⟨#[119, 114, 105, 116, 116, 101, 110]⟩ : ByteArray).size : Int))) : Int).toNat t512.size).size ≤ 9223372036854775807 then (if t513.toList = (((t512.extract 0 ((Int.tmod (rd t488 1) 200) : Int).toNat) ++ (⟨#[119, 114, 105, 116, 116, 101, 110]⟩ : ByteArray)) ++ (t512.extract ((wrap64 ((Int.tmod (rd t488 1) 200) + ((⟨#[119, 114, 105, 116, 116, 101, 110]⟩ : ByteArray).size : Int))) : Int).toNat t512.size)).toList then (laws_FnSegments.l0 k1 t491 (Int.tmod (rd t488 0) t491) (Int.tmod (rd t488 1) 200) (⟨#[119, 114, 105, 116, 116, 101, 110]⟩ : ByteArray) t500 t508 (wrap64 (x13_1 + 1)) t481 t484 t494 t497) else (some false)) else (none)) else (none)) else (none)) else (none)) else (none)) else (none)) else (if t512.toList = t513.toList then (laws_FnSegments.l0 k1 t491 (Int.tmod (rd t488 0) t491) (Int.tmod (rd t488 1) 200) (⟨#[119, 114, 105, 116, 116, 101, 110]⟩ : ByteArray) t500 t508 (wrap64 (x13_1 + 1)) t481 t484 t494 t497) else (some false)))) = some r := H
        have A37 := Aside0.mk A370
        clear A370
        replace H := Option.bind_eq_some_iff.mp H
        obtain ⟨t513, A380, H⟩ := H
        replace H : (if x13_1 = (Int.tmod (rd t488 0) t491) then (if 0 ≤ (Int.tmod (rd t488 1) 200) then (if (Int.tmod (rd t488 1) 200) ≤ (t512.size : Int) then (if (t512.extract 0 ((Int.tmod (rd t488 1) 200) : Int).toNat).size + (⟨#[119, 114, 105, 116, 116, 101, 110]⟩ : ByteArray).size ≤ 9223372036854775807 then (if 0 ≤ (wrap64 ((Int.tmod (rd t488 1) 200) + ((⟨#[119, 114, 105, 116, 116, 101, 110]⟩ : ByteArray).size : Int))) then (if (wrap64 ((Int.tmod (rd t488 1) 200) + ((⟨#[119, 114, 105, 116, 116, 101, 110]⟩ : ByteArray).size : Int))) ≤ (t512.size : Int) then (if (t512.extract 0 ((Int.tmod (rd t488 1) 200) : Int).toNat).size + (⟨#[119, 114, 105, 116, 116, 101, 110]⟩ : ByteArray).size + (t512.extract ((wrap64 ((Int.tmod (rd t488 1) 200) + ((⟨#[119, 114, 105, 116, 116, 101, 110]⟩ : ByteArray).size : Int))) : Int).toNat t512.size).size ≤ 9223372036854775807 then (if t513.toList = (((t512.extract 0 ((Int.tmod (rd t488 1) 200) : Int).toNat) ++ (⟨#[119, 114, 105, 116, 116, 101, 110]⟩ : ByteArray)) ++ (t512.extract ((wrap64 ((Int.tmod (rd t488 1) 200) + ((⟨#[119, 114, 105, 116, 116, 101, 110]⟩ : ByteArray).size : Int))) : Int).toNat t512.size)).toList then (laws_FnSegments.l0 k1 t491 (Int.tmod (rd t488 0) t491) (Int.tmod (rd t488 1) 200) (⟨#[119, 114, 105, 116, 116, 101, 110]⟩ : ByteArray) t500 t508 (wrap64 (x13_1 + 1)) t481 t484 t494 t497) else (some false)) else (none)) else (none)) else (none)) else (none)) else (none)) else (none)) else (if t512.toList = t513.toList then (laws_FnSegments.l0 k1 t491 (Int.tmod (rd t488 0) t491) (Int.tmod (rd t488 1) 200) (⟨#[119, 114, 105, 116, 116, 101, 110]⟩ : ByteArray) t500 t508 (wrap64 (x13_1 + 1)) t481 t484 t494 t497) else (some false))) = some r := H
        have A38 := Aside0.mk A380
        clear A380
        by_cases c39 : x13_1 = (Int.tmod (rd t488 0) t491)
        ·rw [if_pos c39] at H
         have c39b0 : (x13_1 == (Int.tmod (rd t488 0) t491)) = true := beq_iff_eq.mpr c39
         have c39b1 : (x13_1 != (Int.tmod (rd t488 0) t491)) = false := bne_eq_false_iff_eq.mpr c39
         clear c39
         obtain ⟨ji40, hji40⟩ : ∃ j_ : Int, (Int.tmod (rd t488 1) 200) = j_ := ⟨_, rfl⟩
         replace H : (if 0 ≤ (ji40) then (if (ji40) ≤ (t512.size : Int) then (if (t512.extract 0 ((ji40) : Int).toNat).size + (⟨#[119, 114, 105, 116, 116, 101, 110]⟩ : ByteArray).size ≤ 9223372036854775807 then (if 0 ≤ (wrap64 ((ji40) + ((⟨#[119, 114, 105, 116, 116, 101, 110]⟩ : ByteArray).size : Int))) then (if (wrap64 ((ji40) + ((⟨#[119, 114, 105, 116, 116, 101, 110]⟩ : ByteArray).size : Int))) ≤ (t512.size : Int) then (if (t512.extract 0 ((ji40) : Int).toNat).size + (⟨#[119, 114, 105, 116, 116, 101, 110]⟩ : ByteArray).size + (t512.extract ((wrap64 ((ji40) + ((⟨#[119, 114, 105, 116, 116, 101, 110]⟩ : ByteArray).size : Int))) : Int).toNat t512.size).size ≤ 9223372036854775807 then (if t513.toList = (((t512.extract 0 ((ji40) : Int).toNat) ++ (⟨#[119, 114, 105, 116, 116, 101, 110]⟩ : ByteArray)) ++ (t512.extract ((wrap64 ((ji40) + ((⟨#[119, 114, 105, 116, 116, 101, 110]⟩ : ByteArray).size : Int))) : Int).toNat t512.size)).toList then (laws_FnSegments.l0 k1 t491 (Int.tmod (rd t488 0) t491) (ji40) (⟨#[119, 114, 105, 116, 116, 101, 110]⟩ : ByteArray) t500 t508 (wrap64 (x13_1 + 1)) t481 t484 t494 t497) else (some false)) else (none)) else (none)) else (none)) else (none)) else (none)) else (none)) = some r := by first | (rw [hji40] at H; exact H) | (simp only [hji40] at H ⊢; exact H)
         (try rw [hji40] at A37)
         (try rw [hji40] at A38)
         by_cases c41 : 0 ≤ (ji40)
         ·rw [if_pos c41] at H
          have c41b0 := eq_true c41
          have c41b1 : decide (0 ≤ (ji40)) = true := decide_eq_true c41
          clear c41
          by_cases c42 : (ji40) ≤ (t512.size : Int)
          ·rw [if_pos c42] at H
           have c42b0 := eq_true c42
           have c42b1 : decide ((ji40) ≤ (t512.size : Int)) = true := decide_eq_true c42
           clear c42
           by_cases c43 : (t512.extract 0 ((ji40) : Int).toNat).size + (⟨#[119, 114, 105, 116, 116, 101, 110]⟩ : ByteArray).size ≤ 9223372036854775807
           ·rw [if_pos c43] at H
            have c43b0 := eq_true c43
            have c43b1 : decide ((t512.extract 0 ((ji40) : Int).toNat).size + (⟨#[119, 114, 105, 116, 116, 101, 110]⟩ : ByteArray).size ≤ 9223372036854775807) = true := decide_eq_true c43
            try have c43b2 : (9223372036854775807 < (t512.extract 0 ((ji40) : Int).toNat).size + (⟨#[119, 114, 105, 116, 116, 101, 110]⟩ : ByteArray).size) = False := eq_false (Nat.not_lt.2 c43)
            try have c43b9 : (9223372036854775807 < ((ji40) : Int).toNat + (⟨#[119, 114, 105, 116, 116, 101, 110]⟩ : ByteArray).size) = False := eq_false (by have l0_ : (⟨#[119, 114, 105, 116, 116, 101, 110]⟩ : ByteArray).size = 7 := rfl; have h_ := c43; (try have h7_ := of_eq_true c7b0); (try have g7_ := of_decide_eq_true c7b0); (try have h9_ := of_eq_true c9b0); (try have g9_ := of_decide_eq_true c9b0); (try have h36_ := of_eq_true c36b0); (try have g36_ := of_decide_eq_true c36b0); (try have h41_ := of_eq_true c41b0); (try have g41_ := of_decide_eq_true c41b0); (try have h42_ := of_eq_true c42b0); (try have g42_ := of_decide_eq_true c42b0); simp only [ByteArray.size_extract, ByteArray.size_append] at h_; omega)
            try have c43b7 : (9223372036854775807 < min ((ji40) : Int).toNat t512.size + (⟨#[119, 114, 105, 116, 116, 101, 110]⟩ : ByteArray).size) = False := eq_false (by have l0_ : (⟨#[119, 114, 105, 116, 116, 101, 110]⟩ : ByteArray).size = 7 := rfl; have h_ := c43; (try have h7_ := of_eq_true c7b0); (try have g7_ := of_decide_eq_true c7b0); (try have h9_ := of_eq_true c9b0); (try have g9_ := of_decide_eq_true c9b0); (try have h36_ := of_eq_true c36b0); (try have g36_ := of_decide_eq_true c36b0); (try have h41_ := of_eq_true c41b0); (try have g41_ := of_decide_eq_true c41b0); (try have h42_ := of_eq_true c42b0); (try have g42_ := of_decide_eq_true c42b0); simp only [ByteArray.size_extract, ByteArray.size_append] at h_; omega)
            try have c43b8 : (9223372036854775807 < ((ji40) : Int).toNat + 7) = False := eq_false (by have l0_ : (⟨#[119, 114, 105, 116, 116, 101, 110]⟩ : ByteArray).size = 7 := rfl; have h_ := c43; (try have h7_ := of_eq_true c7b0); (try have g7_ := of_decide_eq_true c7b0); (try have h9_ := of_eq_true c9b0); (try have g9_ := of_decide_eq_true c9b0); (try have h36_ := of_eq_true c36b0); (try have g36_ := of_decide_eq_true c36b0); (try have h41_ := of_eq_true c41b0); (try have g41_ := of_decide_eq_true c41b0); (try have h42_ := of_eq_true c42b0); (try have g42_ := of_decide_eq_true c42b0); simp only [ByteArray.size_extract, ByteArray.size_append] at h_; omega)
            obtain ⟨ji44, hji44⟩ : ∃ j_ : Int, (wrap64 ((ji40) + ((⟨#[119, 114, 105, 116, 116, 101, 110]⟩ : ByteArray).size : Int))) = j_ := ⟨_, rfl⟩
            replace H : (if 0 ≤ (ji44) then (if (ji44) ≤ (t512.size : Int) then (if (t512.extract 0 ((ji40) : Int).toNat).size + (⟨#[119, 114, 105, 116, 116, 101, 110]⟩ : ByteArray).size + (t512.extract ((ji44) : Int).toNat t512.size).size ≤ 9223372036854775807 then (if t513.toList = (((t512.extract 0 ((ji40) : Int).toNat) ++ (⟨#[119, 114, 105, 116, 116, 101, 110]⟩ : ByteArray)) ++ (t512.extract ((ji44) : Int).toNat t512.size)).toList then (laws_FnSegments.l0 k1 t491 (Int.tmod (rd t488 0) t491) (ji40) (⟨#[119, 114, 105, 116, 116, 101, 110]⟩ : ByteArray) t500 t508 (wrap64 (x13_1 + 1)) t481 t484 t494 t497) else (some false)) else (none)) else (none)) else (none)) = some r := by first | (rw [hji44] at H; exact H) | (simp only [hji44] at H ⊢; exact H)
            (try rw [hji44] at A37)
            (try rw [hji44] at A38)
            have hji44w : (IntKind.i64.wrap ((ji40) + ((⟨#[119, 114, 105, 116, 116, 101, 110]⟩ : ByteArray).size : Int))) = ji44 := (i64_w _).trans hji44
            have hji44v : (IntKind.i64.wrap ((ji40) + 7)) = ji44 := hji44w
            by_cases c45 : 0 ≤ (ji44)
            ·rw [if_pos c45] at H
             have c45b0 := eq_true c45
             have c45b1 : decide (0 ≤ (ji44)) = true := decide_eq_true c45
             clear c45
             by_cases c46 : (ji44) ≤ (t512.size : Int)
             ·rw [if_pos c46] at H
              have c46b0 := eq_true c46
              have c46b1 : decide ((ji44) ≤ (t512.size : Int)) = true := decide_eq_true c46
              clear c46
              by_cases c47 : (t512.extract 0 ((ji40) : Int).toNat).size + (⟨#[119, 114, 105, 116, 116, 101, 110]⟩ : ByteArray).size + (t512.extract ((ji44) : Int).toNat t512.size).size ≤ 9223372036854775807
              ·rw [if_pos c47] at H
               have c47b0 := eq_true c47
               have c47b1 : decide ((t512.extract 0 ((ji40) : Int).toNat).size + (⟨#[119, 114, 105, 116, 116, 101, 110]⟩ : ByteArray).size + (t512.extract ((ji44) : Int).toNat t512.size).size ≤ 9223372036854775807) = true := decide_eq_true c47
               try have c47b2 : (9223372036854775807 < (t512.extract 0 ((ji40) : Int).toNat).size + (⟨#[119, 114, 105, 116, 116, 101, 110]⟩ : ByteArray).size + (t512.extract ((ji44) : Int).toNat t512.size).size) = False := eq_false (Nat.not_lt.2 c47)
               try have c47b9 : (9223372036854775807 < ((ji40) : Int).toNat + (⟨#[119, 114, 105, 116, 116, 101, 110]⟩ : ByteArray).size + (t512.size - ((ji44) : Int).toNat)) = False := eq_false (by have l0_ : (⟨#[119, 114, 105, 116, 116, 101, 110]⟩ : ByteArray).size = 7 := rfl; have h_ := c47; (try have h7_ := of_eq_true c7b0); (try have g7_ := of_decide_eq_true c7b0); (try have h9_ := of_eq_true c9b0); (try have g9_ := of_decide_eq_true c9b0); (try have h36_ := of_eq_true c36b0); (try have g36_ := of_decide_eq_true c36b0); (try have h41_ := of_eq_true c41b0); (try have g41_ := of_decide_eq_true c41b0); (try have h42_ := of_eq_true c42b0); (try have g42_ := of_decide_eq_true c42b0); (try have h43_ := of_eq_true c43b0); (try have g43_ := of_decide_eq_true c43b0); (try simp only [ByteArray.size_extract, ByteArray.size_append] at h43_); (try have h45_ := of_eq_true c45b0); (try have g45_ := of_decide_eq_true c45b0); (try have h46_ := of_eq_true c46b0); (try have g46_ := of_decide_eq_true c46b0); simp only [ByteArray.size_extract, ByteArray.size_append] at h_; omega)
               try have c47b7 : (9223372036854775807 < min ((ji40) : Int).toNat t512.size + (⟨#[119, 114, 105, 116, 116, 101, 110]⟩ : ByteArray).size + (t512.size - ((ji44) : Int).toNat)) = False := eq_false (by have l0_ : (⟨#[119, 114, 105, 116, 116, 101, 110]⟩ : ByteArray).size = 7 := rfl; have h_ := c47; (try have h7_ := of_eq_true c7b0); (try have g7_ := of_decide_eq_true c7b0); (try have h9_ := of_eq_true c9b0); (try have g9_ := of_decide_eq_true c9b0); (try have h36_ := of_eq_true c36b0); (try have g36_ := of_decide_eq_true c36b0); (try have h41_ := of_eq_true c41b0); (try have g41_ := of_decide_eq_true c41b0); (try have h42_ := of_eq_true c42b0); (try have g42_ := of_decide_eq_true c42b0); (try have h43_ := of_eq_true c43b0); (try have g43_ := of_decide_eq_true c43b0); (try simp only [ByteArray.size_extract, ByteArray.size_append] at h43_); (try have h45_ := of_eq_true c45b0); (try have g45_ := of_decide_eq_true c45b0); (try have h46_ := of_eq_true c46b0); (try have g46_ := of_decide_eq_true c46b0); simp only [ByteArray.size_extract, ByteArray.size_append] at h_; omega)
               try have c47b8 : (9223372036854775807 < ((ji40) : Int).toNat + 7 + (t512.size - ((ji44) : Int).toNat)) = False := eq_false (by have l0_ : (⟨#[119, 114, 105, 116, 116, 101, 110]⟩ : ByteArray).size = 7 := rfl; have h_ := c47; (try have h7_ := of_eq_true c7b0); (try have g7_ := of_decide_eq_true c7b0); (try have h9_ := of_eq_true c9b0); (try have g9_ := of_decide_eq_true c9b0); (try have h36_ := of_eq_true c36b0); (try have g36_ := of_decide_eq_true c36b0); (try have h41_ := of_eq_true c41b0); (try have g41_ := of_decide_eq_true c41b0); (try have h42_ := of_eq_true c42b0); (try have g42_ := of_decide_eq_true c42b0); (try have h43_ := of_eq_true c43b0); (try have g43_ := of_decide_eq_true c43b0); (try simp only [ByteArray.size_extract, ByteArray.size_append] at h43_); (try have h45_ := of_eq_true c45b0); (try have g45_ := of_decide_eq_true c45b0); (try have h46_ := of_eq_true c46b0); (try have g46_ := of_decide_eq_true c46b0); simp only [ByteArray.size_extract, ByteArray.size_append] at h_; omega)
               by_cases c48 : t513.toList = (((t512.extract 0 ((ji40) : Int).toNat) ++ (⟨#[119, 114, 105, 116, 116, 101, 110]⟩ : ByteArray)) ++ (t512.extract ((ji44) : Int).toNat t512.size)).toList
               ·rw [if_pos c48] at H
                have c48b0 : (t513.toList == (((t512.extract 0 ((ji40) : Int).toNat) ++ (⟨#[119, 114, 105, 116, 116, 101, 110]⟩ : ByteArray)) ++ (t512.extract ((ji44) : Int).toNat t512.size)).toList) = true := beq_iff_eq.mpr c48
                have c48b1 : (t513.toList != (((t512.extract 0 ((ji40) : Int).toNat) ++ (⟨#[119, 114, 105, 116, 116, 101, 110]⟩ : ByteArray)) ++ (t512.extract ((ji44) : Int).toNat t512.size)).toList) = false := bne_eq_false_iff_eq.mpr c48
                clear c48
                have H' := Aside0.mk H
                clear H
                have hnb49 := NB487_501.out
                have hnc49 := NB501_487.out
                have hnb50 := NB487_509.out
                have hnc50 := NB509_487.out
                have hcz51_0 : wr.cell? ⟨gb487, 0, none⟩ = some (.slice Ao14 t481.length co14) := bc BK487 0
                have hcz51_1 : wr.cell? ⟨gb487, 1, none⟩ = some (.slice Ao16 t484.length co16) := bc BK487 1
                have hfz51_0 := blk_frozen BK487.out 0
                have hfz51_1 := blk_frozen BK487.out 1
                go_wp2_with (first | (go_at_call 25; (with_reducible refine (spec_SegText.calls k1 _ _ t481 _ _ t484 x13_1 t512 _ ?side1 ?side2 ?side3 ?side4 A37.out).mono ?_); (case side1 => exact cG (Kd.R_reads' HO_488000.out).2.2); (case side2 => exact (Kd.R_reads' HO_488000.out).2.1); (case side3 => exact cG (Kd.R_reads' HO_488001.out).2.2); (case side4 => exact (Kd.R_reads' HO_488001.out).2.1); rintro e w52 ⟨rfl, hb⟩; replace HO_488000 := rB HO_488000 hb; replace HO_488001 := rB HO_488001 hb; replace HO_502000 := rB HO_502000 hb; replace HO_502001 := rB HO_502001 hb; replace HO_510000 := rB HO_510000 hb; replace HO_510001 := rB HO_510001 hb; replace BK487 := bB BK487 hb; replace BK501 := bB BK501 hb; replace BK509 := bB BK509 hb; replace HB := ak (below_step (lT HB (gC GE487 (gC GE501 (gC GE509 gN)))) hb); (try clear hb); (try clear hk); have hnb53 := NB501_509.out; have hnc53 := NB509_501.out; obtain ⟨hcz54_0, hcz54_1, hfz54_0, hfz54_1⟩ := bC2 BK501) | (go_at_call 26; (with_reducible refine (impl_SegText.calls k1 _ _ t494 _ _ t497 x13_1 t513 _ ?side1 ?side2 ?side3 ?side4 A38.out).mono ?_); (case side1 => exact cG (Kd.R_reads' HO_502000.out).2.2); (case side2 => exact (Kd.R_reads' HO_502000.out).2.1); (case side3 => exact cG (Kd.R_reads' HO_502001.out).2.2); (case side4 => exact (Kd.R_reads' HO_502001.out).2.1); rintro e w55 ⟨rfl, hb⟩; replace HO_488000 := rB HO_488000 hb; replace HO_488001 := rB HO_488001 hb; replace HO_502000 := rB HO_502000 hb; replace HO_502001 := rB HO_502001 hb; replace HO_510000 := rB HO_510000 hb; replace HO_510001 := rB HO_510001 hb; replace BK487 := bB BK487 hb; replace BK501 := bB BK501 hb; replace BK509 := bB BK509 hb; replace HB := ak (below_step (lT HB (gC GE487 (gC GE501 (gC GE509 gN)))) hb); (try clear hb); (try clear hk)))
                repeat (go_quiet (first | (go_at_call 25; (with_reducible refine (spec_SegText.calls k1 _ _ t481 _ _ t484 x13_1 t512 _ ?side1 ?side2 ?side3 ?side4 A37.out).mono ?_); (case side1 => exact cG (Kd.R_reads' HO_488000.out).2.2); (case side2 => exact (Kd.R_reads' HO_488000.out).2.1); (case side3 => exact cG (Kd.R_reads' HO_488001.out).2.2); (case side4 => exact (Kd.R_reads' HO_488001.out).2.1); rintro e w52 ⟨rfl, hb⟩; replace HO_488000 := rB HO_488000 hb; replace HO_488001 := rB HO_488001 hb; replace HO_502000 := rB HO_502000 hb; replace HO_502001 := rB HO_502001 hb; replace HO_510000 := rB HO_510000 hb; replace HO_510001 := rB HO_510001 hb; replace BK487 := bB BK487 hb; replace BK501 := bB BK501 hb; replace BK509 := bB BK509 hb; replace HB := ak (below_step (lT HB (gC GE487 (gC GE501 (gC GE509 gN)))) hb); (try clear hb); (try clear hk); have hnb53 := NB501_509.out; have hnc53 := NB509_501.out; obtain ⟨hcz54_0, hcz54_1, hfz54_0, hfz54_1⟩ := bC2 BK501) | (go_at_call 26; (with_reducible refine (impl_SegText.calls k1 _ _ t494 _ _ t497 x13_1 t513 _ ?side1 ?side2 ?side3 ?side4 A38.out).mono ?_); (case side1 => exact cG (Kd.R_reads' HO_502000.out).2.2); (case side2 => exact (Kd.R_reads' HO_502000.out).2.1); (case side3 => exact cG (Kd.R_reads' HO_502001.out).2.2); (case side4 => exact (Kd.R_reads' HO_502001.out).2.1); rintro e w55 ⟨rfl, hb⟩; replace HO_488000 := rB HO_488000 hb; replace HO_488001 := rB HO_488001 hb; replace HO_502000 := rB HO_502000 hb; replace HO_502001 := rB HO_502001 hb; replace HO_510000 := rB HO_510000 hb; replace HO_510001 := rB HO_510001 hb; replace BK487 := bB BK487 hb; replace BK501 := bB BK501 hb; replace BK509 := bB BK509 hb; replace HB := ak (below_step (lT HB (gC GE487 (gC GE501 (gC GE509 gN)))) hb); (try clear hb); (try clear hk))); try go_wp2_with (first | (go_at_call 25; (with_reducible refine (spec_SegText.calls k1 _ _ t481 _ _ t484 x13_1 t512 _ ?side1 ?side2 ?side3 ?side4 A37.out).mono ?_); (case side1 => exact cG (Kd.R_reads' HO_488000.out).2.2); (case side2 => exact (Kd.R_reads' HO_488000.out).2.1); (case side3 => exact cG (Kd.R_reads' HO_488001.out).2.2); (case side4 => exact (Kd.R_reads' HO_488001.out).2.1); rintro e w52 ⟨rfl, hb⟩; replace HO_488000 := rB HO_488000 hb; replace HO_488001 := rB HO_488001 hb; replace HO_502000 := rB HO_502000 hb; replace HO_502001 := rB HO_502001 hb; replace HO_510000 := rB HO_510000 hb; replace HO_510001 := rB HO_510001 hb; replace BK487 := bB BK487 hb; replace BK501 := bB BK501 hb; replace BK509 := bB BK509 hb; replace HB := ak (below_step (lT HB (gC GE487 (gC GE501 (gC GE509 gN)))) hb); (try clear hb); (try clear hk); have hnb53 := NB501_509.out; have hnc53 := NB509_501.out; obtain ⟨hcz54_0, hcz54_1, hfz54_0, hfz54_1⟩ := bC2 BK501) | (go_at_call 26; (with_reducible refine (impl_SegText.calls k1 _ _ t494 _ _ t497 x13_1 t513 _ ?side1 ?side2 ?side3 ?side4 A38.out).mono ?_); (case side1 => exact cG (Kd.R_reads' HO_502000.out).2.2); (case side2 => exact (Kd.R_reads' HO_502000.out).2.1); (case side3 => exact cG (Kd.R_reads' HO_502001.out).2.2); (case side4 => exact (Kd.R_reads' HO_502001.out).2.1); rintro e w55 ⟨rfl, hb⟩; replace HO_488000 := rB HO_488000 hb; replace HO_488001 := rB HO_488001 hb; replace HO_502000 := rB HO_502000 hb; replace HO_502001 := rB HO_502001 hb; replace HO_510000 := rB HO_510000 hb; replace HO_510001 := rB HO_510001 hb; replace BK487 := bB BK487 hb; replace BK501 := bB BK501 hb; replace BK509 := bB BK509 hb; replace HB := ak (below_step (lT HB (gC GE487 (gC GE501 (gC GE509 gN)))) hb); (try clear hb); (try clear hk))))
                (try subst hji40)
                go_roundg k1
                case measure => have := HK1.out; omega
                case rel => exact ⟨(wrap64 (x13_1 + 1)), (by first | rfl | (simp; done) | (simp [*]; done)), H', ⟨by have := HK1.out; omega⟩, ⟨by (with_reducible repeat (first | apply Kd.R_alloc | apply Kd.R_drewN | apply Kd.R_drew)); exact HO_488000.out⟩, ⟨by (with_reducible repeat (first | apply Kd.R_alloc | apply Kd.R_drewN | apply Kd.R_drew)); exact HO_488001.out⟩, ⟨by (with_reducible repeat (first | apply Kd.R_alloc | apply Kd.R_drewN | apply Kd.R_drew)); exact HO_502000.out⟩, ⟨by (with_reducible repeat (first | apply Kd.R_alloc | apply Kd.R_drewN | apply Kd.R_drew)); exact HO_502001.out⟩, ⟨by (with_reducible repeat (first | apply Kd.R_alloc | apply Kd.R_drewN | apply Kd.R_drew)); exact HO_510000.out⟩, ⟨by (with_reducible repeat (first | apply Kd.R_alloc | apply Kd.R_drewN | apply Kd.R_drew)); exact HO_510001.out⟩, ⟨bG BK487⟩, ⟨bG BK501⟩, ⟨bG BK509⟩, ⟨by exact lT HB (gC GE487 (gC GE501 (gC GE509 gN)))⟩⟩
               ·rw [if_neg c48] at H
                have c48b0 : (t513.toList == (((t512.extract 0 ((ji40) : Int).toNat) ++ (⟨#[119, 114, 105, 116, 116, 101, 110]⟩ : ByteArray)) ++ (t512.extract ((ji44) : Int).toNat t512.size)).toList) = false := beq_eq_false_iff_ne.mpr c48
                have c48b1 : (t513.toList != (((t512.extract 0 ((ji40) : Int).toNat) ++ (⟨#[119, 114, 105, 116, 116, 101, 110]⟩ : ByteArray)) ++ (t512.extract ((ji44) : Int).toNat t512.size)).toList) = true := bne_iff_ne.mpr c48
                obtain rfl := Option.some.inj H
                have hnb56 := NB487_501.out
                have hnc56 := NB501_487.out
                have hnb57 := NB487_509.out
                have hnc57 := NB509_487.out
                have hcz58_0 : wr.cell? ⟨gb487, 0, none⟩ = some (.slice Ao14 t481.length co14) := bc BK487 0
                have hcz58_1 : wr.cell? ⟨gb487, 1, none⟩ = some (.slice Ao16 t484.length co16) := bc BK487 1
                have hfz58_0 := blk_frozen BK487.out 0
                have hfz58_1 := blk_frozen BK487.out 1
                go_wp2_with (first | (go_at_call 25; (with_reducible refine (spec_SegText.calls k1 _ _ t481 _ _ t484 x13_1 t512 _ ?side1 ?side2 ?side3 ?side4 A37.out).mono ?_); (case side1 => exact cG (Kd.R_reads' HO_488000.out).2.2); (case side2 => exact (Kd.R_reads' HO_488000.out).2.1); (case side3 => exact cG (Kd.R_reads' HO_488001.out).2.2); (case side4 => exact (Kd.R_reads' HO_488001.out).2.1); rintro e w59 ⟨rfl, hb⟩; replace HO_488000 := rB HO_488000 hb; replace HO_488001 := rB HO_488001 hb; replace HO_502000 := rB HO_502000 hb; replace HO_502001 := rB HO_502001 hb; replace HO_510000 := rB HO_510000 hb; replace HO_510001 := rB HO_510001 hb; replace BK487 := bB BK487 hb; replace BK501 := bB BK501 hb; replace BK509 := bB BK509 hb; replace HB := ak (below_step (lT HB (gC GE487 (gC GE501 (gC GE509 gN)))) hb); (try clear hb); (try clear hk); have hnb60 := NB501_509.out; have hnc60 := NB509_501.out; obtain ⟨hcz61_0, hcz61_1, hfz61_0, hfz61_1⟩ := bC2 BK501) | (go_at_call 26; (with_reducible refine (impl_SegText.calls k1 _ _ t494 _ _ t497 x13_1 t513 _ ?side1 ?side2 ?side3 ?side4 A38.out).mono ?_); (case side1 => exact cG (Kd.R_reads' HO_502000.out).2.2); (case side2 => exact (Kd.R_reads' HO_502000.out).2.1); (case side3 => exact cG (Kd.R_reads' HO_502001.out).2.2); (case side4 => exact (Kd.R_reads' HO_502001.out).2.1); rintro e w62 ⟨rfl, hb⟩; replace HO_488000 := rB HO_488000 hb; replace HO_488001 := rB HO_488001 hb; replace HO_502000 := rB HO_502000 hb; replace HO_502001 := rB HO_502001 hb; replace HO_510000 := rB HO_510000 hb; replace HO_510001 := rB HO_510001 hb; replace BK487 := bB BK487 hb; replace BK501 := bB BK501 hb; replace BK509 := bB BK509 hb; replace HB := ak (below_step (lT HB (gC GE487 (gC GE501 (gC GE509 gN)))) hb); (try clear hb); (try clear hk)))
                repeat (go_quiet (first | (go_at_call 25; (with_reducible refine (spec_SegText.calls k1 _ _ t481 _ _ t484 x13_1 t512 _ ?side1 ?side2 ?side3 ?side4 A37.out).mono ?_); (case side1 => exact cG (Kd.R_reads' HO_488000.out).2.2); (case side2 => exact (Kd.R_reads' HO_488000.out).2.1); (case side3 => exact cG (Kd.R_reads' HO_488001.out).2.2); (case side4 => exact (Kd.R_reads' HO_488001.out).2.1); rintro e w59 ⟨rfl, hb⟩; replace HO_488000 := rB HO_488000 hb; replace HO_488001 := rB HO_488001 hb; replace HO_502000 := rB HO_502000 hb; replace HO_502001 := rB HO_502001 hb; replace HO_510000 := rB HO_510000 hb; replace HO_510001 := rB HO_510001 hb; replace BK487 := bB BK487 hb; replace BK501 := bB BK501 hb; replace BK509 := bB BK509 hb; replace HB := ak (below_step (lT HB (gC GE487 (gC GE501 (gC GE509 gN)))) hb); (try clear hb); (try clear hk); have hnb60 := NB501_509.out; have hnc60 := NB509_501.out; obtain ⟨hcz61_0, hcz61_1, hfz61_0, hfz61_1⟩ := bC2 BK501) | (go_at_call 26; (with_reducible refine (impl_SegText.calls k1 _ _ t494 _ _ t497 x13_1 t513 _ ?side1 ?side2 ?side3 ?side4 A38.out).mono ?_); (case side1 => exact cG (Kd.R_reads' HO_502000.out).2.2); (case side2 => exact (Kd.R_reads' HO_502000.out).2.1); (case side3 => exact cG (Kd.R_reads' HO_502001.out).2.2); (case side4 => exact (Kd.R_reads' HO_502001.out).2.1); rintro e w62 ⟨rfl, hb⟩; replace HO_488000 := rB HO_488000 hb; replace HO_488001 := rB HO_488001 hb; replace HO_502000 := rB HO_502000 hb; replace HO_502001 := rB HO_502001 hb; replace HO_510000 := rB HO_510000 hb; replace HO_510001 := rB HO_510001 hb; replace BK487 := bB BK487 hb; replace BK501 := bB BK501 hb; replace BK509 := bB BK509 hb; replace HB := ak (below_step (lT HB (gC GE487 (gC GE501 (gC GE509 gN)))) hb); (try clear hb); (try clear hk))); try go_wp2_with (first | (go_at_call 25; (with_reducible refine (spec_SegText.calls k1 _ _ t481 _ _ t484 x13_1 t512 _ ?side1 ?side2 ?side3 ?side4 A37.out).mono ?_); (case side1 => exact cG (Kd.R_reads' HO_488000.out).2.2); (case side2 => exact (Kd.R_reads' HO_488000.out).2.1); (case side3 => exact cG (Kd.R_reads' HO_488001.out).2.2); (case side4 => exact (Kd.R_reads' HO_488001.out).2.1); rintro e w59 ⟨rfl, hb⟩; replace HO_488000 := rB HO_488000 hb; replace HO_488001 := rB HO_488001 hb; replace HO_502000 := rB HO_502000 hb; replace HO_502001 := rB HO_502001 hb; replace HO_510000 := rB HO_510000 hb; replace HO_510001 := rB HO_510001 hb; replace BK487 := bB BK487 hb; replace BK501 := bB BK501 hb; replace BK509 := bB BK509 hb; replace HB := ak (below_step (lT HB (gC GE487 (gC GE501 (gC GE509 gN)))) hb); (try clear hb); (try clear hk); have hnb60 := NB501_509.out; have hnc60 := NB509_501.out; obtain ⟨hcz61_0, hcz61_1, hfz61_0, hfz61_1⟩ := bC2 BK501) | (go_at_call 26; (with_reducible refine (impl_SegText.calls k1 _ _ t494 _ _ t497 x13_1 t513 _ ?side1 ?side2 ?side3 ?side4 A38.out).mono ?_); (case side1 => exact cG (Kd.R_reads' HO_502000.out).2.2); (case side2 => exact (Kd.R_reads' HO_502000.out).2.1); (case side3 => exact cG (Kd.R_reads' HO_502001.out).2.2); (case side4 => exact (Kd.R_reads' HO_502001.out).2.1); rintro e w62 ⟨rfl, hb⟩; replace HO_488000 := rB HO_488000 hb; replace HO_488001 := rB HO_488001 hb; replace HO_502000 := rB HO_502000 hb; replace HO_502001 := rB HO_502001 hb; replace HO_510000 := rB HO_510000 hb; replace HO_510001 := rB HO_510001 hb; replace BK487 := bB BK487 hb; replace BK501 := bB BK501 hb; replace BK509 := bB BK509 hb; replace HB := ak (below_step (lT HB (gC GE487 (gC GE501 (gC GE509 gN)))) hb); (try clear hb); (try clear hk))))
                go_ret
                exact ⟨by first | rfl | (simp [errW_none, errW_some] <;> rfl) | (simp only [← hji40, ← hji44]; first | rfl | (simp [errW_none, errW_some] <;> rfl)) | (simp [*, errW_none, errW_some] <;> rfl), by exact lT HB (gC GE487 (gC GE501 (gC GE509 gN)))⟩
              ·rw [if_neg c47] at H
               exact absurd H (by simp)
             ·rw [if_neg c46] at H
              exact absurd H (by simp)
            ·rw [if_neg c45] at H
             exact absurd H (by simp)
           ·rw [if_neg c43] at H
            exact absurd H (by simp)
          ·rw [if_neg c42] at H
           exact absurd H (by simp)
         ·rw [if_neg c41] at H
          exact absurd H (by simp)
        ·rw [if_neg c39] at H
         have c39b0 : (x13_1 == (Int.tmod (rd t488 0) t491)) = false := beq_eq_false_iff_ne.mpr c39
         have c39b1 : (x13_1 != (Int.tmod (rd t488 0) t491)) = true := bne_iff_ne.mpr c39
         by_cases c63 : t512.toList = t513.toList
         ·rw [if_pos c63] at H
          have c63b0 : (t512.toList == t513.toList) = true := beq_iff_eq.mpr c63
          have c63b1 : (t512.toList != t513.toList) = false := bne_eq_false_iff_eq.mpr c63
          clear c63
          have H' := Aside0.mk H
          clear H
          have hnb64 := NB487_501.out
          have hnc64 := NB501_487.out
          have hnb65 := NB487_509.out
          have hnc65 := NB509_487.out
          have hcz66_0 : wr.cell? ⟨gb487, 0, none⟩ = some (.slice Ao14 t481.length co14) := bc BK487 0
          have hcz66_1 : wr.cell? ⟨gb487, 1, none⟩ = some (.slice Ao16 t484.length co16) := bc BK487 1
          have hfz66_0 := blk_frozen BK487.out 0
          have hfz66_1 := blk_frozen BK487.out 1
          go_wp2_with (first | (go_at_call 25; (with_reducible refine (spec_SegText.calls k1 _ _ t481 _ _ t484 x13_1 t512 _ ?side1 ?side2 ?side3 ?side4 A37.out).mono ?_); (case side1 => exact cG (Kd.R_reads' HO_488000.out).2.2); (case side2 => exact (Kd.R_reads' HO_488000.out).2.1); (case side3 => exact cG (Kd.R_reads' HO_488001.out).2.2); (case side4 => exact (Kd.R_reads' HO_488001.out).2.1); rintro e w67 ⟨rfl, hb⟩; replace HO_488000 := rB HO_488000 hb; replace HO_488001 := rB HO_488001 hb; replace HO_502000 := rB HO_502000 hb; replace HO_502001 := rB HO_502001 hb; replace HO_510000 := rB HO_510000 hb; replace HO_510001 := rB HO_510001 hb; replace BK487 := bB BK487 hb; replace BK501 := bB BK501 hb; replace BK509 := bB BK509 hb; replace HB := ak (below_step (lT HB (gC GE487 (gC GE501 (gC GE509 gN)))) hb); (try clear hb); (try clear hk); have hnb68 := NB501_509.out; have hnc68 := NB509_501.out; obtain ⟨hcz69_0, hcz69_1, hfz69_0, hfz69_1⟩ := bC2 BK501) | (go_at_call 26; (with_reducible refine (impl_SegText.calls k1 _ _ t494 _ _ t497 x13_1 t513 _ ?side1 ?side2 ?side3 ?side4 A38.out).mono ?_); (case side1 => exact cG (Kd.R_reads' HO_502000.out).2.2); (case side2 => exact (Kd.R_reads' HO_502000.out).2.1); (case side3 => exact cG (Kd.R_reads' HO_502001.out).2.2); (case side4 => exact (Kd.R_reads' HO_502001.out).2.1); rintro e w70 ⟨rfl, hb⟩; replace HO_488000 := rB HO_488000 hb; replace HO_488001 := rB HO_488001 hb; replace HO_502000 := rB HO_502000 hb; replace HO_502001 := rB HO_502001 hb; replace HO_510000 := rB HO_510000 hb; replace HO_510001 := rB HO_510001 hb; replace BK487 := bB BK487 hb; replace BK501 := bB BK501 hb; replace BK509 := bB BK509 hb; replace HB := ak (below_step (lT HB (gC GE487 (gC GE501 (gC GE509 gN)))) hb); (try clear hb); (try clear hk)))
          repeat (go_quiet (first | (go_at_call 25; (with_reducible refine (spec_SegText.calls k1 _ _ t481 _ _ t484 x13_1 t512 _ ?side1 ?side2 ?side3 ?side4 A37.out).mono ?_); (case side1 => exact cG (Kd.R_reads' HO_488000.out).2.2); (case side2 => exact (Kd.R_reads' HO_488000.out).2.1); (case side3 => exact cG (Kd.R_reads' HO_488001.out).2.2); (case side4 => exact (Kd.R_reads' HO_488001.out).2.1); rintro e w67 ⟨rfl, hb⟩; replace HO_488000 := rB HO_488000 hb; replace HO_488001 := rB HO_488001 hb; replace HO_502000 := rB HO_502000 hb; replace HO_502001 := rB HO_502001 hb; replace HO_510000 := rB HO_510000 hb; replace HO_510001 := rB HO_510001 hb; replace BK487 := bB BK487 hb; replace BK501 := bB BK501 hb; replace BK509 := bB BK509 hb; replace HB := ak (below_step (lT HB (gC GE487 (gC GE501 (gC GE509 gN)))) hb); (try clear hb); (try clear hk); have hnb68 := NB501_509.out; have hnc68 := NB509_501.out; obtain ⟨hcz69_0, hcz69_1, hfz69_0, hfz69_1⟩ := bC2 BK501) | (go_at_call 26; (with_reducible refine (impl_SegText.calls k1 _ _ t494 _ _ t497 x13_1 t513 _ ?side1 ?side2 ?side3 ?side4 A38.out).mono ?_); (case side1 => exact cG (Kd.R_reads' HO_502000.out).2.2); (case side2 => exact (Kd.R_reads' HO_502000.out).2.1); (case side3 => exact cG (Kd.R_reads' HO_502001.out).2.2); (case side4 => exact (Kd.R_reads' HO_502001.out).2.1); rintro e w70 ⟨rfl, hb⟩; replace HO_488000 := rB HO_488000 hb; replace HO_488001 := rB HO_488001 hb; replace HO_502000 := rB HO_502000 hb; replace HO_502001 := rB HO_502001 hb; replace HO_510000 := rB HO_510000 hb; replace HO_510001 := rB HO_510001 hb; replace BK487 := bB BK487 hb; replace BK501 := bB BK501 hb; replace BK509 := bB BK509 hb; replace HB := ak (below_step (lT HB (gC GE487 (gC GE501 (gC GE509 gN)))) hb); (try clear hb); (try clear hk))); try go_wp2_with (first | (go_at_call 25; (with_reducible refine (spec_SegText.calls k1 _ _ t481 _ _ t484 x13_1 t512 _ ?side1 ?side2 ?side3 ?side4 A37.out).mono ?_); (case side1 => exact cG (Kd.R_reads' HO_488000.out).2.2); (case side2 => exact (Kd.R_reads' HO_488000.out).2.1); (case side3 => exact cG (Kd.R_reads' HO_488001.out).2.2); (case side4 => exact (Kd.R_reads' HO_488001.out).2.1); rintro e w67 ⟨rfl, hb⟩; replace HO_488000 := rB HO_488000 hb; replace HO_488001 := rB HO_488001 hb; replace HO_502000 := rB HO_502000 hb; replace HO_502001 := rB HO_502001 hb; replace HO_510000 := rB HO_510000 hb; replace HO_510001 := rB HO_510001 hb; replace BK487 := bB BK487 hb; replace BK501 := bB BK501 hb; replace BK509 := bB BK509 hb; replace HB := ak (below_step (lT HB (gC GE487 (gC GE501 (gC GE509 gN)))) hb); (try clear hb); (try clear hk); have hnb68 := NB501_509.out; have hnc68 := NB509_501.out; obtain ⟨hcz69_0, hcz69_1, hfz69_0, hfz69_1⟩ := bC2 BK501) | (go_at_call 26; (with_reducible refine (impl_SegText.calls k1 _ _ t494 _ _ t497 x13_1 t513 _ ?side1 ?side2 ?side3 ?side4 A38.out).mono ?_); (case side1 => exact cG (Kd.R_reads' HO_502000.out).2.2); (case side2 => exact (Kd.R_reads' HO_502000.out).2.1); (case side3 => exact cG (Kd.R_reads' HO_502001.out).2.2); (case side4 => exact (Kd.R_reads' HO_502001.out).2.1); rintro e w70 ⟨rfl, hb⟩; replace HO_488000 := rB HO_488000 hb; replace HO_488001 := rB HO_488001 hb; replace HO_502000 := rB HO_502000 hb; replace HO_502001 := rB HO_502001 hb; replace HO_510000 := rB HO_510000 hb; replace HO_510001 := rB HO_510001 hb; replace BK487 := bB BK487 hb; replace BK501 := bB BK501 hb; replace BK509 := bB BK509 hb; replace HB := ak (below_step (lT HB (gC GE487 (gC GE501 (gC GE509 gN)))) hb); (try clear hb); (try clear hk))))
          go_roundg k1
          case measure => have := HK1.out; omega
          case rel => exact ⟨(wrap64 (x13_1 + 1)), (by first | rfl | (simp; done) | (simp [*]; done)), H', ⟨by have := HK1.out; omega⟩, ⟨by (with_reducible repeat (first | apply Kd.R_alloc | apply Kd.R_drewN | apply Kd.R_drew)); exact HO_488000.out⟩, ⟨by (with_reducible repeat (first | apply Kd.R_alloc | apply Kd.R_drewN | apply Kd.R_drew)); exact HO_488001.out⟩, ⟨by (with_reducible repeat (first | apply Kd.R_alloc | apply Kd.R_drewN | apply Kd.R_drew)); exact HO_502000.out⟩, ⟨by (with_reducible repeat (first | apply Kd.R_alloc | apply Kd.R_drewN | apply Kd.R_drew)); exact HO_502001.out⟩, ⟨by (with_reducible repeat (first | apply Kd.R_alloc | apply Kd.R_drewN | apply Kd.R_drew)); exact HO_510000.out⟩, ⟨by (with_reducible repeat (first | apply Kd.R_alloc | apply Kd.R_drewN | apply Kd.R_drew)); exact HO_510001.out⟩, ⟨bG BK487⟩, ⟨bG BK501⟩, ⟨bG BK509⟩, ⟨by exact lT HB (gC GE487 (gC GE501 (gC GE509 gN)))⟩⟩
         ·rw [if_neg c63] at H
          have c63b0 : (t512.toList == t513.toList) = false := beq_eq_false_iff_ne.mpr c63
          have c63b1 : (t512.toList != t513.toList) = true := bne_iff_ne.mpr c63
          obtain rfl := Option.some.inj H
          have hnb71 := NB487_501.out
          have hnc71 := NB501_487.out
          have hnb72 := NB487_509.out
          have hnc72 := NB509_487.out
          have hcz73_0 : wr.cell? ⟨gb487, 0, none⟩ = some (.slice Ao14 t481.length co14) := bc BK487 0
          have hcz73_1 : wr.cell? ⟨gb487, 1, none⟩ = some (.slice Ao16 t484.length co16) := bc BK487 1
          have hfz73_0 := blk_frozen BK487.out 0
          have hfz73_1 := blk_frozen BK487.out 1
          go_wp2_with (first | (go_at_call 25; (with_reducible refine (spec_SegText.calls k1 _ _ t481 _ _ t484 x13_1 t512 _ ?side1 ?side2 ?side3 ?side4 A37.out).mono ?_); (case side1 => exact cG (Kd.R_reads' HO_488000.out).2.2); (case side2 => exact (Kd.R_reads' HO_488000.out).2.1); (case side3 => exact cG (Kd.R_reads' HO_488001.out).2.2); (case side4 => exact (Kd.R_reads' HO_488001.out).2.1); rintro e w74 ⟨rfl, hb⟩; replace HO_488000 := rB HO_488000 hb; replace HO_488001 := rB HO_488001 hb; replace HO_502000 := rB HO_502000 hb; replace HO_502001 := rB HO_502001 hb; replace HO_510000 := rB HO_510000 hb; replace HO_510001 := rB HO_510001 hb; replace BK487 := bB BK487 hb; replace BK501 := bB BK501 hb; replace BK509 := bB BK509 hb; replace HB := ak (below_step (lT HB (gC GE487 (gC GE501 (gC GE509 gN)))) hb); (try clear hb); (try clear hk); have hnb75 := NB501_509.out; have hnc75 := NB509_501.out; obtain ⟨hcz76_0, hcz76_1, hfz76_0, hfz76_1⟩ := bC2 BK501) | (go_at_call 26; (with_reducible refine (impl_SegText.calls k1 _ _ t494 _ _ t497 x13_1 t513 _ ?side1 ?side2 ?side3 ?side4 A38.out).mono ?_); (case side1 => exact cG (Kd.R_reads' HO_502000.out).2.2); (case side2 => exact (Kd.R_reads' HO_502000.out).2.1); (case side3 => exact cG (Kd.R_reads' HO_502001.out).2.2); (case side4 => exact (Kd.R_reads' HO_502001.out).2.1); rintro e w77 ⟨rfl, hb⟩; replace HO_488000 := rB HO_488000 hb; replace HO_488001 := rB HO_488001 hb; replace HO_502000 := rB HO_502000 hb; replace HO_502001 := rB HO_502001 hb; replace HO_510000 := rB HO_510000 hb; replace HO_510001 := rB HO_510001 hb; replace BK487 := bB BK487 hb; replace BK501 := bB BK501 hb; replace BK509 := bB BK509 hb; replace HB := ak (below_step (lT HB (gC GE487 (gC GE501 (gC GE509 gN)))) hb); (try clear hb); (try clear hk)))
          repeat (go_quiet (first | (go_at_call 25; (with_reducible refine (spec_SegText.calls k1 _ _ t481 _ _ t484 x13_1 t512 _ ?side1 ?side2 ?side3 ?side4 A37.out).mono ?_); (case side1 => exact cG (Kd.R_reads' HO_488000.out).2.2); (case side2 => exact (Kd.R_reads' HO_488000.out).2.1); (case side3 => exact cG (Kd.R_reads' HO_488001.out).2.2); (case side4 => exact (Kd.R_reads' HO_488001.out).2.1); rintro e w74 ⟨rfl, hb⟩; replace HO_488000 := rB HO_488000 hb; replace HO_488001 := rB HO_488001 hb; replace HO_502000 := rB HO_502000 hb; replace HO_502001 := rB HO_502001 hb; replace HO_510000 := rB HO_510000 hb; replace HO_510001 := rB HO_510001 hb; replace BK487 := bB BK487 hb; replace BK501 := bB BK501 hb; replace BK509 := bB BK509 hb; replace HB := ak (below_step (lT HB (gC GE487 (gC GE501 (gC GE509 gN)))) hb); (try clear hb); (try clear hk); have hnb75 := NB501_509.out; have hnc75 := NB509_501.out; obtain ⟨hcz76_0, hcz76_1, hfz76_0, hfz76_1⟩ := bC2 BK501) | (go_at_call 26; (with_reducible refine (impl_SegText.calls k1 _ _ t494 _ _ t497 x13_1 t513 _ ?side1 ?side2 ?side3 ?side4 A38.out).mono ?_); (case side1 => exact cG (Kd.R_reads' HO_502000.out).2.2); (case side2 => exact (Kd.R_reads' HO_502000.out).2.1); (case side3 => exact cG (Kd.R_reads' HO_502001.out).2.2); (case side4 => exact (Kd.R_reads' HO_502001.out).2.1); rintro e w77 ⟨rfl, hb⟩; replace HO_488000 := rB HO_488000 hb; replace HO_488001 := rB HO_488001 hb; replace HO_502000 := rB HO_502000 hb; replace HO_502001 := rB HO_502001 hb; replace HO_510000 := rB HO_510000 hb; replace HO_510001 := rB HO_510001 hb; replace BK487 := bB BK487 hb; replace BK501 := bB BK501 hb; replace BK509 := bB BK509 hb; replace HB := ak (below_step (lT HB (gC GE487 (gC GE501 (gC GE509 gN)))) hb); (try clear hb); (try clear hk))); try go_wp2_with (first | (go_at_call 25; (with_reducible refine (spec_SegText.calls k1 _ _ t481 _ _ t484 x13_1 t512 _ ?side1 ?side2 ?side3 ?side4 A37.out).mono ?_); (case side1 => exact cG (Kd.R_reads' HO_488000.out).2.2); (case side2 => exact (Kd.R_reads' HO_488000.out).2.1); (case side3 => exact cG (Kd.R_reads' HO_488001.out).2.2); (case side4 => exact (Kd.R_reads' HO_488001.out).2.1); rintro e w74 ⟨rfl, hb⟩; replace HO_488000 := rB HO_488000 hb; replace HO_488001 := rB HO_488001 hb; replace HO_502000 := rB HO_502000 hb; replace HO_502001 := rB HO_502001 hb; replace HO_510000 := rB HO_510000 hb; replace HO_510001 := rB HO_510001 hb; replace BK487 := bB BK487 hb; replace BK501 := bB BK501 hb; replace BK509 := bB BK509 hb; replace HB := ak (below_step (lT HB (gC GE487 (gC GE501 (gC GE509 gN)))) hb); (try clear hb); (try clear hk); have hnb75 := NB501_509.out; have hnc75 := NB509_501.out; obtain ⟨hcz76_0, hcz76_1, hfz76_0, hfz76_1⟩ := bC2 BK501) | (go_at_call 26; (with_reducible refine (impl_SegText.calls k1 _ _ t494 _ _ t497 x13_1 t513 _ ?side1 ?side2 ?side3 ?side4 A38.out).mono ?_); (case side1 => exact cG (Kd.R_reads' HO_502000.out).2.2); (case side2 => exact (Kd.R_reads' HO_502000.out).2.1); (case side3 => exact cG (Kd.R_reads' HO_502001.out).2.2); (case side4 => exact (Kd.R_reads' HO_502001.out).2.1); rintro e w77 ⟨rfl, hb⟩; replace HO_488000 := rB HO_488000 hb; replace HO_488001 := rB HO_488001 hb; replace HO_502000 := rB HO_502000 hb; replace HO_502001 := rB HO_502001 hb; replace HO_510000 := rB HO_510000 hb; replace HO_510001 := rB HO_510001 hb; replace BK487 := bB BK487 hb; replace BK501 := bB BK501 hb; replace BK509 := bB BK509 hb; replace HB := ak (below_step (lT HB (gC GE487 (gC GE501 (gC GE509 gN)))) hb); (try clear hb); (try clear hk))))
          go_ret
          exact ⟨ew, by exact lT HB (gC GE487 (gC GE501 (gC GE509 gN)))⟩
       ·rw [if_neg c36] at H
        have c36b0 : decide (x13_1 < t491) = false := decide_eq_false c36
        clear c36
        by_cases c78 : t500 = true
        ·subst c78
         have H1 : (if t508 = true then (some false) else ((spec_SegsOf.f t481 t484).bind fun t510 => (if t491 = t510 then ((impl_SegFirst.f (Int.tmod (rd t488 0) t491)).bind fun t511 => (some (t511 == (wrap64 (8 + (wrap64 (8 * (Int.tmod (rd t488 0) t491)))))))) else (some false)))) = some r := by rw [if_pos rfl] at H; exact H
         clear H
         have H := H1
         clear H1
         by_cases c79 : t508 = true
         ·subst c79
          have H1 : (some false) = some r := by rw [if_pos rfl] at H; exact H
          clear H
          have H := H1
          clear H1
          obtain rfl := Option.some.inj H
          go_wp2
          repeat (go_quiet (fail); try go_wp2)
          go_ret
          exact ⟨ew, by exact lT HB (gC GE487 (gC GE501 (gC GE509 gN)))⟩
         ·replace c79 := Bool.eq_false_iff.mpr c79
          subst c79
          have H1 : ((spec_SegsOf.f t481 t484).bind fun t510 => (if t491 = t510 then ((impl_SegFirst.f (Int.tmod (rd t488 0) t491)).bind fun t511 => (some (t511 == (wrap64 (8 + (wrap64 (8 * (Int.tmod (rd t488 0) t491)))))))) else (some false))) = some r := by rw [if_neg (show ¬ (false = true) by decide)] at H; exact H
          clear H
          have H := H1
          clear H1
          replace H := Option.bind_eq_some_iff.mp H
          obtain ⟨t510, A800, H⟩ := H
          replace H : (if t491 = t510 then ((impl_SegFirst.f (Int.tmod (rd t488 0) t491)).bind fun t511 => (some (t511 == (wrap64 (8 + (wrap64 (8 * (Int.tmod (rd t488 0) t491)))))))) else (some false)) = some r := H
          have A80 := Aside0.mk A800
          clear A800
          by_cases c81 : t491 = t510
          ·rw [if_pos c81] at H
           have c81b0 : (t491 == t510) = true := beq_iff_eq.mpr c81
           have c81b1 : (t491 != t510) = false := bne_eq_false_iff_eq.mpr c81
           clear c81
           replace H := Option.bind_eq_some_iff.mp H
           obtain ⟨t511, A820, H⟩ := H
           replace H : (some (t511 == (wrap64 (8 + (wrap64 (8 * (Int.tmod (rd t488 0) t491))))))) = some r := H
           have A82 := Aside0.mk A820
           clear A820
           obtain rfl := Option.some.inj H
           have hnb83 := NB487_501.out
           have hnc83 := NB501_487.out
           have hnb84 := NB487_509.out
           have hnc84 := NB509_487.out
           have hcz85_0 : wr.cell? ⟨gb487, 0, none⟩ = some (.slice Ao14 t481.length co14) := bc BK487 0
           have hcz85_1 : wr.cell? ⟨gb487, 1, none⟩ = some (.slice Ao16 t484.length co16) := bc BK487 1
           have hfz85_0 := blk_frozen BK487.out 0
           have hfz85_1 := blk_frozen BK487.out 1
           go_wp2_with (first | (go_at_call 27; (with_reducible refine (spec_SegsOf.calls _ _ t481 _ _ t484 t510 _ ?side1 ?side2 ?side3 ?side4 A80.out).mono ?_); (case side1 => exact cG (Kd.R_reads' HO_488000.out).2.2); (case side2 => exact (Kd.R_reads' HO_488000.out).2.1); (case side3 => exact cG (Kd.R_reads' HO_488001.out).2.2); (case side4 => exact (Kd.R_reads' HO_488001.out).2.1); rintro e w86 ⟨rfl, hb⟩; replace HO_488000 := rB HO_488000 hb; replace HO_488001 := rB HO_488001 hb; replace HO_502000 := rB HO_502000 hb; replace HO_502001 := rB HO_502001 hb; replace HO_510000 := rB HO_510000 hb; replace HO_510001 := rB HO_510001 hb; replace BK487 := bB BK487 hb; replace BK501 := bB BK501 hb; replace BK509 := bB BK509 hb; replace HB := ak (below_step (lT HB (gC GE487 (gC GE501 (gC GE509 gN)))) hb); (try clear hb); (try clear hk)) | (go_at_call 28; (with_reducible refine (impl_SegFirst.calls (Int.tmod (rd t488 0) t491) t511 _ A82.out).mono ?_); rintro e w' ⟨rfl, ⟨nd, rfl⟩⟩; (try first | exact ⟨rfl, _, World.drewN_drewN _ _ _⟩ | exact ⟨rfl, _, Eq.trans (World.drewN_drewN _ _ _) (congrArg (World.drewN _) (Nat.add_assoc _ _ _))⟩)))
           repeat (go_quiet (first | (go_at_call 27; (with_reducible refine (spec_SegsOf.calls _ _ t481 _ _ t484 t510 _ ?side1 ?side2 ?side3 ?side4 A80.out).mono ?_); (case side1 => exact cG (Kd.R_reads' HO_488000.out).2.2); (case side2 => exact (Kd.R_reads' HO_488000.out).2.1); (case side3 => exact cG (Kd.R_reads' HO_488001.out).2.2); (case side4 => exact (Kd.R_reads' HO_488001.out).2.1); rintro e w86 ⟨rfl, hb⟩; replace HO_488000 := rB HO_488000 hb; replace HO_488001 := rB HO_488001 hb; replace HO_502000 := rB HO_502000 hb; replace HO_502001 := rB HO_502001 hb; replace HO_510000 := rB HO_510000 hb; replace HO_510001 := rB HO_510001 hb; replace BK487 := bB BK487 hb; replace BK501 := bB BK501 hb; replace BK509 := bB BK509 hb; replace HB := ak (below_step (lT HB (gC GE487 (gC GE501 (gC GE509 gN)))) hb); (try clear hb); (try clear hk)) | (go_at_call 28; (with_reducible refine (impl_SegFirst.calls (Int.tmod (rd t488 0) t491) t511 _ A82.out).mono ?_); rintro e w' ⟨rfl, ⟨nd, rfl⟩⟩; (try first | exact ⟨rfl, _, World.drewN_drewN _ _ _⟩ | exact ⟨rfl, _, Eq.trans (World.drewN_drewN _ _ _) (congrArg (World.drewN _) (Nat.add_assoc _ _ _))⟩))); try go_wp2_with (first | (go_at_call 27; (with_reducible refine (spec_SegsOf.calls _ _ t481 _ _ t484 t510 _ ?side1 ?side2 ?side3 ?side4 A80.out).mono ?_); (case side1 => exact cG (Kd.R_reads' HO_488000.out).2.2); (case side2 => exact (Kd.R_reads' HO_488000.out).2.1); (case side3 => exact cG (Kd.R_reads' HO_488001.out).2.2); (case side4 => exact (Kd.R_reads' HO_488001.out).2.1); rintro e w86 ⟨rfl, hb⟩; replace HO_488000 := rB HO_488000 hb; replace HO_488001 := rB HO_488001 hb; replace HO_502000 := rB HO_502000 hb; replace HO_502001 := rB HO_502001 hb; replace HO_510000 := rB HO_510000 hb; replace HO_510001 := rB HO_510001 hb; replace BK487 := bB BK487 hb; replace BK501 := bB BK501 hb; replace BK509 := bB BK509 hb; replace HB := ak (below_step (lT HB (gC GE487 (gC GE501 (gC GE509 gN)))) hb); (try clear hb); (try clear hk)) | (go_at_call 28; (with_reducible refine (impl_SegFirst.calls (Int.tmod (rd t488 0) t491) t511 _ A82.out).mono ?_); rintro e w' ⟨rfl, ⟨nd, rfl⟩⟩; (try first | exact ⟨rfl, _, World.drewN_drewN _ _ _⟩ | exact ⟨rfl, _, Eq.trans (World.drewN_drewN _ _ _) (congrArg (World.drewN _) (Nat.add_assoc _ _ _))⟩))))
           go_ret
           exact ⟨ew, by exact lT HB (gC GE487 (gC GE501 (gC GE509 gN)))⟩
          ·rw [if_neg c81] at H
           have c81b0 : (t491 == t510) = false := beq_eq_false_iff_ne.mpr c81
           have c81b1 : (t491 != t510) = true := bne_iff_ne.mpr c81
           obtain rfl := Option.some.inj H
           have hnb87 := NB487_501.out
           have hnc87 := NB501_487.out
           have hnb88 := NB487_509.out
           have hnc88 := NB509_487.out
           have hcz89_0 : wr.cell? ⟨gb487, 0, none⟩ = some (.slice Ao14 t481.length co14) := bc BK487 0
           have hcz89_1 : wr.cell? ⟨gb487, 1, none⟩ = some (.slice Ao16 t484.length co16) := bc BK487 1
           have hfz89_0 := blk_frozen BK487.out 0
           have hfz89_1 := blk_frozen BK487.out 1
           go_wp2_with (first | (go_at_call 27; (with_reducible refine (spec_SegsOf.calls _ _ t481 _ _ t484 t510 _ ?side1 ?side2 ?side3 ?side4 A80.out).mono ?_); (case side1 => exact cG (Kd.R_reads' HO_488000.out).2.2); (case side2 => exact (Kd.R_reads' HO_488000.out).2.1); (case side3 => exact cG (Kd.R_reads' HO_488001.out).2.2); (case side4 => exact (Kd.R_reads' HO_488001.out).2.1); rintro e w90 ⟨rfl, hb⟩; replace HO_488000 := rB HO_488000 hb; replace HO_488001 := rB HO_488001 hb; replace HO_502000 := rB HO_502000 hb; replace HO_502001 := rB HO_502001 hb; replace HO_510000 := rB HO_510000 hb; replace HO_510001 := rB HO_510001 hb; replace BK487 := bB BK487 hb; replace BK501 := bB BK501 hb; replace BK509 := bB BK509 hb; replace HB := ak (below_step (lT HB (gC GE487 (gC GE501 (gC GE509 gN)))) hb); (try clear hb); (try clear hk)))
           repeat (go_quiet (first | (go_at_call 27; (with_reducible refine (spec_SegsOf.calls _ _ t481 _ _ t484 t510 _ ?side1 ?side2 ?side3 ?side4 A80.out).mono ?_); (case side1 => exact cG (Kd.R_reads' HO_488000.out).2.2); (case side2 => exact (Kd.R_reads' HO_488000.out).2.1); (case side3 => exact cG (Kd.R_reads' HO_488001.out).2.2); (case side4 => exact (Kd.R_reads' HO_488001.out).2.1); rintro e w90 ⟨rfl, hb⟩; replace HO_488000 := rB HO_488000 hb; replace HO_488001 := rB HO_488001 hb; replace HO_502000 := rB HO_502000 hb; replace HO_502001 := rB HO_502001 hb; replace HO_510000 := rB HO_510000 hb; replace HO_510001 := rB HO_510001 hb; replace BK487 := bB BK487 hb; replace BK501 := bB BK501 hb; replace BK509 := bB BK509 hb; replace HB := ak (below_step (lT HB (gC GE487 (gC GE501 (gC GE509 gN)))) hb); (try clear hb); (try clear hk))); try go_wp2_with (first | (go_at_call 27; (with_reducible refine (spec_SegsOf.calls _ _ t481 _ _ t484 t510 _ ?side1 ?side2 ?side3 ?side4 A80.out).mono ?_); (case side1 => exact cG (Kd.R_reads' HO_488000.out).2.2); (case side2 => exact (Kd.R_reads' HO_488000.out).2.1); (case side3 => exact cG (Kd.R_reads' HO_488001.out).2.2); (case side4 => exact (Kd.R_reads' HO_488001.out).2.1); rintro e w90 ⟨rfl, hb⟩; replace HO_488000 := rB HO_488000 hb; replace HO_488001 := rB HO_488001 hb; replace HO_502000 := rB HO_502000 hb; replace HO_502001 := rB HO_502001 hb; replace HO_510000 := rB HO_510000 hb; replace HO_510001 := rB HO_510001 hb; replace BK487 := bB BK487 hb; replace BK501 := bB BK501 hb; replace BK509 := bB BK509 hb; replace HB := ak (below_step (lT HB (gC GE487 (gC GE501 (gC GE509 gN)))) hb); (try clear hb); (try clear hk))))
           go_ret
           exact ⟨ew, by exact lT HB (gC GE487 (gC GE501 (gC GE509 gN)))⟩
        ·replace c78 := Bool.eq_false_iff.mpr c78
         subst c78
         have H1 : (some false) = some r := by rw [if_neg (show ¬ (false = true) by decide)] at H; exact H
         clear H
         have H := H1
         clear H1
         obtain rfl := Option.some.inj H
         go_wp2
         repeat (go_quiet (fail); try go_wp2)
         go_ret
         exact ⟨ew, by exact lT HB (gC GE487 (gC GE501 (gC GE509 gN)))⟩
    ·rw [if_neg c9] at H
     exact absurd H (by simp)
  ·rw [if_neg c7] at H
   exact absurd H (by simp)

/-- THE ONE PURE STATEMENT of laws_FnSegments: yours. -/
def laws_FnSegments.Pure : Prop := ∀ (l0 : List Int), l0.length ≤ maxLen → l0.length * 1 ≤ 140737488351232 → (∀ x ∈ l0, (Lit.int .u8 x).wf = true) → ∃ k, laws_FnSegments.f k l0 = some true
theorem laws_FnSegments.walk (P : laws_FnSegments.Pure) (a0 : Option Addr) (len0 cap0 : Nat) (z0 : List Int) (w : World) (w0 : (a0 = none ∧ len0 = 0 ∧ cap0 = 0 ∧ z0 = []) ∨ ∃ x, a0 = some x ∧ len0 ≤ cap0 ∧ cap0 ≤ maxLen ∧ z0.length = cap0 ∧ (∀ i, i < z0.length → w.cell? (x.add i) = some (.int .u8 (z0.getD i 0))) ∧ ∀ n ∈ z0, (Lit.int .u8 n).wf = true) (y0 : len0 * 1 ≤ 140737488351232) :
  Calls Try.prog 6 #[.slice a0 len0 cap0] w fun e w' => e = .returned (.bool true) ∧ Below w.heap.size w w' := by
 obtain ⟨l0, rfl, hr0, hm0, hw0, hc0⟩ := ReadsInt.ofRowC w0
 obtain ⟨k, h⟩ := P l0 hm0 y0 hw0
 refine (laws_FnSegments.calls k _ _ l0 true w (Kd.C_of_reads (d := (0 : Int)) (h1 := fun _ => rfl) hr0) hc0 h).mono ?_
 rintro e w' ⟨rfl, hd⟩
 exact ⟨rfl, hd⟩

end Go.Proofs.Ytjpngldnkgofaaa.PFnSegments
