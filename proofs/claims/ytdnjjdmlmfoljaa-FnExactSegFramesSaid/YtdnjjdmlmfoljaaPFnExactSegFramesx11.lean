-- Written for this claim by a program of mine (a turned copy of the kit's print): functions as plain Lean, and their contracts. Lean checks it.
import Derived.Test.YtdnjjdmlmfoljaaPFnExactSegFramesx0
import Derived.Test.YtdnjjdmlmfoljaaPFnExactSegFramesx1
import Derived.Test.YtdnjjdmlmfoljaaPFnExactSegFramesx2
import Derived.Test.YtdnjjdmlmfoljaaPFnExactSegFramesx6
import Derived.Test.YtdnjjdmlmfoljaaPFnExactSegFramesx8
import Derived.Test.YtdnjjdmlmfoljaaPFnExactSegFramesx9
import Derived.Test.YtdnjjdmlmfoljaaPFnExactSegFramesx10
import Derived.Test.YtdnjjdmlmfoljaaVFnExactSegFrames1
namespace Go.Proofs.Ytdnjjdmlmfoljaa.PFnExactSegFrames
open Go.RowKit Go.Proofs.YtdnjjdmlmfoljaaW.PrintWords Go.Proofs.YtdnjjdmlmfoljaaW.PrintLast Go.Proofs.YtdnjjdmlmfoljaaW.PrintMore
attribute [local go_sem] max2_int min2_int max_two min_two max_three min_three max_four min_four   -- for this text's walks alone
set_option linter.unusedVariables false
set_option linter.unusedSimpArgs false

/-! ### laws_FnExactSegFrames: function 13 -/
mutual
def laws_FnExactSegFrames.j0 : Nat → Int → List (S77) → Int → List (S77) → Int → Bool → List ByteArray → List (S84) → List ByteArray → List (S67) → Option (Bool)
 | 0, _, _, _, _, _, _, _, _, _, _ => none
 | k + 1, x1, x6, x7, x9, x10, x44, x358000, x358001, x376000, x376001 => if x44 = true then (some false) else ((laws_toDisk.f k x358000 x358001).bind fun bt381 => ((laws_eqDisk.f k x376000 x376001 bt381.1 bt381.2).bind fun t387 => (if t387 = true then ((laws_markDisk.f k x376000 x376001 1).bind fun bt388 => (if bt388.1 < 0 then (laws_FnExactSegFrames.j1 k x1 x6 x7 x9 true x358000 x358001) else ((laws_eqFrameS.f k x9 x6).bind fun t391 => (if t391 = true then (laws_FnExactSegFrames.j1 k x1 x6 x7 x9 (x10 != x7) x358000 x358001) else (laws_FnExactSegFrames.j1 k x1 x6 x7 x9 true x358000 x358001))))) else (some false))))
def laws_FnExactSegFrames.j1 : Nat → Int → List (S77) → Int → List (S77) → Bool → List ByteArray → List (S84) → Option (Bool)
 | 0, _, _, _, _, _, _, _ => none
 | k + 1, x1, x6, x7, x9, x65, x358000, x358001 => if x65 = true then (some false) else ((laws_markFrameS.f k x9 1).bind fun bt392 => ((laws_heldFrameS.f k bt392.2 1).bind fun t394 => (if t394 < 0 then (some false) else (if t394 = bt392.1 then ((laws_toDisk.f k x358000 x358001).bind fun bt395 => ((impl_SegFrames.f k bt395.1 bt395.2 x1).bind fun bt401 => ((laws_eqFrameS.f k bt401.1 x6).bind fun t405 => (if t405 = true then (laws_FnExactSegFrames.j2 k bt392.2 bt392.1 (bt401.2 != x7)) else (laws_FnExactSegFrames.j2 k bt392.2 bt392.1 true))))) else (some false)))))
def laws_FnExactSegFrames.j2 : Nat → List (S77) → Int → Bool → Option (Bool)
 | 0, _, _, _ => none
 | k + 1, x9, x12, x92 => if x92 = true then (some false) else ((laws_heldFrameS.f k x9 1).bind fun t406 => (if t406 < 0 then (some false) else (if t406 = x12 then (some true) else (some false))))
end
def laws_FnExactSegFrames.f (k : Nat) (l0_0 : List ByteArray) (l0_1 : List (S84)) (a1 : Int) : Option (Bool) := (laws_szDisk.f k l0_0 l0_1 1048576).bind fun t358 => (if t358 < 0 then (some true) else ((laws_toDisk.f k l0_0 l0_1).bind fun bt359 => ((spec_SegFrames.f k bt359.1 bt359.2 a1).bind fun bt365 => ((laws_toDisk.f k l0_0 l0_1).bind fun bt369 => ((impl_SegFrames.f k bt369.1 bt369.2 a1).bind fun bt376 => ((laws_eqFrameS.f k bt376.1 bt365.1).bind fun t380 => (if t380 = true then (laws_FnExactSegFrames.j0 k a1 bt365.1 bt365.2 bt376.1 bt376.2 (bt376.2 != bt365.2) l0_0 l0_1 bt369.1 bt369.2) else (laws_FnExactSegFrames.j0 k a1 bt365.1 bt365.2 bt376.1 bt376.2 true l0_0 l0_1 bt369.1 bt369.2))))))))
theorem laws_FnExactSegFrames.mono_l : ∀ k, (∀ y0 y1 y2 y3 y4 y5 y6 y7 y8 y9, LeO (laws_FnExactSegFrames.j0 k y0 y1 y2 y3 y4 y5 y6 y7 y8 y9) (laws_FnExactSegFrames.j0 (k + 1) y0 y1 y2 y3 y4 y5 y6 y7 y8 y9)) ∧ (∀ y0 y1 y2 y3 y4 y5 y6, LeO (laws_FnExactSegFrames.j1 k y0 y1 y2 y3 y4 y5 y6) (laws_FnExactSegFrames.j1 (k + 1) y0 y1 y2 y3 y4 y5 y6)) ∧ (∀ y0 y1 y2, LeO (laws_FnExactSegFrames.j2 k y0 y1 y2) (laws_FnExactSegFrames.j2 (k + 1) y0 y1 y2))
 | 0 => ⟨fun _ _ _ _ _ _ _ _ _ _ r h => by simp [laws_FnExactSegFrames.j0] at h, fun _ _ _ _ _ _ _ r h => by simp [laws_FnExactSegFrames.j1] at h, fun _ _ _ r h => by simp [laws_FnExactSegFrames.j2] at h⟩
 | k + 1 => by
  obtain ⟨ih0, ih1, ih2⟩ := laws_FnExactSegFrames.mono_l k
  refine ⟨?_, ?_, ?_⟩
  ·intro y0 y1 y2 y3 y4 y5 y6 y7 y8 y9
   unfold laws_FnExactSegFrames.j0
   repeat' first
   | (with_reducible exact ih0 _ _ _ _ _ _ _ _ _ _)
   | (with_reducible exact ih1 _ _ _ _ _ _ _)
   | (with_reducible exact ih2 _ _ _)
   | (with_reducible exact impl_SegFrames.mono _ _ _ _)
   | (with_reducible exact laws_eqDisk.mono _ _ _ _ _)
   | (with_reducible exact laws_eqFrameS.mono _ _ _)
   | (with_reducible exact laws_heldFrameS.mono _ _ _)
   | (with_reducible exact laws_markDisk.mono _ _ _ _)
   | (with_reducible exact laws_markFrameS.mono _ _ _)
   | (with_reducible exact laws_szDisk.mono _ _ _ _)
   | (with_reducible exact laws_toDisk.mono _ _ _)
   | (with_reducible exact spec_SegFrames.mono _ _ _ _)
   | (with_reducible exact LeO.refl _)
   | (with_reducible exact LeO.none _)
   | (with_reducible refine LeO.ite ?_ ?_)
   | (with_reducible refine LeO.bind ?_ (fun _ => ?_))
   | exact ih0 _ _ _ _ _ _ _ _ _ _
   | exact ih1 _ _ _ _ _ _ _
   | exact ih2 _ _ _
   | exact impl_SegFrames.mono _ _ _ _
   | exact laws_eqDisk.mono _ _ _ _ _
   | exact laws_eqFrameS.mono _ _ _
   | exact laws_heldFrameS.mono _ _ _
   | exact laws_markDisk.mono _ _ _ _
   | exact laws_markFrameS.mono _ _ _
   | exact laws_szDisk.mono _ _ _ _
   | exact laws_toDisk.mono _ _ _
   | exact spec_SegFrames.mono _ _ _ _
   | exact LeO.none _
   | refine LeO.ite ?_ ?_
   | refine LeO.bind ?_ (fun _ => ?_)
  ·intro y0 y1 y2 y3 y4 y5 y6
   unfold laws_FnExactSegFrames.j1
   repeat' first
   | (with_reducible exact ih0 _ _ _ _ _ _ _ _ _ _)
   | (with_reducible exact ih1 _ _ _ _ _ _ _)
   | (with_reducible exact ih2 _ _ _)
   | (with_reducible exact impl_SegFrames.mono _ _ _ _)
   | (with_reducible exact laws_eqDisk.mono _ _ _ _ _)
   | (with_reducible exact laws_eqFrameS.mono _ _ _)
   | (with_reducible exact laws_heldFrameS.mono _ _ _)
   | (with_reducible exact laws_markDisk.mono _ _ _ _)
   | (with_reducible exact laws_markFrameS.mono _ _ _)
   | (with_reducible exact laws_szDisk.mono _ _ _ _)
   | (with_reducible exact laws_toDisk.mono _ _ _)
   | (with_reducible exact spec_SegFrames.mono _ _ _ _)
   | (with_reducible exact LeO.refl _)
   | (with_reducible exact LeO.none _)
   | (with_reducible refine LeO.ite ?_ ?_)
   | (with_reducible refine LeO.bind ?_ (fun _ => ?_))
   | exact ih0 _ _ _ _ _ _ _ _ _ _
   | exact ih1 _ _ _ _ _ _ _
   | exact ih2 _ _ _
   | exact impl_SegFrames.mono _ _ _ _
   | exact laws_eqDisk.mono _ _ _ _ _
   | exact laws_eqFrameS.mono _ _ _
   | exact laws_heldFrameS.mono _ _ _
   | exact laws_markDisk.mono _ _ _ _
   | exact laws_markFrameS.mono _ _ _
   | exact laws_szDisk.mono _ _ _ _
   | exact laws_toDisk.mono _ _ _
   | exact spec_SegFrames.mono _ _ _ _
   | exact LeO.none _
   | refine LeO.ite ?_ ?_
   | refine LeO.bind ?_ (fun _ => ?_)
  ·intro y0 y1 y2
   unfold laws_FnExactSegFrames.j2
   repeat' first
   | (with_reducible exact ih0 _ _ _ _ _ _ _ _ _ _)
   | (with_reducible exact ih1 _ _ _ _ _ _ _)
   | (with_reducible exact ih2 _ _ _)
   | (with_reducible exact impl_SegFrames.mono _ _ _ _)
   | (with_reducible exact laws_eqDisk.mono _ _ _ _ _)
   | (with_reducible exact laws_eqFrameS.mono _ _ _)
   | (with_reducible exact laws_heldFrameS.mono _ _ _)
   | (with_reducible exact laws_markDisk.mono _ _ _ _)
   | (with_reducible exact laws_markFrameS.mono _ _ _)
   | (with_reducible exact laws_szDisk.mono _ _ _ _)
   | (with_reducible exact laws_toDisk.mono _ _ _)
   | (with_reducible exact spec_SegFrames.mono _ _ _ _)
   | (with_reducible exact LeO.refl _)
   | (with_reducible exact LeO.none _)
   | (with_reducible refine LeO.ite ?_ ?_)
   | (with_reducible refine LeO.bind ?_ (fun _ => ?_))
   | exact ih0 _ _ _ _ _ _ _ _ _ _
   | exact ih1 _ _ _ _ _ _ _
   | exact ih2 _ _ _
   | exact impl_SegFrames.mono _ _ _ _
   | exact laws_eqDisk.mono _ _ _ _ _
   | exact laws_eqFrameS.mono _ _ _
   | exact laws_heldFrameS.mono _ _ _
   | exact laws_markDisk.mono _ _ _ _
   | exact laws_markFrameS.mono _ _ _
   | exact laws_szDisk.mono _ _ _ _
   | exact laws_toDisk.mono _ _ _
   | exact spec_SegFrames.mono _ _ _ _
   | exact LeO.none _
   | refine LeO.ite ?_ ?_
   | refine LeO.bind ?_ (fun _ => ?_)
theorem laws_FnExactSegFrames.mono : ∀ a0 a1 a2 k, LeO (laws_FnExactSegFrames.f k a0 a1 a2) (laws_FnExactSegFrames.f (k + 1) a0 a1 a2) := by
 intro a0 a1 a2 k
 obtain ⟨ih0, ih1, ih2⟩ := laws_FnExactSegFrames.mono_l k
 unfold laws_FnExactSegFrames.f
 repeat' first
   | (with_reducible exact ih0 _ _ _ _ _ _ _ _ _ _)
   | (with_reducible exact ih1 _ _ _ _ _ _ _)
   | (with_reducible exact ih2 _ _ _)
   | (with_reducible exact impl_SegFrames.mono _ _ _ _)
   | (with_reducible exact laws_eqDisk.mono _ _ _ _ _)
   | (with_reducible exact laws_eqFrameS.mono _ _ _)
   | (with_reducible exact laws_heldFrameS.mono _ _ _)
   | (with_reducible exact laws_markDisk.mono _ _ _ _)
   | (with_reducible exact laws_markFrameS.mono _ _ _)
   | (with_reducible exact laws_szDisk.mono _ _ _ _)
   | (with_reducible exact laws_toDisk.mono _ _ _)
   | (with_reducible exact spec_SegFrames.mono _ _ _ _)
   | (with_reducible exact LeO.refl _)
   | (with_reducible exact LeO.none _)
   | (with_reducible refine LeO.ite ?_ ?_)
   | (with_reducible refine LeO.bind ?_ (fun _ => ?_))
   | exact ih0 _ _ _ _ _ _ _ _ _ _
   | exact ih1 _ _ _ _ _ _ _
   | exact ih2 _ _ _
   | exact impl_SegFrames.mono _ _ _ _
   | exact laws_eqDisk.mono _ _ _ _ _
   | exact laws_eqFrameS.mono _ _ _
   | exact laws_heldFrameS.mono _ _ _
   | exact laws_markDisk.mono _ _ _ _
   | exact laws_markFrameS.mono _ _ _
   | exact laws_szDisk.mono _ _ _ _
   | exact laws_toDisk.mono _ _ _
   | exact spec_SegFrames.mono _ _ _ _
   | exact LeO.none _
   | refine LeO.ite ?_ ?_
   | refine LeO.bind ?_ (fun _ => ?_)
set_option maxHeartbeats 8000000 in
set_option maxRecDepth 100000 in
theorem laws_FnExactSegFrames.calls (k : Nat) (A0_0 : Option Addr) (c0_0 : Nat) (l0_0 : List ByteArray) (A0_1 : Option Addr) (c0_1 : Nat) (l0_1 : List (S84)) (a1 : Int) (r : Bool) (w : World) (hr0_0 : Kd.C Kd.string w A0_0 l0_0.length l0_0) (hc0_0 : l0_0.length ≤ c0_0) (hr0_1 : Kd.C k84 w A0_1 l0_1.length l0_1) (hc0_1 : l0_1.length ≤ c0_1) (h : laws_FnExactSegFrames.f k l0_0 l0_1 a1 = some r) :
  Calls Try.prog 13 #[.agg #[.slice A0_0 l0_0.length c0_0, .slice A0_1 l0_1.length c0_1], .int .i64 a1] w fun e w' => e = .returned (.bool r) ∧ Below w.heap.size w w' := by
 have hu25 := Try.underlying25
 have hu30 := Try.underlying30
 have HR0_0 := Aside0.mk hr0_0
 have HC0_0 := Aside0.mk hc0_0
 clear hr0_0 hc0_0
 have HR0_1 := Aside0.mk hr0_1
 have HC0_1 := Aside0.mk hc0_1
 clear hr0_1 hc0_1
 have HB := ak (Below.refl w.heap.size w)
 have H : ((laws_szDisk.f k l0_0 l0_1 1048576).bind fun t358 => (if t358 < 0 then (some true) else ((laws_toDisk.f k l0_0 l0_1).bind fun bt359 => ((spec_SegFrames.f k bt359.1 bt359.2 a1).bind fun bt365 => ((laws_toDisk.f k l0_0 l0_1).bind fun bt369 => ((impl_SegFrames.f k bt369.1 bt369.2 a1).bind fun bt376 => ((laws_eqFrameS.f k bt376.1 bt365.1).bind fun t380 => (if t380 = true then (laws_FnExactSegFrames.j0 k a1 bt365.1 bt365.2 bt376.1 bt376.2 (bt376.2 != bt365.2) l0_0 l0_1 bt369.1 bt369.2) else (laws_FnExactSegFrames.j0 k a1 bt365.1 bt365.2 bt376.1 bt376.2 true l0_0 l0_1 bt369.1 bt369.2))))))))) = some r := h
 clear h
 replace H := Option.bind_eq_some_iff.mp H
 obtain ⟨t358, A30, H⟩ := H
 replace H : (if t358 < 0 then (some true) else ((laws_toDisk.f k l0_0 l0_1).bind fun bt359 => ((spec_SegFrames.f k bt359.1 bt359.2 a1).bind fun bt365 => ((laws_toDisk.f k l0_0 l0_1).bind fun bt369 => ((impl_SegFrames.f k bt369.1 bt369.2 a1).bind fun bt376 => ((laws_eqFrameS.f k bt376.1 bt365.1).bind fun t380 => (if t380 = true then (laws_FnExactSegFrames.j0 k a1 bt365.1 bt365.2 bt376.1 bt376.2 (bt376.2 != bt365.2) l0_0 l0_1 bt369.1 bt369.2) else (laws_FnExactSegFrames.j0 k a1 bt365.1 bt365.2 bt376.1 bt376.2 true l0_0 l0_1 bt369.1 bt369.2)))))))) = some r := H
 have A3 := Aside0.mk A30
 clear A30
 by_cases c4 : t358 < 0
 ·rw [if_pos c4] at H
  have c4b0 : decide (t358 < 0) = true := decide_eq_true c4
  clear c4
  obtain rfl := Option.some.inj H
  go_enter Try.func13, Try.ntmps13
  go_wp2_with (first | ((with_reducible refine gate_dst (N := 2) rfl ?_); refine bx 2 #[.slice A0_0 l0_0.length c0_0, .slice A0_1 l0_1.length c0_1] 25 ?_; intro gb357 hg w5 hbox hb; replace BK357 := ak (hbox); replace GW357 := ak (bz hg (lG HB)); replace GE357 := ak (bz hg (lG HB)); replace HB := lB HB hb; clear hb hbox hg; obtain ⟨hcz6_0, hcz6_1, hfz6_0, hfz6_1⟩ := bC2 BK357) | ((with_reducible refine gate_callee (f := 14) rfl ?_); refine gl (some 18) Try.func14 #[.agg #[.slice A0_0 l0_0.length c0_0, .slice A0_1 l0_1.length c0_1], .int .i64 1048576] ?_; (with_reducible refine (laws_szDisk.calls k _ _ l0_0 _ _ l0_1 1048576 t358 _ ?side1 ?side2 ?side3 ?side4 A3.out).mono ?_); (case side1 => exact cG (Kd.C_below HR0_0.out HB.out)); (case side2 => exact HC0_0.out); (case side3 => exact cG (Kd.C_below HR0_1.out HB.out)); (case side4 => exact HC0_1.out); rintro e w7 ⟨rfl, hb⟩; refine ⟨_, rfl, ?_⟩; replace BK357 := bB BK357 hb; replace HB := ak (below_step (lT HB (gC GE357 gN)) hb); (try clear hb); (try clear hk)))
  go_ret
  exact ⟨ew, by exact lT HB (gC GE357 gN)⟩
 ·rw [if_neg c4] at H
  have c4b0 : decide (t358 < 0) = false := decide_eq_false c4
  clear c4
  replace H := Option.bind_eq_some_iff.mp H
  obtain ⟨⟨t359, t362⟩, A80, H⟩ := H
  replace H : ((spec_SegFrames.f k t359 t362 a1).bind fun bt365 => ((laws_toDisk.f k l0_0 l0_1).bind fun bt369 => ((impl_SegFrames.f k bt369.1 bt369.2 a1).bind fun bt376 => ((laws_eqFrameS.f k bt376.1 bt365.1).bind fun t380 => (if t380 = true then (laws_FnExactSegFrames.j0 k a1 bt365.1 bt365.2 bt376.1 bt376.2 (bt376.2 != bt365.2) l0_0 l0_1 bt369.1 bt369.2) else (laws_FnExactSegFrames.j0 k a1 bt365.1 bt365.2 bt376.1 bt376.2 true l0_0 l0_1 bt369.1 bt369.2)))))) = some r := H
  have A8 := Aside0.mk A80
  clear A80
  replace H := Option.bind_eq_some_iff.mp H
  obtain ⟨⟨t365, t368⟩, A90, H⟩ := H
  replace H : ((laws_toDisk.f k l0_0 l0_1).bind fun bt369 => ((impl_SegFrames.f k bt369.1 bt369.2 a1).bind fun bt376 => ((laws_eqFrameS.f k bt376.1 t365).bind fun t380 => (if t380 = true then (laws_FnExactSegFrames.j0 k a1 t365 t368 bt376.1 bt376.2 (bt376.2 != t368) l0_0 l0_1 bt369.1 bt369.2) else (laws_FnExactSegFrames.j0 k a1 t365 t368 bt376.1 bt376.2 true l0_0 l0_1 bt369.1 bt369.2))))) = some r := H
  have A9 := Aside0.mk A90
  clear A90
  replace H := Option.bind_eq_some_iff.mp H
  obtain ⟨⟨t369, t372⟩, A100, H⟩ := H
  replace H : ((impl_SegFrames.f k t369 t372 a1).bind fun bt376 => ((laws_eqFrameS.f k bt376.1 t365).bind fun t380 => (if t380 = true then (laws_FnExactSegFrames.j0 k a1 t365 t368 bt376.1 bt376.2 (bt376.2 != t368) l0_0 l0_1 t369 t372) else (laws_FnExactSegFrames.j0 k a1 t365 t368 bt376.1 bt376.2 true l0_0 l0_1 t369 t372)))) = some r := H
  have A10 := Aside0.mk A100
  clear A100
  replace H := Option.bind_eq_some_iff.mp H
  obtain ⟨⟨t376, t379⟩, A110, H⟩ := H
  replace H : ((laws_eqFrameS.f k t376 t365).bind fun t380 => (if t380 = true then (laws_FnExactSegFrames.j0 k a1 t365 t368 t376 t379 (t379 != t368) l0_0 l0_1 t369 t372) else (laws_FnExactSegFrames.j0 k a1 t365 t368 t376 t379 true l0_0 l0_1 t369 t372))) = some r := H
  have A11 := Aside0.mk A110
  clear A110
  have HC12 := Aside0.mk H
  clear H
  go_enter Try.func13, Try.ntmps13
  go_upto_region 8 with (first | ((with_reducible refine gate_dst (N := 2) rfl ?_); refine bx 2 #[.slice A0_0 l0_0.length c0_0, .slice A0_1 l0_1.length c0_1] 25 ?_; intro gb357 hg w13 hbox hb; replace BK357 := ak (hbox); replace GW357 := ak (bz hg (lG HB)); replace GE357 := ak (bz hg (lG HB)); replace HB := lB HB hb; clear hb hbox hg; obtain ⟨hcz14_0, hcz14_1, hfz14_0, hfz14_1⟩ := bC2 BK357) | ((with_reducible refine gate_callee (f := 14) rfl ?_); refine gl (some 18) Try.func14 #[.agg #[.slice A0_0 l0_0.length c0_0, .slice A0_1 l0_1.length c0_1], .int .i64 1048576] ?_; (with_reducible refine (laws_szDisk.calls k _ _ l0_0 _ _ l0_1 1048576 t358 _ ?side1 ?side2 ?side3 ?side4 A3.out).mono ?_); (case side1 => exact cG (Kd.C_below HR0_0.out HB.out)); (case side2 => exact HC0_0.out); (case side3 => exact cG (Kd.C_below HR0_1.out HB.out)); (case side4 => exact HC0_1.out); rintro e w15 ⟨rfl, hb⟩; refine ⟨_, rfl, ?_⟩; replace BK357 := bB BK357 hb; replace HB := ak (below_step (lT HB (gC GE357 gN)) hb); (try clear hb); (try clear hk); obtain ⟨hcz16_0, hcz16_1, hfz16_0, hfz16_1⟩ := bC2 BK357) | ((with_reducible refine gate_callee (f := 16) rfl ?_); refine gl (some 23) Try.func16 #[.agg #[.slice A0_0 l0_0.length c0_0, .slice A0_1 l0_1.length c0_1]] ?_; (with_reducible refine (laws_toDisk.calls k _ _ l0_0 _ _ l0_1 t359 t362 _ ?side1 ?side2 ?side3 ?side4 A8.out).mono ?_); (case side1 => exact cG (Kd.C_below HR0_0.out HB.out)); (case side2 => exact HC0_0.out); (case side3 => exact cG (Kd.C_below HR0_1.out HB.out)); (case side4 => exact HC0_1.out); rintro e w17 ⟨v360, v363, rfl, ho0, ho1, hb⟩; refine ⟨_, rfl, ?_⟩; replace HO361 := ak (Kd.R_lower ho0 (below_size (lT HB (gC GE357 gN)))); replace HO364 := ak (Kd.R_lower ho1 (below_size (lT HB (gC GE357 gN)))); replace BK357 := bB BK357 hb; replace HB := ak (below_step (lT HB (gC GE357 gN)) hb); (try clear hb); (try clear hk); (try clear ho0); (try clear ho1); obtain ⟨Ao18, co18, eo18⟩ := Kd.R_slice HO361.out; subst eo18; obtain ⟨Ao19, co19, eo19⟩ := Kd.R_slice HO364.out; subst eo19) | ((with_reducible refine gate_callee (f := 42) rfl ?_); refine gl (some 25) Try.func42 #[.agg #[.slice Ao18 t359.length co18, .slice Ao19 t362.length co19], .int .i64 a1] ?_; (with_reducible refine (spec_SegFrames.calls k _ _ t359 _ _ t362 a1 t365 t368 _ ?side1 ?side2 ?side3 ?side4 A9.out).mono ?_); (case side1 => exact cG (Kd.R_reads' HO361.out).2.2); (case side2 => exact (Kd.R_reads' HO361.out).2.1); (case side3 => exact cG (Kd.R_reads' HO364.out).2.2); (case side4 => exact (Kd.R_reads' HO364.out).2.1); rintro e w20 ⟨v366, rfl, ho0, hb⟩; refine ⟨_, rfl, ?_⟩; replace HO361 := rB HO361 hb; replace HO364 := rB HO364 hb; replace HO367 := ak (Kd.R_lower ho0 (below_size (lT HB (gC GE357 gN)))); replace BK357 := bB BK357 hb; replace HB := ak (below_step (lT HB (gC GE357 gN)) hb); (try clear hb); (try clear hk); (try clear ho0); obtain ⟨hcz21_0, hcz21_1, hfz21_0, hfz21_1⟩ := bC2 BK357) | ((with_reducible refine gate_callee (f := 16) rfl ?_); refine gl (some 29) Try.func16 #[.agg #[.slice A0_0 l0_0.length c0_0, .slice A0_1 l0_1.length c0_1]] ?_; (with_reducible refine (laws_toDisk.calls k _ _ l0_0 _ _ l0_1 t369 t372 _ ?side1 ?side2 ?side3 ?side4 A10.out).mono ?_); (case side1 => exact cG (Kd.C_below HR0_0.out HB.out)); (case side2 => exact HC0_0.out); (case side3 => exact cG (Kd.C_below HR0_1.out HB.out)); (case side4 => exact HC0_1.out); rintro e w22 ⟨v370, v373, rfl, ho0, ho1, hb⟩; refine ⟨_, rfl, ?_⟩; replace HO367 := rB HO367 hb; replace HO371 := ak (Kd.R_lower (Kd.R_new' ho0 (Kd.R_lt (rG HO361))) (below_size (lT HB (gC GE357 gN)))); replace HO361 := ak (Kd.R_elder' (rG HO361) (Kd.R_base ho0) hb); replace HO374 := ak (Kd.R_lower (Kd.R_new' ho1 (Kd.R_lt (rG HO364))) (below_size (lT HB (gC GE357 gN)))); replace HO364 := ak (Kd.R_elder' (rG HO364) (Kd.R_base ho1) hb); replace BK357 := bB BK357 hb; replace HB := ak (below_step (lT HB (gC GE357 gN)) hb); (try clear hb); (try clear hk); (try clear ho0); (try clear ho1)) | ((with_reducible refine gate_dst (N := 8) rfl ?_); refine bx 8 #[.slice none 0 0, .slice none 0 0] 30 ?_; intro gb375 hg w23 hbox hb; replace HO361 := rB HO361 hb; replace HO364 := rB HO364 hb; replace HO367 := rB HO367 hb; replace HO371 := rB HO371 hb; replace HO374 := rB HO374 hb; replace BK375 := ak (hbox); replace GW375 := ak (bz hg (lT HB (gC GE357 gN))); replace GE375 := ak (bz hg (lT HB (gC GE357 gN))); replace HB := ak (below_step (lT HB (gC GE357 gN)) hb); replace NB357_375 := ak (nl hg (bG BK357)); replace NB375_357 := ak (ng hg (bG BK357)); replace BK357 := bB BK357 hb; clear hb hbox hg; obtain ⟨Ao24, co24, eo24⟩ := Kd.R_slice HO371.out; subst eo24; have hnb25 := NB375_357.out; have hnc25 := NB357_375.out; obtain ⟨hcz26_0, hcz26_1, hfz26_0, hfz26_1⟩ := bC2 BK375; obtain ⟨Ao27, co27, eo27⟩ := Kd.R_slice HO374.out; subst eo27) | ((with_reducible refine gate_callee (f := 43) rfl ?_); refine gl (some 33) Try.func43 #[.agg #[.slice Ao24 t369.length co24, .slice Ao27 t372.length co27], .int .i64 a1] ?_; (with_reducible refine (impl_SegFrames.calls k _ _ t369 _ _ t372 a1 t376 t379 _ ?side1 ?side2 ?side3 ?side4 A11.out).mono ?_); (case side1 => exact (Kd.R_reads' (rT HO371 BK375 (by decide))).2.2); (case side2 => exact (Kd.R_reads' HO371.out).2.1); (case side3 => exact (Kd.R_reads' (rT HO374 BK375 (by decide))).2.2); (case side4 => exact (Kd.R_reads' HO374.out).2.1); rintro e w28 ⟨v377, rfl, ho0, hb⟩; refine ⟨_, rfl, ?_⟩; replace HO361 := ak (Kd.R_below (rT HO361 BK375 (by decide)) hb); replace HO364 := ak (Kd.R_below (rT HO364 BK375 (by decide)) hb); replace HO371 := ak (Kd.R_below (rT HO371 BK375 (by decide)) hb); replace HO374 := ak (Kd.R_below (rT HO374 BK375 (by decide)) hb); replace HO378 := ak (Kd.Q_lower (Kd.Q_new' ho0 (Kd.R_lt (rT HO367 BK375 (by decide)))) (below_size (lT HB (gC GE357 (gC GE375 gN))))); replace HO367 := ak (Kd.R_elder' (rT HO367 BK375 (by decide)) (Kd.Q_base ho0) hb); replace BK357 := ak (blk_below (bT BK357 (nC NB357_375 nN)) hb); replace BK375 := ak (blk_below (g := gb375) (o := .cells #[.slice Ao24 t369.length co24, .slice Ao27 t372.length co27] 30 (0, 0)) (bW BK375) hb); replace HB := ak (below_step (lT HB (gC GE357 (gC GE375 gN))) hb); (try clear hb); (try clear hk); (try clear ho0)))
  (try simp only [Act.put, List.setIfInBounds_toArray, List.set_cons_zero, List.set_cons_succ])
  go_cut [44] (fun v44 wc => ∃ (kq : Nat) (x44_11 : Bool), v44 = .bool x44_11 ∧ Aside0 (laws_FnExactSegFrames.j0 kq a1 t365 t368 t376 t379 x44_11 l0_0 l0_1 t369 t372 = some r) ∧ Aside0 (kq ≤ k) ∧ Aside0 (Kd.R k77 77 wc w.heap.size (fun k_ => some k_ ≠ (v377 : Value).ownBlock) v366 t365) ∧ Aside0 (Kd.Q k77 77 wc w.heap.size (fun k_ => some k_ ≠ (v366 : Value).ownBlock) v377 t376) ∧ Aside0 (Kd.R Kd.string 9 wc w.heap.size (fun _ => True) (.slice Ao24 t369.length co24) t369) ∧ Aside0 (Kd.R k67 67 wc w.heap.size (fun _ => True) (.slice Ao27 t372.length co27) t372) ∧ Aside0 (wc.heap[gb357]? = some (.cells #[(.slice A0_0 l0_0.length c0_0), (.slice A0_1 l0_1.length c0_1)] 25 (0, 0))) ∧ Aside0 (wc.heap[gb375]? = some (.cells #[(.slice Ao24 t369.length co24), (.slice Ao27 t372.length co27)] 30 (0, 0))) ∧ Aside0 (Below w.heap.size w wc))
  case first =>
   have H := HC12.out
   clear HC12
   replace H := Option.bind_eq_some_iff.mp H
   obtain ⟨t380, A290, H⟩ := H
   replace H : (if t380 = true then (laws_FnExactSegFrames.j0 k a1 t365 t368 t376 t379 (t379 != t368) l0_0 l0_1 t369 t372) else (laws_FnExactSegFrames.j0 k a1 t365 t368 t376 t379 true l0_0 l0_1 t369 t372)) = some r := H
   have A29 := Aside0.mk A290
   clear A290
   by_cases c30 : t380 = true
   ·subst c30
    have H1 : (laws_FnExactSegFrames.j0 k a1 t365 t368 t376 t379 (t379 != t368) l0_0 l0_1 t369 t372) = some r := by rw [if_pos rfl] at H; exact H
    clear H
    have H := H1
    clear H1
    have H' := Aside0.mk H
    clear H
    obtain ⟨Ao31, co31, eo31, _⟩ := Kd.Q_slice HO378.out
    subst eo31
    obtain ⟨Ao32, co32, eo32⟩ := Kd.R_slice HO367.out
    subst eo32
    go_wp2_with (first | ((with_reducible refine gate_callee (f := 44) rfl ?_); refine gl (some 38) Try.func44 #[.slice Ao31 t376.length co31, .slice Ao32 t365.length co32] ?_; (with_reducible refine (laws_eqFrameS.calls k _ _ t376 _ _ t365 true _ ?side1 ?side2 ?side3 ?side4 A29.out).mono ?_); (case side1 => repeat (first | exact (Kd.Q_reads' HO378.out).2.2 | (with_reducible refine Kd.C_alloc ?_ _) | (with_reducible refine Kd.C_drewN ?_ _) | (with_reducible refine Kd.C_drew ?_))); (case side2 => exact (Kd.Q_reads' HO378.out).2.1); (case side3 => exact cG (Kd.R_reads' HO367.out).2.2); (case side4 => exact (Kd.R_reads' HO367.out).2.1); rintro e w33 ⟨rfl, hb⟩; refine ⟨_, rfl, ?_⟩; replace HO361 := rB HO361 hb; replace HO364 := rB HO364 hb; replace HO367 := rB HO367 hb; replace HO371 := rB HO371 hb; replace HO374 := rB HO374 hb; replace HO378 := ak (Kd.Q_below (by (with_reducible repeat (first | apply Kd.Q_alloc | apply Kd.Q_drewN | apply Kd.Q_drew)); exact HO378.out) hb); replace BK357 := bB BK357 hb; replace BK375 := bB BK375 hb; replace HB := ak (below_step (lT HB (gC GE357 (gC GE375 gN))) hb); (try clear hb); (try clear hk)))
    go_meet
    case rel => exact ⟨_, ((t379 != t368)), (by first | rfl | (simp; done) | (simp [*]; done)), H', ⟨by first | omega | exact Nat.le_refl _⟩, ⟨by (with_reducible repeat (first | apply Kd.R_alloc | apply Kd.R_drewN | apply Kd.R_drew)); exact Kd.R_mono HO367.out (fun _ hk => hk.2)⟩, ⟨by (with_reducible repeat (first | apply Kd.Q_alloc | apply Kd.Q_drewN | apply Kd.Q_drew)); exact Kd.Q_mono HO378.out (fun _ hk => hk.2)⟩, ⟨by (with_reducible repeat (first | apply Kd.R_alloc | apply Kd.R_drewN | apply Kd.R_drew)); exact Kd.R_mono HO371.out (fun _ hk => trivial)⟩, ⟨by (with_reducible repeat (first | apply Kd.R_alloc | apply Kd.R_drewN | apply Kd.R_drew)); exact Kd.R_mono HO374.out (fun _ hk => trivial)⟩, ⟨bG BK357⟩, ⟨bG BK375⟩, ⟨by exact lT HB (gC GE357 (gC GE375 gN))⟩⟩
   ·replace c30 := Bool.eq_false_iff.mpr c30
    subst c30
    have H1 : (laws_FnExactSegFrames.j0 k a1 t365 t368 t376 t379 true l0_0 l0_1 t369 t372) = some r := by rw [if_neg (show ¬ (false = true) by decide)] at H; exact H
    clear H
    have H := H1
    clear H1
    have H' := Aside0.mk H
    clear H
    obtain ⟨Ao34, co34, eo34, _⟩ := Kd.Q_slice HO378.out
    subst eo34
    obtain ⟨Ao35, co35, eo35⟩ := Kd.R_slice HO367.out
    subst eo35
    go_wp2_with (first | ((with_reducible refine gate_callee (f := 44) rfl ?_); refine gl (some 38) Try.func44 #[.slice Ao34 t376.length co34, .slice Ao35 t365.length co35] ?_; (with_reducible refine (laws_eqFrameS.calls k _ _ t376 _ _ t365 false _ ?side1 ?side2 ?side3 ?side4 A29.out).mono ?_); (case side1 => repeat (first | exact (Kd.Q_reads' HO378.out).2.2 | (with_reducible refine Kd.C_alloc ?_ _) | (with_reducible refine Kd.C_drewN ?_ _) | (with_reducible refine Kd.C_drew ?_))); (case side2 => exact (Kd.Q_reads' HO378.out).2.1); (case side3 => exact cG (Kd.R_reads' HO367.out).2.2); (case side4 => exact (Kd.R_reads' HO367.out).2.1); rintro e w36 ⟨rfl, hb⟩; refine ⟨_, rfl, ?_⟩; replace HO361 := rB HO361 hb; replace HO364 := rB HO364 hb; replace HO367 := rB HO367 hb; replace HO371 := rB HO371 hb; replace HO374 := rB HO374 hb; replace HO378 := ak (Kd.Q_below (by (with_reducible repeat (first | apply Kd.Q_alloc | apply Kd.Q_drewN | apply Kd.Q_drew)); exact HO378.out) hb); replace BK357 := bB BK357 hb; replace BK375 := bB BK375 hb; replace HB := ak (below_step (lT HB (gC GE357 (gC GE375 gN))) hb); (try clear hb); (try clear hk)))
    go_meet
    case rel => exact ⟨_, (true), (by first | rfl | (simp; done) | (simp [*]; done)), H', ⟨by first | omega | exact Nat.le_refl _⟩, ⟨by (with_reducible repeat (first | apply Kd.R_alloc | apply Kd.R_drewN | apply Kd.R_drew)); exact Kd.R_mono HO367.out (fun _ hk => hk.2)⟩, ⟨by (with_reducible repeat (first | apply Kd.Q_alloc | apply Kd.Q_drewN | apply Kd.Q_drew)); exact Kd.Q_mono HO378.out (fun _ hk => hk.2)⟩, ⟨by (with_reducible repeat (first | apply Kd.R_alloc | apply Kd.R_drewN | apply Kd.R_drew)); exact Kd.R_mono HO371.out (fun _ hk => trivial)⟩, ⟨by (with_reducible repeat (first | apply Kd.R_alloc | apply Kd.R_drewN | apply Kd.R_drew)); exact Kd.R_mono HO374.out (fun _ hk => trivial)⟩, ⟨bG BK357⟩, ⟨bG BK375⟩, ⟨by exact lT HB (gC GE357 (gC GE375 gN))⟩⟩
  case rest =>
   clear HC12
   try clear c1
   try clear c2
   try clear p2
   try clear c3
   try clear c4
   try clear c4b0
   try clear c13
   try clear c14
   try clear c16
   try clear c25
   try clear c30
   try clear hcz14_0
   try clear hcz14_1
   try clear hcz16_0
   try clear hcz16_1
   try clear hcz21_0
   try clear hcz21_1
   try clear hcz26_0
   try clear hcz26_1
   try clear hcz6_0
   try clear hcz6_1
   try clear hfz14_0
   try clear hfz14_1
   try clear hfz16_0
   try clear hfz16_1
   try clear hfz21_0
   try clear hfz21_1
   try clear hfz26_0
   try clear hfz26_1
   try clear hfz6_0
   try clear hfz6_1
   obtain ⟨kq, x44_11, rfl, HA, HJ11, HO_6, HO_9, HO_376000, HO_376001, BK357, BK375, HB⟩ := hcut
   cases kq with
   | zero => exact absurd HA.out (by simp [laws_FnExactSegFrames.j0])
   | succ kj11 =>
    have H := HA.out
    clear HA
    simp only [laws_FnExactSegFrames.j0] at H
    by_cases c37 : x44_11 = true
    ·subst c37
     have H1 : (some false) = some r := by rw [if_pos rfl] at H; exact H
     clear H
     have H := H1
     clear H1
     obtain rfl := Option.some.inj H
     go_wp2
     go_ret
     exact ⟨ew, by exact lT HB (gC GE357 (gC GE375 gN))⟩
    ·replace c37 := Bool.eq_false_iff.mpr c37
     subst c37
     have H1 : ((laws_toDisk.f kj11 l0_0 l0_1).bind fun bt381 => ((laws_eqDisk.f kj11 t369 t372 bt381.1 bt381.2).bind fun t387 => (if t387 = true then ((laws_markDisk.f kj11 t369 t372 1).bind fun bt388 => (if bt388.1 < 0 then (laws_FnExactSegFrames.j1 kj11 a1 t365 t368 t376 true l0_0 l0_1) else ((laws_eqFrameS.f kj11 t376 t365).bind fun t391 => (if t391 = true then (laws_FnExactSegFrames.j1 kj11 a1 t365 t368 t376 (t379 != t368) l0_0 l0_1) else (laws_FnExactSegFrames.j1 kj11 a1 t365 t368 t376 true l0_0 l0_1))))) else (some false)))) = some r := by rw [if_neg (show ¬ (false = true) by decide)] at H; exact H
     clear H
     have H := H1
     clear H1
     replace H := Option.bind_eq_some_iff.mp H
     obtain ⟨⟨t381, t384⟩, A380, H⟩ := H
     replace H : ((laws_eqDisk.f kj11 t369 t372 t381 t384).bind fun t387 => (if t387 = true then ((laws_markDisk.f kj11 t369 t372 1).bind fun bt388 => (if bt388.1 < 0 then (laws_FnExactSegFrames.j1 kj11 a1 t365 t368 t376 true l0_0 l0_1) else ((laws_eqFrameS.f kj11 t376 t365).bind fun t391 => (if t391 = true then (laws_FnExactSegFrames.j1 kj11 a1 t365 t368 t376 (t379 != t368) l0_0 l0_1) else (laws_FnExactSegFrames.j1 kj11 a1 t365 t368 t376 true l0_0 l0_1))))) else (some false))) = some r := H
     have A38 := Aside0.mk A380
     clear A380
     replace H := Option.bind_eq_some_iff.mp H
     obtain ⟨t387, A390, H⟩ := H
     replace H : (if t387 = true then ((laws_markDisk.f kj11 t369 t372 1).bind fun bt388 => (if bt388.1 < 0 then (laws_FnExactSegFrames.j1 kj11 a1 t365 t368 t376 true l0_0 l0_1) else ((laws_eqFrameS.f kj11 t376 t365).bind fun t391 => (if t391 = true then (laws_FnExactSegFrames.j1 kj11 a1 t365 t368 t376 (t379 != t368) l0_0 l0_1) else (laws_FnExactSegFrames.j1 kj11 a1 t365 t368 t376 true l0_0 l0_1))))) else (some false)) = some r := H
     have A39 := Aside0.mk A390
     clear A390
     by_cases c40 : t387 = true
     ·subst c40
      have H1 : ((laws_markDisk.f kj11 t369 t372 1).bind fun bt388 => (if bt388.1 < 0 then (laws_FnExactSegFrames.j1 kj11 a1 t365 t368 t376 true l0_0 l0_1) else ((laws_eqFrameS.f kj11 t376 t365).bind fun t391 => (if t391 = true then (laws_FnExactSegFrames.j1 kj11 a1 t365 t368 t376 (t379 != t368) l0_0 l0_1) else (laws_FnExactSegFrames.j1 kj11 a1 t365 t368 t376 true l0_0 l0_1))))) = some r := by rw [if_pos rfl] at H; exact H
      clear H
      have H := H1
      clear H1
      replace H := Option.bind_eq_some_iff.mp H
      obtain ⟨⟨t388, t389, t390⟩, A410, H⟩ := H
      replace H : (if t388 < 0 then (laws_FnExactSegFrames.j1 kj11 a1 t365 t368 t376 true l0_0 l0_1) else ((laws_eqFrameS.f kj11 t376 t365).bind fun t391 => (if t391 = true then (laws_FnExactSegFrames.j1 kj11 a1 t365 t368 t376 (t379 != t368) l0_0 l0_1) else (laws_FnExactSegFrames.j1 kj11 a1 t365 t368 t376 true l0_0 l0_1)))) = some r := H
      have A41 := Aside0.mk A410
      clear A410
      have HC42 := Aside0.mk H
      clear H
      try go_wp2
      replace HO_6 := ak (Kd.R_drew HO_6.out)
      replace HO_9 := ak (Kd.Q_drew HO_9.out)
      replace HO_376000 := ak (Kd.R_drew HO_376000.out)
      replace HO_376001 := ak (Kd.R_drew HO_376001.out)
      replace BK357 := ak (blk_drew BK357.out)
      replace BK375 := ak (blk_drew BK375.out)
      replace HB := ak (below_drew1 HB.out)
      refine start_ (n := 5) (S := fun w' => w'.cell? ⟨gb375, 0, none⟩ = some (.slice Ao24 t369.length co24) ∧ w'.cell? ⟨gb375, 1, none⟩ = some (.slice Ao27 t372.length co27) ∧ w'.cell? ⟨gb357, 0, none⟩ = some (.slice A0_0 l0_0.length c0_0) ∧ w'.cell? ⟨gb357, 1, none⟩ = some (.slice A0_1 l0_1.length c0_1)) (ds := []) #[f_,f_,f_,f_,f_] (by kernel_rfl) rfl rfl ⟨bc BK375 0, bc BK375 1, bc BK357 0, bc BK357 1⟩ (fun hHeld => ?_)
      generalize wc.drew = w43 at HO_6 HO_9 HO_376000 HO_376001 BK357 BK375 HB hHeld ⊢
      refine take_ (i := 0) (N := some 45) (v := ?_) (a' := ?_) #[t_,f_,f_,f_,f_] rfl rfl (by kernel_rfl) (fun _ _ _ h => h) (Or.inl ⟨by rfl, ?_⟩) hHeld ?_ ?_
      rotate_left
      ·rintro w' ⟨s0, s1, s2, s3⟩
       go_simp
       with_reducible rfl
      rotate_left
      ·simp only [Act.put, List.setIfInBounds_toArray, List.set_cons_zero, List.set_cons_succ, i64_w, i32_w]
       rfl
      refine take_ (i := 1) (N := some 46) (v := ?_) (a' := ?_) #[t_,t_,f_,f_,f_] rfl rfl (by kernel_rfl) (fun _ _ _ h => h) (Or.inl ⟨by rfl, ?_⟩) hHeld ?_ ?_
      rotate_left
      ·rintro w' ⟨s0, s1, s2, s3⟩
       go_simp
       with_reducible rfl
      rotate_left
      ·simp only [Act.put, List.setIfInBounds_toArray, List.set_cons_zero, List.set_cons_succ, i64_w, i32_w]
       rfl
      refine one_ (i := 2) (N := some 47) #[t_,t_,t_,f_,f_] rfl rfl (by kernel_rfl) (by decide) (fun K hK => ?_)
      refine goes_ Try.func16 (by kernel_rfl) rfl #[.agg #[.slice A0_0 l0_0.length c0_0, .slice A0_1 l0_1.length c0_1]] (by rfl) rfl rfl (by (try simp only [List.map_toArray, List.map_cons, List.map_nil]); first | done | rfl | (simp only [List.length_drop, List.length_take]; rfl)) ?_
      with_reducible refine (laws_toDisk.calls kj11 _ _ l0_0 _ _ l0_1 t381 t384 _ ?side1 ?side2 ?side3 ?side4 A38.out).mono ?_
      (case side1 => exact cG (Kd.C_below HR0_0.out HB.out))
      (case side2 => exact HC0_0.out)
      (case side3 => exact cG (Kd.C_below HR0_1.out HB.out))
      (case side4 => exact HC0_1.out)
      rintro e w44 ⟨v382, v385, rfl, ho0, ho1, hb⟩
      refine ⟨_, rfl, ?_⟩
      replace HO_6 := rB HO_6 hb
      replace HO_9 := ak (Kd.Q_below (by (with_reducible repeat (first | apply Kd.Q_alloc | apply Kd.Q_drewN | apply Kd.Q_drew)); exact HO_9.out) hb)
      replace HO383 := ak (Kd.R_lower (Kd.R_new' ho0 (Kd.R_lt (rG HO_376000))) (below_size (lT HB (gC GE357 (gC GE375 gN)))))
      replace HO_376000 := ak (Kd.R_elder' (rG HO_376000) (Kd.R_base ho0) hb)
      replace HO386 := ak (Kd.R_lower (Kd.R_new' ho1 (Kd.R_lt (rG HO_376001))) (below_size (lT HB (gC GE357 (gC GE375 gN)))))
      replace HO_376001 := ak (Kd.R_elder' (rG HO_376001) (Kd.R_base ho1) hb)
      replace BK357 := bB BK357 hb
      replace BK375 := bB BK375 hb
      replace HB := ak (below_step (lT HB (gC GE357 (gC GE375 gN))) hb)
      (try clear hb)
      (try clear hb2)
      (try clear hk)
      (try clear hi)
      (try clear ho0)
      (try clear ho1)
      obtain ⟨Ao45, co45, eo45⟩ := Kd.R_slice HO383.out
      (first | subst eo45 | (injection eo45 with f1_ f2_ f3_; have f4_ := f1_.symm; have f5_ := f3_.symm; clear f1_ f2_ f3_; subst f4_; subst f5_))
      obtain ⟨Ao46, co46, eo46⟩ := Kd.R_slice HO386.out
      (first | subst eo46 | (injection eo46 with f1_ f2_ f3_; have f4_ := f1_.symm; have f5_ := f3_.symm; clear f1_ f2_ f3_; subst f4_; subst f5_))
      refine hK.out _ _ ⟨bc BK375 0, bc BK375 1, bc BK357 0, bc BK357 1⟩ (fun hHeld => ?_)
      clear hK K
      refine nm ?_
      refine one_ (i := 3) (N := some 48) #[t_,t_,t_,t_,f_] rfl rfl (by kernel_rfl) (by decide) (fun K hK => ?_)
      refine goes_ Try.func18 (by kernel_rfl) rfl #[.agg #[.slice Ao24 t369.length co24, .slice Ao27 t372.length co27], .agg #[.slice Ao45 t381.length co45, .slice Ao46 t384.length co46]] (by rfl) rfl rfl (by (try simp only [List.map_toArray, List.map_cons, List.map_nil]); first | done | rfl | (simp only [List.length_drop, List.length_take]; rfl)) ?_
      with_reducible refine (laws_eqDisk.calls kj11 _ _ t369 _ _ t372 _ _ t381 _ _ t384 true _ ?side1 ?side2 ?side3 ?side4 ?side5 ?side6 ?side7 ?side8 A39.out).mono ?_
      (case side1 => exact cG (Kd.R_reads' HO_376000.out).2.2)
      (case side2 => exact (Kd.R_reads' HO_376000.out).2.1)
      (case side3 => exact cG (Kd.R_reads' HO_376001.out).2.2)
      (case side4 => exact (Kd.R_reads' HO_376001.out).2.1)
      (case side5 => exact cG (Kd.R_reads' HO383.out).2.2)
      (case side6 => exact (Kd.R_reads' HO383.out).2.1)
      (case side7 => exact cG (Kd.R_reads' HO386.out).2.2)
      (case side8 => exact (Kd.R_reads' HO386.out).2.1)
      rintro e w47 ⟨rfl, hb⟩
      refine ⟨_, rfl, ?_⟩
      replace HO_6 := rB HO_6 hb
      replace HO_9 := ak (Kd.Q_below (by (with_reducible repeat (first | apply Kd.Q_alloc | apply Kd.Q_drewN | apply Kd.Q_drew)); exact HO_9.out) hb)
      replace HO_376000 := rB HO_376000 hb
      replace HO_376001 := rB HO_376001 hb
      replace HO383 := rB HO383 hb
      replace HO386 := rB HO386 hb
      replace BK357 := bB BK357 hb
      replace BK375 := bB BK375 hb
      replace HB := ak (below_step (lT HB (gC GE357 (gC GE375 gN))) hb)
      (try clear hb)
      (try clear hb2)
      (try clear hk)
      (try clear hi)
      refine hK.out _ _ ⟨bc BK375 0, bc BK375 1, bc BK357 0, bc BK357 1⟩ (fun hHeld => ?_)
      clear hK K
      refine nm ?_
      refine pure_ (i := 4) (N := some 49) (v := ?_) (a' := ?_) #[t_,t_,t_,t_,t_] rfl rfl (by kernel_rfl) (fun _ _ _ h => h) (Or.inl ⟨by rfl, ?_⟩) ?_ ?_
      rotate_left
      ·intro w'
       go_simp
       with_reducible rfl
      rotate_left
      ·simp only [Act.put, List.setIfInBounds_toArray, List.set_cons_zero, List.set_cons_succ, i64_w, i32_w]
       rfl
      refine done_ (by kernel_rfl) ?_
      have hnb48 := NB375_357.out
      have hnc48 := NB357_375.out
      obtain ⟨hcz49_0, hcz49_1, hfz49_0, hfz49_1⟩ := bC2 BK375
      go_upto_region 14 with (first | ((with_reducible refine gate_callee (f := 29) rfl ?_); refine gl (some 52) Try.func29 #[.agg #[.slice Ao24 t369.length co24, .slice Ao27 t372.length co27], .int .i64 1] ?_; (with_reducible refine (laws_markDisk.calls kj11 (fun k_ => some k_ = (.slice Ao24 t369.length co24 : Value).ownBlock) (.slice Ao24 t369.length co24) t369 (fun k_ => some k_ = (.slice Ao27 t372.length co27 : Value).ownBlock) (.slice Ao27 t372.length co27) t372 1 t388 t389 t390 w _ ?side1 ?side2 ?side3 A41.out).mono ?_); (case side1 => exact lT HB (gC GE357 (gC GE375 gN))); (case side2 => exact Kd.R_tight rfl HO_376000.out); (case side3 => exact Kd.R_tight rfl HO_376001.out); rintro e w50 ⟨rfl, hy0, hy1, hb, hkp⟩; refine ⟨_, rfl, ?_⟩; replace HO_6 := ak (Kd.R_mono (ok' := fun k_ => some k_ ≠ (v377 : Value).ownBlock) (Kd.R_keptB ((Kd.R_apart' (Kd.R_apart' HO_6.out (Kd.R_typed HO_376000.out) (by decide)) (Kd.R_typed HO_376001.out) (by decide))) hkp (fun k_ hk_ hs_ => Or.elim hs_ (fun e_ => (hk_.1.2) e_) (fun e_ => (hk_.2) e_))) (fun k_ hk_ => hk_.1.1.1)); replace HO_9 := ak (Kd.Q_mono (ok' := fun k_ => some k_ ≠ (v366 : Value).ownBlock) (Kd.Q_keptB ((Kd.Q_apart' (Kd.Q_apart' HO_9.out (Kd.R_typed HO_376000.out) (by decide)) (Kd.R_typed HO_376001.out) (by decide))) hkp (fun k_ hk_ hs_ => Or.elim hs_ (fun e_ => (hk_.1.2) e_) (fun e_ => (hk_.2) e_))) (fun k_ hk_ => hk_.1.1.1)); replace BK357 := ak (blk_kept (bG BK357) hkp (fun hs_ => Or.elim hs_ (fun e_ => (fun e_ => (Kd.R_ne HO_376000.out BK357.out (by decide)) e_) e_) (fun e_ => (fun e_ => (Kd.R_ne HO_376001.out BK357.out (by decide)) e_) e_))); replace BK375 := ak (blk_kept (bG BK375) hkp (fun hs_ => Or.elim hs_ (fun e_ => (fun e_ => (Kd.R_ne HO_376000.out BK375.out (by decide)) e_) e_) (fun e_ => (fun e_ => (Kd.R_ne HO_376001.out BK375.out (by decide)) e_) e_))); replace HO383 := ak (Kd.R_mono (ok' := fun k_ => some k_ ≠ (.slice Ao24 t369.length co24 : Value).ownBlock) (Kd.R_keptB ((Kd.R_apart' HO383.out (Kd.R_typed HO_376001.out) (by decide))) hkp (fun k_ hk_ hs_ => Or.elim hs_ (fun e_ => (hk_.1.2) e_) (fun e_ => (hk_.2) e_))) (fun k_ hk_ => hk_.1.1.2)); replace HO_376001 := ak (Kd.R_reok rfl hy1 (fun k_ e_ => HO_376001.out.1 k_ e_)); replace HO386 := ak (Kd.R_mono (ok' := fun k_ => some k_ ≠ (.slice Ao27 t372.length co27 : Value).ownBlock) (Kd.R_keptB ((Kd.R_apart' HO386.out (Kd.R_typed HO_376000.out) (by decide))) hkp (fun k_ hk_ hs_ => Or.elim hs_ (fun e_ => (hk_.2) e_) (fun e_ => (hk_.1.2) e_))) (fun k_ hk_ => hk_.1.1.2)); replace HO_376000 := ak (Kd.R_reok rfl hy0 (fun k_ e_ => HO_376000.out.1 k_ e_)); replace HB := ak (hb); (try clear hb); (try clear hkp); (try clear hy0); (try clear hy1)))
      (try simp only [Act.put, List.setIfInBounds_toArray, List.set_cons_zero, List.set_cons_succ])
      go_cut [65] (fun v65 wc => ∃ (kq : Nat) (x65_41 : Bool), v65 = .bool x65_41 ∧ Aside0 (laws_FnExactSegFrames.j1 kq a1 t365 t368 t376 x65_41 l0_0 l0_1 = some r) ∧ Aside0 (kq ≤ kj11) ∧ Aside0 (Kd.R k77 77 wc w.heap.size (fun k_ => some k_ ≠ (v377 : Value).ownBlock) v366 t365) ∧ Aside0 (Kd.Q k77 77 wc w.heap.size (fun k_ => some k_ ≠ (v366 : Value).ownBlock) v377 t376) ∧ Aside0 (Kd.R Kd.string 9 wc w.heap.size (fun _ => True) (.slice Ao24 t369.length co24) t389) ∧ Aside0 (Kd.R k67 67 wc w.heap.size (fun _ => True) (.slice Ao27 t372.length co27) t390) ∧ Aside0 (wc.heap[gb357]? = some (.cells #[(.slice A0_0 l0_0.length c0_0), (.slice A0_1 l0_1.length c0_1)] 25 (0, 0))) ∧ Aside0 (wc.heap[gb375]? = some (.cells #[(.slice Ao24 t369.length co24), (.slice Ao27 t372.length co27)] 30 (0, 0))) ∧ Aside0 (Below w.heap.size w wc))
      case first =>
       have H := HC42.out
       clear HC42
       by_cases c51 : t388 < 0
       ·rw [if_pos c51] at H
        have c51b0 : decide (t388 < 0) = true := decide_eq_true c51
        clear c51
        (first | rw [c51b0] | (simp only [i64_w, i32_w]; rw [c51b0]) | skip)
        have H' := Aside0.mk H
        clear H
        go_wp2
        go_meet
        case rel => exact ⟨_, (true), (by first | rfl | (simp; done) | (simp [*]; done)), H', ⟨by have := HJ11.out; first | omega | exact Nat.le_refl _⟩, ⟨by (with_reducible repeat (first | apply Kd.R_alloc | apply Kd.R_drewN | apply Kd.R_drew)); exact HO_6.out⟩, ⟨by (with_reducible repeat (first | apply Kd.Q_alloc | apply Kd.Q_drewN | apply Kd.Q_drew)); exact HO_9.out⟩, ⟨by (with_reducible repeat (first | apply Kd.R_alloc | apply Kd.R_drewN | apply Kd.R_drew)); exact Kd.R_mono HO_376000.out (fun _ hk => trivial)⟩, ⟨by (with_reducible repeat (first | apply Kd.R_alloc | apply Kd.R_drewN | apply Kd.R_drew)); exact Kd.R_mono HO_376001.out (fun _ hk => trivial)⟩, ⟨bG BK357⟩, ⟨bG BK375⟩, ⟨by exact lT HB (gC GE357 (gC GE375 gN))⟩⟩
       ·rw [if_neg c51] at H
        have c51b0 : decide (t388 < 0) = false := decide_eq_false c51
        clear c51
        (first | rw [c51b0] | (simp only [i64_w, i32_w]; rw [c51b0]) | skip)
        replace H := Option.bind_eq_some_iff.mp H
        obtain ⟨t391, A520, H⟩ := H
        replace H : (if t391 = true then (laws_FnExactSegFrames.j1 kj11 a1 t365 t368 t376 (t379 != t368) l0_0 l0_1) else (laws_FnExactSegFrames.j1 kj11 a1 t365 t368 t376 true l0_0 l0_1)) = some r := H
        have A52 := Aside0.mk A520
        clear A520
        by_cases c53 : t391 = true
        ·subst c53
         have H1 : (laws_FnExactSegFrames.j1 kj11 a1 t365 t368 t376 (t379 != t368) l0_0 l0_1) = some r := by rw [if_pos rfl] at H; exact H
         clear H
         have H := H1
         clear H1
         have H' := Aside0.mk H
         clear H
         obtain ⟨Ao54, co54, eo54, _⟩ := Kd.Q_slice HO_9.out
         subst eo54
         obtain ⟨Ao55, co55, eo55⟩ := Kd.R_slice HO_6.out
         subst eo55
         go_wp2_with (first | (go_at_call 44; (with_reducible refine (laws_eqFrameS.calls kj11 _ _ t376 _ _ t365 true _ ?side1 ?side2 ?side3 ?side4 A52.out).mono ?_); (case side1 => repeat (first | exact (Kd.Q_reads' HO_9.out).2.2 | (with_reducible refine Kd.C_alloc ?_ _) | (with_reducible refine Kd.C_drewN ?_ _) | (with_reducible refine Kd.C_drew ?_))); (case side2 => exact (Kd.Q_reads' HO_9.out).2.1); (case side3 => exact cG (Kd.R_reads' HO_6.out).2.2); (case side4 => exact (Kd.R_reads' HO_6.out).2.1); rintro e w56 ⟨rfl, hb⟩; replace HO_6 := rB HO_6 hb; replace HO_9 := ak (Kd.Q_below (by (with_reducible repeat (first | apply Kd.Q_alloc | apply Kd.Q_drewN | apply Kd.Q_drew)); exact HO_9.out) hb); replace HO_376000 := rB HO_376000 hb; replace HO_376001 := rB HO_376001 hb; replace HO383 := rB HO383 hb; replace HO386 := rB HO386 hb; replace BK357 := bB BK357 hb; replace BK375 := bB BK375 hb; replace HB := ak (below_step (lT HB (gC GE357 (gC GE375 gN))) hb); (try clear hb); (try clear hk)))
         go_meet
         case rel => exact ⟨_, ((t379 != t368)), (by first | rfl | (simp; done) | (simp [*]; done)), H', ⟨by have := HJ11.out; first | omega | exact Nat.le_refl _⟩, ⟨by (with_reducible repeat (first | apply Kd.R_alloc | apply Kd.R_drewN | apply Kd.R_drew)); exact HO_6.out⟩, ⟨by (with_reducible repeat (first | apply Kd.Q_alloc | apply Kd.Q_drewN | apply Kd.Q_drew)); exact HO_9.out⟩, ⟨by (with_reducible repeat (first | apply Kd.R_alloc | apply Kd.R_drewN | apply Kd.R_drew)); exact Kd.R_mono HO_376000.out (fun _ hk => trivial)⟩, ⟨by (with_reducible repeat (first | apply Kd.R_alloc | apply Kd.R_drewN | apply Kd.R_drew)); exact Kd.R_mono HO_376001.out (fun _ hk => trivial)⟩, ⟨bG BK357⟩, ⟨bG BK375⟩, ⟨by exact lT HB (gC GE357 (gC GE375 gN))⟩⟩
        ·replace c53 := Bool.eq_false_iff.mpr c53
         subst c53
         have H1 : (laws_FnExactSegFrames.j1 kj11 a1 t365 t368 t376 true l0_0 l0_1) = some r := by rw [if_neg (show ¬ (false = true) by decide)] at H; exact H
         clear H
         have H := H1
         clear H1
         have H' := Aside0.mk H
         clear H
         obtain ⟨Ao57, co57, eo57, _⟩ := Kd.Q_slice HO_9.out
         subst eo57
         obtain ⟨Ao58, co58, eo58⟩ := Kd.R_slice HO_6.out
         subst eo58
         go_wp2_with (first | (go_at_call 44; (with_reducible refine (laws_eqFrameS.calls kj11 _ _ t376 _ _ t365 false _ ?side1 ?side2 ?side3 ?side4 A52.out).mono ?_); (case side1 => repeat (first | exact (Kd.Q_reads' HO_9.out).2.2 | (with_reducible refine Kd.C_alloc ?_ _) | (with_reducible refine Kd.C_drewN ?_ _) | (with_reducible refine Kd.C_drew ?_))); (case side2 => exact (Kd.Q_reads' HO_9.out).2.1); (case side3 => exact cG (Kd.R_reads' HO_6.out).2.2); (case side4 => exact (Kd.R_reads' HO_6.out).2.1); rintro e w59 ⟨rfl, hb⟩; replace HO_6 := rB HO_6 hb; replace HO_9 := ak (Kd.Q_below (by (with_reducible repeat (first | apply Kd.Q_alloc | apply Kd.Q_drewN | apply Kd.Q_drew)); exact HO_9.out) hb); replace HO_376000 := rB HO_376000 hb; replace HO_376001 := rB HO_376001 hb; replace HO383 := rB HO383 hb; replace HO386 := rB HO386 hb; replace BK357 := bB BK357 hb; replace BK375 := bB BK375 hb; replace HB := ak (below_step (lT HB (gC GE357 (gC GE375 gN))) hb); (try clear hb); (try clear hk)))
         go_meet
         case rel => exact ⟨_, (true), (by first | rfl | (simp; done) | (simp [*]; done)), H', ⟨by have := HJ11.out; first | omega | exact Nat.le_refl _⟩, ⟨by (with_reducible repeat (first | apply Kd.R_alloc | apply Kd.R_drewN | apply Kd.R_drew)); exact HO_6.out⟩, ⟨by (with_reducible repeat (first | apply Kd.Q_alloc | apply Kd.Q_drewN | apply Kd.Q_drew)); exact HO_9.out⟩, ⟨by (with_reducible repeat (first | apply Kd.R_alloc | apply Kd.R_drewN | apply Kd.R_drew)); exact Kd.R_mono HO_376000.out (fun _ hk => trivial)⟩, ⟨by (with_reducible repeat (first | apply Kd.R_alloc | apply Kd.R_drewN | apply Kd.R_drew)); exact Kd.R_mono HO_376001.out (fun _ hk => trivial)⟩, ⟨bG BK357⟩, ⟨bG BK375⟩, ⟨by exact lT HB (gC GE357 (gC GE375 gN))⟩⟩
      case rest =>
       clear HC42
       try clear c1
       try clear c2
       try clear p2
       try clear c3
       try clear c4
       try clear c4b0
       try clear c5
       try clear c13
       try clear c14
       try clear c16
       try clear c18
       try clear c25
       try clear c29
       try clear c30
       try clear c37
       try clear c40
       try clear c42
       try clear c43
       try clear c44
       try clear c48
       try clear c51
       try clear c51b0
       try clear c53
       try clear hcz14_0
       try clear hcz14_1
       try clear hcz16_0
       try clear hcz16_1
       try clear hcz21_0
       try clear hcz21_1
       try clear hcz26_0
       try clear hcz26_1
       try clear hcz49_0
       try clear hcz49_1
       try clear hcz6_0
       try clear hcz6_1
       try clear hfz14_0
       try clear hfz14_1
       try clear hfz16_0
       try clear hfz16_1
       try clear hfz21_0
       try clear hfz21_1
       try clear hfz26_0
       try clear hfz26_1
       try clear hfz49_0
       try clear hfz49_1
       try clear hfz6_0
       try clear hfz6_1
       try clear p2
       obtain ⟨kq, x65_41, rfl, HA, HJ41, HO_6, HO_9, HO_376000, HO_376001, BK357, BK375, HB⟩ := hcut
       have hl376000_41 := (Kd.R_reads' HO_376000.out).1
       rw [hl376000_41] at HO_376000
       (try simp only [hl376000_41])
       (try simp only [hl376000_41] at BK357)
       (try simp only [hl376000_41] at BK375)
       (try simp only [hl376000_41] at HO_6)
       (try simp only [hl376000_41] at HO_9)
       (try simp only [hl376000_41] at HO_376001)
       have hl376001_41 := (Kd.R_reads' HO_376001.out).1
       rw [hl376001_41] at HO_376001
       (try simp only [hl376001_41])
       (try simp only [hl376001_41] at BK357)
       (try simp only [hl376001_41] at BK375)
       (try simp only [hl376001_41] at HO_6)
       (try simp only [hl376001_41] at HO_9)
       (try simp only [hl376001_41] at HO_376000)
       cases kq with
       | zero => exact absurd HA.out (by simp [laws_FnExactSegFrames.j1])
       | succ kj41 =>
        have H := HA.out
        clear HA
        simp only [laws_FnExactSegFrames.j1] at H
        by_cases c60 : x65_41 = true
        ·subst c60
         have H1 : (some false) = some r := by rw [if_pos rfl] at H; exact H
         clear H
         have H := H1
         clear H1
         obtain rfl := Option.some.inj H
         go_wp2
         go_ret
         exact ⟨ew, by exact lT HB (gC GE357 (gC GE375 gN))⟩
        ·replace c60 := Bool.eq_false_iff.mpr c60
         subst c60
         have H1 : ((laws_markFrameS.f kj41 t376 1).bind fun bt392 => ((laws_heldFrameS.f kj41 bt392.2 1).bind fun t394 => (if t394 < 0 then (some false) else (if t394 = bt392.1 then ((laws_toDisk.f kj41 l0_0 l0_1).bind fun bt395 => ((impl_SegFrames.f kj41 bt395.1 bt395.2 a1).bind fun bt401 => ((laws_eqFrameS.f kj41 bt401.1 t365).bind fun t405 => (if t405 = true then (laws_FnExactSegFrames.j2 kj41 bt392.2 bt392.1 (bt401.2 != t368)) else (laws_FnExactSegFrames.j2 kj41 bt392.2 bt392.1 true))))) else (some false))))) = some r := by rw [if_neg (show ¬ (false = true) by decide)] at H; exact H
         clear H
         have H := H1
         clear H1
         replace H := Option.bind_eq_some_iff.mp H
         obtain ⟨⟨t392, t393⟩, A610, H⟩ := H
         replace H : ((laws_heldFrameS.f kj41 t393 1).bind fun t394 => (if t394 < 0 then (some false) else (if t394 = t392 then ((laws_toDisk.f kj41 l0_0 l0_1).bind fun bt395 => ((impl_SegFrames.f kj41 bt395.1 bt395.2 a1).bind fun bt401 => ((laws_eqFrameS.f kj41 bt401.1 t365).bind fun t405 => (if t405 = true then (laws_FnExactSegFrames.j2 kj41 t393 t392 (bt401.2 != t368)) else (laws_FnExactSegFrames.j2 kj41 t393 t392 true))))) else (some false)))) = some r := H
         have A61 := Aside0.mk A610
         clear A610
         replace H := Option.bind_eq_some_iff.mp H
         obtain ⟨t394, A620, H⟩ := H
         replace H : (if t394 < 0 then (some false) else (if t394 = t392 then ((laws_toDisk.f kj41 l0_0 l0_1).bind fun bt395 => ((impl_SegFrames.f kj41 bt395.1 bt395.2 a1).bind fun bt401 => ((laws_eqFrameS.f kj41 bt401.1 t365).bind fun t405 => (if t405 = true then (laws_FnExactSegFrames.j2 kj41 t393 t392 (bt401.2 != t368)) else (laws_FnExactSegFrames.j2 kj41 t393 t392 true))))) else (some false))) = some r := H
         have A62 := Aside0.mk A620
         clear A620
         by_cases c63 : t394 < 0
         ·rw [if_pos c63] at H
          have c63b0 : decide (t394 < 0) = true := decide_eq_true c63
          clear c63
          obtain rfl := Option.some.inj H
          obtain ⟨Ao64, co64, eo64, _⟩ := Kd.Q_slice HO_9.out
          subst eo64
          go_wp2_with (first | ((with_reducible refine gate_callee (f := 45) rfl ?_); refine gl (some 68) Try.func45 #[.slice Ao64 t376.length co64, .int .i64 1] ?_; (with_reducible refine (laws_markFrameS.calls kj41 (fun k_ => some k_ = (.slice Ao64 t376.length co64 : Value).ownBlock) (.slice Ao64 t376.length co64) t376 1 t392 t393 w _ ?side1 ?side2 A61.out).mono ?_); (case side1 => exact lT HB (gC GE357 (gC GE375 gN))); (case side2 => exact Kd.Q_tight rfl HO_9.out); rintro e w65 ⟨rfl, hy0, hb, hkp⟩; refine ⟨_, rfl, ?_⟩; replace HO_6 := ak (Kd.R_mono (ok' := fun k_ => some k_ ≠ (.slice Ao64 t376.length co64 : Value).ownBlock) (Kd.R_keptB (HO_6.out) hkp (fun k_ hk_ hs_ => (hk_) hs_)) (fun k_ hk_ => hk_.1)); replace HO_376000 := ak (Kd.R_mono (ok' := fun k_ => True) (Kd.R_keptB ((Kd.R_apart' HO_376000.out (Kd.Q_typed HO_9.out) (by decide))) hkp (fun k_ hk_ hs_ => (hk_.2) hs_)) (fun k_ hk_ => trivial)); replace HO_376001 := ak (Kd.R_mono (ok' := fun k_ => True) (Kd.R_keptB ((Kd.R_apart' HO_376001.out (Kd.Q_typed HO_9.out) (by decide))) hkp (fun k_ hk_ hs_ => (hk_.2) hs_)) (fun k_ hk_ => trivial)); replace BK357 := ak (blk_kept (bG BK357) hkp (fun hs_ => (fun e_ => (Kd.Q_ne HO_9.out BK357.out (by decide)) e_) hs_)); replace BK375 := ak (blk_kept (bG BK375) hkp (fun hs_ => (fun e_ => (Kd.Q_ne HO_9.out BK375.out (by decide)) e_) hs_)); replace HO_9 := ak (Kd.Q_reok rfl hy0 (fun k_ e_ => HO_9.out.1 k_ e_)); replace HB := ak (hb); (try clear hb); (try clear hkp); (try clear hy0)) | ((with_reducible refine gate_callee (f := 46) rfl ?_); refine goesL_ (some 71) rfl rfl Try.func46 (by kernel_rfl) rfl #[.slice Ao64 t393.length co64, .int .i64 1] rfl (by (try simp only [List.map_toArray, List.map_cons, List.map_nil]); first | done | (rw [show t393.length = t376.length from (Kd.Q_reads' HO_9.out).1.symm] <;> rfl) | rfl | (simp only [List.length_drop, List.length_take]; rfl)) ?_; (with_reducible refine (laws_heldFrameS.calls kj41 _ _ t393 1 t394 _ ?side1 ?side2 A62.out).mono ?_); (case side1 => repeat (first | exact (Kd.Q_reads' HO_9.out).2.2 | (with_reducible refine Kd.C_alloc ?_ _) | (with_reducible refine Kd.C_drewN ?_ _) | (with_reducible refine Kd.C_drew ?_))); (case side2 => rw [show t393.length = t376.length from (Kd.Q_reads' HO_9.out).1.symm]; exact (Kd.Q_reads' HO_9.out).2.1); rintro e w66 ⟨rfl, hb⟩; refine ⟨_, rfl, ?_⟩; replace HO_6 := rB HO_6 hb; replace HO_9 := ak (Kd.Q_below (by (with_reducible repeat (first | apply Kd.Q_alloc | apply Kd.Q_drewN | apply Kd.Q_drew)); exact HO_9.out) hb); replace HO_376000 := rB HO_376000 hb; replace HO_376001 := rB HO_376001 hb; replace BK357 := bB BK357 hb; replace BK375 := bB BK375 hb; replace HB := ak (below_step (lT HB (gC GE357 (gC GE375 gN))) hb); (try clear hb); (try clear hk)))
          go_ret
          exact ⟨ew, by exact lT HB (gC GE357 (gC GE375 gN))⟩
         ·rw [if_neg c63] at H
          have c63b0 : decide (t394 < 0) = false := decide_eq_false c63
          clear c63
          by_cases c67 : t394 = t392
          ·rw [if_pos c67] at H
           have c67b0 : (t394 == t392) = true := beq_iff_eq.mpr c67
           have c67b1 : (t394 != t392) = false := bne_eq_false_iff_eq.mpr c67
           clear c67
           replace H := Option.bind_eq_some_iff.mp H
           obtain ⟨⟨t395, t398⟩, A680, H⟩ := H
           replace H : ((impl_SegFrames.f kj41 t395 t398 a1).bind fun bt401 => ((laws_eqFrameS.f kj41 bt401.1 t365).bind fun t405 => (if t405 = true then (laws_FnExactSegFrames.j2 kj41 t393 t392 (bt401.2 != t368)) else (laws_FnExactSegFrames.j2 kj41 t393 t392 true)))) = some r := H
           have A68 := Aside0.mk A680
           clear A680
           replace H := Option.bind_eq_some_iff.mp H
           obtain ⟨⟨t401, t404⟩, A690, H⟩ := H
           replace H : ((laws_eqFrameS.f kj41 t401 t365).bind fun t405 => (if t405 = true then (laws_FnExactSegFrames.j2 kj41 t393 t392 (t404 != t368)) else (laws_FnExactSegFrames.j2 kj41 t393 t392 true))) = some r := H
           have A69 := Aside0.mk A690
           clear A690
           have HC70 := Aside0.mk H
           clear H
           obtain ⟨Ao71, co71, eo71, _⟩ := Kd.Q_slice HO_9.out
           subst eo71
           go_upto_region 25 with (first | ((with_reducible refine gate_callee (f := 45) rfl ?_); refine gl (some 68) Try.func45 #[.slice Ao71 t376.length co71, .int .i64 1] ?_; (with_reducible refine (laws_markFrameS.calls kj41 (fun k_ => some k_ = (.slice Ao71 t376.length co71 : Value).ownBlock) (.slice Ao71 t376.length co71) t376 1 t392 t393 w _ ?side1 ?side2 A61.out).mono ?_); (case side1 => exact lT HB (gC GE357 (gC GE375 gN))); (case side2 => exact Kd.Q_tight rfl HO_9.out); rintro e w72 ⟨rfl, hy0, hb, hkp⟩; refine ⟨_, rfl, ?_⟩; replace HO_6 := ak (Kd.R_mono (ok' := fun k_ => some k_ ≠ (.slice Ao71 t376.length co71 : Value).ownBlock) (Kd.R_keptB (HO_6.out) hkp (fun k_ hk_ hs_ => (hk_) hs_)) (fun k_ hk_ => hk_.1)); replace HO_376000 := ak (Kd.R_mono (ok' := fun k_ => True) (Kd.R_keptB ((Kd.R_apart' HO_376000.out (Kd.Q_typed HO_9.out) (by decide))) hkp (fun k_ hk_ hs_ => (hk_.2) hs_)) (fun k_ hk_ => trivial)); replace HO_376001 := ak (Kd.R_mono (ok' := fun k_ => True) (Kd.R_keptB ((Kd.R_apart' HO_376001.out (Kd.Q_typed HO_9.out) (by decide))) hkp (fun k_ hk_ hs_ => (hk_.2) hs_)) (fun k_ hk_ => trivial)); replace BK357 := ak (blk_kept (bG BK357) hkp (fun hs_ => (fun e_ => (Kd.Q_ne HO_9.out BK357.out (by decide)) e_) hs_)); replace BK375 := ak (blk_kept (bG BK375) hkp (fun hs_ => (fun e_ => (Kd.Q_ne HO_9.out BK375.out (by decide)) e_) hs_)); replace HO_9 := ak (Kd.Q_reok rfl hy0 (fun k_ e_ => HO_9.out.1 k_ e_)); replace HB := ak (hb); (try clear hb); (try clear hkp); (try clear hy0)) | ((with_reducible refine gate_callee (f := 46) rfl ?_); refine goesL_ (some 71) rfl rfl Try.func46 (by kernel_rfl) rfl #[.slice Ao71 t393.length co71, .int .i64 1] rfl (by (try simp only [List.map_toArray, List.map_cons, List.map_nil]); first | done | (rw [show t393.length = t376.length from (Kd.Q_reads' HO_9.out).1.symm] <;> rfl) | rfl | (simp only [List.length_drop, List.length_take]; rfl)) ?_; (with_reducible refine (laws_heldFrameS.calls kj41 _ _ t393 1 t394 _ ?side1 ?side2 A62.out).mono ?_); (case side1 => repeat (first | exact (Kd.Q_reads' HO_9.out).2.2 | (with_reducible refine Kd.C_alloc ?_ _) | (with_reducible refine Kd.C_drewN ?_ _) | (with_reducible refine Kd.C_drew ?_))); (case side2 => rw [show t393.length = t376.length from (Kd.Q_reads' HO_9.out).1.symm]; exact (Kd.Q_reads' HO_9.out).2.1); rintro e w73 ⟨rfl, hb⟩; refine ⟨_, rfl, ?_⟩; replace HO_6 := rB HO_6 hb; replace HO_9 := ak (Kd.Q_below (by (with_reducible repeat (first | apply Kd.Q_alloc | apply Kd.Q_drewN | apply Kd.Q_drew)); exact HO_9.out) hb); replace HO_376000 := rB HO_376000 hb; replace HO_376001 := rB HO_376001 hb; replace BK357 := bB BK357 hb; replace BK375 := bB BK375 hb; replace HB := ak (below_step (lT HB (gC GE357 (gC GE375 gN))) hb); (try clear hb); (try clear hk); have hnb74 := NB357_375.out; have hnc74 := NB375_357.out; obtain ⟨hcz75_0, hcz75_1, hfz75_0, hfz75_1⟩ := bC2 BK357) | ((with_reducible refine gate_callee (f := 16) rfl ?_); refine gl (some 79) Try.func16 #[.agg #[.slice A0_0 l0_0.length c0_0, .slice A0_1 l0_1.length c0_1]] ?_; (with_reducible refine (laws_toDisk.calls kj41 _ _ l0_0 _ _ l0_1 t395 t398 _ ?side1 ?side2 ?side3 ?side4 A68.out).mono ?_); (case side1 => exact cG (Kd.C_below HR0_0.out HB.out)); (case side2 => exact HC0_0.out); (case side3 => exact cG (Kd.C_below HR0_1.out HB.out)); (case side4 => exact HC0_1.out); rintro e w76 ⟨v396, v399, rfl, ho0, ho1, hb⟩; refine ⟨_, rfl, ?_⟩; replace HO_6 := rB HO_6 hb; replace HO_9 := ak (Kd.Q_below (by (with_reducible repeat (first | apply Kd.Q_alloc | apply Kd.Q_drewN | apply Kd.Q_drew)); exact HO_9.out) hb); replace HO397 := ak (Kd.R_lower (Kd.R_new' ho0 (Kd.R_lt (rG HO_376000))) (below_size (lT HB (gC GE357 (gC GE375 gN))))); replace HO_376000 := ak (Kd.R_elder' (rG HO_376000) (Kd.R_base ho0) hb); replace HO400 := ak (Kd.R_lower (Kd.R_new' ho1 (Kd.R_lt (rG HO_376001))) (below_size (lT HB (gC GE357 (gC GE375 gN))))); replace HO_376001 := ak (Kd.R_elder' (rG HO_376001) (Kd.R_base ho1) hb); replace BK357 := bB BK357 hb; replace BK375 := bB BK375 hb; replace HB := ak (below_step (lT HB (gC GE357 (gC GE375 gN))) hb); (try clear hb); (try clear hk); (try clear ho0); (try clear ho1); obtain ⟨Ao77, co77, eo77⟩ := Kd.R_slice HO397.out; subst eo77; obtain ⟨Ao78, co78, eo78⟩ := Kd.R_slice HO400.out; subst eo78) | ((with_reducible refine gate_callee (f := 43) rfl ?_); refine gl (some 81) Try.func43 #[.agg #[.slice Ao77 t395.length co77, .slice Ao78 t398.length co78], .int .i64 a1] ?_; (with_reducible refine (impl_SegFrames.calls kj41 _ _ t395 _ _ t398 a1 t401 t404 _ ?side1 ?side2 ?side3 ?side4 A69.out).mono ?_); (case side1 => exact cG (Kd.R_reads' HO397.out).2.2); (case side2 => exact (Kd.R_reads' HO397.out).2.1); (case side3 => exact cG (Kd.R_reads' HO400.out).2.2); (case side4 => exact (Kd.R_reads' HO400.out).2.1); rintro e w79 ⟨v402, rfl, ho0, hb⟩; refine ⟨_, rfl, ?_⟩; replace HO_376000 := rB HO_376000 hb; replace HO_376001 := rB HO_376001 hb; replace HO397 := rB HO397 hb; replace HO400 := rB HO400 hb; replace HO403 := ak (Kd.Q_lower (Kd.Q_new' (Kd.Q_new' ho0 (Kd.R_lt (rG HO_6))) (Kd.Q_lt (by (with_reducible repeat (first | apply Kd.Q_alloc | apply Kd.Q_drewN | apply Kd.Q_drew)); exact HO_9.out))) (below_size (lT HB (gC GE357 (gC GE375 gN))))); replace HO_6 := ak (Kd.R_elder' (rG HO_6) (Kd.Q_base ho0) hb); replace HO_9 := ak (Kd.Q_elder' (by (with_reducible repeat (first | apply Kd.Q_alloc | apply Kd.Q_drewN | apply Kd.Q_drew)); exact HO_9.out) (Kd.Q_base ho0) hb); replace BK357 := bB BK357 hb; replace BK375 := bB BK375 hb; replace HB := ak (below_step (lT HB (gC GE357 (gC GE375 gN))) hb); (try clear hb); (try clear hk); (try clear ho0)))
           (try simp only [Act.put, List.setIfInBounds_toArray, List.set_cons_zero, List.set_cons_succ])
           go_cut [92] (fun v92 wc => ∃ (kq : Nat) (x92_69 : Bool), v92 = .bool x92_69 ∧ Aside0 (laws_FnExactSegFrames.j2 kq t393 t392 x92_69 = some r) ∧ Aside0 (kq ≤ kj41) ∧ Aside0 (Kd.Q k77 77 wc w.heap.size (fun _ => True) (.slice Ao71 t376.length co71) t393) ∧ Aside0 (Kd.R Kd.string 9 wc w.heap.size (fun _ => True) (.slice Ao24 t389.length co24) t389) ∧ Aside0 (Kd.R k67 67 wc w.heap.size (fun _ => True) (.slice Ao27 t390.length co27) t390) ∧ Aside0 (wc.heap[gb357]? = some (.cells #[(.slice A0_0 l0_0.length c0_0), (.slice A0_1 l0_1.length c0_1)] 25 (0, 0))) ∧ Aside0 (wc.heap[gb375]? = some (.cells #[(.slice Ao24 t389.length co24), (.slice Ao27 t390.length co27)] 30 (0, 0))) ∧ Aside0 (Below w.heap.size w wc))
           case first =>
            have H := HC70.out
            clear HC70
            replace H := Option.bind_eq_some_iff.mp H
            obtain ⟨t405, A800, H⟩ := H
            replace H : (if t405 = true then (laws_FnExactSegFrames.j2 kj41 t393 t392 (t404 != t368)) else (laws_FnExactSegFrames.j2 kj41 t393 t392 true)) = some r := H
            have A80 := Aside0.mk A800
            clear A800
            by_cases c81 : t405 = true
            ·subst c81
             have H1 : (laws_FnExactSegFrames.j2 kj41 t393 t392 (t404 != t368)) = some r := by rw [if_pos rfl] at H; exact H
             clear H
             have H := H1
             clear H1
             have H' := Aside0.mk H
             clear H
             obtain ⟨Ao82, co82, eo82, _⟩ := Kd.Q_slice HO403.out
             subst eo82
             obtain ⟨Ao83, co83, eo83⟩ := Kd.R_slice HO_6.out
             subst eo83
             go_wp2_with (first | ((with_reducible refine gate_callee (f := 44) rfl ?_); refine gl (some 86) Try.func44 #[.slice Ao82 t401.length co82, .slice Ao83 t365.length co83] ?_; (with_reducible refine (laws_eqFrameS.calls kj41 _ _ t401 _ _ t365 true _ ?side1 ?side2 ?side3 ?side4 A80.out).mono ?_); (case side1 => repeat (first | exact (Kd.Q_reads' HO403.out).2.2 | (with_reducible refine Kd.C_alloc ?_ _) | (with_reducible refine Kd.C_drewN ?_ _) | (with_reducible refine Kd.C_drew ?_))); (case side2 => exact (Kd.Q_reads' HO403.out).2.1); (case side3 => exact cG (Kd.R_reads' HO_6.out).2.2); (case side4 => exact (Kd.R_reads' HO_6.out).2.1); rintro e w84 ⟨rfl, hb⟩; refine ⟨_, rfl, ?_⟩; replace HO_6 := rB HO_6 hb; replace HO_9 := ak (Kd.Q_below (by (with_reducible repeat (first | apply Kd.Q_alloc | apply Kd.Q_drewN | apply Kd.Q_drew)); exact HO_9.out) hb); replace HO_376000 := rB HO_376000 hb; replace HO_376001 := rB HO_376001 hb; replace HO397 := rB HO397 hb; replace HO400 := rB HO400 hb; replace HO403 := ak (Kd.Q_below (by (with_reducible repeat (first | apply Kd.Q_alloc | apply Kd.Q_drewN | apply Kd.Q_drew)); exact HO403.out) hb); replace BK357 := bB BK357 hb; replace BK375 := bB BK375 hb; replace HB := ak (below_step (lT HB (gC GE357 (gC GE375 gN))) hb); (try clear hb); (try clear hk)))
             go_meet
             case rel => exact ⟨_, ((t404 != t368)), (by first | rfl | (simp; done) | (simp [*]; done)), H', ⟨by have := HJ11.out; have := HJ41.out; first | omega | exact Nat.le_refl _⟩, ⟨by (try simp only [hl376000_41]); (try simp only [hl376001_41]); (with_reducible repeat (first | apply Kd.Q_alloc | apply Kd.Q_drewN | apply Kd.Q_drew)); exact Kd.Q_mono HO_9.out (fun _ hk => trivial)⟩, ⟨by (try simp only [hl376000_41]); (try simp only [hl376001_41]); (with_reducible repeat (first | apply Kd.R_alloc | apply Kd.R_drewN | apply Kd.R_drew)); exact Kd.R_mono HO_376000.out (fun _ hk => trivial)⟩, ⟨by (try simp only [hl376000_41]); (try simp only [hl376001_41]); (with_reducible repeat (first | apply Kd.R_alloc | apply Kd.R_drewN | apply Kd.R_drew)); exact Kd.R_mono HO_376001.out (fun _ hk => trivial)⟩, ⟨by (try simp only [hl376000_41]); (try simp only [hl376001_41]); (with_reducible repeat (first | refine blk_drewN ?_ _ | refine blk_drew ?_ | refine blk_alloc ?_ _)); exact BK357.out⟩, ⟨by (try simp only [hl376000_41]); (try simp only [hl376001_41]); (with_reducible repeat (first | refine blk_drewN ?_ _ | refine blk_drew ?_ | refine blk_alloc ?_ _)); exact BK375.out⟩, ⟨by exact lT HB (gC GE357 (gC GE375 gN))⟩⟩
            ·replace c81 := Bool.eq_false_iff.mpr c81
             subst c81
             have H1 : (laws_FnExactSegFrames.j2 kj41 t393 t392 true) = some r := by rw [if_neg (show ¬ (false = true) by decide)] at H; exact H
             clear H
             have H := H1
             clear H1
             have H' := Aside0.mk H
             clear H
             obtain ⟨Ao85, co85, eo85, _⟩ := Kd.Q_slice HO403.out
             subst eo85
             obtain ⟨Ao86, co86, eo86⟩ := Kd.R_slice HO_6.out
             subst eo86
             go_wp2_with (first | ((with_reducible refine gate_callee (f := 44) rfl ?_); refine gl (some 86) Try.func44 #[.slice Ao85 t401.length co85, .slice Ao86 t365.length co86] ?_; (with_reducible refine (laws_eqFrameS.calls kj41 _ _ t401 _ _ t365 false _ ?side1 ?side2 ?side3 ?side4 A80.out).mono ?_); (case side1 => repeat (first | exact (Kd.Q_reads' HO403.out).2.2 | (with_reducible refine Kd.C_alloc ?_ _) | (with_reducible refine Kd.C_drewN ?_ _) | (with_reducible refine Kd.C_drew ?_))); (case side2 => exact (Kd.Q_reads' HO403.out).2.1); (case side3 => exact cG (Kd.R_reads' HO_6.out).2.2); (case side4 => exact (Kd.R_reads' HO_6.out).2.1); rintro e w87 ⟨rfl, hb⟩; refine ⟨_, rfl, ?_⟩; replace HO_6 := rB HO_6 hb; replace HO_9 := ak (Kd.Q_below (by (with_reducible repeat (first | apply Kd.Q_alloc | apply Kd.Q_drewN | apply Kd.Q_drew)); exact HO_9.out) hb); replace HO_376000 := rB HO_376000 hb; replace HO_376001 := rB HO_376001 hb; replace HO397 := rB HO397 hb; replace HO400 := rB HO400 hb; replace HO403 := ak (Kd.Q_below (by (with_reducible repeat (first | apply Kd.Q_alloc | apply Kd.Q_drewN | apply Kd.Q_drew)); exact HO403.out) hb); replace BK357 := bB BK357 hb; replace BK375 := bB BK375 hb; replace HB := ak (below_step (lT HB (gC GE357 (gC GE375 gN))) hb); (try clear hb); (try clear hk)))
             go_meet
             case rel => exact ⟨_, (true), (by first | rfl | (simp; done) | (simp [*]; done)), H', ⟨by have := HJ11.out; have := HJ41.out; first | omega | exact Nat.le_refl _⟩, ⟨by (try simp only [hl376000_41]); (try simp only [hl376001_41]); (with_reducible repeat (first | apply Kd.Q_alloc | apply Kd.Q_drewN | apply Kd.Q_drew)); exact Kd.Q_mono HO_9.out (fun _ hk => trivial)⟩, ⟨by (try simp only [hl376000_41]); (try simp only [hl376001_41]); (with_reducible repeat (first | apply Kd.R_alloc | apply Kd.R_drewN | apply Kd.R_drew)); exact Kd.R_mono HO_376000.out (fun _ hk => trivial)⟩, ⟨by (try simp only [hl376000_41]); (try simp only [hl376001_41]); (with_reducible repeat (first | apply Kd.R_alloc | apply Kd.R_drewN | apply Kd.R_drew)); exact Kd.R_mono HO_376001.out (fun _ hk => trivial)⟩, ⟨by (try simp only [hl376000_41]); (try simp only [hl376001_41]); (with_reducible repeat (first | refine blk_drewN ?_ _ | refine blk_drew ?_ | refine blk_alloc ?_ _)); exact BK357.out⟩, ⟨by (try simp only [hl376000_41]); (try simp only [hl376001_41]); (with_reducible repeat (first | refine blk_drewN ?_ _ | refine blk_drew ?_ | refine blk_alloc ?_ _)); exact BK375.out⟩, ⟨by exact lT HB (gC GE357 (gC GE375 gN))⟩⟩
           case rest =>
            clear HC70
            try clear c1
            try clear c2
            try clear p2
            try clear c3
            try clear c4
            try clear c4b0
            try clear c5
            try clear c6
            try clear c7
            try clear c8
            try clear c13
            try clear c14
            try clear c16
            try clear c18
            try clear c25
            try clear c29
            try clear c30
            try clear c37
            try clear c40
            try clear c42
            try clear c43
            try clear c44
            try clear c45
            try clear c46
            try clear c48
            try clear c51
            try clear c51b0
            try clear c53
            try clear c60
            try clear c63
            try clear c63b0
            try clear c67
            try clear c67b0
            try clear c67b1
            try clear c74
            try clear c81
            try clear hcz14_0
            try clear hcz14_1
            try clear hcz16_0
            try clear hcz16_1
            try clear hcz21_0
            try clear hcz21_1
            try clear hcz26_0
            try clear hcz26_1
            try clear hcz49_0
            try clear hcz49_1
            try clear hcz6_0
            try clear hcz6_1
            try clear hcz75_0
            try clear hcz75_1
            try clear hfz14_0
            try clear hfz14_1
            try clear hfz16_0
            try clear hfz16_1
            try clear hfz21_0
            try clear hfz21_1
            try clear hfz26_0
            try clear hfz26_1
            try clear hfz49_0
            try clear hfz49_1
            try clear hfz6_0
            try clear hfz6_1
            try clear hfz75_0
            try clear hfz75_1
            try clear p2
            obtain ⟨kq, x92_69, rfl, HA, HJ69, HO_9, HO_376000, HO_376001, BK357, BK375, HB⟩ := hcut
            have hl9_69 := (Kd.Q_reads' HO_9.out).1
            rw [hl9_69] at HO_9
            (try simp only [hl9_69])
            (try simp only [hl9_69] at BK357)
            (try simp only [hl9_69] at BK375)
            (try simp only [hl9_69] at HO_376000)
            (try simp only [hl9_69] at HO_376001)
            cases kq with
            | zero => exact absurd HA.out (by simp [laws_FnExactSegFrames.j2])
            | succ kj69 =>
             have H := HA.out
             clear HA
             simp only [laws_FnExactSegFrames.j2] at H
             by_cases c88 : x92_69 = true
             ·subst c88
              have H1 : (some false) = some r := by rw [if_pos rfl] at H; exact H
              clear H
              have H := H1
              clear H1
              obtain rfl := Option.some.inj H
              go_wp2
              go_ret
              exact ⟨ew, by exact lT HB (gC GE357 (gC GE375 gN))⟩
             ·replace c88 := Bool.eq_false_iff.mpr c88
              subst c88
              have H1 : ((laws_heldFrameS.f kj69 t393 1).bind fun t406 => (if t406 < 0 then (some false) else (if t406 = t392 then (some true) else (some false)))) = some r := by rw [if_neg (show ¬ (false = true) by decide)] at H; exact H
              clear H
              have H := H1
              clear H1
              replace H := Option.bind_eq_some_iff.mp H
              obtain ⟨t406, A890, H⟩ := H
              replace H : (if t406 < 0 then (some false) else (if t406 = t392 then (some true) else (some false))) = some r := H
              have A89 := Aside0.mk A890
              clear A890
              by_cases c90 : t406 < 0
              ·rw [if_pos c90] at H
               have c90b0 : decide (t406 < 0) = true := decide_eq_true c90
               clear c90
               obtain rfl := Option.some.inj H
               go_wp2_with (first | ((with_reducible refine gate_callee (f := 46) rfl ?_); refine gl (some 95) Try.func46 #[.slice Ao71 t393.length co71, .int .i64 1] ?_; (with_reducible refine (laws_heldFrameS.calls kj69 _ _ t393 1 t406 _ ?side1 ?side2 A89.out).mono ?_); (case side1 => repeat (first | exact (Kd.Q_reads' HO_9.out).2.2 | (with_reducible refine Kd.C_alloc ?_ _) | (with_reducible refine Kd.C_drewN ?_ _) | (with_reducible refine Kd.C_drew ?_))); (case side2 => exact (Kd.Q_reads' HO_9.out).2.1); rintro e w91 ⟨rfl, hb⟩; refine ⟨_, rfl, ?_⟩; replace HO_9 := ak (Kd.Q_below (by (with_reducible repeat (first | apply Kd.Q_alloc | apply Kd.Q_drewN | apply Kd.Q_drew)); exact HO_9.out) hb); replace HO_376000 := rB HO_376000 hb; replace HO_376001 := rB HO_376001 hb; replace BK357 := bB BK357 hb; replace BK375 := bB BK375 hb; replace HB := ak (below_step (lT HB (gC GE357 (gC GE375 gN))) hb); (try clear hb); (try clear hk)))
               go_ret
               exact ⟨ew, by exact lT HB (gC GE357 (gC GE375 gN))⟩
              ·rw [if_neg c90] at H
               have c90b0 : decide (t406 < 0) = false := decide_eq_false c90
               clear c90
               by_cases c92 : t406 = t392
               ·rw [if_pos c92] at H
                have c92b0 : (t406 == t392) = true := beq_iff_eq.mpr c92
                have c92b1 : (t406 != t392) = false := bne_eq_false_iff_eq.mpr c92
                clear c92
                obtain rfl := Option.some.inj H
                go_wp2_with (first | ((with_reducible refine gate_callee (f := 46) rfl ?_); refine gl (some 95) Try.func46 #[.slice Ao71 t393.length co71, .int .i64 1] ?_; (with_reducible refine (laws_heldFrameS.calls kj69 _ _ t393 1 t406 _ ?side1 ?side2 A89.out).mono ?_); (case side1 => repeat (first | exact (Kd.Q_reads' HO_9.out).2.2 | (with_reducible refine Kd.C_alloc ?_ _) | (with_reducible refine Kd.C_drewN ?_ _) | (with_reducible refine Kd.C_drew ?_))); (case side2 => exact (Kd.Q_reads' HO_9.out).2.1); rintro e w93 ⟨rfl, hb⟩; refine ⟨_, rfl, ?_⟩; replace HO_9 := ak (Kd.Q_below (by (with_reducible repeat (first | apply Kd.Q_alloc | apply Kd.Q_drewN | apply Kd.Q_drew)); exact HO_9.out) hb); replace HO_376000 := rB HO_376000 hb; replace HO_376001 := rB HO_376001 hb; replace BK357 := bB BK357 hb; replace BK375 := bB BK375 hb; replace HB := ak (below_step (lT HB (gC GE357 (gC GE375 gN))) hb); (try clear hb); (try clear hk)))
                go_ret
                exact ⟨ew, by exact lT HB (gC GE357 (gC GE375 gN))⟩
               ·rw [if_neg c92] at H
                have c92b0 : (t406 == t392) = false := beq_eq_false_iff_ne.mpr c92
                have c92b1 : (t406 != t392) = true := bne_iff_ne.mpr c92
                obtain rfl := Option.some.inj H
                go_wp2_with (first | ((with_reducible refine gate_callee (f := 46) rfl ?_); refine gl (some 95) Try.func46 #[.slice Ao71 t393.length co71, .int .i64 1] ?_; (with_reducible refine (laws_heldFrameS.calls kj69 _ _ t393 1 t406 _ ?side1 ?side2 A89.out).mono ?_); (case side1 => repeat (first | exact (Kd.Q_reads' HO_9.out).2.2 | (with_reducible refine Kd.C_alloc ?_ _) | (with_reducible refine Kd.C_drewN ?_ _) | (with_reducible refine Kd.C_drew ?_))); (case side2 => exact (Kd.Q_reads' HO_9.out).2.1); rintro e w94 ⟨rfl, hb⟩; refine ⟨_, rfl, ?_⟩; replace HO_9 := ak (Kd.Q_below (by (with_reducible repeat (first | apply Kd.Q_alloc | apply Kd.Q_drewN | apply Kd.Q_drew)); exact HO_9.out) hb); replace HO_376000 := rB HO_376000 hb; replace HO_376001 := rB HO_376001 hb; replace BK357 := bB BK357 hb; replace BK375 := bB BK375 hb; replace HB := ak (below_step (lT HB (gC GE357 (gC GE375 gN))) hb); (try clear hb); (try clear hk)))
                go_ret
                exact ⟨ew, by exact lT HB (gC GE357 (gC GE375 gN))⟩
          ·rw [if_neg c67] at H
           have c67b0 : (t394 == t392) = false := beq_eq_false_iff_ne.mpr c67
           have c67b1 : (t394 != t392) = true := bne_iff_ne.mpr c67
           obtain rfl := Option.some.inj H
           obtain ⟨Ao95, co95, eo95, _⟩ := Kd.Q_slice HO_9.out
           subst eo95
           go_wp2_with (first | ((with_reducible refine gate_callee (f := 45) rfl ?_); refine gl (some 68) Try.func45 #[.slice Ao95 t376.length co95, .int .i64 1] ?_; (with_reducible refine (laws_markFrameS.calls kj41 (fun k_ => some k_ = (.slice Ao95 t376.length co95 : Value).ownBlock) (.slice Ao95 t376.length co95) t376 1 t392 t393 w _ ?side1 ?side2 A61.out).mono ?_); (case side1 => exact lT HB (gC GE357 (gC GE375 gN))); (case side2 => exact Kd.Q_tight rfl HO_9.out); rintro e w96 ⟨rfl, hy0, hb, hkp⟩; refine ⟨_, rfl, ?_⟩; replace HO_6 := ak (Kd.R_mono (ok' := fun k_ => some k_ ≠ (.slice Ao95 t376.length co95 : Value).ownBlock) (Kd.R_keptB (HO_6.out) hkp (fun k_ hk_ hs_ => (hk_) hs_)) (fun k_ hk_ => hk_.1)); replace HO_376000 := ak (Kd.R_mono (ok' := fun k_ => True) (Kd.R_keptB ((Kd.R_apart' HO_376000.out (Kd.Q_typed HO_9.out) (by decide))) hkp (fun k_ hk_ hs_ => (hk_.2) hs_)) (fun k_ hk_ => trivial)); replace HO_376001 := ak (Kd.R_mono (ok' := fun k_ => True) (Kd.R_keptB ((Kd.R_apart' HO_376001.out (Kd.Q_typed HO_9.out) (by decide))) hkp (fun k_ hk_ hs_ => (hk_.2) hs_)) (fun k_ hk_ => trivial)); replace BK357 := ak (blk_kept (bG BK357) hkp (fun hs_ => (fun e_ => (Kd.Q_ne HO_9.out BK357.out (by decide)) e_) hs_)); replace BK375 := ak (blk_kept (bG BK375) hkp (fun hs_ => (fun e_ => (Kd.Q_ne HO_9.out BK375.out (by decide)) e_) hs_)); replace HO_9 := ak (Kd.Q_reok rfl hy0 (fun k_ e_ => HO_9.out.1 k_ e_)); replace HB := ak (hb); (try clear hb); (try clear hkp); (try clear hy0)) | ((with_reducible refine gate_callee (f := 46) rfl ?_); refine goesL_ (some 71) rfl rfl Try.func46 (by kernel_rfl) rfl #[.slice Ao95 t393.length co95, .int .i64 1] rfl (by (try simp only [List.map_toArray, List.map_cons, List.map_nil]); first | done | (rw [show t393.length = t376.length from (Kd.Q_reads' HO_9.out).1.symm] <;> rfl) | rfl | (simp only [List.length_drop, List.length_take]; rfl)) ?_; (with_reducible refine (laws_heldFrameS.calls kj41 _ _ t393 1 t394 _ ?side1 ?side2 A62.out).mono ?_); (case side1 => repeat (first | exact (Kd.Q_reads' HO_9.out).2.2 | (with_reducible refine Kd.C_alloc ?_ _) | (with_reducible refine Kd.C_drewN ?_ _) | (with_reducible refine Kd.C_drew ?_))); (case side2 => rw [show t393.length = t376.length from (Kd.Q_reads' HO_9.out).1.symm]; exact (Kd.Q_reads' HO_9.out).2.1); rintro e w97 ⟨rfl, hb⟩; refine ⟨_, rfl, ?_⟩; replace HO_6 := rB HO_6 hb; replace HO_9 := ak (Kd.Q_below (by (with_reducible repeat (first | apply Kd.Q_alloc | apply Kd.Q_drewN | apply Kd.Q_drew)); exact HO_9.out) hb); replace HO_376000 := rB HO_376000 hb; replace HO_376001 := rB HO_376001 hb; replace BK357 := bB BK357 hb; replace BK375 := bB BK375 hb; replace HB := ak (below_step (lT HB (gC GE357 (gC GE375 gN))) hb); (try clear hb); (try clear hk)))
           go_ret
           exact ⟨ew, by exact lT HB (gC GE357 (gC GE375 gN))⟩
     ·replace c40 := Bool.eq_false_iff.mpr c40
      subst c40
      have H1 : (some false) = some r := by rw [if_neg (show ¬ (false = true) by decide)] at H; exact H
      clear H
      have H := H1
      clear H1
      obtain rfl := Option.some.inj H
      try go_wp2
      replace HO_6 := ak (Kd.R_drew HO_6.out)
      replace HO_9 := ak (Kd.Q_drew HO_9.out)
      replace HO_376000 := ak (Kd.R_drew HO_376000.out)
      replace HO_376001 := ak (Kd.R_drew HO_376001.out)
      replace BK357 := ak (blk_drew BK357.out)
      replace BK375 := ak (blk_drew BK375.out)
      replace HB := ak (below_drew1 HB.out)
      refine start_ (n := 5) (S := fun w' => w'.cell? ⟨gb375, 0, none⟩ = some (.slice Ao24 t369.length co24) ∧ w'.cell? ⟨gb375, 1, none⟩ = some (.slice Ao27 t372.length co27) ∧ w'.cell? ⟨gb357, 0, none⟩ = some (.slice A0_0 l0_0.length c0_0) ∧ w'.cell? ⟨gb357, 1, none⟩ = some (.slice A0_1 l0_1.length c0_1)) (ds := []) #[f_,f_,f_,f_,f_] (by kernel_rfl) rfl rfl ⟨bc BK375 0, bc BK375 1, bc BK357 0, bc BK357 1⟩ (fun hHeld => ?_)
      generalize wc.drew = w98 at HO_6 HO_9 HO_376000 HO_376001 BK357 BK375 HB hHeld ⊢
      refine take_ (i := 0) (N := some 45) (v := ?_) (a' := ?_) #[t_,f_,f_,f_,f_] rfl rfl (by kernel_rfl) (fun _ _ _ h => h) (Or.inl ⟨by rfl, ?_⟩) hHeld ?_ ?_
      rotate_left
      ·rintro w' ⟨s0, s1, s2, s3⟩
       go_simp
       with_reducible rfl
      rotate_left
      ·simp only [Act.put, List.setIfInBounds_toArray, List.set_cons_zero, List.set_cons_succ, i64_w, i32_w]
       rfl
      refine take_ (i := 1) (N := some 46) (v := ?_) (a' := ?_) #[t_,t_,f_,f_,f_] rfl rfl (by kernel_rfl) (fun _ _ _ h => h) (Or.inl ⟨by rfl, ?_⟩) hHeld ?_ ?_
      rotate_left
      ·rintro w' ⟨s0, s1, s2, s3⟩
       go_simp
       with_reducible rfl
      rotate_left
      ·simp only [Act.put, List.setIfInBounds_toArray, List.set_cons_zero, List.set_cons_succ, i64_w, i32_w]
       rfl
      refine one_ (i := 2) (N := some 47) #[t_,t_,t_,f_,f_] rfl rfl (by kernel_rfl) (by decide) (fun K hK => ?_)
      refine goes_ Try.func16 (by kernel_rfl) rfl #[.agg #[.slice A0_0 l0_0.length c0_0, .slice A0_1 l0_1.length c0_1]] (by rfl) rfl rfl (by (try simp only [List.map_toArray, List.map_cons, List.map_nil]); first | done | rfl | (simp only [List.length_drop, List.length_take]; rfl)) ?_
      with_reducible refine (laws_toDisk.calls kj11 _ _ l0_0 _ _ l0_1 t381 t384 _ ?side1 ?side2 ?side3 ?side4 A38.out).mono ?_
      (case side1 => exact cG (Kd.C_below HR0_0.out HB.out))
      (case side2 => exact HC0_0.out)
      (case side3 => exact cG (Kd.C_below HR0_1.out HB.out))
      (case side4 => exact HC0_1.out)
      rintro e w99 ⟨v382, v385, rfl, ho0, ho1, hb⟩
      refine ⟨_, rfl, ?_⟩
      replace HO_6 := rB HO_6 hb
      replace HO_9 := ak (Kd.Q_below (by (with_reducible repeat (first | apply Kd.Q_alloc | apply Kd.Q_drewN | apply Kd.Q_drew)); exact HO_9.out) hb)
      replace HO383 := ak (Kd.R_lower (Kd.R_new' ho0 (Kd.R_lt (rG HO_376000))) (below_size (lT HB (gC GE357 (gC GE375 gN)))))
      replace HO_376000 := ak (Kd.R_elder' (rG HO_376000) (Kd.R_base ho0) hb)
      replace HO386 := ak (Kd.R_lower (Kd.R_new' ho1 (Kd.R_lt (rG HO_376001))) (below_size (lT HB (gC GE357 (gC GE375 gN)))))
      replace HO_376001 := ak (Kd.R_elder' (rG HO_376001) (Kd.R_base ho1) hb)
      replace BK357 := bB BK357 hb
      replace BK375 := bB BK375 hb
      replace HB := ak (below_step (lT HB (gC GE357 (gC GE375 gN))) hb)
      (try clear hb)
      (try clear hb2)
      (try clear hk)
      (try clear hi)
      (try clear ho0)
      (try clear ho1)
      obtain ⟨Ao100, co100, eo100⟩ := Kd.R_slice HO383.out
      (first | subst eo100 | (injection eo100 with f1_ f2_ f3_; have f4_ := f1_.symm; have f5_ := f3_.symm; clear f1_ f2_ f3_; subst f4_; subst f5_))
      obtain ⟨Ao101, co101, eo101⟩ := Kd.R_slice HO386.out
      (first | subst eo101 | (injection eo101 with f1_ f2_ f3_; have f4_ := f1_.symm; have f5_ := f3_.symm; clear f1_ f2_ f3_; subst f4_; subst f5_))
      refine hK.out _ _ ⟨bc BK375 0, bc BK375 1, bc BK357 0, bc BK357 1⟩ (fun hHeld => ?_)
      clear hK K
      refine nm ?_
      refine one_ (i := 3) (N := some 48) #[t_,t_,t_,t_,f_] rfl rfl (by kernel_rfl) (by decide) (fun K hK => ?_)
      refine goes_ Try.func18 (by kernel_rfl) rfl #[.agg #[.slice Ao24 t369.length co24, .slice Ao27 t372.length co27], .agg #[.slice Ao100 t381.length co100, .slice Ao101 t384.length co101]] (by rfl) rfl rfl (by (try simp only [List.map_toArray, List.map_cons, List.map_nil]); first | done | rfl | (simp only [List.length_drop, List.length_take]; rfl)) ?_
      with_reducible refine (laws_eqDisk.calls kj11 _ _ t369 _ _ t372 _ _ t381 _ _ t384 false _ ?side1 ?side2 ?side3 ?side4 ?side5 ?side6 ?side7 ?side8 A39.out).mono ?_
      (case side1 => exact cG (Kd.R_reads' HO_376000.out).2.2)
      (case side2 => exact (Kd.R_reads' HO_376000.out).2.1)
      (case side3 => exact cG (Kd.R_reads' HO_376001.out).2.2)
      (case side4 => exact (Kd.R_reads' HO_376001.out).2.1)
      (case side5 => exact cG (Kd.R_reads' HO383.out).2.2)
      (case side6 => exact (Kd.R_reads' HO383.out).2.1)
      (case side7 => exact cG (Kd.R_reads' HO386.out).2.2)
      (case side8 => exact (Kd.R_reads' HO386.out).2.1)
      rintro e w102 ⟨rfl, hb⟩
      refine ⟨_, rfl, ?_⟩
      replace HO_6 := rB HO_6 hb
      replace HO_9 := ak (Kd.Q_below (by (with_reducible repeat (first | apply Kd.Q_alloc | apply Kd.Q_drewN | apply Kd.Q_drew)); exact HO_9.out) hb)
      replace HO_376000 := rB HO_376000 hb
      replace HO_376001 := rB HO_376001 hb
      replace HO383 := rB HO383 hb
      replace HO386 := rB HO386 hb
      replace BK357 := bB BK357 hb
      replace BK375 := bB BK375 hb
      replace HB := ak (below_step (lT HB (gC GE357 (gC GE375 gN))) hb)
      (try clear hb)
      (try clear hb2)
      (try clear hk)
      (try clear hi)
      refine hK.out _ _ ⟨bc BK375 0, bc BK375 1, bc BK357 0, bc BK357 1⟩ (fun hHeld => ?_)
      clear hK K
      refine nm ?_
      refine pure_ (i := 4) (N := some 49) (v := ?_) (a' := ?_) #[t_,t_,t_,t_,t_] rfl rfl (by kernel_rfl) (fun _ _ _ h => h) (Or.inl ⟨by rfl, ?_⟩) ?_ ?_
      rotate_left
      ·intro w'
       go_simp
       with_reducible rfl
      rotate_left
      ·simp only [Act.put, List.setIfInBounds_toArray, List.set_cons_zero, List.set_cons_succ, i64_w, i32_w]
       rfl
      refine done_ (by kernel_rfl) ?_
      try go_wp2
      go_ret
      exact ⟨ew, by exact lT HB (gC GE357 (gC GE375 gN))⟩

end Go.Proofs.Ytdnjjdmlmfoljaa.PFnExactSegFrames
