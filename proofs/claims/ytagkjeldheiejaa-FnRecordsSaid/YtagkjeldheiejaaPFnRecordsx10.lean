-- Written for this claim by a program of mine (a turned copy of the kit's print): functions as plain Lean, and their contracts. Lean checks it.
import Derived.Test.YtagkjeldheiejaaPFnRecordsx0
import Derived.Test.YtagkjeldheiejaaPFnRecordsx1
import Derived.Test.YtagkjeldheiejaaPFnRecordsx9
import Derived.Test.YtagkjeldheiejaaVFnRecords1
namespace Go.Proofs.Ytagkjeldheiejaa.PFnRecords
open Go.RowKit Go.Proofs.YtagkjeldheiejaaW.PrintWords Go.Proofs.YtagkjeldheiejaaW.PrintLast Go.Proofs.YtagkjeldheiejaaW.PrintMore
attribute [local go_sem] max2_int min2_int max_two min_two max_three min_three max_four min_four   -- for this text's walks alone
set_option linter.unusedVariables false
set_option linter.unusedSimpArgs false

attribute [local go_sem high] eqA23
/-! ### impl_RecOk: function 28 -/
mutual
def impl_RecOk.j0 : Nat → Bool → Bool → Int → Int → Int → Int → Int → ByteArray → ByteArray → ByteArray → Int → Int → Int → Int → Int → ByteArray → ByteArray → ByteArray → Option (Bool)
 | 0, _, _, _, _, _, _, _, _, _, _, _, _, _, _, _, _, _, _ => none
 | k + 1, x4, x24, x192000, x192001, x192002, x192003, x192004, x192005, x192006, x192007, x194000, x194001, x194002, x194003, x194004, x194005, x194006, x194007 => if x24 = true then ((impl_in.f x192002 1 9999).bind fun t194 => (impl_RecOk.j1 k t194 x192000 x192001 x192002 x192003 x192004 x192005 x192006 x192007 x194000 x194001 0 x194003 x194004 x194005 x194006 x194007)) else (impl_RecOk.j1 k x4 x192000 x192001 x192002 x192003 x192004 x192005 x192006 x192007 x194000 x194001 x194002 x194003 x194004 x194005 x194006 x194007)
def impl_RecOk.j1 : Nat → Bool → Int → Int → Int → Int → Int → ByteArray → ByteArray → ByteArray → Int → Int → Int → Int → Int → ByteArray → ByteArray → ByteArray → Option (Bool)
 | 0, _, _, _, _, _, _, _, _, _, _, _, _, _, _, _, _, _ => none
 | k + 1, x4, x192000, x192001, x192002, x192003, x192004, x192005, x192006, x192007, x194000, x194001, x194002, x194003, x194004, x194005, x194006, x194007 => if x192000 = 3 then (impl_RecOk.j2 k x4 true x192000 x192001 x192002 x192003 x192004 x192005 x192006 x192007 x194000 x194001 x194002 x194003 x194004 x194005 x194006 x194007) else (impl_RecOk.j2 k x4 (x192000 == 4) x192000 x192001 x192002 x192003 x192004 x192005 x192006 x192007 x194000 x194001 x194002 x194003 x194004 x194005 x194006 x194007)
def impl_RecOk.j2 : Nat → Bool → Bool → Int → Int → Int → Int → Int → ByteArray → ByteArray → ByteArray → Int → Int → Int → Int → Int → ByteArray → ByteArray → ByteArray → Option (Bool)
 | 0, _, _, _, _, _, _, _, _, _, _, _, _, _, _, _, _, _, _ => none
 | k + 1, x4, x36, x192000, x192001, x192002, x192003, x192004, x192005, x192006, x192007, x194000, x194001, x194002, x194003, x194004, x194005, x194006, x194007 => if x36 = true then (if x4 = true then ((impl_in.f x192004 0 7).bind fun t195 => (impl_RecOk.j3 k t195 x192000 x192001 x192002 x192003 x192004 x192005 x192006 x192007 x194000 x194001 x194002 x194003 0 x194005 x194006 x194007)) else (impl_RecOk.j3 k false x192000 x192001 x192002 x192003 x192004 x192005 x192006 x192007 x194000 x194001 x194002 x194003 0 x194005 x194006 x194007)) else (impl_RecOk.j3 k x4 x192000 x192001 x192002 x192003 x192004 x192005 x192006 x192007 x194000 x194001 x194002 x194003 x194004 x194005 x194006 x194007)
def impl_RecOk.j3 : Nat → Bool → Int → Int → Int → Int → Int → ByteArray → ByteArray → ByteArray → Int → Int → Int → Int → Int → ByteArray → ByteArray → ByteArray → Option (Bool)
 | 0, _, _, _, _, _, _, _, _, _, _, _, _, _, _, _, _, _ => none
 | k + 1, x4, x192000, x192001, x192002, x192003, x192004, x192005, x192006, x192007, x194000, x194001, x194002, x194003, x194004, x194005, x194006, x194007 => if x192000 = 1 then ((impl_WordOk.f k x192005).bind fun t196 => (if t196 = true then ((impl_WordOk.f k x192006).bind fun t197 => (if t197 = true then ((impl_in.f x192003 1 10000).bind fun t198 => (if t198 = true then (some (x194000 == 0 && (x194001 == 0 && (x194002 == 0 && (x194004 == 0 && (x194007.toList == ([] : List UInt8))))))) else (some false))) else (some false))) else (some false))) else (if x192000 = 3 then (if x4 = true then (if (x192007.size : Int) ≤ 100 then (some (x194000 == 0 && (x194001 == 0 && (x194002 == 0 && (x194003 == 0 && (x194004 == 0 && (x194005.toList == ([] : List UInt8) && (x194006.toList == ([] : List UInt8))))))))) else (some false)) else (some false)) else (if x192000 = 2 then (if x4 = true then (some (x194000 == 0 && (x194001 == 0 && (x194002 == 0 && (x194003 == 0 && (x194004 == 0 && (x194005.toList == ([] : List UInt8) && (x194006.toList == ([] : List UInt8) && (x194007.toList == ([] : List UInt8)))))))))) else (some false)) else (if x192000 = 4 then (if x4 = true then (some (x194000 == 0 && (x194001 == 0 && (x194002 == 0 && (x194003 == 0 && (x194004 == 0 && (x194005.toList == ([] : List UInt8) && (x194006.toList == ([] : List UInt8) && (x194007.toList == ([] : List UInt8)))))))))) else (some false)) else (if x192000 = 5 then (if x4 = true then (some (x194000 == 0 && (x194001 == 0 && (x194002 == 0 && (x194003 == 0 && (x194004 == 0 && (x194005.toList == ([] : List UInt8) && (x194006.toList == ([] : List UInt8) && (x194007.toList == ([] : List UInt8)))))))))) else (some false)) else (some false)))))
end
def impl_RecOk.f (k : Nat) (a0_0 : Int) (a0_1 : Int) (a0_2 : Int) (a0_3 : Int) (a0_4 : Int) (a0_5 : ByteArray) (a0_6 : ByteArray) (a0_7 : ByteArray) : Option (Bool) := (impl_in.f a0_1 1 9999).bind fun t192 => (if t192 = true then (if a0_0 = 3 then (impl_RecOk.j0 k true true a0_0 a0_1 a0_2 a0_3 a0_4 a0_5 a0_6 a0_7 0 0 a0_2 a0_3 a0_4 a0_5 a0_6 a0_7) else (if a0_0 = 4 then (impl_RecOk.j0 k true true a0_0 a0_1 a0_2 a0_3 a0_4 a0_5 a0_6 a0_7 0 0 a0_2 a0_3 a0_4 a0_5 a0_6 a0_7) else (impl_RecOk.j0 k true (a0_0 == 5) a0_0 a0_1 a0_2 a0_3 a0_4 a0_5 a0_6 a0_7 0 0 a0_2 a0_3 a0_4 a0_5 a0_6 a0_7))) else (some false))
theorem impl_RecOk.mono_l : ∀ k, (∀ y0 y1 y2 y3 y4 y5 y6 y7 y8 y9 y10 y11 y12 y13 y14 y15 y16 y17, LeO (impl_RecOk.j0 k y0 y1 y2 y3 y4 y5 y6 y7 y8 y9 y10 y11 y12 y13 y14 y15 y16 y17) (impl_RecOk.j0 (k + 1) y0 y1 y2 y3 y4 y5 y6 y7 y8 y9 y10 y11 y12 y13 y14 y15 y16 y17)) ∧ (∀ y0 y1 y2 y3 y4 y5 y6 y7 y8 y9 y10 y11 y12 y13 y14 y15 y16, LeO (impl_RecOk.j1 k y0 y1 y2 y3 y4 y5 y6 y7 y8 y9 y10 y11 y12 y13 y14 y15 y16) (impl_RecOk.j1 (k + 1) y0 y1 y2 y3 y4 y5 y6 y7 y8 y9 y10 y11 y12 y13 y14 y15 y16)) ∧ (∀ y0 y1 y2 y3 y4 y5 y6 y7 y8 y9 y10 y11 y12 y13 y14 y15 y16 y17, LeO (impl_RecOk.j2 k y0 y1 y2 y3 y4 y5 y6 y7 y8 y9 y10 y11 y12 y13 y14 y15 y16 y17) (impl_RecOk.j2 (k + 1) y0 y1 y2 y3 y4 y5 y6 y7 y8 y9 y10 y11 y12 y13 y14 y15 y16 y17)) ∧ (∀ y0 y1 y2 y3 y4 y5 y6 y7 y8 y9 y10 y11 y12 y13 y14 y15 y16, LeO (impl_RecOk.j3 k y0 y1 y2 y3 y4 y5 y6 y7 y8 y9 y10 y11 y12 y13 y14 y15 y16) (impl_RecOk.j3 (k + 1) y0 y1 y2 y3 y4 y5 y6 y7 y8 y9 y10 y11 y12 y13 y14 y15 y16))
 | 0 => ⟨fun _ _ _ _ _ _ _ _ _ _ _ _ _ _ _ _ _ _ r h => by simp [impl_RecOk.j0] at h, fun _ _ _ _ _ _ _ _ _ _ _ _ _ _ _ _ _ r h => by simp [impl_RecOk.j1] at h, fun _ _ _ _ _ _ _ _ _ _ _ _ _ _ _ _ _ _ r h => by simp [impl_RecOk.j2] at h, fun _ _ _ _ _ _ _ _ _ _ _ _ _ _ _ _ _ r h => by simp [impl_RecOk.j3] at h⟩
 | k + 1 => by
  obtain ⟨ih0, ih1, ih2, ih3⟩ := impl_RecOk.mono_l k
  refine ⟨?_, ?_, ?_, ?_⟩
  ·intro y0 y1 y2 y3 y4 y5 y6 y7 y8 y9 y10 y11 y12 y13 y14 y15 y16 y17
   unfold impl_RecOk.j0
   repeat' first
   | (with_reducible exact ih0 _ _ _ _ _ _ _ _ _ _ _ _ _ _ _ _ _ _)
   | (with_reducible exact ih1 _ _ _ _ _ _ _ _ _ _ _ _ _ _ _ _ _)
   | (with_reducible exact ih2 _ _ _ _ _ _ _ _ _ _ _ _ _ _ _ _ _ _)
   | (with_reducible exact ih3 _ _ _ _ _ _ _ _ _ _ _ _ _ _ _ _ _)
   | (with_reducible exact impl_WordOk.mono _ _)
   | (with_reducible exact LeO.refl _)
   | (with_reducible exact LeO.none _)
   | (with_reducible refine LeO.ite ?_ ?_)
   | (with_reducible refine LeO.bind ?_ (fun _ => ?_))
   | exact ih0 _ _ _ _ _ _ _ _ _ _ _ _ _ _ _ _ _ _
   | exact ih1 _ _ _ _ _ _ _ _ _ _ _ _ _ _ _ _ _
   | exact ih2 _ _ _ _ _ _ _ _ _ _ _ _ _ _ _ _ _ _
   | exact ih3 _ _ _ _ _ _ _ _ _ _ _ _ _ _ _ _ _
   | exact impl_WordOk.mono _ _
   | exact LeO.none _
   | refine LeO.ite ?_ ?_
   | refine LeO.bind ?_ (fun _ => ?_)
  ·intro y0 y1 y2 y3 y4 y5 y6 y7 y8 y9 y10 y11 y12 y13 y14 y15 y16
   unfold impl_RecOk.j1
   repeat' first
   | (with_reducible exact ih0 _ _ _ _ _ _ _ _ _ _ _ _ _ _ _ _ _ _)
   | (with_reducible exact ih1 _ _ _ _ _ _ _ _ _ _ _ _ _ _ _ _ _)
   | (with_reducible exact ih2 _ _ _ _ _ _ _ _ _ _ _ _ _ _ _ _ _ _)
   | (with_reducible exact ih3 _ _ _ _ _ _ _ _ _ _ _ _ _ _ _ _ _)
   | (with_reducible exact impl_WordOk.mono _ _)
   | (with_reducible exact LeO.refl _)
   | (with_reducible exact LeO.none _)
   | (with_reducible refine LeO.ite ?_ ?_)
   | (with_reducible refine LeO.bind ?_ (fun _ => ?_))
   | exact ih0 _ _ _ _ _ _ _ _ _ _ _ _ _ _ _ _ _ _
   | exact ih1 _ _ _ _ _ _ _ _ _ _ _ _ _ _ _ _ _
   | exact ih2 _ _ _ _ _ _ _ _ _ _ _ _ _ _ _ _ _ _
   | exact ih3 _ _ _ _ _ _ _ _ _ _ _ _ _ _ _ _ _
   | exact impl_WordOk.mono _ _
   | exact LeO.none _
   | refine LeO.ite ?_ ?_
   | refine LeO.bind ?_ (fun _ => ?_)
  ·intro y0 y1 y2 y3 y4 y5 y6 y7 y8 y9 y10 y11 y12 y13 y14 y15 y16 y17
   unfold impl_RecOk.j2
   repeat' first
   | (with_reducible exact ih0 _ _ _ _ _ _ _ _ _ _ _ _ _ _ _ _ _ _)
   | (with_reducible exact ih1 _ _ _ _ _ _ _ _ _ _ _ _ _ _ _ _ _)
   | (with_reducible exact ih2 _ _ _ _ _ _ _ _ _ _ _ _ _ _ _ _ _ _)
   | (with_reducible exact ih3 _ _ _ _ _ _ _ _ _ _ _ _ _ _ _ _ _)
   | (with_reducible exact impl_WordOk.mono _ _)
   | (with_reducible exact LeO.refl _)
   | (with_reducible exact LeO.none _)
   | (with_reducible refine LeO.ite ?_ ?_)
   | (with_reducible refine LeO.bind ?_ (fun _ => ?_))
   | exact ih0 _ _ _ _ _ _ _ _ _ _ _ _ _ _ _ _ _ _
   | exact ih1 _ _ _ _ _ _ _ _ _ _ _ _ _ _ _ _ _
   | exact ih2 _ _ _ _ _ _ _ _ _ _ _ _ _ _ _ _ _ _
   | exact ih3 _ _ _ _ _ _ _ _ _ _ _ _ _ _ _ _ _
   | exact impl_WordOk.mono _ _
   | exact LeO.none _
   | refine LeO.ite ?_ ?_
   | refine LeO.bind ?_ (fun _ => ?_)
  ·intro y0 y1 y2 y3 y4 y5 y6 y7 y8 y9 y10 y11 y12 y13 y14 y15 y16
   unfold impl_RecOk.j3
   repeat' first
   | (with_reducible exact ih0 _ _ _ _ _ _ _ _ _ _ _ _ _ _ _ _ _ _)
   | (with_reducible exact ih1 _ _ _ _ _ _ _ _ _ _ _ _ _ _ _ _ _)
   | (with_reducible exact ih2 _ _ _ _ _ _ _ _ _ _ _ _ _ _ _ _ _ _)
   | (with_reducible exact ih3 _ _ _ _ _ _ _ _ _ _ _ _ _ _ _ _ _)
   | (with_reducible exact impl_WordOk.mono _ _)
   | (with_reducible exact LeO.refl _)
   | (with_reducible exact LeO.none _)
   | (with_reducible refine LeO.ite ?_ ?_)
   | (with_reducible refine LeO.bind ?_ (fun _ => ?_))
   | exact ih0 _ _ _ _ _ _ _ _ _ _ _ _ _ _ _ _ _ _
   | exact ih1 _ _ _ _ _ _ _ _ _ _ _ _ _ _ _ _ _
   | exact ih2 _ _ _ _ _ _ _ _ _ _ _ _ _ _ _ _ _ _
   | exact ih3 _ _ _ _ _ _ _ _ _ _ _ _ _ _ _ _ _
   | exact impl_WordOk.mono _ _
   | exact LeO.none _
   | refine LeO.ite ?_ ?_
   | refine LeO.bind ?_ (fun _ => ?_)
theorem impl_RecOk.mono : ∀ a0 a1 a2 a3 a4 a5 a6 a7 k, LeO (impl_RecOk.f k a0 a1 a2 a3 a4 a5 a6 a7) (impl_RecOk.f (k + 1) a0 a1 a2 a3 a4 a5 a6 a7) := by
 intro a0 a1 a2 a3 a4 a5 a6 a7 k
 obtain ⟨ih0, ih1, ih2, ih3⟩ := impl_RecOk.mono_l k
 unfold impl_RecOk.f
 repeat' first
   | (with_reducible exact ih0 _ _ _ _ _ _ _ _ _ _ _ _ _ _ _ _ _ _)
   | (with_reducible exact ih1 _ _ _ _ _ _ _ _ _ _ _ _ _ _ _ _ _)
   | (with_reducible exact ih2 _ _ _ _ _ _ _ _ _ _ _ _ _ _ _ _ _ _)
   | (with_reducible exact ih3 _ _ _ _ _ _ _ _ _ _ _ _ _ _ _ _ _)
   | (with_reducible exact impl_WordOk.mono _ _)
   | (with_reducible exact LeO.refl _)
   | (with_reducible exact LeO.none _)
   | (with_reducible refine LeO.ite ?_ ?_)
   | (with_reducible refine LeO.bind ?_ (fun _ => ?_))
   | exact ih0 _ _ _ _ _ _ _ _ _ _ _ _ _ _ _ _ _ _
   | exact ih1 _ _ _ _ _ _ _ _ _ _ _ _ _ _ _ _ _
   | exact ih2 _ _ _ _ _ _ _ _ _ _ _ _ _ _ _ _ _ _
   | exact ih3 _ _ _ _ _ _ _ _ _ _ _ _ _ _ _ _ _
   | exact impl_WordOk.mono _ _
   | exact LeO.none _
   | refine LeO.ite ?_ ?_
   | refine LeO.bind ?_ (fun _ => ?_)
set_option maxHeartbeats 8000000 in
set_option maxRecDepth 100000 in
theorem impl_RecOk.calls (k : Nat) (a0_0 : Int) (a0_1 : Int) (a0_2 : Int) (a0_3 : Int) (a0_4 : Int) (a0_5 : ByteArray) (a0_6 : ByteArray) (a0_7 : ByteArray) (r : Bool) (w : World) (h : impl_RecOk.f k a0_0 a0_1 a0_2 a0_3 a0_4 a0_5 a0_6 a0_7 = some r) :
  Calls Try.prog 28 #[.agg #[.int .i64 a0_0, .int .i64 a0_1, .int .i64 a0_2, .int .i64 a0_3, .int .i64 a0_4, .string a0_5, .string a0_6, .string a0_7]] w fun e w' => e = .returned (.bool r) ∧ Below w.heap.size w w' := by
 have hu23 := Try.underlying23
 have HB := ak (Below.refl w.heap.size w)
 have H : ((impl_in.f a0_1 1 9999).bind fun t192 => (if t192 = true then (if a0_0 = 3 then (impl_RecOk.j0 k true true a0_0 a0_1 a0_2 a0_3 a0_4 a0_5 a0_6 a0_7 0 0 a0_2 a0_3 a0_4 a0_5 a0_6 a0_7) else (if a0_0 = 4 then (impl_RecOk.j0 k true true a0_0 a0_1 a0_2 a0_3 a0_4 a0_5 a0_6 a0_7 0 0 a0_2 a0_3 a0_4 a0_5 a0_6 a0_7) else (impl_RecOk.j0 k true (a0_0 == 5) a0_0 a0_1 a0_2 a0_3 a0_4 a0_5 a0_6 a0_7 0 0 a0_2 a0_3 a0_4 a0_5 a0_6 a0_7))) else (some false))) = some r := h
 clear h
 replace H := Option.bind_eq_some_iff.mp H
 obtain ⟨t192, A20, H⟩ := H
 replace H : (if t192 = true then (if a0_0 = 3 then (impl_RecOk.j0 k true true a0_0 a0_1 a0_2 a0_3 a0_4 a0_5 a0_6 a0_7 0 0 a0_2 a0_3 a0_4 a0_5 a0_6 a0_7) else (if a0_0 = 4 then (impl_RecOk.j0 k true true a0_0 a0_1 a0_2 a0_3 a0_4 a0_5 a0_6 a0_7 0 0 a0_2 a0_3 a0_4 a0_5 a0_6 a0_7) else (impl_RecOk.j0 k true (a0_0 == 5) a0_0 a0_1 a0_2 a0_3 a0_4 a0_5 a0_6 a0_7 0 0 a0_2 a0_3 a0_4 a0_5 a0_6 a0_7))) else (some false)) = some r := H
 have A2 := Aside0.mk A20
 clear A20
 by_cases c3 : t192 = true
 ·subst c3
  have H1 : (if a0_0 = 3 then (impl_RecOk.j0 k true true a0_0 a0_1 a0_2 a0_3 a0_4 a0_5 a0_6 a0_7 0 0 a0_2 a0_3 a0_4 a0_5 a0_6 a0_7) else (if a0_0 = 4 then (impl_RecOk.j0 k true true a0_0 a0_1 a0_2 a0_3 a0_4 a0_5 a0_6 a0_7 0 0 a0_2 a0_3 a0_4 a0_5 a0_6 a0_7) else (impl_RecOk.j0 k true (a0_0 == 5) a0_0 a0_1 a0_2 a0_3 a0_4 a0_5 a0_6 a0_7 0 0 a0_2 a0_3 a0_4 a0_5 a0_6 a0_7))) = some r := by rw [if_pos rfl] at H; exact H
  clear H
  have H := H1
  clear H1
  have HC4 := Aside0.mk H
  clear H
  go_enter Try.func28, Try.ntmps28
  go_upto_region 6 with (first | ((with_reducible refine gate_dst (N := 1) rfl ?_); (try (refine gate_guard (by rfl) ?_; dsimp only)); refine bx 1 #[.int .i64 a0_0, .int .i64 a0_1, .int .i64 a0_2, .int .i64 a0_3, .int .i64 a0_4, .string a0_5, .string a0_6, .string a0_7] 23 ?_; intro gb191 hg w5 hbox hb; replace BK191 := ak (hbox); replace GW191 := ak (bz hg (lG HB)); replace GE191 := ak (bz hg (lG HB)); replace HB := lB HB hb; clear hb hbox hg; obtain ⟨hcz6_0, hcz6_1, hcz6_2, hcz6_3, hcz6_4, hcz6_5, hcz6_6, hcz6_7, hfz6_0, hfz6_1, hfz6_2, hfz6_3, hfz6_4, hfz6_5, hfz6_6, hfz6_7⟩ := bC8 BK191) | ((with_reducible refine gate_callee (f := 63) rfl ?_); refine gl (some 7) Try.func63 #[.int .i64 a0_1, .int .i64 1, .int .i64 9999] ?_; (with_reducible refine (impl_in.calls a0_1 1 9999 true _ A2.out).mono ?_); rintro e w' ⟨rfl, ⟨nd, rfl⟩⟩; refine ⟨_, rfl, ?_⟩; (try (rw [drewN_self w5]; generalize hq_ : World.drewN w5 _ = w5; have n0_ : Aside0 (w5.heap[gb191]? = some (.cells #[.int .i64 a0_0, .int .i64 a0_1, .int .i64 a0_2, .int .i64 a0_3, .int .i64 a0_4, .string a0_5, .string a0_6, .string a0_7] 23 (0, 0))) := ⟨by rw [← hq_]; exact (bG BK191)⟩; have n1_ : Aside0 (Below w.heap.size w w5) := ⟨by rw [← hq_]; exact (lT HB (gC GE191 gN))⟩; clear BK191 HB hq_; have BK191 := n0_; have HB := n1_; clear n0_ n1_)); (try (have hy191_0 : w5.cell? ⟨gb191, 0, none⟩ = some (.int .i64 a0_0) := bc BK191 0; have hv191_0 := blk_frozen BK191.out 0; have hy191_1 : w5.cell? ⟨gb191, 1, none⟩ = some (.int .i64 a0_1) := bc BK191 1; have hv191_1 := blk_frozen BK191.out 1; have hy191_2 : w5.cell? ⟨gb191, 2, none⟩ = some (.int .i64 a0_2) := bc BK191 2; have hv191_2 := blk_frozen BK191.out 2; have hy191_3 : w5.cell? ⟨gb191, 3, none⟩ = some (.int .i64 a0_3) := bc BK191 3; have hv191_3 := blk_frozen BK191.out 3; have hy191_4 : w5.cell? ⟨gb191, 4, none⟩ = some (.int .i64 a0_4) := bc BK191 4; have hv191_4 := blk_frozen BK191.out 4; have hy191_5 : w5.cell? ⟨gb191, 5, none⟩ = some (.string a0_5) := bc BK191 5; have hv191_5 := blk_frozen BK191.out 5; have hy191_6 : w5.cell? ⟨gb191, 6, none⟩ = some (.string a0_6) := bc BK191 6; have hv191_6 := blk_frozen BK191.out 6; have hy191_7 : w5.cell? ⟨gb191, 7, none⟩ = some (.string a0_7) := bc BK191 7; have hv191_7 := blk_frozen BK191.out 7))) | ((with_reducible refine gate_dst (N := 3) rfl ?_); (try (refine gate_guard (by rfl) ?_; dsimp only)); refine bx 3 #[.int .i64 0, .int .i64 0, .int .i64 0, .int .i64 0, .int .i64 0, .string (⟨#[]⟩ : ByteArray), .string (⟨#[]⟩ : ByteArray), .string (⟨#[]⟩ : ByteArray)] 23 ?_; intro gb193 hg w7 hbox hb; replace BK193 := ak (hbox); replace GW193 := ak (bz hg (lT HB (gC GE191 gN))); replace GE193 := ak (bz hg (lT HB (gC GE191 gN))); replace HB := ak (below_step (lT HB (gC GE191 gN)) hb); replace NB191_193 := ak (nl hg (bG BK191)); replace NB193_191 := ak (ng hg (bG BK191)); replace BK191 := bB BK191 hb; clear hb hbox hg; have hnb8 := NB193_191.out; have hnc8 := NB191_193.out; obtain ⟨hcz9_0, hcz9_1, hcz9_2, hcz9_3, hcz9_4, hcz9_5, hcz9_6, hcz9_7, hfz9_0, hfz9_1, hfz9_2, hfz9_3, hfz9_4, hfz9_5, hfz9_6, hfz9_7⟩ := bC8 BK193))
  (try simp only [Act.put, List.setIfInBounds_toArray, List.set_cons_zero, List.set_cons_succ])
  go_cut [24] (fun v24 wc => ∃ (kq : Nat) (x24_3 : Bool), v24 = .bool x24_3 ∧ Aside0 (impl_RecOk.j0 kq true x24_3 a0_0 a0_1 a0_2 a0_3 a0_4 a0_5 a0_6 a0_7 0 0 a0_2 a0_3 a0_4 a0_5 a0_6 a0_7 = some r) ∧ Aside0 (kq ≤ k) ∧ Aside0 (wc.heap[gb191]? = some (.cells #[.int .i64 a0_0, .int .i64 a0_1, .int .i64 a0_2, .int .i64 a0_3, .int .i64 a0_4, .string a0_5, .string a0_6, .string a0_7] 23 (0, 0))) ∧ Aside0 (wc.heap[gb193]? = some (.cells #[.int .i64 0, .int .i64 0, .int .i64 a0_2, .int .i64 a0_3, .int .i64 a0_4, .string a0_5, .string a0_6, .string a0_7] 23 (0, 0))) ∧ Aside0 (Below w.heap.size w wc))
  case first =>
   have H := HC4.out
   clear HC4
   by_cases c10 : a0_0 = 3
   ·rw [if_pos c10] at H
    have c10b0 : (a0_0 == 3) = true := beq_iff_eq.mpr c10
    have c10b1 : (a0_0 != 3) = false := bne_eq_false_iff_eq.mpr c10
    clear c10
    (first | rw [c10b0] | (simp only [i64_w, i32_w]; rw [c10b0]) | skip)
    have H' := Aside0.mk H
    clear H
    have hnb11 := NB191_193.out
    have hnc11 := NB193_191.out
    obtain ⟨hcz12_0, hcz12_1, hcz12_2, hcz12_3, hcz12_4, hcz12_5, hcz12_6, hcz12_7, hfz12_0, hfz12_1, hfz12_2, hfz12_3, hfz12_4, hfz12_5, hfz12_6, hfz12_7⟩ := bC8 BK191
    go_wp2
    go_meet
    case rel => exact ⟨_, (true), (by first | rfl | (simp; done) | (simp [*]; done)), H', ⟨by first | omega | exact Nat.le_refl _⟩, ⟨by (with_reducible repeat (first | refine blk_drewN ?_ _ | refine blk_drew ?_ | refine blk_alloc ?_ _)); refine blk_far ?_ NB191_193.out _; (with_reducible repeat (first | refine blk_drewN ?_ _ | refine blk_drew ?_ | refine blk_alloc ?_ _)); refine blk_far ?_ NB191_193.out _; (with_reducible repeat (first | refine blk_drewN ?_ _ | refine blk_drew ?_ | refine blk_alloc ?_ _)); refine blk_far ?_ NB191_193.out _; (with_reducible repeat (first | refine blk_drewN ?_ _ | refine blk_drew ?_ | refine blk_alloc ?_ _)); refine blk_far ?_ NB191_193.out _; (with_reducible repeat (first | refine blk_drewN ?_ _ | refine blk_drew ?_ | refine blk_alloc ?_ _)); refine blk_far ?_ NB191_193.out _; (with_reducible repeat (first | refine blk_drewN ?_ _ | refine blk_drew ?_ | refine blk_alloc ?_ _)); refine blk_far ?_ NB191_193.out _; (with_reducible repeat (first | refine blk_drewN ?_ _ | refine blk_drew ?_ | refine blk_alloc ?_ _)); refine blk_far ?_ NB191_193.out _; (with_reducible repeat (first | refine blk_drewN ?_ _ | refine blk_drew ?_ | refine blk_alloc ?_ _)); refine blk_far ?_ NB191_193.out _; (with_reducible repeat (first | refine blk_drewN ?_ _ | refine blk_drew ?_ | refine blk_alloc ?_ _)); refine blk_far ?_ NB191_193.out _; (with_reducible repeat (first | refine blk_drewN ?_ _ | refine blk_drew ?_ | refine blk_alloc ?_ _)); refine blk_far ?_ NB191_193.out _; (with_reducible repeat (first | refine blk_drewN ?_ _ | refine blk_drew ?_ | refine blk_alloc ?_ _)); exact BK191.out⟩, ⟨bW BK193⟩, ⟨by exact lT HB (gC GE191 (gC GE193 gN))⟩⟩
   ·rw [if_neg c10] at H
    have c10b0 : (a0_0 == 3) = false := beq_eq_false_iff_ne.mpr c10
    have c10b1 : (a0_0 != 3) = true := bne_iff_ne.mpr c10
    (first | rw [c10b0] | (simp only [i64_w, i32_w]; rw [c10b0]) | skip)
    by_cases c13 : a0_0 = 4
    ·rw [if_pos c13] at H
     have c13b0 : (a0_0 == 4) = true := beq_iff_eq.mpr c13
     have c13b1 : (a0_0 != 4) = false := bne_eq_false_iff_eq.mpr c13
     clear c13
     have H' := Aside0.mk H
     clear H
     have hnb14 := NB191_193.out
     have hnc14 := NB193_191.out
     obtain ⟨hcz15_0, hcz15_1, hcz15_2, hcz15_3, hcz15_4, hcz15_5, hcz15_6, hcz15_7, hfz15_0, hfz15_1, hfz15_2, hfz15_3, hfz15_4, hfz15_5, hfz15_6, hfz15_7⟩ := bC8 BK191
     go_wp2
     go_meet
     case rel => exact ⟨_, (true), (by first | rfl | (simp; done) | (simp [*]; done)), H', ⟨by first | omega | exact Nat.le_refl _⟩, ⟨by (with_reducible repeat (first | refine blk_drewN ?_ _ | refine blk_drew ?_ | refine blk_alloc ?_ _)); refine blk_far ?_ NB191_193.out _; (with_reducible repeat (first | refine blk_drewN ?_ _ | refine blk_drew ?_ | refine blk_alloc ?_ _)); refine blk_far ?_ NB191_193.out _; (with_reducible repeat (first | refine blk_drewN ?_ _ | refine blk_drew ?_ | refine blk_alloc ?_ _)); refine blk_far ?_ NB191_193.out _; (with_reducible repeat (first | refine blk_drewN ?_ _ | refine blk_drew ?_ | refine blk_alloc ?_ _)); refine blk_far ?_ NB191_193.out _; (with_reducible repeat (first | refine blk_drewN ?_ _ | refine blk_drew ?_ | refine blk_alloc ?_ _)); refine blk_far ?_ NB191_193.out _; (with_reducible repeat (first | refine blk_drewN ?_ _ | refine blk_drew ?_ | refine blk_alloc ?_ _)); refine blk_far ?_ NB191_193.out _; (with_reducible repeat (first | refine blk_drewN ?_ _ | refine blk_drew ?_ | refine blk_alloc ?_ _)); refine blk_far ?_ NB191_193.out _; (with_reducible repeat (first | refine blk_drewN ?_ _ | refine blk_drew ?_ | refine blk_alloc ?_ _)); refine blk_far ?_ NB191_193.out _; (with_reducible repeat (first | refine blk_drewN ?_ _ | refine blk_drew ?_ | refine blk_alloc ?_ _)); refine blk_far ?_ NB191_193.out _; (with_reducible repeat (first | refine blk_drewN ?_ _ | refine blk_drew ?_ | refine blk_alloc ?_ _)); refine blk_far ?_ NB191_193.out _; (with_reducible repeat (first | refine blk_drewN ?_ _ | refine blk_drew ?_ | refine blk_alloc ?_ _)); exact BK191.out⟩, ⟨bW BK193⟩, ⟨by exact lT HB (gC GE191 (gC GE193 gN))⟩⟩
    ·rw [if_neg c13] at H
     have c13b0 : (a0_0 == 4) = false := beq_eq_false_iff_ne.mpr c13
     have c13b1 : (a0_0 != 4) = true := bne_iff_ne.mpr c13
     have H' := Aside0.mk H
     clear H
     have hnb16 := NB191_193.out
     have hnc16 := NB193_191.out
     obtain ⟨hcz17_0, hcz17_1, hcz17_2, hcz17_3, hcz17_4, hcz17_5, hcz17_6, hcz17_7, hfz17_0, hfz17_1, hfz17_2, hfz17_3, hfz17_4, hfz17_5, hfz17_6, hfz17_7⟩ := bC8 BK191
     go_wp2
     go_meet
     case rel => exact ⟨_, ((a0_0 == 5)), (by first | rfl | (simp; done) | (simp [*]; done)), H', ⟨by first | omega | exact Nat.le_refl _⟩, ⟨by (with_reducible repeat (first | refine blk_drewN ?_ _ | refine blk_drew ?_ | refine blk_alloc ?_ _)); refine blk_far ?_ NB191_193.out _; (with_reducible repeat (first | refine blk_drewN ?_ _ | refine blk_drew ?_ | refine blk_alloc ?_ _)); refine blk_far ?_ NB191_193.out _; (with_reducible repeat (first | refine blk_drewN ?_ _ | refine blk_drew ?_ | refine blk_alloc ?_ _)); refine blk_far ?_ NB191_193.out _; (with_reducible repeat (first | refine blk_drewN ?_ _ | refine blk_drew ?_ | refine blk_alloc ?_ _)); refine blk_far ?_ NB191_193.out _; (with_reducible repeat (first | refine blk_drewN ?_ _ | refine blk_drew ?_ | refine blk_alloc ?_ _)); refine blk_far ?_ NB191_193.out _; (with_reducible repeat (first | refine blk_drewN ?_ _ | refine blk_drew ?_ | refine blk_alloc ?_ _)); refine blk_far ?_ NB191_193.out _; (with_reducible repeat (first | refine blk_drewN ?_ _ | refine blk_drew ?_ | refine blk_alloc ?_ _)); refine blk_far ?_ NB191_193.out _; (with_reducible repeat (first | refine blk_drewN ?_ _ | refine blk_drew ?_ | refine blk_alloc ?_ _)); refine blk_far ?_ NB191_193.out _; (with_reducible repeat (first | refine blk_drewN ?_ _ | refine blk_drew ?_ | refine blk_alloc ?_ _)); refine blk_far ?_ NB191_193.out _; (with_reducible repeat (first | refine blk_drewN ?_ _ | refine blk_drew ?_ | refine blk_alloc ?_ _)); refine blk_far ?_ NB191_193.out _; (with_reducible repeat (first | refine blk_drewN ?_ _ | refine blk_drew ?_ | refine blk_alloc ?_ _)); exact BK191.out⟩, ⟨bW BK193⟩, ⟨by exact lT HB (gC GE191 (gC GE193 gN))⟩⟩
  case rest =>
   clear HC4
   try clear c1
   try clear c2
   try clear p2
   try clear c3
   try clear c6
   try clear c8
   try clear c10
   try clear c10b0
   try clear c10b1
   try clear c11
   try clear c13
   try clear c13b0
   try clear c13b1
   try clear c14
   try clear c16
   try clear hcz12_0
   try clear hcz12_1
   try clear hcz12_2
   try clear hcz12_3
   try clear hcz12_4
   try clear hcz12_5
   try clear hcz12_6
   try clear hcz12_7
   try clear hcz15_0
   try clear hcz15_1
   try clear hcz15_2
   try clear hcz15_3
   try clear hcz15_4
   try clear hcz15_5
   try clear hcz15_6
   try clear hcz15_7
   try clear hcz17_0
   try clear hcz17_1
   try clear hcz17_2
   try clear hcz17_3
   try clear hcz17_4
   try clear hcz17_5
   try clear hcz17_6
   try clear hcz17_7
   try clear hcz6_0
   try clear hcz6_1
   try clear hcz6_2
   try clear hcz6_3
   try clear hcz6_4
   try clear hcz6_5
   try clear hcz6_6
   try clear hcz6_7
   try clear hcz9_0
   try clear hcz9_1
   try clear hcz9_2
   try clear hcz9_3
   try clear hcz9_4
   try clear hcz9_5
   try clear hcz9_6
   try clear hcz9_7
   try clear hfz12_0
   try clear hfz12_1
   try clear hfz12_2
   try clear hfz12_3
   try clear hfz12_4
   try clear hfz12_5
   try clear hfz12_6
   try clear hfz12_7
   try clear hfz15_0
   try clear hfz15_1
   try clear hfz15_2
   try clear hfz15_3
   try clear hfz15_4
   try clear hfz15_5
   try clear hfz15_6
   try clear hfz15_7
   try clear hfz17_0
   try clear hfz17_1
   try clear hfz17_2
   try clear hfz17_3
   try clear hfz17_4
   try clear hfz17_5
   try clear hfz17_6
   try clear hfz17_7
   try clear hfz6_0
   try clear hfz6_1
   try clear hfz6_2
   try clear hfz6_3
   try clear hfz6_4
   try clear hfz6_5
   try clear hfz6_6
   try clear hfz6_7
   try clear hfz9_0
   try clear hfz9_1
   try clear hfz9_2
   try clear hfz9_3
   try clear hfz9_4
   try clear hfz9_5
   try clear hfz9_6
   try clear hfz9_7
   obtain ⟨kq, x24_3, rfl, HA, HJ3, BK191, BK193, HB⟩ := hcut
   cases kq with
   | zero => exact absurd HA.out (by simp [impl_RecOk.j0])
   | succ kj3 =>
    have H := HA.out
    clear HA
    simp only [impl_RecOk.j0] at H
    have HC18 := Aside0.mk H
    clear H
    go_upto_if 24 with (fail)
    go_cut [4] (fun v4 wc => ∃ (kq : Nat) (x4_17 : Bool) (x194002_17 : Int), v4 = .bool x4_17 ∧ Aside0 (impl_RecOk.j1 kq x4_17 a0_0 a0_1 a0_2 a0_3 a0_4 a0_5 a0_6 a0_7 0 0 x194002_17 a0_3 a0_4 a0_5 a0_6 a0_7 = some r) ∧ Aside0 (kq ≤ kj3) ∧ Aside0 (wc.heap[gb191]? = some (.cells #[.int .i64 a0_0, .int .i64 a0_1, .int .i64 a0_2, .int .i64 a0_3, .int .i64 a0_4, .string a0_5, .string a0_6, .string a0_7] 23 (0, 0))) ∧ Aside0 (wc.heap[gb193]? = some (.cells #[.int .i64 0, .int .i64 0, .int .i64 x194002_17, .int .i64 a0_3, .int .i64 a0_4, .string a0_5, .string a0_6, .string a0_7] 23 (0, 0))) ∧ Aside0 (Below w.heap.size w wc))
    case first =>
     have H := HC18.out
     clear HC18
     by_cases c19 : x24_3 = true
     ·subst c19
      have H1 : ((impl_in.f a0_2 1 9999).bind fun t194 => (impl_RecOk.j1 kj3 t194 a0_0 a0_1 a0_2 a0_3 a0_4 a0_5 a0_6 a0_7 0 0 0 a0_3 a0_4 a0_5 a0_6 a0_7)) = some r := by rw [if_pos rfl] at H; exact H
      clear H
      have H := H1
      clear H1
      replace H := Option.bind_eq_some_iff.mp H
      obtain ⟨t194, A200, H⟩ := H
      replace H : (impl_RecOk.j1 kj3 t194 a0_0 a0_1 a0_2 a0_3 a0_4 a0_5 a0_6 a0_7 0 0 0 a0_3 a0_4 a0_5 a0_6 a0_7) = some r := H
      have A20 := Aside0.mk A200
      clear A200
      have H' := Aside0.mk H
      clear H
      have hnb21 := NB191_193.out
      have hnc21 := NB193_191.out
      obtain ⟨hcz22_0, hcz22_1, hcz22_2, hcz22_3, hcz22_4, hcz22_5, hcz22_6, hcz22_7, hfz22_0, hfz22_1, hfz22_2, hfz22_3, hfz22_4, hfz22_5, hfz22_6, hfz22_7⟩ := bC8 BK191
      go_wp2_with (first | ((with_reducible refine gate_callee (f := 63) rfl ?_); refine gl (some 27) Try.func63 #[.int .i64 a0_2, .int .i64 1, .int .i64 9999] ?_; (with_reducible refine (impl_in.calls a0_2 1 9999 t194 _ A20.out).mono ?_); rintro e w' ⟨rfl, ⟨nd, rfl⟩⟩; refine ⟨_, rfl, ?_⟩; (try (rw [drewN_self wc]; generalize hq_ : World.drewN wc _ = wc; have n0_ : Aside0 (wc.heap[gb191]? = some (.cells #[.int .i64 a0_0, .int .i64 a0_1, .int .i64 a0_2, .int .i64 a0_3, .int .i64 a0_4, .string a0_5, .string a0_6, .string a0_7] 23 (0, 0))) := ⟨by rw [← hq_]; exact (bG BK191)⟩; have n1_ : Aside0 (wc.heap[gb193]? = some (.cells #[.int .i64 0, .int .i64 0, .int .i64 a0_2, .int .i64 a0_3, .int .i64 a0_4, .string a0_5, .string a0_6, .string a0_7] 23 (0, 0))) := ⟨by rw [← hq_]; exact (bG BK193)⟩; have n2_ : Aside0 (Below w.heap.size w wc) := ⟨by rw [← hq_]; exact (lT HB (gC GE191 (gC GE193 gN)))⟩; clear BK191 BK193 HB hq_; have BK191 := n0_; have BK193 := n1_; have HB := n2_; clear n0_ n1_ n2_)); (try (have hy191_0 : wc.cell? ⟨gb191, 0, none⟩ = some (.int .i64 a0_0) := bc BK191 0; have hv191_0 := blk_frozen BK191.out 0; have hy191_1 : wc.cell? ⟨gb191, 1, none⟩ = some (.int .i64 a0_1) := bc BK191 1; have hv191_1 := blk_frozen BK191.out 1; have hy191_2 : wc.cell? ⟨gb191, 2, none⟩ = some (.int .i64 a0_2) := bc BK191 2; have hv191_2 := blk_frozen BK191.out 2; have hy191_3 : wc.cell? ⟨gb191, 3, none⟩ = some (.int .i64 a0_3) := bc BK191 3; have hv191_3 := blk_frozen BK191.out 3; have hy191_4 : wc.cell? ⟨gb191, 4, none⟩ = some (.int .i64 a0_4) := bc BK191 4; have hv191_4 := blk_frozen BK191.out 4; have hy191_5 : wc.cell? ⟨gb191, 5, none⟩ = some (.string a0_5) := bc BK191 5; have hv191_5 := blk_frozen BK191.out 5; have hy191_6 : wc.cell? ⟨gb191, 6, none⟩ = some (.string a0_6) := bc BK191 6; have hv191_6 := blk_frozen BK191.out 6; have hy191_7 : wc.cell? ⟨gb191, 7, none⟩ = some (.string a0_7) := bc BK191 7; have hv191_7 := blk_frozen BK191.out 7)); (try (have hy193_0 : wc.cell? ⟨gb193, 0, none⟩ = some (.int .i64 0) := bc BK193 0; have hv193_0 := blk_frozen BK193.out 0; have hy193_1 : wc.cell? ⟨gb193, 1, none⟩ = some (.int .i64 0) := bc BK193 1; have hv193_1 := blk_frozen BK193.out 1; have hy193_2 : wc.cell? ⟨gb193, 2, none⟩ = some (.int .i64 a0_2) := bc BK193 2; have hv193_2 := blk_frozen BK193.out 2; have hy193_3 : wc.cell? ⟨gb193, 3, none⟩ = some (.int .i64 a0_3) := bc BK193 3; have hv193_3 := blk_frozen BK193.out 3; have hy193_4 : wc.cell? ⟨gb193, 4, none⟩ = some (.int .i64 a0_4) := bc BK193 4; have hv193_4 := blk_frozen BK193.out 4; have hy193_5 : wc.cell? ⟨gb193, 5, none⟩ = some (.string a0_5) := bc BK193 5; have hv193_5 := blk_frozen BK193.out 5; have hy193_6 : wc.cell? ⟨gb193, 6, none⟩ = some (.string a0_6) := bc BK193 6; have hv193_6 := blk_frozen BK193.out 6; have hy193_7 : wc.cell? ⟨gb193, 7, none⟩ = some (.string a0_7) := bc BK193 7; have hv193_7 := blk_frozen BK193.out 7)); obtain ⟨hcz23_0, hcz23_1, hcz23_2, hcz23_3, hcz23_4, hcz23_5, hcz23_6, hcz23_7, hfz23_0, hfz23_1, hfz23_2, hfz23_3, hfz23_4, hfz23_5, hfz23_6, hfz23_7⟩ := bC8 BK193))
      go_meet
      case rel => exact ⟨_, (t194), (0), (by first | rfl | (simp; done) | (simp [*]; done)), H', ⟨by have := HJ3.out; first | omega | exact Nat.le_refl _⟩, ⟨by (with_reducible repeat (first | refine blk_drewN ?_ _ | refine blk_drew ?_ | refine blk_alloc ?_ _)); refine blk_far ?_ NB191_193.out _; (with_reducible repeat (first | refine blk_drewN ?_ _ | refine blk_drew ?_ | refine blk_alloc ?_ _)); exact BK191.out⟩, ⟨bW BK193⟩, ⟨by exact lT HB (gC GE191 (gC GE193 gN))⟩⟩
     ·replace c19 := Bool.eq_false_iff.mpr c19
      subst c19
      have H1 : (impl_RecOk.j1 kj3 true a0_0 a0_1 a0_2 a0_3 a0_4 a0_5 a0_6 a0_7 0 0 a0_2 a0_3 a0_4 a0_5 a0_6 a0_7) = some r := by rw [if_neg (show ¬ (false = true) by decide)] at H; exact H
      clear H
      have H := H1
      clear H1
      have H' := Aside0.mk H
      clear H
      go_wp2
      go_meet
      case rel => exact ⟨_, (true), (a0_2), (by first | rfl | (simp; done) | (simp [*]; done)), H', ⟨by have := HJ3.out; first | omega | exact Nat.le_refl _⟩, ⟨bG BK191⟩, ⟨bG BK193⟩, ⟨by exact lT HB (gC GE191 (gC GE193 gN))⟩⟩
    case rest =>
     clear HC18
     try clear c1
     try clear c2
     try clear p2
     try clear c3
     try clear c6
     try clear c8
     try clear c10
     try clear c10b0
     try clear c10b1
     try clear c11
     try clear c13
     try clear c13b0
     try clear c13b1
     try clear c14
     try clear c16
     try clear c19
     try clear c21
     try clear hcz12_0
     try clear hcz12_1
     try clear hcz12_2
     try clear hcz12_3
     try clear hcz12_4
     try clear hcz12_5
     try clear hcz12_6
     try clear hcz12_7
     try clear hcz15_0
     try clear hcz15_1
     try clear hcz15_2
     try clear hcz15_3
     try clear hcz15_4
     try clear hcz15_5
     try clear hcz15_6
     try clear hcz15_7
     try clear hcz17_0
     try clear hcz17_1
     try clear hcz17_2
     try clear hcz17_3
     try clear hcz17_4
     try clear hcz17_5
     try clear hcz17_6
     try clear hcz17_7
     try clear hcz22_0
     try clear hcz22_1
     try clear hcz22_2
     try clear hcz22_3
     try clear hcz22_4
     try clear hcz22_5
     try clear hcz22_6
     try clear hcz22_7
     try clear hcz23_0
     try clear hcz23_1
     try clear hcz23_2
     try clear hcz23_3
     try clear hcz23_4
     try clear hcz23_5
     try clear hcz23_6
     try clear hcz23_7
     try clear hcz6_0
     try clear hcz6_1
     try clear hcz6_2
     try clear hcz6_3
     try clear hcz6_4
     try clear hcz6_5
     try clear hcz6_6
     try clear hcz6_7
     try clear hcz9_0
     try clear hcz9_1
     try clear hcz9_2
     try clear hcz9_3
     try clear hcz9_4
     try clear hcz9_5
     try clear hcz9_6
     try clear hcz9_7
     try clear hfz12_0
     try clear hfz12_1
     try clear hfz12_2
     try clear hfz12_3
     try clear hfz12_4
     try clear hfz12_5
     try clear hfz12_6
     try clear hfz12_7
     try clear hfz15_0
     try clear hfz15_1
     try clear hfz15_2
     try clear hfz15_3
     try clear hfz15_4
     try clear hfz15_5
     try clear hfz15_6
     try clear hfz15_7
     try clear hfz17_0
     try clear hfz17_1
     try clear hfz17_2
     try clear hfz17_3
     try clear hfz17_4
     try clear hfz17_5
     try clear hfz17_6
     try clear hfz17_7
     try clear hfz22_0
     try clear hfz22_1
     try clear hfz22_2
     try clear hfz22_3
     try clear hfz22_4
     try clear hfz22_5
     try clear hfz22_6
     try clear hfz22_7
     try clear hfz23_0
     try clear hfz23_1
     try clear hfz23_2
     try clear hfz23_3
     try clear hfz23_4
     try clear hfz23_5
     try clear hfz23_6
     try clear hfz23_7
     try clear hfz6_0
     try clear hfz6_1
     try clear hfz6_2
     try clear hfz6_3
     try clear hfz6_4
     try clear hfz6_5
     try clear hfz6_6
     try clear hfz6_7
     try clear hfz9_0
     try clear hfz9_1
     try clear hfz9_2
     try clear hfz9_3
     try clear hfz9_4
     try clear hfz9_5
     try clear hfz9_6
     try clear hfz9_7
     try clear p2
     obtain ⟨kq, x4_17, x194002_17, rfl, HA, HJ17, BK191, BK193, HB⟩ := hcut
     cases kq with
     | zero => exact absurd HA.out (by simp [impl_RecOk.j1])
     | succ kj17 =>
      have H := HA.out
      clear HA
      simp only [impl_RecOk.j1] at H
      have HC24 := Aside0.mk H
      clear H
      go_upto_region 9 with (fail)
      go_cut [36] (fun v36 wc => ∃ (kq : Nat) (x36_23 : Bool), v36 = .bool x36_23 ∧ Aside0 (impl_RecOk.j2 kq x4_17 x36_23 a0_0 a0_1 a0_2 a0_3 a0_4 a0_5 a0_6 a0_7 0 0 x194002_17 a0_3 a0_4 a0_5 a0_6 a0_7 = some r) ∧ Aside0 (kq ≤ kj17) ∧ Aside0 (wc.heap[gb191]? = some (.cells #[.int .i64 a0_0, .int .i64 a0_1, .int .i64 a0_2, .int .i64 a0_3, .int .i64 a0_4, .string a0_5, .string a0_6, .string a0_7] 23 (0, 0))) ∧ Aside0 (wc.heap[gb193]? = some (.cells #[.int .i64 0, .int .i64 0, .int .i64 x194002_17, .int .i64 a0_3, .int .i64 a0_4, .string a0_5, .string a0_6, .string a0_7] 23 (0, 0))) ∧ Aside0 (Below w.heap.size w wc))
      case first =>
       have H := HC24.out
       clear HC24
       by_cases c25 : a0_0 = 3
       ·rw [if_pos c25] at H
        have c25b0 : (a0_0 == 3) = true := beq_iff_eq.mpr c25
        have c25b1 : (a0_0 != 3) = false := bne_eq_false_iff_eq.mpr c25
        clear c25
        (first | rw [c25b0] | (simp only [i64_w, i32_w]; rw [c25b0]) | skip)
        have H' := Aside0.mk H
        clear H
        have hnb26 := NB191_193.out
        have hnc26 := NB193_191.out
        obtain ⟨hcz27_0, hcz27_1, hcz27_2, hcz27_3, hcz27_4, hcz27_5, hcz27_6, hcz27_7, hfz27_0, hfz27_1, hfz27_2, hfz27_3, hfz27_4, hfz27_5, hfz27_6, hfz27_7⟩ := bC8 BK191
        go_wp2
        go_meet
        case rel => exact ⟨_, (true), (by first | rfl | (simp; done) | (simp [*]; done)), H', ⟨by have := HJ3.out; have := HJ17.out; first | omega | exact Nat.le_refl _⟩, ⟨bG BK191⟩, ⟨bG BK193⟩, ⟨by exact lT HB (gC GE191 (gC GE193 gN))⟩⟩
       ·rw [if_neg c25] at H
        have c25b0 : (a0_0 == 3) = false := beq_eq_false_iff_ne.mpr c25
        have c25b1 : (a0_0 != 3) = true := bne_iff_ne.mpr c25
        (first | rw [c25b0] | (simp only [i64_w, i32_w]; rw [c25b0]) | skip)
        have H' := Aside0.mk H
        clear H
        have hnb28 := NB191_193.out
        have hnc28 := NB193_191.out
        obtain ⟨hcz29_0, hcz29_1, hcz29_2, hcz29_3, hcz29_4, hcz29_5, hcz29_6, hcz29_7, hfz29_0, hfz29_1, hfz29_2, hfz29_3, hfz29_4, hfz29_5, hfz29_6, hfz29_7⟩ := bC8 BK191
        go_wp2
        go_meet
        case rel => exact ⟨_, ((a0_0 == 4)), (by first | rfl | (simp; done) | (simp [*]; done)), H', ⟨by have := HJ3.out; have := HJ17.out; first | omega | exact Nat.le_refl _⟩, ⟨bG BK191⟩, ⟨bG BK193⟩, ⟨by exact lT HB (gC GE191 (gC GE193 gN))⟩⟩
      case rest =>
       clear HC24
       try clear c1
       try clear c2
       try clear p2
       try clear c3
       try clear c6
       try clear c8
       try clear c10
       try clear c10b0
       try clear c10b1
       try clear c11
       try clear c13
       try clear c13b0
       try clear c13b1
       try clear c14
       try clear c16
       try clear c19
       try clear c21
       try clear c25
       try clear c25b0
       try clear c25b1
       try clear c26
       try clear c28
       try clear hcz12_0
       try clear hcz12_1
       try clear hcz12_2
       try clear hcz12_3
       try clear hcz12_4
       try clear hcz12_5
       try clear hcz12_6
       try clear hcz12_7
       try clear hcz15_0
       try clear hcz15_1
       try clear hcz15_2
       try clear hcz15_3
       try clear hcz15_4
       try clear hcz15_5
       try clear hcz15_6
       try clear hcz15_7
       try clear hcz17_0
       try clear hcz17_1
       try clear hcz17_2
       try clear hcz17_3
       try clear hcz17_4
       try clear hcz17_5
       try clear hcz17_6
       try clear hcz17_7
       try clear hcz22_0
       try clear hcz22_1
       try clear hcz22_2
       try clear hcz22_3
       try clear hcz22_4
       try clear hcz22_5
       try clear hcz22_6
       try clear hcz22_7
       try clear hcz23_0
       try clear hcz23_1
       try clear hcz23_2
       try clear hcz23_3
       try clear hcz23_4
       try clear hcz23_5
       try clear hcz23_6
       try clear hcz23_7
       try clear hcz27_0
       try clear hcz27_1
       try clear hcz27_2
       try clear hcz27_3
       try clear hcz27_4
       try clear hcz27_5
       try clear hcz27_6
       try clear hcz27_7
       try clear hcz29_0
       try clear hcz29_1
       try clear hcz29_2
       try clear hcz29_3
       try clear hcz29_4
       try clear hcz29_5
       try clear hcz29_6
       try clear hcz29_7
       try clear hcz6_0
       try clear hcz6_1
       try clear hcz6_2
       try clear hcz6_3
       try clear hcz6_4
       try clear hcz6_5
       try clear hcz6_6
       try clear hcz6_7
       try clear hcz9_0
       try clear hcz9_1
       try clear hcz9_2
       try clear hcz9_3
       try clear hcz9_4
       try clear hcz9_5
       try clear hcz9_6
       try clear hcz9_7
       try clear hfz12_0
       try clear hfz12_1
       try clear hfz12_2
       try clear hfz12_3
       try clear hfz12_4
       try clear hfz12_5
       try clear hfz12_6
       try clear hfz12_7
       try clear hfz15_0
       try clear hfz15_1
       try clear hfz15_2
       try clear hfz15_3
       try clear hfz15_4
       try clear hfz15_5
       try clear hfz15_6
       try clear hfz15_7
       try clear hfz17_0
       try clear hfz17_1
       try clear hfz17_2
       try clear hfz17_3
       try clear hfz17_4
       try clear hfz17_5
       try clear hfz17_6
       try clear hfz17_7
       try clear hfz22_0
       try clear hfz22_1
       try clear hfz22_2
       try clear hfz22_3
       try clear hfz22_4
       try clear hfz22_5
       try clear hfz22_6
       try clear hfz22_7
       try clear hfz23_0
       try clear hfz23_1
       try clear hfz23_2
       try clear hfz23_3
       try clear hfz23_4
       try clear hfz23_5
       try clear hfz23_6
       try clear hfz23_7
       try clear hfz27_0
       try clear hfz27_1
       try clear hfz27_2
       try clear hfz27_3
       try clear hfz27_4
       try clear hfz27_5
       try clear hfz27_6
       try clear hfz27_7
       try clear hfz29_0
       try clear hfz29_1
       try clear hfz29_2
       try clear hfz29_3
       try clear hfz29_4
       try clear hfz29_5
       try clear hfz29_6
       try clear hfz29_7
       try clear hfz6_0
       try clear hfz6_1
       try clear hfz6_2
       try clear hfz6_3
       try clear hfz6_4
       try clear hfz6_5
       try clear hfz6_6
       try clear hfz6_7
       try clear hfz9_0
       try clear hfz9_1
       try clear hfz9_2
       try clear hfz9_3
       try clear hfz9_4
       try clear hfz9_5
       try clear hfz9_6
       try clear hfz9_7
       try clear p2
       obtain ⟨kq, x36_23, rfl, HA, HJ23, BK191, BK193, HB⟩ := hcut
       cases kq with
       | zero => exact absurd HA.out (by simp [impl_RecOk.j2])
       | succ kj23 =>
        have H := HA.out
        clear HA
        simp only [impl_RecOk.j2] at H
        have HC30 := Aside0.mk H
        clear H
        go_upto_if 36 with (fail)
        go_cut [4] (fun v4 wc => ∃ (kq : Nat) (x4_29 : Bool) (x194004_29 : Int), v4 = .bool x4_29 ∧ Aside0 (impl_RecOk.j3 kq x4_29 a0_0 a0_1 a0_2 a0_3 a0_4 a0_5 a0_6 a0_7 0 0 x194002_17 a0_3 x194004_29 a0_5 a0_6 a0_7 = some r) ∧ Aside0 (kq ≤ kj23) ∧ Aside0 (wc.heap[gb191]? = some (.cells #[.int .i64 a0_0, .int .i64 a0_1, .int .i64 a0_2, .int .i64 a0_3, .int .i64 a0_4, .string a0_5, .string a0_6, .string a0_7] 23 (0, 0))) ∧ Aside0 (wc.heap[gb193]? = some (.cells #[.int .i64 0, .int .i64 0, .int .i64 x194002_17, .int .i64 a0_3, .int .i64 x194004_29, .string a0_5, .string a0_6, .string a0_7] 23 (0, 0))) ∧ Aside0 (Below w.heap.size w wc))
        case first =>
         have H := HC30.out
         clear HC30
         by_cases c31 : x36_23 = true
         ·subst c31
          have H1 : (if x4_17 = true then ((impl_in.f a0_4 0 7).bind fun t195 => (impl_RecOk.j3 kj23 t195 a0_0 a0_1 a0_2 a0_3 a0_4 a0_5 a0_6 a0_7 0 0 x194002_17 a0_3 0 a0_5 a0_6 a0_7)) else (impl_RecOk.j3 kj23 false a0_0 a0_1 a0_2 a0_3 a0_4 a0_5 a0_6 a0_7 0 0 x194002_17 a0_3 0 a0_5 a0_6 a0_7)) = some r := by rw [if_pos rfl] at H; exact H
          clear H
          have H := H1
          clear H1
          by_cases c32 : x4_17 = true
          ·subst c32
           have H1 : ((impl_in.f a0_4 0 7).bind fun t195 => (impl_RecOk.j3 kj23 t195 a0_0 a0_1 a0_2 a0_3 a0_4 a0_5 a0_6 a0_7 0 0 x194002_17 a0_3 0 a0_5 a0_6 a0_7)) = some r := by rw [if_pos rfl] at H; exact H
           clear H
           have H := H1
           clear H1
           replace H := Option.bind_eq_some_iff.mp H
           obtain ⟨t195, A330, H⟩ := H
           replace H : (impl_RecOk.j3 kj23 t195 a0_0 a0_1 a0_2 a0_3 a0_4 a0_5 a0_6 a0_7 0 0 x194002_17 a0_3 0 a0_5 a0_6 a0_7) = some r := H
           have A33 := Aside0.mk A330
           clear A330
           have H' := Aside0.mk H
           clear H
           have hnb34 := NB191_193.out
           have hnc34 := NB193_191.out
           obtain ⟨hcz35_0, hcz35_1, hcz35_2, hcz35_3, hcz35_4, hcz35_5, hcz35_6, hcz35_7, hfz35_0, hfz35_1, hfz35_2, hfz35_3, hfz35_4, hfz35_5, hfz35_6, hfz35_7⟩ := bC8 BK191
           go_wp2_with (first | (go_at_call 63; (with_reducible refine (impl_in.calls a0_4 0 7 t195 _ A33.out).mono ?_); rintro e w' ⟨rfl, ⟨nd, rfl⟩⟩; (try (rw [drewN_self wc]; generalize hq_ : World.drewN wc _ = wc; have n0_ : Aside0 (wc.heap[gb191]? = some (.cells #[.int .i64 a0_0, .int .i64 a0_1, .int .i64 a0_2, .int .i64 a0_3, .int .i64 a0_4, .string a0_5, .string a0_6, .string a0_7] 23 (0, 0))) := ⟨by rw [← hq_]; exact (bG BK191)⟩; have n1_ : Aside0 (wc.heap[gb193]? = some (.cells #[.int .i64 0, .int .i64 0, .int .i64 x194002_17, .int .i64 a0_3, .int .i64 a0_4, .string a0_5, .string a0_6, .string a0_7] 23 (0, 0))) := ⟨by rw [← hq_]; exact (bG BK193)⟩; have n2_ : Aside0 (Below w.heap.size w wc) := ⟨by rw [← hq_]; exact (lT HB (gC GE191 (gC GE193 gN)))⟩; clear BK191 BK193 HB hq_; have BK191 := n0_; have BK193 := n1_; have HB := n2_; clear n0_ n1_ n2_)); (try (have hy191_0 : wc.cell? ⟨gb191, 0, none⟩ = some (.int .i64 a0_0) := bc BK191 0; have hv191_0 := blk_frozen BK191.out 0; have hy191_1 : wc.cell? ⟨gb191, 1, none⟩ = some (.int .i64 a0_1) := bc BK191 1; have hv191_1 := blk_frozen BK191.out 1; have hy191_2 : wc.cell? ⟨gb191, 2, none⟩ = some (.int .i64 a0_2) := bc BK191 2; have hv191_2 := blk_frozen BK191.out 2; have hy191_3 : wc.cell? ⟨gb191, 3, none⟩ = some (.int .i64 a0_3) := bc BK191 3; have hv191_3 := blk_frozen BK191.out 3; have hy191_4 : wc.cell? ⟨gb191, 4, none⟩ = some (.int .i64 a0_4) := bc BK191 4; have hv191_4 := blk_frozen BK191.out 4; have hy191_5 : wc.cell? ⟨gb191, 5, none⟩ = some (.string a0_5) := bc BK191 5; have hv191_5 := blk_frozen BK191.out 5; have hy191_6 : wc.cell? ⟨gb191, 6, none⟩ = some (.string a0_6) := bc BK191 6; have hv191_6 := blk_frozen BK191.out 6; have hy191_7 : wc.cell? ⟨gb191, 7, none⟩ = some (.string a0_7) := bc BK191 7; have hv191_7 := blk_frozen BK191.out 7)); (try (have hy193_0 : wc.cell? ⟨gb193, 0, none⟩ = some (.int .i64 0) := bc BK193 0; have hv193_0 := blk_frozen BK193.out 0; have hy193_1 : wc.cell? ⟨gb193, 1, none⟩ = some (.int .i64 0) := bc BK193 1; have hv193_1 := blk_frozen BK193.out 1; have hy193_2 : wc.cell? ⟨gb193, 2, none⟩ = some (.int .i64 x194002_17) := bc BK193 2; have hv193_2 := blk_frozen BK193.out 2; have hy193_3 : wc.cell? ⟨gb193, 3, none⟩ = some (.int .i64 a0_3) := bc BK193 3; have hv193_3 := blk_frozen BK193.out 3; have hy193_4 : wc.cell? ⟨gb193, 4, none⟩ = some (.int .i64 a0_4) := bc BK193 4; have hv193_4 := blk_frozen BK193.out 4; have hy193_5 : wc.cell? ⟨gb193, 5, none⟩ = some (.string a0_5) := bc BK193 5; have hv193_5 := blk_frozen BK193.out 5; have hy193_6 : wc.cell? ⟨gb193, 6, none⟩ = some (.string a0_6) := bc BK193 6; have hv193_6 := blk_frozen BK193.out 6; have hy193_7 : wc.cell? ⟨gb193, 7, none⟩ = some (.string a0_7) := bc BK193 7; have hv193_7 := blk_frozen BK193.out 7)); obtain ⟨hcz36_0, hcz36_1, hcz36_2, hcz36_3, hcz36_4, hcz36_5, hcz36_6, hcz36_7, hfz36_0, hfz36_1, hfz36_2, hfz36_3, hfz36_4, hfz36_5, hfz36_6, hfz36_7⟩ := bC8 BK193))
           go_meet
           case rel => exact ⟨_, (t195), (0), (by first | rfl | (simp; done) | (simp [*]; done)), H', ⟨by have := HJ3.out; have := HJ17.out; have := HJ23.out; first | omega | exact Nat.le_refl _⟩, ⟨by (with_reducible repeat (first | refine blk_drewN ?_ _ | refine blk_drew ?_ | refine blk_alloc ?_ _)); refine blk_far ?_ NB191_193.out _; (with_reducible repeat (first | refine blk_drewN ?_ _ | refine blk_drew ?_ | refine blk_alloc ?_ _)); exact BK191.out⟩, ⟨bW BK193⟩, ⟨by exact lT HB (gC GE191 (gC GE193 gN))⟩⟩
          ·replace c32 := Bool.eq_false_iff.mpr c32
           subst c32
           have H1 : (impl_RecOk.j3 kj23 false a0_0 a0_1 a0_2 a0_3 a0_4 a0_5 a0_6 a0_7 0 0 x194002_17 a0_3 0 a0_5 a0_6 a0_7) = some r := by rw [if_neg (show ¬ (false = true) by decide)] at H; exact H
           clear H
           have H := H1
           clear H1
           have H' := Aside0.mk H
           clear H
           have hnb37 := NB193_191.out
           have hnc37 := NB191_193.out
           obtain ⟨hcz38_0, hcz38_1, hcz38_2, hcz38_3, hcz38_4, hcz38_5, hcz38_6, hcz38_7, hfz38_0, hfz38_1, hfz38_2, hfz38_3, hfz38_4, hfz38_5, hfz38_6, hfz38_7⟩ := bC8 BK193
           go_wp2
           go_meet
           case rel => exact ⟨_, (false), (0), (by first | rfl | (simp; done) | (simp [*]; done)), H', ⟨by have := HJ3.out; have := HJ17.out; have := HJ23.out; first | omega | exact Nat.le_refl _⟩, ⟨by (with_reducible repeat (first | refine blk_drewN ?_ _ | refine blk_drew ?_ | refine blk_alloc ?_ _)); refine blk_far ?_ NB191_193.out _; (with_reducible repeat (first | refine blk_drewN ?_ _ | refine blk_drew ?_ | refine blk_alloc ?_ _)); exact BK191.out⟩, ⟨bW BK193⟩, ⟨by exact lT HB (gC GE191 (gC GE193 gN))⟩⟩
         ·replace c31 := Bool.eq_false_iff.mpr c31
          subst c31
          have H1 : (impl_RecOk.j3 kj23 x4_17 a0_0 a0_1 a0_2 a0_3 a0_4 a0_5 a0_6 a0_7 0 0 x194002_17 a0_3 a0_4 a0_5 a0_6 a0_7) = some r := by rw [if_neg (show ¬ (false = true) by decide)] at H; exact H
          clear H
          have H := H1
          clear H1
          have H' := Aside0.mk H
          clear H
          go_wp2
          go_meet
          case rel => exact ⟨_, (x4_17), (a0_4), (by first | rfl | (simp; done) | (simp [*]; done)), H', ⟨by have := HJ3.out; have := HJ17.out; have := HJ23.out; first | omega | exact Nat.le_refl _⟩, ⟨bG BK191⟩, ⟨bG BK193⟩, ⟨by exact lT HB (gC GE191 (gC GE193 gN))⟩⟩
        case rest =>
         clear HC30
         try clear c1
         try clear c2
         try clear p2
         try clear c3
         try clear c6
         try clear c8
         try clear c10
         try clear c10b0
         try clear c10b1
         try clear c11
         try clear c13
         try clear c13b0
         try clear c13b1
         try clear c14
         try clear c16
         try clear c19
         try clear c21
         try clear c25
         try clear c25b0
         try clear c25b1
         try clear c26
         try clear c28
         try clear c31
         try clear c32
         try clear c34
         try clear c37
         try clear hcz12_0
         try clear hcz12_1
         try clear hcz12_2
         try clear hcz12_3
         try clear hcz12_4
         try clear hcz12_5
         try clear hcz12_6
         try clear hcz12_7
         try clear hcz15_0
         try clear hcz15_1
         try clear hcz15_2
         try clear hcz15_3
         try clear hcz15_4
         try clear hcz15_5
         try clear hcz15_6
         try clear hcz15_7
         try clear hcz17_0
         try clear hcz17_1
         try clear hcz17_2
         try clear hcz17_3
         try clear hcz17_4
         try clear hcz17_5
         try clear hcz17_6
         try clear hcz17_7
         try clear hcz22_0
         try clear hcz22_1
         try clear hcz22_2
         try clear hcz22_3
         try clear hcz22_4
         try clear hcz22_5
         try clear hcz22_6
         try clear hcz22_7
         try clear hcz23_0
         try clear hcz23_1
         try clear hcz23_2
         try clear hcz23_3
         try clear hcz23_4
         try clear hcz23_5
         try clear hcz23_6
         try clear hcz23_7
         try clear hcz27_0
         try clear hcz27_1
         try clear hcz27_2
         try clear hcz27_3
         try clear hcz27_4
         try clear hcz27_5
         try clear hcz27_6
         try clear hcz27_7
         try clear hcz29_0
         try clear hcz29_1
         try clear hcz29_2
         try clear hcz29_3
         try clear hcz29_4
         try clear hcz29_5
         try clear hcz29_6
         try clear hcz29_7
         try clear hcz35_0
         try clear hcz35_1
         try clear hcz35_2
         try clear hcz35_3
         try clear hcz35_4
         try clear hcz35_5
         try clear hcz35_6
         try clear hcz35_7
         try clear hcz36_0
         try clear hcz36_1
         try clear hcz36_2
         try clear hcz36_3
         try clear hcz36_4
         try clear hcz36_5
         try clear hcz36_6
         try clear hcz36_7
         try clear hcz38_0
         try clear hcz38_1
         try clear hcz38_2
         try clear hcz38_3
         try clear hcz38_4
         try clear hcz38_5
         try clear hcz38_6
         try clear hcz38_7
         try clear hcz6_0
         try clear hcz6_1
         try clear hcz6_2
         try clear hcz6_3
         try clear hcz6_4
         try clear hcz6_5
         try clear hcz6_6
         try clear hcz6_7
         try clear hcz9_0
         try clear hcz9_1
         try clear hcz9_2
         try clear hcz9_3
         try clear hcz9_4
         try clear hcz9_5
         try clear hcz9_6
         try clear hcz9_7
         try clear hfz12_0
         try clear hfz12_1
         try clear hfz12_2
         try clear hfz12_3
         try clear hfz12_4
         try clear hfz12_5
         try clear hfz12_6
         try clear hfz12_7
         try clear hfz15_0
         try clear hfz15_1
         try clear hfz15_2
         try clear hfz15_3
         try clear hfz15_4
         try clear hfz15_5
         try clear hfz15_6
         try clear hfz15_7
         try clear hfz17_0
         try clear hfz17_1
         try clear hfz17_2
         try clear hfz17_3
         try clear hfz17_4
         try clear hfz17_5
         try clear hfz17_6
         try clear hfz17_7
         try clear hfz22_0
         try clear hfz22_1
         try clear hfz22_2
         try clear hfz22_3
         try clear hfz22_4
         try clear hfz22_5
         try clear hfz22_6
         try clear hfz22_7
         try clear hfz23_0
         try clear hfz23_1
         try clear hfz23_2
         try clear hfz23_3
         try clear hfz23_4
         try clear hfz23_5
         try clear hfz23_6
         try clear hfz23_7
         try clear hfz27_0
         try clear hfz27_1
         try clear hfz27_2
         try clear hfz27_3
         try clear hfz27_4
         try clear hfz27_5
         try clear hfz27_6
         try clear hfz27_7
         try clear hfz29_0
         try clear hfz29_1
         try clear hfz29_2
         try clear hfz29_3
         try clear hfz29_4
         try clear hfz29_5
         try clear hfz29_6
         try clear hfz29_7
         try clear hfz35_0
         try clear hfz35_1
         try clear hfz35_2
         try clear hfz35_3
         try clear hfz35_4
         try clear hfz35_5
         try clear hfz35_6
         try clear hfz35_7
         try clear hfz36_0
         try clear hfz36_1
         try clear hfz36_2
         try clear hfz36_3
         try clear hfz36_4
         try clear hfz36_5
         try clear hfz36_6
         try clear hfz36_7
         try clear hfz38_0
         try clear hfz38_1
         try clear hfz38_2
         try clear hfz38_3
         try clear hfz38_4
         try clear hfz38_5
         try clear hfz38_6
         try clear hfz38_7
         try clear hfz6_0
         try clear hfz6_1
         try clear hfz6_2
         try clear hfz6_3
         try clear hfz6_4
         try clear hfz6_5
         try clear hfz6_6
         try clear hfz6_7
         try clear hfz9_0
         try clear hfz9_1
         try clear hfz9_2
         try clear hfz9_3
         try clear hfz9_4
         try clear hfz9_5
         try clear hfz9_6
         try clear hfz9_7
         try clear p2
         obtain ⟨kq, x4_29, x194004_29, rfl, HA, HJ29, BK191, BK193, HB⟩ := hcut
         cases kq with
         | zero => exact absurd HA.out (by simp [impl_RecOk.j3])
         | succ kj29 =>
          have H := HA.out
          clear HA
          simp only [impl_RecOk.j3] at H
          by_cases c39 : a0_0 = 1
          ·rw [if_pos c39] at H
           have c39b0 : (a0_0 == 1) = true := beq_iff_eq.mpr c39
           have c39b1 : (a0_0 != 1) = false := bne_eq_false_iff_eq.mpr c39
           clear c39
           replace H := Option.bind_eq_some_iff.mp H
           obtain ⟨t196, A400, H⟩ := H
           replace H : (if t196 = true then ((impl_WordOk.f kj29 a0_6).bind fun t197 => (if t197 = true then ((impl_in.f a0_3 1 10000).bind fun t198 => (if t198 = true then (some (0 == 0 && (0 == 0 && (x194002_17 == 0 && (x194004_29 == 0 && (a0_7.toList == ([] : List UInt8))))))) else (some false))) else (some false))) else (some false)) = some r := H
           have A40 := Aside0.mk A400
           clear A400
           by_cases c41 : t196 = true
           ·subst c41
            have H1 : ((impl_WordOk.f kj29 a0_6).bind fun t197 => (if t197 = true then ((impl_in.f a0_3 1 10000).bind fun t198 => (if t198 = true then (some (0 == 0 && (0 == 0 && (x194002_17 == 0 && (x194004_29 == 0 && (a0_7.toList == ([] : List UInt8))))))) else (some false))) else (some false))) = some r := by rw [if_pos rfl] at H; exact H
            clear H
            have H := H1
            clear H1
            replace H := Option.bind_eq_some_iff.mp H
            obtain ⟨t197, A420, H⟩ := H
            replace H : (if t197 = true then ((impl_in.f a0_3 1 10000).bind fun t198 => (if t198 = true then (some (0 == 0 && (0 == 0 && (x194002_17 == 0 && (x194004_29 == 0 && (a0_7.toList == ([] : List UInt8))))))) else (some false))) else (some false)) = some r := H
            have A42 := Aside0.mk A420
            clear A420
            by_cases c43 : t197 = true
            ·subst c43
             have H1 : ((impl_in.f a0_3 1 10000).bind fun t198 => (if t198 = true then (some (0 == 0 && (0 == 0 && (x194002_17 == 0 && (x194004_29 == 0 && (a0_7.toList == ([] : List UInt8))))))) else (some false))) = some r := by rw [if_pos rfl] at H; exact H
             clear H
             have H := H1
             clear H1
             replace H := Option.bind_eq_some_iff.mp H
             obtain ⟨t198, A440, H⟩ := H
             replace H : (if t198 = true then (some (0 == 0 && (0 == 0 && (x194002_17 == 0 && (x194004_29 == 0 && (a0_7.toList == ([] : List UInt8))))))) else (some false)) = some r := H
             have A44 := Aside0.mk A440
             clear A440
             by_cases c45 : t198 = true
             ·subst c45
              have H1 : (some (0 == 0 && (0 == 0 && (x194002_17 == 0 && (x194004_29 == 0 && (a0_7.toList == ([] : List UInt8))))))) = some r := by rw [if_pos rfl] at H; exact H
              clear H
              have H := H1
              clear H1
              obtain rfl := Option.some.inj H
              have hnb46 := NB191_193.out
              have hnc46 := NB193_191.out
              obtain ⟨hcz47_0, hcz47_1, hcz47_2, hcz47_3, hcz47_4, hcz47_5, hcz47_6, hcz47_7, hfz47_0, hfz47_1, hfz47_2, hfz47_3, hfz47_4, hfz47_5, hfz47_6, hfz47_7⟩ := bC8 BK191
              go_wp2_with (first | ((with_reducible refine gate_callee (f := 31) rfl ?_); refine gl (some 50) Try.func31 #[.string a0_5] ?_; (with_reducible refine (impl_WordOk.calls kj29 a0_5 true _ A40.out).mono ?_); rintro e w' ⟨rfl, ⟨nd, rfl⟩⟩; refine ⟨_, rfl, ?_⟩; (try (rw [drewN_self wc]; generalize hq_ : World.drewN wc _ = wc; have n0_ : Aside0 (wc.heap[gb191]? = some (.cells #[.int .i64 a0_0, .int .i64 a0_1, .int .i64 a0_2, .int .i64 a0_3, .int .i64 a0_4, .string a0_5, .string a0_6, .string a0_7] 23 (0, 0))) := ⟨by rw [← hq_]; exact (bG BK191)⟩; have n1_ : Aside0 (wc.heap[gb193]? = some (.cells #[.int .i64 0, .int .i64 0, .int .i64 x194002_17, .int .i64 a0_3, .int .i64 x194004_29, .string a0_5, .string a0_6, .string a0_7] 23 (0, 0))) := ⟨by rw [← hq_]; exact (bG BK193)⟩; have n2_ : Aside0 (Below w.heap.size w wc) := ⟨by rw [← hq_]; exact (lT HB (gC GE191 (gC GE193 gN)))⟩; clear BK191 BK193 HB hq_; have BK191 := n0_; have BK193 := n1_; have HB := n2_; clear n0_ n1_ n2_)); (try (have hy191_0 : wc.cell? ⟨gb191, 0, none⟩ = some (.int .i64 a0_0) := bc BK191 0; have hv191_0 := blk_frozen BK191.out 0; have hy191_1 : wc.cell? ⟨gb191, 1, none⟩ = some (.int .i64 a0_1) := bc BK191 1; have hv191_1 := blk_frozen BK191.out 1; have hy191_2 : wc.cell? ⟨gb191, 2, none⟩ = some (.int .i64 a0_2) := bc BK191 2; have hv191_2 := blk_frozen BK191.out 2; have hy191_3 : wc.cell? ⟨gb191, 3, none⟩ = some (.int .i64 a0_3) := bc BK191 3; have hv191_3 := blk_frozen BK191.out 3; have hy191_4 : wc.cell? ⟨gb191, 4, none⟩ = some (.int .i64 a0_4) := bc BK191 4; have hv191_4 := blk_frozen BK191.out 4; have hy191_5 : wc.cell? ⟨gb191, 5, none⟩ = some (.string a0_5) := bc BK191 5; have hv191_5 := blk_frozen BK191.out 5; have hy191_6 : wc.cell? ⟨gb191, 6, none⟩ = some (.string a0_6) := bc BK191 6; have hv191_6 := blk_frozen BK191.out 6; have hy191_7 : wc.cell? ⟨gb191, 7, none⟩ = some (.string a0_7) := bc BK191 7; have hv191_7 := blk_frozen BK191.out 7)); (try (have hy193_0 : wc.cell? ⟨gb193, 0, none⟩ = some (.int .i64 0) := bc BK193 0; have hv193_0 := blk_frozen BK193.out 0; have hy193_1 : wc.cell? ⟨gb193, 1, none⟩ = some (.int .i64 0) := bc BK193 1; have hv193_1 := blk_frozen BK193.out 1; have hy193_2 : wc.cell? ⟨gb193, 2, none⟩ = some (.int .i64 x194002_17) := bc BK193 2; have hv193_2 := blk_frozen BK193.out 2; have hy193_3 : wc.cell? ⟨gb193, 3, none⟩ = some (.int .i64 a0_3) := bc BK193 3; have hv193_3 := blk_frozen BK193.out 3; have hy193_4 : wc.cell? ⟨gb193, 4, none⟩ = some (.int .i64 x194004_29) := bc BK193 4; have hv193_4 := blk_frozen BK193.out 4; have hy193_5 : wc.cell? ⟨gb193, 5, none⟩ = some (.string a0_5) := bc BK193 5; have hv193_5 := blk_frozen BK193.out 5; have hy193_6 : wc.cell? ⟨gb193, 6, none⟩ = some (.string a0_6) := bc BK193 6; have hv193_6 := blk_frozen BK193.out 6; have hy193_7 : wc.cell? ⟨gb193, 7, none⟩ = some (.string a0_7) := bc BK193 7; have hv193_7 := blk_frozen BK193.out 7))) | (go_at_call 31; (with_reducible refine (impl_WordOk.calls kj29 a0_6 true _ A42.out).mono ?_); rintro e w' ⟨rfl, ⟨nd, rfl⟩⟩; (try (rw [drewN_self wc]; generalize hq_ : World.drewN wc _ = wc; have n0_ : Aside0 (wc.heap[gb191]? = some (.cells #[.int .i64 a0_0, .int .i64 a0_1, .int .i64 a0_2, .int .i64 a0_3, .int .i64 a0_4, .string a0_5, .string a0_6, .string a0_7] 23 (0, 0))) := ⟨by rw [← hq_]; exact (bG BK191)⟩; have n1_ : Aside0 (wc.heap[gb193]? = some (.cells #[.int .i64 0, .int .i64 0, .int .i64 x194002_17, .int .i64 a0_3, .int .i64 x194004_29, .string a0_5, .string a0_6, .string a0_7] 23 (0, 0))) := ⟨by rw [← hq_]; exact (bG BK193)⟩; have n2_ : Aside0 (Below w.heap.size w wc) := ⟨by rw [← hq_]; exact (lT HB (gC GE191 (gC GE193 gN)))⟩; clear BK191 BK193 HB hq_; have BK191 := n0_; have BK193 := n1_; have HB := n2_; clear n0_ n1_ n2_)); (try (have hy191_0 : wc.cell? ⟨gb191, 0, none⟩ = some (.int .i64 a0_0) := bc BK191 0; have hv191_0 := blk_frozen BK191.out 0; have hy191_1 : wc.cell? ⟨gb191, 1, none⟩ = some (.int .i64 a0_1) := bc BK191 1; have hv191_1 := blk_frozen BK191.out 1; have hy191_2 : wc.cell? ⟨gb191, 2, none⟩ = some (.int .i64 a0_2) := bc BK191 2; have hv191_2 := blk_frozen BK191.out 2; have hy191_3 : wc.cell? ⟨gb191, 3, none⟩ = some (.int .i64 a0_3) := bc BK191 3; have hv191_3 := blk_frozen BK191.out 3; have hy191_4 : wc.cell? ⟨gb191, 4, none⟩ = some (.int .i64 a0_4) := bc BK191 4; have hv191_4 := blk_frozen BK191.out 4; have hy191_5 : wc.cell? ⟨gb191, 5, none⟩ = some (.string a0_5) := bc BK191 5; have hv191_5 := blk_frozen BK191.out 5; have hy191_6 : wc.cell? ⟨gb191, 6, none⟩ = some (.string a0_6) := bc BK191 6; have hv191_6 := blk_frozen BK191.out 6; have hy191_7 : wc.cell? ⟨gb191, 7, none⟩ = some (.string a0_7) := bc BK191 7; have hv191_7 := blk_frozen BK191.out 7)); (try (have hy193_0 : wc.cell? ⟨gb193, 0, none⟩ = some (.int .i64 0) := bc BK193 0; have hv193_0 := blk_frozen BK193.out 0; have hy193_1 : wc.cell? ⟨gb193, 1, none⟩ = some (.int .i64 0) := bc BK193 1; have hv193_1 := blk_frozen BK193.out 1; have hy193_2 : wc.cell? ⟨gb193, 2, none⟩ = some (.int .i64 x194002_17) := bc BK193 2; have hv193_2 := blk_frozen BK193.out 2; have hy193_3 : wc.cell? ⟨gb193, 3, none⟩ = some (.int .i64 a0_3) := bc BK193 3; have hv193_3 := blk_frozen BK193.out 3; have hy193_4 : wc.cell? ⟨gb193, 4, none⟩ = some (.int .i64 x194004_29) := bc BK193 4; have hv193_4 := blk_frozen BK193.out 4; have hy193_5 : wc.cell? ⟨gb193, 5, none⟩ = some (.string a0_5) := bc BK193 5; have hv193_5 := blk_frozen BK193.out 5; have hy193_6 : wc.cell? ⟨gb193, 6, none⟩ = some (.string a0_6) := bc BK193 6; have hv193_6 := blk_frozen BK193.out 6; have hy193_7 : wc.cell? ⟨gb193, 7, none⟩ = some (.string a0_7) := bc BK193 7; have hv193_7 := blk_frozen BK193.out 7))) | (go_at_call 63; (with_reducible refine (impl_in.calls a0_3 1 10000 true _ A44.out).mono ?_); rintro e w' ⟨rfl, ⟨nd, rfl⟩⟩; (try (rw [drewN_self wc]; generalize hq_ : World.drewN wc _ = wc; have n0_ : Aside0 (wc.heap[gb191]? = some (.cells #[.int .i64 a0_0, .int .i64 a0_1, .int .i64 a0_2, .int .i64 a0_3, .int .i64 a0_4, .string a0_5, .string a0_6, .string a0_7] 23 (0, 0))) := ⟨by rw [← hq_]; exact (bG BK191)⟩; have n1_ : Aside0 (wc.heap[gb193]? = some (.cells #[.int .i64 0, .int .i64 0, .int .i64 x194002_17, .int .i64 a0_3, .int .i64 x194004_29, .string a0_5, .string a0_6, .string a0_7] 23 (0, 0))) := ⟨by rw [← hq_]; exact (bG BK193)⟩; have n2_ : Aside0 (Below w.heap.size w wc) := ⟨by rw [← hq_]; exact (lT HB (gC GE191 (gC GE193 gN)))⟩; clear BK191 BK193 HB hq_; have BK191 := n0_; have BK193 := n1_; have HB := n2_; clear n0_ n1_ n2_)); (try (have hy191_0 : wc.cell? ⟨gb191, 0, none⟩ = some (.int .i64 a0_0) := bc BK191 0; have hv191_0 := blk_frozen BK191.out 0; have hy191_1 : wc.cell? ⟨gb191, 1, none⟩ = some (.int .i64 a0_1) := bc BK191 1; have hv191_1 := blk_frozen BK191.out 1; have hy191_2 : wc.cell? ⟨gb191, 2, none⟩ = some (.int .i64 a0_2) := bc BK191 2; have hv191_2 := blk_frozen BK191.out 2; have hy191_3 : wc.cell? ⟨gb191, 3, none⟩ = some (.int .i64 a0_3) := bc BK191 3; have hv191_3 := blk_frozen BK191.out 3; have hy191_4 : wc.cell? ⟨gb191, 4, none⟩ = some (.int .i64 a0_4) := bc BK191 4; have hv191_4 := blk_frozen BK191.out 4; have hy191_5 : wc.cell? ⟨gb191, 5, none⟩ = some (.string a0_5) := bc BK191 5; have hv191_5 := blk_frozen BK191.out 5; have hy191_6 : wc.cell? ⟨gb191, 6, none⟩ = some (.string a0_6) := bc BK191 6; have hv191_6 := blk_frozen BK191.out 6; have hy191_7 : wc.cell? ⟨gb191, 7, none⟩ = some (.string a0_7) := bc BK191 7; have hv191_7 := blk_frozen BK191.out 7)); (try (have hy193_0 : wc.cell? ⟨gb193, 0, none⟩ = some (.int .i64 0) := bc BK193 0; have hv193_0 := blk_frozen BK193.out 0; have hy193_1 : wc.cell? ⟨gb193, 1, none⟩ = some (.int .i64 0) := bc BK193 1; have hv193_1 := blk_frozen BK193.out 1; have hy193_2 : wc.cell? ⟨gb193, 2, none⟩ = some (.int .i64 x194002_17) := bc BK193 2; have hv193_2 := blk_frozen BK193.out 2; have hy193_3 : wc.cell? ⟨gb193, 3, none⟩ = some (.int .i64 a0_3) := bc BK193 3; have hv193_3 := blk_frozen BK193.out 3; have hy193_4 : wc.cell? ⟨gb193, 4, none⟩ = some (.int .i64 x194004_29) := bc BK193 4; have hv193_4 := blk_frozen BK193.out 4; have hy193_5 : wc.cell? ⟨gb193, 5, none⟩ = some (.string a0_5) := bc BK193 5; have hv193_5 := blk_frozen BK193.out 5; have hy193_6 : wc.cell? ⟨gb193, 6, none⟩ = some (.string a0_6) := bc BK193 6; have hv193_6 := blk_frozen BK193.out 6; have hy193_7 : wc.cell? ⟨gb193, 7, none⟩ = some (.string a0_7) := bc BK193 7; have hv193_7 := blk_frozen BK193.out 7)); obtain ⟨hcz48_0, hcz48_1, hcz48_2, hcz48_3, hcz48_4, hcz48_5, hcz48_6, hcz48_7, hfz48_0, hfz48_1, hfz48_2, hfz48_3, hfz48_4, hfz48_5, hfz48_6, hfz48_7⟩ := bC8 BK193))
              go_ret
              exact ⟨ew, by exact lT HB (gC GE191 (gC GE193 gN))⟩
             ·replace c45 := Bool.eq_false_iff.mpr c45
              subst c45
              have H1 : (some false) = some r := by rw [if_neg (show ¬ (false = true) by decide)] at H; exact H
              clear H
              have H := H1
              clear H1
              obtain rfl := Option.some.inj H
              have hnb49 := NB191_193.out
              have hnc49 := NB193_191.out
              obtain ⟨hcz50_0, hcz50_1, hcz50_2, hcz50_3, hcz50_4, hcz50_5, hcz50_6, hcz50_7, hfz50_0, hfz50_1, hfz50_2, hfz50_3, hfz50_4, hfz50_5, hfz50_6, hfz50_7⟩ := bC8 BK191
              go_wp2_with (first | ((with_reducible refine gate_callee (f := 31) rfl ?_); refine gl (some 50) Try.func31 #[.string a0_5] ?_; (with_reducible refine (impl_WordOk.calls kj29 a0_5 true _ A40.out).mono ?_); rintro e w' ⟨rfl, ⟨nd, rfl⟩⟩; refine ⟨_, rfl, ?_⟩; (try (rw [drewN_self wc]; generalize hq_ : World.drewN wc _ = wc; have n0_ : Aside0 (wc.heap[gb191]? = some (.cells #[.int .i64 a0_0, .int .i64 a0_1, .int .i64 a0_2, .int .i64 a0_3, .int .i64 a0_4, .string a0_5, .string a0_6, .string a0_7] 23 (0, 0))) := ⟨by rw [← hq_]; exact (bG BK191)⟩; have n1_ : Aside0 (wc.heap[gb193]? = some (.cells #[.int .i64 0, .int .i64 0, .int .i64 x194002_17, .int .i64 a0_3, .int .i64 x194004_29, .string a0_5, .string a0_6, .string a0_7] 23 (0, 0))) := ⟨by rw [← hq_]; exact (bG BK193)⟩; have n2_ : Aside0 (Below w.heap.size w wc) := ⟨by rw [← hq_]; exact (lT HB (gC GE191 (gC GE193 gN)))⟩; clear BK191 BK193 HB hq_; have BK191 := n0_; have BK193 := n1_; have HB := n2_; clear n0_ n1_ n2_)); (try (have hy191_0 : wc.cell? ⟨gb191, 0, none⟩ = some (.int .i64 a0_0) := bc BK191 0; have hv191_0 := blk_frozen BK191.out 0; have hy191_1 : wc.cell? ⟨gb191, 1, none⟩ = some (.int .i64 a0_1) := bc BK191 1; have hv191_1 := blk_frozen BK191.out 1; have hy191_2 : wc.cell? ⟨gb191, 2, none⟩ = some (.int .i64 a0_2) := bc BK191 2; have hv191_2 := blk_frozen BK191.out 2; have hy191_3 : wc.cell? ⟨gb191, 3, none⟩ = some (.int .i64 a0_3) := bc BK191 3; have hv191_3 := blk_frozen BK191.out 3; have hy191_4 : wc.cell? ⟨gb191, 4, none⟩ = some (.int .i64 a0_4) := bc BK191 4; have hv191_4 := blk_frozen BK191.out 4; have hy191_5 : wc.cell? ⟨gb191, 5, none⟩ = some (.string a0_5) := bc BK191 5; have hv191_5 := blk_frozen BK191.out 5; have hy191_6 : wc.cell? ⟨gb191, 6, none⟩ = some (.string a0_6) := bc BK191 6; have hv191_6 := blk_frozen BK191.out 6; have hy191_7 : wc.cell? ⟨gb191, 7, none⟩ = some (.string a0_7) := bc BK191 7; have hv191_7 := blk_frozen BK191.out 7)); (try (have hy193_0 : wc.cell? ⟨gb193, 0, none⟩ = some (.int .i64 0) := bc BK193 0; have hv193_0 := blk_frozen BK193.out 0; have hy193_1 : wc.cell? ⟨gb193, 1, none⟩ = some (.int .i64 0) := bc BK193 1; have hv193_1 := blk_frozen BK193.out 1; have hy193_2 : wc.cell? ⟨gb193, 2, none⟩ = some (.int .i64 x194002_17) := bc BK193 2; have hv193_2 := blk_frozen BK193.out 2; have hy193_3 : wc.cell? ⟨gb193, 3, none⟩ = some (.int .i64 a0_3) := bc BK193 3; have hv193_3 := blk_frozen BK193.out 3; have hy193_4 : wc.cell? ⟨gb193, 4, none⟩ = some (.int .i64 x194004_29) := bc BK193 4; have hv193_4 := blk_frozen BK193.out 4; have hy193_5 : wc.cell? ⟨gb193, 5, none⟩ = some (.string a0_5) := bc BK193 5; have hv193_5 := blk_frozen BK193.out 5; have hy193_6 : wc.cell? ⟨gb193, 6, none⟩ = some (.string a0_6) := bc BK193 6; have hv193_6 := blk_frozen BK193.out 6; have hy193_7 : wc.cell? ⟨gb193, 7, none⟩ = some (.string a0_7) := bc BK193 7; have hv193_7 := blk_frozen BK193.out 7))) | (go_at_call 31; (with_reducible refine (impl_WordOk.calls kj29 a0_6 true _ A42.out).mono ?_); rintro e w' ⟨rfl, ⟨nd, rfl⟩⟩; (try (rw [drewN_self wc]; generalize hq_ : World.drewN wc _ = wc; have n0_ : Aside0 (wc.heap[gb191]? = some (.cells #[.int .i64 a0_0, .int .i64 a0_1, .int .i64 a0_2, .int .i64 a0_3, .int .i64 a0_4, .string a0_5, .string a0_6, .string a0_7] 23 (0, 0))) := ⟨by rw [← hq_]; exact (bG BK191)⟩; have n1_ : Aside0 (wc.heap[gb193]? = some (.cells #[.int .i64 0, .int .i64 0, .int .i64 x194002_17, .int .i64 a0_3, .int .i64 x194004_29, .string a0_5, .string a0_6, .string a0_7] 23 (0, 0))) := ⟨by rw [← hq_]; exact (bG BK193)⟩; have n2_ : Aside0 (Below w.heap.size w wc) := ⟨by rw [← hq_]; exact (lT HB (gC GE191 (gC GE193 gN)))⟩; clear BK191 BK193 HB hq_; have BK191 := n0_; have BK193 := n1_; have HB := n2_; clear n0_ n1_ n2_)); (try (have hy191_0 : wc.cell? ⟨gb191, 0, none⟩ = some (.int .i64 a0_0) := bc BK191 0; have hv191_0 := blk_frozen BK191.out 0; have hy191_1 : wc.cell? ⟨gb191, 1, none⟩ = some (.int .i64 a0_1) := bc BK191 1; have hv191_1 := blk_frozen BK191.out 1; have hy191_2 : wc.cell? ⟨gb191, 2, none⟩ = some (.int .i64 a0_2) := bc BK191 2; have hv191_2 := blk_frozen BK191.out 2; have hy191_3 : wc.cell? ⟨gb191, 3, none⟩ = some (.int .i64 a0_3) := bc BK191 3; have hv191_3 := blk_frozen BK191.out 3; have hy191_4 : wc.cell? ⟨gb191, 4, none⟩ = some (.int .i64 a0_4) := bc BK191 4; have hv191_4 := blk_frozen BK191.out 4; have hy191_5 : wc.cell? ⟨gb191, 5, none⟩ = some (.string a0_5) := bc BK191 5; have hv191_5 := blk_frozen BK191.out 5; have hy191_6 : wc.cell? ⟨gb191, 6, none⟩ = some (.string a0_6) := bc BK191 6; have hv191_6 := blk_frozen BK191.out 6; have hy191_7 : wc.cell? ⟨gb191, 7, none⟩ = some (.string a0_7) := bc BK191 7; have hv191_7 := blk_frozen BK191.out 7)); (try (have hy193_0 : wc.cell? ⟨gb193, 0, none⟩ = some (.int .i64 0) := bc BK193 0; have hv193_0 := blk_frozen BK193.out 0; have hy193_1 : wc.cell? ⟨gb193, 1, none⟩ = some (.int .i64 0) := bc BK193 1; have hv193_1 := blk_frozen BK193.out 1; have hy193_2 : wc.cell? ⟨gb193, 2, none⟩ = some (.int .i64 x194002_17) := bc BK193 2; have hv193_2 := blk_frozen BK193.out 2; have hy193_3 : wc.cell? ⟨gb193, 3, none⟩ = some (.int .i64 a0_3) := bc BK193 3; have hv193_3 := blk_frozen BK193.out 3; have hy193_4 : wc.cell? ⟨gb193, 4, none⟩ = some (.int .i64 x194004_29) := bc BK193 4; have hv193_4 := blk_frozen BK193.out 4; have hy193_5 : wc.cell? ⟨gb193, 5, none⟩ = some (.string a0_5) := bc BK193 5; have hv193_5 := blk_frozen BK193.out 5; have hy193_6 : wc.cell? ⟨gb193, 6, none⟩ = some (.string a0_6) := bc BK193 6; have hv193_6 := blk_frozen BK193.out 6; have hy193_7 : wc.cell? ⟨gb193, 7, none⟩ = some (.string a0_7) := bc BK193 7; have hv193_7 := blk_frozen BK193.out 7))) | (go_at_call 63; (with_reducible refine (impl_in.calls a0_3 1 10000 false _ A44.out).mono ?_); rintro e w' ⟨rfl, ⟨nd, rfl⟩⟩; (try (rw [drewN_self wc]; generalize hq_ : World.drewN wc _ = wc; have n0_ : Aside0 (wc.heap[gb191]? = some (.cells #[.int .i64 a0_0, .int .i64 a0_1, .int .i64 a0_2, .int .i64 a0_3, .int .i64 a0_4, .string a0_5, .string a0_6, .string a0_7] 23 (0, 0))) := ⟨by rw [← hq_]; exact (bG BK191)⟩; have n1_ : Aside0 (wc.heap[gb193]? = some (.cells #[.int .i64 0, .int .i64 0, .int .i64 x194002_17, .int .i64 a0_3, .int .i64 x194004_29, .string a0_5, .string a0_6, .string a0_7] 23 (0, 0))) := ⟨by rw [← hq_]; exact (bG BK193)⟩; have n2_ : Aside0 (Below w.heap.size w wc) := ⟨by rw [← hq_]; exact (lT HB (gC GE191 (gC GE193 gN)))⟩; clear BK191 BK193 HB hq_; have BK191 := n0_; have BK193 := n1_; have HB := n2_; clear n0_ n1_ n2_)); (try (have hy191_0 : wc.cell? ⟨gb191, 0, none⟩ = some (.int .i64 a0_0) := bc BK191 0; have hv191_0 := blk_frozen BK191.out 0; have hy191_1 : wc.cell? ⟨gb191, 1, none⟩ = some (.int .i64 a0_1) := bc BK191 1; have hv191_1 := blk_frozen BK191.out 1; have hy191_2 : wc.cell? ⟨gb191, 2, none⟩ = some (.int .i64 a0_2) := bc BK191 2; have hv191_2 := blk_frozen BK191.out 2; have hy191_3 : wc.cell? ⟨gb191, 3, none⟩ = some (.int .i64 a0_3) := bc BK191 3; have hv191_3 := blk_frozen BK191.out 3; have hy191_4 : wc.cell? ⟨gb191, 4, none⟩ = some (.int .i64 a0_4) := bc BK191 4; have hv191_4 := blk_frozen BK191.out 4; have hy191_5 : wc.cell? ⟨gb191, 5, none⟩ = some (.string a0_5) := bc BK191 5; have hv191_5 := blk_frozen BK191.out 5; have hy191_6 : wc.cell? ⟨gb191, 6, none⟩ = some (.string a0_6) := bc BK191 6; have hv191_6 := blk_frozen BK191.out 6; have hy191_7 : wc.cell? ⟨gb191, 7, none⟩ = some (.string a0_7) := bc BK191 7; have hv191_7 := blk_frozen BK191.out 7)); (try (have hy193_0 : wc.cell? ⟨gb193, 0, none⟩ = some (.int .i64 0) := bc BK193 0; have hv193_0 := blk_frozen BK193.out 0; have hy193_1 : wc.cell? ⟨gb193, 1, none⟩ = some (.int .i64 0) := bc BK193 1; have hv193_1 := blk_frozen BK193.out 1; have hy193_2 : wc.cell? ⟨gb193, 2, none⟩ = some (.int .i64 x194002_17) := bc BK193 2; have hv193_2 := blk_frozen BK193.out 2; have hy193_3 : wc.cell? ⟨gb193, 3, none⟩ = some (.int .i64 a0_3) := bc BK193 3; have hv193_3 := blk_frozen BK193.out 3; have hy193_4 : wc.cell? ⟨gb193, 4, none⟩ = some (.int .i64 x194004_29) := bc BK193 4; have hv193_4 := blk_frozen BK193.out 4; have hy193_5 : wc.cell? ⟨gb193, 5, none⟩ = some (.string a0_5) := bc BK193 5; have hv193_5 := blk_frozen BK193.out 5; have hy193_6 : wc.cell? ⟨gb193, 6, none⟩ = some (.string a0_6) := bc BK193 6; have hv193_6 := blk_frozen BK193.out 6; have hy193_7 : wc.cell? ⟨gb193, 7, none⟩ = some (.string a0_7) := bc BK193 7; have hv193_7 := blk_frozen BK193.out 7)); obtain ⟨hcz51_0, hcz51_1, hcz51_2, hcz51_3, hcz51_4, hcz51_5, hcz51_6, hcz51_7, hfz51_0, hfz51_1, hfz51_2, hfz51_3, hfz51_4, hfz51_5, hfz51_6, hfz51_7⟩ := bC8 BK193))
              go_ret
              exact ⟨ew, by exact lT HB (gC GE191 (gC GE193 gN))⟩
            ·replace c43 := Bool.eq_false_iff.mpr c43
             subst c43
             have H1 : (some false) = some r := by rw [if_neg (show ¬ (false = true) by decide)] at H; exact H
             clear H
             have H := H1
             clear H1
             obtain rfl := Option.some.inj H
             have hnb52 := NB191_193.out
             have hnc52 := NB193_191.out
             obtain ⟨hcz53_0, hcz53_1, hcz53_2, hcz53_3, hcz53_4, hcz53_5, hcz53_6, hcz53_7, hfz53_0, hfz53_1, hfz53_2, hfz53_3, hfz53_4, hfz53_5, hfz53_6, hfz53_7⟩ := bC8 BK191
             go_wp2_with (first | ((with_reducible refine gate_callee (f := 31) rfl ?_); refine gl (some 50) Try.func31 #[.string a0_5] ?_; (with_reducible refine (impl_WordOk.calls kj29 a0_5 true _ A40.out).mono ?_); rintro e w' ⟨rfl, ⟨nd, rfl⟩⟩; refine ⟨_, rfl, ?_⟩; (try (rw [drewN_self wc]; generalize hq_ : World.drewN wc _ = wc; have n0_ : Aside0 (wc.heap[gb191]? = some (.cells #[.int .i64 a0_0, .int .i64 a0_1, .int .i64 a0_2, .int .i64 a0_3, .int .i64 a0_4, .string a0_5, .string a0_6, .string a0_7] 23 (0, 0))) := ⟨by rw [← hq_]; exact (bG BK191)⟩; have n1_ : Aside0 (wc.heap[gb193]? = some (.cells #[.int .i64 0, .int .i64 0, .int .i64 x194002_17, .int .i64 a0_3, .int .i64 x194004_29, .string a0_5, .string a0_6, .string a0_7] 23 (0, 0))) := ⟨by rw [← hq_]; exact (bG BK193)⟩; have n2_ : Aside0 (Below w.heap.size w wc) := ⟨by rw [← hq_]; exact (lT HB (gC GE191 (gC GE193 gN)))⟩; clear BK191 BK193 HB hq_; have BK191 := n0_; have BK193 := n1_; have HB := n2_; clear n0_ n1_ n2_)); (try (have hy191_0 : wc.cell? ⟨gb191, 0, none⟩ = some (.int .i64 a0_0) := bc BK191 0; have hv191_0 := blk_frozen BK191.out 0; have hy191_1 : wc.cell? ⟨gb191, 1, none⟩ = some (.int .i64 a0_1) := bc BK191 1; have hv191_1 := blk_frozen BK191.out 1; have hy191_2 : wc.cell? ⟨gb191, 2, none⟩ = some (.int .i64 a0_2) := bc BK191 2; have hv191_2 := blk_frozen BK191.out 2; have hy191_3 : wc.cell? ⟨gb191, 3, none⟩ = some (.int .i64 a0_3) := bc BK191 3; have hv191_3 := blk_frozen BK191.out 3; have hy191_4 : wc.cell? ⟨gb191, 4, none⟩ = some (.int .i64 a0_4) := bc BK191 4; have hv191_4 := blk_frozen BK191.out 4; have hy191_5 : wc.cell? ⟨gb191, 5, none⟩ = some (.string a0_5) := bc BK191 5; have hv191_5 := blk_frozen BK191.out 5; have hy191_6 : wc.cell? ⟨gb191, 6, none⟩ = some (.string a0_6) := bc BK191 6; have hv191_6 := blk_frozen BK191.out 6; have hy191_7 : wc.cell? ⟨gb191, 7, none⟩ = some (.string a0_7) := bc BK191 7; have hv191_7 := blk_frozen BK191.out 7)); (try (have hy193_0 : wc.cell? ⟨gb193, 0, none⟩ = some (.int .i64 0) := bc BK193 0; have hv193_0 := blk_frozen BK193.out 0; have hy193_1 : wc.cell? ⟨gb193, 1, none⟩ = some (.int .i64 0) := bc BK193 1; have hv193_1 := blk_frozen BK193.out 1; have hy193_2 : wc.cell? ⟨gb193, 2, none⟩ = some (.int .i64 x194002_17) := bc BK193 2; have hv193_2 := blk_frozen BK193.out 2; have hy193_3 : wc.cell? ⟨gb193, 3, none⟩ = some (.int .i64 a0_3) := bc BK193 3; have hv193_3 := blk_frozen BK193.out 3; have hy193_4 : wc.cell? ⟨gb193, 4, none⟩ = some (.int .i64 x194004_29) := bc BK193 4; have hv193_4 := blk_frozen BK193.out 4; have hy193_5 : wc.cell? ⟨gb193, 5, none⟩ = some (.string a0_5) := bc BK193 5; have hv193_5 := blk_frozen BK193.out 5; have hy193_6 : wc.cell? ⟨gb193, 6, none⟩ = some (.string a0_6) := bc BK193 6; have hv193_6 := blk_frozen BK193.out 6; have hy193_7 : wc.cell? ⟨gb193, 7, none⟩ = some (.string a0_7) := bc BK193 7; have hv193_7 := blk_frozen BK193.out 7))) | (go_at_call 31; (with_reducible refine (impl_WordOk.calls kj29 a0_6 false _ A42.out).mono ?_); rintro e w' ⟨rfl, ⟨nd, rfl⟩⟩; (try (rw [drewN_self wc]; generalize hq_ : World.drewN wc _ = wc; have n0_ : Aside0 (wc.heap[gb191]? = some (.cells #[.int .i64 a0_0, .int .i64 a0_1, .int .i64 a0_2, .int .i64 a0_3, .int .i64 a0_4, .string a0_5, .string a0_6, .string a0_7] 23 (0, 0))) := ⟨by rw [← hq_]; exact (bG BK191)⟩; have n1_ : Aside0 (wc.heap[gb193]? = some (.cells #[.int .i64 0, .int .i64 0, .int .i64 x194002_17, .int .i64 a0_3, .int .i64 x194004_29, .string a0_5, .string a0_6, .string a0_7] 23 (0, 0))) := ⟨by rw [← hq_]; exact (bG BK193)⟩; have n2_ : Aside0 (Below w.heap.size w wc) := ⟨by rw [← hq_]; exact (lT HB (gC GE191 (gC GE193 gN)))⟩; clear BK191 BK193 HB hq_; have BK191 := n0_; have BK193 := n1_; have HB := n2_; clear n0_ n1_ n2_)); (try (have hy191_0 : wc.cell? ⟨gb191, 0, none⟩ = some (.int .i64 a0_0) := bc BK191 0; have hv191_0 := blk_frozen BK191.out 0; have hy191_1 : wc.cell? ⟨gb191, 1, none⟩ = some (.int .i64 a0_1) := bc BK191 1; have hv191_1 := blk_frozen BK191.out 1; have hy191_2 : wc.cell? ⟨gb191, 2, none⟩ = some (.int .i64 a0_2) := bc BK191 2; have hv191_2 := blk_frozen BK191.out 2; have hy191_3 : wc.cell? ⟨gb191, 3, none⟩ = some (.int .i64 a0_3) := bc BK191 3; have hv191_3 := blk_frozen BK191.out 3; have hy191_4 : wc.cell? ⟨gb191, 4, none⟩ = some (.int .i64 a0_4) := bc BK191 4; have hv191_4 := blk_frozen BK191.out 4; have hy191_5 : wc.cell? ⟨gb191, 5, none⟩ = some (.string a0_5) := bc BK191 5; have hv191_5 := blk_frozen BK191.out 5; have hy191_6 : wc.cell? ⟨gb191, 6, none⟩ = some (.string a0_6) := bc BK191 6; have hv191_6 := blk_frozen BK191.out 6; have hy191_7 : wc.cell? ⟨gb191, 7, none⟩ = some (.string a0_7) := bc BK191 7; have hv191_7 := blk_frozen BK191.out 7)); (try (have hy193_0 : wc.cell? ⟨gb193, 0, none⟩ = some (.int .i64 0) := bc BK193 0; have hv193_0 := blk_frozen BK193.out 0; have hy193_1 : wc.cell? ⟨gb193, 1, none⟩ = some (.int .i64 0) := bc BK193 1; have hv193_1 := blk_frozen BK193.out 1; have hy193_2 : wc.cell? ⟨gb193, 2, none⟩ = some (.int .i64 x194002_17) := bc BK193 2; have hv193_2 := blk_frozen BK193.out 2; have hy193_3 : wc.cell? ⟨gb193, 3, none⟩ = some (.int .i64 a0_3) := bc BK193 3; have hv193_3 := blk_frozen BK193.out 3; have hy193_4 : wc.cell? ⟨gb193, 4, none⟩ = some (.int .i64 x194004_29) := bc BK193 4; have hv193_4 := blk_frozen BK193.out 4; have hy193_5 : wc.cell? ⟨gb193, 5, none⟩ = some (.string a0_5) := bc BK193 5; have hv193_5 := blk_frozen BK193.out 5; have hy193_6 : wc.cell? ⟨gb193, 6, none⟩ = some (.string a0_6) := bc BK193 6; have hv193_6 := blk_frozen BK193.out 6; have hy193_7 : wc.cell? ⟨gb193, 7, none⟩ = some (.string a0_7) := bc BK193 7; have hv193_7 := blk_frozen BK193.out 7)); obtain ⟨hcz54_0, hcz54_1, hcz54_2, hcz54_3, hcz54_4, hcz54_5, hcz54_6, hcz54_7, hfz54_0, hfz54_1, hfz54_2, hfz54_3, hfz54_4, hfz54_5, hfz54_6, hfz54_7⟩ := bC8 BK193))
             go_ret
             exact ⟨ew, by exact lT HB (gC GE191 (gC GE193 gN))⟩
           ·replace c41 := Bool.eq_false_iff.mpr c41
            subst c41
            have H1 : (some false) = some r := by rw [if_neg (show ¬ (false = true) by decide)] at H; exact H
            clear H
            have H := H1
            clear H1
            obtain rfl := Option.some.inj H
            have hnb55 := NB191_193.out
            have hnc55 := NB193_191.out
            obtain ⟨hcz56_0, hcz56_1, hcz56_2, hcz56_3, hcz56_4, hcz56_5, hcz56_6, hcz56_7, hfz56_0, hfz56_1, hfz56_2, hfz56_3, hfz56_4, hfz56_5, hfz56_6, hfz56_7⟩ := bC8 BK191
            go_wp2_with (first | ((with_reducible refine gate_callee (f := 31) rfl ?_); refine gl (some 50) Try.func31 #[.string a0_5] ?_; (with_reducible refine (impl_WordOk.calls kj29 a0_5 false _ A40.out).mono ?_); rintro e w' ⟨rfl, ⟨nd, rfl⟩⟩; refine ⟨_, rfl, ?_⟩; (try (rw [drewN_self wc]; generalize hq_ : World.drewN wc _ = wc; have n0_ : Aside0 (wc.heap[gb191]? = some (.cells #[.int .i64 a0_0, .int .i64 a0_1, .int .i64 a0_2, .int .i64 a0_3, .int .i64 a0_4, .string a0_5, .string a0_6, .string a0_7] 23 (0, 0))) := ⟨by rw [← hq_]; exact (bG BK191)⟩; have n1_ : Aside0 (wc.heap[gb193]? = some (.cells #[.int .i64 0, .int .i64 0, .int .i64 x194002_17, .int .i64 a0_3, .int .i64 x194004_29, .string a0_5, .string a0_6, .string a0_7] 23 (0, 0))) := ⟨by rw [← hq_]; exact (bG BK193)⟩; have n2_ : Aside0 (Below w.heap.size w wc) := ⟨by rw [← hq_]; exact (lT HB (gC GE191 (gC GE193 gN)))⟩; clear BK191 BK193 HB hq_; have BK191 := n0_; have BK193 := n1_; have HB := n2_; clear n0_ n1_ n2_)); (try (have hy191_0 : wc.cell? ⟨gb191, 0, none⟩ = some (.int .i64 a0_0) := bc BK191 0; have hv191_0 := blk_frozen BK191.out 0; have hy191_1 : wc.cell? ⟨gb191, 1, none⟩ = some (.int .i64 a0_1) := bc BK191 1; have hv191_1 := blk_frozen BK191.out 1; have hy191_2 : wc.cell? ⟨gb191, 2, none⟩ = some (.int .i64 a0_2) := bc BK191 2; have hv191_2 := blk_frozen BK191.out 2; have hy191_3 : wc.cell? ⟨gb191, 3, none⟩ = some (.int .i64 a0_3) := bc BK191 3; have hv191_3 := blk_frozen BK191.out 3; have hy191_4 : wc.cell? ⟨gb191, 4, none⟩ = some (.int .i64 a0_4) := bc BK191 4; have hv191_4 := blk_frozen BK191.out 4; have hy191_5 : wc.cell? ⟨gb191, 5, none⟩ = some (.string a0_5) := bc BK191 5; have hv191_5 := blk_frozen BK191.out 5; have hy191_6 : wc.cell? ⟨gb191, 6, none⟩ = some (.string a0_6) := bc BK191 6; have hv191_6 := blk_frozen BK191.out 6; have hy191_7 : wc.cell? ⟨gb191, 7, none⟩ = some (.string a0_7) := bc BK191 7; have hv191_7 := blk_frozen BK191.out 7)); (try (have hy193_0 : wc.cell? ⟨gb193, 0, none⟩ = some (.int .i64 0) := bc BK193 0; have hv193_0 := blk_frozen BK193.out 0; have hy193_1 : wc.cell? ⟨gb193, 1, none⟩ = some (.int .i64 0) := bc BK193 1; have hv193_1 := blk_frozen BK193.out 1; have hy193_2 : wc.cell? ⟨gb193, 2, none⟩ = some (.int .i64 x194002_17) := bc BK193 2; have hv193_2 := blk_frozen BK193.out 2; have hy193_3 : wc.cell? ⟨gb193, 3, none⟩ = some (.int .i64 a0_3) := bc BK193 3; have hv193_3 := blk_frozen BK193.out 3; have hy193_4 : wc.cell? ⟨gb193, 4, none⟩ = some (.int .i64 x194004_29) := bc BK193 4; have hv193_4 := blk_frozen BK193.out 4; have hy193_5 : wc.cell? ⟨gb193, 5, none⟩ = some (.string a0_5) := bc BK193 5; have hv193_5 := blk_frozen BK193.out 5; have hy193_6 : wc.cell? ⟨gb193, 6, none⟩ = some (.string a0_6) := bc BK193 6; have hv193_6 := blk_frozen BK193.out 6; have hy193_7 : wc.cell? ⟨gb193, 7, none⟩ = some (.string a0_7) := bc BK193 7; have hv193_7 := blk_frozen BK193.out 7)); obtain ⟨hcz57_0, hcz57_1, hcz57_2, hcz57_3, hcz57_4, hcz57_5, hcz57_6, hcz57_7, hfz57_0, hfz57_1, hfz57_2, hfz57_3, hfz57_4, hfz57_5, hfz57_6, hfz57_7⟩ := bC8 BK193))
            go_ret
            exact ⟨ew, by exact lT HB (gC GE191 (gC GE193 gN))⟩
          ·rw [if_neg c39] at H
           have c39b0 : (a0_0 == 1) = false := beq_eq_false_iff_ne.mpr c39
           have c39b1 : (a0_0 != 1) = true := bne_iff_ne.mpr c39
           by_cases c58 : a0_0 = 3
           ·rw [if_pos c58] at H
            have c58b0 : (a0_0 == 3) = true := beq_iff_eq.mpr c58
            have c58b1 : (a0_0 != 3) = false := bne_eq_false_iff_eq.mpr c58
            clear c58
            by_cases c59 : x4_29 = true
            ·subst c59
             have H1 : (if (a0_7.size : Int) ≤ 100 then (some (0 == 0 && (0 == 0 && (x194002_17 == 0 && (a0_3 == 0 && (x194004_29 == 0 && (a0_5.toList == ([] : List UInt8) && (a0_6.toList == ([] : List UInt8))))))))) else (some false)) = some r := by rw [if_pos rfl] at H; exact H
             clear H
             have H := H1
             clear H1
             by_cases c60 : (a0_7.size : Int) ≤ 100
             ·rw [if_pos c60] at H
              have c60b0 : decide ((a0_7.size : Int) ≤ 100) = true := decide_eq_true c60
              have c60b1 : decide (a0_7.size ≤ 100) = true := decide_eq_true (by omega)
              clear c60
              obtain rfl := Option.some.inj H
              have hnb61 := NB191_193.out
              have hnc61 := NB193_191.out
              obtain ⟨hcz62_0, hcz62_1, hcz62_2, hcz62_3, hcz62_4, hcz62_5, hcz62_6, hcz62_7, hfz62_0, hfz62_1, hfz62_2, hfz62_3, hfz62_4, hfz62_5, hfz62_6, hfz62_7⟩ := bC8 BK191
              obtain ⟨hcz63_0, hcz63_1, hcz63_2, hcz63_3, hcz63_4, hcz63_5, hcz63_6, hcz63_7, hfz63_0, hfz63_1, hfz63_2, hfz63_3, hfz63_4, hfz63_5, hfz63_6, hfz63_7⟩ := bC8 BK193
              go_wp2
              go_ret
              exact ⟨ew, by exact lT HB (gC GE191 (gC GE193 gN))⟩
             ·rw [if_neg c60] at H
              have c60b0 : decide ((a0_7.size : Int) ≤ 100) = false := decide_eq_false c60
              have c60b1 : decide (a0_7.size ≤ 100) = false := decide_eq_false (by omega)
              clear c60
              obtain rfl := Option.some.inj H
              have hnb64 := NB191_193.out
              have hnc64 := NB193_191.out
              obtain ⟨hcz65_0, hcz65_1, hcz65_2, hcz65_3, hcz65_4, hcz65_5, hcz65_6, hcz65_7, hfz65_0, hfz65_1, hfz65_2, hfz65_3, hfz65_4, hfz65_5, hfz65_6, hfz65_7⟩ := bC8 BK191
              obtain ⟨hcz66_0, hcz66_1, hcz66_2, hcz66_3, hcz66_4, hcz66_5, hcz66_6, hcz66_7, hfz66_0, hfz66_1, hfz66_2, hfz66_3, hfz66_4, hfz66_5, hfz66_6, hfz66_7⟩ := bC8 BK193
              go_wp2
              go_ret
              exact ⟨ew, by exact lT HB (gC GE191 (gC GE193 gN))⟩
            ·replace c59 := Bool.eq_false_iff.mpr c59
             subst c59
             have H1 : (some false) = some r := by rw [if_neg (show ¬ (false = true) by decide)] at H; exact H
             clear H
             have H := H1
             clear H1
             obtain rfl := Option.some.inj H
             have hnb67 := NB191_193.out
             have hnc67 := NB193_191.out
             obtain ⟨hcz68_0, hcz68_1, hcz68_2, hcz68_3, hcz68_4, hcz68_5, hcz68_6, hcz68_7, hfz68_0, hfz68_1, hfz68_2, hfz68_3, hfz68_4, hfz68_5, hfz68_6, hfz68_7⟩ := bC8 BK191
             obtain ⟨hcz69_0, hcz69_1, hcz69_2, hcz69_3, hcz69_4, hcz69_5, hcz69_6, hcz69_7, hfz69_0, hfz69_1, hfz69_2, hfz69_3, hfz69_4, hfz69_5, hfz69_6, hfz69_7⟩ := bC8 BK193
             go_wp2
             go_ret
             exact ⟨ew, by exact lT HB (gC GE191 (gC GE193 gN))⟩
           ·rw [if_neg c58] at H
            have c58b0 : (a0_0 == 3) = false := beq_eq_false_iff_ne.mpr c58
            have c58b1 : (a0_0 != 3) = true := bne_iff_ne.mpr c58
            by_cases c70 : a0_0 = 2
            ·rw [if_pos c70] at H
             have c70b0 : (a0_0 == 2) = true := beq_iff_eq.mpr c70
             have c70b1 : (a0_0 != 2) = false := bne_eq_false_iff_eq.mpr c70
             clear c70
             by_cases c71 : x4_29 = true
             ·subst c71
              have H1 : (some (0 == 0 && (0 == 0 && (x194002_17 == 0 && (a0_3 == 0 && (x194004_29 == 0 && (a0_5.toList == ([] : List UInt8) && (a0_6.toList == ([] : List UInt8) && (a0_7.toList == ([] : List UInt8)))))))))) = some r := by rw [if_pos rfl] at H; exact H
              clear H
              have H := H1
              clear H1
              obtain rfl := Option.some.inj H
              have hnb72 := NB191_193.out
              have hnc72 := NB193_191.out
              obtain ⟨hcz73_0, hcz73_1, hcz73_2, hcz73_3, hcz73_4, hcz73_5, hcz73_6, hcz73_7, hfz73_0, hfz73_1, hfz73_2, hfz73_3, hfz73_4, hfz73_5, hfz73_6, hfz73_7⟩ := bC8 BK191
              obtain ⟨hcz74_0, hcz74_1, hcz74_2, hcz74_3, hcz74_4, hcz74_5, hcz74_6, hcz74_7, hfz74_0, hfz74_1, hfz74_2, hfz74_3, hfz74_4, hfz74_5, hfz74_6, hfz74_7⟩ := bC8 BK193
              go_wp2
              go_ret
              exact ⟨ew, by exact lT HB (gC GE191 (gC GE193 gN))⟩
             ·replace c71 := Bool.eq_false_iff.mpr c71
              subst c71
              have H1 : (some false) = some r := by rw [if_neg (show ¬ (false = true) by decide)] at H; exact H
              clear H
              have H := H1
              clear H1
              obtain rfl := Option.some.inj H
              have hnb75 := NB191_193.out
              have hnc75 := NB193_191.out
              obtain ⟨hcz76_0, hcz76_1, hcz76_2, hcz76_3, hcz76_4, hcz76_5, hcz76_6, hcz76_7, hfz76_0, hfz76_1, hfz76_2, hfz76_3, hfz76_4, hfz76_5, hfz76_6, hfz76_7⟩ := bC8 BK191
              go_wp2
              go_ret
              exact ⟨ew, by exact lT HB (gC GE191 (gC GE193 gN))⟩
            ·rw [if_neg c70] at H
             have c70b0 : (a0_0 == 2) = false := beq_eq_false_iff_ne.mpr c70
             have c70b1 : (a0_0 != 2) = true := bne_iff_ne.mpr c70
             by_cases c77 : a0_0 = 4
             ·rw [if_pos c77] at H
              have c77b0 : (a0_0 == 4) = true := beq_iff_eq.mpr c77
              have c77b1 : (a0_0 != 4) = false := bne_eq_false_iff_eq.mpr c77
              clear c77
              by_cases c78 : x4_29 = true
              ·subst c78
               have H1 : (some (0 == 0 && (0 == 0 && (x194002_17 == 0 && (a0_3 == 0 && (x194004_29 == 0 && (a0_5.toList == ([] : List UInt8) && (a0_6.toList == ([] : List UInt8) && (a0_7.toList == ([] : List UInt8)))))))))) = some r := by rw [if_pos rfl] at H; exact H
               clear H
               have H := H1
               clear H1
               obtain rfl := Option.some.inj H
               have hnb79 := NB191_193.out
               have hnc79 := NB193_191.out
               obtain ⟨hcz80_0, hcz80_1, hcz80_2, hcz80_3, hcz80_4, hcz80_5, hcz80_6, hcz80_7, hfz80_0, hfz80_1, hfz80_2, hfz80_3, hfz80_4, hfz80_5, hfz80_6, hfz80_7⟩ := bC8 BK191
               obtain ⟨hcz81_0, hcz81_1, hcz81_2, hcz81_3, hcz81_4, hcz81_5, hcz81_6, hcz81_7, hfz81_0, hfz81_1, hfz81_2, hfz81_3, hfz81_4, hfz81_5, hfz81_6, hfz81_7⟩ := bC8 BK193
               go_wp2
               go_ret
               exact ⟨ew, by exact lT HB (gC GE191 (gC GE193 gN))⟩
              ·replace c78 := Bool.eq_false_iff.mpr c78
               subst c78
               have H1 : (some false) = some r := by rw [if_neg (show ¬ (false = true) by decide)] at H; exact H
               clear H
               have H := H1
               clear H1
               obtain rfl := Option.some.inj H
               have hnb82 := NB191_193.out
               have hnc82 := NB193_191.out
               obtain ⟨hcz83_0, hcz83_1, hcz83_2, hcz83_3, hcz83_4, hcz83_5, hcz83_6, hcz83_7, hfz83_0, hfz83_1, hfz83_2, hfz83_3, hfz83_4, hfz83_5, hfz83_6, hfz83_7⟩ := bC8 BK191
               go_wp2
               go_ret
               exact ⟨ew, by exact lT HB (gC GE191 (gC GE193 gN))⟩
             ·rw [if_neg c77] at H
              have c77b0 : (a0_0 == 4) = false := beq_eq_false_iff_ne.mpr c77
              have c77b1 : (a0_0 != 4) = true := bne_iff_ne.mpr c77
              by_cases c84 : a0_0 = 5
              ·rw [if_pos c84] at H
               have c84b0 : (a0_0 == 5) = true := beq_iff_eq.mpr c84
               have c84b1 : (a0_0 != 5) = false := bne_eq_false_iff_eq.mpr c84
               clear c84
               by_cases c85 : x4_29 = true
               ·subst c85
                have H1 : (some (0 == 0 && (0 == 0 && (x194002_17 == 0 && (a0_3 == 0 && (x194004_29 == 0 && (a0_5.toList == ([] : List UInt8) && (a0_6.toList == ([] : List UInt8) && (a0_7.toList == ([] : List UInt8)))))))))) = some r := by rw [if_pos rfl] at H; exact H
                clear H
                have H := H1
                clear H1
                obtain rfl := Option.some.inj H
                have hnb86 := NB191_193.out
                have hnc86 := NB193_191.out
                obtain ⟨hcz87_0, hcz87_1, hcz87_2, hcz87_3, hcz87_4, hcz87_5, hcz87_6, hcz87_7, hfz87_0, hfz87_1, hfz87_2, hfz87_3, hfz87_4, hfz87_5, hfz87_6, hfz87_7⟩ := bC8 BK191
                obtain ⟨hcz88_0, hcz88_1, hcz88_2, hcz88_3, hcz88_4, hcz88_5, hcz88_6, hcz88_7, hfz88_0, hfz88_1, hfz88_2, hfz88_3, hfz88_4, hfz88_5, hfz88_6, hfz88_7⟩ := bC8 BK193
                go_wp2
                go_ret
                exact ⟨ew, by exact lT HB (gC GE191 (gC GE193 gN))⟩
               ·replace c85 := Bool.eq_false_iff.mpr c85
                subst c85
                have H1 : (some false) = some r := by rw [if_neg (show ¬ (false = true) by decide)] at H; exact H
                clear H
                have H := H1
                clear H1
                obtain rfl := Option.some.inj H
                have hnb89 := NB191_193.out
                have hnc89 := NB193_191.out
                obtain ⟨hcz90_0, hcz90_1, hcz90_2, hcz90_3, hcz90_4, hcz90_5, hcz90_6, hcz90_7, hfz90_0, hfz90_1, hfz90_2, hfz90_3, hfz90_4, hfz90_5, hfz90_6, hfz90_7⟩ := bC8 BK191
                go_wp2
                go_ret
                exact ⟨ew, by exact lT HB (gC GE191 (gC GE193 gN))⟩
              ·rw [if_neg c84] at H
               have c84b0 : (a0_0 == 5) = false := beq_eq_false_iff_ne.mpr c84
               have c84b1 : (a0_0 != 5) = true := bne_iff_ne.mpr c84
               obtain rfl := Option.some.inj H
               have hnb91 := NB191_193.out
               have hnc91 := NB193_191.out
               obtain ⟨hcz92_0, hcz92_1, hcz92_2, hcz92_3, hcz92_4, hcz92_5, hcz92_6, hcz92_7, hfz92_0, hfz92_1, hfz92_2, hfz92_3, hfz92_4, hfz92_5, hfz92_6, hfz92_7⟩ := bC8 BK191
               go_wp2
               go_ret
               exact ⟨ew, by exact lT HB (gC GE191 (gC GE193 gN))⟩
 ·replace c3 := Bool.eq_false_iff.mpr c3
  subst c3
  have H1 : (some false) = some r := by rw [if_neg (show ¬ (false = true) by decide)] at H; exact H
  clear H
  have H := H1
  clear H1
  obtain rfl := Option.some.inj H
  go_enter Try.func28, Try.ntmps28
  go_wp2_with (first | ((with_reducible refine gate_dst (N := 1) rfl ?_); (try (refine gate_guard (by rfl) ?_; dsimp only)); refine bx 1 #[.int .i64 a0_0, .int .i64 a0_1, .int .i64 a0_2, .int .i64 a0_3, .int .i64 a0_4, .string a0_5, .string a0_6, .string a0_7] 23 ?_; intro gb191 hg w93 hbox hb; replace BK191 := ak (hbox); replace GW191 := ak (bz hg (lG HB)); replace GE191 := ak (bz hg (lG HB)); replace HB := lB HB hb; clear hb hbox hg; obtain ⟨hcz94_0, hcz94_1, hcz94_2, hcz94_3, hcz94_4, hcz94_5, hcz94_6, hcz94_7, hfz94_0, hfz94_1, hfz94_2, hfz94_3, hfz94_4, hfz94_5, hfz94_6, hfz94_7⟩ := bC8 BK191) | ((with_reducible refine gate_callee (f := 63) rfl ?_); refine gl (some 7) Try.func63 #[.int .i64 a0_1, .int .i64 1, .int .i64 9999] ?_; (with_reducible refine (impl_in.calls a0_1 1 9999 false _ A2.out).mono ?_); rintro e w' ⟨rfl, ⟨nd, rfl⟩⟩; refine ⟨_, rfl, ?_⟩))
  go_ret
  exact ⟨ew, by exact lT HB (gC GE191 gN)⟩

end Go.Proofs.Ytagkjeldheiejaa.PFnRecords
