-- Written for this claim by a program of mine (a turned copy of the kit's print): functions as plain Lean, and their contracts. Lean checks it.
import Derived.Test.YtagkjeldheiejaaPFnExactReadRecx0
import Derived.Test.YtagkjeldheiejaaPFnExactReadRecx1
import Derived.Test.YtagkjeldheiejaaPFnExactReadRecx8
import Derived.Test.YtagkjeldheiejaaVFnExactReadRec1
namespace Go.Proofs.Ytagkjeldheiejaa.PFnExactReadRec
open Go.RowKit Go.Proofs.YtagkjeldheiejaaW.PrintWords Go.Proofs.YtagkjeldheiejaaW.PrintLast Go.Proofs.YtagkjeldheiejaaW.PrintMore
attribute [local go_sem] max2_int min2_int max_two min_two max_three min_three max_four min_four   -- for this text's walks alone
set_option linter.unusedVariables false
set_option linter.unusedSimpArgs false

attribute [local go_sem high] eqA23
/-! ### impl_RecOk: function 28 -/
mutual
def impl_RecOk.j0 : Nat → Bool → Bool → Int → Int → Int → Int → Int → ByteArray → ByteArray → ByteArray → Int → Int → Int → Int → Int → ByteArray → ByteArray → ByteArray → Option (Bool)
 | 0, _, _, _, _, _, _, _, _, _, _, _, _, _, _, _, _, _, _ => none
 | k + 1, x4, x24, x192000, x192001, x192002, x192003, x192004, x192005, x192006, x192007, x194000, x194001, x194002, x194003, x194004, x194005, x194006, x194007 => if x24 = true then ((impl_in.f x192002 1 9999).bind fun t194 => (impl_RecOk.j1 k t194 x192000 x192001 x192002 x192003 x192004 x192005 x192006 x192007 x194000 x194001 0 x194003 x194004 x194005 x194006 x194007)) else (impl_RecOk.j1 k x4 x192000 x192001 x192002 x192003 x192004 x192005 x192006 x192007 x194000 x194001 x194002 x194003 x194004 x194005 x194006 x194007)
def impl_RecOk.j1 : Nat → Bool → Int → Int → Int → Int → Int → ByteArray → ByteArray → ByteArray → Int → Int → Int → Int → Int → ByteArray → ByteArray → ByteArray → Option (Bool)
 | 0, _, _, _, _, _, _, _, _, _, _, _, _, _, _, _, _, _ => none
 | k + 1, x4, x192000, x192001, x192002, x192003, x192004, x192005, x192006, x192007, x194000, x194001, x194002, x194003, x194004, x194005, x194006, x194007 => if x192000 = 3 then (impl_RecOk.j2 k x4 true x192000 x192001 x192002 x192003 x192004 x192005 x192006 x192007 x194000 x194001 x194002 x194003 x194004 x194005 x194006 x194007) else (impl_RecOk.j2 k x4 (x192000 == 4) x192000 x192001 x192002 x192003 x192004 x192005 x192006 x192007 x194000 x194001 x194002 x194003 x194004 x194005 x194006 x194007)
def impl_RecOk.j2 : Nat → Bool → Bool → Int → Int → Int → Int → Int → ByteArray → ByteArray → ByteArray → Int → Int → Int → Int → Int → ByteArray → ByteArray → ByteArray → Option (Bool)
 | 0, _, _, _, _, _, _, _, _, _, _, _, _, _, _, _, _, _, _ => none
 | k + 1, x4, x36, x192000, x192001, x192002, x192003, x192004, x192005, x192006, x192007, x194000, x194001, x194002, x194003, x194004, x194005, x194006, x194007 => if x36 = true then (if x4 = true then ((impl_in.f x192004 0 7).bind fun t195 => (impl_RecOk.j3 k t195 x192000 x192001 x192002 x192003 x192004 x192005 x192006 x192007 x194000 x194001 x194002 x194003 0 x194005 x194006 x194007)) else (impl_RecOk.j3 k false x192000 x192001 x192002 x192003 x192004 x192005 x192006 x192007 x194000 x194001 x194002 x194003 0 x194005 x194006 x194007)) else (impl_RecOk.j3 k x4 x192000 x192001 x192002 x192003 x192004 x192005 x192006 x192007 x194000 x194001 x194002 x194003 x194004 x194005 x194006 x194007)
def impl_RecOk.j3 : Nat → Bool → Int → Int → Int → Int → Int → ByteArray → ByteArray → ByteArray → Int → Int → Int → Int → Int → ByteArray → ByteArray → ByteArray → Option (Bool)
 | 0, _, _, _, _, _, _, _, _, _, _, _, _, _, _, _, _, _ => none
 | k + 1, x4, x192000, x192001, x192002, x192003, x192004, x192005, x192006, x192007, x194000, x194001, x194002, x194003, x194004, x194005, x194006, x194007 => if x192000 = 1 then ((impl_WordOk.f k x192005).bind fun t196 => (if t196 = true then ((impl_WordOk.f k x192006).bind fun t197 => (if t197 = true then ((impl_in.f x192003 1 10000).bind fun t198 => (if t198 = true then (some (x194000 == 0 && (x194001 == 0 && (x194002 == 0 && (x194004 == 0 && (x194007.toList == ([] : List UInt8))))))) else (some false))) else (some false))) else (some false))) else (if x192000 = 3 then (if x4 = true then (if (x192007.size : Int) ≤ 100 then (some (x194000 == 0 && (x194001 == 0 && (x194002 == 0 && (x194003 == 0 && (x194004 == 0 && (x194005.toList == ([] : List UInt8) && (x194006.toList == ([] : List UInt8))))))))) else (some false)) else (some false)) else (if x192000 = 2 then (if x4 = true then (some (x194000 == 0 && (x194001 == 0 && (x194002 == 0 && (x194003 == 0 && (x194004 == 0 && (x194005.toList == ([] : List UInt8) && (x194006.toList == ([] : List UInt8) && (x194007.toList == ([] : List UInt8)))))))))) else (some false)) else (if x192000 = 4 then (if x4 = true then (some (x194000 == 0 && (x194001 == 0 && (x194002 == 0 && (x194003 == 0 && (x194004 == 0 && (x194005.toList == ([] : List UInt8) && (x194006.toList == ([] : List UInt8) && (x194007.toList == ([] : List UInt8)))))))))) else (some false)) else (if x192000 = 5 then (if x4 = true then (some (x194000 == 0 && (x194001 == 0 && (x194002 == 0 && (x194003 == 0 && (x194004 == 0 && (x194005.toList == ([] : List UInt8) && (x194006.toList == ([] : List UInt8) && (x194007.toList == ([] : List UInt8)))))))))) else (some false)) else (some false)))))
end
def impl_RecOk.f (k : Nat) (a0_0 : Int) (a0_1 : Int) (a0_2 : Int) (a0_3 : Int) (a0_4 : Int) (a0_5 : ByteArray) (a0_6 : ByteArray) (a0_7 : ByteArray) : Option (Bool) := (impl_in.f a0_1 1 9999).bind fun t192 => (if t192 = true then (if a0_0 = 3 then (impl_RecOk.j0 k true true a0_0 a0_1 a0_2 a0_3 a0_4 a0_5 a0_6 a0_7 0 0 a0_2 a0_3 a0_4 a0_5 a0_6 a0_7) else (if a0_0 = 4 then (impl_RecOk.j0 k true true a0_0 a0_1 a0_2 a0_3 a0_4 a0_5 a0_6 a0_7 0 0 a0_2 a0_3 a0_4 a0_5 a0_6 a0_7) else (impl_RecOk.j0 k true (a0_0 == 5) a0_0 a0_1 a0_2 a0_3 a0_4 a0_5 a0_6 a0_7 0 0 a0_2 a0_3 a0_4 a0_5 a0_6 a0_7))) else (some false))
theorem impl_RecOk.mono_l : ∀ k, (∀ y0 y1 y2 y3 y4 y5 y6 y7 y8 y9 y10 y11 y12 y13 y14 y15 y16 y17, LeO (impl_RecOk.j0 k y0 y1 y2 y3 y4 y5 y6 y7 y8 y9 y10 y11 y12 y13 y14 y15 y16 y17) (impl_RecOk.j0 (k + 1) y0 y1 y2 y3 y4 y5 y6 y7 y8 y9 y10 y11 y12 y13 y14 y15 y16 y17)) ∧ (∀ y0 y1 y2 y3 y4 y5 y6 y7 y8 y9 y10 y11 y12 y13 y14 y15 y16, LeO (impl_RecOk.j1 k y0 y1 y2 y3 y4 y5 y6 y7 y8 y9 y10 y11 y12 y13 y14 y15 y16) (impl_RecOk.j1 (k + 1) y0 y1 y2 y3 y4 y5 y6 y7 y8 y9 y10 y11 y12 y13 y14 y15 y16)) ∧ (∀ y0 y1 y2 y3 y4 y5 y6 y7 y8 y9 y10 y11 y12 y13 y14 y15 y16 y17, LeO (impl_RecOk.j2 k y0 y1 y2 y3 y4 y5 y6 y7 y8 y9 y10 y11 y12 y13 y14 y15 y16 y17) (impl_RecOk.j2 (k + 1) y0 y1 y2 y3 y4 y5 y6 y7 y8 y9 y10 y11 y12 y13 y14 y15 y16 y17)) ∧ (∀ y0 y1 y2 y3 y4 y5 y6 y7 y8 y9 y10 y11 y12 y13 y14 y15 y16, LeO (impl_RecOk.j3 k y0 y1 y2 y3 y4 y5 y6 y7 y8 y9 y10 y11 y12 y13 y14 y15 y16) (impl_RecOk.j3 (k + 1) y0 y1 y2 y3 y4 y5 y6 y7 y8 y9 y10 y11 y12 y13 y14 y15 y16))
 | 0 => ⟨fun _ _ _ _ _ _ _ _ _ _ _ _ _ _ _ _ _ _ r h => by simp [impl_RecOk.j0] at h, fun _ _ _ _ _ _ _ _ _ _ _ _ _ _ _ _ _ r h => by simp [impl_RecOk.j1] at h, fun _ _ _ _ _ _ _ _ _ _ _ _ _ _ _ _ _ _ r h => by simp [impl_RecOk.j2] at h, fun _ _ _ _ _ _ _ _ _ _ _ _ _ _ _ _ _ r h => by simp [impl_RecOk.j3] at h⟩
 | k + 1 => by
  obtain ⟨ih0, ih1, ih2, ih3⟩ := impl_RecOk.mono_l k
  refine ⟨?_, ?_, ?_, ?_⟩
  ·intro y0 y1 y2 y3 y4 y5 y6 y7 y8 y9 y10 y11 y12 y13 y14 y15 y16 y17
   unfold impl_RecOk.j0
   repeat' first
   | (with_reducible exact ih0 _ _ _ _ _ _ _ _ _ _ _ _ _ _ _ _ _ _)
   | (with_reducible exact ih1 _ _ _ _ _ _ _ _ _ _ _ _ _ _ _ _ _)
   | (with_reducible exact ih2 _ _ _ _ _ _ _ _ _ _ _ _ _ _ _ _ _ _)
   | (with_reducible exact ih3 _ _ _ _ _ _ _ _ _ _ _ _ _ _ _ _ _)
   | (with_reducible exact impl_WordOk.mono _ _)
   | (with_reducible exact LeO.refl _)
   | (with_reducible exact LeO.none _)
   | (with_reducible refine LeO.ite ?_ ?_)
   | (with_reducible refine LeO.bind ?_ (fun _ => ?_))
   | exact ih0 _ _ _ _ _ _ _ _ _ _ _ _ _ _ _ _ _ _
   | exact ih1 _ _ _ _ _ _ _ _ _ _ _ _ _ _ _ _ _
   | exact ih2 _ _ _ _ _ _ _ _ _ _ _ _ _ _ _ _ _ _
   | exact ih3 _ _ _ _ _ _ _ _ _ _ _ _ _ _ _ _ _
   | exact impl_WordOk.mono _ _
   | exact LeO.none _
   | refine LeO.ite ?_ ?_
   | refine LeO.bind ?_ (fun _ => ?_)
  ·intro y0 y1 y2 y3 y4 y5 y6 y7 y8 y9 y10 y11 y12 y13 y14 y15 y16
   unfold impl_RecOk.j1
   repeat' first
   | (with_reducible exact ih0 _ _ _ _ _ _ _ _ _ _ _ _ _ _ _ _ _ _)
   | (with_reducible exact ih1 _ _ _ _ _ _ _ _ _ _ _ _ _ _ _ _ _)
   | (with_reducible exact ih2 _ _ _ _ _ _ _ _ _ _ _ _ _ _ _ _ _ _)
   | (with_reducible exact ih3 _ _ _ _ _ _ _ _ _ _ _ _ _ _ _ _ _)
   | (with_reducible exact impl_WordOk.mono _ _)
   | (with_reducible exact LeO.refl _)
   | (with_reducible exact LeO.none _)
   | (with_reducible refine LeO.ite ?_ ?_)
   | (with_reducible refine LeO.bind ?_ (fun _ => ?_))
   | exact ih0 _ _ _ _ _ _ _ _ _ _ _ _ _ _ _ _ _ _
   | exact ih1 _ _ _ _ _ _ _ _ _ _ _ _ _ _ _ _ _
   | exact ih2 _ _ _ _ _ _ _ _ _ _ _ _ _ _ _ _ _ _
   | exact ih3 _ _ _ _ _ _ _ _ _ _ _ _ _ _ _ _ _
   | exact impl_WordOk.mono _ _
   | exact LeO.none _
   | refine LeO.ite ?_ ?_
   | refine LeO.bind ?_ (fun _ => ?_)
  ·intro y0 y1 y2 y3 y4 y5 y6 y7 y8 y9 y10 y11 y12 y13 y14 y15 y16 y17
   unfold impl_RecOk.j2
   repeat' first
   | (with_reducible exact ih0 _ _ _ _ _ _ _ _ _ _ _ _ _ _ _ _ _ _)
   | (with_reducible exact ih1 _ _ _ _ _ _ _ _ _ _ _ _ _ _ _ _ _)
   | (with_reducible exact ih2 _ _ _ _ _ _ _ _ _ _ _ _ _ _ _ _ _ _)
   | (with_reducible exact ih3 _ _ _ _ _ _ _ _ _ _ _ _ _ _ _ _ _)
   | (with_reducible exact impl_WordOk.mono _ _)
   | (with_reducible exact LeO.refl _)
   | (with_reducible exact LeO.none _)
   | (with_reducible refine LeO.ite ?_ ?_)
   | (with_reducible refine LeO.bind ?_ (fun _ => ?_))
   | exact ih0 _ _ _ _ _ _ _ _ _ _ _ _ _ _ _ _ _ _
   | exact ih1 _ _ _ _ _ _ _ _ _ _ _ _ _ _ _ _ _
   | exact ih2 _ _ _ _ _ _ _ _ _ _ _ _ _ _ _ _ _ _
   | exact ih3 _ _ _ _ _ _ _ _ _ _ _ _ _ _ _ _ _
   | exact impl_WordOk.mono _ _
   | exact LeO.none _
   | refine LeO.ite ?_ ?_
   | refine LeO.bind ?_ (fun _ => ?_)
  ·intro y0 y1 y2 y3 y4 y5 y6 y7 y8 y9 y10 y11 y12 y13 y14 y15 y16
   unfold impl_RecOk.j3
   repeat' first
   | (with_reducible exact ih0 _ _ _ _ _ _ _ _ _ _ _ _ _ _ _ _ _ _)
   | (with_reducible exact ih1 _ _ _ _ _ _ _ _ _ _ _ _ _ _ _ _ _)
   | (with_reducible exact ih2 _ _ _ _ _ _ _ _ _ _ _ _ _ _ _ _ _ _)
   | (with_reducible exact ih3 _ _ _ _ _ _ _ _ _ _ _ _ _ _ _ _ _)
   | (with_reducible exact impl_WordOk.mono _ _)
   | (with_reducible exact LeO.refl _)
   | (with_reducible exact LeO.none _)
   | (with_reducible refine LeO.ite ?_ ?_)
   | (with_reducible refine LeO.bind ?_ (fun _ => ?_))
   | exact ih0 _ _ _ _ _ _ _ _ _ _ _ _ _ _ _ _ _ _
   | exact ih1 _ _ _ _ _ _ _ _ _ _ _ _ _ _ _ _ _
   | exact ih2 _ _ _ _ _ _ _ _ _ _ _ _ _ _ _ _ _ _
   | exact ih3 _ _ _ _ _ _ _ _ _ _ _ _ _ _ _ _ _
   | exact impl_WordOk.mono _ _
   | exact LeO.none _
   | refine LeO.ite ?_ ?_
   | refine LeO.bind ?_ (fun _ => ?_)
theorem impl_RecOk.mono : ∀ a0 a1 a2 a3 a4 a5 a6 a7 k, LeO (impl_RecOk.f k a0 a1 a2 a3 a4 a5 a6 a7) (impl_RecOk.f (k + 1) a0 a1 a2 a3 a4 a5 a6 a7) := by
 intro a0 a1 a2 a3 a4 a5 a6 a7 k
 obtain ⟨ih0, ih1, ih2, ih3⟩ := impl_RecOk.mono_l k
 unfold impl_RecOk.f
 repeat' first
   | (with_reducible exact ih0 _ _ _ _ _ _ _ _ _ _ _ _ _ _ _ _ _ _)
   | (with_reducible exact ih1 _ _ _ _ _ _ _ _ _ _ _ _ _ _ _ _ _)
   | (with_reducible exact ih2 _ _ _ _ _ _ _ _ _ _ _ _ _ _ _ _ _ _)
   | (with_reducible exact ih3 _ _ _ _ _ _ _ _ _ _ _ _ _ _ _ _ _)
   | (with_reducible exact impl_WordOk.mono _ _)
   | (with_reducible exact LeO.refl _)
   | (with_reducible exact LeO.none _)
   | (with_reducible refine LeO.ite ?_ ?_)
   | (with_reducible refine LeO.bind ?_ (fun _ => ?_))
   | exact ih0 _ _ _ _ _ _ _ _ _ _ _ _ _ _ _ _ _ _
   | exact ih1 _ _ _ _ _ _ _ _ _ _ _ _ _ _ _ _ _
   | exact ih2 _ _ _ _ _ _ _ _ _ _ _ _ _ _ _ _ _ _
   | exact ih3 _ _ _ _ _ _ _ _ _ _ _ _ _ _ _ _ _
   | exact impl_WordOk.mono _ _
   | exact LeO.none _
   | refine LeO.ite ?_ ?_
   | refine LeO.bind ?_ (fun _ => ?_)
set_option maxHeartbeats 8000000 in
set_option maxRecDepth 100000 in
theorem impl_RecOk.calls (k : Nat) (a0_0 : Int) (a0_1 : Int) (a0_2 : Int) (a0_3 : Int) (a0_4 : Int) (a0_5 : ByteArray) (a0_6 : ByteArray) (a0_7 : ByteArray) (r : Bool) (w : World) (h : impl_RecOk.f k a0_0 a0_1 a0_2 a0_3 a0_4 a0_5 a0_6 a0_7 = some r) :
  Calls Try.prog 28 #[.agg #[.int .i64 a0_0, .int .i64 a0_1, .int .i64 a0_2, .int .i64 a0_3, .int .i64 a0_4, .string a0_5, .string a0_6, .string a0_7]] w fun e w' => e = .returned (.bool r) ∧ Below w.heap.size w w' := by
 have hu23 := Try.underlying23
 have HB := ak (Below.refl w.heap.size w)
 have H : ((impl_in.f a0_1 1 9999).bind fun t192 => (if t192 = true then (if a0_0 = 3 then (impl_RecOk.j0 k true true a0_0 a0_1 a0_2 a0_3 a0_4 a0_5 a0_6 a0_7 0 0 a0_2 a0_3 a0_4 a0_5 a0_6 a0_7) else (if a0_0 = 4 then (impl_RecOk.j0 k true true a0_0 a0_1 a0_2 a0_3 a0_4 a0_5 a0_6 a0_7 0 0 a0_2 a0_3 a0_4 a0_5 a0_6 a0_7) else (impl_RecOk.j0 k true (a0_0 == 5) a0_0 a0_1 a0_2 a0_3 a0_4 a0_5 a0_6 a0_7 0 0 a0_2 a0_3 a0_4 a0_5 a0_6 a0_7))) else (some false))) = some r := h
 clear h
 replace H := Option.bind_eq_some_iff.mp H
 obtain ⟨t192, A20, H⟩ := H
 replace H : (if t192 = true then (if a0_0 = 3 then (impl_RecOk.j0 k true true a0_0 a0_1 a0_2 a0_3 a0_4 a0_5 a0_6 a0_7 0 0 a0_2 a0_3 a0_4 a0_5 a0_6 a0_7) else (if a0_0 = 4 then (impl_RecOk.j0 k true true a0_0 a0_1 a0_2 a0_3 a0_4 a0_5 a0_6 a0_7 0 0 a0_2 a0_3 a0_4 a0_5 a0_6 a0_7) else (impl_RecOk.j0 k true (a0_0 == 5) a0_0 a0_1 a0_2 a0_3 a0_4 a0_5 a0_6 a0_7 0 0 a0_2 a0_3 a0_4 a0_5 a0_6 a0_7))) else (some false)) = some r := H
 have A2 := Aside0.mk A20
 clear A20
 by_cases c3 : t192 = true
 ·subst c3
  have H1 : (if a0_0 = 3 then (impl_RecOk.j0 k true true a0_0 a0_1 a0_2 a0_3 a0_4 a0_5 a0_6 a0_7 0 0 a0_2 a0_3 a0_4 a0_5 a0_6 a0_7) else (if a0_0 = 4 then (impl_RecOk.j0 k true true a0_0 a0_1 a0_2 a0_3 a0_4 a0_5 a0_6 a0_7 0 0 a0_2 a0_3 a0_4 a0_5 a0_6 a0_7) else (impl_RecOk.j0 k true (a0_0 == 5) a0_0 a0_1 a0_2 a0_3 a0_4 a0_5 a0_6 a0_7 0 0 a0_2 a0_3 a0_4 a0_5 a0_6 a0_7))) = some r := by rw [if_pos rfl] at H; exact H
  clear H
  have H := H1
  clear H1
  have HC4 := Aside0.mk H
  clear H
  go_enter Try.func28, Try.ntmps28
  go_upto_region 6 with (first | ((with_reducible refine gate_dst (N := 1) rfl ?_); (try (refine gate_guard (by rfl) ?_; dsimp only)); refine bx 1 #[.int .i64 a0_0, .int .i64 a0_1, .int .i64 a0_2, .int .i64 a0_3, .int .i64 a0_4, .string a0_5, .string a0_6, .string a0_7] 23 ?_; intro gb191 hg w5 hbox hb; replace BK191 := ak (hbox); replace GW191 := ak ((by rw [hg]; exact (below_size (lG HB)) : w.heap.size ≤ gb191)); replace GE191 := ak ((by rw [hg]; exact (below_size (lG HB)) : w.heap.size ≤ gb191)); replace HB := lB HB hb; clear hb hbox hg; have hcz6_0 : w5.cell? ⟨gb191, 0, none⟩ = some (.int .i64 a0_0) := (blk_cell BK191.out 0).trans rfl; have hcz6_1 : w5.cell? ⟨gb191, 1, none⟩ = some (.int .i64 a0_1) := (blk_cell BK191.out 1).trans rfl; have hcz6_2 : w5.cell? ⟨gb191, 2, none⟩ = some (.int .i64 a0_2) := (blk_cell BK191.out 2).trans rfl; have hcz6_3 : w5.cell? ⟨gb191, 3, none⟩ = some (.int .i64 a0_3) := (blk_cell BK191.out 3).trans rfl; have hcz6_4 : w5.cell? ⟨gb191, 4, none⟩ = some (.int .i64 a0_4) := (blk_cell BK191.out 4).trans rfl; have hcz6_5 : w5.cell? ⟨gb191, 5, none⟩ = some (.string a0_5) := (blk_cell BK191.out 5).trans rfl; have hcz6_6 : w5.cell? ⟨gb191, 6, none⟩ = some (.string a0_6) := (blk_cell BK191.out 6).trans rfl; have hcz6_7 : w5.cell? ⟨gb191, 7, none⟩ = some (.string a0_7) := (blk_cell BK191.out 7).trans rfl; have hfz6_0 := blk_frozen BK191.out 0; have hfz6_1 := blk_frozen BK191.out 1; have hfz6_2 := blk_frozen BK191.out 2; have hfz6_3 := blk_frozen BK191.out 3; have hfz6_4 := blk_frozen BK191.out 4; have hfz6_5 := blk_frozen BK191.out 5; have hfz6_6 := blk_frozen BK191.out 6; have hfz6_7 := blk_frozen BK191.out 7) | ((with_reducible refine gate_callee (f := 63) rfl ?_); refine gl (some 7) Try.func63 #[.int .i64 a0_1, .int .i64 1, .int .i64 9999] ?_; (with_reducible refine (impl_in.calls a0_1 1 9999 true _ A2.out).mono ?_); rintro e w' ⟨rfl, ⟨nd, rfl⟩⟩; refine ⟨_, rfl, ?_⟩; (try (rw [drewN_self w5]; generalize hq_ : World.drewN w5 _ = w5; have n0_ : Aside0 (w5.heap[gb191]? = some (.cells #[.int .i64 a0_0, .int .i64 a0_1, .int .i64 a0_2, .int .i64 a0_3, .int .i64 a0_4, .string a0_5, .string a0_6, .string a0_7] 23 (0, 0))) := ⟨by rw [← hq_]; exact (bG BK191)⟩; have n1_ : Aside0 (Below w.heap.size w w5) := ⟨by rw [← hq_]; exact (lT HB (gC GE191 gN))⟩; clear BK191 HB hq_; have BK191 := n0_; have HB := n1_; clear n0_ n1_)); (try (have hy191_0 : w5.cell? ⟨gb191, 0, none⟩ = some (.int .i64 a0_0) := (blk_cell BK191.out 0).trans rfl; have hv191_0 := blk_frozen BK191.out 0; have hy191_1 : w5.cell? ⟨gb191, 1, none⟩ = some (.int .i64 a0_1) := (blk_cell BK191.out 1).trans rfl; have hv191_1 := blk_frozen BK191.out 1; have hy191_2 : w5.cell? ⟨gb191, 2, none⟩ = some (.int .i64 a0_2) := (blk_cell BK191.out 2).trans rfl; have hv191_2 := blk_frozen BK191.out 2; have hy191_3 : w5.cell? ⟨gb191, 3, none⟩ = some (.int .i64 a0_3) := (blk_cell BK191.out 3).trans rfl; have hv191_3 := blk_frozen BK191.out 3; have hy191_4 : w5.cell? ⟨gb191, 4, none⟩ = some (.int .i64 a0_4) := (blk_cell BK191.out 4).trans rfl; have hv191_4 := blk_frozen BK191.out 4; have hy191_5 : w5.cell? ⟨gb191, 5, none⟩ = some (.string a0_5) := (blk_cell BK191.out 5).trans rfl; have hv191_5 := blk_frozen BK191.out 5; have hy191_6 : w5.cell? ⟨gb191, 6, none⟩ = some (.string a0_6) := (blk_cell BK191.out 6).trans rfl; have hv191_6 := blk_frozen BK191.out 6; have hy191_7 : w5.cell? ⟨gb191, 7, none⟩ = some (.string a0_7) := (blk_cell BK191.out 7).trans rfl; have hv191_7 := blk_frozen BK191.out 7))) | ((with_reducible refine gate_dst (N := 3) rfl ?_); (try (refine gate_guard (by rfl) ?_; dsimp only)); refine bx 3 #[.int .i64 0, .int .i64 0, .int .i64 0, .int .i64 0, .int .i64 0, .string (⟨#[]⟩ : ByteArray), .string (⟨#[]⟩ : ByteArray), .string (⟨#[]⟩ : ByteArray)] 23 ?_; intro gb193 hg w7 hbox hb; replace BK193 := ak (hbox); replace GW193 := ak ((by rw [hg]; exact (below_size (lT HB (gC GE191 gN))) : w.heap.size ≤ gb193)); replace GE193 := ak ((by rw [hg]; exact (below_size (lT HB (gC GE191 gN))) : w.heap.size ≤ gb193)); replace HB := ak (below_step (lT HB (gC GE191 gN)) hb); replace NB191_193 := ak ((by rw [hg]; exact Nat.ne_of_lt (blk_lt (bG BK191)) : gb191 ≠ gb193)); replace NB193_191 := ak ((by rw [hg]; exact Nat.ne_of_gt (blk_lt (bG BK191)) : gb193 ≠ gb191)); replace BK191 := bB BK191 hb; clear hb hbox hg; have hnb8 := NB193_191.out; have hnc8 := NB191_193.out; have hcz9_0 : w7.cell? ⟨gb193, 0, none⟩ = some (.int .i64 0) := (blk_cell BK193.out 0).trans rfl; have hcz9_1 : w7.cell? ⟨gb193, 1, none⟩ = some (.int .i64 0) := (blk_cell BK193.out 1).trans rfl; have hcz9_2 : w7.cell? ⟨gb193, 2, none⟩ = some (.int .i64 0) := (blk_cell BK193.out 2).trans rfl; have hcz9_3 : w7.cell? ⟨gb193, 3, none⟩ = some (.int .i64 0) := (blk_cell BK193.out 3).trans rfl; have hcz9_4 : w7.cell? ⟨gb193, 4, none⟩ = some (.int .i64 0) := (blk_cell BK193.out 4).trans rfl; have hcz9_5 : w7.cell? ⟨gb193, 5, none⟩ = some (.string (⟨#[]⟩ : ByteArray)) := (blk_cell BK193.out 5).trans rfl; have hcz9_6 : w7.cell? ⟨gb193, 6, none⟩ = some (.string (⟨#[]⟩ : ByteArray)) := (blk_cell BK193.out 6).trans rfl; have hcz9_7 : w7.cell? ⟨gb193, 7, none⟩ = some (.string (⟨#[]⟩ : ByteArray)) := (blk_cell BK193.out 7).trans rfl; have hfz9_0 := blk_frozen BK193.out 0; have hfz9_1 := blk_frozen BK193.out 1; have hfz9_2 := blk_frozen BK193.out 2; have hfz9_3 := blk_frozen BK193.out 3; have hfz9_4 := blk_frozen BK193.out 4; have hfz9_5 := blk_frozen BK193.out 5; have hfz9_6 := blk_frozen BK193.out 6; have hfz9_7 := blk_frozen BK193.out 7))
  (try simp only [Act.put, List.setIfInBounds_toArray, List.set_cons_zero, List.set_cons_succ])
  go_cut [24] (fun v24 wc => ∃ (kq : Nat) (x24_3 : Bool), v24 = .bool x24_3 ∧ Aside0 (impl_RecOk.j0 kq true x24_3 a0_0 a0_1 a0_2 a0_3 a0_4 a0_5 a0_6 a0_7 0 0 a0_2 a0_3 a0_4 a0_5 a0_6 a0_7 = some r) ∧ Aside0 (kq ≤ k) ∧ Aside0 (wc.heap[gb191]? = some (.cells #[.int .i64 a0_0, .int .i64 a0_1, .int .i64 a0_2, .int .i64 a0_3, .int .i64 a0_4, .string a0_5, .string a0_6, .string a0_7] 23 (0, 0))) ∧ Aside0 (wc.heap[gb193]? = some (.cells #[.int .i64 0, .int .i64 0, .int .i64 a0_2, .int .i64 a0_3, .int .i64 a0_4, .string a0_5, .string a0_6, .string a0_7] 23 (0, 0))) ∧ Aside0 (Below w.heap.size w wc))
  case first =>
   have H := HC4.out
   clear HC4
   by_cases c10 : a0_0 = 3
   ·rw [if_pos c10] at H
    have c10b0 : (a0_0 == 3) = true := beq_iff_eq.mpr c10
    have c10b1 : (a0_0 != 3) = false := bne_eq_false_iff_eq.mpr c10
    clear c10
    (first | rw [c10b0] | (simp only [i64_w, i32_w]; rw [c10b0]) | skip)
    have H' := Aside0.mk H
    clear H
    have hnb11 := NB191_193.out
    have hnc11 := NB193_191.out
    have hcz12_0 : w7.cell? ⟨gb191, 0, none⟩ = some (.int .i64 a0_0) := (blk_cell BK191.out 0).trans rfl
    have hcz12_1 : w7.cell? ⟨gb191, 1, none⟩ = some (.int .i64 a0_1) := (blk_cell BK191.out 1).trans rfl
    have hcz12_2 : w7.cell? ⟨gb191, 2, none⟩ = some (.int .i64 a0_2) := (blk_cell BK191.out 2).trans rfl
    have hcz12_3 : w7.cell? ⟨gb191, 3, none⟩ = some (.int .i64 a0_3) := (blk_cell BK191.out 3).trans rfl
    have hcz12_4 : w7.cell? ⟨gb191, 4, none⟩ = some (.int .i64 a0_4) := (blk_cell BK191.out 4).trans rfl
    have hcz12_5 : w7.cell? ⟨gb191, 5, none⟩ = some (.string a0_5) := (blk_cell BK191.out 5).trans rfl
    have hcz12_6 : w7.cell? ⟨gb191, 6, none⟩ = some (.string a0_6) := (blk_cell BK191.out 6).trans rfl
    have hcz12_7 : w7.cell? ⟨gb191, 7, none⟩ = some (.string a0_7) := (blk_cell BK191.out 7).trans rfl
    have hfz12_0 := blk_frozen BK191.out 0
    have hfz12_1 := blk_frozen BK191.out 1
    have hfz12_2 := blk_frozen BK191.out 2
    have hfz12_3 := blk_frozen BK191.out 3
    have hfz12_4 := blk_frozen BK191.out 4
    have hfz12_5 := blk_frozen BK191.out 5
    have hfz12_6 := blk_frozen BK191.out 6
    have hfz12_7 := blk_frozen BK191.out 7
    go_wp2
    go_meet
    case rel => exact ⟨_, (true), (by first | rfl | (simp; done) | (simp [*]; done)), H', ⟨by first | omega | exact Nat.le_refl _⟩, ⟨by (with_reducible repeat (first | refine blk_drewN ?_ _ | refine blk_drew ?_ | refine blk_alloc ?_ _)); refine blk_far ?_ NB191_193.out _; (with_reducible repeat (first | refine blk_drewN ?_ _ | refine blk_drew ?_ | refine blk_alloc ?_ _)); refine blk_far ?_ NB191_193.out _; (with_reducible repeat (first | refine blk_drewN ?_ _ | refine blk_drew ?_ | refine blk_alloc ?_ _)); refine blk_far ?_ NB191_193.out _; (with_reducible repeat (first | refine blk_drewN ?_ _ | refine blk_drew ?_ | refine blk_alloc ?_ _)); refine blk_far ?_ NB191_193.out _; (with_reducible repeat (first | refine blk_drewN ?_ _ | refine blk_drew ?_ | refine blk_alloc ?_ _)); refine blk_far ?_ NB191_193.out _; (with_reducible repeat (first | refine blk_drewN ?_ _ | refine blk_drew ?_ | refine blk_alloc ?_ _)); refine blk_far ?_ NB191_193.out _; (with_reducible repeat (first | refine blk_drewN ?_ _ | refine blk_drew ?_ | refine blk_alloc ?_ _)); refine blk_far ?_ NB191_193.out _; (with_reducible repeat (first | refine blk_drewN ?_ _ | refine blk_drew ?_ | refine blk_alloc ?_ _)); refine blk_far ?_ NB191_193.out _; (with_reducible repeat (first | refine blk_drewN ?_ _ | refine blk_drew ?_ | refine blk_alloc ?_ _)); refine blk_far ?_ NB191_193.out _; (with_reducible repeat (first | refine blk_drewN ?_ _ | refine blk_drew ?_ | refine blk_alloc ?_ _)); refine blk_far ?_ NB191_193.out _; (with_reducible repeat (first | refine blk_drewN ?_ _ | refine blk_drew ?_ | refine blk_alloc ?_ _)); exact BK191.out⟩, ⟨by (with_reducible repeat (first | refine blk_drewN ?_ _ | refine blk_drew ?_ | refine blk_alloc ?_ _)); refine blk_put (cs := #[.int .i64 0, .int .i64 a0_1, .int .i64 a0_2, .int .i64 a0_3, .int .i64 a0_4, .string a0_5, .string a0_6, .string a0_7]) ?_ 1 _ rfl; (with_reducible repeat (first | refine blk_drewN ?_ _ | refine blk_drew ?_ | refine blk_alloc ?_ _)); refine blk_put (cs := #[.int .i64 a0_0, .int .i64 a0_1, .int .i64 a0_2, .int .i64 a0_3, .int .i64 a0_4, .string a0_5, .string a0_6, .string a0_7]) ?_ 0 _ rfl; (with_reducible repeat (first | refine blk_drewN ?_ _ | refine blk_drew ?_ | refine blk_alloc ?_ _)); refine blk_put (cs := #[.int .i64 a0_0, .int .i64 a0_1, .int .i64 a0_2, .int .i64 a0_3, .int .i64 a0_4, .string a0_5, .string a0_6, .string (⟨#[]⟩ : ByteArray)]) ?_ 7 _ rfl; (with_reducible repeat (first | refine blk_drewN ?_ _ | refine blk_drew ?_ | refine blk_alloc ?_ _)); refine blk_put (cs := #[.int .i64 a0_0, .int .i64 a0_1, .int .i64 a0_2, .int .i64 a0_3, .int .i64 a0_4, .string a0_5, .string (⟨#[]⟩ : ByteArray), .string (⟨#[]⟩ : ByteArray)]) ?_ 6 _ rfl; (with_reducible repeat (first | refine blk_drewN ?_ _ | refine blk_drew ?_ | refine blk_alloc ?_ _)); refine blk_put (cs := #[.int .i64 a0_0, .int .i64 a0_1, .int .i64 a0_2, .int .i64 a0_3, .int .i64 a0_4, .string (⟨#[]⟩ : ByteArray), .string (⟨#[]⟩ : ByteArray), .string (⟨#[]⟩ : ByteArray)]) ?_ 5 _ rfl; (with_reducible repeat (first | refine blk_drewN ?_ _ | refine blk_drew ?_ | refine blk_alloc ?_ _)); refine blk_put (cs := #[.int .i64 a0_0, .int .i64 a0_1, .int .i64 a0_2, .int .i64 a0_3, .int .i64 0, .string (⟨#[]⟩ : ByteArray), .string (⟨#[]⟩ : ByteArray), .string (⟨#[]⟩ : ByteArray)]) ?_ 4 _ rfl; (with_reducible repeat (first | refine blk_drewN ?_ _ | refine blk_drew ?_ | refine blk_alloc ?_ _)); refine blk_put (cs := #[.int .i64 a0_0, .int .i64 a0_1, .int .i64 a0_2, .int .i64 0, .int .i64 0, .string (⟨#[]⟩ : ByteArray), .string (⟨#[]⟩ : ByteArray), .string (⟨#[]⟩ : ByteArray)]) ?_ 3 _ rfl; (with_reducible repeat (first | refine blk_drewN ?_ _ | refine blk_drew ?_ | refine blk_alloc ?_ _)); refine blk_put (cs := #[.int .i64 a0_0, .int .i64 a0_1, .int .i64 0, .int .i64 0, .int .i64 0, .string (⟨#[]⟩ : ByteArray), .string (⟨#[]⟩ : ByteArray), .string (⟨#[]⟩ : ByteArray)]) ?_ 2 _ rfl; (with_reducible repeat (first | refine blk_drewN ?_ _ | refine blk_drew ?_ | refine blk_alloc ?_ _)); refine blk_put (cs := #[.int .i64 a0_0, .int .i64 0, .int .i64 0, .int .i64 0, .int .i64 0, .string (⟨#[]⟩ : ByteArray), .string (⟨#[]⟩ : ByteArray), .string (⟨#[]⟩ : ByteArray)]) ?_ 1 _ rfl; (with_reducible repeat (first | refine blk_drewN ?_ _ | refine blk_drew ?_ | refine blk_alloc ?_ _)); refine blk_put (cs := #[.int .i64 0, .int .i64 0, .int .i64 0, .int .i64 0, .int .i64 0, .string (⟨#[]⟩ : ByteArray), .string (⟨#[]⟩ : ByteArray), .string (⟨#[]⟩ : ByteArray)]) ?_ 0 _ rfl; (with_reducible repeat (first | refine blk_drewN ?_ _ | refine blk_drew ?_ | refine blk_alloc ?_ _)); exact BK193.out⟩, ⟨by exact lT HB (gC GE191 (gC GE193 gN))⟩⟩
   ·rw [if_neg c10] at H
    have c10b0 : (a0_0 == 3) = false := beq_eq_false_iff_ne.mpr c10
    have c10b1 : (a0_0 != 3) = true := bne_iff_ne.mpr c10
    (first | rw [c10b0] | (simp only [i64_w, i32_w]; rw [c10b0]) | skip)
    by_cases c13 : a0_0 = 4
    ·rw [if_pos c13] at H
     have c13b0 : (a0_0 == 4) = true := beq_iff_eq.mpr c13
     have c13b1 : (a0_0 != 4) = false := bne_eq_false_iff_eq.mpr c13
     clear c13
     have H' := Aside0.mk H
     clear H
     have hnb14 := NB191_193.out
     have hnc14 := NB193_191.out
     have hcz15_0 : w7.cell? ⟨gb191, 0, none⟩ = some (.int .i64 a0_0) := (blk_cell BK191.out 0).trans rfl
     have hcz15_1 : w7.cell? ⟨gb191, 1, none⟩ = some (.int .i64 a0_1) := (blk_cell BK191.out 1).trans rfl
     have hcz15_2 : w7.cell? ⟨gb191, 2, none⟩ = some (.int .i64 a0_2) := (blk_cell BK191.out 2).trans rfl
     have hcz15_3 : w7.cell? ⟨gb191, 3, none⟩ = some (.int .i64 a0_3) := (blk_cell BK191.out 3).trans rfl
     have hcz15_4 : w7.cell? ⟨gb191, 4, none⟩ = some (.int .i64 a0_4) := (blk_cell BK191.out 4).trans rfl
     have hcz15_5 : w7.cell? ⟨gb191, 5, none⟩ = some (.string a0_5) := (blk_cell BK191.out 5).trans rfl
     have hcz15_6 : w7.cell? ⟨gb191, 6, none⟩ = some (.string a0_6) := (blk_cell BK191.out 6).trans rfl
     have hcz15_7 : w7.cell? ⟨gb191, 7, none⟩ = some (.string a0_7) := (blk_cell BK191.out 7).trans rfl
     have hfz15_0 := blk_frozen BK191.out 0
     have hfz15_1 := blk_frozen BK191.out 1
     have hfz15_2 := blk_frozen BK191.out 2
     have hfz15_3 := blk_frozen BK191.out 3
     have hfz15_4 := blk_frozen BK191.out 4
     have hfz15_5 := blk_frozen BK191.out 5
     have hfz15_6 := blk_frozen BK191.out 6
     have hfz15_7 := blk_frozen BK191.out 7
     go_wp2
     go_meet
     case rel => exact ⟨_, (true), (by first | rfl | (simp; done) | (simp [*]; done)), H', ⟨by first | omega | exact Nat.le_refl _⟩, ⟨by (with_reducible repeat (first | refine blk_drewN ?_ _ | refine blk_drew ?_ | refine blk_alloc ?_ _)); refine blk_far ?_ NB191_193.out _; (with_reducible repeat (first | refine blk_drewN ?_ _ | refine blk_drew ?_ | refine blk_alloc ?_ _)); refine blk_far ?_ NB191_193.out _; (with_reducible repeat (first | refine blk_drewN ?_ _ | refine blk_drew ?_ | refine blk_alloc ?_ _)); refine blk_far ?_ NB191_193.out _; (with_reducible repeat (first | refine blk_drewN ?_ _ | refine blk_drew ?_ | refine blk_alloc ?_ _)); refine blk_far ?_ NB191_193.out _; (with_reducible repeat (first | refine blk_drewN ?_ _ | refine blk_drew ?_ | refine blk_alloc ?_ _)); refine blk_far ?_ NB191_193.out _; (with_reducible repeat (first | refine blk_drewN ?_ _ | refine blk_drew ?_ | refine blk_alloc ?_ _)); refine blk_far ?_ NB191_193.out _; (with_reducible repeat (first | refine blk_drewN ?_ _ | refine blk_drew ?_ | refine blk_alloc ?_ _)); refine blk_far ?_ NB191_193.out _; (with_reducible repeat (first | refine blk_drewN ?_ _ | refine blk_drew ?_ | refine blk_alloc ?_ _)); refine blk_far ?_ NB191_193.out _; (with_reducible repeat (first | refine blk_drewN ?_ _ | refine blk_drew ?_ | refine blk_alloc ?_ _)); refine blk_far ?_ NB191_193.out _; (with_reducible repeat (first | refine blk_drewN ?_ _ | refine blk_drew ?_ | refine blk_alloc ?_ _)); refine blk_far ?_ NB191_193.out _; (with_reducible repeat (first | refine blk_drewN ?_ _ | refine blk_drew ?_ | refine blk_alloc ?_ _)); exact BK191.out⟩, ⟨by (with_reducible repeat (first | refine blk_drewN ?_ _ | refine blk_drew ?_ | refine blk_alloc ?_ _)); refine blk_put (cs := #[.int .i64 0, .int .i64 a0_1, .int .i64 a0_2, .int .i64 a0_3, .int .i64 a0_4, .string a0_5, .string a0_6, .string a0_7]) ?_ 1 _ rfl; (with_reducible repeat (first | refine blk_drewN ?_ _ | refine blk_drew ?_ | refine blk_alloc ?_ _)); refine blk_put (cs := #[.int .i64 a0_0, .int .i64 a0_1, .int .i64 a0_2, .int .i64 a0_3, .int .i64 a0_4, .string a0_5, .string a0_6, .string a0_7]) ?_ 0 _ rfl; (with_reducible repeat (first | refine blk_drewN ?_ _ | refine blk_drew ?_ | refine blk_alloc ?_ _)); refine blk_put (cs := #[.int .i64 a0_0, .int .i64 a0_1, .int .i64 a0_2, .int .i64 a0_3, .int .i64 a0_4, .string a0_5, .string a0_6, .string (⟨#[]⟩ : ByteArray)]) ?_ 7 _ rfl; (with_reducible repeat (first | refine blk_drewN ?_ _ | refine blk_drew ?_ | refine blk_alloc ?_ _)); refine blk_put (cs := #[.int .i64 a0_0, .int .i64 a0_1, .int .i64 a0_2, .int .i64 a0_3, .int .i64 a0_4, .string a0_5, .string (⟨#[]⟩ : ByteArray), .string (⟨#[]⟩ : ByteArray)]) ?_ 6 _ rfl; (with_reducible repeat (first | refine blk_drewN ?_ _ | refine blk_drew ?_ | refine blk_alloc ?_ _)); refine blk_put (cs := #[.int .i64 a0_0, .int .i64 a0_1, .int .i64 a0_2, .int .i64 a0_3, .int .i64 a0_4, .string (⟨#[]⟩ : ByteArray), .string (⟨#[]⟩ : ByteArray), .string (⟨#[]⟩ : ByteArray)]) ?_ 5 _ rfl; (with_reducible repeat (first | refine blk_drewN ?_ _ | refine blk_drew ?_ | refine blk_alloc ?_ _)); refine blk_put (cs := #[.int .i64 a0_0, .int .i64 a0_1, .int .i64 a0_2, .int .i64 a0_3, .int .i64 0, .string (⟨#[]⟩ : ByteArray), .string (⟨#[]⟩ : ByteArray), .string (⟨#[]⟩ : ByteArray)]) ?_ 4 _ rfl; (with_reducible repeat (first | refine blk_drewN ?_ _ | refine blk_drew ?_ | refine blk_alloc ?_ _)); refine blk_put (cs := #[.int .i64 a0_0, .int .i64 a0_1, .int .i64 a0_2, .int .i64 0, .int .i64 0, .string (⟨#[]⟩ : ByteArray), .string (⟨#[]⟩ : ByteArray), .string (⟨#[]⟩ : ByteArray)]) ?_ 3 _ rfl; (with_reducible repeat (first | refine blk_drewN ?_ _ | refine blk_drew ?_ | refine blk_alloc ?_ _)); refine blk_put (cs := #[.int .i64 a0_0, .int .i64 a0_1, .int .i64 0, .int .i64 0, .int .i64 0, .string (⟨#[]⟩ : ByteArray), .string (⟨#[]⟩ : ByteArray), .string (⟨#[]⟩ : ByteArray)]) ?_ 2 _ rfl; (with_reducible repeat (first | refine blk_drewN ?_ _ | refine blk_drew ?_ | refine blk_alloc ?_ _)); refine blk_put (cs := #[.int .i64 a0_0, .int .i64 0, .int .i64 0, .int .i64 0, .int .i64 0, .string (⟨#[]⟩ : ByteArray), .string (⟨#[]⟩ : ByteArray), .string (⟨#[]⟩ : ByteArray)]) ?_ 1 _ rfl; (with_reducible repeat (first | refine blk_drewN ?_ _ | refine blk_drew ?_ | refine blk_alloc ?_ _)); refine blk_put (cs := #[.int .i64 0, .int .i64 0, .int .i64 0, .int .i64 0, .int .i64 0, .string (⟨#[]⟩ : ByteArray), .string (⟨#[]⟩ : ByteArray), .string (⟨#[]⟩ : ByteArray)]) ?_ 0 _ rfl; (with_reducible repeat (first | refine blk_drewN ?_ _ | refine blk_drew ?_ | refine blk_alloc ?_ _)); exact BK193.out⟩, ⟨by exact lT HB (gC GE191 (gC GE193 gN))⟩⟩
    ·rw [if_neg c13] at H
     have c13b0 : (a0_0 == 4) = false := beq_eq_false_iff_ne.mpr c13
     have c13b1 : (a0_0 != 4) = true := bne_iff_ne.mpr c13
     have H' := Aside0.mk H
     clear H
     have hnb16 := NB191_193.out
     have hnc16 := NB193_191.out
     have hcz17_0 : w7.cell? ⟨gb191, 0, none⟩ = some (.int .i64 a0_0) := (blk_cell BK191.out 0).trans rfl
     have hcz17_1 : w7.cell? ⟨gb191, 1, none⟩ = some (.int .i64 a0_1) := (blk_cell BK191.out 1).trans rfl
     have hcz17_2 : w7.cell? ⟨gb191, 2, none⟩ = some (.int .i64 a0_2) := (blk_cell BK191.out 2).trans rfl
     have hcz17_3 : w7.cell? ⟨gb191, 3, none⟩ = some (.int .i64 a0_3) := (blk_cell BK191.out 3).trans rfl
     have hcz17_4 : w7.cell? ⟨gb191, 4, none⟩ = some (.int .i64 a0_4) := (blk_cell BK191.out 4).trans rfl
     have hcz17_5 : w7.cell? ⟨gb191, 5, none⟩ = some (.string a0_5) := (blk_cell BK191.out 5).trans rfl
     have hcz17_6 : w7.cell? ⟨gb191, 6, none⟩ = some (.string a0_6) := (blk_cell BK191.out 6).trans rfl
     have hcz17_7 : w7.cell? ⟨gb191, 7, none⟩ = some (.string a0_7) := (blk_cell BK191.out 7).trans rfl
     have hfz17_0 := blk_frozen BK191.out 0
     have hfz17_1 := blk_frozen BK191.out 1
     have hfz17_2 := blk_frozen BK191.out 2
     have hfz17_3 := blk_frozen BK191.out 3
     have hfz17_4 := blk_frozen BK191.out 4
     have hfz17_5 := blk_frozen BK191.out 5
     have hfz17_6 := blk_frozen BK191.out 6
     have hfz17_7 := blk_frozen BK191.out 7
     go_wp2
     go_meet
     case rel => exact ⟨_, ((a0_0 == 5)), (by first | rfl | (simp; done) | (simp [*]; done)), H', ⟨by first | omega | exact Nat.le_refl _⟩, ⟨by (with_reducible repeat (first | refine blk_drewN ?_ _ | refine blk_drew ?_ | refine blk_alloc ?_ _)); refine blk_far ?_ NB191_193.out _; (with_reducible repeat (first | refine blk_drewN ?_ _ | refine blk_drew ?_ | refine blk_alloc ?_ _)); refine blk_far ?_ NB191_193.out _; (with_reducible repeat (first | refine blk_drewN ?_ _ | refine blk_drew ?_ | refine blk_alloc ?_ _)); refine blk_far ?_ NB191_193.out _; (with_reducible repeat (first | refine blk_drewN ?_ _ | refine blk_drew ?_ | refine blk_alloc ?_ _)); refine blk_far ?_ NB191_193.out _; (with_reducible repeat (first | refine blk_drewN ?_ _ | refine blk_drew ?_ | refine blk_alloc ?_ _)); refine blk_far ?_ NB191_193.out _; (with_reducible repeat (first | refine blk_drewN ?_ _ | refine blk_drew ?_ | refine blk_alloc ?_ _)); refine blk_far ?_ NB191_193.out _; (with_reducible repeat (first | refine blk_drewN ?_ _ | refine blk_drew ?_ | refine blk_alloc ?_ _)); refine blk_far ?_ NB191_193.out _; (with_reducible repeat (first | refine blk_drewN ?_ _ | refine blk_drew ?_ | refine blk_alloc ?_ _)); refine blk_far ?_ NB191_193.out _; (with_reducible repeat (first | refine blk_drewN ?_ _ | refine blk_drew ?_ | refine blk_alloc ?_ _)); refine blk_far ?_ NB191_193.out _; (with_reducible repeat (first | refine blk_drewN ?_ _ | refine blk_drew ?_ | refine blk_alloc ?_ _)); refine blk_far ?_ NB191_193.out _; (with_reducible repeat (first | refine blk_drewN ?_ _ | refine blk_drew ?_ | refine blk_alloc ?_ _)); exact BK191.out⟩, ⟨by (with_reducible repeat (first | refine blk_drewN ?_ _ | refine blk_drew ?_ | refine blk_alloc ?_ _)); refine blk_put (cs := #[.int .i64 0, .int .i64 a0_1, .int .i64 a0_2, .int .i64 a0_3, .int .i64 a0_4, .string a0_5, .string a0_6, .string a0_7]) ?_ 1 _ rfl; (with_reducible repeat (first | refine blk_drewN ?_ _ | refine blk_drew ?_ | refine blk_alloc ?_ _)); refine blk_put (cs := #[.int .i64 a0_0, .int .i64 a0_1, .int .i64 a0_2, .int .i64 a0_3, .int .i64 a0_4, .string a0_5, .string a0_6, .string a0_7]) ?_ 0 _ rfl; (with_reducible repeat (first | refine blk_drewN ?_ _ | refine blk_drew ?_ | refine blk_alloc ?_ _)); refine blk_put (cs := #[.int .i64 a0_0, .int .i64 a0_1, .int .i64 a0_2, .int .i64 a0_3, .int .i64 a0_4, .string a0_5, .string a0_6, .string (⟨#[]⟩ : ByteArray)]) ?_ 7 _ rfl; (with_reducible repeat (first | refine blk_drewN ?_ _ | refine blk_drew ?_ | refine blk_alloc ?_ _)); refine blk_put (cs := #[.int .i64 a0_0, .int .i64 a0_1, .int .i64 a0_2, .int .i64 a0_3, .int .i64 a0_4, .string a0_5, .string (⟨#[]⟩ : ByteArray), .string (⟨#[]⟩ : ByteArray)]) ?_ 6 _ rfl; (with_reducible repeat (first | refine blk_drewN ?_ _ | refine blk_drew ?_ | refine blk_alloc ?_ _)); refine blk_put (cs := #[.int .i64 a0_0, .int .i64 a0_1, .int .i64 a0_2, .int .i64 a0_3, .int .i64 a0_4, .string (⟨#[]⟩ : ByteArray), .string (⟨#[]⟩ : ByteArray), .string (⟨#[]⟩ : ByteArray)]) ?_ 5 _ rfl; (with_reducible repeat (first | refine blk_drewN ?_ _ | refine blk_drew ?_ | refine blk_alloc ?_ _)); refine blk_put (cs := #[.int .i64 a0_0, .int .i64 a0_1, .int .i64 a0_2, .int .i64 a0_3, .int .i64 0, .string (⟨#[]⟩ : ByteArray), .string (⟨#[]⟩ : ByteArray), .string (⟨#[]⟩ : ByteArray)]) ?_ 4 _ rfl; (with_reducible repeat (first | refine blk_drewN ?_ _ | refine blk_drew ?_ | refine blk_alloc ?_ _)); refine blk_put (cs := #[.int .i64 a0_0, .int .i64 a0_1, .int .i64 a0_2, .int .i64 0, .int .i64 0, .string (⟨#[]⟩ : ByteArray), .string (⟨#[]⟩ : ByteArray), .string (⟨#[]⟩ : ByteArray)]) ?_ 3 _ rfl; (with_reducible repeat (first | refine blk_drewN ?_ _ | refine blk_drew ?_ | refine blk_alloc ?_ _)); refine blk_put (cs := #[.int .i64 a0_0, .int .i64 a0_1, .int .i64 0, .int .i64 0, .int .i64 0, .string (⟨#[]⟩ : ByteArray), .string (⟨#[]⟩ : ByteArray), .string (⟨#[]⟩ : ByteArray)]) ?_ 2 _ rfl; (with_reducible repeat (first | refine blk_drewN ?_ _ | refine blk_drew ?_ | refine blk_alloc ?_ _)); refine blk_put (cs := #[.int .i64 a0_0, .int .i64 0, .int .i64 0, .int .i64 0, .int .i64 0, .string (⟨#[]⟩ : ByteArray), .string (⟨#[]⟩ : ByteArray), .string (⟨#[]⟩ : ByteArray)]) ?_ 1 _ rfl; (with_reducible repeat (first | refine blk_drewN ?_ _ | refine blk_drew ?_ | refine blk_alloc ?_ _)); refine blk_put (cs := #[.int .i64 0, .int .i64 0, .int .i64 0, .int .i64 0, .int .i64 0, .string (⟨#[]⟩ : ByteArray), .string (⟨#[]⟩ : ByteArray), .string (⟨#[]⟩ : ByteArray)]) ?_ 0 _ rfl; (with_reducible repeat (first | refine blk_drewN ?_ _ | refine blk_drew ?_ | refine blk_alloc ?_ _)); exact BK193.out⟩, ⟨by exact lT HB (gC GE191 (gC GE193 gN))⟩⟩
  case rest =>
   clear HC4
   try clear c1
   try clear c2
   try clear p2
   try clear c3
   try clear c6
   try clear c8
   try clear c10
   try clear c10b0
   try clear c10b1
   try clear c11
   try clear c13
   try clear c13b0
   try clear c13b1
   try clear c14
   try clear c16
   try clear hcz12_0
   try clear hcz12_1
   try clear hcz12_2
   try clear hcz12_3
   try clear hcz12_4
   try clear hcz12_5
   try clear hcz12_6
   try clear hcz12_7
   try clear hcz15_0
   try clear hcz15_1
   try clear hcz15_2
   try clear hcz15_3
   try clear hcz15_4
   try clear hcz15_5
   try clear hcz15_6
   try clear hcz15_7
   try clear hcz17_0
   try clear hcz17_1
   try clear hcz17_2
   try clear hcz17_3
   try clear hcz17_4
   try clear hcz17_5
   try clear hcz17_6
   try clear hcz17_7
   try clear hcz6_0
   try clear hcz6_1
   try clear hcz6_2
   try clear hcz6_3
   try clear hcz6_4
   try clear hcz6_5
   try clear hcz6_6
   try clear hcz6_7
   try clear hcz9_0
   try clear hcz9_1
   try clear hcz9_2
   try clear hcz9_3
   try clear hcz9_4
   try clear hcz9_5
   try clear hcz9_6
   try clear hcz9_7
   try clear hfz12_0
   try clear hfz12_1
   try clear hfz12_2
   try clear hfz12_3
   try clear hfz12_4
   try clear hfz12_5
   try clear hfz12_6
   try clear hfz12_7
   try clear hfz15_0
   try clear hfz15_1
   try clear hfz15_2
   try clear hfz15_3
   try clear hfz15_4
   try clear hfz15_5
   try clear hfz15_6
   try clear hfz15_7
   try clear hfz17_0
   try clear hfz17_1
   try clear hfz17_2
   try clear hfz17_3
   try clear hfz17_4
   try clear hfz17_5
   try clear hfz17_6
   try clear hfz17_7
   try clear hfz6_0
   try clear hfz6_1
   try clear hfz6_2
   try clear hfz6_3
   try clear hfz6_4
   try clear hfz6_5
   try clear hfz6_6
   try clear hfz6_7
   try clear hfz9_0
   try clear hfz9_1
   try clear hfz9_2
   try clear hfz9_3
   try clear hfz9_4
   try clear hfz9_5
   try clear hfz9_6
   try clear hfz9_7
   obtain ⟨kq, x24_3, rfl, HA, HJ3, BK191, BK193, HB⟩ := hcut
   cases kq with
   | zero => exact absurd HA.out (by simp [impl_RecOk.j0])
   | succ kj3 =>
    have H := HA.out
    clear HA
    simp only [impl_RecOk.j0] at H
    have HC18 := Aside0.mk H
    clear H
    go_upto_if 24 with (fail)
    go_cut [4] (fun v4 wc => ∃ (kq : Nat) (x4_17 : Bool) (x194002_17 : Int), v4 = .bool x4_17 ∧ Aside0 (impl_RecOk.j1 kq x4_17 a0_0 a0_1 a0_2 a0_3 a0_4 a0_5 a0_6 a0_7 0 0 x194002_17 a0_3 a0_4 a0_5 a0_6 a0_7 = some r) ∧ Aside0 (kq ≤ kj3) ∧ Aside0 (wc.heap[gb191]? = some (.cells #[.int .i64 a0_0, .int .i64 a0_1, .int .i64 a0_2, .int .i64 a0_3, .int .i64 a0_4, .string a0_5, .string a0_6, .string a0_7] 23 (0, 0))) ∧ Aside0 (wc.heap[gb193]? = some (.cells #[.int .i64 0, .int .i64 0, .int .i64 x194002_17, .int .i64 a0_3, .int .i64 a0_4, .string a0_5, .string a0_6, .string a0_7] 23 (0, 0))) ∧ Aside0 (Below w.heap.size w wc))
    case first =>
     have H := HC18.out
     clear HC18
     by_cases c19 : x24_3 = true
     ·subst c19
      have H1 : ((impl_in.f a0_2 1 9999).bind fun t194 => (impl_RecOk.j1 kj3 t194 a0_0 a0_1 a0_2 a0_3 a0_4 a0_5 a0_6 a0_7 0 0 0 a0_3 a0_4 a0_5 a0_6 a0_7)) = some r := by rw [if_pos rfl] at H; exact H
      clear H
      have H := H1
      clear H1
      replace H := Option.bind_eq_some_iff.mp H
      obtain ⟨t194, A200, H⟩ := H
      replace H : (impl_RecOk.j1 kj3 t194 a0_0 a0_1 a0_2 a0_3 a0_4 a0_5 a0_6 a0_7 0 0 0 a0_3 a0_4 a0_5 a0_6 a0_7) = some r := H
      have A20 := Aside0.mk A200
      clear A200
      have H' := Aside0.mk H
      clear H
      have hnb21 := NB191_193.out
      have hnc21 := NB193_191.out
      have hcz22_0 : wc.cell? ⟨gb191, 0, none⟩ = some (.int .i64 a0_0) := (blk_cell BK191.out 0).trans rfl
      have hcz22_1 : wc.cell? ⟨gb191, 1, none⟩ = some (.int .i64 a0_1) := (blk_cell BK191.out 1).trans rfl
      have hcz22_2 : wc.cell? ⟨gb191, 2, none⟩ = some (.int .i64 a0_2) := (blk_cell BK191.out 2).trans rfl
      have hcz22_3 : wc.cell? ⟨gb191, 3, none⟩ = some (.int .i64 a0_3) := (blk_cell BK191.out 3).trans rfl
      have hcz22_4 : wc.cell? ⟨gb191, 4, none⟩ = some (.int .i64 a0_4) := (blk_cell BK191.out 4).trans rfl
      have hcz22_5 : wc.cell? ⟨gb191, 5, none⟩ = some (.string a0_5) := (blk_cell BK191.out 5).trans rfl
      have hcz22_6 : wc.cell? ⟨gb191, 6, none⟩ = some (.string a0_6) := (blk_cell BK191.out 6).trans rfl
      have hcz22_7 : wc.cell? ⟨gb191, 7, none⟩ = some (.string a0_7) := (blk_cell BK191.out 7).trans rfl
      have hfz22_0 := blk_frozen BK191.out 0
      have hfz22_1 := blk_frozen BK191.out 1
      have hfz22_2 := blk_frozen BK191.out 2
      have hfz22_3 := blk_frozen BK191.out 3
      have hfz22_4 := blk_frozen BK191.out 4
      have hfz22_5 := blk_frozen BK191.out 5
      have hfz22_6 := blk_frozen BK191.out 6
      have hfz22_7 := blk_frozen BK191.out 7
      go_wp2_with (first | ((with_reducible refine gate_callee (f := 63) rfl ?_); refine gl (some 27) Try.func63 #[.int .i64 a0_2, .int .i64 1, .int .i64 9999] ?_; (with_reducible refine (impl_in.calls a0_2 1 9999 t194 _ A20.out).mono ?_); rintro e w' ⟨rfl, ⟨nd, rfl⟩⟩; refine ⟨_, rfl, ?_⟩; (try (rw [drewN_self wc]; generalize hq_ : World.drewN wc _ = wc; have n0_ : Aside0 (wc.heap[gb191]? = some (.cells #[.int .i64 a0_0, .int .i64 a0_1, .int .i64 a0_2, .int .i64 a0_3, .int .i64 a0_4, .string a0_5, .string a0_6, .string a0_7] 23 (0, 0))) := ⟨by rw [← hq_]; exact (bG BK191)⟩; have n1_ : Aside0 (wc.heap[gb193]? = some (.cells #[.int .i64 0, .int .i64 0, .int .i64 a0_2, .int .i64 a0_3, .int .i64 a0_4, .string a0_5, .string a0_6, .string a0_7] 23 (0, 0))) := ⟨by rw [← hq_]; exact (bG BK193)⟩; have n2_ : Aside0 (Below w.heap.size w wc) := ⟨by rw [← hq_]; exact (lT HB (gC GE191 (gC GE193 gN)))⟩; clear BK191 BK193 HB hq_; have BK191 := n0_; have BK193 := n1_; have HB := n2_; clear n0_ n1_ n2_)); (try (have hy191_0 : wc.cell? ⟨gb191, 0, none⟩ = some (.int .i64 a0_0) := (blk_cell BK191.out 0).trans rfl; have hv191_0 := blk_frozen BK191.out 0; have hy191_1 : wc.cell? ⟨gb191, 1, none⟩ = some (.int .i64 a0_1) := (blk_cell BK191.out 1).trans rfl; have hv191_1 := blk_frozen BK191.out 1; have hy191_2 : wc.cell? ⟨gb191, 2, none⟩ = some (.int .i64 a0_2) := (blk_cell BK191.out 2).trans rfl; have hv191_2 := blk_frozen BK191.out 2; have hy191_3 : wc.cell? ⟨gb191, 3, none⟩ = some (.int .i64 a0_3) := (blk_cell BK191.out 3).trans rfl; have hv191_3 := blk_frozen BK191.out 3; have hy191_4 : wc.cell? ⟨gb191, 4, none⟩ = some (.int .i64 a0_4) := (blk_cell BK191.out 4).trans rfl; have hv191_4 := blk_frozen BK191.out 4; have hy191_5 : wc.cell? ⟨gb191, 5, none⟩ = some (.string a0_5) := (blk_cell BK191.out 5).trans rfl; have hv191_5 := blk_frozen BK191.out 5; have hy191_6 : wc.cell? ⟨gb191, 6, none⟩ = some (.string a0_6) := (blk_cell BK191.out 6).trans rfl; have hv191_6 := blk_frozen BK191.out 6; have hy191_7 : wc.cell? ⟨gb191, 7, none⟩ = some (.string a0_7) := (blk_cell BK191.out 7).trans rfl; have hv191_7 := blk_frozen BK191.out 7)); (try (have hy193_0 : wc.cell? ⟨gb193, 0, none⟩ = some (.int .i64 0) := (blk_cell BK193.out 0).trans rfl; have hv193_0 := blk_frozen BK193.out 0; have hy193_1 : wc.cell? ⟨gb193, 1, none⟩ = some (.int .i64 0) := (blk_cell BK193.out 1).trans rfl; have hv193_1 := blk_frozen BK193.out 1; have hy193_2 : wc.cell? ⟨gb193, 2, none⟩ = some (.int .i64 a0_2) := (blk_cell BK193.out 2).trans rfl; have hv193_2 := blk_frozen BK193.out 2; have hy193_3 : wc.cell? ⟨gb193, 3, none⟩ = some (.int .i64 a0_3) := (blk_cell BK193.out 3).trans rfl; have hv193_3 := blk_frozen BK193.out 3; have hy193_4 : wc.cell? ⟨gb193, 4, none⟩ = some (.int .i64 a0_4) := (blk_cell BK193.out 4).trans rfl; have hv193_4 := blk_frozen BK193.out 4; have hy193_5 : wc.cell? ⟨gb193, 5, none⟩ = some (.string a0_5) := (blk_cell BK193.out 5).trans rfl; have hv193_5 := blk_frozen BK193.out 5; have hy193_6 : wc.cell? ⟨gb193, 6, none⟩ = some (.string a0_6) := (blk_cell BK193.out 6).trans rfl; have hv193_6 := blk_frozen BK193.out 6; have hy193_7 : wc.cell? ⟨gb193, 7, none⟩ = some (.string a0_7) := (blk_cell BK193.out 7).trans rfl; have hv193_7 := blk_frozen BK193.out 7)); have hcz23_0 : wc.cell? ⟨gb193, 0, none⟩ = some (.int .i64 0) := (blk_cell BK193.out 0).trans rfl; have hcz23_1 : wc.cell? ⟨gb193, 1, none⟩ = some (.int .i64 0) := (blk_cell BK193.out 1).trans rfl; have hcz23_2 : wc.cell? ⟨gb193, 2, none⟩ = some (.int .i64 a0_2) := (blk_cell BK193.out 2).trans rfl; have hcz23_3 : wc.cell? ⟨gb193, 3, none⟩ = some (.int .i64 a0_3) := (blk_cell BK193.out 3).trans rfl; have hcz23_4 : wc.cell? ⟨gb193, 4, none⟩ = some (.int .i64 a0_4) := (blk_cell BK193.out 4).trans rfl; have hcz23_5 : wc.cell? ⟨gb193, 5, none⟩ = some (.string a0_5) := (blk_cell BK193.out 5).trans rfl; have hcz23_6 : wc.cell? ⟨gb193, 6, none⟩ = some (.string a0_6) := (blk_cell BK193.out 6).trans rfl; have hcz23_7 : wc.cell? ⟨gb193, 7, none⟩ = some (.string a0_7) := (blk_cell BK193.out 7).trans rfl; have hfz23_0 := blk_frozen BK193.out 0; have hfz23_1 := blk_frozen BK193.out 1; have hfz23_2 := blk_frozen BK193.out 2; have hfz23_3 := blk_frozen BK193.out 3; have hfz23_4 := blk_frozen BK193.out 4; have hfz23_5 := blk_frozen BK193.out 5; have hfz23_6 := blk_frozen BK193.out 6; have hfz23_7 := blk_frozen BK193.out 7))
      go_meet
      case rel => exact ⟨_, (t194), (0), (by first | rfl | (simp; done) | (simp [*]; done)), H', ⟨by have := HJ3.out; first | omega | exact Nat.le_refl _⟩, ⟨by (with_reducible repeat (first | refine blk_drewN ?_ _ | refine blk_drew ?_ | refine blk_alloc ?_ _)); refine blk_far ?_ NB191_193.out _; (with_reducible repeat (first | refine blk_drewN ?_ _ | refine blk_drew ?_ | refine blk_alloc ?_ _)); exact BK191.out⟩, ⟨by (with_reducible repeat (first | refine blk_drewN ?_ _ | refine blk_drew ?_ | refine blk_alloc ?_ _)); refine blk_put (cs := #[.int .i64 0, .int .i64 0, .int .i64 a0_2, .int .i64 a0_3, .int .i64 a0_4, .string a0_5, .string a0_6, .string a0_7]) ?_ 2 _ rfl; (with_reducible repeat (first | refine blk_drewN ?_ _ | refine blk_drew ?_ | refine blk_alloc ?_ _)); exact BK193.out⟩, ⟨by exact lT HB (gC GE191 (gC GE193 gN))⟩⟩
     ·replace c19 := Bool.eq_false_iff.mpr c19
      subst c19
      have H1 : (impl_RecOk.j1 kj3 true a0_0 a0_1 a0_2 a0_3 a0_4 a0_5 a0_6 a0_7 0 0 a0_2 a0_3 a0_4 a0_5 a0_6 a0_7) = some r := by rw [if_neg (show ¬ (false = true) by decide)] at H; exact H
      clear H
      have H := H1
      clear H1
      have H' := Aside0.mk H
      clear H
      go_wp2
      go_meet
      case rel => exact ⟨_, (true), (a0_2), (by first | rfl | (simp; done) | (simp [*]; done)), H', ⟨by have := HJ3.out; first | omega | exact Nat.le_refl _⟩, ⟨by (with_reducible repeat (first | refine blk_drewN ?_ _ | refine blk_drew ?_ | refine blk_alloc ?_ _)); exact BK191.out⟩, ⟨by (with_reducible repeat (first | refine blk_drewN ?_ _ | refine blk_drew ?_ | refine blk_alloc ?_ _)); exact BK193.out⟩, ⟨by exact lT HB (gC GE191 (gC GE193 gN))⟩⟩
    case rest =>
     clear HC18
     try clear c1
     try clear c2
     try clear p2
     try clear c3
     try clear c6
     try clear c8
     try clear c10
     try clear c10b0
     try clear c10b1
     try clear c11
     try clear c13
     try clear c13b0
     try clear c13b1
     try clear c14
     try clear c16
     try clear c19
     try clear c21
     try clear hcz12_0
     try clear hcz12_1
     try clear hcz12_2
     try clear hcz12_3
     try clear hcz12_4
     try clear hcz12_5
     try clear hcz12_6
     try clear hcz12_7
     try clear hcz15_0
     try clear hcz15_1
     try clear hcz15_2
     try clear hcz15_3
     try clear hcz15_4
     try clear hcz15_5
     try clear hcz15_6
     try clear hcz15_7
     try clear hcz17_0
     try clear hcz17_1
     try clear hcz17_2
     try clear hcz17_3
     try clear hcz17_4
     try clear hcz17_5
     try clear hcz17_6
     try clear hcz17_7
     try clear hcz22_0
     try clear hcz22_1
     try clear hcz22_2
     try clear hcz22_3
     try clear hcz22_4
     try clear hcz22_5
     try clear hcz22_6
     try clear hcz22_7
     try clear hcz23_0
     try clear hcz23_1
     try clear hcz23_2
     try clear hcz23_3
     try clear hcz23_4
     try clear hcz23_5
     try clear hcz23_6
     try clear hcz23_7
     try clear hcz6_0
     try clear hcz6_1
     try clear hcz6_2
     try clear hcz6_3
     try clear hcz6_4
     try clear hcz6_5
     try clear hcz6_6
     try clear hcz6_7
     try clear hcz9_0
     try clear hcz9_1
     try clear hcz9_2
     try clear hcz9_3
     try clear hcz9_4
     try clear hcz9_5
     try clear hcz9_6
     try clear hcz9_7
     try clear hfz12_0
     try clear hfz12_1
     try clear hfz12_2
     try clear hfz12_3
     try clear hfz12_4
     try clear hfz12_5
     try clear hfz12_6
     try clear hfz12_7
     try clear hfz15_0
     try clear hfz15_1
     try clear hfz15_2
     try clear hfz15_3
     try clear hfz15_4
     try clear hfz15_5
     try clear hfz15_6
     try clear hfz15_7
     try clear hfz17_0
     try clear hfz17_1
     try clear hfz17_2
     try clear hfz17_3
     try clear hfz17_4
     try clear hfz17_5
     try clear hfz17_6
     try clear hfz17_7
     try clear hfz22_0
     try clear hfz22_1
     try clear hfz22_2
     try clear hfz22_3
     try clear hfz22_4
     try clear hfz22_5
     try clear hfz22_6
     try clear hfz22_7
     try clear hfz23_0
     try clear hfz23_1
     try clear hfz23_2
     try clear hfz23_3
     try clear hfz23_4
     try clear hfz23_5
     try clear hfz23_6
     try clear hfz23_7
     try clear hfz6_0
     try clear hfz6_1
     try clear hfz6_2
     try clear hfz6_3
     try clear hfz6_4
     try clear hfz6_5
     try clear hfz6_6
     try clear hfz6_7
     try clear hfz9_0
     try clear hfz9_1
     try clear hfz9_2
     try clear hfz9_3
     try clear hfz9_4
     try clear hfz9_5
     try clear hfz9_6
     try clear hfz9_7
     try clear p2
     obtain ⟨kq, x4_17, x194002_17, rfl, HA, HJ17, BK191, BK193, HB⟩ := hcut
     cases kq with
     | zero => exact absurd HA.out (by simp [impl_RecOk.j1])
     | succ kj17 =>
      have H := HA.out
      clear HA
      simp only [impl_RecOk.j1] at H
      have HC24 := Aside0.mk H
      clear H
      go_upto_region 9 with (fail)
      go_cut [36] (fun v36 wc => ∃ (kq : Nat) (x36_23 : Bool), v36 = .bool x36_23 ∧ Aside0 (impl_RecOk.j2 kq x4_17 x36_23 a0_0 a0_1 a0_2 a0_3 a0_4 a0_5 a0_6 a0_7 0 0 x194002_17 a0_3 a0_4 a0_5 a0_6 a0_7 = some r) ∧ Aside0 (kq ≤ kj17) ∧ Aside0 (wc.heap[gb191]? = some (.cells #[.int .i64 a0_0, .int .i64 a0_1, .int .i64 a0_2, .int .i64 a0_3, .int .i64 a0_4, .string a0_5, .string a0_6, .string a0_7] 23 (0, 0))) ∧ Aside0 (wc.heap[gb193]? = some (.cells #[.int .i64 0, .int .i64 0, .int .i64 x194002_17, .int .i64 a0_3, .int .i64 a0_4, .string a0_5, .string a0_6, .string a0_7] 23 (0, 0))) ∧ Aside0 (Below w.heap.size w wc))
      case first =>
       have H := HC24.out
       clear HC24
       by_cases c25 : a0_0 = 3
       ·rw [if_pos c25] at H
        have c25b0 : (a0_0 == 3) = true := beq_iff_eq.mpr c25
        have c25b1 : (a0_0 != 3) = false := bne_eq_false_iff_eq.mpr c25
        clear c25
        (first | rw [c25b0] | (simp only [i64_w, i32_w]; rw [c25b0]) | skip)
        have H' := Aside0.mk H
        clear H
        have hnb26 := NB191_193.out
        have hnc26 := NB193_191.out
        have hcz27_0 : wc.cell? ⟨gb191, 0, none⟩ = some (.int .i64 a0_0) := (blk_cell BK191.out 0).trans rfl
        have hcz27_1 : wc.cell? ⟨gb191, 1, none⟩ = some (.int .i64 a0_1) := (blk_cell BK191.out 1).trans rfl
        have hcz27_2 : wc.cell? ⟨gb191, 2, none⟩ = some (.int .i64 a0_2) := (blk_cell BK191.out 2).trans rfl
        have hcz27_3 : wc.cell? ⟨gb191, 3, none⟩ = some (.int .i64 a0_3) := (blk_cell BK191.out 3).trans rfl
        have hcz27_4 : wc.cell? ⟨gb191, 4, none⟩ = some (.int .i64 a0_4) := (blk_cell BK191.out 4).trans rfl
        have hcz27_5 : wc.cell? ⟨gb191, 5, none⟩ = some (.string a0_5) := (blk_cell BK191.out 5).trans rfl
        have hcz27_6 : wc.cell? ⟨gb191, 6, none⟩ = some (.string a0_6) := (blk_cell BK191.out 6).trans rfl
        have hcz27_7 : wc.cell? ⟨gb191, 7, none⟩ = some (.string a0_7) := (blk_cell BK191.out 7).trans rfl
        have hfz27_0 := blk_frozen BK191.out 0
        have hfz27_1 := blk_frozen BK191.out 1
        have hfz27_2 := blk_frozen BK191.out 2
        have hfz27_3 := blk_frozen BK191.out 3
        have hfz27_4 := blk_frozen BK191.out 4
        have hfz27_5 := blk_frozen BK191.out 5
        have hfz27_6 := blk_frozen BK191.out 6
        have hfz27_7 := blk_frozen BK191.out 7
        go_wp2
        go_meet
        case rel => exact ⟨_, (true), (by first | rfl | (simp; done) | (simp [*]; done)), H', ⟨by have := HJ3.out; have := HJ17.out; first | omega | exact Nat.le_refl _⟩, ⟨by (with_reducible repeat (first | refine blk_drewN ?_ _ | refine blk_drew ?_ | refine blk_alloc ?_ _)); exact BK191.out⟩, ⟨by (with_reducible repeat (first | refine blk_drewN ?_ _ | refine blk_drew ?_ | refine blk_alloc ?_ _)); exact BK193.out⟩, ⟨by exact lT HB (gC GE191 (gC GE193 gN))⟩⟩
       ·rw [if_neg c25] at H
        have c25b0 : (a0_0 == 3) = false := beq_eq_false_iff_ne.mpr c25
        have c25b1 : (a0_0 != 3) = true := bne_iff_ne.mpr c25
        (first | rw [c25b0] | (simp only [i64_w, i32_w]; rw [c25b0]) | skip)
        have H' := Aside0.mk H
        clear H
        have hnb28 := NB191_193.out
        have hnc28 := NB193_191.out
        have hcz29_0 : wc.cell? ⟨gb191, 0, none⟩ = some (.int .i64 a0_0) := (blk_cell BK191.out 0).trans rfl
        have hcz29_1 : wc.cell? ⟨gb191, 1, none⟩ = some (.int .i64 a0_1) := (blk_cell BK191.out 1).trans rfl
        have hcz29_2 : wc.cell? ⟨gb191, 2, none⟩ = some (.int .i64 a0_2) := (blk_cell BK191.out 2).trans rfl
        have hcz29_3 : wc.cell? ⟨gb191, 3, none⟩ = some (.int .i64 a0_3) := (blk_cell BK191.out 3).trans rfl
        have hcz29_4 : wc.cell? ⟨gb191, 4, none⟩ = some (.int .i64 a0_4) := (blk_cell BK191.out 4).trans rfl
        have hcz29_5 : wc.cell? ⟨gb191, 5, none⟩ = some (.string a0_5) := (blk_cell BK191.out 5).trans rfl
        have hcz29_6 : wc.cell? ⟨gb191, 6, none⟩ = some (.string a0_6) := (blk_cell BK191.out 6).trans rfl
        have hcz29_7 : wc.cell? ⟨gb191, 7, none⟩ = some (.string a0_7) := (blk_cell BK191.out 7).trans rfl
        have hfz29_0 := blk_frozen BK191.out 0
        have hfz29_1 := blk_frozen BK191.out 1
        have hfz29_2 := blk_frozen BK191.out 2
        have hfz29_3 := blk_frozen BK191.out 3
        have hfz29_4 := blk_frozen BK191.out 4
        have hfz29_5 := blk_frozen BK191.out 5
        have hfz29_6 := blk_frozen BK191.out 6
        have hfz29_7 := blk_frozen BK191.out 7
        go_wp2
        go_meet
        case rel => exact ⟨_, ((a0_0 == 4)), (by first | rfl | (simp; done) | (simp [*]; done)), H', ⟨by have := HJ3.out; have := HJ17.out; first | omega | exact Nat.le_refl _⟩, ⟨by (with_reducible repeat (first | refine blk_drewN ?_ _ | refine blk_drew ?_ | refine blk_alloc ?_ _)); exact BK191.out⟩, ⟨by (with_reducible repeat (first | refine blk_drewN ?_ _ | refine blk_drew ?_ | refine blk_alloc ?_ _)); exact BK193.out⟩, ⟨by exact lT HB (gC GE191 (gC GE193 gN))⟩⟩
      case rest =>
       clear HC24
       try clear c1
       try clear c2
       try clear p2
       try clear c3
       try clear c6
       try clear c8
       try clear c10
       try clear c10b0
       try clear c10b1
       try clear c11
       try clear c13
       try clear c13b0
       try clear c13b1
       try clear c14
       try clear c16
       try clear c19
       try clear c21
       try clear c25
       try clear c25b0
       try clear c25b1
       try clear c26
       try clear c28
       try clear hcz12_0
       try clear hcz12_1
       try clear hcz12_2
       try clear hcz12_3
       try clear hcz12_4
       try clear hcz12_5
       try clear hcz12_6
       try clear hcz12_7
       try clear hcz15_0
       try clear hcz15_1
       try clear hcz15_2
       try clear hcz15_3
       try clear hcz15_4
       try clear hcz15_5
       try clear hcz15_6
       try clear hcz15_7
       try clear hcz17_0
       try clear hcz17_1
       try clear hcz17_2
       try clear hcz17_3
       try clear hcz17_4
       try clear hcz17_5
       try clear hcz17_6
       try clear hcz17_7
       try clear hcz22_0
       try clear hcz22_1
       try clear hcz22_2
       try clear hcz22_3
       try clear hcz22_4
       try clear hcz22_5
       try clear hcz22_6
       try clear hcz22_7
       try clear hcz23_0
       try clear hcz23_1
       try clear hcz23_2
       try clear hcz23_3
       try clear hcz23_4
       try clear hcz23_5
       try clear hcz23_6
       try clear hcz23_7
       try clear hcz27_0
       try clear hcz27_1
       try clear hcz27_2
       try clear hcz27_3
       try clear hcz27_4
       try clear hcz27_5
       try clear hcz27_6
       try clear hcz27_7
       try clear hcz29_0
       try clear hcz29_1
       try clear hcz29_2
       try clear hcz29_3
       try clear hcz29_4
       try clear hcz29_5
       try clear hcz29_6
       try clear hcz29_7
       try clear hcz6_0
       try clear hcz6_1
       try clear hcz6_2
       try clear hcz6_3
       try clear hcz6_4
       try clear hcz6_5
       try clear hcz6_6
       try clear hcz6_7
       try clear hcz9_0
       try clear hcz9_1
       try clear hcz9_2
       try clear hcz9_3
       try clear hcz9_4
       try clear hcz9_5
       try clear hcz9_6
       try clear hcz9_7
       try clear hfz12_0
       try clear hfz12_1
       try clear hfz12_2
       try clear hfz12_3
       try clear hfz12_4
       try clear hfz12_5
       try clear hfz12_6
       try clear hfz12_7
       try clear hfz15_0
       try clear hfz15_1
       try clear hfz15_2
       try clear hfz15_3
       try clear hfz15_4
       try clear hfz15_5
       try clear hfz15_6
       try clear hfz15_7
       try clear hfz17_0
       try clear hfz17_1
       try clear hfz17_2
       try clear hfz17_3
       try clear hfz17_4
       try clear hfz17_5
       try clear hfz17_6
       try clear hfz17_7
       try clear hfz22_0
       try clear hfz22_1
       try clear hfz22_2
       try clear hfz22_3
       try clear hfz22_4
       try clear hfz22_5
       try clear hfz22_6
       try clear hfz22_7
       try clear hfz23_0
       try clear hfz23_1
       try clear hfz23_2
       try clear hfz23_3
       try clear hfz23_4
       try clear hfz23_5
       try clear hfz23_6
       try clear hfz23_7
       try clear hfz27_0
       try clear hfz27_1
       try clear hfz27_2
       try clear hfz27_3
       try clear hfz27_4
       try clear hfz27_5
       try clear hfz27_6
       try clear hfz27_7
       try clear hfz29_0
       try clear hfz29_1
       try clear hfz29_2
       try clear hfz29_3
       try clear hfz29_4
       try clear hfz29_5
       try clear hfz29_6
       try clear hfz29_7
       try clear hfz6_0
       try clear hfz6_1
       try clear hfz6_2
       try clear hfz6_3
       try clear hfz6_4
       try clear hfz6_5
       try clear hfz6_6
       try clear hfz6_7
       try clear hfz9_0
       try clear hfz9_1
       try clear hfz9_2
       try clear hfz9_3
       try clear hfz9_4
       try clear hfz9_5
       try clear hfz9_6
       try clear hfz9_7
       try clear p2
       obtain ⟨kq, x36_23, rfl, HA, HJ23, BK191, BK193, HB⟩ := hcut
       cases kq with
       | zero => exact absurd HA.out (by simp [impl_RecOk.j2])
       | succ kj23 =>
        have H := HA.out
        clear HA
        simp only [impl_RecOk.j2] at H
        have HC30 := Aside0.mk H
        clear H
        go_upto_if 36 with (fail)
        go_cut [4] (fun v4 wc => ∃ (kq : Nat) (x4_29 : Bool) (x194004_29 : Int), v4 = .bool x4_29 ∧ Aside0 (impl_RecOk.j3 kq x4_29 a0_0 a0_1 a0_2 a0_3 a0_4 a0_5 a0_6 a0_7 0 0 x194002_17 a0_3 x194004_29 a0_5 a0_6 a0_7 = some r) ∧ Aside0 (kq ≤ kj23) ∧ Aside0 (wc.heap[gb191]? = some (.cells #[.int .i64 a0_0, .int .i64 a0_1, .int .i64 a0_2, .int .i64 a0_3, .int .i64 a0_4, .string a0_5, .string a0_6, .string a0_7] 23 (0, 0))) ∧ Aside0 (wc.heap[gb193]? = some (.cells #[.int .i64 0, .int .i64 0, .int .i64 x194002_17, .int .i64 a0_3, .int .i64 x194004_29, .string a0_5, .string a0_6, .string a0_7] 23 (0, 0))) ∧ Aside0 (Below w.heap.size w wc))
        case first =>
         have H := HC30.out
         clear HC30
         by_cases c31 : x36_23 = true
         ·subst c31
          have H1 : (if x4_17 = true then ((impl_in.f a0_4 0 7).bind fun t195 => (impl_RecOk.j3 kj23 t195 a0_0 a0_1 a0_2 a0_3 a0_4 a0_5 a0_6 a0_7 0 0 x194002_17 a0_3 0 a0_5 a0_6 a0_7)) else (impl_RecOk.j3 kj23 false a0_0 a0_1 a0_2 a0_3 a0_4 a0_5 a0_6 a0_7 0 0 x194002_17 a0_3 0 a0_5 a0_6 a0_7)) = some r := by rw [if_pos rfl] at H; exact H
          clear H
          have H := H1
          clear H1
          by_cases c32 : x4_17 = true
          ·subst c32
           have H1 : ((impl_in.f a0_4 0 7).bind fun t195 => (impl_RecOk.j3 kj23 t195 a0_0 a0_1 a0_2 a0_3 a0_4 a0_5 a0_6 a0_7 0 0 x194002_17 a0_3 0 a0_5 a0_6 a0_7)) = some r := by rw [if_pos rfl] at H; exact H
           clear H
           have H := H1
           clear H1
           replace H := Option.bind_eq_some_iff.mp H
           obtain ⟨t195, A330, H⟩ := H
           replace H : (impl_RecOk.j3 kj23 t195 a0_0 a0_1 a0_2 a0_3 a0_4 a0_5 a0_6 a0_7 0 0 x194002_17 a0_3 0 a0_5 a0_6 a0_7) = some r := H
           have A33 := Aside0.mk A330
           clear A330
           have H' := Aside0.mk H
           clear H
           have hnb34 := NB191_193.out
           have hnc34 := NB193_191.out
           have hcz35_0 : wc.cell? ⟨gb191, 0, none⟩ = some (.int .i64 a0_0) := (blk_cell BK191.out 0).trans rfl
           have hcz35_1 : wc.cell? ⟨gb191, 1, none⟩ = some (.int .i64 a0_1) := (blk_cell BK191.out 1).trans rfl
           have hcz35_2 : wc.cell? ⟨gb191, 2, none⟩ = some (.int .i64 a0_2) := (blk_cell BK191.out 2).trans rfl
           have hcz35_3 : wc.cell? ⟨gb191, 3, none⟩ = some (.int .i64 a0_3) := (blk_cell BK191.out 3).trans rfl
           have hcz35_4 : wc.cell? ⟨gb191, 4, none⟩ = some (.int .i64 a0_4) := (blk_cell BK191.out 4).trans rfl
           have hcz35_5 : wc.cell? ⟨gb191, 5, none⟩ = some (.string a0_5) := (blk_cell BK191.out 5).trans rfl
           have hcz35_6 : wc.cell? ⟨gb191, 6, none⟩ = some (.string a0_6) := (blk_cell BK191.out 6).trans rfl
           have hcz35_7 : wc.cell? ⟨gb191, 7, none⟩ = some (.string a0_7) := (blk_cell BK191.out 7).trans rfl
           have hfz35_0 := blk_frozen BK191.out 0
           have hfz35_1 := blk_frozen BK191.out 1
           have hfz35_2 := blk_frozen BK191.out 2
           have hfz35_3 := blk_frozen BK191.out 3
           have hfz35_4 := blk_frozen BK191.out 4
           have hfz35_5 := blk_frozen BK191.out 5
           have hfz35_6 := blk_frozen BK191.out 6
           have hfz35_7 := blk_frozen BK191.out 7
           go_wp2_with (first | (go_at_call 63; (with_reducible refine (impl_in.calls a0_4 0 7 t195 _ A33.out).mono ?_); rintro e w' ⟨rfl, ⟨nd, rfl⟩⟩; (try (rw [drewN_self wc]; generalize hq_ : World.drewN wc _ = wc; have n0_ : Aside0 (wc.heap[gb191]? = some (.cells #[.int .i64 a0_0, .int .i64 a0_1, .int .i64 a0_2, .int .i64 a0_3, .int .i64 a0_4, .string a0_5, .string a0_6, .string a0_7] 23 (0, 0))) := ⟨by rw [← hq_]; exact (bG BK191)⟩; have n1_ : Aside0 (wc.heap[gb193]? = some (.cells #[.int .i64 0, .int .i64 0, .int .i64 x194002_17, .int .i64 a0_3, .int .i64 a0_4, .string a0_5, .string a0_6, .string a0_7] 23 (0, 0))) := ⟨by rw [← hq_]; exact (bG BK193)⟩; have n2_ : Aside0 (Below w.heap.size w wc) := ⟨by rw [← hq_]; exact (lT HB (gC GE191 (gC GE193 gN)))⟩; clear BK191 BK193 HB hq_; have BK191 := n0_; have BK193 := n1_; have HB := n2_; clear n0_ n1_ n2_)); (try (have hy191_0 : wc.cell? ⟨gb191, 0, none⟩ = some (.int .i64 a0_0) := (blk_cell BK191.out 0).trans rfl; have hv191_0 := blk_frozen BK191.out 0; have hy191_1 : wc.cell? ⟨gb191, 1, none⟩ = some (.int .i64 a0_1) := (blk_cell BK191.out 1).trans rfl; have hv191_1 := blk_frozen BK191.out 1; have hy191_2 : wc.cell? ⟨gb191, 2, none⟩ = some (.int .i64 a0_2) := (blk_cell BK191.out 2).trans rfl; have hv191_2 := blk_frozen BK191.out 2; have hy191_3 : wc.cell? ⟨gb191, 3, none⟩ = some (.int .i64 a0_3) := (blk_cell BK191.out 3).trans rfl; have hv191_3 := blk_frozen BK191.out 3; have hy191_4 : wc.cell? ⟨gb191, 4, none⟩ = some (.int .i64 a0_4) := (blk_cell BK191.out 4).trans rfl; have hv191_4 := blk_frozen BK191.out 4; have hy191_5 : wc.cell? ⟨gb191, 5, none⟩ = some (.string a0_5) := (blk_cell BK191.out 5).trans rfl; have hv191_5 := blk_frozen BK191.out 5; have hy191_6 : wc.cell? ⟨gb191, 6, none⟩ = some (.string a0_6) := (blk_cell BK191.out 6).trans rfl; have hv191_6 := blk_frozen BK191.out 6; have hy191_7 : wc.cell? ⟨gb191, 7, none⟩ = some (.string a0_7) := (blk_cell BK191.out 7).trans rfl; have hv191_7 := blk_frozen BK191.out 7)); (try (have hy193_0 : wc.cell? ⟨gb193, 0, none⟩ = some (.int .i64 0) := (blk_cell BK193.out 0).trans rfl; have hv193_0 := blk_frozen BK193.out 0; have hy193_1 : wc.cell? ⟨gb193, 1, none⟩ = some (.int .i64 0) := (blk_cell BK193.out 1).trans rfl; have hv193_1 := blk_frozen BK193.out 1; have hy193_2 : wc.cell? ⟨gb193, 2, none⟩ = some (.int .i64 x194002_17) := (blk_cell BK193.out 2).trans rfl; have hv193_2 := blk_frozen BK193.out 2; have hy193_3 : wc.cell? ⟨gb193, 3, none⟩ = some (.int .i64 a0_3) := (blk_cell BK193.out 3).trans rfl; have hv193_3 := blk_frozen BK193.out 3; have hy193_4 : wc.cell? ⟨gb193, 4, none⟩ = some (.int .i64 a0_4) := (blk_cell BK193.out 4).trans rfl; have hv193_4 := blk_frozen BK193.out 4; have hy193_5 : wc.cell? ⟨gb193, 5, none⟩ = some (.string a0_5) := (blk_cell BK193.out 5).trans rfl; have hv193_5 := blk_frozen BK193.out 5; have hy193_6 : wc.cell? ⟨gb193, 6, none⟩ = some (.string a0_6) := (blk_cell BK193.out 6).trans rfl; have hv193_6 := blk_frozen BK193.out 6; have hy193_7 : wc.cell? ⟨gb193, 7, none⟩ = some (.string a0_7) := (blk_cell BK193.out 7).trans rfl; have hv193_7 := blk_frozen BK193.out 7)); have hcz36_0 : wc.cell? ⟨gb193, 0, none⟩ = some (.int .i64 0) := (blk_cell BK193.out 0).trans rfl; have hcz36_1 : wc.cell? ⟨gb193, 1, none⟩ = some (.int .i64 0) := (blk_cell BK193.out 1).trans rfl; have hcz36_2 : wc.cell? ⟨gb193, 2, none⟩ = some (.int .i64 x194002_17) := (blk_cell BK193.out 2).trans rfl; have hcz36_3 : wc.cell? ⟨gb193, 3, none⟩ = some (.int .i64 a0_3) := (blk_cell BK193.out 3).trans rfl; have hcz36_4 : wc.cell? ⟨gb193, 4, none⟩ = some (.int .i64 a0_4) := (blk_cell BK193.out 4).trans rfl; have hcz36_5 : wc.cell? ⟨gb193, 5, none⟩ = some (.string a0_5) := (blk_cell BK193.out 5).trans rfl; have hcz36_6 : wc.cell? ⟨gb193, 6, none⟩ = some (.string a0_6) := (blk_cell BK193.out 6).trans rfl; have hcz36_7 : wc.cell? ⟨gb193, 7, none⟩ = some (.string a0_7) := (blk_cell BK193.out 7).trans rfl; have hfz36_0 := blk_frozen BK193.out 0; have hfz36_1 := blk_frozen BK193.out 1; have hfz36_2 := blk_frozen BK193.out 2; have hfz36_3 := blk_frozen BK193.out 3; have hfz36_4 := blk_frozen BK193.out 4; have hfz36_5 := blk_frozen BK193.out 5; have hfz36_6 := blk_frozen BK193.out 6; have hfz36_7 := blk_frozen BK193.out 7))
           go_meet
           case rel => exact ⟨_, (t195), (0), (by first | rfl | (simp; done) | (simp [*]; done)), H', ⟨by have := HJ3.out; have := HJ17.out; have := HJ23.out; first | omega | exact Nat.le_refl _⟩, ⟨by (with_reducible repeat (first | refine blk_drewN ?_ _ | refine blk_drew ?_ | refine blk_alloc ?_ _)); refine blk_far ?_ NB191_193.out _; (with_reducible repeat (first | refine blk_drewN ?_ _ | refine blk_drew ?_ | refine blk_alloc ?_ _)); exact BK191.out⟩, ⟨by (with_reducible repeat (first | refine blk_drewN ?_ _ | refine blk_drew ?_ | refine blk_alloc ?_ _)); refine blk_put (cs := #[.int .i64 0, .int .i64 0, .int .i64 x194002_17, .int .i64 a0_3, .int .i64 a0_4, .string a0_5, .string a0_6, .string a0_7]) ?_ 4 _ rfl; (with_reducible repeat (first | refine blk_drewN ?_ _ | refine blk_drew ?_ | refine blk_alloc ?_ _)); exact BK193.out⟩, ⟨by exact lT HB (gC GE191 (gC GE193 gN))⟩⟩
          ·replace c32 := Bool.eq_false_iff.mpr c32
           subst c32
           have H1 : (impl_RecOk.j3 kj23 false a0_0 a0_1 a0_2 a0_3 a0_4 a0_5 a0_6 a0_7 0 0 x194002_17 a0_3 0 a0_5 a0_6 a0_7) = some r := by rw [if_neg (show ¬ (false = true) by decide)] at H; exact H
           clear H
           have H := H1
           clear H1
           have H' := Aside0.mk H
           clear H
           have hnb37 := NB193_191.out
           have hnc37 := NB191_193.out
           have hcz38_0 : wc.cell? ⟨gb193, 0, none⟩ = some (.int .i64 0) := (blk_cell BK193.out 0).trans rfl
           have hcz38_1 : wc.cell? ⟨gb193, 1, none⟩ = some (.int .i64 0) := (blk_cell BK193.out 1).trans rfl
           have hcz38_2 : wc.cell? ⟨gb193, 2, none⟩ = some (.int .i64 x194002_17) := (blk_cell BK193.out 2).trans rfl
           have hcz38_3 : wc.cell? ⟨gb193, 3, none⟩ = some (.int .i64 a0_3) := (blk_cell BK193.out 3).trans rfl
           have hcz38_4 : wc.cell? ⟨gb193, 4, none⟩ = some (.int .i64 a0_4) := (blk_cell BK193.out 4).trans rfl
           have hcz38_5 : wc.cell? ⟨gb193, 5, none⟩ = some (.string a0_5) := (blk_cell BK193.out 5).trans rfl
           have hcz38_6 : wc.cell? ⟨gb193, 6, none⟩ = some (.string a0_6) := (blk_cell BK193.out 6).trans rfl
           have hcz38_7 : wc.cell? ⟨gb193, 7, none⟩ = some (.string a0_7) := (blk_cell BK193.out 7).trans rfl
           have hfz38_0 := blk_frozen BK193.out 0
           have hfz38_1 := blk_frozen BK193.out 1
           have hfz38_2 := blk_frozen BK193.out 2
           have hfz38_3 := blk_frozen BK193.out 3
           have hfz38_4 := blk_frozen BK193.out 4
           have hfz38_5 := blk_frozen BK193.out 5
           have hfz38_6 := blk_frozen BK193.out 6
           have hfz38_7 := blk_frozen BK193.out 7
           go_wp2
           go_meet
           case rel => exact ⟨_, (false), (0), (by first | rfl | (simp; done) | (simp [*]; done)), H', ⟨by have := HJ3.out; have := HJ17.out; have := HJ23.out; first | omega | exact Nat.le_refl _⟩, ⟨by (with_reducible repeat (first | refine blk_drewN ?_ _ | refine blk_drew ?_ | refine blk_alloc ?_ _)); refine blk_far ?_ NB191_193.out _; (with_reducible repeat (first | refine blk_drewN ?_ _ | refine blk_drew ?_ | refine blk_alloc ?_ _)); exact BK191.out⟩, ⟨by (with_reducible repeat (first | refine blk_drewN ?_ _ | refine blk_drew ?_ | refine blk_alloc ?_ _)); refine blk_put (cs := #[.int .i64 0, .int .i64 0, .int .i64 x194002_17, .int .i64 a0_3, .int .i64 a0_4, .string a0_5, .string a0_6, .string a0_7]) ?_ 4 _ rfl; (with_reducible repeat (first | refine blk_drewN ?_ _ | refine blk_drew ?_ | refine blk_alloc ?_ _)); exact BK193.out⟩, ⟨by exact lT HB (gC GE191 (gC GE193 gN))⟩⟩
         ·replace c31 := Bool.eq_false_iff.mpr c31
          subst c31
          have H1 : (impl_RecOk.j3 kj23 x4_17 a0_0 a0_1 a0_2 a0_3 a0_4 a0_5 a0_6 a0_7 0 0 x194002_17 a0_3 a0_4 a0_5 a0_6 a0_7) = some r := by rw [if_neg (show ¬ (false = true) by decide)] at H; exact H
          clear H
          have H := H1
          clear H1
          have H' := Aside0.mk H
          clear H
          go_wp2
          go_meet
          case rel => exact ⟨_, (x4_17), (a0_4), (by first | rfl | (simp; done) | (simp [*]; done)), H', ⟨by have := HJ3.out; have := HJ17.out; have := HJ23.out; first | omega | exact Nat.le_refl _⟩, ⟨by (with_reducible repeat (first | refine blk_drewN ?_ _ | refine blk_drew ?_ | refine blk_alloc ?_ _)); exact BK191.out⟩, ⟨by (with_reducible repeat (first | refine blk_drewN ?_ _ | refine blk_drew ?_ | refine blk_alloc ?_ _)); exact BK193.out⟩, ⟨by exact lT HB (gC GE191 (gC GE193 gN))⟩⟩
        case rest =>
         clear HC30
         try clear c1
         try clear c2
         try clear p2
         try clear c3
         try clear c6
         try clear c8
         try clear c10
         try clear c10b0
         try clear c10b1
         try clear c11
         try clear c13
         try clear c13b0
         try clear c13b1
         try clear c14
         try clear c16
         try clear c19
         try clear c21
         try clear c25
         try clear c25b0
         try clear c25b1
         try clear c26
         try clear c28
         try clear c31
         try clear c32
         try clear c34
         try clear c37
         try clear hcz12_0
         try clear hcz12_1
         try clear hcz12_2
         try clear hcz12_3
         try clear hcz12_4
         try clear hcz12_5
         try clear hcz12_6
         try clear hcz12_7
         try clear hcz15_0
         try clear hcz15_1
         try clear hcz15_2
         try clear hcz15_3
         try clear hcz15_4
         try clear hcz15_5
         try clear hcz15_6
         try clear hcz15_7
         try clear hcz17_0
         try clear hcz17_1
         try clear hcz17_2
         try clear hcz17_3
         try clear hcz17_4
         try clear hcz17_5
         try clear hcz17_6
         try clear hcz17_7
         try clear hcz22_0
         try clear hcz22_1
         try clear hcz22_2
         try clear hcz22_3
         try clear hcz22_4
         try clear hcz22_5
         try clear hcz22_6
         try clear hcz22_7
         try clear hcz23_0
         try clear hcz23_1
         try clear hcz23_2
         try clear hcz23_3
         try clear hcz23_4
         try clear hcz23_5
         try clear hcz23_6
         try clear hcz23_7
         try clear hcz27_0
         try clear hcz27_1
         try clear hcz27_2
         try clear hcz27_3
         try clear hcz27_4
         try clear hcz27_5
         try clear hcz27_6
         try clear hcz27_7
         try clear hcz29_0
         try clear hcz29_1
         try clear hcz29_2
         try clear hcz29_3
         try clear hcz29_4
         try clear hcz29_5
         try clear hcz29_6
         try clear hcz29_7
         try clear hcz35_0
         try clear hcz35_1
         try clear hcz35_2
         try clear hcz35_3
         try clear hcz35_4
         try clear hcz35_5
         try clear hcz35_6
         try clear hcz35_7
         try clear hcz36_0
         try clear hcz36_1
         try clear hcz36_2
         try clear hcz36_3
         try clear hcz36_4
         try clear hcz36_5
         try clear hcz36_6
         try clear hcz36_7
         try clear hcz38_0
         try clear hcz38_1
         try clear hcz38_2
         try clear hcz38_3
         try clear hcz38_4
         try clear hcz38_5
         try clear hcz38_6
         try clear hcz38_7
         try clear hcz6_0
         try clear hcz6_1
         try clear hcz6_2
         try clear hcz6_3
         try clear hcz6_4
         try clear hcz6_5
         try clear hcz6_6
         try clear hcz6_7
         try clear hcz9_0
         try clear hcz9_1
         try clear hcz9_2
         try clear hcz9_3
         try clear hcz9_4
         try clear hcz9_5
         try clear hcz9_6
         try clear hcz9_7
         try clear hfz12_0
         try clear hfz12_1
         try clear hfz12_2
         try clear hfz12_3
         try clear hfz12_4
         try clear hfz12_5
         try clear hfz12_6
         try clear hfz12_7
         try clear hfz15_0
         try clear hfz15_1
         try clear hfz15_2
         try clear hfz15_3
         try clear hfz15_4
         try clear hfz15_5
         try clear hfz15_6
         try clear hfz15_7
         try clear hfz17_0
         try clear hfz17_1
         try clear hfz17_2
         try clear hfz17_3
         try clear hfz17_4
         try clear hfz17_5
         try clear hfz17_6
         try clear hfz17_7
         try clear hfz22_0
         try clear hfz22_1
         try clear hfz22_2
         try clear hfz22_3
         try clear hfz22_4
         try clear hfz22_5
         try clear hfz22_6
         try clear hfz22_7
         try clear hfz23_0
         try clear hfz23_1
         try clear hfz23_2
         try clear hfz23_3
         try clear hfz23_4
         try clear hfz23_5
         try clear hfz23_6
         try clear hfz23_7
         try clear hfz27_0
         try clear hfz27_1
         try clear hfz27_2
         try clear hfz27_3
         try clear hfz27_4
         try clear hfz27_5
         try clear hfz27_6
         try clear hfz27_7
         try clear hfz29_0
         try clear hfz29_1
         try clear hfz29_2
         try clear hfz29_3
         try clear hfz29_4
         try clear hfz29_5
         try clear hfz29_6
         try clear hfz29_7
         try clear hfz35_0
         try clear hfz35_1
         try clear hfz35_2
         try clear hfz35_3
         try clear hfz35_4
         try clear hfz35_5
         try clear hfz35_6
         try clear hfz35_7
         try clear hfz36_0
         try clear hfz36_1
         try clear hfz36_2
         try clear hfz36_3
         try clear hfz36_4
         try clear hfz36_5
         try clear hfz36_6
         try clear hfz36_7
         try clear hfz38_0
         try clear hfz38_1
         try clear hfz38_2
         try clear hfz38_3
         try clear hfz38_4
         try clear hfz38_5
         try clear hfz38_6
         try clear hfz38_7
         try clear hfz6_0
         try clear hfz6_1
         try clear hfz6_2
         try clear hfz6_3
         try clear hfz6_4
         try clear hfz6_5
         try clear hfz6_6
         try clear hfz6_7
         try clear hfz9_0
         try clear hfz9_1
         try clear hfz9_2
         try clear hfz9_3
         try clear hfz9_4
         try clear hfz9_5
         try clear hfz9_6
         try clear hfz9_7
         try clear p2
         obtain ⟨kq, x4_29, x194004_29, rfl, HA, HJ29, BK191, BK193, HB⟩ := hcut
         cases kq with
         | zero => exact absurd HA.out (by simp [impl_RecOk.j3])
         | succ kj29 =>
          have H := HA.out
          clear HA
          simp only [impl_RecOk.j3] at H
          by_cases c39 : a0_0 = 1
          ·rw [if_pos c39] at H
           have c39b0 : (a0_0 == 1) = true := beq_iff_eq.mpr c39
           have c39b1 : (a0_0 != 1) = false := bne_eq_false_iff_eq.mpr c39
           clear c39
           replace H := Option.bind_eq_some_iff.mp H
           obtain ⟨t196, A400, H⟩ := H
           replace H : (if t196 = true then ((impl_WordOk.f kj29 a0_6).bind fun t197 => (if t197 = true then ((impl_in.f a0_3 1 10000).bind fun t198 => (if t198 = true then (some (0 == 0 && (0 == 0 && (x194002_17 == 0 && (x194004_29 == 0 && (a0_7.toList == ([] : List UInt8))))))) else (some false))) else (some false))) else (some false)) = some r := H
           have A40 := Aside0.mk A400
           clear A400
           by_cases c41 : t196 = true
           ·subst c41
            have H1 : ((impl_WordOk.f kj29 a0_6).bind fun t197 => (if t197 = true then ((impl_in.f a0_3 1 10000).bind fun t198 => (if t198 = true then (some (0 == 0 && (0 == 0 && (x194002_17 == 0 && (x194004_29 == 0 && (a0_7.toList == ([] : List UInt8))))))) else (some false))) else (some false))) = some r := by rw [if_pos rfl] at H; exact H
            clear H
            have H := H1
            clear H1
            replace H := Option.bind_eq_some_iff.mp H
            obtain ⟨t197, A420, H⟩ := H
            replace H : (if t197 = true then ((impl_in.f a0_3 1 10000).bind fun t198 => (if t198 = true then (some (0 == 0 && (0 == 0 && (x194002_17 == 0 && (x194004_29 == 0 && (a0_7.toList == ([] : List UInt8))))))) else (some false))) else (some false)) = some r := H
            have A42 := Aside0.mk A420
            clear A420
            by_cases c43 : t197 = true
            ·subst c43
             have H1 : ((impl_in.f a0_3 1 10000).bind fun t198 => (if t198 = true then (some (0 == 0 && (0 == 0 && (x194002_17 == 0 && (x194004_29 == 0 && (a0_7.toList == ([] : List UInt8))))))) else (some false))) = some r := by rw [if_pos rfl] at H; exact H
             clear H
             have H := H1
             clear H1
             replace H := Option.bind_eq_some_iff.mp H
             obtain ⟨t198, A440, H⟩ := H
             replace H : (if t198 = true then (some (0 == 0 && (0 == 0 && (x194002_17 == 0 && (x194004_29 == 0 && (a0_7.toList == ([] : List UInt8))))))) else (some false)) = some r := H
             have A44 := Aside0.mk A440
             clear A440
             by_cases c45 : t198 = true
             ·subst c45
              have H1 : (some (0 == 0 && (0 == 0 && (x194002_17 == 0 && (x194004_29 == 0 && (a0_7.toList == ([] : List UInt8))))))) = some r := by rw [if_pos rfl] at H; exact H
              clear H
              have H := H1
              clear H1
              obtain rfl := Option.some.inj H
              have hnb46 := NB191_193.out
              have hnc46 := NB193_191.out
              have hcz47_0 : wc.cell? ⟨gb191, 0, none⟩ = some (.int .i64 a0_0) := (blk_cell BK191.out 0).trans rfl
              have hcz47_1 : wc.cell? ⟨gb191, 1, none⟩ = some (.int .i64 a0_1) := (blk_cell BK191.out 1).trans rfl
              have hcz47_2 : wc.cell? ⟨gb191, 2, none⟩ = some (.int .i64 a0_2) := (blk_cell BK191.out 2).trans rfl
              have hcz47_3 : wc.cell? ⟨gb191, 3, none⟩ = some (.int .i64 a0_3) := (blk_cell BK191.out 3).trans rfl
              have hcz47_4 : wc.cell? ⟨gb191, 4, none⟩ = some (.int .i64 a0_4) := (blk_cell BK191.out 4).trans rfl
              have hcz47_5 : wc.cell? ⟨gb191, 5, none⟩ = some (.string a0_5) := (blk_cell BK191.out 5).trans rfl
              have hcz47_6 : wc.cell? ⟨gb191, 6, none⟩ = some (.string a0_6) := (blk_cell BK191.out 6).trans rfl
              have hcz47_7 : wc.cell? ⟨gb191, 7, none⟩ = some (.string a0_7) := (blk_cell BK191.out 7).trans rfl
              have hfz47_0 := blk_frozen BK191.out 0
              have hfz47_1 := blk_frozen BK191.out 1
              have hfz47_2 := blk_frozen BK191.out 2
              have hfz47_3 := blk_frozen BK191.out 3
              have hfz47_4 := blk_frozen BK191.out 4
              have hfz47_5 := blk_frozen BK191.out 5
              have hfz47_6 := blk_frozen BK191.out 6
              have hfz47_7 := blk_frozen BK191.out 7
              go_wp2_with (first | ((with_reducible refine gate_callee (f := 31) rfl ?_); refine gl (some 50) Try.func31 #[.string a0_5] ?_; (with_reducible refine (impl_WordOk.calls kj29 a0_5 true _ A40.out).mono ?_); rintro e w' ⟨rfl, ⟨nd, rfl⟩⟩; refine ⟨_, rfl, ?_⟩; (try (rw [drewN_self wc]; generalize hq_ : World.drewN wc _ = wc; have n0_ : Aside0 (wc.heap[gb191]? = some (.cells #[.int .i64 a0_0, .int .i64 a0_1, .int .i64 a0_2, .int .i64 a0_3, .int .i64 a0_4, .string a0_5, .string a0_6, .string a0_7] 23 (0, 0))) := ⟨by rw [← hq_]; exact (bG BK191)⟩; have n1_ : Aside0 (wc.heap[gb193]? = some (.cells #[.int .i64 0, .int .i64 0, .int .i64 x194002_17, .int .i64 a0_3, .int .i64 x194004_29, .string a0_5, .string a0_6, .string a0_7] 23 (0, 0))) := ⟨by rw [← hq_]; exact (bG BK193)⟩; have n2_ : Aside0 (Below w.heap.size w wc) := ⟨by rw [← hq_]; exact (lT HB (gC GE191 (gC GE193 gN)))⟩; clear BK191 BK193 HB hq_; have BK191 := n0_; have BK193 := n1_; have HB := n2_; clear n0_ n1_ n2_)); (try (have hy191_0 : wc.cell? ⟨gb191, 0, none⟩ = some (.int .i64 a0_0) := (blk_cell BK191.out 0).trans rfl; have hv191_0 := blk_frozen BK191.out 0; have hy191_1 : wc.cell? ⟨gb191, 1, none⟩ = some (.int .i64 a0_1) := (blk_cell BK191.out 1).trans rfl; have hv191_1 := blk_frozen BK191.out 1; have hy191_2 : wc.cell? ⟨gb191, 2, none⟩ = some (.int .i64 a0_2) := (blk_cell BK191.out 2).trans rfl; have hv191_2 := blk_frozen BK191.out 2; have hy191_3 : wc.cell? ⟨gb191, 3, none⟩ = some (.int .i64 a0_3) := (blk_cell BK191.out 3).trans rfl; have hv191_3 := blk_frozen BK191.out 3; have hy191_4 : wc.cell? ⟨gb191, 4, none⟩ = some (.int .i64 a0_4) := (blk_cell BK191.out 4).trans rfl; have hv191_4 := blk_frozen BK191.out 4; have hy191_5 : wc.cell? ⟨gb191, 5, none⟩ = some (.string a0_5) := (blk_cell BK191.out 5).trans rfl; have hv191_5 := blk_frozen BK191.out 5; have hy191_6 : wc.cell? ⟨gb191, 6, none⟩ = some (.string a0_6) := (blk_cell BK191.out 6).trans rfl; have hv191_6 := blk_frozen BK191.out 6; have hy191_7 : wc.cell? ⟨gb191, 7, none⟩ = some (.string a0_7) := (blk_cell BK191.out 7).trans rfl; have hv191_7 := blk_frozen BK191.out 7)); (try (have hy193_0 : wc.cell? ⟨gb193, 0, none⟩ = some (.int .i64 0) := (blk_cell BK193.out 0).trans rfl; have hv193_0 := blk_frozen BK193.out 0; have hy193_1 : wc.cell? ⟨gb193, 1, none⟩ = some (.int .i64 0) := (blk_cell BK193.out 1).trans rfl; have hv193_1 := blk_frozen BK193.out 1; have hy193_2 : wc.cell? ⟨gb193, 2, none⟩ = some (.int .i64 x194002_17) := (blk_cell BK193.out 2).trans rfl; have hv193_2 := blk_frozen BK193.out 2; have hy193_3 : wc.cell? ⟨gb193, 3, none⟩ = some (.int .i64 a0_3) := (blk_cell BK193.out 3).trans rfl; have hv193_3 := blk_frozen BK193.out 3; have hy193_4 : wc.cell? ⟨gb193, 4, none⟩ = some (.int .i64 x194004_29) := (blk_cell BK193.out 4).trans rfl; have hv193_4 := blk_frozen BK193.out 4; have hy193_5 : wc.cell? ⟨gb193, 5, none⟩ = some (.string a0_5) := (blk_cell BK193.out 5).trans rfl; have hv193_5 := blk_frozen BK193.out 5; have hy193_6 : wc.cell? ⟨gb193, 6, none⟩ = some (.string a0_6) := (blk_cell BK193.out 6).trans rfl; have hv193_6 := blk_frozen BK193.out 6; have hy193_7 : wc.cell? ⟨gb193, 7, none⟩ = some (.string a0_7) := (blk_cell BK193.out 7).trans rfl; have hv193_7 := blk_frozen BK193.out 7))) | (go_at_call 31; (with_reducible refine (impl_WordOk.calls kj29 a0_6 true _ A42.out).mono ?_); rintro e w' ⟨rfl, ⟨nd, rfl⟩⟩; (try (rw [drewN_self wc]; generalize hq_ : World.drewN wc _ = wc; have n0_ : Aside0 (wc.heap[gb191]? = some (.cells #[.int .i64 a0_0, .int .i64 a0_1, .int .i64 a0_2, .int .i64 a0_3, .int .i64 a0_4, .string a0_5, .string a0_6, .string a0_7] 23 (0, 0))) := ⟨by rw [← hq_]; exact (bG BK191)⟩; have n1_ : Aside0 (wc.heap[gb193]? = some (.cells #[.int .i64 0, .int .i64 0, .int .i64 x194002_17, .int .i64 a0_3, .int .i64 x194004_29, .string a0_5, .string a0_6, .string a0_7] 23 (0, 0))) := ⟨by rw [← hq_]; exact (bG BK193)⟩; have n2_ : Aside0 (Below w.heap.size w wc) := ⟨by rw [← hq_]; exact (lT HB (gC GE191 (gC GE193 gN)))⟩; clear BK191 BK193 HB hq_; have BK191 := n0_; have BK193 := n1_; have HB := n2_; clear n0_ n1_ n2_)); (try (have hy191_0 : wc.cell? ⟨gb191, 0, none⟩ = some (.int .i64 a0_0) := (blk_cell BK191.out 0).trans rfl; have hv191_0 := blk_frozen BK191.out 0; have hy191_1 : wc.cell? ⟨gb191, 1, none⟩ = some (.int .i64 a0_1) := (blk_cell BK191.out 1).trans rfl; have hv191_1 := blk_frozen BK191.out 1; have hy191_2 : wc.cell? ⟨gb191, 2, none⟩ = some (.int .i64 a0_2) := (blk_cell BK191.out 2).trans rfl; have hv191_2 := blk_frozen BK191.out 2; have hy191_3 : wc.cell? ⟨gb191, 3, none⟩ = some (.int .i64 a0_3) := (blk_cell BK191.out 3).trans rfl; have hv191_3 := blk_frozen BK191.out 3; have hy191_4 : wc.cell? ⟨gb191, 4, none⟩ = some (.int .i64 a0_4) := (blk_cell BK191.out 4).trans rfl; have hv191_4 := blk_frozen BK191.out 4; have hy191_5 : wc.cell? ⟨gb191, 5, none⟩ = some (.string a0_5) := (blk_cell BK191.out 5).trans rfl; have hv191_5 := blk_frozen BK191.out 5; have hy191_6 : wc.cell? ⟨gb191, 6, none⟩ = some (.string a0_6) := (blk_cell BK191.out 6).trans rfl; have hv191_6 := blk_frozen BK191.out 6; have hy191_7 : wc.cell? ⟨gb191, 7, none⟩ = some (.string a0_7) := (blk_cell BK191.out 7).trans rfl; have hv191_7 := blk_frozen BK191.out 7)); (try (have hy193_0 : wc.cell? ⟨gb193, 0, none⟩ = some (.int .i64 0) := (blk_cell BK193.out 0).trans rfl; have hv193_0 := blk_frozen BK193.out 0; have hy193_1 : wc.cell? ⟨gb193, 1, none⟩ = some (.int .i64 0) := (blk_cell BK193.out 1).trans rfl; have hv193_1 := blk_frozen BK193.out 1; have hy193_2 : wc.cell? ⟨gb193, 2, none⟩ = some (.int .i64 x194002_17) := (blk_cell BK193.out 2).trans rfl; have hv193_2 := blk_frozen BK193.out 2; have hy193_3 : wc.cell? ⟨gb193, 3, none⟩ = some (.int .i64 a0_3) := (blk_cell BK193.out 3).trans rfl; have hv193_3 := blk_frozen BK193.out 3; have hy193_4 : wc.cell? ⟨gb193, 4, none⟩ = some (.int .i64 x194004_29) := (blk_cell BK193.out 4).trans rfl; have hv193_4 := blk_frozen BK193.out 4; have hy193_5 : wc.cell? ⟨gb193, 5, none⟩ = some (.string a0_5) := (blk_cell BK193.out 5).trans rfl; have hv193_5 := blk_frozen BK193.out 5; have hy193_6 : wc.cell? ⟨gb193, 6, none⟩ = some (.string a0_6) := (blk_cell BK193.out 6).trans rfl; have hv193_6 := blk_frozen BK193.out 6; have hy193_7 : wc.cell? ⟨gb193, 7, none⟩ = some (.string a0_7) := (blk_cell BK193.out 7).trans rfl; have hv193_7 := blk_frozen BK193.out 7))) | (go_at_call 63; (with_reducible refine (impl_in.calls a0_3 1 10000 true _ A44.out).mono ?_); rintro e w' ⟨rfl, ⟨nd, rfl⟩⟩; (try (rw [drewN_self wc]; generalize hq_ : World.drewN wc _ = wc; have n0_ : Aside0 (wc.heap[gb191]? = some (.cells #[.int .i64 a0_0, .int .i64 a0_1, .int .i64 a0_2, .int .i64 a0_3, .int .i64 a0_4, .string a0_5, .string a0_6, .string a0_7] 23 (0, 0))) := ⟨by rw [← hq_]; exact (bG BK191)⟩; have n1_ : Aside0 (wc.heap[gb193]? = some (.cells #[.int .i64 0, .int .i64 0, .int .i64 x194002_17, .int .i64 a0_3, .int .i64 x194004_29, .string a0_5, .string a0_6, .string a0_7] 23 (0, 0))) := ⟨by rw [← hq_]; exact (bG BK193)⟩; have n2_ : Aside0 (Below w.heap.size w wc) := ⟨by rw [← hq_]; exact (lT HB (gC GE191 (gC GE193 gN)))⟩; clear BK191 BK193 HB hq_; have BK191 := n0_; have BK193 := n1_; have HB := n2_; clear n0_ n1_ n2_)); (try (have hy191_0 : wc.cell? ⟨gb191, 0, none⟩ = some (.int .i64 a0_0) := (blk_cell BK191.out 0).trans rfl; have hv191_0 := blk_frozen BK191.out 0; have hy191_1 : wc.cell? ⟨gb191, 1, none⟩ = some (.int .i64 a0_1) := (blk_cell BK191.out 1).trans rfl; have hv191_1 := blk_frozen BK191.out 1; have hy191_2 : wc.cell? ⟨gb191, 2, none⟩ = some (.int .i64 a0_2) := (blk_cell BK191.out 2).trans rfl; have hv191_2 := blk_frozen BK191.out 2; have hy191_3 : wc.cell? ⟨gb191, 3, none⟩ = some (.int .i64 a0_3) := (blk_cell BK191.out 3).trans rfl; have hv191_3 := blk_frozen BK191.out 3; have hy191_4 : wc.cell? ⟨gb191, 4, none⟩ = some (.int .i64 a0_4) := (blk_cell BK191.out 4).trans rfl; have hv191_4 := blk_frozen BK191.out 4; have hy191_5 : wc.cell? ⟨gb191, 5, none⟩ = some (.string a0_5) := (blk_cell BK191.out 5).trans rfl; have hv191_5 := blk_frozen BK191.out 5; have hy191_6 : wc.cell? ⟨gb191, 6, none⟩ = some (.string a0_6) := (blk_cell BK191.out 6).trans rfl; have hv191_6 := blk_frozen BK191.out 6; have hy191_7 : wc.cell? ⟨gb191, 7, none⟩ = some (.string a0_7) := (blk_cell BK191.out 7).trans rfl; have hv191_7 := blk_frozen BK191.out 7)); (try (have hy193_0 : wc.cell? ⟨gb193, 0, none⟩ = some (.int .i64 0) := (blk_cell BK193.out 0).trans rfl; have hv193_0 := blk_frozen BK193.out 0; have hy193_1 : wc.cell? ⟨gb193, 1, none⟩ = some (.int .i64 0) := (blk_cell BK193.out 1).trans rfl; have hv193_1 := blk_frozen BK193.out 1; have hy193_2 : wc.cell? ⟨gb193, 2, none⟩ = some (.int .i64 x194002_17) := (blk_cell BK193.out 2).trans rfl; have hv193_2 := blk_frozen BK193.out 2; have hy193_3 : wc.cell? ⟨gb193, 3, none⟩ = some (.int .i64 a0_3) := (blk_cell BK193.out 3).trans rfl; have hv193_3 := blk_frozen BK193.out 3; have hy193_4 : wc.cell? ⟨gb193, 4, none⟩ = some (.int .i64 x194004_29) := (blk_cell BK193.out 4).trans rfl; have hv193_4 := blk_frozen BK193.out 4; have hy193_5 : wc.cell? ⟨gb193, 5, none⟩ = some (.string a0_5) := (blk_cell BK193.out 5).trans rfl; have hv193_5 := blk_frozen BK193.out 5; have hy193_6 : wc.cell? ⟨gb193, 6, none⟩ = some (.string a0_6) := (blk_cell BK193.out 6).trans rfl; have hv193_6 := blk_frozen BK193.out 6; have hy193_7 : wc.cell? ⟨gb193, 7, none⟩ = some (.string a0_7) := (blk_cell BK193.out 7).trans rfl; have hv193_7 := blk_frozen BK193.out 7)); have hcz48_0 : wc.cell? ⟨gb193, 0, none⟩ = some (.int .i64 0) := (blk_cell BK193.out 0).trans rfl; have hcz48_1 : wc.cell? ⟨gb193, 1, none⟩ = some (.int .i64 0) := (blk_cell BK193.out 1).trans rfl; have hcz48_2 : wc.cell? ⟨gb193, 2, none⟩ = some (.int .i64 x194002_17) := (blk_cell BK193.out 2).trans rfl; have hcz48_3 : wc.cell? ⟨gb193, 3, none⟩ = some (.int .i64 a0_3) := (blk_cell BK193.out 3).trans rfl; have hcz48_4 : wc.cell? ⟨gb193, 4, none⟩ = some (.int .i64 x194004_29) := (blk_cell BK193.out 4).trans rfl; have hcz48_5 : wc.cell? ⟨gb193, 5, none⟩ = some (.string a0_5) := (blk_cell BK193.out 5).trans rfl; have hcz48_6 : wc.cell? ⟨gb193, 6, none⟩ = some (.string a0_6) := (blk_cell BK193.out 6).trans rfl; have hcz48_7 : wc.cell? ⟨gb193, 7, none⟩ = some (.string a0_7) := (blk_cell BK193.out 7).trans rfl; have hfz48_0 := blk_frozen BK193.out 0; have hfz48_1 := blk_frozen BK193.out 1; have hfz48_2 := blk_frozen BK193.out 2; have hfz48_3 := blk_frozen BK193.out 3; have hfz48_4 := blk_frozen BK193.out 4; have hfz48_5 := blk_frozen BK193.out 5; have hfz48_6 := blk_frozen BK193.out 6; have hfz48_7 := blk_frozen BK193.out 7))
              go_ret
              exact ⟨by first | rfl | (simp [errW_none, errW_some] <;> rfl) | (simp [*, errW_none, errW_some] <;> rfl), by exact lT HB (gC GE191 (gC GE193 gN))⟩
             ·replace c45 := Bool.eq_false_iff.mpr c45
              subst c45
              have H1 : (some false) = some r := by rw [if_neg (show ¬ (false = true) by decide)] at H; exact H
              clear H
              have H := H1
              clear H1
              obtain rfl := Option.some.inj H
              have hnb49 := NB191_193.out
              have hnc49 := NB193_191.out
              have hcz50_0 : wc.cell? ⟨gb191, 0, none⟩ = some (.int .i64 a0_0) := (blk_cell BK191.out 0).trans rfl
              have hcz50_1 : wc.cell? ⟨gb191, 1, none⟩ = some (.int .i64 a0_1) := (blk_cell BK191.out 1).trans rfl
              have hcz50_2 : wc.cell? ⟨gb191, 2, none⟩ = some (.int .i64 a0_2) := (blk_cell BK191.out 2).trans rfl
              have hcz50_3 : wc.cell? ⟨gb191, 3, none⟩ = some (.int .i64 a0_3) := (blk_cell BK191.out 3).trans rfl
              have hcz50_4 : wc.cell? ⟨gb191, 4, none⟩ = some (.int .i64 a0_4) := (blk_cell BK191.out 4).trans rfl
              have hcz50_5 : wc.cell? ⟨gb191, 5, none⟩ = some (.string a0_5) := (blk_cell BK191.out 5).trans rfl
              have hcz50_6 : wc.cell? ⟨gb191, 6, none⟩ = some (.string a0_6) := (blk_cell BK191.out 6).trans rfl
              have hcz50_7 : wc.cell? ⟨gb191, 7, none⟩ = some (.string a0_7) := (blk_cell BK191.out 7).trans rfl
              have hfz50_0 := blk_frozen BK191.out 0
              have hfz50_1 := blk_frozen BK191.out 1
              have hfz50_2 := blk_frozen BK191.out 2
              have hfz50_3 := blk_frozen BK191.out 3
              have hfz50_4 := blk_frozen BK191.out 4
              have hfz50_5 := blk_frozen BK191.out 5
              have hfz50_6 := blk_frozen BK191.out 6
              have hfz50_7 := blk_frozen BK191.out 7
              go_wp2_with (first | ((with_reducible refine gate_callee (f := 31) rfl ?_); refine gl (some 50) Try.func31 #[.string a0_5] ?_; (with_reducible refine (impl_WordOk.calls kj29 a0_5 true _ A40.out).mono ?_); rintro e w' ⟨rfl, ⟨nd, rfl⟩⟩; refine ⟨_, rfl, ?_⟩; (try (rw [drewN_self wc]; generalize hq_ : World.drewN wc _ = wc; have n0_ : Aside0 (wc.heap[gb191]? = some (.cells #[.int .i64 a0_0, .int .i64 a0_1, .int .i64 a0_2, .int .i64 a0_3, .int .i64 a0_4, .string a0_5, .string a0_6, .string a0_7] 23 (0, 0))) := ⟨by rw [← hq_]; exact (bG BK191)⟩; have n1_ : Aside0 (wc.heap[gb193]? = some (.cells #[.int .i64 0, .int .i64 0, .int .i64 x194002_17, .int .i64 a0_3, .int .i64 x194004_29, .string a0_5, .string a0_6, .string a0_7] 23 (0, 0))) := ⟨by rw [← hq_]; exact (bG BK193)⟩; have n2_ : Aside0 (Below w.heap.size w wc) := ⟨by rw [← hq_]; exact (lT HB (gC GE191 (gC GE193 gN)))⟩; clear BK191 BK193 HB hq_; have BK191 := n0_; have BK193 := n1_; have HB := n2_; clear n0_ n1_ n2_)); (try (have hy191_0 : wc.cell? ⟨gb191, 0, none⟩ = some (.int .i64 a0_0) := (blk_cell BK191.out 0).trans rfl; have hv191_0 := blk_frozen BK191.out 0; have hy191_1 : wc.cell? ⟨gb191, 1, none⟩ = some (.int .i64 a0_1) := (blk_cell BK191.out 1).trans rfl; have hv191_1 := blk_frozen BK191.out 1; have hy191_2 : wc.cell? ⟨gb191, 2, none⟩ = some (.int .i64 a0_2) := (blk_cell BK191.out 2).trans rfl; have hv191_2 := blk_frozen BK191.out 2; have hy191_3 : wc.cell? ⟨gb191, 3, none⟩ = some (.int .i64 a0_3) := (blk_cell BK191.out 3).trans rfl; have hv191_3 := blk_frozen BK191.out 3; have hy191_4 : wc.cell? ⟨gb191, 4, none⟩ = some (.int .i64 a0_4) := (blk_cell BK191.out 4).trans rfl; have hv191_4 := blk_frozen BK191.out 4; have hy191_5 : wc.cell? ⟨gb191, 5, none⟩ = some (.string a0_5) := (blk_cell BK191.out 5).trans rfl; have hv191_5 := blk_frozen BK191.out 5; have hy191_6 : wc.cell? ⟨gb191, 6, none⟩ = some (.string a0_6) := (blk_cell BK191.out 6).trans rfl; have hv191_6 := blk_frozen BK191.out 6; have hy191_7 : wc.cell? ⟨gb191, 7, none⟩ = some (.string a0_7) := (blk_cell BK191.out 7).trans rfl; have hv191_7 := blk_frozen BK191.out 7)); (try (have hy193_0 : wc.cell? ⟨gb193, 0, none⟩ = some (.int .i64 0) := (blk_cell BK193.out 0).trans rfl; have hv193_0 := blk_frozen BK193.out 0; have hy193_1 : wc.cell? ⟨gb193, 1, none⟩ = some (.int .i64 0) := (blk_cell BK193.out 1).trans rfl; have hv193_1 := blk_frozen BK193.out 1; have hy193_2 : wc.cell? ⟨gb193, 2, none⟩ = some (.int .i64 x194002_17) := (blk_cell BK193.out 2).trans rfl; have hv193_2 := blk_frozen BK193.out 2; have hy193_3 : wc.cell? ⟨gb193, 3, none⟩ = some (.int .i64 a0_3) := (blk_cell BK193.out 3).trans rfl; have hv193_3 := blk_frozen BK193.out 3; have hy193_4 : wc.cell? ⟨gb193, 4, none⟩ = some (.int .i64 x194004_29) := (blk_cell BK193.out 4).trans rfl; have hv193_4 := blk_frozen BK193.out 4; have hy193_5 : wc.cell? ⟨gb193, 5, none⟩ = some (.string a0_5) := (blk_cell BK193.out 5).trans rfl; have hv193_5 := blk_frozen BK193.out 5; have hy193_6 : wc.cell? ⟨gb193, 6, none⟩ = some (.string a0_6) := (blk_cell BK193.out 6).trans rfl; have hv193_6 := blk_frozen BK193.out 6; have hy193_7 : wc.cell? ⟨gb193, 7, none⟩ = some (.string a0_7) := (blk_cell BK193.out 7).trans rfl; have hv193_7 := blk_frozen BK193.out 7))) | (go_at_call 31; (with_reducible refine (impl_WordOk.calls kj29 a0_6 true _ A42.out).mono ?_); rintro e w' ⟨rfl, ⟨nd, rfl⟩⟩; (try (rw [drewN_self wc]; generalize hq_ : World.drewN wc _ = wc; have n0_ : Aside0 (wc.heap[gb191]? = some (.cells #[.int .i64 a0_0, .int .i64 a0_1, .int .i64 a0_2, .int .i64 a0_3, .int .i64 a0_4, .string a0_5, .string a0_6, .string a0_7] 23 (0, 0))) := ⟨by rw [← hq_]; exact (bG BK191)⟩; have n1_ : Aside0 (wc.heap[gb193]? = some (.cells #[.int .i64 0, .int .i64 0, .int .i64 x194002_17, .int .i64 a0_3, .int .i64 x194004_29, .string a0_5, .string a0_6, .string a0_7] 23 (0, 0))) := ⟨by rw [← hq_]; exact (bG BK193)⟩; have n2_ : Aside0 (Below w.heap.size w wc) := ⟨by rw [← hq_]; exact (lT HB (gC GE191 (gC GE193 gN)))⟩; clear BK191 BK193 HB hq_; have BK191 := n0_; have BK193 := n1_; have HB := n2_; clear n0_ n1_ n2_)); (try (have hy191_0 : wc.cell? ⟨gb191, 0, none⟩ = some (.int .i64 a0_0) := (blk_cell BK191.out 0).trans rfl; have hv191_0 := blk_frozen BK191.out 0; have hy191_1 : wc.cell? ⟨gb191, 1, none⟩ = some (.int .i64 a0_1) := (blk_cell BK191.out 1).trans rfl; have hv191_1 := blk_frozen BK191.out 1; have hy191_2 : wc.cell? ⟨gb191, 2, none⟩ = some (.int .i64 a0_2) := (blk_cell BK191.out 2).trans rfl; have hv191_2 := blk_frozen BK191.out 2; have hy191_3 : wc.cell? ⟨gb191, 3, none⟩ = some (.int .i64 a0_3) := (blk_cell BK191.out 3).trans rfl; have hv191_3 := blk_frozen BK191.out 3; have hy191_4 : wc.cell? ⟨gb191, 4, none⟩ = some (.int .i64 a0_4) := (blk_cell BK191.out 4).trans rfl; have hv191_4 := blk_frozen BK191.out 4; have hy191_5 : wc.cell? ⟨gb191, 5, none⟩ = some (.string a0_5) := (blk_cell BK191.out 5).trans rfl; have hv191_5 := blk_frozen BK191.out 5; have hy191_6 : wc.cell? ⟨gb191, 6, none⟩ = some (.string a0_6) := (blk_cell BK191.out 6).trans rfl; have hv191_6 := blk_frozen BK191.out 6; have hy191_7 : wc.cell? ⟨gb191, 7, none⟩ = some (.string a0_7) := (blk_cell BK191.out 7).trans rfl; have hv191_7 := blk_frozen BK191.out 7)); (try (have hy193_0 : wc.cell? ⟨gb193, 0, none⟩ = some (.int .i64 0) := (blk_cell BK193.out 0).trans rfl; have hv193_0 := blk_frozen BK193.out 0; have hy193_1 : wc.cell? ⟨gb193, 1, none⟩ = some (.int .i64 0) := (blk_cell BK193.out 1).trans rfl; have hv193_1 := blk_frozen BK193.out 1; have hy193_2 : wc.cell? ⟨gb193, 2, none⟩ = some (.int .i64 x194002_17) := (blk_cell BK193.out 2).trans rfl; have hv193_2 := blk_frozen BK193.out 2; have hy193_3 : wc.cell? ⟨gb193, 3, none⟩ = some (.int .i64 a0_3) := (blk_cell BK193.out 3).trans rfl; have hv193_3 := blk_frozen BK193.out 3; have hy193_4 : wc.cell? ⟨gb193, 4, none⟩ = some (.int .i64 x194004_29) := (blk_cell BK193.out 4).trans rfl; have hv193_4 := blk_frozen BK193.out 4; have hy193_5 : wc.cell? ⟨gb193, 5, none⟩ = some (.string a0_5) := (blk_cell BK193.out 5).trans rfl; have hv193_5 := blk_frozen BK193.out 5; have hy193_6 : wc.cell? ⟨gb193, 6, none⟩ = some (.string a0_6) := (blk_cell BK193.out 6).trans rfl; have hv193_6 := blk_frozen BK193.out 6; have hy193_7 : wc.cell? ⟨gb193, 7, none⟩ = some (.string a0_7) := (blk_cell BK193.out 7).trans rfl; have hv193_7 := blk_frozen BK193.out 7))) | (go_at_call 63; (with_reducible refine (impl_in.calls a0_3 1 10000 false _ A44.out).mono ?_); rintro e w' ⟨rfl, ⟨nd, rfl⟩⟩; (try (rw [drewN_self wc]; generalize hq_ : World.drewN wc _ = wc; have n0_ : Aside0 (wc.heap[gb191]? = some (.cells #[.int .i64 a0_0, .int .i64 a0_1, .int .i64 a0_2, .int .i64 a0_3, .int .i64 a0_4, .string a0_5, .string a0_6, .string a0_7] 23 (0, 0))) := ⟨by rw [← hq_]; exact (bG BK191)⟩; have n1_ : Aside0 (wc.heap[gb193]? = some (.cells #[.int .i64 0, .int .i64 0, .int .i64 x194002_17, .int .i64 a0_3, .int .i64 x194004_29, .string a0_5, .string a0_6, .string a0_7] 23 (0, 0))) := ⟨by rw [← hq_]; exact (bG BK193)⟩; have n2_ : Aside0 (Below w.heap.size w wc) := ⟨by rw [← hq_]; exact (lT HB (gC GE191 (gC GE193 gN)))⟩; clear BK191 BK193 HB hq_; have BK191 := n0_; have BK193 := n1_; have HB := n2_; clear n0_ n1_ n2_)); (try (have hy191_0 : wc.cell? ⟨gb191, 0, none⟩ = some (.int .i64 a0_0) := (blk_cell BK191.out 0).trans rfl; have hv191_0 := blk_frozen BK191.out 0; have hy191_1 : wc.cell? ⟨gb191, 1, none⟩ = some (.int .i64 a0_1) := (blk_cell BK191.out 1).trans rfl; have hv191_1 := blk_frozen BK191.out 1; have hy191_2 : wc.cell? ⟨gb191, 2, none⟩ = some (.int .i64 a0_2) := (blk_cell BK191.out 2).trans rfl; have hv191_2 := blk_frozen BK191.out 2; have hy191_3 : wc.cell? ⟨gb191, 3, none⟩ = some (.int .i64 a0_3) := (blk_cell BK191.out 3).trans rfl; have hv191_3 := blk_frozen BK191.out 3; have hy191_4 : wc.cell? ⟨gb191, 4, none⟩ = some (.int .i64 a0_4) := (blk_cell BK191.out 4).trans rfl; have hv191_4 := blk_frozen BK191.out 4; have hy191_5 : wc.cell? ⟨gb191, 5, none⟩ = some (.string a0_5) := (blk_cell BK191.out 5).trans rfl; have hv191_5 := blk_frozen BK191.out 5; have hy191_6 : wc.cell? ⟨gb191, 6, none⟩ = some (.string a0_6) := (blk_cell BK191.out 6).trans rfl; have hv191_6 := blk_frozen BK191.out 6; have hy191_7 : wc.cell? ⟨gb191, 7, none⟩ = some (.string a0_7) := (blk_cell BK191.out 7).trans rfl; have hv191_7 := blk_frozen BK191.out 7)); (try (have hy193_0 : wc.cell? ⟨gb193, 0, none⟩ = some (.int .i64 0) := (blk_cell BK193.out 0).trans rfl; have hv193_0 := blk_frozen BK193.out 0; have hy193_1 : wc.cell? ⟨gb193, 1, none⟩ = some (.int .i64 0) := (blk_cell BK193.out 1).trans rfl; have hv193_1 := blk_frozen BK193.out 1; have hy193_2 : wc.cell? ⟨gb193, 2, none⟩ = some (.int .i64 x194002_17) := (blk_cell BK193.out 2).trans rfl; have hv193_2 := blk_frozen BK193.out 2; have hy193_3 : wc.cell? ⟨gb193, 3, none⟩ = some (.int .i64 a0_3) := (blk_cell BK193.out 3).trans rfl; have hv193_3 := blk_frozen BK193.out 3; have hy193_4 : wc.cell? ⟨gb193, 4, none⟩ = some (.int .i64 x194004_29) := (blk_cell BK193.out 4).trans rfl; have hv193_4 := blk_frozen BK193.out 4; have hy193_5 : wc.cell? ⟨gb193, 5, none⟩ = some (.string a0_5) := (blk_cell BK193.out 5).trans rfl; have hv193_5 := blk_frozen BK193.out 5; have hy193_6 : wc.cell? ⟨gb193, 6, none⟩ = some (.string a0_6) := (blk_cell BK193.out 6).trans rfl; have hv193_6 := blk_frozen BK193.out 6; have hy193_7 : wc.cell? ⟨gb193, 7, none⟩ = some (.string a0_7) := (blk_cell BK193.out 7).trans rfl; have hv193_7 := blk_frozen BK193.out 7)); have hcz51_0 : wc.cell? ⟨gb193, 0, none⟩ = some (.int .i64 0) := (blk_cell BK193.out 0).trans rfl; have hcz51_1 : wc.cell? ⟨gb193, 1, none⟩ = some (.int .i64 0) := (blk_cell BK193.out 1).trans rfl; have hcz51_2 : wc.cell? ⟨gb193, 2, none⟩ = some (.int .i64 x194002_17) := (blk_cell BK193.out 2).trans rfl; have hcz51_3 : wc.cell? ⟨gb193, 3, none⟩ = some (.int .i64 a0_3) := (blk_cell BK193.out 3).trans rfl; have hcz51_4 : wc.cell? ⟨gb193, 4, none⟩ = some (.int .i64 x194004_29) := (blk_cell BK193.out 4).trans rfl; have hcz51_5 : wc.cell? ⟨gb193, 5, none⟩ = some (.string a0_5) := (blk_cell BK193.out 5).trans rfl; have hcz51_6 : wc.cell? ⟨gb193, 6, none⟩ = some (.string a0_6) := (blk_cell BK193.out 6).trans rfl; have hcz51_7 : wc.cell? ⟨gb193, 7, none⟩ = some (.string a0_7) := (blk_cell BK193.out 7).trans rfl; have hfz51_0 := blk_frozen BK193.out 0; have hfz51_1 := blk_frozen BK193.out 1; have hfz51_2 := blk_frozen BK193.out 2; have hfz51_3 := blk_frozen BK193.out 3; have hfz51_4 := blk_frozen BK193.out 4; have hfz51_5 := blk_frozen BK193.out 5; have hfz51_6 := blk_frozen BK193.out 6; have hfz51_7 := blk_frozen BK193.out 7))
              go_ret
              exact ⟨by first | rfl | (simp [errW_none, errW_some] <;> rfl) | (simp [*, errW_none, errW_some] <;> rfl), by exact lT HB (gC GE191 (gC GE193 gN))⟩
            ·replace c43 := Bool.eq_false_iff.mpr c43
             subst c43
             have H1 : (some false) = some r := by rw [if_neg (show ¬ (false = true) by decide)] at H; exact H
             clear H
             have H := H1
             clear H1
             obtain rfl := Option.some.inj H
             have hnb52 := NB191_193.out
             have hnc52 := NB193_191.out
             have hcz53_0 : wc.cell? ⟨gb191, 0, none⟩ = some (.int .i64 a0_0) := (blk_cell BK191.out 0).trans rfl
             have hcz53_1 : wc.cell? ⟨gb191, 1, none⟩ = some (.int .i64 a0_1) := (blk_cell BK191.out 1).trans rfl
             have hcz53_2 : wc.cell? ⟨gb191, 2, none⟩ = some (.int .i64 a0_2) := (blk_cell BK191.out 2).trans rfl
             have hcz53_3 : wc.cell? ⟨gb191, 3, none⟩ = some (.int .i64 a0_3) := (blk_cell BK191.out 3).trans rfl
             have hcz53_4 : wc.cell? ⟨gb191, 4, none⟩ = some (.int .i64 a0_4) := (blk_cell BK191.out 4).trans rfl
             have hcz53_5 : wc.cell? ⟨gb191, 5, none⟩ = some (.string a0_5) := (blk_cell BK191.out 5).trans rfl
             have hcz53_6 : wc.cell? ⟨gb191, 6, none⟩ = some (.string a0_6) := (blk_cell BK191.out 6).trans rfl
             have hcz53_7 : wc.cell? ⟨gb191, 7, none⟩ = some (.string a0_7) := (blk_cell BK191.out 7).trans rfl
             have hfz53_0 := blk_frozen BK191.out 0
             have hfz53_1 := blk_frozen BK191.out 1
             have hfz53_2 := blk_frozen BK191.out 2
             have hfz53_3 := blk_frozen BK191.out 3
             have hfz53_4 := blk_frozen BK191.out 4
             have hfz53_5 := blk_frozen BK191.out 5
             have hfz53_6 := blk_frozen BK191.out 6
             have hfz53_7 := blk_frozen BK191.out 7
             go_wp2_with (first | ((with_reducible refine gate_callee (f := 31) rfl ?_); refine gl (some 50) Try.func31 #[.string a0_5] ?_; (with_reducible refine (impl_WordOk.calls kj29 a0_5 true _ A40.out).mono ?_); rintro e w' ⟨rfl, ⟨nd, rfl⟩⟩; refine ⟨_, rfl, ?_⟩; (try (rw [drewN_self wc]; generalize hq_ : World.drewN wc _ = wc; have n0_ : Aside0 (wc.heap[gb191]? = some (.cells #[.int .i64 a0_0, .int .i64 a0_1, .int .i64 a0_2, .int .i64 a0_3, .int .i64 a0_4, .string a0_5, .string a0_6, .string a0_7] 23 (0, 0))) := ⟨by rw [← hq_]; exact (bG BK191)⟩; have n1_ : Aside0 (wc.heap[gb193]? = some (.cells #[.int .i64 0, .int .i64 0, .int .i64 x194002_17, .int .i64 a0_3, .int .i64 x194004_29, .string a0_5, .string a0_6, .string a0_7] 23 (0, 0))) := ⟨by rw [← hq_]; exact (bG BK193)⟩; have n2_ : Aside0 (Below w.heap.size w wc) := ⟨by rw [← hq_]; exact (lT HB (gC GE191 (gC GE193 gN)))⟩; clear BK191 BK193 HB hq_; have BK191 := n0_; have BK193 := n1_; have HB := n2_; clear n0_ n1_ n2_)); (try (have hy191_0 : wc.cell? ⟨gb191, 0, none⟩ = some (.int .i64 a0_0) := (blk_cell BK191.out 0).trans rfl; have hv191_0 := blk_frozen BK191.out 0; have hy191_1 : wc.cell? ⟨gb191, 1, none⟩ = some (.int .i64 a0_1) := (blk_cell BK191.out 1).trans rfl; have hv191_1 := blk_frozen BK191.out 1; have hy191_2 : wc.cell? ⟨gb191, 2, none⟩ = some (.int .i64 a0_2) := (blk_cell BK191.out 2).trans rfl; have hv191_2 := blk_frozen BK191.out 2; have hy191_3 : wc.cell? ⟨gb191, 3, none⟩ = some (.int .i64 a0_3) := (blk_cell BK191.out 3).trans rfl; have hv191_3 := blk_frozen BK191.out 3; have hy191_4 : wc.cell? ⟨gb191, 4, none⟩ = some (.int .i64 a0_4) := (blk_cell BK191.out 4).trans rfl; have hv191_4 := blk_frozen BK191.out 4; have hy191_5 : wc.cell? ⟨gb191, 5, none⟩ = some (.string a0_5) := (blk_cell BK191.out 5).trans rfl; have hv191_5 := blk_frozen BK191.out 5; have hy191_6 : wc.cell? ⟨gb191, 6, none⟩ = some (.string a0_6) := (blk_cell BK191.out 6).trans rfl; have hv191_6 := blk_frozen BK191.out 6; have hy191_7 : wc.cell? ⟨gb191, 7, none⟩ = some (.string a0_7) := (blk_cell BK191.out 7).trans rfl; have hv191_7 := blk_frozen BK191.out 7)); (try (have hy193_0 : wc.cell? ⟨gb193, 0, none⟩ = some (.int .i64 0) := (blk_cell BK193.out 0).trans rfl; have hv193_0 := blk_frozen BK193.out 0; have hy193_1 : wc.cell? ⟨gb193, 1, none⟩ = some (.int .i64 0) := (blk_cell BK193.out 1).trans rfl; have hv193_1 := blk_frozen BK193.out 1; have hy193_2 : wc.cell? ⟨gb193, 2, none⟩ = some (.int .i64 x194002_17) := (blk_cell BK193.out 2).trans rfl; have hv193_2 := blk_frozen BK193.out 2; have hy193_3 : wc.cell? ⟨gb193, 3, none⟩ = some (.int .i64 a0_3) := (blk_cell BK193.out 3).trans rfl; have hv193_3 := blk_frozen BK193.out 3; have hy193_4 : wc.cell? ⟨gb193, 4, none⟩ = some (.int .i64 x194004_29) := (blk_cell BK193.out 4).trans rfl; have hv193_4 := blk_frozen BK193.out 4; have hy193_5 : wc.cell? ⟨gb193, 5, none⟩ = some (.string a0_5) := (blk_cell BK193.out 5).trans rfl; have hv193_5 := blk_frozen BK193.out 5; have hy193_6 : wc.cell? ⟨gb193, 6, none⟩ = some (.string a0_6) := (blk_cell BK193.out 6).trans rfl; have hv193_6 := blk_frozen BK193.out 6; have hy193_7 : wc.cell? ⟨gb193, 7, none⟩ = some (.string a0_7) := (blk_cell BK193.out 7).trans rfl; have hv193_7 := blk_frozen BK193.out 7))) | (go_at_call 31; (with_reducible refine (impl_WordOk.calls kj29 a0_6 false _ A42.out).mono ?_); rintro e w' ⟨rfl, ⟨nd, rfl⟩⟩; (try (rw [drewN_self wc]; generalize hq_ : World.drewN wc _ = wc; have n0_ : Aside0 (wc.heap[gb191]? = some (.cells #[.int .i64 a0_0, .int .i64 a0_1, .int .i64 a0_2, .int .i64 a0_3, .int .i64 a0_4, .string a0_5, .string a0_6, .string a0_7] 23 (0, 0))) := ⟨by rw [← hq_]; exact (bG BK191)⟩; have n1_ : Aside0 (wc.heap[gb193]? = some (.cells #[.int .i64 0, .int .i64 0, .int .i64 x194002_17, .int .i64 a0_3, .int .i64 x194004_29, .string a0_5, .string a0_6, .string a0_7] 23 (0, 0))) := ⟨by rw [← hq_]; exact (bG BK193)⟩; have n2_ : Aside0 (Below w.heap.size w wc) := ⟨by rw [← hq_]; exact (lT HB (gC GE191 (gC GE193 gN)))⟩; clear BK191 BK193 HB hq_; have BK191 := n0_; have BK193 := n1_; have HB := n2_; clear n0_ n1_ n2_)); (try (have hy191_0 : wc.cell? ⟨gb191, 0, none⟩ = some (.int .i64 a0_0) := (blk_cell BK191.out 0).trans rfl; have hv191_0 := blk_frozen BK191.out 0; have hy191_1 : wc.cell? ⟨gb191, 1, none⟩ = some (.int .i64 a0_1) := (blk_cell BK191.out 1).trans rfl; have hv191_1 := blk_frozen BK191.out 1; have hy191_2 : wc.cell? ⟨gb191, 2, none⟩ = some (.int .i64 a0_2) := (blk_cell BK191.out 2).trans rfl; have hv191_2 := blk_frozen BK191.out 2; have hy191_3 : wc.cell? ⟨gb191, 3, none⟩ = some (.int .i64 a0_3) := (blk_cell BK191.out 3).trans rfl; have hv191_3 := blk_frozen BK191.out 3; have hy191_4 : wc.cell? ⟨gb191, 4, none⟩ = some (.int .i64 a0_4) := (blk_cell BK191.out 4).trans rfl; have hv191_4 := blk_frozen BK191.out 4; have hy191_5 : wc.cell? ⟨gb191, 5, none⟩ = some (.string a0_5) := (blk_cell BK191.out 5).trans rfl; have hv191_5 := blk_frozen BK191.out 5; have hy191_6 : wc.cell? ⟨gb191, 6, none⟩ = some (.string a0_6) := (blk_cell BK191.out 6).trans rfl; have hv191_6 := blk_frozen BK191.out 6; have hy191_7 : wc.cell? ⟨gb191, 7, none⟩ = some (.string a0_7) := (blk_cell BK191.out 7).trans rfl; have hv191_7 := blk_frozen BK191.out 7)); (try (have hy193_0 : wc.cell? ⟨gb193, 0, none⟩ = some (.int .i64 0) := (blk_cell BK193.out 0).trans rfl; have hv193_0 := blk_frozen BK193.out 0; have hy193_1 : wc.cell? ⟨gb193, 1, none⟩ = some (.int .i64 0) := (blk_cell BK193.out 1).trans rfl; have hv193_1 := blk_frozen BK193.out 1; have hy193_2 : wc.cell? ⟨gb193, 2, none⟩ = some (.int .i64 x194002_17) := (blk_cell BK193.out 2).trans rfl; have hv193_2 := blk_frozen BK193.out 2; have hy193_3 : wc.cell? ⟨gb193, 3, none⟩ = some (.int .i64 a0_3) := (blk_cell BK193.out 3).trans rfl; have hv193_3 := blk_frozen BK193.out 3; have hy193_4 : wc.cell? ⟨gb193, 4, none⟩ = some (.int .i64 x194004_29) := (blk_cell BK193.out 4).trans rfl; have hv193_4 := blk_frozen BK193.out 4; have hy193_5 : wc.cell? ⟨gb193, 5, none⟩ = some (.string a0_5) := (blk_cell BK193.out 5).trans rfl; have hv193_5 := blk_frozen BK193.out 5; have hy193_6 : wc.cell? ⟨gb193, 6, none⟩ = some (.string a0_6) := (blk_cell BK193.out 6).trans rfl; have hv193_6 := blk_frozen BK193.out 6; have hy193_7 : wc.cell? ⟨gb193, 7, none⟩ = some (.string a0_7) := (blk_cell BK193.out 7).trans rfl; have hv193_7 := blk_frozen BK193.out 7)); have hcz54_0 : wc.cell? ⟨gb193, 0, none⟩ = some (.int .i64 0) := (blk_cell BK193.out 0).trans rfl; have hcz54_1 : wc.cell? ⟨gb193, 1, none⟩ = some (.int .i64 0) := (blk_cell BK193.out 1).trans rfl; have hcz54_2 : wc.cell? ⟨gb193, 2, none⟩ = some (.int .i64 x194002_17) := (blk_cell BK193.out 2).trans rfl; have hcz54_3 : wc.cell? ⟨gb193, 3, none⟩ = some (.int .i64 a0_3) := (blk_cell BK193.out 3).trans rfl; have hcz54_4 : wc.cell? ⟨gb193, 4, none⟩ = some (.int .i64 x194004_29) := (blk_cell BK193.out 4).trans rfl; have hcz54_5 : wc.cell? ⟨gb193, 5, none⟩ = some (.string a0_5) := (blk_cell BK193.out 5).trans rfl; have hcz54_6 : wc.cell? ⟨gb193, 6, none⟩ = some (.string a0_6) := (blk_cell BK193.out 6).trans rfl; have hcz54_7 : wc.cell? ⟨gb193, 7, none⟩ = some (.string a0_7) := (blk_cell BK193.out 7).trans rfl; have hfz54_0 := blk_frozen BK193.out 0; have hfz54_1 := blk_frozen BK193.out 1; have hfz54_2 := blk_frozen BK193.out 2; have hfz54_3 := blk_frozen BK193.out 3; have hfz54_4 := blk_frozen BK193.out 4; have hfz54_5 := blk_frozen BK193.out 5; have hfz54_6 := blk_frozen BK193.out 6; have hfz54_7 := blk_frozen BK193.out 7))
             go_ret
             exact ⟨by first | rfl | (simp [errW_none, errW_some] <;> rfl) | (simp [*, errW_none, errW_some] <;> rfl), by exact lT HB (gC GE191 (gC GE193 gN))⟩
           ·replace c41 := Bool.eq_false_iff.mpr c41
            subst c41
            have H1 : (some false) = some r := by rw [if_neg (show ¬ (false = true) by decide)] at H; exact H
            clear H
            have H := H1
            clear H1
            obtain rfl := Option.some.inj H
            have hnb55 := NB191_193.out
            have hnc55 := NB193_191.out
            have hcz56_0 : wc.cell? ⟨gb191, 0, none⟩ = some (.int .i64 a0_0) := (blk_cell BK191.out 0).trans rfl
            have hcz56_1 : wc.cell? ⟨gb191, 1, none⟩ = some (.int .i64 a0_1) := (blk_cell BK191.out 1).trans rfl
            have hcz56_2 : wc.cell? ⟨gb191, 2, none⟩ = some (.int .i64 a0_2) := (blk_cell BK191.out 2).trans rfl
            have hcz56_3 : wc.cell? ⟨gb191, 3, none⟩ = some (.int .i64 a0_3) := (blk_cell BK191.out 3).trans rfl
            have hcz56_4 : wc.cell? ⟨gb191, 4, none⟩ = some (.int .i64 a0_4) := (blk_cell BK191.out 4).trans rfl
            have hcz56_5 : wc.cell? ⟨gb191, 5, none⟩ = some (.string a0_5) := (blk_cell BK191.out 5).trans rfl
            have hcz56_6 : wc.cell? ⟨gb191, 6, none⟩ = some (.string a0_6) := (blk_cell BK191.out 6).trans rfl
            have hcz56_7 : wc.cell? ⟨gb191, 7, none⟩ = some (.string a0_7) := (blk_cell BK191.out 7).trans rfl
            have hfz56_0 := blk_frozen BK191.out 0
            have hfz56_1 := blk_frozen BK191.out 1
            have hfz56_2 := blk_frozen BK191.out 2
            have hfz56_3 := blk_frozen BK191.out 3
            have hfz56_4 := blk_frozen BK191.out 4
            have hfz56_5 := blk_frozen BK191.out 5
            have hfz56_6 := blk_frozen BK191.out 6
            have hfz56_7 := blk_frozen BK191.out 7
            go_wp2_with (first | ((with_reducible refine gate_callee (f := 31) rfl ?_); refine gl (some 50) Try.func31 #[.string a0_5] ?_; (with_reducible refine (impl_WordOk.calls kj29 a0_5 false _ A40.out).mono ?_); rintro e w' ⟨rfl, ⟨nd, rfl⟩⟩; refine ⟨_, rfl, ?_⟩; (try (rw [drewN_self wc]; generalize hq_ : World.drewN wc _ = wc; have n0_ : Aside0 (wc.heap[gb191]? = some (.cells #[.int .i64 a0_0, .int .i64 a0_1, .int .i64 a0_2, .int .i64 a0_3, .int .i64 a0_4, .string a0_5, .string a0_6, .string a0_7] 23 (0, 0))) := ⟨by rw [← hq_]; exact (bG BK191)⟩; have n1_ : Aside0 (wc.heap[gb193]? = some (.cells #[.int .i64 0, .int .i64 0, .int .i64 x194002_17, .int .i64 a0_3, .int .i64 x194004_29, .string a0_5, .string a0_6, .string a0_7] 23 (0, 0))) := ⟨by rw [← hq_]; exact (bG BK193)⟩; have n2_ : Aside0 (Below w.heap.size w wc) := ⟨by rw [← hq_]; exact (lT HB (gC GE191 (gC GE193 gN)))⟩; clear BK191 BK193 HB hq_; have BK191 := n0_; have BK193 := n1_; have HB := n2_; clear n0_ n1_ n2_)); (try (have hy191_0 : wc.cell? ⟨gb191, 0, none⟩ = some (.int .i64 a0_0) := (blk_cell BK191.out 0).trans rfl; have hv191_0 := blk_frozen BK191.out 0; have hy191_1 : wc.cell? ⟨gb191, 1, none⟩ = some (.int .i64 a0_1) := (blk_cell BK191.out 1).trans rfl; have hv191_1 := blk_frozen BK191.out 1; have hy191_2 : wc.cell? ⟨gb191, 2, none⟩ = some (.int .i64 a0_2) := (blk_cell BK191.out 2).trans rfl; have hv191_2 := blk_frozen BK191.out 2; have hy191_3 : wc.cell? ⟨gb191, 3, none⟩ = some (.int .i64 a0_3) := (blk_cell BK191.out 3).trans rfl; have hv191_3 := blk_frozen BK191.out 3; have hy191_4 : wc.cell? ⟨gb191, 4, none⟩ = some (.int .i64 a0_4) := (blk_cell BK191.out 4).trans rfl; have hv191_4 := blk_frozen BK191.out 4; have hy191_5 : wc.cell? ⟨gb191, 5, none⟩ = some (.string a0_5) := (blk_cell BK191.out 5).trans rfl; have hv191_5 := blk_frozen BK191.out 5; have hy191_6 : wc.cell? ⟨gb191, 6, none⟩ = some (.string a0_6) := (blk_cell BK191.out 6).trans rfl; have hv191_6 := blk_frozen BK191.out 6; have hy191_7 : wc.cell? ⟨gb191, 7, none⟩ = some (.string a0_7) := (blk_cell BK191.out 7).trans rfl; have hv191_7 := blk_frozen BK191.out 7)); (try (have hy193_0 : wc.cell? ⟨gb193, 0, none⟩ = some (.int .i64 0) := (blk_cell BK193.out 0).trans rfl; have hv193_0 := blk_frozen BK193.out 0; have hy193_1 : wc.cell? ⟨gb193, 1, none⟩ = some (.int .i64 0) := (blk_cell BK193.out 1).trans rfl; have hv193_1 := blk_frozen BK193.out 1; have hy193_2 : wc.cell? ⟨gb193, 2, none⟩ = some (.int .i64 x194002_17) := (blk_cell BK193.out 2).trans rfl; have hv193_2 := blk_frozen BK193.out 2; have hy193_3 : wc.cell? ⟨gb193, 3, none⟩ = some (.int .i64 a0_3) := (blk_cell BK193.out 3).trans rfl; have hv193_3 := blk_frozen BK193.out 3; have hy193_4 : wc.cell? ⟨gb193, 4, none⟩ = some (.int .i64 x194004_29) := (blk_cell BK193.out 4).trans rfl; have hv193_4 := blk_frozen BK193.out 4; have hy193_5 : wc.cell? ⟨gb193, 5, none⟩ = some (.string a0_5) := (blk_cell BK193.out 5).trans rfl; have hv193_5 := blk_frozen BK193.out 5; have hy193_6 : wc.cell? ⟨gb193, 6, none⟩ = some (.string a0_6) := (blk_cell BK193.out 6).trans rfl; have hv193_6 := blk_frozen BK193.out 6; have hy193_7 : wc.cell? ⟨gb193, 7, none⟩ = some (.string a0_7) := (blk_cell BK193.out 7).trans rfl; have hv193_7 := blk_frozen BK193.out 7)); have hcz57_0 : wc.cell? ⟨gb193, 0, none⟩ = some (.int .i64 0) := (blk_cell BK193.out 0).trans rfl; have hcz57_1 : wc.cell? ⟨gb193, 1, none⟩ = some (.int .i64 0) := (blk_cell BK193.out 1).trans rfl; have hcz57_2 : wc.cell? ⟨gb193, 2, none⟩ = some (.int .i64 x194002_17) := (blk_cell BK193.out 2).trans rfl; have hcz57_3 : wc.cell? ⟨gb193, 3, none⟩ = some (.int .i64 a0_3) := (blk_cell BK193.out 3).trans rfl; have hcz57_4 : wc.cell? ⟨gb193, 4, none⟩ = some (.int .i64 x194004_29) := (blk_cell BK193.out 4).trans rfl; have hcz57_5 : wc.cell? ⟨gb193, 5, none⟩ = some (.string a0_5) := (blk_cell BK193.out 5).trans rfl; have hcz57_6 : wc.cell? ⟨gb193, 6, none⟩ = some (.string a0_6) := (blk_cell BK193.out 6).trans rfl; have hcz57_7 : wc.cell? ⟨gb193, 7, none⟩ = some (.string a0_7) := (blk_cell BK193.out 7).trans rfl; have hfz57_0 := blk_frozen BK193.out 0; have hfz57_1 := blk_frozen BK193.out 1; have hfz57_2 := blk_frozen BK193.out 2; have hfz57_3 := blk_frozen BK193.out 3; have hfz57_4 := blk_frozen BK193.out 4; have hfz57_5 := blk_frozen BK193.out 5; have hfz57_6 := blk_frozen BK193.out 6; have hfz57_7 := blk_frozen BK193.out 7))
            go_ret
            exact ⟨by first | rfl | (simp [errW_none, errW_some] <;> rfl) | (simp [*, errW_none, errW_some] <;> rfl), by exact lT HB (gC GE191 (gC GE193 gN))⟩
          ·rw [if_neg c39] at H
           have c39b0 : (a0_0 == 1) = false := beq_eq_false_iff_ne.mpr c39
           have c39b1 : (a0_0 != 1) = true := bne_iff_ne.mpr c39
           by_cases c58 : a0_0 = 3
           ·rw [if_pos c58] at H
            have c58b0 : (a0_0 == 3) = true := beq_iff_eq.mpr c58
            have c58b1 : (a0_0 != 3) = false := bne_eq_false_iff_eq.mpr c58
            clear c58
            by_cases c59 : x4_29 = true
            ·subst c59
             have H1 : (if (a0_7.size : Int) ≤ 100 then (some (0 == 0 && (0 == 0 && (x194002_17 == 0 && (a0_3 == 0 && (x194004_29 == 0 && (a0_5.toList == ([] : List UInt8) && (a0_6.toList == ([] : List UInt8))))))))) else (some false)) = some r := by rw [if_pos rfl] at H; exact H
             clear H
             have H := H1
             clear H1
             by_cases c60 : (a0_7.size : Int) ≤ 100
             ·rw [if_pos c60] at H
              have c60b0 : decide ((a0_7.size : Int) ≤ 100) = true := decide_eq_true c60
              have c60b1 : decide (a0_7.size ≤ 100) = true := decide_eq_true (by omega)
              clear c60
              obtain rfl := Option.some.inj H
              have hnb61 := NB191_193.out
              have hnc61 := NB193_191.out
              have hcz62_0 : wc.cell? ⟨gb191, 0, none⟩ = some (.int .i64 a0_0) := (blk_cell BK191.out 0).trans rfl
              have hcz62_1 : wc.cell? ⟨gb191, 1, none⟩ = some (.int .i64 a0_1) := (blk_cell BK191.out 1).trans rfl
              have hcz62_2 : wc.cell? ⟨gb191, 2, none⟩ = some (.int .i64 a0_2) := (blk_cell BK191.out 2).trans rfl
              have hcz62_3 : wc.cell? ⟨gb191, 3, none⟩ = some (.int .i64 a0_3) := (blk_cell BK191.out 3).trans rfl
              have hcz62_4 : wc.cell? ⟨gb191, 4, none⟩ = some (.int .i64 a0_4) := (blk_cell BK191.out 4).trans rfl
              have hcz62_5 : wc.cell? ⟨gb191, 5, none⟩ = some (.string a0_5) := (blk_cell BK191.out 5).trans rfl
              have hcz62_6 : wc.cell? ⟨gb191, 6, none⟩ = some (.string a0_6) := (blk_cell BK191.out 6).trans rfl
              have hcz62_7 : wc.cell? ⟨gb191, 7, none⟩ = some (.string a0_7) := (blk_cell BK191.out 7).trans rfl
              have hfz62_0 := blk_frozen BK191.out 0
              have hfz62_1 := blk_frozen BK191.out 1
              have hfz62_2 := blk_frozen BK191.out 2
              have hfz62_3 := blk_frozen BK191.out 3
              have hfz62_4 := blk_frozen BK191.out 4
              have hfz62_5 := blk_frozen BK191.out 5
              have hfz62_6 := blk_frozen BK191.out 6
              have hfz62_7 := blk_frozen BK191.out 7
              have hcz63_0 : wc.cell? ⟨gb193, 0, none⟩ = some (.int .i64 0) := (blk_cell BK193.out 0).trans rfl
              have hcz63_1 : wc.cell? ⟨gb193, 1, none⟩ = some (.int .i64 0) := (blk_cell BK193.out 1).trans rfl
              have hcz63_2 : wc.cell? ⟨gb193, 2, none⟩ = some (.int .i64 x194002_17) := (blk_cell BK193.out 2).trans rfl
              have hcz63_3 : wc.cell? ⟨gb193, 3, none⟩ = some (.int .i64 a0_3) := (blk_cell BK193.out 3).trans rfl
              have hcz63_4 : wc.cell? ⟨gb193, 4, none⟩ = some (.int .i64 x194004_29) := (blk_cell BK193.out 4).trans rfl
              have hcz63_5 : wc.cell? ⟨gb193, 5, none⟩ = some (.string a0_5) := (blk_cell BK193.out 5).trans rfl
              have hcz63_6 : wc.cell? ⟨gb193, 6, none⟩ = some (.string a0_6) := (blk_cell BK193.out 6).trans rfl
              have hcz63_7 : wc.cell? ⟨gb193, 7, none⟩ = some (.string a0_7) := (blk_cell BK193.out 7).trans rfl
              have hfz63_0 := blk_frozen BK193.out 0
              have hfz63_1 := blk_frozen BK193.out 1
              have hfz63_2 := blk_frozen BK193.out 2
              have hfz63_3 := blk_frozen BK193.out 3
              have hfz63_4 := blk_frozen BK193.out 4
              have hfz63_5 := blk_frozen BK193.out 5
              have hfz63_6 := blk_frozen BK193.out 6
              have hfz63_7 := blk_frozen BK193.out 7
              go_wp2
              go_ret
              exact ⟨by first | rfl | (simp [errW_none, errW_some] <;> rfl) | (simp [*, errW_none, errW_some] <;> rfl), by exact lT HB (gC GE191 (gC GE193 gN))⟩
             ·rw [if_neg c60] at H
              have c60b0 : decide ((a0_7.size : Int) ≤ 100) = false := decide_eq_false c60
              have c60b1 : decide (a0_7.size ≤ 100) = false := decide_eq_false (by omega)
              clear c60
              obtain rfl := Option.some.inj H
              have hnb64 := NB191_193.out
              have hnc64 := NB193_191.out
              have hcz65_0 : wc.cell? ⟨gb191, 0, none⟩ = some (.int .i64 a0_0) := (blk_cell BK191.out 0).trans rfl
              have hcz65_1 : wc.cell? ⟨gb191, 1, none⟩ = some (.int .i64 a0_1) := (blk_cell BK191.out 1).trans rfl
              have hcz65_2 : wc.cell? ⟨gb191, 2, none⟩ = some (.int .i64 a0_2) := (blk_cell BK191.out 2).trans rfl
              have hcz65_3 : wc.cell? ⟨gb191, 3, none⟩ = some (.int .i64 a0_3) := (blk_cell BK191.out 3).trans rfl
              have hcz65_4 : wc.cell? ⟨gb191, 4, none⟩ = some (.int .i64 a0_4) := (blk_cell BK191.out 4).trans rfl
              have hcz65_5 : wc.cell? ⟨gb191, 5, none⟩ = some (.string a0_5) := (blk_cell BK191.out 5).trans rfl
              have hcz65_6 : wc.cell? ⟨gb191, 6, none⟩ = some (.string a0_6) := (blk_cell BK191.out 6).trans rfl
              have hcz65_7 : wc.cell? ⟨gb191, 7, none⟩ = some (.string a0_7) := (blk_cell BK191.out 7).trans rfl
              have hfz65_0 := blk_frozen BK191.out 0
              have hfz65_1 := blk_frozen BK191.out 1
              have hfz65_2 := blk_frozen BK191.out 2
              have hfz65_3 := blk_frozen BK191.out 3
              have hfz65_4 := blk_frozen BK191.out 4
              have hfz65_5 := blk_frozen BK191.out 5
              have hfz65_6 := blk_frozen BK191.out 6
              have hfz65_7 := blk_frozen BK191.out 7
              have hcz66_0 : wc.cell? ⟨gb193, 0, none⟩ = some (.int .i64 0) := (blk_cell BK193.out 0).trans rfl
              have hcz66_1 : wc.cell? ⟨gb193, 1, none⟩ = some (.int .i64 0) := (blk_cell BK193.out 1).trans rfl
              have hcz66_2 : wc.cell? ⟨gb193, 2, none⟩ = some (.int .i64 x194002_17) := (blk_cell BK193.out 2).trans rfl
              have hcz66_3 : wc.cell? ⟨gb193, 3, none⟩ = some (.int .i64 a0_3) := (blk_cell BK193.out 3).trans rfl
              have hcz66_4 : wc.cell? ⟨gb193, 4, none⟩ = some (.int .i64 x194004_29) := (blk_cell BK193.out 4).trans rfl
              have hcz66_5 : wc.cell? ⟨gb193, 5, none⟩ = some (.string a0_5) := (blk_cell BK193.out 5).trans rfl
              have hcz66_6 : wc.cell? ⟨gb193, 6, none⟩ = some (.string a0_6) := (blk_cell BK193.out 6).trans rfl
              have hcz66_7 : wc.cell? ⟨gb193, 7, none⟩ = some (.string a0_7) := (blk_cell BK193.out 7).trans rfl
              have hfz66_0 := blk_frozen BK193.out 0
              have hfz66_1 := blk_frozen BK193.out 1
              have hfz66_2 := blk_frozen BK193.out 2
              have hfz66_3 := blk_frozen BK193.out 3
              have hfz66_4 := blk_frozen BK193.out 4
              have hfz66_5 := blk_frozen BK193.out 5
              have hfz66_6 := blk_frozen BK193.out 6
              have hfz66_7 := blk_frozen BK193.out 7
              go_wp2
              go_ret
              exact ⟨by first | rfl | (simp [errW_none, errW_some] <;> rfl) | (simp [*, errW_none, errW_some] <;> rfl), by exact lT HB (gC GE191 (gC GE193 gN))⟩
            ·replace c59 := Bool.eq_false_iff.mpr c59
             subst c59
             have H1 : (some false) = some r := by rw [if_neg (show ¬ (false = true) by decide)] at H; exact H
             clear H
             have H := H1
             clear H1
             obtain rfl := Option.some.inj H
             have hnb67 := NB191_193.out
             have hnc67 := NB193_191.out
             have hcz68_0 : wc.cell? ⟨gb191, 0, none⟩ = some (.int .i64 a0_0) := (blk_cell BK191.out 0).trans rfl
             have hcz68_1 : wc.cell? ⟨gb191, 1, none⟩ = some (.int .i64 a0_1) := (blk_cell BK191.out 1).trans rfl
             have hcz68_2 : wc.cell? ⟨gb191, 2, none⟩ = some (.int .i64 a0_2) := (blk_cell BK191.out 2).trans rfl
             have hcz68_3 : wc.cell? ⟨gb191, 3, none⟩ = some (.int .i64 a0_3) := (blk_cell BK191.out 3).trans rfl
             have hcz68_4 : wc.cell? ⟨gb191, 4, none⟩ = some (.int .i64 a0_4) := (blk_cell BK191.out 4).trans rfl
             have hcz68_5 : wc.cell? ⟨gb191, 5, none⟩ = some (.string a0_5) := (blk_cell BK191.out 5).trans rfl
             have hcz68_6 : wc.cell? ⟨gb191, 6, none⟩ = some (.string a0_6) := (blk_cell BK191.out 6).trans rfl
             have hcz68_7 : wc.cell? ⟨gb191, 7, none⟩ = some (.string a0_7) := (blk_cell BK191.out 7).trans rfl
             have hfz68_0 := blk_frozen BK191.out 0
             have hfz68_1 := blk_frozen BK191.out 1
             have hfz68_2 := blk_frozen BK191.out 2
             have hfz68_3 := blk_frozen BK191.out 3
             have hfz68_4 := blk_frozen BK191.out 4
             have hfz68_5 := blk_frozen BK191.out 5
             have hfz68_6 := blk_frozen BK191.out 6
             have hfz68_7 := blk_frozen BK191.out 7
             have hcz69_0 : wc.cell? ⟨gb193, 0, none⟩ = some (.int .i64 0) := (blk_cell BK193.out 0).trans rfl
             have hcz69_1 : wc.cell? ⟨gb193, 1, none⟩ = some (.int .i64 0) := (blk_cell BK193.out 1).trans rfl
             have hcz69_2 : wc.cell? ⟨gb193, 2, none⟩ = some (.int .i64 x194002_17) := (blk_cell BK193.out 2).trans rfl
             have hcz69_3 : wc.cell? ⟨gb193, 3, none⟩ = some (.int .i64 a0_3) := (blk_cell BK193.out 3).trans rfl
             have hcz69_4 : wc.cell? ⟨gb193, 4, none⟩ = some (.int .i64 x194004_29) := (blk_cell BK193.out 4).trans rfl
             have hcz69_5 : wc.cell? ⟨gb193, 5, none⟩ = some (.string a0_5) := (blk_cell BK193.out 5).trans rfl
             have hcz69_6 : wc.cell? ⟨gb193, 6, none⟩ = some (.string a0_6) := (blk_cell BK193.out 6).trans rfl
             have hcz69_7 : wc.cell? ⟨gb193, 7, none⟩ = some (.string a0_7) := (blk_cell BK193.out 7).trans rfl
             have hfz69_0 := blk_frozen BK193.out 0
             have hfz69_1 := blk_frozen BK193.out 1
             have hfz69_2 := blk_frozen BK193.out 2
             have hfz69_3 := blk_frozen BK193.out 3
             have hfz69_4 := blk_frozen BK193.out 4
             have hfz69_5 := blk_frozen BK193.out 5
             have hfz69_6 := blk_frozen BK193.out 6
             have hfz69_7 := blk_frozen BK193.out 7
             go_wp2
             go_ret
             exact ⟨by first | rfl | (simp [errW_none, errW_some] <;> rfl) | (simp [*, errW_none, errW_some] <;> rfl), by exact lT HB (gC GE191 (gC GE193 gN))⟩
           ·rw [if_neg c58] at H
            have c58b0 : (a0_0 == 3) = false := beq_eq_false_iff_ne.mpr c58
            have c58b1 : (a0_0 != 3) = true := bne_iff_ne.mpr c58
            by_cases c70 : a0_0 = 2
            ·rw [if_pos c70] at H
             have c70b0 : (a0_0 == 2) = true := beq_iff_eq.mpr c70
             have c70b1 : (a0_0 != 2) = false := bne_eq_false_iff_eq.mpr c70
             clear c70
             by_cases c71 : x4_29 = true
             ·subst c71
              have H1 : (some (0 == 0 && (0 == 0 && (x194002_17 == 0 && (a0_3 == 0 && (x194004_29 == 0 && (a0_5.toList == ([] : List UInt8) && (a0_6.toList == ([] : List UInt8) && (a0_7.toList == ([] : List UInt8)))))))))) = some r := by rw [if_pos rfl] at H; exact H
              clear H
              have H := H1
              clear H1
              obtain rfl := Option.some.inj H
              have hnb72 := NB191_193.out
              have hnc72 := NB193_191.out
              have hcz73_0 : wc.cell? ⟨gb191, 0, none⟩ = some (.int .i64 a0_0) := (blk_cell BK191.out 0).trans rfl
              have hcz73_1 : wc.cell? ⟨gb191, 1, none⟩ = some (.int .i64 a0_1) := (blk_cell BK191.out 1).trans rfl
              have hcz73_2 : wc.cell? ⟨gb191, 2, none⟩ = some (.int .i64 a0_2) := (blk_cell BK191.out 2).trans rfl
              have hcz73_3 : wc.cell? ⟨gb191, 3, none⟩ = some (.int .i64 a0_3) := (blk_cell BK191.out 3).trans rfl
              have hcz73_4 : wc.cell? ⟨gb191, 4, none⟩ = some (.int .i64 a0_4) := (blk_cell BK191.out 4).trans rfl
              have hcz73_5 : wc.cell? ⟨gb191, 5, none⟩ = some (.string a0_5) := (blk_cell BK191.out 5).trans rfl
              have hcz73_6 : wc.cell? ⟨gb191, 6, none⟩ = some (.string a0_6) := (blk_cell BK191.out 6).trans rfl
              have hcz73_7 : wc.cell? ⟨gb191, 7, none⟩ = some (.string a0_7) := (blk_cell BK191.out 7).trans rfl
              have hfz73_0 := blk_frozen BK191.out 0
              have hfz73_1 := blk_frozen BK191.out 1
              have hfz73_2 := blk_frozen BK191.out 2
              have hfz73_3 := blk_frozen BK191.out 3
              have hfz73_4 := blk_frozen BK191.out 4
              have hfz73_5 := blk_frozen BK191.out 5
              have hfz73_6 := blk_frozen BK191.out 6
              have hfz73_7 := blk_frozen BK191.out 7
              have hcz74_0 : wc.cell? ⟨gb193, 0, none⟩ = some (.int .i64 0) := (blk_cell BK193.out 0).trans rfl
              have hcz74_1 : wc.cell? ⟨gb193, 1, none⟩ = some (.int .i64 0) := (blk_cell BK193.out 1).trans rfl
              have hcz74_2 : wc.cell? ⟨gb193, 2, none⟩ = some (.int .i64 x194002_17) := (blk_cell BK193.out 2).trans rfl
              have hcz74_3 : wc.cell? ⟨gb193, 3, none⟩ = some (.int .i64 a0_3) := (blk_cell BK193.out 3).trans rfl
              have hcz74_4 : wc.cell? ⟨gb193, 4, none⟩ = some (.int .i64 x194004_29) := (blk_cell BK193.out 4).trans rfl
              have hcz74_5 : wc.cell? ⟨gb193, 5, none⟩ = some (.string a0_5) := (blk_cell BK193.out 5).trans rfl
              have hcz74_6 : wc.cell? ⟨gb193, 6, none⟩ = some (.string a0_6) := (blk_cell BK193.out 6).trans rfl
              have hcz74_7 : wc.cell? ⟨gb193, 7, none⟩ = some (.string a0_7) := (blk_cell BK193.out 7).trans rfl
              have hfz74_0 := blk_frozen BK193.out 0
              have hfz74_1 := blk_frozen BK193.out 1
              have hfz74_2 := blk_frozen BK193.out 2
              have hfz74_3 := blk_frozen BK193.out 3
              have hfz74_4 := blk_frozen BK193.out 4
              have hfz74_5 := blk_frozen BK193.out 5
              have hfz74_6 := blk_frozen BK193.out 6
              have hfz74_7 := blk_frozen BK193.out 7
              go_wp2
              go_ret
              exact ⟨by first | rfl | (simp [errW_none, errW_some] <;> rfl) | (simp [*, errW_none, errW_some] <;> rfl), by exact lT HB (gC GE191 (gC GE193 gN))⟩
             ·replace c71 := Bool.eq_false_iff.mpr c71
              subst c71
              have H1 : (some false) = some r := by rw [if_neg (show ¬ (false = true) by decide)] at H; exact H
              clear H
              have H := H1
              clear H1
              obtain rfl := Option.some.inj H
              have hnb75 := NB191_193.out
              have hnc75 := NB193_191.out
              have hcz76_0 : wc.cell? ⟨gb191, 0, none⟩ = some (.int .i64 a0_0) := (blk_cell BK191.out 0).trans rfl
              have hcz76_1 : wc.cell? ⟨gb191, 1, none⟩ = some (.int .i64 a0_1) := (blk_cell BK191.out 1).trans rfl
              have hcz76_2 : wc.cell? ⟨gb191, 2, none⟩ = some (.int .i64 a0_2) := (blk_cell BK191.out 2).trans rfl
              have hcz76_3 : wc.cell? ⟨gb191, 3, none⟩ = some (.int .i64 a0_3) := (blk_cell BK191.out 3).trans rfl
              have hcz76_4 : wc.cell? ⟨gb191, 4, none⟩ = some (.int .i64 a0_4) := (blk_cell BK191.out 4).trans rfl
              have hcz76_5 : wc.cell? ⟨gb191, 5, none⟩ = some (.string a0_5) := (blk_cell BK191.out 5).trans rfl
              have hcz76_6 : wc.cell? ⟨gb191, 6, none⟩ = some (.string a0_6) := (blk_cell BK191.out 6).trans rfl
              have hcz76_7 : wc.cell? ⟨gb191, 7, none⟩ = some (.string a0_7) := (blk_cell BK191.out 7).trans rfl
              have hfz76_0 := blk_frozen BK191.out 0
              have hfz76_1 := blk_frozen BK191.out 1
              have hfz76_2 := blk_frozen BK191.out 2
              have hfz76_3 := blk_frozen BK191.out 3
              have hfz76_4 := blk_frozen BK191.out 4
              have hfz76_5 := blk_frozen BK191.out 5
              have hfz76_6 := blk_frozen BK191.out 6
              have hfz76_7 := blk_frozen BK191.out 7
              go_wp2
              go_ret
              exact ⟨by first | rfl | (simp [errW_none, errW_some] <;> rfl) | (simp [*, errW_none, errW_some] <;> rfl), by exact lT HB (gC GE191 (gC GE193 gN))⟩
            ·rw [if_neg c70] at H
             have c70b0 : (a0_0 == 2) = false := beq_eq_false_iff_ne.mpr c70
             have c70b1 : (a0_0 != 2) = true := bne_iff_ne.mpr c70
             by_cases c77 : a0_0 = 4
             ·rw [if_pos c77] at H
              have c77b0 : (a0_0 == 4) = true := beq_iff_eq.mpr c77
              have c77b1 : (a0_0 != 4) = false := bne_eq_false_iff_eq.mpr c77
              clear c77
              by_cases c78 : x4_29 = true
              ·subst c78
               have H1 : (some (0 == 0 && (0 == 0 && (x194002_17 == 0 && (a0_3 == 0 && (x194004_29 == 0 && (a0_5.toList == ([] : List UInt8) && (a0_6.toList == ([] : List UInt8) && (a0_7.toList == ([] : List UInt8)))))))))) = some r := by rw [if_pos rfl] at H; exact H
               clear H
               have H := H1
               clear H1
               obtain rfl := Option.some.inj H
               have hnb79 := NB191_193.out
               have hnc79 := NB193_191.out
               have hcz80_0 : wc.cell? ⟨gb191, 0, none⟩ = some (.int .i64 a0_0) := (blk_cell BK191.out 0).trans rfl
               have hcz80_1 : wc.cell? ⟨gb191, 1, none⟩ = some (.int .i64 a0_1) := (blk_cell BK191.out 1).trans rfl
               have hcz80_2 : wc.cell? ⟨gb191, 2, none⟩ = some (.int .i64 a0_2) := (blk_cell BK191.out 2).trans rfl
               have hcz80_3 : wc.cell? ⟨gb191, 3, none⟩ = some (.int .i64 a0_3) := (blk_cell BK191.out 3).trans rfl
               have hcz80_4 : wc.cell? ⟨gb191, 4, none⟩ = some (.int .i64 a0_4) := (blk_cell BK191.out 4).trans rfl
               have hcz80_5 : wc.cell? ⟨gb191, 5, none⟩ = some (.string a0_5) := (blk_cell BK191.out 5).trans rfl
               have hcz80_6 : wc.cell? ⟨gb191, 6, none⟩ = some (.string a0_6) := (blk_cell BK191.out 6).trans rfl
               have hcz80_7 : wc.cell? ⟨gb191, 7, none⟩ = some (.string a0_7) := (blk_cell BK191.out 7).trans rfl
               have hfz80_0 := blk_frozen BK191.out 0
               have hfz80_1 := blk_frozen BK191.out 1
               have hfz80_2 := blk_frozen BK191.out 2
               have hfz80_3 := blk_frozen BK191.out 3
               have hfz80_4 := blk_frozen BK191.out 4
               have hfz80_5 := blk_frozen BK191.out 5
               have hfz80_6 := blk_frozen BK191.out 6
               have hfz80_7 := blk_frozen BK191.out 7
               have hcz81_0 : wc.cell? ⟨gb193, 0, none⟩ = some (.int .i64 0) := (blk_cell BK193.out 0).trans rfl
               have hcz81_1 : wc.cell? ⟨gb193, 1, none⟩ = some (.int .i64 0) := (blk_cell BK193.out 1).trans rfl
               have hcz81_2 : wc.cell? ⟨gb193, 2, none⟩ = some (.int .i64 x194002_17) := (blk_cell BK193.out 2).trans rfl
               have hcz81_3 : wc.cell? ⟨gb193, 3, none⟩ = some (.int .i64 a0_3) := (blk_cell BK193.out 3).trans rfl
               have hcz81_4 : wc.cell? ⟨gb193, 4, none⟩ = some (.int .i64 x194004_29) := (blk_cell BK193.out 4).trans rfl
               have hcz81_5 : wc.cell? ⟨gb193, 5, none⟩ = some (.string a0_5) := (blk_cell BK193.out 5).trans rfl
               have hcz81_6 : wc.cell? ⟨gb193, 6, none⟩ = some (.string a0_6) := (blk_cell BK193.out 6).trans rfl
               have hcz81_7 : wc.cell? ⟨gb193, 7, none⟩ = some (.string a0_7) := (blk_cell BK193.out 7).trans rfl
               have hfz81_0 := blk_frozen BK193.out 0
               have hfz81_1 := blk_frozen BK193.out 1
               have hfz81_2 := blk_frozen BK193.out 2
               have hfz81_3 := blk_frozen BK193.out 3
               have hfz81_4 := blk_frozen BK193.out 4
               have hfz81_5 := blk_frozen BK193.out 5
               have hfz81_6 := blk_frozen BK193.out 6
               have hfz81_7 := blk_frozen BK193.out 7
               go_wp2
               go_ret
               exact ⟨by first | rfl | (simp [errW_none, errW_some] <;> rfl) | (simp [*, errW_none, errW_some] <;> rfl), by exact lT HB (gC GE191 (gC GE193 gN))⟩
              ·replace c78 := Bool.eq_false_iff.mpr c78
               subst c78
               have H1 : (some false) = some r := by rw [if_neg (show ¬ (false = true) by decide)] at H; exact H
               clear H
               have H := H1
               clear H1
               obtain rfl := Option.some.inj H
               have hnb82 := NB191_193.out
               have hnc82 := NB193_191.out
               have hcz83_0 : wc.cell? ⟨gb191, 0, none⟩ = some (.int .i64 a0_0) := (blk_cell BK191.out 0).trans rfl
               have hcz83_1 : wc.cell? ⟨gb191, 1, none⟩ = some (.int .i64 a0_1) := (blk_cell BK191.out 1).trans rfl
               have hcz83_2 : wc.cell? ⟨gb191, 2, none⟩ = some (.int .i64 a0_2) := (blk_cell BK191.out 2).trans rfl
               have hcz83_3 : wc.cell? ⟨gb191, 3, none⟩ = some (.int .i64 a0_3) := (blk_cell BK191.out 3).trans rfl
               have hcz83_4 : wc.cell? ⟨gb191, 4, none⟩ = some (.int .i64 a0_4) := (blk_cell BK191.out 4).trans rfl
               have hcz83_5 : wc.cell? ⟨gb191, 5, none⟩ = some (.string a0_5) := (blk_cell BK191.out 5).trans rfl
               have hcz83_6 : wc.cell? ⟨gb191, 6, none⟩ = some (.string a0_6) := (blk_cell BK191.out 6).trans rfl
               have hcz83_7 : wc.cell? ⟨gb191, 7, none⟩ = some (.string a0_7) := (blk_cell BK191.out 7).trans rfl
               have hfz83_0 := blk_frozen BK191.out 0
               have hfz83_1 := blk_frozen BK191.out 1
               have hfz83_2 := blk_frozen BK191.out 2
               have hfz83_3 := blk_frozen BK191.out 3
               have hfz83_4 := blk_frozen BK191.out 4
               have hfz83_5 := blk_frozen BK191.out 5
               have hfz83_6 := blk_frozen BK191.out 6
               have hfz83_7 := blk_frozen BK191.out 7
               go_wp2
               go_ret
               exact ⟨by first | rfl | (simp [errW_none, errW_some] <;> rfl) | (simp [*, errW_none, errW_some] <;> rfl), by exact lT HB (gC GE191 (gC GE193 gN))⟩
             ·rw [if_neg c77] at H
              have c77b0 : (a0_0 == 4) = false := beq_eq_false_iff_ne.mpr c77
              have c77b1 : (a0_0 != 4) = true := bne_iff_ne.mpr c77
              by_cases c84 : a0_0 = 5
              ·rw [if_pos c84] at H
               have c84b0 : (a0_0 == 5) = true := beq_iff_eq.mpr c84
               have c84b1 : (a0_0 != 5) = false := bne_eq_false_iff_eq.mpr c84
               clear c84
               by_cases c85 : x4_29 = true
               ·subst c85
                have H1 : (some (0 == 0 && (0 == 0 && (x194002_17 == 0 && (a0_3 == 0 && (x194004_29 == 0 && (a0_5.toList == ([] : List UInt8) && (a0_6.toList == ([] : List UInt8) && (a0_7.toList == ([] : List UInt8)))))))))) = some r := by rw [if_pos rfl] at H; exact H
                clear H
                have H := H1
                clear H1
                obtain rfl := Option.some.inj H
                have hnb86 := NB191_193.out
                have hnc86 := NB193_191.out
                have hcz87_0 : wc.cell? ⟨gb191, 0, none⟩ = some (.int .i64 a0_0) := (blk_cell BK191.out 0).trans rfl
                have hcz87_1 : wc.cell? ⟨gb191, 1, none⟩ = some (.int .i64 a0_1) := (blk_cell BK191.out 1).trans rfl
                have hcz87_2 : wc.cell? ⟨gb191, 2, none⟩ = some (.int .i64 a0_2) := (blk_cell BK191.out 2).trans rfl
                have hcz87_3 : wc.cell? ⟨gb191, 3, none⟩ = some (.int .i64 a0_3) := (blk_cell BK191.out 3).trans rfl
                have hcz87_4 : wc.cell? ⟨gb191, 4, none⟩ = some (.int .i64 a0_4) := (blk_cell BK191.out 4).trans rfl
                have hcz87_5 : wc.cell? ⟨gb191, 5, none⟩ = some (.string a0_5) := (blk_cell BK191.out 5).trans rfl
                have hcz87_6 : wc.cell? ⟨gb191, 6, none⟩ = some (.string a0_6) := (blk_cell BK191.out 6).trans rfl
                have hcz87_7 : wc.cell? ⟨gb191, 7, none⟩ = some (.string a0_7) := (blk_cell BK191.out 7).trans rfl
                have hfz87_0 := blk_frozen BK191.out 0
                have hfz87_1 := blk_frozen BK191.out 1
                have hfz87_2 := blk_frozen BK191.out 2
                have hfz87_3 := blk_frozen BK191.out 3
                have hfz87_4 := blk_frozen BK191.out 4
                have hfz87_5 := blk_frozen BK191.out 5
                have hfz87_6 := blk_frozen BK191.out 6
                have hfz87_7 := blk_frozen BK191.out 7
                have hcz88_0 : wc.cell? ⟨gb193, 0, none⟩ = some (.int .i64 0) := (blk_cell BK193.out 0).trans rfl
                have hcz88_1 : wc.cell? ⟨gb193, 1, none⟩ = some (.int .i64 0) := (blk_cell BK193.out 1).trans rfl
                have hcz88_2 : wc.cell? ⟨gb193, 2, none⟩ = some (.int .i64 x194002_17) := (blk_cell BK193.out 2).trans rfl
                have hcz88_3 : wc.cell? ⟨gb193, 3, none⟩ = some (.int .i64 a0_3) := (blk_cell BK193.out 3).trans rfl
                have hcz88_4 : wc.cell? ⟨gb193, 4, none⟩ = some (.int .i64 x194004_29) := (blk_cell BK193.out 4).trans rfl
                have hcz88_5 : wc.cell? ⟨gb193, 5, none⟩ = some (.string a0_5) := (blk_cell BK193.out 5).trans rfl
                have hcz88_6 : wc.cell? ⟨gb193, 6, none⟩ = some (.string a0_6) := (blk_cell BK193.out 6).trans rfl
                have hcz88_7 : wc.cell? ⟨gb193, 7, none⟩ = some (.string a0_7) := (blk_cell BK193.out 7).trans rfl
                have hfz88_0 := blk_frozen BK193.out 0
                have hfz88_1 := blk_frozen BK193.out 1
                have hfz88_2 := blk_frozen BK193.out 2
                have hfz88_3 := blk_frozen BK193.out 3
                have hfz88_4 := blk_frozen BK193.out 4
                have hfz88_5 := blk_frozen BK193.out 5
                have hfz88_6 := blk_frozen BK193.out 6
                have hfz88_7 := blk_frozen BK193.out 7
                go_wp2
                go_ret
                exact ⟨by first | rfl | (simp [errW_none, errW_some] <;> rfl) | (simp [*, errW_none, errW_some] <;> rfl), by exact lT HB (gC GE191 (gC GE193 gN))⟩
               ·replace c85 := Bool.eq_false_iff.mpr c85
                subst c85
                have H1 : (some false) = some r := by rw [if_neg (show ¬ (false = true) by decide)] at H; exact H
                clear H
                have H := H1
                clear H1
                obtain rfl := Option.some.inj H
                have hnb89 := NB191_193.out
                have hnc89 := NB193_191.out
                have hcz90_0 : wc.cell? ⟨gb191, 0, none⟩ = some (.int .i64 a0_0) := (blk_cell BK191.out 0).trans rfl
                have hcz90_1 : wc.cell? ⟨gb191, 1, none⟩ = some (.int .i64 a0_1) := (blk_cell BK191.out 1).trans rfl
                have hcz90_2 : wc.cell? ⟨gb191, 2, none⟩ = some (.int .i64 a0_2) := (blk_cell BK191.out 2).trans rfl
                have hcz90_3 : wc.cell? ⟨gb191, 3, none⟩ = some (.int .i64 a0_3) := (blk_cell BK191.out 3).trans rfl
                have hcz90_4 : wc.cell? ⟨gb191, 4, none⟩ = some (.int .i64 a0_4) := (blk_cell BK191.out 4).trans rfl
                have hcz90_5 : wc.cell? ⟨gb191, 5, none⟩ = some (.string a0_5) := (blk_cell BK191.out 5).trans rfl
                have hcz90_6 : wc.cell? ⟨gb191, 6, none⟩ = some (.string a0_6) := (blk_cell BK191.out 6).trans rfl
                have hcz90_7 : wc.cell? ⟨gb191, 7, none⟩ = some (.string a0_7) := (blk_cell BK191.out 7).trans rfl
                have hfz90_0 := blk_frozen BK191.out 0
                have hfz90_1 := blk_frozen BK191.out 1
                have hfz90_2 := blk_frozen BK191.out 2
                have hfz90_3 := blk_frozen BK191.out 3
                have hfz90_4 := blk_frozen BK191.out 4
                have hfz90_5 := blk_frozen BK191.out 5
                have hfz90_6 := blk_frozen BK191.out 6
                have hfz90_7 := blk_frozen BK191.out 7
                go_wp2
                go_ret
                exact ⟨by first | rfl | (simp [errW_none, errW_some] <;> rfl) | (simp [*, errW_none, errW_some] <;> rfl), by exact lT HB (gC GE191 (gC GE193 gN))⟩
              ·rw [if_neg c84] at H
               have c84b0 : (a0_0 == 5) = false := beq_eq_false_iff_ne.mpr c84
               have c84b1 : (a0_0 != 5) = true := bne_iff_ne.mpr c84
               obtain rfl := Option.some.inj H
               have hnb91 := NB191_193.out
               have hnc91 := NB193_191.out
               have hcz92_0 : wc.cell? ⟨gb191, 0, none⟩ = some (.int .i64 a0_0) := (blk_cell BK191.out 0).trans rfl
               have hcz92_1 : wc.cell? ⟨gb191, 1, none⟩ = some (.int .i64 a0_1) := (blk_cell BK191.out 1).trans rfl
               have hcz92_2 : wc.cell? ⟨gb191, 2, none⟩ = some (.int .i64 a0_2) := (blk_cell BK191.out 2).trans rfl
               have hcz92_3 : wc.cell? ⟨gb191, 3, none⟩ = some (.int .i64 a0_3) := (blk_cell BK191.out 3).trans rfl
               have hcz92_4 : wc.cell? ⟨gb191, 4, none⟩ = some (.int .i64 a0_4) := (blk_cell BK191.out 4).trans rfl
               have hcz92_5 : wc.cell? ⟨gb191, 5, none⟩ = some (.string a0_5) := (blk_cell BK191.out 5).trans rfl
               have hcz92_6 : wc.cell? ⟨gb191, 6, none⟩ = some (.string a0_6) := (blk_cell BK191.out 6).trans rfl
               have hcz92_7 : wc.cell? ⟨gb191, 7, none⟩ = some (.string a0_7) := (blk_cell BK191.out 7).trans rfl
               have hfz92_0 := blk_frozen BK191.out 0
               have hfz92_1 := blk_frozen BK191.out 1
               have hfz92_2 := blk_frozen BK191.out 2
               have hfz92_3 := blk_frozen BK191.out 3
               have hfz92_4 := blk_frozen BK191.out 4
               have hfz92_5 := blk_frozen BK191.out 5
               have hfz92_6 := blk_frozen BK191.out 6
               have hfz92_7 := blk_frozen BK191.out 7
               go_wp2
               go_ret
               exact ⟨by first | rfl | (simp [errW_none, errW_some] <;> rfl) | (simp [*, errW_none, errW_some] <;> rfl), by exact lT HB (gC GE191 (gC GE193 gN))⟩
 ·replace c3 := Bool.eq_false_iff.mpr c3
  subst c3
  have H1 : (some false) = some r := by rw [if_neg (show ¬ (false = true) by decide)] at H; exact H
  clear H
  have H := H1
  clear H1
  obtain rfl := Option.some.inj H
  go_enter Try.func28, Try.ntmps28
  go_wp2_with (first | ((with_reducible refine gate_dst (N := 1) rfl ?_); (try (refine gate_guard (by rfl) ?_; dsimp only)); refine bx 1 #[.int .i64 a0_0, .int .i64 a0_1, .int .i64 a0_2, .int .i64 a0_3, .int .i64 a0_4, .string a0_5, .string a0_6, .string a0_7] 23 ?_; intro gb191 hg w93 hbox hb; replace BK191 := ak (hbox); replace GW191 := ak ((by rw [hg]; exact (below_size (lG HB)) : w.heap.size ≤ gb191)); replace GE191 := ak ((by rw [hg]; exact (below_size (lG HB)) : w.heap.size ≤ gb191)); replace HB := lB HB hb; clear hb hbox hg; have hcz94_0 : w93.cell? ⟨gb191, 0, none⟩ = some (.int .i64 a0_0) := (blk_cell BK191.out 0).trans rfl; have hcz94_1 : w93.cell? ⟨gb191, 1, none⟩ = some (.int .i64 a0_1) := (blk_cell BK191.out 1).trans rfl; have hcz94_2 : w93.cell? ⟨gb191, 2, none⟩ = some (.int .i64 a0_2) := (blk_cell BK191.out 2).trans rfl; have hcz94_3 : w93.cell? ⟨gb191, 3, none⟩ = some (.int .i64 a0_3) := (blk_cell BK191.out 3).trans rfl; have hcz94_4 : w93.cell? ⟨gb191, 4, none⟩ = some (.int .i64 a0_4) := (blk_cell BK191.out 4).trans rfl; have hcz94_5 : w93.cell? ⟨gb191, 5, none⟩ = some (.string a0_5) := (blk_cell BK191.out 5).trans rfl; have hcz94_6 : w93.cell? ⟨gb191, 6, none⟩ = some (.string a0_6) := (blk_cell BK191.out 6).trans rfl; have hcz94_7 : w93.cell? ⟨gb191, 7, none⟩ = some (.string a0_7) := (blk_cell BK191.out 7).trans rfl; have hfz94_0 := blk_frozen BK191.out 0; have hfz94_1 := blk_frozen BK191.out 1; have hfz94_2 := blk_frozen BK191.out 2; have hfz94_3 := blk_frozen BK191.out 3; have hfz94_4 := blk_frozen BK191.out 4; have hfz94_5 := blk_frozen BK191.out 5; have hfz94_6 := blk_frozen BK191.out 6; have hfz94_7 := blk_frozen BK191.out 7) | ((with_reducible refine gate_callee (f := 63) rfl ?_); refine gl (some 7) Try.func63 #[.int .i64 a0_1, .int .i64 1, .int .i64 9999] ?_; (with_reducible refine (impl_in.calls a0_1 1 9999 false _ A2.out).mono ?_); rintro e w' ⟨rfl, ⟨nd, rfl⟩⟩; refine ⟨_, rfl, ?_⟩))
  go_ret
  exact ⟨by first | rfl | (simp [errW_none, errW_some] <;> rfl) | (simp [*, errW_none, errW_some] <;> rfl), by exact lT HB (gC GE191 gN)⟩

end Go.Proofs.Ytagkjeldheiejaa.PFnExactReadRec
