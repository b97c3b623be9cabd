-- Written by a program of mine (a turned copy of the kit's print): functions as plain Lean, their contracts.
import Derived.Test.YtjpngldnkgofaaaPFnSegmentsToldx9
import Derived.Test.YtjpngldnkgofaaaVFnSegmentsTold1
namespace Go.Proofs.Ytjpngldnkgofaaa.PFnSegmentsTold
open Go.RowKit Go.Proofs.YtjpngldnkgofaaaW.PrintWords Go.Proofs.YtjpngldnkgofaaaW.PrintLast Go.Proofs.YtjpngldnkgofaaaW.PrintMore
attribute [local go_sem] max2_int min2_int max_two min_two max_three min_three max_four min_four   -- for this text's walks alone
set_option maxHeartbeats 8000000
set_option maxRecDepth 100000
set_option linter.unusedVariables false
set_option linter.unusedSimpArgs false
/-! ### spec_SectorText: function 33 -/
mutual
def spec_SectorText.l0 : Nat → Int → Int → ByteArray → Int → List ByteArray → List (S63) → Option (ByteArray × Bool)
 | 0, _, _, _, _, _, _ => none
 | k + 1, x1, x2, x8, x9, x348000, x348001 => if x9 < x2 then (if x1 < 0 then (spec_SectorText.j1 k x1 x2 x8 x9 true x348000 x348001) else (spec_SectorText.j1 k x1 x2 x8 x9 (decide (x1 > (x348000.length : Int))) x348000 x348001)) else (some (x8, true))
def spec_SectorText.j1 : Nat → Int → Int → ByteArray → Int → Bool → List ByteArray → List (S63) → Option (ByteArray × Bool)
 | 0, _, _, _, _, _, _, _ => none
 | k + 1, x1, x2, x8, x9, x28, x348000, x348001 => if x28 = true then (some ((⟨#[]⟩ : ByteArray), false)) else ((spec_ReadSector.f k x348000 x348001 (wrap64 (x1 + x9))).bind fun bt349 => (if bt349.2 = true then (if x8.size + bt349.1.size ≤ 9223372036854775807 then (spec_SectorText.l0 k x1 x2 (x8 ++ bt349.1) (wrap64 (x9 + 1)) x348000 x348001) else (none)) else (some ((⟨#[]⟩ : ByteArray), false))))
end
def spec_SectorText.f (k : Nat) (l0_0 : List ByteArray) (l0_1 : List (S63)) (a1 : Int) (a2 : Int) : Option (ByteArray × Bool) := (spec_l01In.f a2 0 100).bind fun t348 => (if t348 = true then (spec_SectorText.l0 k a1 a2 (⟨#[]⟩ : ByteArray) 0 l0_0 l0_1) else (some ((⟨#[]⟩ : ByteArray), false)))
theorem spec_SectorText.mono_l : ∀ k, (∀ y0 y1 y2 y3 y4 y5, LeO (spec_SectorText.l0 k y0 y1 y2 y3 y4 y5) (spec_SectorText.l0 (k + 1) y0 y1 y2 y3 y4 y5)) ∧ (∀ y0 y1 y2 y3 y4 y5 y6, LeO (spec_SectorText.j1 k y0 y1 y2 y3 y4 y5 y6) (spec_SectorText.j1 (k + 1) y0 y1 y2 y3 y4 y5 y6))
 | 0 => ⟨fun _ _ _ _ _ _ r h => by simp [spec_SectorText.l0] at h, fun _ _ _ _ _ _ _ r h => by simp [spec_SectorText.j1] at h⟩
 | k + 1 => by
  obtain ⟨ih0, ih1⟩ := spec_SectorText.mono_l k
  refine ⟨?_, ?_⟩
  ·intro y0 y1 y2 y3 y4 y5
   unfold spec_SectorText.l0
   repeat' first
   | (with_reducible exact ih0 _ _ _ _ _ _)
   | (with_reducible exact ih1 _ _ _ _ _ _ _)
   | (with_reducible exact spec_ReadSector.mono _ _ _ _)
   | (with_reducible exact LeO.refl _)
   | (with_reducible exact LeO.none _)
   | (with_reducible refine LeO.ite ?_ ?_)
   | (with_reducible refine LeO.bind ?_ (fun _ => ?_))
   | exact ih0 _ _ _ _ _ _
   | exact ih1 _ _ _ _ _ _ _
   | exact spec_ReadSector.mono _ _ _ _
   | exact LeO.none _
   | refine LeO.ite ?_ ?_
   | refine LeO.bind ?_ (fun _ => ?_)
  ·intro y0 y1 y2 y3 y4 y5 y6
   unfold spec_SectorText.j1
   repeat' first
   | (with_reducible exact ih0 _ _ _ _ _ _)
   | (with_reducible exact ih1 _ _ _ _ _ _ _)
   | (with_reducible exact spec_ReadSector.mono _ _ _ _)
   | (with_reducible exact LeO.refl _)
   | (with_reducible exact LeO.none _)
   | (with_reducible refine LeO.ite ?_ ?_)
   | (with_reducible refine LeO.bind ?_ (fun _ => ?_))
   | exact ih0 _ _ _ _ _ _
   | exact ih1 _ _ _ _ _ _ _
   | exact spec_ReadSector.mono _ _ _ _
   | exact LeO.none _
   | refine LeO.ite ?_ ?_
   | refine LeO.bind ?_ (fun _ => ?_)
theorem spec_SectorText.mono : ∀ a0 a1 a2 a3 k, LeO (spec_SectorText.f k a0 a1 a2 a3) (spec_SectorText.f (k + 1) a0 a1 a2 a3) := by
 intro a0 a1 a2 a3 k
 obtain ⟨ih0, ih1⟩ := spec_SectorText.mono_l k
 unfold spec_SectorText.f
 repeat' first
   | (with_reducible exact ih0 _ _ _ _ _ _)
   | (with_reducible exact ih1 _ _ _ _ _ _ _)
   | (with_reducible exact spec_ReadSector.mono _ _ _ _)
   | (with_reducible exact LeO.refl _)
   | (with_reducible exact LeO.none _)
   | (with_reducible refine LeO.ite ?_ ?_)
   | (with_reducible refine LeO.bind ?_ (fun _ => ?_))
   | exact ih0 _ _ _ _ _ _
   | exact ih1 _ _ _ _ _ _ _
   | exact spec_ReadSector.mono _ _ _ _
   | exact LeO.none _
   | refine LeO.ite ?_ ?_
   | refine LeO.bind ?_ (fun _ => ?_)
theorem spec_SectorText.calls (k : Nat) (A0_0 : Option Addr) (c0_0 : Nat) (l0_0 : List ByteArray) (A0_1 : Option Addr) (c0_1 : Nat) (l0_1 : List (S63)) (a1 : Int) (a2 : Int) (r1 : ByteArray) (r2 : Bool) (w : World) (hr0_0 : Kd.C Kd.string w A0_0 l0_0.length l0_0) (hc0_0 : l0_0.length ≤ c0_0) (hr0_1 : Kd.C k63 w A0_1 l0_1.length l0_1) (hc0_1 : l0_1.length ≤ c0_1) (h : spec_SectorText.f k l0_0 l0_1 a1 a2 = some (r1, r2)) :
  Calls Try.prog 33 #[.agg #[.slice A0_0 l0_0.length c0_0, .slice A0_1 l0_1.length c0_1], .int .i64 a1, .int .i64 a2] w fun e w' => e = .returned (.tuple #[.string r1, .bool r2]) ∧ Below w.heap.size w w' := by
 have hu27 := Try.underlying27
 have HR0_0 := Aside0.mk hr0_0
 have HC0_0 := Aside0.mk hc0_0
 clear hr0_0 hc0_0
 have HR0_1 := Aside0.mk hr0_1
 have HC0_1 := Aside0.mk hc0_1
 clear hr0_1 hc0_1
 have HB := ak (Below.refl w.heap.size w)
 have H : ((spec_l01In.f a2 0 100).bind fun t348 => (if t348 = true then (spec_SectorText.l0 k a1 a2 (⟨#[]⟩ : ByteArray) 0 l0_0 l0_1) else (some ((⟨#[]⟩ : ByteArray), false)))) = some (r1, r2) := h
 clear h
 replace H := Option.bind_eq_some_iff.mp H
 obtain ⟨t348, A40, H⟩ := H
 replace H : (if t348 = true then (spec_SectorText.l0 k a1 a2 (⟨#[]⟩ : ByteArray) 0 l0_0 l0_1) else (some ((⟨#[]⟩ : ByteArray), false))) = some (r1, r2) := H
 have A4 := Aside0.mk A40
 clear A40
 by_cases c5 : t348 = true
 ·subst c5
  have H1 : (spec_SectorText.l0 k a1 a2 (⟨#[]⟩ : ByteArray) 0 l0_0 l0_1) = some (r1, r2) := by rw [if_pos rfl] at H; exact H
  clear H
  have H := H1
  clear H1
  have H' := Aside0.mk H
  clear H
  go_enter Try.func33, Try.ntmps33
  go_wp2_with (first | ((with_reducible refine gate_dst (N := 3) rfl ?_); (try (refine gate_guard (by rfl) ?_; dsimp only)); refine bx 3 #[.slice A0_0 l0_0.length c0_0, .slice A0_1 l0_1.length c0_1] 27 ?_; intro gb347 hg w6 hbox hb; replace BK347 := ak (hbox); replace GW347 := ak (bz hg (lG HB)); replace GE347 := ak (bz hg (lG HB)); replace HB := lB HB hb; clear hb hbox hg) | ((with_reducible refine gate_callee (f := 49) rfl ?_); refine gl (some 13) Try.func49 #[.int .i64 a2, .int .i64 0, .int .i64 100] ?_; (with_reducible refine (spec_l01In.calls a2 0 100 true _ A4.out).mono ?_); rintro e w' ⟨rfl, ⟨nd, rfl⟩⟩; refine ⟨_, rfl, ?_⟩))
  go_loopg [8, 9] k (fun kq v8 v9 w' => ∃ (x8_1 : ByteArray) (x9_1 : Int), v8 = .string x8_1 ∧ v9 = .int .i64 x9_1 ∧ Aside0 (spec_SectorText.l0 kq a1 a2 x8_1 x9_1 l0_0 l0_1 = some (r1, r2)) ∧ Aside0 (kq ≤ k) ∧ Aside0 (w'.heap[gb347]? = some (.cells #[(.slice A0_0 l0_0.length c0_0), (.slice A0_1 l0_1.length c0_1)] 27 (0, 0))) ∧ Aside0 (Below w.heap.size w w'))
  case atStart => exact ⟨((⟨#[]⟩ : ByteArray)), (0), (by first | rfl | (simp; done) | (simp [*]; done)), (by first | rfl | (simp; done) | (simp [*]; done)), H', ⟨Nat.le_refl _⟩, ⟨bG BK347⟩, ⟨by exact lT HB (gC GE347 gN)⟩⟩
  case round =>
   clear H'
   try clear p2
   try clear c3
   try clear c4
   try clear c5
   obtain ⟨x8_1, x9_1, rfl, rfl, HA, HK1, BK347, HB⟩ := hrel
   cases gk with
   | zero => exact absurd HA.out (by simp [spec_SectorText.l0])
   | succ k1 =>
    have H := HA.out
    clear HA
    simp only [spec_SectorText.l0] at H
    by_cases c7 : x9_1 < a2
    ·rw [if_pos c7] at H
     have c7b0 : decide (x9_1 < a2) = true := decide_eq_true c7
     clear c7
     have HC8 := Aside0.mk H
     clear H
     go_upto_region 7 with (fail)
     go_cut [28] (fun v28 wc => ∃ (kq : Nat) (x28_7 : Bool), v28 = .bool x28_7 ∧ Aside0 (spec_SectorText.j1 kq a1 a2 x8_1 x9_1 x28_7 l0_0 l0_1 = some (r1, r2)) ∧ Aside0 (kq ≤ k1) ∧ Aside0 (wc.heap[gb347]? = some (.cells #[(.slice A0_0 l0_0.length c0_0), (.slice A0_1 l0_1.length c0_1)] 27 (0, 0))) ∧ Aside0 (Below w.heap.size w wc))
     case first =>
      have H := HC8.out
      clear HC8
      by_cases c9 : a1 < 0
      ·rw [if_pos c9] at H
       have c9b0 : decide (a1 < 0) = true := decide_eq_true c9
       clear c9
       (first | rw [c9b0] | (simp only [i64_w, i32_w]; rw [c9b0]) | skip)
       have H' := Aside0.mk H
       clear H
       go_wp2
       go_meet
       case rel => exact ⟨_, (true), (by first | rfl | (simp; done) | (simp [*]; done)), H', ⟨by have := HK1.out; first | omega | exact Nat.le_refl _⟩, ⟨bG BK347⟩, ⟨by exact lT HB (gC GE347 gN)⟩⟩
      ·rw [if_neg c9] at H
       have c9b0 : decide (a1 < 0) = false := decide_eq_false c9
       clear c9
       (first | rw [c9b0] | (simp only [i64_w, i32_w]; rw [c9b0]) | skip)
       have H' := Aside0.mk H
       clear H
       have hcz10_0 : wr.cell? ⟨gb347, 0, none⟩ = some (.slice A0_0 l0_0.length c0_0) := bc BK347 0
       have hcz10_1 : wr.cell? ⟨gb347, 1, none⟩ = some (.slice A0_1 l0_1.length c0_1) := bc BK347 1
       have hfz10_0 := blk_frozen BK347.out 0
       have hfz10_1 := blk_frozen BK347.out 1
       go_wp2
       go_meet
       case rel => exact ⟨_, (decide (a1 > (l0_0.length : Int))), (by first | rfl | (simp; done) | (simp [*]; done)), H', ⟨by have := HK1.out; first | omega | exact Nat.le_refl _⟩, ⟨bG BK347⟩, ⟨by exact lT HB (gC GE347 gN)⟩⟩
     case rest =>
      clear HC8
      try clear p2
      try clear c3
      try clear c4
      try clear c5
      try clear c7
      try clear c7b0
      try clear c9
      try clear c9b0
      try clear hcz10_0
      try clear hcz10_1
      try clear hfz10_0
      try clear hfz10_1
      try clear p2
      obtain ⟨kq, x28_7, rfl, HA, HJ7, BK347, HB⟩ := hcut
      cases kq with
      | zero => exact absurd HA.out (by simp [spec_SectorText.j1])
      | succ kj7 =>
       have H := HA.out
       clear HA
       simp only [spec_SectorText.j1] at H
       by_cases c11 : x28_7 = true
       ·subst c11
        have H1 : (some ((⟨#[]⟩ : ByteArray), false)) = some (r1, r2) := by rw [if_pos rfl] at H; exact H
        clear H
        have H := H1
        clear H1
        simp only [Option.some.injEq, Prod.mk.injEq] at H
        obtain ⟨rfl, rfl⟩ := H
        go_wp2
        go_ret2
        exact ⟨ew, by exact lT HB (gC GE347 gN)⟩
       ·replace c11 := Bool.eq_false_iff.mpr c11
        subst c11
        have H1 : ((spec_ReadSector.f kj7 l0_0 l0_1 (wrap64 (a1 + x9_1))).bind fun bt349 => (if bt349.2 = true then (if x8_1.size + bt349.1.size ≤ 9223372036854775807 then (spec_SectorText.l0 kj7 a1 a2 (x8_1 ++ bt349.1) (wrap64 (x9_1 + 1)) l0_0 l0_1) else (none)) else (some ((⟨#[]⟩ : ByteArray), false)))) = some (r1, r2) := by rw [if_neg (show ¬ (false = true) by decide)] at H; exact H
        clear H
        have H := H1
        clear H1
        replace H := Option.bind_eq_some_iff.mp H
        obtain ⟨⟨t349, t350⟩, A120, H⟩ := H
        replace H : (if t350 = true then (if x8_1.size + t349.size ≤ 9223372036854775807 then (spec_SectorText.l0 kj7 a1 a2 (x8_1 ++ t349) (wrap64 (x9_1 + 1)) l0_0 l0_1) else (none)) else (some ((⟨#[]⟩ : ByteArray), false))) = some (r1, r2) := H
        have A12 := Aside0.mk A120
        clear A120
        by_cases c13 : t350 = true
        ·subst c13
         have H1 : (if x8_1.size + t349.size ≤ 9223372036854775807 then (spec_SectorText.l0 kj7 a1 a2 (x8_1 ++ t349) (wrap64 (x9_1 + 1)) l0_0 l0_1) else (none)) = some (r1, r2) := by rw [if_pos rfl] at H; exact H
         clear H
         have H := H1
         clear H1
         by_cases c14 : x8_1.size + t349.size ≤ 9223372036854775807
         ·rw [if_pos c14] at H
          have c14b0 := eq_true c14
          have c14b1 : decide (x8_1.size + t349.size ≤ 9223372036854775807) = true := decide_eq_true c14
          try have c14b2 : (9223372036854775807 < x8_1.size + t349.size) = False := eq_false (Nat.not_lt.2 c14)
          have H' := Aside0.mk H
          clear H
          have hcz15_0 : wc.cell? ⟨gb347, 0, none⟩ = some (.slice A0_0 l0_0.length c0_0) := bc BK347 0
          have hcz15_1 : wc.cell? ⟨gb347, 1, none⟩ = some (.slice A0_1 l0_1.length c0_1) := bc BK347 1
          have hfz15_0 := blk_frozen BK347.out 0
          have hfz15_1 := blk_frozen BK347.out 1
          go_wp2_with (first | ((with_reducible refine gate_callee (f := 14) rfl ?_); refine gl (some 34) Try.func14 #[.agg #[.slice A0_0 l0_0.length c0_0, .slice A0_1 l0_1.length c0_1], .int .i64 (wrap64 (a1 + x9_1))] ?_; (with_reducible refine (spec_ReadSector.calls kj7 _ _ l0_0 _ _ l0_1 (wrap64 (a1 + x9_1)) t349 true _ ?side1 ?side2 ?side3 ?side4 A12.out).mono ?_); (case side1 => exact cG (Kd.C_below HR0_0.out HB.out)); (case side2 => exact HC0_0.out); (case side3 => exact cG (Kd.C_below HR0_1.out HB.out)); (case side4 => exact HC0_1.out); rintro e w16 ⟨rfl, hb⟩; refine ⟨_, rfl, ?_⟩; replace BK347 := bB BK347 hb; replace HB := ak (below_step (lT HB (gC GE347 gN)) hb); (try clear hb); (try clear hk)))
          go_roundg kj7
          case measure => have := HK1.out; have := HJ7.out; omega
          case rel => exact ⟨(x8_1 ++ t349), (wrap64 (x9_1 + 1)), (by first | rfl | (simp; done) | (simp [*]; done)), (by first | rfl | (simp; done) | (simp [*]; done)), H', ⟨by have := HK1.out; have := HJ7.out; omega⟩, ⟨bG BK347⟩, ⟨by exact lT HB (gC GE347 gN)⟩⟩
         ·rw [if_neg c14] at H
          exact absurd H (by simp)
        ·replace c13 := Bool.eq_false_iff.mpr c13
         subst c13
         have H1 : (some ((⟨#[]⟩ : ByteArray), false)) = some (r1, r2) := by rw [if_neg (show ¬ (false = true) by decide)] at H; exact H
         clear H
         have H := H1
         clear H1
         simp only [Option.some.injEq, Prod.mk.injEq] at H
         obtain ⟨rfl, rfl⟩ := H
         have hcz17_0 : wc.cell? ⟨gb347, 0, none⟩ = some (.slice A0_0 l0_0.length c0_0) := bc BK347 0
         have hcz17_1 : wc.cell? ⟨gb347, 1, none⟩ = some (.slice A0_1 l0_1.length c0_1) := bc BK347 1
         have hfz17_0 := blk_frozen BK347.out 0
         have hfz17_1 := blk_frozen BK347.out 1
         go_wp2_with (first | ((with_reducible refine gate_callee (f := 14) rfl ?_); refine gl (some 34) Try.func14 #[.agg #[.slice A0_0 l0_0.length c0_0, .slice A0_1 l0_1.length c0_1], .int .i64 (wrap64 (a1 + x9_1))] ?_; (with_reducible refine (spec_ReadSector.calls kj7 _ _ l0_0 _ _ l0_1 (wrap64 (a1 + x9_1)) t349 false _ ?side1 ?side2 ?side3 ?side4 A12.out).mono ?_); (case side1 => exact cG (Kd.C_below HR0_0.out HB.out)); (case side2 => exact HC0_0.out); (case side3 => exact cG (Kd.C_below HR0_1.out HB.out)); (case side4 => exact HC0_1.out); rintro e w18 ⟨rfl, hb⟩; refine ⟨_, rfl, ?_⟩; replace BK347 := bB BK347 hb; replace HB := ak (below_step (lT HB (gC GE347 gN)) hb); (try clear hb); (try clear hk)))
         go_ret2
         exact ⟨ew, by exact lT HB (gC GE347 gN)⟩
    ·rw [if_neg c7] at H
     have c7b0 : decide (x9_1 < a2) = false := decide_eq_false c7
     clear c7
     simp only [Option.some.injEq, Prod.mk.injEq] at H
     obtain ⟨rfl, rfl⟩ := H
     go_wp2
     go_ret2
     exact ⟨ew, by exact lT HB (gC GE347 gN)⟩
 ·replace c5 := Bool.eq_false_iff.mpr c5
  subst c5
  have H1 : (some ((⟨#[]⟩ : ByteArray), false)) = some (r1, r2) := by rw [if_neg (show ¬ (false = true) by decide)] at H; exact H
  clear H
  have H := H1
  clear H1
  simp only [Option.some.injEq, Prod.mk.injEq] at H
  obtain ⟨rfl, rfl⟩ := H
  go_enter Try.func33, Try.ntmps33
  go_wp2_with (first | ((with_reducible refine gate_dst (N := 3) rfl ?_); (try (refine gate_guard (by rfl) ?_; dsimp only)); refine bx 3 #[.slice A0_0 l0_0.length c0_0, .slice A0_1 l0_1.length c0_1] 27 ?_; intro gb347 hg w19 hbox hb; replace BK347 := ak (hbox); replace GW347 := ak (bz hg (lG HB)); replace GE347 := ak (bz hg (lG HB)); replace HB := lB HB hb; clear hb hbox hg) | ((with_reducible refine gate_callee (f := 49) rfl ?_); refine gl (some 13) Try.func49 #[.int .i64 a2, .int .i64 0, .int .i64 100] ?_; (with_reducible refine (spec_l01In.calls a2 0 100 false _ A4.out).mono ?_); rintro e w' ⟨rfl, ⟨nd, rfl⟩⟩; refine ⟨_, rfl, ?_⟩))
  go_ret2
  exact ⟨ew, by exact lT HB (gC GE347 gN)⟩
/-! ### spec_SegText: function 25 -/
def spec_SegText.f (k : Nat) (l0_0 : List ByteArray) (l0_1 : List (S63)) (a1 : Int) : Option (ByteArray) := (spec_l01In.f a1 0 10).bind fun t352 => (if t352 = true then ((spec_SegFirst.f a1).bind fun t353 => ((spec_SectorText.f k l0_0 l0_1 t353 8).bind fun bt354 => (some bt354.1))) else (some (⟨#[]⟩ : ByteArray)))
theorem spec_SegText.mono : ∀ a0 a1 a2 k, LeO (spec_SegText.f k a0 a1 a2) (spec_SegText.f (k + 1) a0 a1 a2) := by
 intro a0 a1 a2 k
 unfold spec_SegText.f
 repeat' first
   | (with_reducible exact spec_SectorText.mono _ _ _ _ _)
   | (with_reducible exact LeO.refl _)
   | (with_reducible exact LeO.none _)
   | (with_reducible refine LeO.ite ?_ ?_)
   | (with_reducible refine LeO.bind ?_ (fun _ => ?_))
   | exact spec_SectorText.mono _ _ _ _ _
   | exact LeO.none _
   | refine LeO.ite ?_ ?_
   | refine LeO.bind ?_ (fun _ => ?_)
def spec_SegText.T3 : Bool × List (List Nat × List Nat) := (true, [([], []), ([], []), ([1], [1]), ([0, 2, 2], [0, 2]), ([3], [3]), ([4], [4]), ([4], [4]), ([5, 3, 0, 1, 2, 3, 4, 5], [5]), ([6, 7, 0, 1, 2, 3, 4, 5, 6, 7], [6])])
def spec_SegText.B3 : List Nat := [0, 0, 2, 7, 15, 31, 31, 63, 255]
theorem spec_SegText.tab3 : rtab .any (opsOf Try.f25 3) = spec_SegText.T3 := by kernel_rfl
theorem spec_SegText.bits3 : waitsOk spec_SegText.T3.2 spec_SegText.B3 = true := by kernel_rfl
theorem spec_SegText.calls (k : Nat) (A0_0 : Option Addr) (c0_0 : Nat) (l0_0 : List ByteArray) (A0_1 : Option Addr) (c0_1 : Nat) (l0_1 : List (S63)) (a1 : Int) (r : ByteArray) (w : World) (hr0_0 : Kd.C Kd.string w A0_0 l0_0.length l0_0) (hc0_0 : l0_0.length ≤ c0_0) (hr0_1 : Kd.C k63 w A0_1 l0_1.length l0_1) (hc0_1 : l0_1.length ≤ c0_1) (h : spec_SegText.f k l0_0 l0_1 a1 = some r) :
  Calls Try.prog 25 #[.agg #[.slice A0_0 l0_0.length c0_0, .slice A0_1 l0_1.length c0_1], .int .i64 a1] w fun e w' => e = .returned (.string r) ∧ Below w.heap.size w w' := by
 have hu27 := Try.underlying27
 have HR0_0 := Aside0.mk hr0_0
 have HC0_0 := Aside0.mk hc0_0
 clear hr0_0 hc0_0
 have HR0_1 := Aside0.mk hr0_1
 have HC0_1 := Aside0.mk hc0_1
 clear hr0_1 hc0_1
 have HB := ak (Below.refl w.heap.size w)
 have H : ((spec_l01In.f a1 0 10).bind fun t352 => (if t352 = true then ((spec_SegFirst.f a1).bind fun t353 => ((spec_SectorText.f k l0_0 l0_1 t353 8).bind fun bt354 => (some bt354.1))) else (some (⟨#[]⟩ : ByteArray)))) = some r := h
 clear h
 replace H := Option.bind_eq_some_iff.mp H
 obtain ⟨t352, A30, H⟩ := H
 replace H : (if t352 = true then ((spec_SegFirst.f a1).bind fun t353 => ((spec_SectorText.f k l0_0 l0_1 t353 8).bind fun bt354 => (some bt354.1))) else (some (⟨#[]⟩ : ByteArray))) = some r := H
 have A3 := Aside0.mk A30
 clear A30
 by_cases c4 : t352 = true
 ·subst c4
  have H1 : ((spec_SegFirst.f a1).bind fun t353 => ((spec_SectorText.f k l0_0 l0_1 t353 8).bind fun bt354 => (some bt354.1))) = some r := by rw [if_pos rfl] at H; exact H
  clear H
  have H := H1
  clear H1
  replace H := Option.bind_eq_some_iff.mp H
  obtain ⟨t353, A50, H⟩ := H
  replace H : ((spec_SectorText.f k l0_0 l0_1 t353 8).bind fun bt354 => (some bt354.1)) = some r := H
  have A5 := Aside0.mk A50
  clear A50
  replace H := Option.bind_eq_some_iff.mp H
  obtain ⟨⟨t354, t355⟩, A60, H⟩ := H
  replace H : (some t354) = some r := H
  have A6 := Aside0.mk A60
  clear A60
  obtain rfl := Option.some.inj H
  go_enter Try.func25, Try.ntmps25
  try go_wp2_with (first | ((with_reducible refine gate_dst (N := 2) rfl ?_); refine bx 2 #[.slice A0_0 l0_0.length c0_0, .slice A0_1 l0_1.length c0_1] 27 ?_; intro gb351 hg w7 hbox hb; replace BK351 := ak (hbox); replace GW351 := ak (bz hg (lG HB)); replace GE351 := ak (bz hg (lG HB)); replace HB := lB HB hb; clear hb hbox hg) | ((with_reducible refine gate_callee (f := 49) rfl ?_); refine gl (some 8) Try.func49 #[.int .i64 a1, .int .i64 0, .int .i64 10] ?_; (with_reducible refine (spec_l01In.calls a1 0 10 true _ A3.out).mono ?_); rintro e w' ⟨rfl, ⟨nd, rfl⟩⟩; refine ⟨_, rfl, ?_⟩))
  (try (rw [drewN_self w7]; generalize hq_ : World.drewN w7 _ = w7; have n0_ : Aside0 (w7.heap[gb351]? = some (.cells #[.slice A0_0 l0_0.length c0_0, .slice A0_1 l0_1.length c0_1] 27 (0, 0))) := ⟨by rw [← hq_]; exact (bG BK351)⟩; have n1_ : Aside0 (Below w.heap.size w w7) := ⟨by rw [← hq_]; exact (lT HB (gC GE351 gN))⟩; clear BK351 HB hq_; have BK351 := n0_; have HB := n1_; clear n0_ n1_))
  (try (have hy351_0 : w7.cell? ⟨gb351, 0, none⟩ = some (.slice A0_0 l0_0.length c0_0) := bc BK351 0; have hv351_0 := blk_frozen BK351.out 0; have hy351_1 : w7.cell? ⟨gb351, 1, none⟩ = some (.slice A0_1 l0_1.length c0_1) := bc BK351 1; have hv351_1 := blk_frozen BK351.out 1))
  replace BK351 := ak (blk_drew BK351.out)
  replace HB := ak (below_drew1 HB.out)
  refine start_ (n := 9) (S := fun w' => w'.cell? ⟨gb351, 0, none⟩ = some (.slice A0_0 l0_0.length c0_0) ∧ w'.cell? ⟨gb351, 1, none⟩ = some (.slice A0_1 l0_1.length c0_1)) (ds := []) #[f_,f_,f_,f_,f_,f_,f_,f_,f_] (by kernel_rfl) rfl rfl ⟨bc BK351 0, bc BK351 1⟩ (fun hHeld => ?_); refine with_tabW spec_SegText.tab3 spec_SegText.bits3 (fun HT_ HW_ => ?_)
  generalize w7.drew = w8 at BK351 HB hHeld ⊢
  refine pu 1 12 (fb 9 2) HT_ ?_
  refine tk 0 11 (fb 9 3) HT_ HW_ hHeld ?_
  refine on 2 (some 13) (fb 9 7) HT_ (fun K hK => ?_)
  refine goes_ Try.func61 (by kernel_rfl) rfl #[.int .i64 a1] (by rfl) rfl rfl (by (try simp only [List.map_toArray, List.map_cons, List.map_nil]); first | done | rfl | (simp only [List.length_drop, List.length_take]; rfl)) ?_
  with_reducible refine (spec_SegFirst.calls a1 t353 _ A5.out).mono ?_
  rintro e w' ⟨rfl, ⟨nd, rfl⟩⟩
  refine ⟨_, rfl, ?_⟩
  refine hK.out _ _ ⟨bc BK351 0, bc BK351 1⟩ (fun hHeld => ?_)
  clear hK K
  refine nm ?_
  refine on 3 (some 14) (fb 9 15) HT_ (fun K hK => ?_)
  refine goes_ Try.func33 (by kernel_rfl) rfl #[.agg #[.slice A0_0 l0_0.length c0_0, .slice A0_1 l0_1.length c0_1], .int .i64 t353, .int .i64 8] (by rfl) rfl rfl (by (try simp only [List.map_toArray, List.map_cons, List.map_nil]); first | done | rfl | (simp only [List.length_drop, List.length_take]; rfl)) ?_
  with_reducible refine (spec_SectorText.calls k _ _ l0_0 _ _ l0_1 t353 8 t354 t355 _ ?side1 ?side2 ?side3 ?side4 A6.out).mono ?_
  (case side1 => repeat (first | exact (Kd.C_below HR0_0.out (lT HB (gC GE351 gN))) | (with_reducible refine Kd.C_alloc ?_ _) | (with_reducible refine Kd.C_drewN ?_ _) | (with_reducible refine Kd.C_drew ?_)))
  (case side2 => exact HC0_0.out)
  (case side3 => repeat (first | exact (Kd.C_below HR0_1.out (lT HB (gC GE351 gN))) | (with_reducible refine Kd.C_alloc ?_ _) | (with_reducible refine Kd.C_drewN ?_ _) | (with_reducible refine Kd.C_drew ?_)))
  (case side4 => exact HC0_1.out)
  rintro e w9 ⟨rfl, hb⟩
  refine ⟨_, rfl, ?_⟩
  replace BK351 := bB BK351 hb
  replace HB := ak (below_step (lT HB (gC GE351 gN)) hb)
  (try clear hb)
  (try clear hb2)
  (try clear hk)
  (try clear hi)
  refine hK.out _ _ ⟨bc BK351 0, bc BK351 1⟩ (fun hHeld => ?_)
  clear hK K
  refine nm ?_
  refine pu 4 10 (fb 9 31) HT_ ?_
  refine pu 5 15 (fb 9 63) HT_ ?_
  refine pu 6 16 (fb 9 127) HT_ ?_
  refine pu 7 5 (fb 9 255) HT_ ?_
  refine pu 8 6 (fb 9 511) HT_ ?_
  refine done_ (done_of HT_.out (by kernel_rfl)) ?_
  try go_wp2
  go_ret
  exact ⟨ew, by exact lT HB (gC GE351 gN)⟩
 ·replace c4 := Bool.eq_false_iff.mpr c4
  subst c4
  have H1 : (some (⟨#[]⟩ : ByteArray)) = some r := by rw [if_neg (show ¬ (false = true) by decide)] at H; exact H
  clear H
  have H := H1
  clear H1
  obtain rfl := Option.some.inj H
  go_enter Try.func25, Try.ntmps25
  go_wp2_with (first | ((with_reducible refine gate_dst (N := 2) rfl ?_); refine bx 2 #[.slice A0_0 l0_0.length c0_0, .slice A0_1 l0_1.length c0_1] 27 ?_; intro gb351 hg w10 hbox hb; replace BK351 := ak (hbox); replace GW351 := ak (bz hg (lG HB)); replace GE351 := ak (bz hg (lG HB)); replace HB := lB HB hb; clear hb hbox hg) | ((with_reducible refine gate_callee (f := 49) rfl ?_); refine gl (some 8) Try.func49 #[.int .i64 a1, .int .i64 0, .int .i64 10] ?_; (with_reducible refine (spec_l01In.calls a1 0 10 false _ A3.out).mono ?_); rintro e w' ⟨rfl, ⟨nd, rfl⟩⟩; refine ⟨_, rfl, ?_⟩))
  go_ret
  exact ⟨ew, by exact lT HB (gC GE351 gN)⟩
/-! ### impl_SegFirst: function 28 -/
def impl_SegFirst.f (a0 : Int) : Option (Int) := (impl_in.f a0 0 10).bind fun t356 => (if t356 = true then (some (wrap64 (8 + (wrap64 (a0 * 8))))) else (some 0))
theorem impl_SegFirst.calls (a0 : Int) (r : Int) (w : World) (h : impl_SegFirst.f a0 = some r) :
  Calls Try.prog 28 #[.int .i64 a0] w fun e w' => e = .returned (.int .i64 r) ∧ Drawn0 w w' := by
 have H : ((impl_in.f a0 0 10).bind fun t356 => (if t356 = true then (some (wrap64 (8 + (wrap64 (a0 * 8))))) else (some 0))) = some r := h
 clear h
 replace H := Option.bind_eq_some_iff.mp H
 obtain ⟨t356, A20, H⟩ := H
 replace H : (if t356 = true then (some (wrap64 (8 + (wrap64 (a0 * 8))))) else (some 0)) = some r := H
 have A2 := Aside0.mk A20
 clear A20
 by_cases c3 : t356 = true
 ·subst c3
  have H1 : (some (wrap64 (8 + (wrap64 (a0 * 8))))) = some r := by rw [if_pos rfl] at H; exact H
  clear H
  have H := H1
  clear H1
  obtain rfl := Option.some.inj H
  go_enter Try.func28, Try.ntmps28
  go_wp2_with (first | ((with_reducible refine gate_callee (f := 50) rfl ?_); refine gl (some 4) Try.func50 #[.int .i64 a0, .int .i64 0, .int .i64 10] ?_; (with_reducible refine (impl_in.calls a0 0 10 true _ A2.out).mono ?_); rintro e w' ⟨rfl, ⟨nd, rfl⟩⟩; refine ⟨_, rfl, ?_⟩))
  go_ret
  exact ⟨by first | rfl | (simp; done) | (simp [*]; done), by repeat (first | exact Drawn0.refl _ | apply Drawn0.step)⟩
 ·replace c3 := Bool.eq_false_iff.mpr c3
  subst c3
  have H1 : (some 0) = some r := by rw [if_neg (show ¬ (false = true) by decide)] at H; exact H
  clear H
  have H := H1
  clear H1
  obtain rfl := Option.some.inj H
  go_enter Try.func28, Try.ntmps28
  go_wp2_with (first | ((with_reducible refine gate_callee (f := 50) rfl ?_); refine gl (some 4) Try.func50 #[.int .i64 a0, .int .i64 0, .int .i64 10] ?_; (with_reducible refine (impl_in.calls a0 0 10 false _ A2.out).mono ?_); rintro e w' ⟨rfl, ⟨nd, rfl⟩⟩; refine ⟨_, rfl, ?_⟩))
  go_ret
  exact ⟨by first | rfl | (simp; done) | (simp [*]; done), by repeat (first | exact Drawn0.refl _ | apply Drawn0.step)⟩
/-! ### impl_ReadSector: function 15 -/
def impl_ReadSector.l0 : Nat → Int → ByteArray → List (S63) → Int → Int → Option (ByteArray × Bool)
 | 0, _, _, _, _, _ => none
 | k + 1, x1, x6, x22, x23, x24 => if x24 < x23 then (if 0 ≤ x24 then (if x24 < (x22.length : Int) then (if ((rd_T63 x22 x24).f0) = x1 then (impl_ReadSector.l0 k x1 ((rd_T63 x22 x24).f1) x22 x23 (wrap64 (x24 + 1))) else (impl_ReadSector.l0 k x1 x6 x22 x23 (wrap64 (x24 + 1)))) else (none)) else (none)) else (some (x6, true))
def impl_ReadSector.f (k : Nat) (l0_0 : List ByteArray) (l0_1 : List (S63)) (a1 : Int) : Option (ByteArray × Bool) := (impl_in.f a1 0 (wrap64 ((l0_0.length : Int) - 1))).bind fun t358 => (if t358 = true then (if 0 ≤ a1 then (if a1 < (l0_0.length : Int) then (impl_ReadSector.l0 k a1 (rdOf ByteArray.empty l0_0 a1) l0_1 (l0_1.length : Int) 0) else (none)) else (none)) else (some ((⟨#[]⟩ : ByteArray), false)))
theorem impl_ReadSector.mono_l : ∀ k, (∀ y0 y1 y2 y3 y4, LeO (impl_ReadSector.l0 k y0 y1 y2 y3 y4) (impl_ReadSector.l0 (k + 1) y0 y1 y2 y3 y4))
 | 0 => fun _ _ _ _ _ r h => by simp [impl_ReadSector.l0] at h
 | k + 1 => by
  have ih0 := impl_ReadSector.mono_l k
  ·intro y0 y1 y2 y3 y4
   unfold impl_ReadSector.l0
   repeat' first
   | (with_reducible exact ih0 _ _ _ _ _)
   | (with_reducible exact LeO.refl _)
   | (with_reducible exact LeO.none _)
   | (with_reducible refine LeO.ite ?_ ?_)
   | (with_reducible refine LeO.bind ?_ (fun _ => ?_))
   | exact ih0 _ _ _ _ _
   | exact LeO.none _
   | refine LeO.ite ?_ ?_
   | refine LeO.bind ?_ (fun _ => ?_)
theorem impl_ReadSector.mono : ∀ a0 a1 a2 k, LeO (impl_ReadSector.f k a0 a1 a2) (impl_ReadSector.f (k + 1) a0 a1 a2) := by
 intro a0 a1 a2 k
 have ih0 := impl_ReadSector.mono_l k
 unfold impl_ReadSector.f
 repeat' first
   | (with_reducible exact ih0 _ _ _ _ _)
   | (with_reducible exact LeO.refl _)
   | (with_reducible exact LeO.none _)
   | (with_reducible refine LeO.ite ?_ ?_)
   | (with_reducible refine LeO.bind ?_ (fun _ => ?_))
   | exact ih0 _ _ _ _ _
   | exact LeO.none _
   | refine LeO.ite ?_ ?_
   | refine LeO.bind ?_ (fun _ => ?_)
theorem impl_ReadSector.calls (k : Nat) (A0_0 : Option Addr) (c0_0 : Nat) (l0_0 : List ByteArray) (A0_1 : Option Addr) (c0_1 : Nat) (l0_1 : List (S63)) (a1 : Int) (r1 : ByteArray) (r2 : Bool) (w : World) (hr0_0 : Kd.C Kd.string w A0_0 l0_0.length l0_0) (hc0_0 : l0_0.length ≤ c0_0) (hr0_1 : Kd.C k63 w A0_1 l0_1.length l0_1) (hc0_1 : l0_1.length ≤ c0_1) (h : impl_ReadSector.f k l0_0 l0_1 a1 = some (r1, r2)) :
  Calls Try.prog 15 #[.agg #[.slice A0_0 l0_0.length c0_0, .slice A0_1 l0_1.length c0_1], .int .i64 a1] w fun e w' => e = .returned (.tuple #[.string r1, .bool r2]) ∧ Below w.heap.size w w' := by
 have hu27 := Try.underlying27
 have hu63 := Try.underlying63
 have HR0_0 := Aside0.mk hr0_0
 have HC0_0 := Aside0.mk hc0_0
 clear hr0_0 hc0_0
 have HR0_1 := Aside0.mk hr0_1
 have HC0_1 := Aside0.mk hc0_1
 clear hr0_1 hc0_1
 have HB := ak (Below.refl w.heap.size w)
 have H : ((impl_in.f a1 0 (wrap64 ((l0_0.length : Int) - 1))).bind fun t358 => (if t358 = true then (if 0 ≤ a1 then (if a1 < (l0_0.length : Int) then (impl_ReadSector.l0 k a1 (rdOf ByteArray.empty l0_0 a1) l0_1 (l0_1.length : Int) 0) else (none)) else (none)) else (some ((⟨#[]⟩ : ByteArray), false)))) = some (r1, r2) := h
 clear h
 replace H := Option.bind_eq_some_iff.mp H
 obtain ⟨t358, A30, H⟩ := H
 replace H : (if t358 = true then (if 0 ≤ a1 then (if a1 < (l0_0.length : Int) then (impl_ReadSector.l0 k a1 (rdOf ByteArray.empty l0_0 a1) l0_1 (l0_1.length : Int) 0) else (none)) else (none)) else (some ((⟨#[]⟩ : ByteArray), false))) = some (r1, r2) := H
 have A3 := Aside0.mk A30
 clear A30
 by_cases c4 : t358 = true
 ·subst c4
  have H1 : (if 0 ≤ a1 then (if a1 < (l0_0.length : Int) then (impl_ReadSector.l0 k a1 (rdOf ByteArray.empty l0_0 a1) l0_1 (l0_1.length : Int) 0) else (none)) else (none)) = some (r1, r2) := by rw [if_pos rfl] at H; exact H
  clear H
  have H := H1
  clear H1
  by_cases c5 : 0 ≤ a1
  ·rw [if_pos c5] at H
   have c5b0 : decide (0 ≤ a1) = true := decide_eq_true c5
   clear c5
   by_cases c6 : a1 < (l0_0.length : Int)
   ·rw [if_pos c6] at H
    have c6b0 : decide (a1 < (l0_0.length : Int)) = true := decide_eq_true c6
    clear c6
    have H' := Aside0.mk H
    clear H
    go_enter Try.func15, Try.ntmps15
    go_wp2_with (first | ((with_reducible refine gate_dst (N := 2) rfl ?_); refine bx 2 #[.slice A0_0 l0_0.length c0_0, .slice A0_1 l0_1.length c0_1] 27 ?_; intro gb357 hg w7 hbox hb; replace BK357 := ak (hbox); replace GW357 := ak (bz hg (lG HB)); replace GE357 := ak (bz hg (lG HB)); replace HB := lB HB hb; clear hb hbox hg; obtain ⟨hcz8_0, hcz8_1, hfz8_0, hfz8_1⟩ := bC2 BK357) | ((with_reducible refine gate_callee (f := 50) rfl ?_); refine gl (some 14) Try.func50 #[.int .i64 a1, .int .i64 0, .int .i64 (wrap64 ((l0_0.length : Int) - 1))] ?_; (with_reducible refine (impl_in.calls a1 0 (wrap64 ((l0_0.length : Int) - 1)) true _ A3.out).mono ?_); rintro e w' ⟨rfl, ⟨nd, rfl⟩⟩; refine ⟨_, rfl, ?_⟩; have p359 : 0 ≤ (a1 : Int) := of_decide_eq_true (by first | (with_reducible assumption) | assumption); have q359 : a1 < (l0_0.length : Int) := of_decide_eq_true (by first | (with_reducible assumption) | assumption); obtain ⟨ad359, e359, hx359_0⟩ := Kd.at_string HR0_0.out a1 p359 q359; cases e359; replace hx359_0 := (HB.out.cell (World.block_lt_of_cell? w _ hx359_0)).trans hx359_0; replace p359 := eq_true p359; replace q359 := eq_true q359))
    go_loopg [6, 24] k (fun kq v6 v24 w' => ∃ (x6_1 : ByteArray) (x24_1 : Int), v6 = .string x6_1 ∧ v24 = .int .i64 x24_1 ∧ Aside0 (impl_ReadSector.l0 kq a1 x6_1 l0_1 (l0_1.length : Int) x24_1 = some (r1, r2)) ∧ Aside0 (kq ≤ k) ∧ Aside0 (w'.heap[gb357]? = some (.cells #[(.slice (some ad359) l0_0.length c0_0), (.slice A0_1 l0_1.length c0_1)] 27 (0, 0))) ∧ Aside0 (Below w.heap.size w w'))
    case atStart => exact ⟨(rdOf ByteArray.empty l0_0 a1), (0), (by first | rfl | (simp; done) | (simp [*]; done)), (by first | rfl | (simp; done) | (simp [*]; done)), H', ⟨Nat.le_refl _⟩, ⟨bG BK357⟩, ⟨by exact lT HB (gC GE357 gN)⟩⟩
    case round =>
     clear H'
     try clear c1
     try clear p2
     try clear p3
     try clear q3
     try clear hx3
     try clear c4
     try clear c5
     try clear c5b0
     try clear c6
     try clear c6b0
     try clear p6
     try clear hcz8_0
     try clear hcz8_1
     try clear hfz8_0
     try clear hfz8_1
     try clear hx359_0
     try clear p359
     try clear q359
     obtain ⟨x6_1, x24_1, rfl, rfl, HA, HK1, BK357, HB⟩ := hrel
     cases gk with
     | zero => exact absurd HA.out (by simp [impl_ReadSector.l0])
     | succ k1 =>
      have H := HA.out
      clear HA
      simp only [impl_ReadSector.l0] at H
      by_cases c9 : x24_1 < (l0_1.length : Int)
      ·rw [if_pos c9] at H
       have c9b0 : decide (x24_1 < (l0_1.length : Int)) = true := decide_eq_true c9
       clear c9
       by_cases c10 : 0 ≤ x24_1
       ·rw [if_pos c10] at H
        have c10b0 : decide (0 ≤ x24_1) = true := decide_eq_true c10
        clear c10
        by_cases c11 : x24_1 < (l0_1.length : Int)
        ·rw [if_pos c11] at H
         have c11b0 : decide (x24_1 < (l0_1.length : Int)) = true := decide_eq_true c11
         clear c11
         by_cases c12 : ((rd_T63 l0_1 x24_1).f0) = a1
         ·rw [if_pos c12] at H
          have c12b0 : (((rd_T63 l0_1 x24_1).f0) == a1) = true := beq_iff_eq.mpr c12
          have c12b1 : (((rd_T63 l0_1 x24_1).f0) != a1) = false := bne_eq_false_iff_eq.mpr c12
          clear c12
          have H' := Aside0.mk H
          clear H
          have p360 : 0 ≤ (x24_1 : Int) := of_decide_eq_true (by first | (with_reducible assumption) | assumption)
          have q360 : x24_1 < (l0_1.length : Int) := of_decide_eq_true (by first | (with_reducible assumption) | assumption)
          obtain ⟨ad360, e360, hx360_0, hx360_1⟩ := at_T63 HR0_1.out x24_1 p360 q360
          cases e360
          replace hx360_0 := (HB.out.cell (World.block_lt_of_cell? w _ hx360_0)).trans hx360_0
          replace hx360_1 := (HB.out.cell (World.block_lt_of_cell? w _ hx360_1)).trans hx360_1
          replace p360 := eq_true p360
          replace q360 := eq_true q360
          go_wp2_with (first | ((with_reducible refine gate_dst (N := 8) rfl ?_); refine bx 8 #[.int .i64 0, .string (⟨#[]⟩ : ByteArray)] 63 ?_; intro gb361 hg w13 hbox hb; replace BK361 := ak (hbox); replace GW361 := ak (bz hg (lT HB (gC GE357 gN))); replace GE361 := ak (bz hg (lT HB (gC GE357 gN))); replace HB := ak (below_step (lT HB (gC GE357 gN)) hb); replace NB357_361 := ak (nl hg (bG BK357)); replace NB361_357 := ak (ng hg (bG BK357)); replace BK357 := bB BK357 hb; clear hb hbox hg; have hnb14 := NB361_357.out; have hnc14 := NB357_361.out; obtain ⟨hcz15_0, hcz15_1, hfz15_0, hfz15_1⟩ := bC2 BK361))
          go_roundg k1
          case measure => have := HK1.out; omega
          case rel => exact ⟨((rd_T63 l0_1 x24_1).f1), (wrap64 (x24_1 + 1)), (by first | rfl | (simp; done) | (simp [*]; done)), (by first | rfl | (simp; done) | (simp [*]; done)), H', ⟨by have := HK1.out; omega⟩, ⟨by (with_reducible repeat (first | refine blk_drewN ?_ _ | refine blk_drew ?_ | refine blk_alloc ?_ _)); refine blk_far ?_ NB357_361.out _; (with_reducible repeat (first | refine blk_drewN ?_ _ | refine blk_drew ?_ | refine blk_alloc ?_ _)); refine blk_far ?_ NB357_361.out _; (with_reducible repeat (first | refine blk_drewN ?_ _ | refine blk_drew ?_ | refine blk_alloc ?_ _)); exact BK357.out⟩, ⟨by exact lT HB (gC GE357 (gC GE361 gN))⟩⟩
         ·rw [if_neg c12] at H
          have c12b0 : (((rd_T63 l0_1 x24_1).f0) == a1) = false := beq_eq_false_iff_ne.mpr c12
          have c12b1 : (((rd_T63 l0_1 x24_1).f0) != a1) = true := bne_iff_ne.mpr c12
          have H' := Aside0.mk H
          clear H
          have p360 : 0 ≤ (x24_1 : Int) := of_decide_eq_true (by first | (with_reducible assumption) | assumption)
          have q360 : x24_1 < (l0_1.length : Int) := of_decide_eq_true (by first | (with_reducible assumption) | assumption)
          obtain ⟨ad360, e360, hx360_0, hx360_1⟩ := at_T63 HR0_1.out x24_1 p360 q360
          cases e360
          replace hx360_0 := (HB.out.cell (World.block_lt_of_cell? w _ hx360_0)).trans hx360_0
          replace hx360_1 := (HB.out.cell (World.block_lt_of_cell? w _ hx360_1)).trans hx360_1
          replace p360 := eq_true p360
          replace q360 := eq_true q360
          go_wp2_with (first | ((with_reducible refine gate_dst (N := 8) rfl ?_); refine bx 8 #[.int .i64 0, .string (⟨#[]⟩ : ByteArray)] 63 ?_; intro gb361 hg w16 hbox hb; replace BK361 := ak (hbox); replace GW361 := ak (bz hg (lT HB (gC GE357 gN))); replace GE361 := ak (bz hg (lT HB (gC GE357 gN))); replace HB := ak (below_step (lT HB (gC GE357 gN)) hb); replace NB357_361 := ak (nl hg (bG BK357)); replace NB361_357 := ak (ng hg (bG BK357)); replace BK357 := bB BK357 hb; clear hb hbox hg; have hnb17 := NB361_357.out; have hnc17 := NB357_361.out; obtain ⟨hcz18_0, hcz18_1, hfz18_0, hfz18_1⟩ := bC2 BK361))
          go_roundg k1
          case measure => have := HK1.out; omega
          case rel => exact ⟨(x6_1), (wrap64 (x24_1 + 1)), (by first | rfl | (simp; done) | (simp [*]; done)), (by first | rfl | (simp; done) | (simp [*]; done)), H', ⟨by have := HK1.out; omega⟩, ⟨by (with_reducible repeat (first | refine blk_drewN ?_ _ | refine blk_drew ?_ | refine blk_alloc ?_ _)); refine blk_far ?_ NB357_361.out _; (with_reducible repeat (first | refine blk_drewN ?_ _ | refine blk_drew ?_ | refine blk_alloc ?_ _)); refine blk_far ?_ NB357_361.out _; (with_reducible repeat (first | refine blk_drewN ?_ _ | refine blk_drew ?_ | refine blk_alloc ?_ _)); exact BK357.out⟩, ⟨by exact lT HB (gC GE357 (gC GE361 gN))⟩⟩
        ·rw [if_neg c11] at H
         exact absurd H (by simp)
       ·rw [if_neg c10] at H
        exact absurd H (by simp)
      ·rw [if_neg c9] at H
       have c9b0 : decide (x24_1 < (l0_1.length : Int)) = false := decide_eq_false c9
       clear c9
       simp only [Option.some.injEq, Prod.mk.injEq] at H
       obtain ⟨rfl, rfl⟩ := H
       go_wp2
       go_ret2
       exact ⟨ew, by exact lT HB (gC GE357 gN)⟩
   ·rw [if_neg c6] at H
    exact absurd H (by simp)
  ·rw [if_neg c5] at H
   exact absurd H (by simp)
 ·replace c4 := Bool.eq_false_iff.mpr c4
  subst c4
  have H1 : (some ((⟨#[]⟩ : ByteArray), false)) = some (r1, r2) := by rw [if_neg (show ¬ (false = true) by decide)] at H; exact H
  clear H
  have H := H1
  clear H1
  simp only [Option.some.injEq, Prod.mk.injEq] at H
  obtain ⟨rfl, rfl⟩ := H
  go_enter Try.func15, Try.ntmps15
  go_wp2_with (first | ((with_reducible refine gate_dst (N := 2) rfl ?_); refine bx 2 #[.slice A0_0 l0_0.length c0_0, .slice A0_1 l0_1.length c0_1] 27 ?_; intro gb357 hg w19 hbox hb; replace BK357 := ak (hbox); replace GW357 := ak (bz hg (lG HB)); replace GE357 := ak (bz hg (lG HB)); replace HB := lB HB hb; clear hb hbox hg; obtain ⟨hcz20_0, hcz20_1, hfz20_0, hfz20_1⟩ := bC2 BK357) | ((with_reducible refine gate_callee (f := 50) rfl ?_); refine gl (some 14) Try.func50 #[.int .i64 a1, .int .i64 0, .int .i64 (wrap64 ((l0_0.length : Int) - 1))] ?_; (with_reducible refine (impl_in.calls a1 0 (wrap64 ((l0_0.length : Int) - 1)) false _ A3.out).mono ?_); rintro e w' ⟨rfl, ⟨nd, rfl⟩⟩; refine ⟨_, rfl, ?_⟩))
  go_ret2
  exact ⟨ew, by exact lT HB (gC GE357 gN)⟩
/-! ### impl_SectorText: function 32 -/
def impl_SectorText.l0 : Nat → Int → ByteArray → Int → Int → List ByteArray → List (S63) → Option (ByteArray × Bool)
 | 0, _, _, _, _, _, _ => none
 | k + 1, x1, x8, x15, x16, x363000, x363001 => if x16 < x15 then ((impl_ReadSector.f k x363000 x363001 (wrap64 (x1 + x16))).bind fun bt364 => (if bt364.2 = true then (if x8.size + bt364.1.size ≤ 9223372036854775807 then (impl_SectorText.l0 k x1 (x8 ++ bt364.1) x15 (wrap64 (x16 + 1)) x363000 x363001) else (none)) else (some ((⟨#[]⟩ : ByteArray), false)))) else (some (x8, true))
def impl_SectorText.f (k : Nat) (l0_0 : List ByteArray) (l0_1 : List (S63)) (a1 : Int) (a2 : Int) : Option (ByteArray × Bool) := (impl_in.f a2 0 100).bind fun t363 => (if t363 = true then (impl_SectorText.l0 k a1 (⟨#[]⟩ : ByteArray) a2 0 l0_0 l0_1) else (some ((⟨#[]⟩ : ByteArray), false)))
theorem impl_SectorText.mono_l : ∀ k, (∀ y0 y1 y2 y3 y4 y5, LeO (impl_SectorText.l0 k y0 y1 y2 y3 y4 y5) (impl_SectorText.l0 (k + 1) y0 y1 y2 y3 y4 y5))
 | 0 => fun _ _ _ _ _ _ r h => by simp [impl_SectorText.l0] at h
 | k + 1 => by
  have ih0 := impl_SectorText.mono_l k
  ·intro y0 y1 y2 y3 y4 y5
   unfold impl_SectorText.l0
   repeat' first
   | (with_reducible exact ih0 _ _ _ _ _ _)
   | (with_reducible exact impl_ReadSector.mono _ _ _ _)
   | (with_reducible exact LeO.refl _)
   | (with_reducible exact LeO.none _)
   | (with_reducible refine LeO.ite ?_ ?_)
   | (with_reducible refine LeO.bind ?_ (fun _ => ?_))
   | exact ih0 _ _ _ _ _ _
   | exact impl_ReadSector.mono _ _ _ _
   | exact LeO.none _
   | refine LeO.ite ?_ ?_
   | refine LeO.bind ?_ (fun _ => ?_)
theorem impl_SectorText.mono : ∀ a0 a1 a2 a3 k, LeO (impl_SectorText.f k a0 a1 a2 a3) (impl_SectorText.f (k + 1) a0 a1 a2 a3) := by
 intro a0 a1 a2 a3 k
 have ih0 := impl_SectorText.mono_l k
 unfold impl_SectorText.f
 repeat' first
   | (with_reducible exact ih0 _ _ _ _ _ _)
   | (with_reducible exact impl_ReadSector.mono _ _ _ _)
   | (with_reducible exact LeO.refl _)
   | (with_reducible exact LeO.none _)
   | (with_reducible refine LeO.ite ?_ ?_)
   | (with_reducible refine LeO.bind ?_ (fun _ => ?_))
   | exact ih0 _ _ _ _ _ _
   | exact impl_ReadSector.mono _ _ _ _
   | exact LeO.none _
   | refine LeO.ite ?_ ?_
   | refine LeO.bind ?_ (fun _ => ?_)
theorem impl_SectorText.calls (k : Nat) (A0_0 : Option Addr) (c0_0 : Nat) (l0_0 : List ByteArray) (A0_1 : Option Addr) (c0_1 : Nat) (l0_1 : List (S63)) (a1 : Int) (a2 : Int) (r1 : ByteArray) (r2 : Bool) (w : World) (hr0_0 : Kd.C Kd.string w A0_0 l0_0.length l0_0) (hc0_0 : l0_0.length ≤ c0_0) (hr0_1 : Kd.C k63 w A0_1 l0_1.length l0_1) (hc0_1 : l0_1.length ≤ c0_1) (h : impl_SectorText.f k l0_0 l0_1 a1 a2 = some (r1, r2)) :
  Calls Try.prog 32 #[.agg #[.slice A0_0 l0_0.length c0_0, .slice A0_1 l0_1.length c0_1], .int .i64 a1, .int .i64 a2] w fun e w' => e = .returned (.tuple #[.string r1, .bool r2]) ∧ Below w.heap.size w w' := by
 have hu27 := Try.underlying27
 have HR0_0 := Aside0.mk hr0_0
 have HC0_0 := Aside0.mk hc0_0
 clear hr0_0 hc0_0
 have HR0_1 := Aside0.mk hr0_1
 have HC0_1 := Aside0.mk hc0_1
 clear hr0_1 hc0_1
 have HB := ak (Below.refl w.heap.size w)
 have H : ((impl_in.f a2 0 100).bind fun t363 => (if t363 = true then (impl_SectorText.l0 k a1 (⟨#[]⟩ : ByteArray) a2 0 l0_0 l0_1) else (some ((⟨#[]⟩ : ByteArray), false)))) = some (r1, r2) := h
 clear h
 replace H := Option.bind_eq_some_iff.mp H
 obtain ⟨t363, A40, H⟩ := H
 replace H : (if t363 = true then (impl_SectorText.l0 k a1 (⟨#[]⟩ : ByteArray) a2 0 l0_0 l0_1) else (some ((⟨#[]⟩ : ByteArray), false))) = some (r1, r2) := H
 have A4 := Aside0.mk A40
 clear A40
 by_cases c5 : t363 = true
 ·subst c5
  have H1 : (impl_SectorText.l0 k a1 (⟨#[]⟩ : ByteArray) a2 0 l0_0 l0_1) = some (r1, r2) := by rw [if_pos rfl] at H; exact H
  clear H
  have H := H1
  clear H1
  have H' := Aside0.mk H
  clear H
  go_enter Try.func32, Try.ntmps32
  go_wp2_with (first | ((with_reducible refine gate_dst (N := 3) rfl ?_); refine bx 3 #[.slice A0_0 l0_0.length c0_0, .slice A0_1 l0_1.length c0_1] 27 ?_; intro gb362 hg w6 hbox hb; replace BK362 := ak (hbox); replace GW362 := ak (bz hg (lG HB)); replace GE362 := ak (bz hg (lG HB)); replace HB := lB HB hb; clear hb hbox hg) | ((with_reducible refine gate_callee (f := 50) rfl ?_); refine gl (some 13) Try.func50 #[.int .i64 a2, .int .i64 0, .int .i64 100] ?_; (with_reducible refine (impl_in.calls a2 0 100 true _ A4.out).mono ?_); rintro e w' ⟨rfl, ⟨nd, rfl⟩⟩; refine ⟨_, rfl, ?_⟩))
  go_loopg [8, 16] k (fun kq v8 v16 w' => ∃ (x8_1 : ByteArray) (x16_1 : Int), v8 = .string x8_1 ∧ v16 = .int .i64 x16_1 ∧ Aside0 (impl_SectorText.l0 kq a1 x8_1 a2 x16_1 l0_0 l0_1 = some (r1, r2)) ∧ Aside0 (kq ≤ k) ∧ Aside0 (w'.heap[gb362]? = some (.cells #[(.slice A0_0 l0_0.length c0_0), (.slice A0_1 l0_1.length c0_1)] 27 (0, 0))) ∧ Aside0 (Below w.heap.size w w'))
  case atStart => exact ⟨((⟨#[]⟩ : ByteArray)), (0), (by first | rfl | (simp; done) | (simp [*]; done)), (by first | rfl | (simp; done) | (simp [*]; done)), H', ⟨Nat.le_refl _⟩, ⟨bG BK362⟩, ⟨by exact lT HB (gC GE362 gN)⟩⟩
  case round =>
   clear H'
   try clear p2
   try clear c3
   try clear c5
   obtain ⟨x8_1, x16_1, rfl, rfl, HA, HK1, BK362, HB⟩ := hrel
   cases gk with
   | zero => exact absurd HA.out (by simp [impl_SectorText.l0])
   | succ k1 =>
    have H := HA.out
    clear HA
    simp only [impl_SectorText.l0] at H
    by_cases c7 : x16_1 < a2
    ·rw [if_pos c7] at H
     have c7b0 : decide (x16_1 < a2) = true := decide_eq_true c7
     clear c7
     replace H := Option.bind_eq_some_iff.mp H
     obtain ⟨⟨t364, t365⟩, A80, H⟩ := H
     replace H : (if t365 = true then (if x8_1.size + t364.size ≤ 9223372036854775807 then (impl_SectorText.l0 k1 a1 (x8_1 ++ t364) a2 (wrap64 (x16_1 + 1)) l0_0 l0_1) else (none)) else (some ((⟨#[]⟩ : ByteArray), false))) = some (r1, r2) := H
     have A8 := Aside0.mk A80
     clear A80
     by_cases c9 : t365 = true
     ·subst c9
      have H1 : (if x8_1.size + t364.size ≤ 9223372036854775807 then (impl_SectorText.l0 k1 a1 (x8_1 ++ t364) a2 (wrap64 (x16_1 + 1)) l0_0 l0_1) else (none)) = some (r1, r2) := by rw [if_pos rfl] at H; exact H
      clear H
      have H := H1
      clear H1
      by_cases c10 : x8_1.size + t364.size ≤ 9223372036854775807
      ·rw [if_pos c10] at H
       have c10b0 := eq_true c10
       have c10b1 : decide (x8_1.size + t364.size ≤ 9223372036854775807) = true := decide_eq_true c10
       try have c10b2 : (9223372036854775807 < x8_1.size + t364.size) = False := eq_false (Nat.not_lt.2 c10)
       have H' := Aside0.mk H
       clear H
       have hcz11_0 : wr.cell? ⟨gb362, 0, none⟩ = some (.slice A0_0 l0_0.length c0_0) := bc BK362 0
       have hcz11_1 : wr.cell? ⟨gb362, 1, none⟩ = some (.slice A0_1 l0_1.length c0_1) := bc BK362 1
       have hfz11_0 := blk_frozen BK362.out 0
       have hfz11_1 := blk_frozen BK362.out 1
       go_wp2_with (first | ((with_reducible refine gate_callee (f := 15) rfl ?_); refine gl (some 24) Try.func15 #[.agg #[.slice A0_0 l0_0.length c0_0, .slice A0_1 l0_1.length c0_1], .int .i64 (wrap64 (a1 + x16_1))] ?_; (with_reducible refine (impl_ReadSector.calls k1 _ _ l0_0 _ _ l0_1 (wrap64 (a1 + x16_1)) t364 true _ ?side1 ?side2 ?side3 ?side4 A8.out).mono ?_); (case side1 => exact cG (Kd.C_below HR0_0.out HB.out)); (case side2 => exact HC0_0.out); (case side3 => exact cG (Kd.C_below HR0_1.out HB.out)); (case side4 => exact HC0_1.out); rintro e w12 ⟨rfl, hb⟩; refine ⟨_, rfl, ?_⟩; replace BK362 := bB BK362 hb; replace HB := ak (below_step (lT HB (gC GE362 gN)) hb); (try clear hb); (try clear hk)))
       go_roundg k1
       case measure => have := HK1.out; omega
       case rel => exact ⟨(x8_1 ++ t364), (wrap64 (x16_1 + 1)), (by first | rfl | (simp; done) | (simp [*]; done)), (by first | rfl | (simp; done) | (simp [*]; done)), H', ⟨by have := HK1.out; omega⟩, ⟨bG BK362⟩, ⟨by exact lT HB (gC GE362 gN)⟩⟩
      ·rw [if_neg c10] at H
       exact absurd H (by simp)
     ·replace c9 := Bool.eq_false_iff.mpr c9
      subst c9
      have H1 : (some ((⟨#[]⟩ : ByteArray), false)) = some (r1, r2) := by rw [if_neg (show ¬ (false = true) by decide)] at H; exact H
      clear H
      have H := H1
      clear H1
      simp only [Option.some.injEq, Prod.mk.injEq] at H
      obtain ⟨rfl, rfl⟩ := H
      have hcz13_0 : wr.cell? ⟨gb362, 0, none⟩ = some (.slice A0_0 l0_0.length c0_0) := bc BK362 0
      have hcz13_1 : wr.cell? ⟨gb362, 1, none⟩ = some (.slice A0_1 l0_1.length c0_1) := bc BK362 1
      have hfz13_0 := blk_frozen BK362.out 0
      have hfz13_1 := blk_frozen BK362.out 1
      go_wp2_with (first | ((with_reducible refine gate_callee (f := 15) rfl ?_); refine gl (some 24) Try.func15 #[.agg #[.slice A0_0 l0_0.length c0_0, .slice A0_1 l0_1.length c0_1], .int .i64 (wrap64 (a1 + x16_1))] ?_; (with_reducible refine (impl_ReadSector.calls k1 _ _ l0_0 _ _ l0_1 (wrap64 (a1 + x16_1)) t364 false _ ?side1 ?side2 ?side3 ?side4 A8.out).mono ?_); (case side1 => exact cG (Kd.C_below HR0_0.out HB.out)); (case side2 => exact HC0_0.out); (case side3 => exact cG (Kd.C_below HR0_1.out HB.out)); (case side4 => exact HC0_1.out); rintro e w14 ⟨rfl, hb⟩; refine ⟨_, rfl, ?_⟩; replace BK362 := bB BK362 hb; replace HB := ak (below_step (lT HB (gC GE362 gN)) hb); (try clear hb); (try clear hk)))
      go_ret2
      exact ⟨ew, by exact lT HB (gC GE362 gN)⟩
    ·rw [if_neg c7] at H
     have c7b0 : decide (x16_1 < a2) = false := decide_eq_false c7
     clear c7
     simp only [Option.some.injEq, Prod.mk.injEq] at H
     obtain ⟨rfl, rfl⟩ := H
     go_wp2
     go_ret2
     exact ⟨ew, by exact lT HB (gC GE362 gN)⟩
 ·replace c5 := Bool.eq_false_iff.mpr c5
  subst c5
  have H1 : (some ((⟨#[]⟩ : ByteArray), false)) = some (r1, r2) := by rw [if_neg (show ¬ (false = true) by decide)] at H; exact H
  clear H
  have H := H1
  clear H1
  simp only [Option.some.injEq, Prod.mk.injEq] at H
  obtain ⟨rfl, rfl⟩ := H
  go_enter Try.func32, Try.ntmps32
  go_wp2_with (first | ((with_reducible refine gate_dst (N := 3) rfl ?_); refine bx 3 #[.slice A0_0 l0_0.length c0_0, .slice A0_1 l0_1.length c0_1] 27 ?_; intro gb362 hg w15 hbox hb; replace BK362 := ak (hbox); replace GW362 := ak (bz hg (lG HB)); replace GE362 := ak (bz hg (lG HB)); replace HB := lB HB hb; clear hb hbox hg) | ((with_reducible refine gate_callee (f := 50) rfl ?_); refine gl (some 13) Try.func50 #[.int .i64 a2, .int .i64 0, .int .i64 100] ?_; (with_reducible refine (impl_in.calls a2 0 100 false _ A4.out).mono ?_); rintro e w' ⟨rfl, ⟨nd, rfl⟩⟩; refine ⟨_, rfl, ?_⟩))
  go_ret2
  exact ⟨ew, by exact lT HB (gC GE362 gN)⟩
end Go.Proofs.Ytjpngldnkgofaaa.PFnSegmentsTold
