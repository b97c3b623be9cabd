-- printed
import Derived.Test.YtagkjeldheiejaaPFnStatesToldx0
import Derived.Test.YtagkjeldheiejaaVFnStatesTold1
namespace Go.Proofs.Ytagkjeldheiejaa.PFnStatesTold
open Go.RowKit YtagkjeldheiejaaW.PrintWords YtagkjeldheiejaaW.PrintLast YtagkjeldheiejaaW.PrintMore
set_option linter.unusedVariables false
set_option linter.unusedSimpArgs false
attribute [local go_sem] max2_int min2_int max_two min_two max_three min_three max_four min_four
set_option maxHeartbeats 8000000
set_option maxRecDepth 100000
mutual
def spec_l07Next.l0 : Nat → List (S32) → Int → Int → Int → Option (Int)
 | 0, _, _, _, _ => none
 | k + 1, a, b, c, d => if d < (a.length : Int) then (if 0 ≤ d then (if ((rd_T32 a d).f1.f1) = b then (if ((rd_T32 a d).f1.f0) = 1 then (if ((rd_T32 a d).f1.f3) > c then (spec_l07Next.l0 k a b ((rd_T32 a d).f1.f3) (wrap64 (d + 1))) else (spec_l07Next.l0 k a b c (wrap64 (d + 1)))) else (if ((rd_T32 a d).f1.f0) = 3 then (spec_l07Next.j1 k a b c d 0 (((rd_T32 a d).f1.f0) == 3) ((rd_T32 a d).f1.f0) ((rd_T32 a d).f1.f1) ((rd_T32 a d).f1.f2) ((rd_T32 a d).f1.f3) ((rd_T32 a d).f1.f4) ((rd_T32 a d).f1.f5) ((rd_T32 a d).f1.f6) ((rd_T32 a d).f1.f7)) else (spec_l07Next.j1 k a b c d 0 (((rd_T32 a d).f1.f0) == 5) ((rd_T32 a d).f1.f0) ((rd_T32 a d).f1.f1) ((rd_T32 a d).f1.f2) ((rd_T32 a d).f1.f3) ((rd_T32 a d).f1.f4) ((rd_T32 a d).f1.f5) ((rd_T32 a d).f1.f6) ((rd_T32 a d).f1.f7)))) else (spec_l07Next.l0 k a b c (wrap64 (d + 1)))) else (none)) else (some c)
def spec_l07Next.j1 : Nat → List (S32) → Int → Int → Int → Int → Bool → Int → Int → Int → Int → Int → ByteArray → ByteArray → ByteArray → Option (Int)
 | 0, _, _, _, _, _, _, _, _, _, _, _, _, _, _ => none
 | k + 1, a, b, c, d, e, f, g, h, i, j, l, m, n, o => if f = true then (if (wrap64 (i + 1)) > c then (spec_l07Next.l0 k a b (wrap64 (i + 1)) (wrap64 (d + 1))) else (spec_l07Next.l0 k a b c (wrap64 (d + 1)))) else (if e > c then (spec_l07Next.l0 k a b e (wrap64 (d + 1))) else (spec_l07Next.l0 k a b c (wrap64 (d + 1))))
end
def spec_l07Next.f (k : Nat) (l0 : List (S32)) (a1 : Int) : Option (Int) := spec_l07Next.l0 k l0 a1 1 0
theorem spec_l07Next.mono_l : ∀ k, (∀ y0 y1 y2 y3, LeO (spec_l07Next.l0 k y0 y1 y2 y3) (spec_l07Next.l0 (k + 1) y0 y1 y2 y3)) ∧ (∀ y0 y1 y2 y3 y4 y5 y6 y7 y8 y9 y10 y11 y12 y13, LeO (spec_l07Next.j1 k y0 y1 y2 y3 y4 y5 y6 y7 y8 y9 y10 y11 y12 y13) (spec_l07Next.j1 (k + 1) y0 y1 y2 y3 y4 y5 y6 y7 y8 y9 y10 y11 y12 y13))
 | 0 => ⟨fun _ _ _ _ r h => by simp [spec_l07Next.l0] at h, fun _ _ _ _ _ _ _ _ _ _ _ _ _ _ r h => by simp [spec_l07Next.j1] at h⟩
 | k + 1 => by
  obtain ⟨ih0, ih1⟩ := spec_l07Next.mono_l k
  refine ⟨?_, ?_⟩
  intro y0 y1 y2 y3;unfold spec_l07Next.l0;rotate_left
  intro y0 y1 y2 y3 y4 y5 y6 y7 y8 y9 y10 y11 y12 y13;unfold spec_l07Next.j1;rotate_left
  all_goals repeat' with_reducible first | exact ih0 _ _ _ _ | exact ih1 _ _ _ _ _ _ _ _ _ _ _ _ _ _ | exact LeO.refl _ | exact LeO.none _ | refine LeO.ite ?_ ?_ | refine LeO.bind ?_ (fun _ => ?_)
theorem spec_l07Next.mono : ∀ a0 a1 k, LeO (spec_l07Next.f k a0 a1) (spec_l07Next.f (k + 1) a0 a1) := by
 intro a0 a1 k
 obtain ⟨ih0, ih1⟩ := spec_l07Next.mono_l k
 unfold spec_l07Next.f
 repeat' with_reducible first | exact ih0 _ _ _ _ | exact ih1 _ _ _ _ _ _ _ _ _ _ _ _ _ _ | exact LeO.refl _ | exact LeO.none _ | refine LeO.ite ?_ ?_ | refine LeO.bind ?_ (fun _ => ?_)
theorem spec_l07Next.calls (k : Nat) (A0 : Option Addr) (c0 : Nat) (l0 : List (S32)) (a1 : Int) (r : Int) (w : World) (hr0 : Kd.C k32 w A0 l0.length l0) (hc0 : l0.length ≤ c0) (h : spec_l07Next.f k l0 a1 = some r) :
  Calls Try.prog 83 #[.slice A0 l0.length c0, .int .i64 a1] w fun e w' => e = .returned (.int .i64 r) ∧ Below w.heap.size w w' := by
 have hu23 := Try.underlying23
 have HR0 := Aside0.mk hr0
 have HC0 := Aside0.mk hc0
 clear hr0 hc0
 have HB := ak (Below.refl w.heap.size w)
 have H := h
 clear h
 unfold spec_l07Next.f at H
 have H' := Aside0.mk H
 clear H
 go_enter Try.func83, Try.ntmps83
 go_wp2
 go_loopg [5, 6] k (fun kq v5 v6 w' => ∃ (x5_1 : Int) (x6_1 : Int), v5 = .int .i64 x5_1 ∧ v6 = .int .i64 x6_1 ∧ Aside0 (spec_l07Next.l0 kq l0 a1 x5_1 x6_1 = some r) ∧ Aside0 (kq ≤ k) ∧ Aside0 (Below w.heap.size w w'))
 case atStart => exact ⟨_, _, rr, rr, H', ⟨Nat.le_refl _⟩, ⟨by exact lG HB⟩⟩
 case round =>
  skip;{
 clear H'
 obtain ⟨x5_1, x6_1, rfl, rfl, HA, HK1, HB⟩ := hrel
 cases gk with
 | zero => exact absurd HA.out (by simp [spec_l07Next.l0])
 | succ k1 =>
  skip;{
 have H := HA.out
 clear HA
 simp only [spec_l07Next.l0] at H
 by_cases c3 : x6_1 < (l0.length : Int)
 {
 rw [if_pos c3] at H
 have c3b0 := decide_eq_true c3
 clear c3
 by_cases c4 : 0 ≤ x6_1
 {
 rw [if_pos c4] at H
 have c4b0 := decide_eq_true c4
 clear c4
 by_cases c5 : ((rd_T32 l0 x6_1).f1.f1) = a1
 {
 rw [if_pos c5] at H
 have c5b0 := beq_iff_eq.mpr c5
 have c5b1 := bne_eq_false_iff_eq.mpr c5
 clear c5
 by_cases c6 : ((rd_T32 l0 x6_1).f1.f0) = 1
 {
 rw [if_pos c6] at H
 have c6b0 := beq_iff_eq.mpr c6
 have c6b1 := bne_eq_false_iff_eq.mpr c6
 clear c6
 by_cases c7 : ((rd_T32 l0 x6_1).f1.f3) > x5_1
 {
 rw [if_pos c7] at H
 have c7b0 : decide (x5_1 < ((rd_T32 l0 x6_1).f1.f3)) = true := decide_eq_true c7
 clear c7
 have H' := Aside0.mk H
 clear H
 have p280 : 0 ≤ (x6_1 : Int) := oda
 have q280 : x6_1 < (l0.length : Int) := oda
 obtain ⟨ad280, e280, hx280_0, hx280_1, hx280_2, hx280_3, hx280_4, hx280_5, hx280_6, hx280_7, hx280_8⟩ := at_T32 HR0.out x6_1 p280 q280
 cases e280
 replace hx280_0 := clB HB hx280_0
 replace hx280_1 := clB HB hx280_1
 replace hx280_2 := clB HB hx280_2
 replace hx280_3 := clB HB hx280_3
 replace hx280_4 := clB HB hx280_4
 replace hx280_5 := clB HB hx280_5
 replace hx280_6 := clB HB hx280_6
 replace hx280_7 := clB HB hx280_7
 replace hx280_8 := clB HB hx280_8
 replace p280 := eq_true p280
 replace q280 := eq_true q280
 go_wp2_with ((with_reducible refine gate_dst (N := 7) rfl ?_); refine b8 7 ?_; intro gb281 hg w8 hbox hb; replace BK281 := ak (hbox); replace GE281 := ak (bz hg (lG HB)); replace HB := lB HB hb; clear hb hbox hg; obtain ⟨_, _, _, _, _, _, _, _, _, _, _, _, _, _, _, _⟩ := bC8 BK281)
 go_roundg k1
 case measure => have := HK1.out; omega
 case rel => exact ⟨_, _, rr, rr, H', ⟨by have := HK1.out; omega⟩, ⟨by exact lT HB (gC GE281 gN)⟩⟩
 }
 {
 rw [if_neg c7] at H
 have c7b0 : decide (x5_1 < ((rd_T32 l0 x6_1).f1.f3)) = false := decide_eq_false c7
 clear c7
 have H' := Aside0.mk H
 clear H
 have p280 : 0 ≤ (x6_1 : Int) := oda
 have q280 : x6_1 < (l0.length : Int) := oda
 obtain ⟨ad280, e280, hx280_0, hx280_1, hx280_2, hx280_3, hx280_4, hx280_5, hx280_6, hx280_7, hx280_8⟩ := at_T32 HR0.out x6_1 p280 q280
 cases e280
 replace hx280_0 := clB HB hx280_0
 replace hx280_1 := clB HB hx280_1
 replace hx280_2 := clB HB hx280_2
 replace hx280_3 := clB HB hx280_3
 replace hx280_4 := clB HB hx280_4
 replace hx280_5 := clB HB hx280_5
 replace hx280_6 := clB HB hx280_6
 replace hx280_7 := clB HB hx280_7
 replace hx280_8 := clB HB hx280_8
 replace p280 := eq_true p280
 replace q280 := eq_true q280
 go_wp2_with ((with_reducible refine gate_dst (N := 7) rfl ?_); refine b8 7 ?_; intro gb281 hg w10 hbox hb; replace BK281 := ak (hbox); replace GE281 := ak (bz hg (lG HB)); replace HB := lB HB hb; clear hb hbox hg; obtain ⟨_, _, _, _, _, _, _, _, _, _, _, _, _, _, _, _⟩ := bC8 BK281)
 go_roundg k1
 case measure => have := HK1.out; omega
 case rel => exact ⟨_, _, rr, rr, H', ⟨by have := HK1.out; omega⟩, ⟨by exact lT HB (gC GE281 gN)⟩⟩
 }
 }
 {
 rw [if_neg c6] at H
 have c6b0 := beq_eq_false_iff_ne.mpr c6
 have c6b1 := bne_iff_ne.mpr c6
 have HC12 := Aside0.mk H
 clear H
 have p280 : 0 ≤ (x6_1 : Int) := oda
 have q280 : x6_1 < (l0.length : Int) := oda
 obtain ⟨ad280, e280, hx280_0, hx280_1, hx280_2, hx280_3, hx280_4, hx280_5, hx280_6, hx280_7, hx280_8⟩ := at_T32 HR0.out x6_1 p280 q280
 cases e280
 replace hx280_0 := clB HB hx280_0
 replace hx280_1 := clB HB hx280_1
 replace hx280_2 := clB HB hx280_2
 replace hx280_3 := clB HB hx280_3
 replace hx280_4 := clB HB hx280_4
 replace hx280_5 := clB HB hx280_5
 replace hx280_6 := clB HB hx280_6
 replace hx280_7 := clB HB hx280_7
 replace hx280_8 := clB HB hx280_8
 replace p280 := eq_true p280
 replace q280 := eq_true q280
 go_upto_if 30 with (first | ((with_reducible refine gate_dst (N := 7) rfl ?_); refine b8 7 ?_; intro gb281 hg w13 hbox hb; replace BK281 := ak (hbox); replace GE281 := ak (bz hg (lG HB)); replace HB := lB HB hb; clear hb hbox hg; obtain ⟨hcz14_0, hcz14_1, hcz14_2, hcz14_3, hcz14_4, hcz14_5, hcz14_6, hcz14_7, hfz14_0, hfz14_1, hfz14_2, hfz14_3, hfz14_4, hfz14_5, hfz14_6, hfz14_7⟩ := bC8 BK281))
 (try simp only [Act.put, List.setIfInBounds_toArray, List.set_cons_zero, List.set_cons_succ])
 go_cut [30] (fun v30 wc => ∃ (kq : Nat) (x30_11 : Bool), v30 = .bool x30_11 ∧ Aside0 (spec_l07Next.j1 kq l0 a1 x5_1 x6_1 0 x30_11 ((rd_T32 l0 x6_1).f1.f0) ((rd_T32 l0 x6_1).f1.f1) ((rd_T32 l0 x6_1).f1.f2) ((rd_T32 l0 x6_1).f1.f3) ((rd_T32 l0 x6_1).f1.f4) ((rd_T32 l0 x6_1).f1.f5) ((rd_T32 l0 x6_1).f1.f6) ((rd_T32 l0 x6_1).f1.f7) = some r) ∧ Aside0 (kq ≤ k1) ∧ Aside0 (wc.heap[gb281]? = some (.cells #[.int .i64 ((rd_T32 l0 x6_1).f1.f0), .int .i64 ((rd_T32 l0 x6_1).f1.f1), .int .i64 ((rd_T32 l0 x6_1).f1.f2), .int .i64 ((rd_T32 l0 x6_1).f1.f3), .int .i64 ((rd_T32 l0 x6_1).f1.f4), .string ((rd_T32 l0 x6_1).f1.f5), .string ((rd_T32 l0 x6_1).f1.f6), .string ((rd_T32 l0 x6_1).f1.f7)] 23 (0, 0))) ∧ Aside0 (Below w.heap.size w wc))
 case first =>
  skip;{
 have H := HC12.out
 clear HC12
 by_cases c15 : ((rd_T32 l0 x6_1).f1.f0) = 3
 {
 rw [if_pos c15] at H
 have c15b0 := beq_iff_eq.mpr c15
 have c15b1 := bne_eq_false_iff_eq.mpr c15
 clear c15
 (first | rw [c15b0] | (simp only [i64_w, i32_w]; rw [c15b0]) | skip)
 have H' := Aside0.mk H
 clear H
 go_wp2
 go_meet
 case rel => exact ⟨_, _, rr, H', ⟨by have := HK1.out; first | omega | exact Nat.le_refl _⟩, ⟨bW BK281⟩, ⟨by exact lT HB (gC GE281 gN)⟩⟩
 }
 {
 rw [if_neg c15] at H
 have c15b0 := beq_eq_false_iff_ne.mpr c15
 have c15b1 := bne_iff_ne.mpr c15
 (first | rw [c15b0] | (simp only [i64_w, i32_w]; rw [c15b0]) | skip)
 have H' := Aside0.mk H
 clear H
 go_wp2
 go_meet
 case rel => exact ⟨_, _, rr, H', ⟨by have := HK1.out; first | omega | exact Nat.le_refl _⟩, ⟨bW BK281⟩, ⟨by exact lT HB (gC GE281 gN)⟩⟩
 }
 }
 case rest =>
  skip;{
 clear HC12
 try clear c3 c3b0 c4 c4b0 c5 c5b0 c5b1 c6 c6b0 c6b1 hcz14_0 hcz14_1 hcz14_2 hcz14_3 hcz14_4 hcz14_5 hcz14_6 hcz14_7 hfz14_0 hfz14_1 hfz14_2 hfz14_3 hfz14_4 hfz14_5 hfz14_6 hfz14_7 hx280_0 hx280_1 hx280_2 hx280_3 hx280_4 hx280_5 hx280_6 hx280_7 hx280_8 p280 q280
 obtain ⟨kq, x30_11, rfl, HA, HJ11, BK281, HB⟩ := hcut
 cases kq with
 | zero => exact absurd HA.out (by simp [spec_l07Next.j1])
 | succ kj11 =>
  skip;{
 have H := HA.out
 clear HA
 simp only [spec_l07Next.j1] at H
 by_cases c16 : x30_11 = true
 {
 subst c16
 rw [if_pos rfl] at H
 by_cases c17 : (wrap64 (((rd_T32 l0 x6_1).f1.f2) + 1)) > x5_1
 {
 rw [if_pos c17] at H
 have c17b0 : decide (x5_1 < (wrap64 (((rd_T32 l0 x6_1).f1.f2) + 1))) = true := decide_eq_true c17
 clear c17
 have H' := Aside0.mk H
 clear H
 obtain ⟨_, _, _, _, _, _, _, _, _, _, _, _, _, _, _, _⟩ := bC8 BK281
 go_wp2
 go_roundg kj11
 case measure => have := HK1.out; have := HJ11.out; omega
 case rel => exact ⟨_, _, rr, rr, H', ⟨by have := HK1.out; have := HJ11.out; omega⟩, ⟨by exact lT HB (gC GE281 gN)⟩⟩
 }
 {
 rw [if_neg c17] at H
 have c17b0 : decide (x5_1 < (wrap64 (((rd_T32 l0 x6_1).f1.f2) + 1))) = false := decide_eq_false c17
 clear c17
 have H' := Aside0.mk H
 clear H
 obtain ⟨_, _, _, _, _, _, _, _, _, _, _, _, _, _, _, _⟩ := bC8 BK281
 go_wp2
 go_roundg kj11
 case measure => have := HK1.out; have := HJ11.out; omega
 case rel => exact ⟨_, _, rr, rr, H', ⟨by have := HK1.out; have := HJ11.out; omega⟩, ⟨by exact lT HB (gC GE281 gN)⟩⟩
 }
 }
 {
 replace c16 := Bool.eq_false_iff.mpr c16
 subst c16
 rw [if_neg (show ¬ (false = true) by decide)] at H
 by_cases c20 : 0 > x5_1
 {
 rw [if_pos c20] at H
 have c20b0 : decide (x5_1 < 0) = true := decide_eq_true c20
 clear c20
 have H' := Aside0.mk H
 clear H
 go_wp2
 go_roundg kj11
 case measure => have := HK1.out; have := HJ11.out; omega
 case rel => exact ⟨_, _, rr, rr, H', ⟨by have := HK1.out; have := HJ11.out; omega⟩, ⟨by exact lT HB (gC GE281 gN)⟩⟩
 }
 {
 rw [if_neg c20] at H
 have c20b0 : decide (x5_1 < 0) = false := decide_eq_false c20
 clear c20
 have H' := Aside0.mk H
 clear H
 go_wp2
 go_roundg kj11
 case measure => have := HK1.out; have := HJ11.out; omega
 case rel => exact ⟨_, _, rr, rr, H', ⟨by have := HK1.out; have := HJ11.out; omega⟩, ⟨by exact lT HB (gC GE281 gN)⟩⟩
 }
 }
 }
 }
 }
 }
 {
 rw [if_neg c5] at H
 have c5b0 := beq_eq_false_iff_ne.mpr c5
 have c5b1 := bne_iff_ne.mpr c5
 have H' := Aside0.mk H
 clear H
 have p280 : 0 ≤ (x6_1 : Int) := oda
 have q280 : x6_1 < (l0.length : Int) := oda
 obtain ⟨ad280, e280, hx280_0, hx280_1, hx280_2, hx280_3, hx280_4, hx280_5, hx280_6, hx280_7, hx280_8⟩ := at_T32 HR0.out x6_1 p280 q280
 cases e280
 replace hx280_0 := clB HB hx280_0
 replace hx280_1 := clB HB hx280_1
 replace hx280_2 := clB HB hx280_2
 replace hx280_3 := clB HB hx280_3
 replace hx280_4 := clB HB hx280_4
 replace hx280_5 := clB HB hx280_5
 replace hx280_6 := clB HB hx280_6
 replace hx280_7 := clB HB hx280_7
 replace hx280_8 := clB HB hx280_8
 replace p280 := eq_true p280
 replace q280 := eq_true q280
 go_wp2_with ((with_reducible refine gate_dst (N := 7) rfl ?_); refine b8 7 ?_; intro gb281 hg w21 hbox hb; replace BK281 := ak (hbox); replace GE281 := ak (bz hg (lG HB)); replace HB := lB HB hb; clear hb hbox hg; obtain ⟨_, _, _, _, _, _, _, _, _, _, _, _, _, _, _, _⟩ := bC8 BK281)
 go_roundg k1
 case measure => have := HK1.out; omega
 case rel => exact ⟨_, _, rr, rr, H', ⟨by have := HK1.out; omega⟩, ⟨by exact lT HB (gC GE281 gN)⟩⟩
 }
 }
 {rw [if_neg c4] at H;exact absurd H (by simp)}
 }
 {
 rw [if_neg c3] at H
 have c3b0 := decide_eq_false c3
 clear c3
 obtain rfl := Option.some.inj H
 go_wp2
 go_ret
 exact ⟨ew, by exact lG HB⟩
 }
 }
 }
end Go.Proofs.Ytagkjeldheiejaa.PFnStatesTold
