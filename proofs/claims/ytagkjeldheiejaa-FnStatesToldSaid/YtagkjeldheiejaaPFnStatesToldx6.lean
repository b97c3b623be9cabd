-- printed
import Derived.Test.YtagkjeldheiejaaPFnStatesToldx2
import Derived.Test.YtagkjeldheiejaaPFnStatesToldx5
import Derived.Test.YtagkjeldheiejaaVFnStatesTold1
namespace Go.Proofs.Ytagkjeldheiejaa.PFnStatesTold
open Go.RowKit YtagkjeldheiejaaW.PrintWords YtagkjeldheiejaaW.PrintLast YtagkjeldheiejaaW.PrintMore
set_option linter.unusedVariables false
set_option linter.unusedSimpArgs false
attribute [local go_sem] max2_int min2_int max_two min_two max_three min_three max_four min_four
set_option maxHeartbeats 8000000
set_option maxRecDepth 100000
attribute [local go_sem high] eqA32
mutual
def spec_ItemsOk.l0 : Nat → List (S32) → Int → Option (Bool)
 | 0, _, _ => none
 | k + 1, a, b => if b < (a.length : Int) then (if 0 ≤ b then ((spec_l01In.f ((rd_T32 a b).f0) 1 1000000000).bind fun t125 => (if t125 = true then ((spec_RecOk.f k ((rd_T32 a b).f1.f0) ((rd_T32 a b).f1.f1) ((rd_T32 a b).f1.f2) ((rd_T32 a b).f1.f3) ((rd_T32 a b).f1.f4) ((rd_T32 a b).f1.f5) ((rd_T32 a b).f1.f6) ((rd_T32 a b).f1.f7)).bind fun t127 => (spec_ItemsOk.j1 k a b (!t127))) else (spec_ItemsOk.j1 k a b true))) else (none)) else (some (decide ((a.length : Int) ≤ 200)))
def spec_ItemsOk.j1 : Nat → List (S32) → Int → Bool → Option (Bool)
 | 0, _, _, _ => none
 | k + 1, a, b, c => if c = true then (some false) else (spec_ItemsOk.l1 k a b 0)
def spec_ItemsOk.l1 : Nat → List (S32) → Int → Int → Option (Bool)
 | 0, _, _, _ => none
 | k + 1, a, b, c => if c < b then (if 0 ≤ c then (if c < (a.length : Int) then (if 0 ≤ b then (if b < (a.length : Int) then (if ((rd_T32 a c).f0) = ((rd_T32 a b).f0) then (if (!(((rd_T32 a c).f0) == ((rd_T32 a b).f0)) || ((!(((rd_T32 a c).f1.f0) == ((rd_T32 a b).f1.f0)) || (!(((rd_T32 a c).f1.f1) == ((rd_T32 a b).f1.f1)) || (!(((rd_T32 a c).f1.f2) == ((rd_T32 a b).f1.f2)) || (!(((rd_T32 a c).f1.f3) == ((rd_T32 a b).f1.f3)) || (!(((rd_T32 a c).f1.f4) == ((rd_T32 a b).f1.f4)) || (!((((rd_T32 a c).f1.f5).toList) == (((rd_T32 a b).f1.f5).toList)) || (!((((rd_T32 a c).f1.f6).toList) == (((rd_T32 a b).f1.f6).toList)) || (!((((rd_T32 a c).f1.f7).toList) == (((rd_T32 a b).f1.f7).toList)))))))))))) = true then (some false) else (spec_ItemsOk.l1 k a b (wrap64 (c + 1)))) else (spec_ItemsOk.l1 k a b (wrap64 (c + 1)))) else (none)) else (none)) else (none)) else (none)) else (spec_ItemsOk.l0 k a (wrap64 (b + 1)))
end
def spec_ItemsOk.f (k : Nat) (l0 : List (S32)) : Option (Bool) := spec_ItemsOk.l0 k l0 0
theorem spec_ItemsOk.mono_l : ∀ k, (∀ y0 y1, LeO (spec_ItemsOk.l0 k y0 y1) (spec_ItemsOk.l0 (k + 1) y0 y1)) ∧ (∀ y0 y1 y2, LeO (spec_ItemsOk.j1 k y0 y1 y2) (spec_ItemsOk.j1 (k + 1) y0 y1 y2)) ∧ (∀ y0 y1 y2, LeO (spec_ItemsOk.l1 k y0 y1 y2) (spec_ItemsOk.l1 (k + 1) y0 y1 y2))
 | 0 => ⟨fun _ _ r h => by simp [spec_ItemsOk.l0] at h, fun _ _ _ r h => by simp [spec_ItemsOk.j1] at h, fun _ _ _ r h => by simp [spec_ItemsOk.l1] at h⟩
 | k + 1 => by
  obtain ⟨ih0, ih1, ih2⟩ := spec_ItemsOk.mono_l k
  refine ⟨?_, ?_, ?_⟩
  intro y0 y1;unfold spec_ItemsOk.l0;rotate_left
  intro y0 y1 y2;unfold spec_ItemsOk.j1;rotate_left
  intro y0 y1 y2;unfold spec_ItemsOk.l1;rotate_left
  all_goals repeat' with_reducible first | exact ih0 _ _ | exact ih1 _ _ _ | exact ih2 _ _ _ | exact spec_RecOk.mono _ _ _ _ _ _ _ _ _ | exact LeO.refl _ | exact LeO.none _ | refine LeO.ite ?_ ?_ | refine LeO.bind ?_ (fun _ => ?_)
theorem spec_ItemsOk.mono : ∀ a0 k, LeO (spec_ItemsOk.f k a0) (spec_ItemsOk.f (k + 1) a0) := by
 intro a0 k
 obtain ⟨ih0, ih1, ih2⟩ := spec_ItemsOk.mono_l k
 unfold spec_ItemsOk.f
 repeat' with_reducible first | exact ih0 _ _ | exact ih1 _ _ _ | exact ih2 _ _ _ | exact spec_RecOk.mono _ _ _ _ _ _ _ _ _ | exact LeO.refl _ | exact LeO.none _ | refine LeO.ite ?_ ?_ | refine LeO.bind ?_ (fun _ => ?_)
theorem spec_ItemsOk.calls (k : Nat) (A0 : Option Addr) (c0 : Nat) (l0 : List (S32)) (r : Bool) (w : World) (hr0 : Kd.C k32 w A0 l0.length l0) (hc0 : l0.length ≤ c0) (h : spec_ItemsOk.f k l0 = some r) :
  Calls Try.prog 19 #[.slice A0 l0.length c0] w fun e w' => e = .returned (.bool r) ∧ Below w.heap.size w w' := by
 have hu23 := Try.underlying23
 have hu32 := Try.underlying32
 have HR0 := Aside0.mk hr0
 have HC0 := Aside0.mk hc0
 clear hr0 hc0
 have HB := ak (Below.refl w.heap.size w)
 have H := h
 clear h
 unfold spec_ItemsOk.f at H
 have H' := Aside0.mk H
 clear H
 go_enter Try.func19, Try.ntmps19
 go_wp2
 repeat (go_quiet (fail); try go_wp2)
 go_loopg [3] k (fun kq v3 w' => ∃ (x3_1 : Int), v3 = .int .i64 x3_1 ∧ Aside0 (spec_ItemsOk.l0 kq l0 x3_1 = some r) ∧ Aside0 (kq ≤ k) ∧ Aside0 (Below w.heap.size w w'))
 case atStart => exact ⟨_, rr, H', ⟨Nat.le_refl _⟩, ⟨by exact lG HB⟩⟩
 case round =>
  skip;{
 clear H'
 obtain ⟨x3_1, rfl, HA, HK1, HB⟩ := hrel
 cases gk with
 | zero => exact absurd HA.out (by simp [spec_ItemsOk.l0])
 | succ k1 =>
  skip;{
 have H := HA.out
 clear HA
 simp only [spec_ItemsOk.l0] at H
 by_cases c2 : x3_1 < (l0.length : Int)
 {
 rw [if_pos c2] at H
 have c2b0 := decide_eq_true c2
 clear c2
 have HC3 := Aside0.mk H
 clear H
 go_upto_region 4 with (fail)
 repeat (go_quiet (fail); go_upto_region 4 with (fail))
 go_cut [26] (fun v26 wc => ∃ (kq : Nat) (x26_2 : Bool), v26 = .bool x26_2 ∧ Aside0 (spec_ItemsOk.j1 kq l0 x3_1 x26_2 = some r) ∧ Aside0 (kq ≤ k1) ∧ Aside0 (Below w.heap.size w wc))
 case first =>
  skip;{
 have H := HC3.out
 clear HC3
 by_cases c4 : 0 ≤ x3_1
 {
 rw [if_pos c4] at H
 have c4b0 := decide_eq_true c4
 clear c4
 (first | rw [c4b0] | (simp only [i64_w, i32_w]; rw [c4b0]) | skip)
 obtain ⟨t125, A5, H⟩ := eb H
 try dsimp only at H
 by_cases c6 : t125 = true
 {
 subst c6
 rw [if_pos rfl] at H
 obtain ⟨t127, A7, H⟩ := eb H
 try dsimp only at H
 have H' := Aside0.mk H
 clear H
 have p124 : 0 ≤ (x3_1 : Int) := oda
 have q124 : x3_1 < (l0.length : Int) := oda
 obtain ⟨ad124, e124, hx124_0, hx124_1, hx124_2, hx124_3, hx124_4, hx124_5, hx124_6, hx124_7, hx124_8⟩ := at_T32 HR0.out x3_1 p124 q124
 cases e124
 replace hx124_0 := clB HB hx124_0
 replace hx124_1 := clB HB hx124_1
 replace hx124_2 := clB HB hx124_2
 replace hx124_3 := clB HB hx124_3
 replace hx124_4 := clB HB hx124_4
 replace hx124_5 := clB HB hx124_5
 replace hx124_6 := clB HB hx124_6
 replace hx124_7 := clB HB hx124_7
 replace hx124_8 := clB HB hx124_8
 replace p124 := eq_true p124
 replace q124 := eq_true q124
 go_wp2_with (first | (go_at_call 61; (with_reducible refine (spec_l01In.calls ((rd_T32 l0 x3_1).f0) 1 1000000000 _ _ A5.out).mono ?_); rintro e w' ⟨rfl, ⟨nd, rfl⟩⟩; (try first | exact ⟨rfl, _, World.drewN_drewN _ _ _⟩ | exact ⟨rfl, _, Eq.trans (World.drewN_drewN _ _ _) (congrArg (World.drewN _) (Nat.add_assoc _ _ _))⟩); have p126 : 0 ≤ (x3_1 : Int) := oda; have q126 : x3_1 < (l0.length : Int) := oda; obtain ⟨ad126, e126, hx126_0, hx126_1, hx126_2, hx126_3, hx126_4, hx126_5, hx126_6, hx126_7, hx126_8⟩ := at_T32 HR0.out x3_1 p126 q126; obtain rfl : ad124 = ad126 := (by injection e126); replace hx126_0 := clB HB hx126_0; replace hx126_1 := clB HB hx126_1; replace hx126_2 := clB HB hx126_2; replace hx126_3 := clB HB hx126_3; replace hx126_4 := clB HB hx126_4; replace hx126_5 := clB HB hx126_5; replace hx126_6 := clB HB hx126_6; replace hx126_7 := clB HB hx126_7; replace hx126_8 := clB HB hx126_8; replace p126 := eq_true p126; replace q126 := eq_true q126) | (go_at_call 27; (with_reducible refine (spec_RecOk.calls k1 ((rd_T32 l0 x3_1).f1.f0) ((rd_T32 l0 x3_1).f1.f1) ((rd_T32 l0 x3_1).f1.f2) ((rd_T32 l0 x3_1).f1.f3) ((rd_T32 l0 x3_1).f1.f4) ((rd_T32 l0 x3_1).f1.f5) ((rd_T32 l0 x3_1).f1.f6) ((rd_T32 l0 x3_1).f1.f7) t127 _ A7.out).mono ?_); rintro e w8 ⟨rfl, hb⟩; replace HB := lB HB hb; (try clear hb); (try clear hk)))
 repeat (go_quiet (first | (go_at_call 61; (with_reducible refine (spec_l01In.calls ((rd_T32 l0 x3_1).f0) 1 1000000000 _ _ A5.out).mono ?_); rintro e w' ⟨rfl, ⟨nd, rfl⟩⟩; (try first | exact ⟨rfl, _, World.drewN_drewN _ _ _⟩ | exact ⟨rfl, _, Eq.trans (World.drewN_drewN _ _ _) (congrArg (World.drewN _) (Nat.add_assoc _ _ _))⟩); have p126 : 0 ≤ (x3_1 : Int) := oda; have q126 : x3_1 < (l0.length : Int) := oda; obtain ⟨ad126, e126, hx126_0, hx126_1, hx126_2, hx126_3, hx126_4, hx126_5, hx126_6, hx126_7, hx126_8⟩ := at_T32 HR0.out x3_1 p126 q126; obtain rfl : ad124 = ad126 := (by injection e126); replace hx126_0 := clB HB hx126_0; replace hx126_1 := clB HB hx126_1; replace hx126_2 := clB HB hx126_2; replace hx126_3 := clB HB hx126_3; replace hx126_4 := clB HB hx126_4; replace hx126_5 := clB HB hx126_5; replace hx126_6 := clB HB hx126_6; replace hx126_7 := clB HB hx126_7; replace hx126_8 := clB HB hx126_8; replace p126 := eq_true p126; replace q126 := eq_true q126) | (go_at_call 27; (with_reducible refine (spec_RecOk.calls k1 ((rd_T32 l0 x3_1).f1.f0) ((rd_T32 l0 x3_1).f1.f1) ((rd_T32 l0 x3_1).f1.f2) ((rd_T32 l0 x3_1).f1.f3) ((rd_T32 l0 x3_1).f1.f4) ((rd_T32 l0 x3_1).f1.f5) ((rd_T32 l0 x3_1).f1.f6) ((rd_T32 l0 x3_1).f1.f7) t127 _ A7.out).mono ?_); rintro e w8 ⟨rfl, hb⟩; replace HB := lB HB hb; (try clear hb); (try clear hk))); try go_wp2_with (first | (go_at_call 61; (with_reducible refine (spec_l01In.calls ((rd_T32 l0 x3_1).f0) 1 1000000000 _ _ A5.out).mono ?_); rintro e w' ⟨rfl, ⟨nd, rfl⟩⟩; (try first | exact ⟨rfl, _, World.drewN_drewN _ _ _⟩ | exact ⟨rfl, _, Eq.trans (World.drewN_drewN _ _ _) (congrArg (World.drewN _) (Nat.add_assoc _ _ _))⟩); have p126 : 0 ≤ (x3_1 : Int) := oda; have q126 : x3_1 < (l0.length : Int) := oda; obtain ⟨ad126, e126, hx126_0, hx126_1, hx126_2, hx126_3, hx126_4, hx126_5, hx126_6, hx126_7, hx126_8⟩ := at_T32 HR0.out x3_1 p126 q126; obtain rfl : ad124 = ad126 := (by injection e126); replace hx126_0 := clB HB hx126_0; replace hx126_1 := clB HB hx126_1; replace hx126_2 := clB HB hx126_2; replace hx126_3 := clB HB hx126_3; replace hx126_4 := clB HB hx126_4; replace hx126_5 := clB HB hx126_5; replace hx126_6 := clB HB hx126_6; replace hx126_7 := clB HB hx126_7; replace hx126_8 := clB HB hx126_8; replace p126 := eq_true p126; replace q126 := eq_true q126) | (go_at_call 27; (with_reducible refine (spec_RecOk.calls k1 ((rd_T32 l0 x3_1).f1.f0) ((rd_T32 l0 x3_1).f1.f1) ((rd_T32 l0 x3_1).f1.f2) ((rd_T32 l0 x3_1).f1.f3) ((rd_T32 l0 x3_1).f1.f4) ((rd_T32 l0 x3_1).f1.f5) ((rd_T32 l0 x3_1).f1.f6) ((rd_T32 l0 x3_1).f1.f7) t127 _ A7.out).mono ?_); rintro e w8 ⟨rfl, hb⟩; replace HB := lB HB hb; (try clear hb); (try clear hk))))
 go_meet
 case rel => exact ⟨_, _, rr, H', ⟨by have := HK1.out; first | omega | exact Nat.le_refl _⟩, ⟨by exact lG HB⟩⟩
 }
 {
 replace c6 := Bool.eq_false_iff.mpr c6
 subst c6
 rw [if_neg (show ¬ (false = true) by decide)] at H
 have H' := Aside0.mk H
 clear H
 have p124 : 0 ≤ (x3_1 : Int) := oda
 have q124 : x3_1 < (l0.length : Int) := oda
 obtain ⟨ad124, e124, hx124_0, hx124_1, hx124_2, hx124_3, hx124_4, hx124_5, hx124_6, hx124_7, hx124_8⟩ := at_T32 HR0.out x3_1 p124 q124
 cases e124
 replace hx124_0 := clB HB hx124_0
 replace hx124_1 := clB HB hx124_1
 replace hx124_2 := clB HB hx124_2
 replace hx124_3 := clB HB hx124_3
 replace hx124_4 := clB HB hx124_4
 replace hx124_5 := clB HB hx124_5
 replace hx124_6 := clB HB hx124_6
 replace hx124_7 := clB HB hx124_7
 replace hx124_8 := clB HB hx124_8
 replace p124 := eq_true p124
 replace q124 := eq_true q124
 go_wp2_with (go_at_call 61; (with_reducible refine (spec_l01In.calls ((rd_T32 l0 x3_1).f0) 1 1000000000 _ _ A5.out).mono ?_); rintro e w' ⟨rfl, ⟨nd, rfl⟩⟩; (try first | exact ⟨rfl, _, World.drewN_drewN _ _ _⟩ | exact ⟨rfl, _, Eq.trans (World.drewN_drewN _ _ _) (congrArg (World.drewN _) (Nat.add_assoc _ _ _))⟩))
 repeat (go_quiet (first | (go_at_call 61; (with_reducible refine (spec_l01In.calls ((rd_T32 l0 x3_1).f0) 1 1000000000 _ _ A5.out).mono ?_); rintro e w' ⟨rfl, ⟨nd, rfl⟩⟩; (try first | exact ⟨rfl, _, World.drewN_drewN _ _ _⟩ | exact ⟨rfl, _, Eq.trans (World.drewN_drewN _ _ _) (congrArg (World.drewN _) (Nat.add_assoc _ _ _))⟩))); try go_wp2_with (first | (go_at_call 61; (with_reducible refine (spec_l01In.calls ((rd_T32 l0 x3_1).f0) 1 1000000000 _ _ A5.out).mono ?_); rintro e w' ⟨rfl, ⟨nd, rfl⟩⟩; (try first | exact ⟨rfl, _, World.drewN_drewN _ _ _⟩ | exact ⟨rfl, _, Eq.trans (World.drewN_drewN _ _ _) (congrArg (World.drewN _) (Nat.add_assoc _ _ _))⟩))))
 go_meet
 case rel => exact ⟨_, _, rr, H', ⟨by have := HK1.out; first | omega | exact Nat.le_refl _⟩, ⟨by exact lG HB⟩⟩
 }
 }
 {rw [if_neg c4] at H;exact absurd H (by simp)}
 }
 case rest =>
  skip;{
 clear HC3
 try clear c2 c2b0
 obtain ⟨kq, x26_2, rfl, HA, HJ2, HB⟩ := hcut
 cases kq with
 | zero => exact absurd HA.out (by simp [spec_ItemsOk.j1])
 | succ kj2 =>
  skip;{
 have H := HA.out
 clear HA
 simp only [spec_ItemsOk.j1] at H
 by_cases c9 : x26_2 = true
 {
 subst c9
 rw [if_pos rfl] at H
 obtain rfl := Option.some.inj H
 go_wp2
 repeat (go_quiet (fail); try go_wp2)
 go_ret
 exact ⟨ew, by exact lG HB⟩
 }
 {
 replace c9 := Bool.eq_false_iff.mpr c9
 subst c9
 rw [if_neg (show ¬ (false = true) by decide)] at H
 have H' := Aside0.mk H
 clear H
 go_wp2
 repeat (go_quiet (fail); try go_wp2)
 go_loopg [4] kj2 (fun kq v4 w' => ∃ (x4_3 : Int), v4 = .int .i64 x4_3 ∧ Aside0 (spec_ItemsOk.l1 kq l0 x3_1 x4_3 = some r) ∧ Aside0 (kq ≤ kj2) ∧ Aside0 (Below w.heap.size w w'))
 case atStart => exact ⟨_, rr, H', ⟨Nat.le_refl _⟩, ⟨by exact lG HB⟩⟩
 case round =>
  skip;{
 clear H'
 try clear c2 c2b0 c9
 obtain ⟨x4_3, rfl, HA, HK3, HB⟩ := hrel
 cases gk with
 | zero => exact absurd HA.out (by simp [spec_ItemsOk.l1])
 | succ k3 =>
  skip;{
 have H := HA.out
 clear HA
 simp only [spec_ItemsOk.l1] at H
 by_cases c10 : x4_3 < x3_1
 {
 rw [if_pos c10] at H
 have c10b0 := decide_eq_true c10
 clear c10
 by_cases c11 : 0 ≤ x4_3
 {
 rw [if_pos c11] at H
 have c11b0 := decide_eq_true c11
 clear c11
 by_cases c12 : x4_3 < (l0.length : Int)
 {
 rw [if_pos c12] at H
 have c12b0 := decide_eq_true c12
 clear c12
 by_cases c13 : 0 ≤ x3_1
 {
 rw [if_pos c13] at H
 have c13b0 := decide_eq_true c13
 clear c13
 by_cases c14 : x3_1 < (l0.length : Int)
 {
 rw [if_pos c14] at H
 have c14b0 := decide_eq_true c14
 clear c14
 by_cases c15 : ((rd_T32 l0 x4_3).f0) = ((rd_T32 l0 x3_1).f0)
 {
 rw [if_pos c15] at H
 have c15b0 := beq_iff_eq.mpr c15
 have c15b1 := bne_eq_false_iff_eq.mpr c15
 clear c15
 by_cases c16 : (!(((rd_T32 l0 x4_3).f0) == ((rd_T32 l0 x3_1).f0)) || ((!(((rd_T32 l0 x4_3).f1.f0) == ((rd_T32 l0 x3_1).f1.f0)) || (!(((rd_T32 l0 x4_3).f1.f1) == ((rd_T32 l0 x3_1).f1.f1)) || (!(((rd_T32 l0 x4_3).f1.f2) == ((rd_T32 l0 x3_1).f1.f2)) || (!(((rd_T32 l0 x4_3).f1.f3) == ((rd_T32 l0 x3_1).f1.f3)) || (!(((rd_T32 l0 x4_3).f1.f4) == ((rd_T32 l0 x3_1).f1.f4)) || (!((((rd_T32 l0 x4_3).f1.f5).toList) == (((rd_T32 l0 x3_1).f1.f5).toList)) || (!((((rd_T32 l0 x4_3).f1.f6).toList) == (((rd_T32 l0 x3_1).f1.f6).toList)) || (!((((rd_T32 l0 x4_3).f1.f7).toList) == (((rd_T32 l0 x3_1).f1.f7).toList)))))))))))) = true
 {
 rw [if_pos c16] at H
 have c16b0 : (!(((rd_T32 l0 x4_3).f0) == ((rd_T32 l0 x3_1).f0)) || ((!(((rd_T32 l0 x4_3).f1.f0) == ((rd_T32 l0 x3_1).f1.f0)) || (!(((rd_T32 l0 x4_3).f1.f1) == ((rd_T32 l0 x3_1).f1.f1)) || (!(((rd_T32 l0 x4_3).f1.f2) == ((rd_T32 l0 x3_1).f1.f2)) || (!(((rd_T32 l0 x4_3).f1.f3) == ((rd_T32 l0 x3_1).f1.f3)) || (!(((rd_T32 l0 x4_3).f1.f4) == ((rd_T32 l0 x3_1).f1.f4)) || (!((((rd_T32 l0 x4_3).f1.f5).toList) == (((rd_T32 l0 x3_1).f1.f5).toList)) || (!((((rd_T32 l0 x4_3).f1.f6).toList) == (((rd_T32 l0 x3_1).f1.f6).toList)) || (!((((rd_T32 l0 x4_3).f1.f7).toList) == (((rd_T32 l0 x3_1).f1.f7).toList)))))))))))) = true := c16
 clear c16
 obtain rfl := Option.some.inj H
 have p128 : 0 ≤ (x4_3 : Int) := oda
 have q128 : x4_3 < (l0.length : Int) := oda
 obtain ⟨ad128, e128, hx128_0, hx128_1, hx128_2, hx128_3, hx128_4, hx128_5, hx128_6, hx128_7, hx128_8⟩ := at_T32 HR0.out x4_3 p128 q128
 cases e128
 replace hx128_0 := clB HB hx128_0
 replace hx128_1 := clB HB hx128_1
 replace hx128_2 := clB HB hx128_2
 replace hx128_3 := clB HB hx128_3
 replace hx128_4 := clB HB hx128_4
 replace hx128_5 := clB HB hx128_5
 replace hx128_6 := clB HB hx128_6
 replace hx128_7 := clB HB hx128_7
 replace hx128_8 := clB HB hx128_8
 replace p128 := eq_true p128
 replace q128 := eq_true q128
 have p129 : 0 ≤ (x3_1 : Int) := oda
 have q129 : x3_1 < (l0.length : Int) := oda
 obtain ⟨ad129, e129, hx129_0, hx129_1, hx129_2, hx129_3, hx129_4, hx129_5, hx129_6, hx129_7, hx129_8⟩ := at_T32 HR0.out x3_1 p129 q129
 obtain rfl : ad128 = ad129 := (by injection e129)
 replace hx129_0 := clB HB hx129_0
 replace hx129_1 := clB HB hx129_1
 replace hx129_2 := clB HB hx129_2
 replace hx129_3 := clB HB hx129_3
 replace hx129_4 := clB HB hx129_4
 replace hx129_5 := clB HB hx129_5
 replace hx129_6 := clB HB hx129_6
 replace hx129_7 := clB HB hx129_7
 replace hx129_8 := clB HB hx129_8
 replace p129 := eq_true p129
 replace q129 := eq_true q129
 have p130 : 0 ≤ (x4_3 : Int) := oda
 have q130 : x4_3 < (l0.length : Int) := oda
 obtain ⟨ad130, e130, hx130_0, hx130_1, hx130_2, hx130_3, hx130_4, hx130_5, hx130_6, hx130_7, hx130_8⟩ := at_T32 HR0.out x4_3 p130 q130
 obtain rfl : ad128 = ad130 := (by injection e130)
 replace hx130_0 := clB HB hx130_0
 replace hx130_1 := clB HB hx130_1
 replace hx130_2 := clB HB hx130_2
 replace hx130_3 := clB HB hx130_3
 replace hx130_4 := clB HB hx130_4
 replace hx130_5 := clB HB hx130_5
 replace hx130_6 := clB HB hx130_6
 replace hx130_7 := clB HB hx130_7
 replace hx130_8 := clB HB hx130_8
 replace p130 := eq_true p130
 replace q130 := eq_true q130
 have p131 : 0 ≤ (x3_1 : Int) := oda
 have q131 : x3_1 < (l0.length : Int) := oda
 obtain ⟨ad131, e131, hx131_0, hx131_1, hx131_2, hx131_3, hx131_4, hx131_5, hx131_6, hx131_7, hx131_8⟩ := at_T32 HR0.out x3_1 p131 q131
 obtain rfl : ad128 = ad131 := (by injection e131)
 replace hx131_0 := clB HB hx131_0
 replace hx131_1 := clB HB hx131_1
 replace hx131_2 := clB HB hx131_2
 replace hx131_3 := clB HB hx131_3
 replace hx131_4 := clB HB hx131_4
 replace hx131_5 := clB HB hx131_5
 replace hx131_6 := clB HB hx131_6
 replace hx131_7 := clB HB hx131_7
 replace hx131_8 := clB HB hx131_8
 replace p131 := eq_true p131
 replace q131 := eq_true q131
 go_wp2
 repeat (go_quiet (fail); try go_wp2)
 all_goals first | (go_ret; exact ⟨ew, by exact lG HB⟩; done) | (exfalso; revert c16b0; simp [*]; done) | (exfalso; revert c16b0; simp [*]; intros; simp_all; done)
 }
 {
 rw [if_neg c16] at H
 have c16b0 : (!(((rd_T32 l0 x4_3).f0) == ((rd_T32 l0 x3_1).f0)) || ((!(((rd_T32 l0 x4_3).f1.f0) == ((rd_T32 l0 x3_1).f1.f0)) || (!(((rd_T32 l0 x4_3).f1.f1) == ((rd_T32 l0 x3_1).f1.f1)) || (!(((rd_T32 l0 x4_3).f1.f2) == ((rd_T32 l0 x3_1).f1.f2)) || (!(((rd_T32 l0 x4_3).f1.f3) == ((rd_T32 l0 x3_1).f1.f3)) || (!(((rd_T32 l0 x4_3).f1.f4) == ((rd_T32 l0 x3_1).f1.f4)) || (!((((rd_T32 l0 x4_3).f1.f5).toList) == (((rd_T32 l0 x3_1).f1.f5).toList)) || (!((((rd_T32 l0 x4_3).f1.f6).toList) == (((rd_T32 l0 x3_1).f1.f6).toList)) || (!((((rd_T32 l0 x4_3).f1.f7).toList) == (((rd_T32 l0 x3_1).f1.f7).toList)))))))))))) = false := by simpa using c16
 clear c16
 have H' := Aside0.mk H
 clear H
 have p128 : 0 ≤ (x4_3 : Int) := oda
 have q128 : x4_3 < (l0.length : Int) := oda
 obtain ⟨ad128, e128, hx128_0, hx128_1, hx128_2, hx128_3, hx128_4, hx128_5, hx128_6, hx128_7, hx128_8⟩ := at_T32 HR0.out x4_3 p128 q128
 cases e128
 replace hx128_0 := clB HB hx128_0
 replace hx128_1 := clB HB hx128_1
 replace hx128_2 := clB HB hx128_2
 replace hx128_3 := clB HB hx128_3
 replace hx128_4 := clB HB hx128_4
 replace hx128_5 := clB HB hx128_5
 replace hx128_6 := clB HB hx128_6
 replace hx128_7 := clB HB hx128_7
 replace hx128_8 := clB HB hx128_8
 replace p128 := eq_true p128
 replace q128 := eq_true q128
 have p129 : 0 ≤ (x3_1 : Int) := oda
 have q129 : x3_1 < (l0.length : Int) := oda
 obtain ⟨ad129, e129, hx129_0, hx129_1, hx129_2, hx129_3, hx129_4, hx129_5, hx129_6, hx129_7, hx129_8⟩ := at_T32 HR0.out x3_1 p129 q129
 obtain rfl : ad128 = ad129 := (by injection e129)
 replace hx129_0 := clB HB hx129_0
 replace hx129_1 := clB HB hx129_1
 replace hx129_2 := clB HB hx129_2
 replace hx129_3 := clB HB hx129_3
 replace hx129_4 := clB HB hx129_4
 replace hx129_5 := clB HB hx129_5
 replace hx129_6 := clB HB hx129_6
 replace hx129_7 := clB HB hx129_7
 replace hx129_8 := clB HB hx129_8
 replace p129 := eq_true p129
 replace q129 := eq_true q129
 have p130 : 0 ≤ (x4_3 : Int) := oda
 have q130 : x4_3 < (l0.length : Int) := oda
 obtain ⟨ad130, e130, hx130_0, hx130_1, hx130_2, hx130_3, hx130_4, hx130_5, hx130_6, hx130_7, hx130_8⟩ := at_T32 HR0.out x4_3 p130 q130
 obtain rfl : ad128 = ad130 := (by injection e130)
 replace hx130_0 := clB HB hx130_0
 replace hx130_1 := clB HB hx130_1
 replace hx130_2 := clB HB hx130_2
 replace hx130_3 := clB HB hx130_3
 replace hx130_4 := clB HB hx130_4
 replace hx130_5 := clB HB hx130_5
 replace hx130_6 := clB HB hx130_6
 replace hx130_7 := clB HB hx130_7
 replace hx130_8 := clB HB hx130_8
 replace p130 := eq_true p130
 replace q130 := eq_true q130
 have p131 : 0 ≤ (x3_1 : Int) := oda
 have q131 : x3_1 < (l0.length : Int) := oda
 obtain ⟨ad131, e131, hx131_0, hx131_1, hx131_2, hx131_3, hx131_4, hx131_5, hx131_6, hx131_7, hx131_8⟩ := at_T32 HR0.out x3_1 p131 q131
 obtain rfl : ad128 = ad131 := (by injection e131)
 replace hx131_0 := clB HB hx131_0
 replace hx131_1 := clB HB hx131_1
 replace hx131_2 := clB HB hx131_2
 replace hx131_3 := clB HB hx131_3
 replace hx131_4 := clB HB hx131_4
 replace hx131_5 := clB HB hx131_5
 replace hx131_6 := clB HB hx131_6
 replace hx131_7 := clB HB hx131_7
 replace hx131_8 := clB HB hx131_8
 replace p131 := eq_true p131
 replace q131 := eq_true q131
 go_wp2
 repeat (go_quiet (fail); try go_wp2)
 all_goals first | (go_roundg k3; (case measure => (have := HK1.out; have := HJ2.out; have := HK3.out; omega)); (case rel => (exact ⟨(wrap64 (x4_3 + 1)), rr, H', ⟨by have := HK1.out; have := HJ2.out; have := HK3.out; omega⟩, ⟨by exact lG HB⟩⟩)); done) | (exfalso; revert c16b0; simp [*]; done) | (exfalso; revert c16b0; simp [*]; intros; simp_all; done)
 }
 }
 {
 rw [if_neg c15] at H
 have c15b0 := beq_eq_false_iff_ne.mpr c15
 have c15b1 := bne_iff_ne.mpr c15
 have H' := Aside0.mk H
 clear H
 have p128 : 0 ≤ (x4_3 : Int) := oda
 have q128 : x4_3 < (l0.length : Int) := oda
 obtain ⟨ad128, e128, hx128_0, hx128_1, hx128_2, hx128_3, hx128_4, hx128_5, hx128_6, hx128_7, hx128_8⟩ := at_T32 HR0.out x4_3 p128 q128
 cases e128
 replace hx128_0 := clB HB hx128_0
 replace hx128_1 := clB HB hx128_1
 replace hx128_2 := clB HB hx128_2
 replace hx128_3 := clB HB hx128_3
 replace hx128_4 := clB HB hx128_4
 replace hx128_5 := clB HB hx128_5
 replace hx128_6 := clB HB hx128_6
 replace hx128_7 := clB HB hx128_7
 replace hx128_8 := clB HB hx128_8
 replace p128 := eq_true p128
 replace q128 := eq_true q128
 have p129 : 0 ≤ (x3_1 : Int) := oda
 have q129 : x3_1 < (l0.length : Int) := oda
 obtain ⟨ad129, e129, hx129_0, hx129_1, hx129_2, hx129_3, hx129_4, hx129_5, hx129_6, hx129_7, hx129_8⟩ := at_T32 HR0.out x3_1 p129 q129
 obtain rfl : ad128 = ad129 := (by injection e129)
 replace hx129_0 := clB HB hx129_0
 replace hx129_1 := clB HB hx129_1
 replace hx129_2 := clB HB hx129_2
 replace hx129_3 := clB HB hx129_3
 replace hx129_4 := clB HB hx129_4
 replace hx129_5 := clB HB hx129_5
 replace hx129_6 := clB HB hx129_6
 replace hx129_7 := clB HB hx129_7
 replace hx129_8 := clB HB hx129_8
 replace p129 := eq_true p129
 replace q129 := eq_true q129
 go_wp2
 repeat (go_quiet (fail); try go_wp2)
 go_roundg k3
 case measure => have := HK1.out; have := HJ2.out; have := HK3.out; omega
 case rel => exact ⟨_, rr, H', ⟨by have := HK1.out; have := HJ2.out; have := HK3.out; omega⟩, ⟨by exact lG HB⟩⟩
 }
 }
 {rw [if_neg c14] at H;exact absurd H (by simp)}
 }
 {rw [if_neg c13] at H;exact absurd H (by simp)}
 }
 {rw [if_neg c12] at H;exact absurd H (by simp)}
 }
 {rw [if_neg c11] at H;exact absurd H (by simp)}
 }
 {
 rw [if_neg c10] at H
 have c10b0 := decide_eq_false c10
 clear c10
 have H' := Aside0.mk H
 clear H
 go_wp2
 repeat (go_quiet (fail); try go_wp2)
 go_roundg k3
 case measure => have := HK1.out; have := HJ2.out; have := HK3.out; omega
 case rel => exact ⟨_, rr, H', ⟨by have := HK1.out; have := HJ2.out; have := HK3.out; omega⟩, ⟨by exact lG HB⟩⟩
 }
 }
 }
 }
 }
 }
 }
 {
 rw [if_neg c2] at H
 have c2b0 := decide_eq_false c2
 clear c2
 obtain rfl := Option.some.inj H
 go_wp2
 repeat (go_quiet (fail); try go_wp2)
 go_ret
 exact ⟨ew, by exact lG HB⟩
 }
 }
 }
def impl_in.f (a0 : Int) (a1 : Int) (a2 : Int) : Option (Bool) := if a0 ≥ a1 then (some (decide (a0 ≤ a2))) else (some false)
theorem impl_in.calls (a0 : Int) (a1 : Int) (a2 : Int) (r : Bool) (w : World) (h : impl_in.f a0 a1 a2 = some r) :
  Calls Try.prog 63 #[.int .i64 a0, .int .i64 a1, .int .i64 a2] w fun e w' => e = .returned (.bool r) ∧ Drawn0 w w' := by
 have H := h
 clear h
 unfold impl_in.f at H
 by_cases c4 : a0 ≥ a1
 {
 rw [if_pos c4] at H
 have c4b0 : decide (a1 ≤ a0) = true := decide_eq_true c4
 clear c4
 obtain rfl := Option.some.inj H
 go_enter Try.func63, Try.ntmps63
 go_wp2
 go_ret
 exact ⟨by first | rfl | (simp; done) | (simp [*]; done), by repeat (first | exact Drawn0.refl _ | apply Drawn0.step)⟩
 }
 {
 rw [if_neg c4] at H
 have c4b0 : decide (a1 ≤ a0) = false := decide_eq_false c4
 clear c4
 obtain rfl := Option.some.inj H
 go_enter Try.func63, Try.ntmps63
 go_wp2
 go_ret
 exact ⟨by first | rfl | (simp; done) | (simp [*]; done), by repeat (first | exact Drawn0.refl _ | apply Drawn0.step)⟩
 }
def impl_WordOk.l0 : Nat → ByteArray → Int → Int → Option (Bool)
 | 0, _, _, _ => none
 | k + 1, a, b, c => if c < b then (if 0 ≤ c then (if c < (a.size : Int) then (if (bt a c) < 97 then (some false) else (if (bt a c) > 122 then (some false) else (impl_WordOk.l0 k a b (wrap64 (c + 1))))) else (none)) else (none)) else (some true)
def impl_WordOk.f (k : Nat) (a0 : ByteArray) : Option (Bool) := (impl_in.f (a0.size : Int) 1 8).bind fun t132 => (if t132 = true then (impl_WordOk.l0 k a0 (a0.size : Int) 0) else (some false))
theorem impl_WordOk.mono_l : ∀ k, (∀ y0 y1 y2, LeO (impl_WordOk.l0 k y0 y1 y2) (impl_WordOk.l0 (k + 1) y0 y1 y2))
 | 0 => fun _ _ _ r h => by simp [impl_WordOk.l0] at h
 | k + 1 => by
  have ih0 := impl_WordOk.mono_l k
  ·intro y0 y1 y2
   unfold impl_WordOk.l0
   repeat' with_reducible first | exact ih0 _ _ _ | exact LeO.refl _ | exact LeO.none _ | refine LeO.ite ?_ ?_ | refine LeO.bind ?_ (fun _ => ?_)
theorem impl_WordOk.mono : ∀ a0 k, LeO (impl_WordOk.f k a0) (impl_WordOk.f (k + 1) a0) := by
 intro a0 k
 have ih0 := impl_WordOk.mono_l k
 unfold impl_WordOk.f
 repeat' with_reducible first | exact ih0 _ _ _ | exact LeO.refl _ | exact LeO.none _ | refine LeO.ite ?_ ?_ | refine LeO.bind ?_ (fun _ => ?_)
theorem impl_WordOk.calls (k : Nat) (a0 : ByteArray) (r : Bool) (w : World) (h : impl_WordOk.f k a0 = some r) :
  Calls Try.prog 31 #[.string a0] w fun e w' => e = .returned (.bool r) ∧ Drawn0 w w' := by
 have H := h
 clear h
 unfold impl_WordOk.f at H
 obtain ⟨t132, A2, H⟩ := eb H
 try dsimp only at H
 have HS_ := Aside0.mk H
 clear H
 go_enter Try.func31, Try.ntmps31
 go_wp2_with ((with_reducible refine gate_callee (f := 63) rfl ?_); refine gl (some 6) Try.func63 #[.int .i64 (a0.size : Int), .int .i64 1, .int .i64 8] ?_; (with_reducible refine (impl_in.calls (a0.size : Int) 1 8 _ _ A2.out).mono ?_); rintro e w' ⟨rfl, ⟨nd, rfl⟩⟩; refine ⟨_, rfl, ?_⟩; refine Stop.out ?_)
 have H := HS_.out
 clear HS_
 by_cases c3 : t132 = true
 {
 subst c3
 rw [if_pos rfl] at H
 have H' := Aside0.mk H
 clear H
 refine ⟨?_⟩
 go_wp2
 go_loopg [10] k (fun kq v10 w' => ∃ (x10_1 : Int), v10 = .int .i64 x10_1 ∧ Aside0 (impl_WordOk.l0 kq a0 (a0.size : Int) x10_1 = some r) ∧ Aside0 (kq ≤ k) ∧ Drawn0 w w')
 case atStart => exact ⟨_, rr, H', ⟨Nat.le_refl _⟩, by repeat (first | exact Drawn0.refl _ | apply Drawn0.step)⟩
 case round =>
  skip;{
 clear H'
 try clear c3
 obtain ⟨x10_1, rfl, HA, HK1, ⟨m1, rfl⟩⟩ := hrel
 cases gk with
 | zero => exact absurd HA.out (by simp [impl_WordOk.l0])
 | succ k1 =>
  skip;{
 have H := HA.out
 clear HA
 simp only [impl_WordOk.l0] at H
 by_cases c4 : x10_1 < (a0.size : Int)
 {
 rw [if_pos c4] at H
 have c4b0 := decide_eq_true c4
 clear c4
 by_cases c5 : 0 ≤ x10_1
 {
 rw [if_pos c5] at H
 have c5b0 := decide_eq_true c5
 clear c5
 by_cases c6 : x10_1 < (a0.size : Int)
 {
 rw [if_pos c6] at H
 have c6b0 := decide_eq_true c6
 clear c6
 by_cases c8 : (bt a0 x10_1) < 97
 {
 rw [if_pos c8] at H
 have c8b0 := decide_eq_true c8
 clear c8
 obtain rfl := Option.some.inj H
 have p7 : 0 ≤ (x10_1 : Int) := oda
 have q7 : x10_1 < (a0.size : Int) := oda
 have hx7 := bt_at a0 x10_1
 replace p7 := eq_true p7
 replace q7 := eq_true q7
 go_wp2
 go_ret
 exact ⟨by first | rfl | (simp; done) | (simp [*]; done), by repeat (first | exact Drawn0.refl _ | apply Drawn0.step)⟩
 }
 {
 rw [if_neg c8] at H
 have c8b0 := decide_eq_false c8
 clear c8
 by_cases c10 : (bt a0 x10_1) > 122
 {
 rw [if_pos c10] at H
 have c10b0 : decide (122 < (bt a0 x10_1)) = true := decide_eq_true c10
 clear c10
 obtain rfl := Option.some.inj H
 have p7 : 0 ≤ (x10_1 : Int) := oda
 have q7 : x10_1 < (a0.size : Int) := oda
 have hx7 := bt_at a0 x10_1
 replace p7 := eq_true p7
 replace q7 := eq_true q7
 have p9 : 0 ≤ (x10_1 : Int) := oda
 have q9 : x10_1 < (a0.size : Int) := oda
 have hx9 := bt_at a0 x10_1
 replace p9 := eq_true p9
 replace q9 := eq_true q9
 go_wp2
 go_ret
 exact ⟨by first | rfl | (simp; done) | (simp [*]; done), by repeat (first | exact Drawn0.refl _ | apply Drawn0.step)⟩
 }
 {
 rw [if_neg c10] at H
 have c10b0 : decide (122 < (bt a0 x10_1)) = false := decide_eq_false c10
 clear c10
 have H' := Aside0.mk H
 clear H
 have p7 : 0 ≤ (x10_1 : Int) := oda
 have q7 : x10_1 < (a0.size : Int) := oda
 have hx7 := bt_at a0 x10_1
 replace p7 := eq_true p7
 replace q7 := eq_true q7
 have p9 : 0 ≤ (x10_1 : Int) := oda
 have q9 : x10_1 < (a0.size : Int) := oda
 have hx9 := bt_at a0 x10_1
 replace p9 := eq_true p9
 replace q9 := eq_true q9
 go_wp2
 go_roundg k1
 case measure => have := HK1.out; omega
 case rel => exact ⟨_, rr, H', ⟨by have := HK1.out; omega⟩, by repeat (first | exact Drawn0.refl _ | apply Drawn0.step)⟩
 }
 }
 }
 {rw [if_neg c6] at H;exact absurd H (by simp)}
 }
 {rw [if_neg c5] at H;exact absurd H (by simp)}
 }
 {
 rw [if_neg c4] at H
 have c4b0 := decide_eq_false c4
 clear c4
 obtain rfl := Option.some.inj H
 go_wp2
 go_ret
 exact ⟨by first | rfl | (simp; done) | (simp [*]; done), by repeat (first | exact Drawn0.refl _ | apply Drawn0.step)⟩
 }
 }
 }
 }
 {
 replace c3 := Bool.eq_false_iff.mpr c3
 subst c3
 rw [if_neg (show ¬ (false = true) by decide)] at H
 obtain rfl := Option.some.inj H
 refine ⟨?_⟩
 go_wp2
 go_ret
 exact ⟨by first | rfl | (simp; done) | (simp [*]; done), by repeat (first | exact Drawn0.refl _ | apply Drawn0.step)⟩
 }
end Go.Proofs.Ytagkjeldheiejaa.PFnStatesTold
