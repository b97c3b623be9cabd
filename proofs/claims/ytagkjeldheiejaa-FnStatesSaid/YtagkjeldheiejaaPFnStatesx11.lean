-- Written by a program of mine (a turned copy of the kit's print): functions as plain Lean, their contracts.
import Derived.Test.YtagkjeldheiejaaPFnStatesx2
import Derived.Test.YtagkjeldheiejaaPFnStatesx10
import Derived.Test.YtagkjeldheiejaaVFnStates1
namespace Go.Proofs.Ytagkjeldheiejaa.PFnStates
open Go.RowKit Go.Proofs.YtagkjeldheiejaaW.PrintWords Go.Proofs.YtagkjeldheiejaaW.PrintLast Go.Proofs.YtagkjeldheiejaaW.PrintMore
attribute [local go_sem] max2_int min2_int max_two min_two max_three min_three max_four min_four   -- for this text's walks alone
set_option maxHeartbeats 8000000
set_option maxRecDepth 100000
set_option linter.unusedVariables false
set_option linter.unusedSimpArgs false
attribute [local go_sem high] eqA32
/-! ### spec_ItemsOk: function 19 -/
mutual
def spec_ItemsOk.l0 : Nat → List (S32) → Int → Option (Bool)
 | 0, _, _ => none
 | k + 1, a, b => if b < (a.length : Int) then (if 0 ≤ b then ((spec_l01In.f ((rd_T32 a b).f0) 1 1000000000).bind fun t354 => (if t354 = true then ((spec_RecOk.f k ((rd_T32 a b).f1.f0) ((rd_T32 a b).f1.f1) ((rd_T32 a b).f1.f2) ((rd_T32 a b).f1.f3) ((rd_T32 a b).f1.f4) ((rd_T32 a b).f1.f5) ((rd_T32 a b).f1.f6) ((rd_T32 a b).f1.f7)).bind fun t356 => (spec_ItemsOk.j1 k a b (!t356))) else (spec_ItemsOk.j1 k a b true))) else (none)) else (some (decide ((a.length : Int) ≤ 200)))
def spec_ItemsOk.j1 : Nat → List (S32) → Int → Bool → Option (Bool)
 | 0, _, _, _ => none
 | k + 1, a, b, c => if c = true then (some false) else (spec_ItemsOk.l1 k a b 0)
def spec_ItemsOk.l1 : Nat → List (S32) → Int → Int → Option (Bool)
 | 0, _, _, _ => none
 | k + 1, a, b, c => if c < b then (if 0 ≤ c then (if c < (a.length : Int) then (if 0 ≤ b then (if b < (a.length : Int) then (if ((rd_T32 a c).f0) = ((rd_T32 a b).f0) then (if (!(((rd_T32 a c).f0) == ((rd_T32 a b).f0)) || ((!(((rd_T32 a c).f1.f0) == ((rd_T32 a b).f1.f0)) || (!(((rd_T32 a c).f1.f1) == ((rd_T32 a b).f1.f1)) || (!(((rd_T32 a c).f1.f2) == ((rd_T32 a b).f1.f2)) || (!(((rd_T32 a c).f1.f3) == ((rd_T32 a b).f1.f3)) || (!(((rd_T32 a c).f1.f4) == ((rd_T32 a b).f1.f4)) || (!((((rd_T32 a c).f1.f5).toList) == (((rd_T32 a b).f1.f5).toList)) || (!((((rd_T32 a c).f1.f6).toList) == (((rd_T32 a b).f1.f6).toList)) || (!((((rd_T32 a c).f1.f7).toList) == (((rd_T32 a b).f1.f7).toList)))))))))))) = true then (some false) else (spec_ItemsOk.l1 k a b (wrap64 (c + 1)))) else (spec_ItemsOk.l1 k a b (wrap64 (c + 1)))) else (none)) else (none)) else (none)) else (none)) else (spec_ItemsOk.l0 k a (wrap64 (b + 1)))
end
def spec_ItemsOk.f (k : Nat) (l0 : List (S32)) : Option (Bool) := spec_ItemsOk.l0 k l0 0
theorem spec_ItemsOk.mono_l : ∀ k, (∀ y0 y1, LeO (spec_ItemsOk.l0 k y0 y1) (spec_ItemsOk.l0 (k + 1) y0 y1)) ∧ (∀ y0 y1 y2, LeO (spec_ItemsOk.j1 k y0 y1 y2) (spec_ItemsOk.j1 (k + 1) y0 y1 y2)) ∧ (∀ y0 y1 y2, LeO (spec_ItemsOk.l1 k y0 y1 y2) (spec_ItemsOk.l1 (k + 1) y0 y1 y2))
 | 0 => ⟨fun _ _ r h => by simp [spec_ItemsOk.l0] at h, fun _ _ _ r h => by simp [spec_ItemsOk.j1] at h, fun _ _ _ r h => by simp [spec_ItemsOk.l1] at h⟩
 | k + 1 => by
  obtain ⟨ih0, ih1, ih2⟩ := spec_ItemsOk.mono_l k
  refine ⟨?_, ?_, ?_⟩
  intro y0 y1;unfold spec_ItemsOk.l0;rotate_left
  intro y0 y1 y2;unfold spec_ItemsOk.j1;rotate_left
  intro y0 y1 y2;unfold spec_ItemsOk.l1;rotate_left
  all_goals repeat' with_reducible first | exact ih0 _ _ | exact ih1 _ _ _ | exact ih2 _ _ _ | exact spec_RecOk.mono _ _ _ _ _ _ _ _ _ | exact LeO.refl _ | exact LeO.none _ | refine LeO.ite ?_ ?_ | refine LeO.bind ?_ (fun _ => ?_)
theorem spec_ItemsOk.mono : ∀ a0 k, LeO (spec_ItemsOk.f k a0) (spec_ItemsOk.f (k + 1) a0) := by
 intro a0 k
 obtain ⟨ih0, ih1, ih2⟩ := spec_ItemsOk.mono_l k
 unfold spec_ItemsOk.f
 repeat' with_reducible first | exact ih0 _ _ | exact ih1 _ _ _ | exact ih2 _ _ _ | exact spec_RecOk.mono _ _ _ _ _ _ _ _ _ | exact LeO.refl _ | exact LeO.none _ | refine LeO.ite ?_ ?_ | refine LeO.bind ?_ (fun _ => ?_)
theorem spec_ItemsOk.calls (k : Nat) (A0 : Option Addr) (c0 : Nat) (l0 : List (S32)) (r : Bool) (w : World) (hr0 : Kd.C k32 w A0 l0.length l0) (hc0 : l0.length ≤ c0) (h : spec_ItemsOk.f k l0 = some r) :
  Calls Try.prog 19 #[.slice A0 l0.length c0] w fun e w' => e = .returned (.bool r) ∧ Below w.heap.size w w' := by
 have hu23 := Try.underlying23
 have hu32 := Try.underlying32
 have HR0 := Aside0.mk hr0
 have HC0 := Aside0.mk hc0
 clear hr0 hc0
 have HB := ak (Below.refl w.heap.size w)
 have H := h
 clear h
 unfold spec_ItemsOk.f at H
 have H' := Aside0.mk H
 clear H
 go_enter Try.func19, Try.ntmps19
 go_wp2
 repeat (go_quiet (fail); try go_wp2)
 go_loopg [3] k (fun kq v3 w' => ∃ (x3_1 : Int), v3 = .int .i64 x3_1 ∧ Aside0 (spec_ItemsOk.l0 kq l0 x3_1 = some r) ∧ Aside0 (kq ≤ k) ∧ Aside0 (Below w.heap.size w w'))
 case atStart => exact ⟨_, rr, H', ⟨Nat.le_refl _⟩, ⟨by exact lG HB⟩⟩
 case round =>
  skip;{
 clear H'
 obtain ⟨x3_1, rfl, HA, HK1, HB⟩ := hrel
 cases gk with
 | zero => exact absurd HA.out (by simp [spec_ItemsOk.l0])
 | succ k1 =>
  skip;{
 have H := HA.out
 clear HA
 simp only [spec_ItemsOk.l0] at H
 by_cases c2 : x3_1 < (l0.length : Int)
 {
 rw [if_pos c2] at H
 have c2b0 := decide_eq_true c2
 clear c2
 have HC3 := Aside0.mk H
 clear H
 go_upto_region 4 with (fail)
 repeat (go_quiet (fail); go_upto_region 4 with (fail))
 go_cut [26] (fun v26 wc => ∃ (kq : Nat) (x26_2 : Bool), v26 = .bool x26_2 ∧ Aside0 (spec_ItemsOk.j1 kq l0 x3_1 x26_2 = some r) ∧ Aside0 (kq ≤ k1) ∧ Aside0 (Below w.heap.size w wc))
 case first =>
  skip;{
 have H := HC3.out
 clear HC3
 by_cases c4 : 0 ≤ x3_1
 {
 rw [if_pos c4] at H
 have c4b0 := decide_eq_true c4
 clear c4
 (first | rw [c4b0] | (simp only [i64_w, i32_w]; rw [c4b0]) | skip)
 obtain ⟨t354, A5, H⟩ := eb H
 try dsimp only at H
 by_cases c6 : t354 = true
 {
 subst c6
 rw [if_pos rfl] at H
 obtain ⟨t356, A7, H⟩ := eb H
 try dsimp only at H
 have H' := Aside0.mk H
 clear H
 have p353 : 0 ≤ (x3_1 : Int) := oda
 have q353 : x3_1 < (l0.length : Int) := oda
 obtain ⟨ad353, e353, hx353_0, hx353_1, hx353_2, hx353_3, hx353_4, hx353_5, hx353_6, hx353_7, hx353_8⟩ := at_T32 HR0.out x3_1 p353 q353
 cases e353
 replace hx353_0 := clB HB hx353_0
 replace hx353_1 := clB HB hx353_1
 replace hx353_2 := clB HB hx353_2
 replace hx353_3 := clB HB hx353_3
 replace hx353_4 := clB HB hx353_4
 replace hx353_5 := clB HB hx353_5
 replace hx353_6 := clB HB hx353_6
 replace hx353_7 := clB HB hx353_7
 replace hx353_8 := clB HB hx353_8
 replace p353 := eq_true p353
 replace q353 := eq_true q353
 go_wp2_with (first | (go_at_call 61; (with_reducible refine (spec_l01In.calls ((rd_T32 l0 x3_1).f0) 1 1000000000 _ _ A5.out).mono ?_); rintro e w' ⟨rfl, ⟨nd, rfl⟩⟩; (try first | exact ⟨rfl, _, World.drewN_drewN _ _ _⟩ | exact ⟨rfl, _, Eq.trans (World.drewN_drewN _ _ _) (congrArg (World.drewN _) (Nat.add_assoc _ _ _))⟩); have p355 : 0 ≤ (x3_1 : Int) := oda; have q355 : x3_1 < (l0.length : Int) := oda; obtain ⟨ad355, e355, hx355_0, hx355_1, hx355_2, hx355_3, hx355_4, hx355_5, hx355_6, hx355_7, hx355_8⟩ := at_T32 HR0.out x3_1 p355 q355; obtain rfl : ad353 = ad355 := (by injection e355); replace hx355_0 := clB HB hx355_0; replace hx355_1 := clB HB hx355_1; replace hx355_2 := clB HB hx355_2; replace hx355_3 := clB HB hx355_3; replace hx355_4 := clB HB hx355_4; replace hx355_5 := clB HB hx355_5; replace hx355_6 := clB HB hx355_6; replace hx355_7 := clB HB hx355_7; replace hx355_8 := clB HB hx355_8; replace p355 := eq_true p355; replace q355 := eq_true q355) | (go_at_call 27; (with_reducible refine (spec_RecOk.calls k1 ((rd_T32 l0 x3_1).f1.f0) ((rd_T32 l0 x3_1).f1.f1) ((rd_T32 l0 x3_1).f1.f2) ((rd_T32 l0 x3_1).f1.f3) ((rd_T32 l0 x3_1).f1.f4) ((rd_T32 l0 x3_1).f1.f5) ((rd_T32 l0 x3_1).f1.f6) ((rd_T32 l0 x3_1).f1.f7) t356 _ A7.out).mono ?_); rintro e w8 ⟨rfl, hb⟩; replace HB := lB HB hb; (try clear hb); (try clear hk)))
 repeat (go_quiet (first | (go_at_call 61; (with_reducible refine (spec_l01In.calls ((rd_T32 l0 x3_1).f0) 1 1000000000 _ _ A5.out).mono ?_); rintro e w' ⟨rfl, ⟨nd, rfl⟩⟩; (try first | exact ⟨rfl, _, World.drewN_drewN _ _ _⟩ | exact ⟨rfl, _, Eq.trans (World.drewN_drewN _ _ _) (congrArg (World.drewN _) (Nat.add_assoc _ _ _))⟩); have p355 : 0 ≤ (x3_1 : Int) := oda; have q355 : x3_1 < (l0.length : Int) := oda; obtain ⟨ad355, e355, hx355_0, hx355_1, hx355_2, hx355_3, hx355_4, hx355_5, hx355_6, hx355_7, hx355_8⟩ := at_T32 HR0.out x3_1 p355 q355; obtain rfl : ad353 = ad355 := (by injection e355); replace hx355_0 := clB HB hx355_0; replace hx355_1 := clB HB hx355_1; replace hx355_2 := clB HB hx355_2; replace hx355_3 := clB HB hx355_3; replace hx355_4 := clB HB hx355_4; replace hx355_5 := clB HB hx355_5; replace hx355_6 := clB HB hx355_6; replace hx355_7 := clB HB hx355_7; replace hx355_8 := clB HB hx355_8; replace p355 := eq_true p355; replace q355 := eq_true q355) | (go_at_call 27; (with_reducible refine (spec_RecOk.calls k1 ((rd_T32 l0 x3_1).f1.f0) ((rd_T32 l0 x3_1).f1.f1) ((rd_T32 l0 x3_1).f1.f2) ((rd_T32 l0 x3_1).f1.f3) ((rd_T32 l0 x3_1).f1.f4) ((rd_T32 l0 x3_1).f1.f5) ((rd_T32 l0 x3_1).f1.f6) ((rd_T32 l0 x3_1).f1.f7) t356 _ A7.out).mono ?_); rintro e w8 ⟨rfl, hb⟩; replace HB := lB HB hb; (try clear hb); (try clear hk))); try go_wp2_with (first | (go_at_call 61; (with_reducible refine (spec_l01In.calls ((rd_T32 l0 x3_1).f0) 1 1000000000 _ _ A5.out).mono ?_); rintro e w' ⟨rfl, ⟨nd, rfl⟩⟩; (try first | exact ⟨rfl, _, World.drewN_drewN _ _ _⟩ | exact ⟨rfl, _, Eq.trans (World.drewN_drewN _ _ _) (congrArg (World.drewN _) (Nat.add_assoc _ _ _))⟩); have p355 : 0 ≤ (x3_1 : Int) := oda; have q355 : x3_1 < (l0.length : Int) := oda; obtain ⟨ad355, e355, hx355_0, hx355_1, hx355_2, hx355_3, hx355_4, hx355_5, hx355_6, hx355_7, hx355_8⟩ := at_T32 HR0.out x3_1 p355 q355; obtain rfl : ad353 = ad355 := (by injection e355); replace hx355_0 := clB HB hx355_0; replace hx355_1 := clB HB hx355_1; replace hx355_2 := clB HB hx355_2; replace hx355_3 := clB HB hx355_3; replace hx355_4 := clB HB hx355_4; replace hx355_5 := clB HB hx355_5; replace hx355_6 := clB HB hx355_6; replace hx355_7 := clB HB hx355_7; replace hx355_8 := clB HB hx355_8; replace p355 := eq_true p355; replace q355 := eq_true q355) | (go_at_call 27; (with_reducible refine (spec_RecOk.calls k1 ((rd_T32 l0 x3_1).f1.f0) ((rd_T32 l0 x3_1).f1.f1) ((rd_T32 l0 x3_1).f1.f2) ((rd_T32 l0 x3_1).f1.f3) ((rd_T32 l0 x3_1).f1.f4) ((rd_T32 l0 x3_1).f1.f5) ((rd_T32 l0 x3_1).f1.f6) ((rd_T32 l0 x3_1).f1.f7) t356 _ A7.out).mono ?_); rintro e w8 ⟨rfl, hb⟩; replace HB := lB HB hb; (try clear hb); (try clear hk))))
 go_meet
 case rel => exact ⟨_, _, rr, H', ⟨by have := HK1.out; first | omega | exact Nat.le_refl _⟩, ⟨by exact lG HB⟩⟩
 }
 {
 replace c6 := Bool.eq_false_iff.mpr c6
 subst c6
 rw [if_neg (show ¬ (false = true) by decide)] at H
 have H' := Aside0.mk H
 clear H
 have p353 : 0 ≤ (x3_1 : Int) := oda
 have q353 : x3_1 < (l0.length : Int) := oda
 obtain ⟨ad353, e353, hx353_0, hx353_1, hx353_2, hx353_3, hx353_4, hx353_5, hx353_6, hx353_7, hx353_8⟩ := at_T32 HR0.out x3_1 p353 q353
 cases e353
 replace hx353_0 := clB HB hx353_0
 replace hx353_1 := clB HB hx353_1
 replace hx353_2 := clB HB hx353_2
 replace hx353_3 := clB HB hx353_3
 replace hx353_4 := clB HB hx353_4
 replace hx353_5 := clB HB hx353_5
 replace hx353_6 := clB HB hx353_6
 replace hx353_7 := clB HB hx353_7
 replace hx353_8 := clB HB hx353_8
 replace p353 := eq_true p353
 replace q353 := eq_true q353
 go_wp2_with (go_at_call 61; (with_reducible refine (spec_l01In.calls ((rd_T32 l0 x3_1).f0) 1 1000000000 _ _ A5.out).mono ?_); rintro e w' ⟨rfl, ⟨nd, rfl⟩⟩; (try first | exact ⟨rfl, _, World.drewN_drewN _ _ _⟩ | exact ⟨rfl, _, Eq.trans (World.drewN_drewN _ _ _) (congrArg (World.drewN _) (Nat.add_assoc _ _ _))⟩))
 repeat (go_quiet (first | (go_at_call 61; (with_reducible refine (spec_l01In.calls ((rd_T32 l0 x3_1).f0) 1 1000000000 _ _ A5.out).mono ?_); rintro e w' ⟨rfl, ⟨nd, rfl⟩⟩; (try first | exact ⟨rfl, _, World.drewN_drewN _ _ _⟩ | exact ⟨rfl, _, Eq.trans (World.drewN_drewN _ _ _) (congrArg (World.drewN _) (Nat.add_assoc _ _ _))⟩))); try go_wp2_with (first | (go_at_call 61; (with_reducible refine (spec_l01In.calls ((rd_T32 l0 x3_1).f0) 1 1000000000 _ _ A5.out).mono ?_); rintro e w' ⟨rfl, ⟨nd, rfl⟩⟩; (try first | exact ⟨rfl, _, World.drewN_drewN _ _ _⟩ | exact ⟨rfl, _, Eq.trans (World.drewN_drewN _ _ _) (congrArg (World.drewN _) (Nat.add_assoc _ _ _))⟩))))
 go_meet
 case rel => exact ⟨_, _, rr, H', ⟨by have := HK1.out; first | omega | exact Nat.le_refl _⟩, ⟨by exact lG HB⟩⟩
 }
 }
 {rw [if_neg c4] at H;exact absurd H (by simp)}
 }
 case rest =>
  skip;{
 clear HC3
 try clear c2 c2b0
 obtain ⟨kq, x26_2, rfl, HA, HJ2, HB⟩ := hcut
 cases kq with
 | zero => exact absurd HA.out (by simp [spec_ItemsOk.j1])
 | succ kj2 =>
  skip;{
 have H := HA.out
 clear HA
 simp only [spec_ItemsOk.j1] at H
 by_cases c9 : x26_2 = true
 {
 subst c9
 rw [if_pos rfl] at H
 obtain rfl := Option.some.inj H
 go_wp2
 repeat (go_quiet (fail); try go_wp2)
 go_ret
 exact ⟨ew, by exact lG HB⟩
 }
 {
 replace c9 := Bool.eq_false_iff.mpr c9
 subst c9
 rw [if_neg (show ¬ (false = true) by decide)] at H
 have H' := Aside0.mk H
 clear H
 go_wp2
 repeat (go_quiet (fail); try go_wp2)
 go_loopg [4] kj2 (fun kq v4 w' => ∃ (x4_3 : Int), v4 = .int .i64 x4_3 ∧ Aside0 (spec_ItemsOk.l1 kq l0 x3_1 x4_3 = some r) ∧ Aside0 (kq ≤ kj2) ∧ Aside0 (Below w.heap.size w w'))
 case atStart => exact ⟨_, rr, H', ⟨Nat.le_refl _⟩, ⟨by exact lG HB⟩⟩
 case round =>
  skip;{
 clear H'
 try clear c2 c2b0 c9
 obtain ⟨x4_3, rfl, HA, HK3, HB⟩ := hrel
 cases gk with
 | zero => exact absurd HA.out (by simp [spec_ItemsOk.l1])
 | succ k3 =>
  skip;{
 have H := HA.out
 clear HA
 simp only [spec_ItemsOk.l1] at H
 by_cases c10 : x4_3 < x3_1
 {
 rw [if_pos c10] at H
 have c10b0 := decide_eq_true c10
 clear c10
 by_cases c11 : 0 ≤ x4_3
 {
 rw [if_pos c11] at H
 have c11b0 := decide_eq_true c11
 clear c11
 by_cases c12 : x4_3 < (l0.length : Int)
 {
 rw [if_pos c12] at H
 have c12b0 := decide_eq_true c12
 clear c12
 by_cases c13 : 0 ≤ x3_1
 {
 rw [if_pos c13] at H
 have c13b0 := decide_eq_true c13
 clear c13
 by_cases c14 : x3_1 < (l0.length : Int)
 {
 rw [if_pos c14] at H
 have c14b0 := decide_eq_true c14
 clear c14
 by_cases c15 : ((rd_T32 l0 x4_3).f0) = ((rd_T32 l0 x3_1).f0)
 {
 rw [if_pos c15] at H
 have c15b0 := beq_iff_eq.mpr c15
 have c15b1 := bne_eq_false_iff_eq.mpr c15
 clear c15
 by_cases c16 : (!(((rd_T32 l0 x4_3).f0) == ((rd_T32 l0 x3_1).f0)) || ((!(((rd_T32 l0 x4_3).f1.f0) == ((rd_T32 l0 x3_1).f1.f0)) || (!(((rd_T32 l0 x4_3).f1.f1) == ((rd_T32 l0 x3_1).f1.f1)) || (!(((rd_T32 l0 x4_3).f1.f2) == ((rd_T32 l0 x3_1).f1.f2)) || (!(((rd_T32 l0 x4_3).f1.f3) == ((rd_T32 l0 x3_1).f1.f3)) || (!(((rd_T32 l0 x4_3).f1.f4) == ((rd_T32 l0 x3_1).f1.f4)) || (!((((rd_T32 l0 x4_3).f1.f5).toList) == (((rd_T32 l0 x3_1).f1.f5).toList)) || (!((((rd_T32 l0 x4_3).f1.f6).toList) == (((rd_T32 l0 x3_1).f1.f6).toList)) || (!((((rd_T32 l0 x4_3).f1.f7).toList) == (((rd_T32 l0 x3_1).f1.f7).toList)))))))))))) = true
 {
 rw [if_pos c16] at H
 have c16b0 : (!(((rd_T32 l0 x4_3).f0) == ((rd_T32 l0 x3_1).f0)) || ((!(((rd_T32 l0 x4_3).f1.f0) == ((rd_T32 l0 x3_1).f1.f0)) || (!(((rd_T32 l0 x4_3).f1.f1) == ((rd_T32 l0 x3_1).f1.f1)) || (!(((rd_T32 l0 x4_3).f1.f2) == ((rd_T32 l0 x3_1).f1.f2)) || (!(((rd_T32 l0 x4_3).f1.f3) == ((rd_T32 l0 x3_1).f1.f3)) || (!(((rd_T32 l0 x4_3).f1.f4) == ((rd_T32 l0 x3_1).f1.f4)) || (!((((rd_T32 l0 x4_3).f1.f5).toList) == (((rd_T32 l0 x3_1).f1.f5).toList)) || (!((((rd_T32 l0 x4_3).f1.f6).toList) == (((rd_T32 l0 x3_1).f1.f6).toList)) || (!((((rd_T32 l0 x4_3).f1.f7).toList) == (((rd_T32 l0 x3_1).f1.f7).toList)))))))))))) = true := c16
 clear c16
 obtain rfl := Option.some.inj H
 have p357 : 0 ≤ (x4_3 : Int) := oda
 have q357 : x4_3 < (l0.length : Int) := oda
 obtain ⟨ad357, e357, hx357_0, hx357_1, hx357_2, hx357_3, hx357_4, hx357_5, hx357_6, hx357_7, hx357_8⟩ := at_T32 HR0.out x4_3 p357 q357
 cases e357
 replace hx357_0 := clB HB hx357_0
 replace hx357_1 := clB HB hx357_1
 replace hx357_2 := clB HB hx357_2
 replace hx357_3 := clB HB hx357_3
 replace hx357_4 := clB HB hx357_4
 replace hx357_5 := clB HB hx357_5
 replace hx357_6 := clB HB hx357_6
 replace hx357_7 := clB HB hx357_7
 replace hx357_8 := clB HB hx357_8
 replace p357 := eq_true p357
 replace q357 := eq_true q357
 have p358 : 0 ≤ (x3_1 : Int) := oda
 have q358 : x3_1 < (l0.length : Int) := oda
 obtain ⟨ad358, e358, hx358_0, hx358_1, hx358_2, hx358_3, hx358_4, hx358_5, hx358_6, hx358_7, hx358_8⟩ := at_T32 HR0.out x3_1 p358 q358
 obtain rfl : ad357 = ad358 := (by injection e358)
 replace hx358_0 := clB HB hx358_0
 replace hx358_1 := clB HB hx358_1
 replace hx358_2 := clB HB hx358_2
 replace hx358_3 := clB HB hx358_3
 replace hx358_4 := clB HB hx358_4
 replace hx358_5 := clB HB hx358_5
 replace hx358_6 := clB HB hx358_6
 replace hx358_7 := clB HB hx358_7
 replace hx358_8 := clB HB hx358_8
 replace p358 := eq_true p358
 replace q358 := eq_true q358
 have p359 : 0 ≤ (x4_3 : Int) := oda
 have q359 : x4_3 < (l0.length : Int) := oda
 obtain ⟨ad359, e359, hx359_0, hx359_1, hx359_2, hx359_3, hx359_4, hx359_5, hx359_6, hx359_7, hx359_8⟩ := at_T32 HR0.out x4_3 p359 q359
 obtain rfl : ad357 = ad359 := (by injection e359)
 replace hx359_0 := clB HB hx359_0
 replace hx359_1 := clB HB hx359_1
 replace hx359_2 := clB HB hx359_2
 replace hx359_3 := clB HB hx359_3
 replace hx359_4 := clB HB hx359_4
 replace hx359_5 := clB HB hx359_5
 replace hx359_6 := clB HB hx359_6
 replace hx359_7 := clB HB hx359_7
 replace hx359_8 := clB HB hx359_8
 replace p359 := eq_true p359
 replace q359 := eq_true q359
 have p360 : 0 ≤ (x3_1 : Int) := oda
 have q360 : x3_1 < (l0.length : Int) := oda
 obtain ⟨ad360, e360, hx360_0, hx360_1, hx360_2, hx360_3, hx360_4, hx360_5, hx360_6, hx360_7, hx360_8⟩ := at_T32 HR0.out x3_1 p360 q360
 obtain rfl : ad357 = ad360 := (by injection e360)
 replace hx360_0 := clB HB hx360_0
 replace hx360_1 := clB HB hx360_1
 replace hx360_2 := clB HB hx360_2
 replace hx360_3 := clB HB hx360_3
 replace hx360_4 := clB HB hx360_4
 replace hx360_5 := clB HB hx360_5
 replace hx360_6 := clB HB hx360_6
 replace hx360_7 := clB HB hx360_7
 replace hx360_8 := clB HB hx360_8
 replace p360 := eq_true p360
 replace q360 := eq_true q360
 go_wp2
 repeat (go_quiet (fail); try go_wp2)
 all_goals first | (go_ret; exact ⟨ew, by exact lG HB⟩; done) | (exfalso; revert c16b0; simp [*]; done) | (exfalso; revert c16b0; simp [*]; intros; simp_all; done)
 }
 {
 rw [if_neg c16] at H
 have c16b0 : (!(((rd_T32 l0 x4_3).f0) == ((rd_T32 l0 x3_1).f0)) || ((!(((rd_T32 l0 x4_3).f1.f0) == ((rd_T32 l0 x3_1).f1.f0)) || (!(((rd_T32 l0 x4_3).f1.f1) == ((rd_T32 l0 x3_1).f1.f1)) || (!(((rd_T32 l0 x4_3).f1.f2) == ((rd_T32 l0 x3_1).f1.f2)) || (!(((rd_T32 l0 x4_3).f1.f3) == ((rd_T32 l0 x3_1).f1.f3)) || (!(((rd_T32 l0 x4_3).f1.f4) == ((rd_T32 l0 x3_1).f1.f4)) || (!((((rd_T32 l0 x4_3).f1.f5).toList) == (((rd_T32 l0 x3_1).f1.f5).toList)) || (!((((rd_T32 l0 x4_3).f1.f6).toList) == (((rd_T32 l0 x3_1).f1.f6).toList)) || (!((((rd_T32 l0 x4_3).f1.f7).toList) == (((rd_T32 l0 x3_1).f1.f7).toList)))))))))))) = false := by simpa using c16
 clear c16
 have H' := Aside0.mk H
 clear H
 have p357 : 0 ≤ (x4_3 : Int) := oda
 have q357 : x4_3 < (l0.length : Int) := oda
 obtain ⟨ad357, e357, hx357_0, hx357_1, hx357_2, hx357_3, hx357_4, hx357_5, hx357_6, hx357_7, hx357_8⟩ := at_T32 HR0.out x4_3 p357 q357
 cases e357
 replace hx357_0 := clB HB hx357_0
 replace hx357_1 := clB HB hx357_1
 replace hx357_2 := clB HB hx357_2
 replace hx357_3 := clB HB hx357_3
 replace hx357_4 := clB HB hx357_4
 replace hx357_5 := clB HB hx357_5
 replace hx357_6 := clB HB hx357_6
 replace hx357_7 := clB HB hx357_7
 replace hx357_8 := clB HB hx357_8
 replace p357 := eq_true p357
 replace q357 := eq_true q357
 have p358 : 0 ≤ (x3_1 : Int) := oda
 have q358 : x3_1 < (l0.length : Int) := oda
 obtain ⟨ad358, e358, hx358_0, hx358_1, hx358_2, hx358_3, hx358_4, hx358_5, hx358_6, hx358_7, hx358_8⟩ := at_T32 HR0.out x3_1 p358 q358
 obtain rfl : ad357 = ad358 := (by injection e358)
 replace hx358_0 := clB HB hx358_0
 replace hx358_1 := clB HB hx358_1
 replace hx358_2 := clB HB hx358_2
 replace hx358_3 := clB HB hx358_3
 replace hx358_4 := clB HB hx358_4
 replace hx358_5 := clB HB hx358_5
 replace hx358_6 := clB HB hx358_6
 replace hx358_7 := clB HB hx358_7
 replace hx358_8 := clB HB hx358_8
 replace p358 := eq_true p358
 replace q358 := eq_true q358
 have p359 : 0 ≤ (x4_3 : Int) := oda
 have q359 : x4_3 < (l0.length : Int) := oda
 obtain ⟨ad359, e359, hx359_0, hx359_1, hx359_2, hx359_3, hx359_4, hx359_5, hx359_6, hx359_7, hx359_8⟩ := at_T32 HR0.out x4_3 p359 q359
 obtain rfl : ad357 = ad359 := (by injection e359)
 replace hx359_0 := clB HB hx359_0
 replace hx359_1 := clB HB hx359_1
 replace hx359_2 := clB HB hx359_2
 replace hx359_3 := clB HB hx359_3
 replace hx359_4 := clB HB hx359_4
 replace hx359_5 := clB HB hx359_5
 replace hx359_6 := clB HB hx359_6
 replace hx359_7 := clB HB hx359_7
 replace hx359_8 := clB HB hx359_8
 replace p359 := eq_true p359
 replace q359 := eq_true q359
 have p360 : 0 ≤ (x3_1 : Int) := oda
 have q360 : x3_1 < (l0.length : Int) := oda
 obtain ⟨ad360, e360, hx360_0, hx360_1, hx360_2, hx360_3, hx360_4, hx360_5, hx360_6, hx360_7, hx360_8⟩ := at_T32 HR0.out x3_1 p360 q360
 obtain rfl : ad357 = ad360 := (by injection e360)
 replace hx360_0 := clB HB hx360_0
 replace hx360_1 := clB HB hx360_1
 replace hx360_2 := clB HB hx360_2
 replace hx360_3 := clB HB hx360_3
 replace hx360_4 := clB HB hx360_4
 replace hx360_5 := clB HB hx360_5
 replace hx360_6 := clB HB hx360_6
 replace hx360_7 := clB HB hx360_7
 replace hx360_8 := clB HB hx360_8
 replace p360 := eq_true p360
 replace q360 := eq_true q360
 go_wp2
 repeat (go_quiet (fail); try go_wp2)
 all_goals first | (go_roundg k3; (case measure => (have := HK1.out; have := HJ2.out; have := HK3.out; omega)); (case rel => (exact ⟨(wrap64 (x4_3 + 1)), rr, H', ⟨by have := HK1.out; have := HJ2.out; have := HK3.out; omega⟩, ⟨by exact lG HB⟩⟩)); done) | (exfalso; revert c16b0; simp [*]; done) | (exfalso; revert c16b0; simp [*]; intros; simp_all; done)
 }
 }
 {
 rw [if_neg c15] at H
 have c15b0 := beq_eq_false_iff_ne.mpr c15
 have c15b1 := bne_iff_ne.mpr c15
 have H' := Aside0.mk H
 clear H
 have p357 : 0 ≤ (x4_3 : Int) := oda
 have q357 : x4_3 < (l0.length : Int) := oda
 obtain ⟨ad357, e357, hx357_0, hx357_1, hx357_2, hx357_3, hx357_4, hx357_5, hx357_6, hx357_7, hx357_8⟩ := at_T32 HR0.out x4_3 p357 q357
 cases e357
 replace hx357_0 := clB HB hx357_0
 replace hx357_1 := clB HB hx357_1
 replace hx357_2 := clB HB hx357_2
 replace hx357_3 := clB HB hx357_3
 replace hx357_4 := clB HB hx357_4
 replace hx357_5 := clB HB hx357_5
 replace hx357_6 := clB HB hx357_6
 replace hx357_7 := clB HB hx357_7
 replace hx357_8 := clB HB hx357_8
 replace p357 := eq_true p357
 replace q357 := eq_true q357
 have p358 : 0 ≤ (x3_1 : Int) := oda
 have q358 : x3_1 < (l0.length : Int) := oda
 obtain ⟨ad358, e358, hx358_0, hx358_1, hx358_2, hx358_3, hx358_4, hx358_5, hx358_6, hx358_7, hx358_8⟩ := at_T32 HR0.out x3_1 p358 q358
 obtain rfl : ad357 = ad358 := (by injection e358)
 replace hx358_0 := clB HB hx358_0
 replace hx358_1 := clB HB hx358_1
 replace hx358_2 := clB HB hx358_2
 replace hx358_3 := clB HB hx358_3
 replace hx358_4 := clB HB hx358_4
 replace hx358_5 := clB HB hx358_5
 replace hx358_6 := clB HB hx358_6
 replace hx358_7 := clB HB hx358_7
 replace hx358_8 := clB HB hx358_8
 replace p358 := eq_true p358
 replace q358 := eq_true q358
 go_wp2
 repeat (go_quiet (fail); try go_wp2)
 go_roundg k3
 case measure => have := HK1.out; have := HJ2.out; have := HK3.out; omega
 case rel => exact ⟨_, rr, H', ⟨by have := HK1.out; have := HJ2.out; have := HK3.out; omega⟩, ⟨by exact lG HB⟩⟩
 }
 }
 {rw [if_neg c14] at H;exact absurd H (by simp)}
 }
 {rw [if_neg c13] at H;exact absurd H (by simp)}
 }
 {rw [if_neg c12] at H;exact absurd H (by simp)}
 }
 {rw [if_neg c11] at H;exact absurd H (by simp)}
 }
 {
 rw [if_neg c10] at H
 have c10b0 := decide_eq_false c10
 clear c10
 have H' := Aside0.mk H
 clear H
 go_wp2
 repeat (go_quiet (fail); try go_wp2)
 go_roundg k3
 case measure => have := HK1.out; have := HJ2.out; have := HK3.out; omega
 case rel => exact ⟨_, rr, H', ⟨by have := HK1.out; have := HJ2.out; have := HK3.out; omega⟩, ⟨by exact lG HB⟩⟩
 }
 }
 }
 }
 }
 }
 }
 {
 rw [if_neg c2] at H
 have c2b0 := decide_eq_false c2
 clear c2
 obtain rfl := Option.some.inj H
 go_wp2
 repeat (go_quiet (fail); try go_wp2)
 go_ret
 exact ⟨ew, by exact lG HB⟩
 }
 }
 }
/-! ### spec_l07Best: function 80 -/
def spec_l07Best.l0 : Nat → List (S32) → Int → Int → Int → Bool → Int → Int → Int → Int → Int → Int → Int → ByteArray → ByteArray → ByteArray → Option (Int × Int × Int × Int × Int × Int × ByteArray × ByteArray × ByteArray × Bool)
 | 0, _, _, _, _, _, _, _, _, _, _, _, _, _, _, _ => none
 | k + 1, a, b, c, d, e, f, g, h, i, j, l, m, n, o, p => if f < (a.length : Int) then (if 0 ≤ f then (if ((rd_T32 a f).f1.f0) = b then (if ((rd_T32 a f).f1.f1) = c then (if ((rd_T32 a f).f1.f2) = d then (if e = true then (if ((rd_T32 a f).f0) > g then (spec_l07Best.l0 k a b c d true (wrap64 (f + 1)) ((rd_T32 a f).f0) ((rd_T32 a f).f1.f0) ((rd_T32 a f).f1.f1) ((rd_T32 a f).f1.f2) ((rd_T32 a f).f1.f3) ((rd_T32 a f).f1.f4) ((rd_T32 a f).f1.f5) ((rd_T32 a f).f1.f6) ((rd_T32 a f).f1.f7)) else (spec_l07Best.l0 k a b c d e (wrap64 (f + 1)) g h i j l m n o p)) else (spec_l07Best.l0 k a b c d true (wrap64 (f + 1)) ((rd_T32 a f).f0) ((rd_T32 a f).f1.f0) ((rd_T32 a f).f1.f1) ((rd_T32 a f).f1.f2) ((rd_T32 a f).f1.f3) ((rd_T32 a f).f1.f4) ((rd_T32 a f).f1.f5) ((rd_T32 a f).f1.f6) ((rd_T32 a f).f1.f7))) else (spec_l07Best.l0 k a b c d e (wrap64 (f + 1)) g h i j l m n o p)) else (spec_l07Best.l0 k a b c d e (wrap64 (f + 1)) g h i j l m n o p)) else (spec_l07Best.l0 k a b c d e (wrap64 (f + 1)) g h i j l m n o p)) else (none)) else (some (g, h, i, j, l, m, n, o, p, e))
def spec_l07Best.f (k : Nat) (l0 : List (S32)) (a1 : Int) (a2 : Int) (a3 : Int) : Option (Int × Int × Int × Int × Int × Int × ByteArray × ByteArray × ByteArray × Bool) := spec_l07Best.l0 k l0 a1 a2 a3 false 0 0 0 0 0 0 0 (⟨#[]⟩ : ByteArray) (⟨#[]⟩ : ByteArray) (⟨#[]⟩ : ByteArray)
theorem spec_l07Best.mono_l : ∀ k, (∀ y0 y1 y2 y3 y4 y5 y6 y7 y8 y9 y10 y11 y12 y13 y14, LeO (spec_l07Best.l0 k y0 y1 y2 y3 y4 y5 y6 y7 y8 y9 y10 y11 y12 y13 y14) (spec_l07Best.l0 (k + 1) y0 y1 y2 y3 y4 y5 y6 y7 y8 y9 y10 y11 y12 y13 y14))
 | 0 => fun _ _ _ _ _ _ _ _ _ _ _ _ _ _ _ r h => by simp [spec_l07Best.l0] at h
 | k + 1 => by
  have ih0 := spec_l07Best.mono_l k
  ·intro y0 y1 y2 y3 y4 y5 y6 y7 y8 y9 y10 y11 y12 y13 y14
   unfold spec_l07Best.l0
   repeat' with_reducible first | exact ih0 _ _ _ _ _ _ _ _ _ _ _ _ _ _ _ | exact LeO.refl _ | exact LeO.none _ | refine LeO.ite ?_ ?_ | refine LeO.bind ?_ (fun _ => ?_)
theorem spec_l07Best.mono : ∀ a0 a1 a2 a3 k, LeO (spec_l07Best.f k a0 a1 a2 a3) (spec_l07Best.f (k + 1) a0 a1 a2 a3) := by
 intro a0 a1 a2 a3 k
 have ih0 := spec_l07Best.mono_l k
 unfold spec_l07Best.f
 repeat' with_reducible first | exact ih0 _ _ _ _ _ _ _ _ _ _ _ _ _ _ _ | exact LeO.refl _ | exact LeO.none _ | refine LeO.ite ?_ ?_ | refine LeO.bind ?_ (fun _ => ?_)
theorem spec_l07Best.calls (k : Nat) (A0 : Option Addr) (c0 : Nat) (l0 : List (S32)) (a1 : Int) (a2 : Int) (a3 : Int) (r1 : Int) (r2 : Int) (r3 : Int) (r4 : Int) (r5 : Int) (r6 : Int) (r7 : ByteArray) (r8 : ByteArray) (r9 : ByteArray) (r10 : Bool) (w : World) (hr0 : Kd.C k32 w A0 l0.length l0) (hc0 : l0.length ≤ c0) (h : spec_l07Best.f k l0 a1 a2 a3 = some (r1, r2, r3, r4, r5, r6, r7, r8, r9, r10)) :
  Calls Try.prog 80 #[.slice A0 l0.length c0, .int .i64 a1, .int .i64 a2, .int .i64 a3] w fun e w' => e = .returned (.tuple #[.agg #[.int .i64 r1, .int .i64 r2, .int .i64 r3, .int .i64 r4, .int .i64 r5, .int .i64 r6, .string r7, .string r8, .string r9], .bool r10]) ∧ Below w.heap.size w w' := by
 have hu32 := Try.underlying32
 have HR0 := Aside0.mk hr0
 have HC0 := Aside0.mk hc0
 clear hr0 hc0
 have HB := ak (Below.refl w.heap.size w)
 have H := h
 clear h
 unfold spec_l07Best.f at H
 have H' := Aside0.mk H
 clear H
 go_enter Try.func80, Try.ntmps80
 go_wp2_with (first | ((with_reducible refine gate_dst (N := 8) rfl ?_); refine bx 8 #[.int .i64 0, .int .i64 0, .int .i64 0, .int .i64 0, .int .i64 0, .int .i64 0, .string (⟨#[]⟩ : ByteArray), .string (⟨#[]⟩ : ByteArray), .string (⟨#[]⟩ : ByteArray)] 32 ?_; intro gb361 hg w5 hbox hb; replace BK361 := ak (hbox); replace GE361 := ak (bz hg (lG HB)); replace HB := lB HB hb; clear hb hbox hg) | ((with_reducible refine gate_dst (N := 10) rfl ?_); refine bx 10 #[.int .i64 0, .int .i64 0, .int .i64 0, .int .i64 0, .int .i64 0, .int .i64 0, .string (⟨#[]⟩ : ByteArray), .string (⟨#[]⟩ : ByteArray), .string (⟨#[]⟩ : ByteArray)] 32 ?_; intro gb362 hg w6 hbox hb; replace BK362 := ak (hbox); replace GW362 := ak (bz hg (lT HB (gC GE361 gN))); replace GE362 := ak (bz hg (lT HB (gC GE361 gN))); replace HB := ak (below_step (lT HB (gC GE361 gN)) hb); replace NB361_362 := ak (nl hg (bG BK361)); replace NB362_361 := ak (ng hg (bG BK361)); replace BK361 := bB BK361 hb; clear hb hbox hg; have hnb7 := NB362_361.out; have hnc7 := NB361_362.out; obtain ⟨hcz8_0, hcz8_1, hcz8_2, hcz8_3, hcz8_4, hcz8_5, hcz8_6, hcz8_7, hcz8_8, hfz8_0, hfz8_1, hfz8_2, hfz8_3, hfz8_4, hfz8_5, hfz8_6, hfz8_7, hfz8_8⟩ := bC9 BK362))
 go_loopg [11, 12] k (fun kq v11 v12 w' => ∃ (x11_1 : Bool) (x12_1 : Int) (x363000_1 : Int) (x363001_1 : Int) (x363002_1 : Int) (x363003_1 : Int) (x363004_1 : Int) (x363005_1 : Int) (x363006_1 : ByteArray) (x363007_1 : ByteArray) (x363008_1 : ByteArray), v11 = .bool x11_1 ∧ v12 = .int .i64 x12_1 ∧ Aside0 (spec_l07Best.l0 kq l0 a1 a2 a3 x11_1 x12_1 x363000_1 x363001_1 x363002_1 x363003_1 x363004_1 x363005_1 x363006_1 x363007_1 x363008_1 = some (r1, r2, r3, r4, r5, r6, r7, r8, r9, r10)) ∧ Aside0 (kq ≤ k) ∧ Aside0 (w'.heap[gb361]? = some (.cells #[.int .i64 0, .int .i64 0, .int .i64 0, .int .i64 0, .int .i64 0, .int .i64 0, .string (⟨#[]⟩ : ByteArray), .string (⟨#[]⟩ : ByteArray), .string (⟨#[]⟩ : ByteArray)] 32 (0, 0))) ∧ Aside0 (w'.heap[gb362]? = some (.cells #[.int .i64 x363000_1, .int .i64 x363001_1, .int .i64 x363002_1, .int .i64 x363003_1, .int .i64 x363004_1, .int .i64 x363005_1, .string x363006_1, .string x363007_1, .string x363008_1] 32 (0, 0))) ∧ Aside0 (Below w.heap.size w w'))
 case atStart => exact ⟨_, _, _, _, _, _, _, _, _, _, _, rr, rr, H', ⟨Nat.le_refl _⟩, ⟨bF BK361 (nC NB361_362 nN)⟩, ⟨bW BK362⟩, ⟨by exact lT HB (gC GE361 (gC GE362 gN))⟩⟩
 case round =>
  skip;{
 clear H'
 try clear hcz8_0 hcz8_1 hcz8_2 hcz8_3 hcz8_4 hcz8_5 hcz8_6 hcz8_7 hcz8_8 hfz8_0 hfz8_1 hfz8_2 hfz8_3 hfz8_4 hfz8_5 hfz8_6 hfz8_7 hfz8_8
 obtain ⟨x11_1, x12_1, x363000_1, x363001_1, x363002_1, x363003_1, x363004_1, x363005_1, x363006_1, x363007_1, x363008_1, rfl, rfl, HA, HK1, BK361, BK362, HB⟩ := hrel
 cases gk with
 | zero => exact absurd HA.out (by simp [spec_l07Best.l0])
 | succ k1 =>
  skip;{
 have H := HA.out
 clear HA
 simp only [spec_l07Best.l0] at H
 by_cases c9 : x12_1 < (l0.length : Int)
 {
 rw [if_pos c9] at H
 have c9b0 := decide_eq_true c9
 clear c9
 by_cases c10 : 0 ≤ x12_1
 {
 rw [if_pos c10] at H
 have c10b0 := decide_eq_true c10
 clear c10
 by_cases c11 : ((rd_T32 l0 x12_1).f1.f0) = a1
 {
 rw [if_pos c11] at H
 have c11b0 := beq_iff_eq.mpr c11
 have c11b1 := bne_eq_false_iff_eq.mpr c11
 clear c11
 by_cases c12 : ((rd_T32 l0 x12_1).f1.f1) = a2
 {
 rw [if_pos c12] at H
 have c12b0 := beq_iff_eq.mpr c12
 have c12b1 := bne_eq_false_iff_eq.mpr c12
 clear c12
 by_cases c13 : ((rd_T32 l0 x12_1).f1.f2) = a3
 {
 rw [if_pos c13] at H
 have c13b0 := beq_iff_eq.mpr c13
 have c13b1 := bne_eq_false_iff_eq.mpr c13
 clear c13
 by_cases c14 : x11_1 = true
 {
 subst c14
 rw [if_pos rfl] at H
 by_cases c15 : ((rd_T32 l0 x12_1).f0) > x363000_1
 {
 rw [if_pos c15] at H
 have c15b0 : decide (x363000_1 < ((rd_T32 l0 x12_1).f0)) = true := decide_eq_true c15
 clear c15
 have H' := Aside0.mk H
 clear H
 have p363 : 0 ≤ (x12_1 : Int) := oda
 have q363 : x12_1 < (l0.length : Int) := oda
 obtain ⟨ad363, e363, hx363_0, hx363_1, hx363_2, hx363_3, hx363_4, hx363_5, hx363_6, hx363_7, hx363_8⟩ := at_T32 HR0.out x12_1 p363 q363
 cases e363
 replace hx363_0 := clB HB hx363_0
 replace hx363_1 := clB HB hx363_1
 replace hx363_2 := clB HB hx363_2
 replace hx363_3 := clB HB hx363_3
 replace hx363_4 := clB HB hx363_4
 replace hx363_5 := clB HB hx363_5
 replace hx363_6 := clB HB hx363_6
 replace hx363_7 := clB HB hx363_7
 replace hx363_8 := clB HB hx363_8
 replace p363 := eq_true p363
 replace q363 := eq_true q363
 go_wp2_with ((with_reducible refine gate_dst (N := 13) rfl ?_); refine bx 13 #[.int .i64 0, .int .i64 0, .int .i64 0, .int .i64 0, .int .i64 0, .int .i64 0, .string (⟨#[]⟩ : ByteArray), .string (⟨#[]⟩ : ByteArray), .string (⟨#[]⟩ : ByteArray)] 32 ?_; intro gb364 hg w16 hbox hb; replace BK364 := ak (hbox); replace GW364 := ak (bz hg (lT HB (gC GE361 (gC GE362 gN)))); replace GE364 := ak (bz hg (lT HB (gC GE361 (gC GE362 gN)))); replace HB := ak (below_step (lT HB (gC GE361 (gC GE362 gN))) hb); replace NB361_364 := ak (nl hg (bG BK361)); replace NB364_361 := ak (ng hg (bG BK361)); replace BK361 := bB BK361 hb; replace NB362_364 := ak (nl hg (bG BK362)); replace NB364_362 := ak (ng hg (bG BK362)); replace BK362 := bB BK362 hb; clear hb hbox hg; have hnb17 := NB364_361.out; have hnc17 := NB361_364.out; have hnb18 := NB364_362.out; have hnc18 := NB362_364.out; obtain ⟨_, _, _, _, _, _, _, _, _, _, _, _, _, _, _, _, _, _⟩ := bC9 BK364; have hnb20 := NB362_361.out; have hnc20 := NB361_362.out; obtain ⟨_, _, _, _, _, _, _, _, _, _, _, _, _, _, _, _, _, _⟩ := bC9 BK362)
 go_roundg k1
 case measure => have := HK1.out; omega
 case rel => exact ⟨_, _, _, _, _, _, _, _, _, _, _, rr, rr, H', ⟨by have := HK1.out; omega⟩, ⟨bF BK361 (nC NB361_362 (nC NB361_364 nN))⟩, ⟨bF BK362 (nC NB362_364 nN)⟩, ⟨by exact lT HB (gC GE361 (gC GE362 (gC GE364 gN)))⟩⟩
 }
 {
 rw [if_neg c15] at H
 have c15b0 : decide (x363000_1 < ((rd_T32 l0 x12_1).f0)) = false := decide_eq_false c15
 clear c15
 have H' := Aside0.mk H
 clear H
 have p363 : 0 ≤ (x12_1 : Int) := oda
 have q363 : x12_1 < (l0.length : Int) := oda
 obtain ⟨ad363, e363, hx363_0, hx363_1, hx363_2, hx363_3, hx363_4, hx363_5, hx363_6, hx363_7, hx363_8⟩ := at_T32 HR0.out x12_1 p363 q363
 cases e363
 replace hx363_0 := clB HB hx363_0
 replace hx363_1 := clB HB hx363_1
 replace hx363_2 := clB HB hx363_2
 replace hx363_3 := clB HB hx363_3
 replace hx363_4 := clB HB hx363_4
 replace hx363_5 := clB HB hx363_5
 replace hx363_6 := clB HB hx363_6
 replace hx363_7 := clB HB hx363_7
 replace hx363_8 := clB HB hx363_8
 replace p363 := eq_true p363
 replace q363 := eq_true q363
 go_wp2_with ((with_reducible refine gate_dst (N := 13) rfl ?_); refine bx 13 #[.int .i64 0, .int .i64 0, .int .i64 0, .int .i64 0, .int .i64 0, .int .i64 0, .string (⟨#[]⟩ : ByteArray), .string (⟨#[]⟩ : ByteArray), .string (⟨#[]⟩ : ByteArray)] 32 ?_; intro gb364 hg w22 hbox hb; replace BK364 := ak (hbox); replace GW364 := ak (bz hg (lT HB (gC GE361 (gC GE362 gN)))); replace GE364 := ak (bz hg (lT HB (gC GE361 (gC GE362 gN)))); replace HB := ak (below_step (lT HB (gC GE361 (gC GE362 gN))) hb); replace NB361_364 := ak (nl hg (bG BK361)); replace NB364_361 := ak (ng hg (bG BK361)); replace BK361 := bB BK361 hb; replace NB362_364 := ak (nl hg (bG BK362)); replace NB364_362 := ak (ng hg (bG BK362)); replace BK362 := bB BK362 hb; clear hb hbox hg; have hnb23 := NB364_361.out; have hnc23 := NB361_364.out; have hnb24 := NB364_362.out; have hnc24 := NB362_364.out; obtain ⟨_, _, _, _, _, _, _, _, _, _, _, _, _, _, _, _, _, _⟩ := bC9 BK364; have hnb26 := NB362_361.out; have hnc26 := NB361_362.out; obtain ⟨_, _, _, _, _, _, _, _, _, _, _, _, _, _, _, _, _, _⟩ := bC9 BK362)
 go_roundg k1
 case measure => have := HK1.out; omega
 case rel => exact ⟨_, _, _, _, _, _, _, _, _, _, _, rr, rr, H', ⟨by have := HK1.out; omega⟩, ⟨bF BK361 (nC NB361_364 nN)⟩, ⟨bF BK362 (nC NB362_364 nN)⟩, ⟨by exact lT HB (gC GE361 (gC GE362 (gC GE364 gN)))⟩⟩
 }
 }
 {
 replace c14 := Bool.eq_false_iff.mpr c14
 subst c14
 rw [if_neg (show ¬ (false = true) by decide)] at H
 have H' := Aside0.mk H
 clear H
 have p363 : 0 ≤ (x12_1 : Int) := oda
 have q363 : x12_1 < (l0.length : Int) := oda
 obtain ⟨ad363, e363, hx363_0, hx363_1, hx363_2, hx363_3, hx363_4, hx363_5, hx363_6, hx363_7, hx363_8⟩ := at_T32 HR0.out x12_1 p363 q363
 cases e363
 replace hx363_0 := clB HB hx363_0
 replace hx363_1 := clB HB hx363_1
 replace hx363_2 := clB HB hx363_2
 replace hx363_3 := clB HB hx363_3
 replace hx363_4 := clB HB hx363_4
 replace hx363_5 := clB HB hx363_5
 replace hx363_6 := clB HB hx363_6
 replace hx363_7 := clB HB hx363_7
 replace hx363_8 := clB HB hx363_8
 replace p363 := eq_true p363
 replace q363 := eq_true q363
 go_wp2_with ((with_reducible refine gate_dst (N := 13) rfl ?_); refine bx 13 #[.int .i64 0, .int .i64 0, .int .i64 0, .int .i64 0, .int .i64 0, .int .i64 0, .string (⟨#[]⟩ : ByteArray), .string (⟨#[]⟩ : ByteArray), .string (⟨#[]⟩ : ByteArray)] 32 ?_; intro gb364 hg w28 hbox hb; replace BK364 := ak (hbox); replace GW364 := ak (bz hg (lT HB (gC GE361 (gC GE362 gN)))); replace GE364 := ak (bz hg (lT HB (gC GE361 (gC GE362 gN)))); replace HB := ak (below_step (lT HB (gC GE361 (gC GE362 gN))) hb); replace NB361_364 := ak (nl hg (bG BK361)); replace NB364_361 := ak (ng hg (bG BK361)); replace BK361 := bB BK361 hb; replace NB362_364 := ak (nl hg (bG BK362)); replace NB364_362 := ak (ng hg (bG BK362)); replace BK362 := bB BK362 hb; clear hb hbox hg; have hnb29 := NB364_361.out; have hnc29 := NB361_364.out; have hnb30 := NB364_362.out; have hnc30 := NB362_364.out; obtain ⟨_, _, _, _, _, _, _, _, _, _, _, _, _, _, _, _, _, _⟩ := bC9 BK364; have hnb32 := NB362_361.out; have hnc32 := NB361_362.out; obtain ⟨_, _, _, _, _, _, _, _, _, _, _, _, _, _, _, _, _, _⟩ := bC9 BK362)
 go_roundg k1
 case measure => have := HK1.out; omega
 case rel => exact ⟨_, _, _, _, _, _, _, _, _, _, _, rr, rr, H', ⟨by have := HK1.out; omega⟩, ⟨bF BK361 (nC NB361_362 (nC NB361_364 nN))⟩, ⟨bF BK362 (nC NB362_364 nN)⟩, ⟨by exact lT HB (gC GE361 (gC GE362 (gC GE364 gN)))⟩⟩
 }
 }
 {
 rw [if_neg c13] at H
 have c13b0 := beq_eq_false_iff_ne.mpr c13
 have c13b1 := bne_iff_ne.mpr c13
 have H' := Aside0.mk H
 clear H
 have p363 : 0 ≤ (x12_1 : Int) := oda
 have q363 : x12_1 < (l0.length : Int) := oda
 obtain ⟨ad363, e363, hx363_0, hx363_1, hx363_2, hx363_3, hx363_4, hx363_5, hx363_6, hx363_7, hx363_8⟩ := at_T32 HR0.out x12_1 p363 q363
 cases e363
 replace hx363_0 := clB HB hx363_0
 replace hx363_1 := clB HB hx363_1
 replace hx363_2 := clB HB hx363_2
 replace hx363_3 := clB HB hx363_3
 replace hx363_4 := clB HB hx363_4
 replace hx363_5 := clB HB hx363_5
 replace hx363_6 := clB HB hx363_6
 replace hx363_7 := clB HB hx363_7
 replace hx363_8 := clB HB hx363_8
 replace p363 := eq_true p363
 replace q363 := eq_true q363
 go_wp2_with ((with_reducible refine gate_dst (N := 13) rfl ?_); refine bx 13 #[.int .i64 0, .int .i64 0, .int .i64 0, .int .i64 0, .int .i64 0, .int .i64 0, .string (⟨#[]⟩ : ByteArray), .string (⟨#[]⟩ : ByteArray), .string (⟨#[]⟩ : ByteArray)] 32 ?_; intro gb364 hg w34 hbox hb; replace BK364 := ak (hbox); replace GW364 := ak (bz hg (lT HB (gC GE361 (gC GE362 gN)))); replace GE364 := ak (bz hg (lT HB (gC GE361 (gC GE362 gN)))); replace HB := ak (below_step (lT HB (gC GE361 (gC GE362 gN))) hb); replace NB361_364 := ak (nl hg (bG BK361)); replace NB364_361 := ak (ng hg (bG BK361)); replace BK361 := bB BK361 hb; replace NB362_364 := ak (nl hg (bG BK362)); replace NB364_362 := ak (ng hg (bG BK362)); replace BK362 := bB BK362 hb; clear hb hbox hg; have hnb35 := NB364_361.out; have hnc35 := NB361_364.out; have hnb36 := NB364_362.out; have hnc36 := NB362_364.out; obtain ⟨_, _, _, _, _, _, _, _, _, _, _, _, _, _, _, _, _, _⟩ := bC9 BK364)
 go_roundg k1
 case measure => have := HK1.out; omega
 case rel => exact ⟨_, _, _, _, _, _, _, _, _, _, _, rr, rr, H', ⟨by have := HK1.out; omega⟩, ⟨bF BK361 (nC NB361_364 nN)⟩, ⟨bF BK362 (nC NB362_364 nN)⟩, ⟨by exact lT HB (gC GE361 (gC GE362 (gC GE364 gN)))⟩⟩
 }
 }
 {
 rw [if_neg c12] at H
 have c12b0 := beq_eq_false_iff_ne.mpr c12
 have c12b1 := bne_iff_ne.mpr c12
 have H' := Aside0.mk H
 clear H
 have p363 : 0 ≤ (x12_1 : Int) := oda
 have q363 : x12_1 < (l0.length : Int) := oda
 obtain ⟨ad363, e363, hx363_0, hx363_1, hx363_2, hx363_3, hx363_4, hx363_5, hx363_6, hx363_7, hx363_8⟩ := at_T32 HR0.out x12_1 p363 q363
 cases e363
 replace hx363_0 := clB HB hx363_0
 replace hx363_1 := clB HB hx363_1
 replace hx363_2 := clB HB hx363_2
 replace hx363_3 := clB HB hx363_3
 replace hx363_4 := clB HB hx363_4
 replace hx363_5 := clB HB hx363_5
 replace hx363_6 := clB HB hx363_6
 replace hx363_7 := clB HB hx363_7
 replace hx363_8 := clB HB hx363_8
 replace p363 := eq_true p363
 replace q363 := eq_true q363
 go_wp2_with ((with_reducible refine gate_dst (N := 13) rfl ?_); refine bx 13 #[.int .i64 0, .int .i64 0, .int .i64 0, .int .i64 0, .int .i64 0, .int .i64 0, .string (⟨#[]⟩ : ByteArray), .string (⟨#[]⟩ : ByteArray), .string (⟨#[]⟩ : ByteArray)] 32 ?_; intro gb364 hg w38 hbox hb; replace BK364 := ak (hbox); replace GW364 := ak (bz hg (lT HB (gC GE361 (gC GE362 gN)))); replace GE364 := ak (bz hg (lT HB (gC GE361 (gC GE362 gN)))); replace HB := ak (below_step (lT HB (gC GE361 (gC GE362 gN))) hb); replace NB361_364 := ak (nl hg (bG BK361)); replace NB364_361 := ak (ng hg (bG BK361)); replace BK361 := bB BK361 hb; replace NB362_364 := ak (nl hg (bG BK362)); replace NB364_362 := ak (ng hg (bG BK362)); replace BK362 := bB BK362 hb; clear hb hbox hg; have hnb39 := NB364_361.out; have hnc39 := NB361_364.out; have hnb40 := NB364_362.out; have hnc40 := NB362_364.out; obtain ⟨_, _, _, _, _, _, _, _, _, _, _, _, _, _, _, _, _, _⟩ := bC9 BK364)
 go_roundg k1
 case measure => have := HK1.out; omega
 case rel => exact ⟨_, _, _, _, _, _, _, _, _, _, _, rr, rr, H', ⟨by have := HK1.out; omega⟩, ⟨bF BK361 (nC NB361_364 nN)⟩, ⟨bF BK362 (nC NB362_364 nN)⟩, ⟨by exact lT HB (gC GE361 (gC GE362 (gC GE364 gN)))⟩⟩
 }
 }
 {
 rw [if_neg c11] at H
 have c11b0 := beq_eq_false_iff_ne.mpr c11
 have c11b1 := bne_iff_ne.mpr c11
 have H' := Aside0.mk H
 clear H
 have p363 : 0 ≤ (x12_1 : Int) := oda
 have q363 : x12_1 < (l0.length : Int) := oda
 obtain ⟨ad363, e363, hx363_0, hx363_1, hx363_2, hx363_3, hx363_4, hx363_5, hx363_6, hx363_7, hx363_8⟩ := at_T32 HR0.out x12_1 p363 q363
 cases e363
 replace hx363_0 := clB HB hx363_0
 replace hx363_1 := clB HB hx363_1
 replace hx363_2 := clB HB hx363_2
 replace hx363_3 := clB HB hx363_3
 replace hx363_4 := clB HB hx363_4
 replace hx363_5 := clB HB hx363_5
 replace hx363_6 := clB HB hx363_6
 replace hx363_7 := clB HB hx363_7
 replace hx363_8 := clB HB hx363_8
 replace p363 := eq_true p363
 replace q363 := eq_true q363
 go_wp2_with ((with_reducible refine gate_dst (N := 13) rfl ?_); refine bx 13 #[.int .i64 0, .int .i64 0, .int .i64 0, .int .i64 0, .int .i64 0, .int .i64 0, .string (⟨#[]⟩ : ByteArray), .string (⟨#[]⟩ : ByteArray), .string (⟨#[]⟩ : ByteArray)] 32 ?_; intro gb364 hg w42 hbox hb; replace BK364 := ak (hbox); replace GW364 := ak (bz hg (lT HB (gC GE361 (gC GE362 gN)))); replace GE364 := ak (bz hg (lT HB (gC GE361 (gC GE362 gN)))); replace HB := ak (below_step (lT HB (gC GE361 (gC GE362 gN))) hb); replace NB361_364 := ak (nl hg (bG BK361)); replace NB364_361 := ak (ng hg (bG BK361)); replace BK361 := bB BK361 hb; replace NB362_364 := ak (nl hg (bG BK362)); replace NB364_362 := ak (ng hg (bG BK362)); replace BK362 := bB BK362 hb; clear hb hbox hg; have hnb43 := NB364_361.out; have hnc43 := NB361_364.out; have hnb44 := NB364_362.out; have hnc44 := NB362_364.out; obtain ⟨_, _, _, _, _, _, _, _, _, _, _, _, _, _, _, _, _, _⟩ := bC9 BK364)
 go_roundg k1
 case measure => have := HK1.out; omega
 case rel => exact ⟨_, _, _, _, _, _, _, _, _, _, _, rr, rr, H', ⟨by have := HK1.out; omega⟩, ⟨bF BK361 (nC NB361_364 nN)⟩, ⟨bF BK362 (nC NB362_364 nN)⟩, ⟨by exact lT HB (gC GE361 (gC GE362 (gC GE364 gN)))⟩⟩
 }
 }
 {rw [if_neg c10] at H;exact absurd H (by simp)}
 }
 {
 rw [if_neg c9] at H
 have c9b0 := decide_eq_false c9
 clear c9
 simp only [Option.some.injEq, Prod.mk.injEq] at H
 obtain ⟨rfl, rfl, rfl, rfl, rfl, rfl, rfl, rfl, rfl, rfl⟩ := H
 have hnb46 := NB362_361.out
 have hnc46 := NB361_362.out
 obtain ⟨_, _, _, _, _, _, _, _, _, _, _, _, _, _, _, _, _, _⟩ := bC9 BK362
 obtain ⟨_, _, _, _, _, _, _, _, _, _, _, _, _, _, _, _, _, _⟩ := bC9 BK361
 go_wp2
 refine bodyPost_ret (results_ct rfl _ _ gb361 32 #[.int .i64 x363000_1, .int .i64 x363001_1, .int .i64 x363002_1, .int .i64 x363003_1, .int .i64 x363004_1, .int .i64 x363005_1, .string x363006_1, .string x363007_1, .string x363008_1] (0, 0) _ rfl (bW BK361) Try.underlying32 rfl (by kernel_rfl)) rfl ?_
 exact ⟨ew, by exact lT HB (gC GE361 (gC GE362 gN))⟩
 }
 }
 }
end Go.Proofs.Ytagkjeldheiejaa.PFnStates
