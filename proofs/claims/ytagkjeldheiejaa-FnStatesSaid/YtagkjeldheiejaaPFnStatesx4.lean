-- Written by a program of mine (a turned copy of the kit's print): functions as plain Lean, their contracts.
import Derived.Test.YtagkjeldheiejaaPFnStatesx3
import Derived.Test.YtagkjeldheiejaaVFnStates1
namespace Go.Proofs.Ytagkjeldheiejaa.PFnStates
open Go.RowKit Go.Proofs.YtagkjeldheiejaaW.PrintWords Go.Proofs.YtagkjeldheiejaaW.PrintLast Go.Proofs.YtagkjeldheiejaaW.PrintMore
attribute [local go_sem] max2_int min2_int max_two min_two max_three min_three max_four min_four   -- for this text's walks alone
set_option maxHeartbeats 8000000
set_option maxRecDepth 100000
set_option linter.unusedVariables false
set_option linter.unusedSimpArgs false
/-! ### impl_WordOk: function 31 -/
def impl_WordOk.l0 : Nat → ByteArray → Int → Int → Option (Bool)
 | 0, _, _, _ => none
 | k + 1, a, b, c => if c < b then (if 0 ≤ c then (if c < (a.size : Int) then (if (bt a c) < 97 then (some false) else (if (bt a c) > 122 then (some false) else (impl_WordOk.l0 k a b (wrap64 (c + 1))))) else (none)) else (none)) else (some true)
def impl_WordOk.f (k : Nat) (a0 : ByteArray) : Option (Bool) := (impl_in.f (a0.size : Int) 1 8).bind fun t219 => (if t219 = true then (impl_WordOk.l0 k a0 (a0.size : Int) 0) else (some false))
theorem impl_WordOk.mono_l : ∀ k, (∀ y0 y1 y2, LeO (impl_WordOk.l0 k y0 y1 y2) (impl_WordOk.l0 (k + 1) y0 y1 y2))
 | 0 => fun _ _ _ r h => by simp [impl_WordOk.l0] at h
 | k + 1 => by
  have ih0 := impl_WordOk.mono_l k
  ·intro y0 y1 y2
   unfold impl_WordOk.l0
   repeat' with_reducible first | exact ih0 _ _ _ | exact LeO.refl _ | exact LeO.none _ | refine LeO.ite ?_ ?_ | refine LeO.bind ?_ (fun _ => ?_)
theorem impl_WordOk.mono : ∀ a0 k, LeO (impl_WordOk.f k a0) (impl_WordOk.f (k + 1) a0) := by
 intro a0 k
 have ih0 := impl_WordOk.mono_l k
 unfold impl_WordOk.f
 repeat' with_reducible first | exact ih0 _ _ _ | exact LeO.refl _ | exact LeO.none _ | refine LeO.ite ?_ ?_ | refine LeO.bind ?_ (fun _ => ?_)
theorem impl_WordOk.calls (k : Nat) (a0 : ByteArray) (r : Bool) (w : World) (h : impl_WordOk.f k a0 = some r) :
  Calls Try.prog 31 #[.string a0] w fun e w' => e = .returned (.bool r) ∧ Drawn0 w w' := by
 have H := h
 clear h
 unfold impl_WordOk.f at H
 obtain ⟨t219, A2, H⟩ := eb H
 try dsimp only at H
 have HS_ := Aside0.mk H
 clear H
 go_enter Try.func31, Try.ntmps31
 go_wp2_with ((with_reducible refine gate_callee (f := 63) rfl ?_); refine gl (some 6) Try.func63 #[.int .i64 (a0.size : Int), .int .i64 1, .int .i64 8] ?_; (with_reducible refine (impl_in.calls (a0.size : Int) 1 8 _ _ A2.out).mono ?_); rintro e w' ⟨rfl, ⟨nd, rfl⟩⟩; refine ⟨_, rfl, ?_⟩; refine Stop.out ?_)
 have H := HS_.out
 clear HS_
 by_cases c3 : t219 = true
 {
 subst c3
 rw [if_pos rfl] at H
 have H' := Aside0.mk H
 clear H
 refine ⟨?_⟩
 go_wp2
 go_loopg [10] k (fun kq v10 w' => ∃ (x10_1 : Int), v10 = .int .i64 x10_1 ∧ Aside0 (impl_WordOk.l0 kq a0 (a0.size : Int) x10_1 = some r) ∧ Aside0 (kq ≤ k) ∧ Drawn0 w w')
 case atStart => exact ⟨_, rr, H', ⟨Nat.le_refl _⟩, by repeat (first | exact Drawn0.refl _ | apply Drawn0.step)⟩
 case round =>
  skip;{
 clear H'
 try clear c3
 obtain ⟨x10_1, rfl, HA, HK1, ⟨m1, rfl⟩⟩ := hrel
 cases gk with
 | zero => exact absurd HA.out (by simp [impl_WordOk.l0])
 | succ k1 =>
  skip;{
 have H := HA.out
 clear HA
 simp only [impl_WordOk.l0] at H
 by_cases c4 : x10_1 < (a0.size : Int)
 {
 rw [if_pos c4] at H
 have c4b0 := decide_eq_true c4
 clear c4
 by_cases c5 : 0 ≤ x10_1
 {
 rw [if_pos c5] at H
 have c5b0 := decide_eq_true c5
 clear c5
 by_cases c6 : x10_1 < (a0.size : Int)
 {
 rw [if_pos c6] at H
 have c6b0 := decide_eq_true c6
 clear c6
 by_cases c8 : (bt a0 x10_1) < 97
 {
 rw [if_pos c8] at H
 have c8b0 := decide_eq_true c8
 clear c8
 obtain rfl := Option.some.inj H
 have p7 : 0 ≤ (x10_1 : Int) := oda
 have q7 : x10_1 < (a0.size : Int) := oda
 have hx7 := bt_at a0 x10_1
 replace p7 := eq_true p7
 replace q7 := eq_true q7
 go_wp2
 go_ret
 exact ⟨by first | rfl | (simp; done) | (simp [*]; done), by repeat (first | exact Drawn0.refl _ | apply Drawn0.step)⟩
 }
 {
 rw [if_neg c8] at H
 have c8b0 := decide_eq_false c8
 clear c8
 by_cases c10 : (bt a0 x10_1) > 122
 {
 rw [if_pos c10] at H
 have c10b0 : decide (122 < (bt a0 x10_1)) = true := decide_eq_true c10
 clear c10
 obtain rfl := Option.some.inj H
 have p7 : 0 ≤ (x10_1 : Int) := oda
 have q7 : x10_1 < (a0.size : Int) := oda
 have hx7 := bt_at a0 x10_1
 replace p7 := eq_true p7
 replace q7 := eq_true q7
 have p9 : 0 ≤ (x10_1 : Int) := oda
 have q9 : x10_1 < (a0.size : Int) := oda
 have hx9 := bt_at a0 x10_1
 replace p9 := eq_true p9
 replace q9 := eq_true q9
 go_wp2
 go_ret
 exact ⟨by first | rfl | (simp; done) | (simp [*]; done), by repeat (first | exact Drawn0.refl _ | apply Drawn0.step)⟩
 }
 {
 rw [if_neg c10] at H
 have c10b0 : decide (122 < (bt a0 x10_1)) = false := decide_eq_false c10
 clear c10
 have H' := Aside0.mk H
 clear H
 have p7 : 0 ≤ (x10_1 : Int) := oda
 have q7 : x10_1 < (a0.size : Int) := oda
 have hx7 := bt_at a0 x10_1
 replace p7 := eq_true p7
 replace q7 := eq_true q7
 have p9 : 0 ≤ (x10_1 : Int) := oda
 have q9 : x10_1 < (a0.size : Int) := oda
 have hx9 := bt_at a0 x10_1
 replace p9 := eq_true p9
 replace q9 := eq_true q9
 go_wp2
 go_roundg k1
 case measure => have := HK1.out; omega
 case rel => exact ⟨_, rr, H', ⟨by have := HK1.out; omega⟩, by repeat (first | exact Drawn0.refl _ | apply Drawn0.step)⟩
 }
 }
 }
 {rw [if_neg c6] at H;exact absurd H (by simp)}
 }
 {rw [if_neg c5] at H;exact absurd H (by simp)}
 }
 {
 rw [if_neg c4] at H
 have c4b0 := decide_eq_false c4
 clear c4
 obtain rfl := Option.some.inj H
 go_wp2
 go_ret
 exact ⟨by first | rfl | (simp; done) | (simp [*]; done), by repeat (first | exact Drawn0.refl _ | apply Drawn0.step)⟩
 }
 }
 }
 }
 {
 replace c3 := Bool.eq_false_iff.mpr c3
 subst c3
 rw [if_neg (show ¬ (false = true) by decide)] at H
 obtain rfl := Option.some.inj H
 refine ⟨?_⟩
 go_wp2
 go_ret
 exact ⟨by first | rfl | (simp; done) | (simp [*]; done), by repeat (first | exact Drawn0.refl _ | apply Drawn0.step)⟩
 }
end Go.Proofs.Ytagkjeldheiejaa.PFnStates
