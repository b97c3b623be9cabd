-- Written for this claim by a program of mine (a turned copy of the kit's print): functions as plain Lean, and their contracts. Lean checks it.
import Derived.Test.YtagkjeldheiejaaPFnExactReadRecx0
import Derived.Test.YtagkjeldheiejaaPFnExactReadRecx8
import Derived.Test.YtagkjeldheiejaaPFnExactReadRecx9
import Derived.Test.YtagkjeldheiejaaVFnExactReadRec1
namespace Go.Proofs.Ytagkjeldheiejaa.PFnExactReadRec
open Go.RowKit Go.Proofs.YtagkjeldheiejaaW.PrintWords Go.Proofs.YtagkjeldheiejaaW.PrintLast Go.Proofs.YtagkjeldheiejaaW.PrintMore
attribute [local go_sem] max2_int min2_int max_two min_two max_three min_three max_four min_four   -- for this text's walks alone
set_option linter.unusedVariables false
set_option linter.unusedSimpArgs false

/-! ### impl_ReadVar: function 56 -/
mutual
def impl_ReadVar.l0 : Nat → ByteArray → Int → Int → Int → Option (Int × Int × Bool)
 | 0, _, _, _, _ => none
 | k + 1, x0, x1, x7, x8 => if x8 < 5 then (impl_ReadVar.j1 k x0 x1 x7 x8 (decide ((wrap64 (x1 + x8)) < (x0.size : Int)))) else (impl_ReadVar.j1 k x0 x1 x7 x8 false)
def impl_ReadVar.j1 : Nat → ByteArray → Int → Int → Int → Bool → Option (Int × Int × Bool)
 | 0, _, _, _, _, _ => none
 | k + 1, x0, x1, x7, x8, x24 => if x24 = true then (if 0 ≤ (wrap64 (x1 + x8)) then (if (wrap64 (x1 + x8)) < (x0.size : Int) then (if 0 ≤ (wrap64 (7 * x8)) then (if (wrap64 (bt x0 (wrap64 (x1 + x8)))) > 127 then (impl_ReadVar.l0 k x0 x1 (Go.bits .or .i64 x7 (shl .i64 (Go.bits .and .i64 (wrap64 (bt x0 (wrap64 (x1 + x8)))) 127) (wrap64 (7 * x8)))) (wrap64 (x8 + 1))) else (if (wrap64 (bt x0 (wrap64 (x1 + x8)))) = 0 then (if x8 > 0 then (some (0, 0, false)) else (if (Go.bits .or .i64 x7 (shl .i64 (Go.bits .and .i64 (wrap64 (bt x0 (wrap64 (x1 + x8)))) 127) (wrap64 (7 * x8)))) > 1000000000 then (some (0, 0, false)) else (some (Go.bits .or .i64 x7 (shl .i64 (Go.bits .and .i64 (wrap64 (bt x0 (wrap64 (x1 + x8)))) 127) (wrap64 (7 * x8))), wrap64 ((wrap64 (x1 + x8)) + 1), true)))) else (if (Go.bits .or .i64 x7 (shl .i64 (Go.bits .and .i64 (wrap64 (bt x0 (wrap64 (x1 + x8)))) 127) (wrap64 (7 * x8)))) > 1000000000 then (some (0, 0, false)) else (some (Go.bits .or .i64 x7 (shl .i64 (Go.bits .and .i64 (wrap64 (bt x0 (wrap64 (x1 + x8)))) 127) (wrap64 (7 * x8))), wrap64 ((wrap64 (x1 + x8)) + 1), true))))) else (none)) else (none)) else (none)) else (some (0, 0, false))
end
def impl_ReadVar.f (k : Nat) (a0 : ByteArray) (a1 : Int) : Option (Int × Int × Bool) := (impl_in.f a1 0 (a0.size : Int)).bind fun t199 => (if t199 = true then (impl_ReadVar.l0 k a0 a1 0 0) else (some (0, 0, false)))
theorem impl_ReadVar.mono_l : ∀ k, (∀ y0 y1 y2 y3, LeO (impl_ReadVar.l0 k y0 y1 y2 y3) (impl_ReadVar.l0 (k + 1) y0 y1 y2 y3)) ∧ (∀ y0 y1 y2 y3 y4, LeO (impl_ReadVar.j1 k y0 y1 y2 y3 y4) (impl_ReadVar.j1 (k + 1) y0 y1 y2 y3 y4))
 | 0 => ⟨fun _ _ _ _ r h => by simp [impl_ReadVar.l0] at h, fun _ _ _ _ _ r h => by simp [impl_ReadVar.j1] at h⟩
 | k + 1 => by
  obtain ⟨ih0, ih1⟩ := impl_ReadVar.mono_l k
  refine ⟨?_, ?_⟩
  ·intro y0 y1 y2 y3
   unfold impl_ReadVar.l0
   repeat' first
   | (with_reducible exact ih0 _ _ _ _)
   | (with_reducible exact ih1 _ _ _ _ _)
   | (with_reducible exact LeO.refl _)
   | (with_reducible exact LeO.none _)
   | (with_reducible refine LeO.ite ?_ ?_)
   | (with_reducible refine LeO.bind ?_ (fun _ => ?_))
   | exact ih0 _ _ _ _
   | exact ih1 _ _ _ _ _
   | exact LeO.none _
   | refine LeO.ite ?_ ?_
   | refine LeO.bind ?_ (fun _ => ?_)
  ·intro y0 y1 y2 y3 y4
   unfold impl_ReadVar.j1
   repeat' first
   | (with_reducible exact ih0 _ _ _ _)
   | (with_reducible exact ih1 _ _ _ _ _)
   | (with_reducible exact LeO.refl _)
   | (with_reducible exact LeO.none _)
   | (with_reducible refine LeO.ite ?_ ?_)
   | (with_reducible refine LeO.bind ?_ (fun _ => ?_))
   | exact ih0 _ _ _ _
   | exact ih1 _ _ _ _ _
   | exact LeO.none _
   | refine LeO.ite ?_ ?_
   | refine LeO.bind ?_ (fun _ => ?_)
theorem impl_ReadVar.mono : ∀ a0 a1 k, LeO (impl_ReadVar.f k a0 a1) (impl_ReadVar.f (k + 1) a0 a1) := by
 intro a0 a1 k
 obtain ⟨ih0, ih1⟩ := impl_ReadVar.mono_l k
 unfold impl_ReadVar.f
 repeat' first
   | (with_reducible exact ih0 _ _ _ _)
   | (with_reducible exact ih1 _ _ _ _ _)
   | (with_reducible exact LeO.refl _)
   | (with_reducible exact LeO.none _)
   | (with_reducible refine LeO.ite ?_ ?_)
   | (with_reducible refine LeO.bind ?_ (fun _ => ?_))
   | exact ih0 _ _ _ _
   | exact ih1 _ _ _ _ _
   | exact LeO.none _
   | refine LeO.ite ?_ ?_
   | refine LeO.bind ?_ (fun _ => ?_)
set_option maxHeartbeats 8000000 in
set_option maxRecDepth 100000 in
theorem impl_ReadVar.calls (k : Nat) (a0 : ByteArray) (a1 : Int) (r1 : Int) (r2 : Int) (r3 : Bool) (w : World) (h : impl_ReadVar.f k a0 a1 = some (r1, r2, r3)) :
  Calls Try.prog 56 #[.string a0, .int .i64 a1] w fun e w' => e = .returned (.tuple #[.int .i64 r1, .int .i64 r2, .bool r3]) ∧ Drawn0 w w' := by
 have H : ((impl_in.f a1 0 (a0.size : Int)).bind fun t199 => (if t199 = true then (impl_ReadVar.l0 k a0 a1 0 0) else (some (0, 0, false)))) = some (r1, r2, r3) := h
 clear h
 replace H := Option.bind_eq_some_iff.mp H
 obtain ⟨t199, A30, H⟩ := H
 replace H : (if t199 = true then (impl_ReadVar.l0 k a0 a1 0 0) else (some (0, 0, false))) = some (r1, r2, r3) := H
 have A3 := Aside0.mk A30
 clear A30
 by_cases c4 : t199 = true
 ·subst c4
  have H1 : (impl_ReadVar.l0 k a0 a1 0 0) = some (r1, r2, r3) := by rw [if_pos rfl] at H; exact H
  clear H
  have H := H1
  clear H1
  have H' := Aside0.mk H
  clear H
  go_enter Try.func56, Try.ntmps56
  go_wp2_with (first | ((with_reducible refine gate_callee (f := 63) rfl ?_); refine gl (some 13) Try.func63 #[.int .i64 a1, .int .i64 0, .int .i64 (a0.size : Int)] ?_; (with_reducible refine (impl_in.calls a1 0 (a0.size : Int) true _ A3.out).mono ?_); rintro e w' ⟨rfl, ⟨nd, rfl⟩⟩; refine ⟨_, rfl, ?_⟩))
  go_loopg [7, 8] k (fun kq v7 v8 w' => ∃ (x7_1 : Int) (x8_1 : Int), v7 = .int .i64 x7_1 ∧ v8 = .int .i64 x8_1 ∧ Aside0 (impl_ReadVar.l0 kq a0 a1 x7_1 x8_1 = some (r1, r2, r3)) ∧ Aside0 (kq ≤ k) ∧ Drawn0 w w')
  case atStart => exact ⟨(0), (0), (by first | rfl | (simp; done) | (simp [*]; done)), (by first | rfl | (simp; done) | (simp [*]; done)), H', ⟨Nat.le_refl _⟩, by repeat (first | exact Drawn0.refl _ | apply Drawn0.step)⟩
  case round =>
   clear H'
   try clear p2
   try clear c4
   obtain ⟨x7_1, x8_1, rfl, rfl, HA, HK1, ⟨m1, rfl⟩⟩ := hrel
   cases gk with
   | zero => exact absurd HA.out (by simp [impl_ReadVar.l0])
   | succ k1 =>
    have H := HA.out
    clear HA
    simp only [impl_ReadVar.l0] at H
    have HC5 := Aside0.mk H
    clear H
    go_upto_region 5 with (fail)
    go_cut [24] (fun v24 wc => ∃ (kq : Nat) (x24_4 : Bool), v24 = .bool x24_4 ∧ Aside0 (impl_ReadVar.j1 kq a0 a1 x7_1 x8_1 x24_4 = some (r1, r2, r3)) ∧ Aside0 (kq ≤ k1) ∧ Drawn0 w wc)
    case first =>
     have H := HC5.out
     clear HC5
     by_cases c6 : x8_1 < 5
     ·rw [if_pos c6] at H
      have c6b0 : decide (x8_1 < 5) = true := decide_eq_true c6
      clear c6
      (first | rw [c6b0] | (simp only [i64_w, i32_w]; rw [c6b0]) | skip)
      have H' := Aside0.mk H
      clear H
      go_wp2
      go_meet
      case rel => exact ⟨_, (decide ((wrap64 (a1 + x8_1)) < (a0.size : Int))), (by first | rfl | (simp; done) | (simp [*]; done)), H', ⟨by have := HK1.out; first | omega | exact Nat.le_refl _⟩, by repeat (first | exact Drawn0.refl _ | apply Drawn0.step)⟩
     ·rw [if_neg c6] at H
      have c6b0 : decide (x8_1 < 5) = false := decide_eq_false c6
      clear c6
      (first | rw [c6b0] | (simp only [i64_w, i32_w]; rw [c6b0]) | skip)
      have H' := Aside0.mk H
      clear H
      go_wp2
      go_meet
      case rel => exact ⟨_, (false), (by first | rfl | (simp; done) | (simp [*]; done)), H', ⟨by have := HK1.out; first | omega | exact Nat.le_refl _⟩, by repeat (first | exact Drawn0.refl _ | apply Drawn0.step)⟩
    case rest =>
     clear HC5
     try clear p2
     try clear c4
     try clear c5
     try clear c6
     try clear c6b0
     try clear p6
     try clear p2
     obtain ⟨kq, x24_4, rfl, HA, HJ4, ⟨mc4, rfl⟩⟩ := hcut
     cases kq with
     | zero => exact absurd HA.out (by simp [impl_ReadVar.j1])
     | succ kj4 =>
      have H := HA.out
      clear HA
      simp only [impl_ReadVar.j1] at H
      by_cases c7 : x24_4 = true
      ·subst c7
       have H1 : (if 0 ≤ (wrap64 (a1 + x8_1)) then (if (wrap64 (a1 + x8_1)) < (a0.size : Int) then (if 0 ≤ (wrap64 (7 * x8_1)) then (if (wrap64 (bt a0 (wrap64 (a1 + x8_1)))) > 127 then (impl_ReadVar.l0 kj4 a0 a1 (Go.bits .or .i64 x7_1 (shl .i64 (Go.bits .and .i64 (wrap64 (bt a0 (wrap64 (a1 + x8_1)))) 127) (wrap64 (7 * x8_1)))) (wrap64 (x8_1 + 1))) else (if (wrap64 (bt a0 (wrap64 (a1 + x8_1)))) = 0 then (if x8_1 > 0 then (some (0, 0, false)) else (if (Go.bits .or .i64 x7_1 (shl .i64 (Go.bits .and .i64 (wrap64 (bt a0 (wrap64 (a1 + x8_1)))) 127) (wrap64 (7 * x8_1)))) > 1000000000 then (some (0, 0, false)) else (some (Go.bits .or .i64 x7_1 (shl .i64 (Go.bits .and .i64 (wrap64 (bt a0 (wrap64 (a1 + x8_1)))) 127) (wrap64 (7 * x8_1))), wrap64 ((wrap64 (a1 + x8_1)) + 1), true)))) else (if (Go.bits .or .i64 x7_1 (shl .i64 (Go.bits .and .i64 (wrap64 (bt a0 (wrap64 (a1 + x8_1)))) 127) (wrap64 (7 * x8_1)))) > 1000000000 then (some (0, 0, false)) else (some (Go.bits .or .i64 x7_1 (shl .i64 (Go.bits .and .i64 (wrap64 (bt a0 (wrap64 (a1 + x8_1)))) 127) (wrap64 (7 * x8_1))), wrap64 ((wrap64 (a1 + x8_1)) + 1), true))))) else (none)) else (none)) else (none)) = some (r1, r2, r3) := by rw [if_pos rfl] at H; exact H
       clear H
       have H := H1
       clear H1
       obtain ⟨ji8, hji8⟩ : ∃ j_ : Int, (wrap64 (a1 + x8_1)) = j_ := ⟨_, rfl⟩
       replace H : (if 0 ≤ (ji8) then (if (ji8) < (a0.size : Int) then (if 0 ≤ (wrap64 (7 * x8_1)) then (if (wrap64 (bt a0 (ji8))) > 127 then (impl_ReadVar.l0 kj4 a0 a1 (Go.bits .or .i64 x7_1 (shl .i64 (Go.bits .and .i64 (wrap64 (bt a0 (ji8))) 127) (wrap64 (7 * x8_1)))) (wrap64 (x8_1 + 1))) else (if (wrap64 (bt a0 (ji8))) = 0 then (if x8_1 > 0 then (some (0, 0, false)) else (if (Go.bits .or .i64 x7_1 (shl .i64 (Go.bits .and .i64 (wrap64 (bt a0 (ji8))) 127) (wrap64 (7 * x8_1)))) > 1000000000 then (some (0, 0, false)) else (some (Go.bits .or .i64 x7_1 (shl .i64 (Go.bits .and .i64 (wrap64 (bt a0 (ji8))) 127) (wrap64 (7 * x8_1))), wrap64 ((ji8) + 1), true)))) else (if (Go.bits .or .i64 x7_1 (shl .i64 (Go.bits .and .i64 (wrap64 (bt a0 (ji8))) 127) (wrap64 (7 * x8_1)))) > 1000000000 then (some (0, 0, false)) else (some (Go.bits .or .i64 x7_1 (shl .i64 (Go.bits .and .i64 (wrap64 (bt a0 (ji8))) 127) (wrap64 (7 * x8_1))), wrap64 ((ji8) + 1), true))))) else (none)) else (none)) else (none)) = some (r1, r2, r3) := by first | (rw [hji8] at H; exact H) | (simp only [hji8] at H ⊢; exact H)
       have hji8w : (IntKind.i64.wrap (a1 + x8_1)) = ji8 := (i64_w _).trans hji8
       by_cases c9 : 0 ≤ (ji8)
       ·rw [if_pos c9] at H
        have c9b0 : decide (0 ≤ (ji8)) = true := decide_eq_true c9
        clear c9
        by_cases c10 : (ji8) < (a0.size : Int)
        ·rw [if_pos c10] at H
         have c10b0 : decide ((ji8) < (a0.size : Int)) = true := decide_eq_true c10
         clear c10
         obtain ⟨ji12, hji12⟩ : ∃ j_ : Int, (wrap64 (7 * x8_1)) = j_ := ⟨_, rfl⟩
         replace H : (if 0 ≤ (ji12) then (if (wrap64 (bt a0 (ji8))) > 127 then (impl_ReadVar.l0 kj4 a0 a1 (Go.bits .or .i64 x7_1 (shl .i64 (Go.bits .and .i64 (wrap64 (bt a0 (ji8))) 127) (ji12))) (wrap64 (x8_1 + 1))) else (if (wrap64 (bt a0 (ji8))) = 0 then (if x8_1 > 0 then (some (0, 0, false)) else (if (Go.bits .or .i64 x7_1 (shl .i64 (Go.bits .and .i64 (wrap64 (bt a0 (ji8))) 127) (ji12))) > 1000000000 then (some (0, 0, false)) else (some (Go.bits .or .i64 x7_1 (shl .i64 (Go.bits .and .i64 (wrap64 (bt a0 (ji8))) 127) (ji12)), wrap64 ((ji8) + 1), true)))) else (if (Go.bits .or .i64 x7_1 (shl .i64 (Go.bits .and .i64 (wrap64 (bt a0 (ji8))) 127) (ji12))) > 1000000000 then (some (0, 0, false)) else (some (Go.bits .or .i64 x7_1 (shl .i64 (Go.bits .and .i64 (wrap64 (bt a0 (ji8))) 127) (ji12)), wrap64 ((ji8) + 1), true))))) else (none)) = some (r1, r2, r3) := by first | (rw [hji12] at H; exact H) | (simp only [hji12] at H ⊢; exact H)
         have hji12w : (IntKind.i64.wrap (7 * x8_1)) = ji12 := (i64_w _).trans hji12
         by_cases c13 : 0 ≤ (ji12)
         ·rw [if_pos c13] at H
          have c13b0 := eq_true c13
          have c13b1 : decide (0 ≤ (ji12)) = true := decide_eq_true c13
          clear c13
          obtain ⟨ji14, hji14⟩ : ∃ j_ : Int, (shl .i64 (Go.bits .and .i64 (wrap64 (bt a0 (ji8))) 127) (ji12)) = j_ := ⟨_, rfl⟩
          replace H : (if (wrap64 (bt a0 (ji8))) > 127 then (impl_ReadVar.l0 kj4 a0 a1 (Go.bits .or .i64 x7_1 (ji14)) (wrap64 (x8_1 + 1))) else (if (wrap64 (bt a0 (ji8))) = 0 then (if x8_1 > 0 then (some (0, 0, false)) else (if (Go.bits .or .i64 x7_1 (ji14)) > 1000000000 then (some (0, 0, false)) else (some (Go.bits .or .i64 x7_1 (ji14), wrap64 ((ji8) + 1), true)))) else (if (Go.bits .or .i64 x7_1 (ji14)) > 1000000000 then (some (0, 0, false)) else (some (Go.bits .or .i64 x7_1 (ji14), wrap64 ((ji8) + 1), true))))) = some (r1, r2, r3) := by first | (rw [hji14] at H; exact H) | (simp only [hji14] at H ⊢; exact H)
          have hji14_ : (IntKind.i64.wrap ((Go.bits .and .i64 (wrap64 (bt a0 (ji8))) 127) * 2 ^ min (ji12).toNat 64)) = ji14 := hji14
          have hji14z : (ji12) ≤ 64 → (IntKind.i64.wrap ((Go.bits .and .i64 (wrap64 (bt a0 (ji8))) 127) * 2 ^ (ji12).toNat)) = ji14 := shl_small hji14
          have hji14y : (wrap64 ((Go.bits .and .i64 (wrap64 (bt a0 (ji8))) 127) * 2 ^ min (ji12).toNat 64)) = ji14 := (i64_w _).symm.trans hji14_
          have hji14x : (ji12) ≤ 64 → (wrap64 ((Go.bits .and .i64 (wrap64 (bt a0 (ji8))) 127) * 2 ^ (ji12).toNat)) = ji14 := fun h_ => (i64_w _).symm.trans (hji14z h_)
          by_cases c15 : (wrap64 (bt a0 (ji8))) > 127
          ·rw [if_pos c15] at H
           have c15b0 : decide (127 < (wrap64 (bt a0 (ji8)))) = true := decide_eq_true c15
           clear c15
           have H' := Aside0.mk H
           clear H
           have p11 : 0 ≤ ((ji8) : Int) := of_decide_eq_true (by first | (with_reducible assumption) | assumption)
           have q11 : (ji8) < (a0.size : Int) := of_decide_eq_true (by first | (with_reducible assumption) | assumption)
           have hx11 := bt_at a0 (ji8)
           replace p11 := eq_true p11
           replace q11 := eq_true q11
           go_wp2
           go_roundg kj4
           case measure => have := HK1.out; have := HJ4.out; omega
           case rel => exact ⟨(Go.bits .or .i64 x7_1 (ji14)), (wrap64 (x8_1 + 1)), (by first | rfl | (simp; done) | (simp only [← hji14] <;> (first | rfl | simp)) | (simp [*]; done)), (by first | rfl | (simp; done) | (simp [*]; done)), H', ⟨by have := HK1.out; have := HJ4.out; omega⟩, by repeat (first | exact Drawn0.refl _ | apply Drawn0.step)⟩
          ·rw [if_neg c15] at H
           have c15b0 : decide (127 < (wrap64 (bt a0 (ji8)))) = false := decide_eq_false c15
           clear c15
           by_cases c16 : (wrap64 (bt a0 (ji8))) = 0
           ·rw [if_pos c16] at H
            have c16b0 : ((wrap64 (bt a0 (ji8))) == 0) = true := beq_iff_eq.mpr c16
            have c16b1 : ((wrap64 (bt a0 (ji8))) != 0) = false := bne_eq_false_iff_eq.mpr c16
            clear c16
            by_cases c17 : x8_1 > 0
            ·rw [if_pos c17] at H
             have c17b0 : decide (0 < x8_1) = true := decide_eq_true c17
             clear c17
             simp only [Option.some.injEq, Prod.mk.injEq] at H
             obtain ⟨rfl, rfl, rfl⟩ := H
             have p11 : 0 ≤ ((ji8) : Int) := of_decide_eq_true (by first | (with_reducible assumption) | assumption)
             have q11 : (ji8) < (a0.size : Int) := of_decide_eq_true (by first | (with_reducible assumption) | assumption)
             have hx11 := bt_at a0 (ji8)
             replace p11 := eq_true p11
             replace q11 := eq_true q11
             go_wp2
             go_ret3
             exact ⟨by first | rfl | (simp; done) | (simp only [← hji8, ← hji12, ← hji14] <;> (first | rfl | simp)) | (simp [*]; done), by repeat (first | exact Drawn0.refl _ | apply Drawn0.step)⟩
            ·rw [if_neg c17] at H
             have c17b0 : decide (0 < x8_1) = false := decide_eq_false c17
             clear c17
             by_cases c18 : (Go.bits .or .i64 x7_1 (ji14)) > 1000000000
             ·rw [if_pos c18] at H
              have c18b0 : decide (1000000000 < (Go.bits .or .i64 x7_1 (ji14))) = true := decide_eq_true c18
              clear c18
              simp only [Option.some.injEq, Prod.mk.injEq] at H
              obtain ⟨rfl, rfl, rfl⟩ := H
              have p11 : 0 ≤ ((ji8) : Int) := of_decide_eq_true (by first | (with_reducible assumption) | assumption)
              have q11 : (ji8) < (a0.size : Int) := of_decide_eq_true (by first | (with_reducible assumption) | assumption)
              have hx11 := bt_at a0 (ji8)
              replace p11 := eq_true p11
              replace q11 := eq_true q11
              go_wp2
              go_ret3
              exact ⟨by first | rfl | (simp; done) | (simp only [← hji8, ← hji12, ← hji14] <;> (first | rfl | simp)) | (simp [*]; done), by repeat (first | exact Drawn0.refl _ | apply Drawn0.step)⟩
             ·rw [if_neg c18] at H
              have c18b0 : decide (1000000000 < (Go.bits .or .i64 x7_1 (ji14))) = false := decide_eq_false c18
              clear c18
              simp only [Option.some.injEq, Prod.mk.injEq] at H
              obtain ⟨rfl, rfl, rfl⟩ := H
              have p11 : 0 ≤ ((ji8) : Int) := of_decide_eq_true (by first | (with_reducible assumption) | assumption)
              have q11 : (ji8) < (a0.size : Int) := of_decide_eq_true (by first | (with_reducible assumption) | assumption)
              have hx11 := bt_at a0 (ji8)
              replace p11 := eq_true p11
              replace q11 := eq_true q11
              go_wp2
              go_ret3
              exact ⟨by first | rfl | (simp; done) | (simp only [← hji8, ← hji12, ← hji14] <;> (first | rfl | simp)) | (simp [*]; done), by repeat (first | exact Drawn0.refl _ | apply Drawn0.step)⟩
           ·rw [if_neg c16] at H
            have c16b0 : ((wrap64 (bt a0 (ji8))) == 0) = false := beq_eq_false_iff_ne.mpr c16
            have c16b1 : ((wrap64 (bt a0 (ji8))) != 0) = true := bne_iff_ne.mpr c16
            by_cases c19 : (Go.bits .or .i64 x7_1 (ji14)) > 1000000000
            ·rw [if_pos c19] at H
             have c19b0 : decide (1000000000 < (Go.bits .or .i64 x7_1 (ji14))) = true := decide_eq_true c19
             clear c19
             simp only [Option.some.injEq, Prod.mk.injEq] at H
             obtain ⟨rfl, rfl, rfl⟩ := H
             have p11 : 0 ≤ ((ji8) : Int) := of_decide_eq_true (by first | (with_reducible assumption) | assumption)
             have q11 : (ji8) < (a0.size : Int) := of_decide_eq_true (by first | (with_reducible assumption) | assumption)
             have hx11 := bt_at a0 (ji8)
             replace p11 := eq_true p11
             replace q11 := eq_true q11
             go_wp2
             go_ret3
             exact ⟨by first | rfl | (simp; done) | (simp only [← hji8, ← hji12, ← hji14] <;> (first | rfl | simp)) | (simp [*]; done), by repeat (first | exact Drawn0.refl _ | apply Drawn0.step)⟩
            ·rw [if_neg c19] at H
             have c19b0 : decide (1000000000 < (Go.bits .or .i64 x7_1 (ji14))) = false := decide_eq_false c19
             clear c19
             simp only [Option.some.injEq, Prod.mk.injEq] at H
             obtain ⟨rfl, rfl, rfl⟩ := H
             have p11 : 0 ≤ ((ji8) : Int) := of_decide_eq_true (by first | (with_reducible assumption) | assumption)
             have q11 : (ji8) < (a0.size : Int) := of_decide_eq_true (by first | (with_reducible assumption) | assumption)
             have hx11 := bt_at a0 (ji8)
             replace p11 := eq_true p11
             replace q11 := eq_true q11
             go_wp2
             go_ret3
             exact ⟨by first | rfl | (simp; done) | (simp only [← hji8, ← hji12, ← hji14] <;> (first | rfl | simp)) | (simp [*]; done), by repeat (first | exact Drawn0.refl _ | apply Drawn0.step)⟩
         ·rw [if_neg c13] at H
          exact absurd H (by simp)
        ·rw [if_neg c10] at H
         exact absurd H (by simp)
       ·rw [if_neg c9] at H
        exact absurd H (by simp)
      ·replace c7 := Bool.eq_false_iff.mpr c7
       subst c7
       have H1 : (some (0, 0, false)) = some (r1, r2, r3) := by rw [if_neg (show ¬ (false = true) by decide)] at H; exact H
       clear H
       have H := H1
       clear H1
       simp only [Option.some.injEq, Prod.mk.injEq] at H
       obtain ⟨rfl, rfl, rfl⟩ := H
       go_wp2
       go_ret3
       exact ⟨by first | rfl | (simp; done) | (simp [*]; done), by repeat (first | exact Drawn0.refl _ | apply Drawn0.step)⟩
 ·replace c4 := Bool.eq_false_iff.mpr c4
  subst c4
  have H1 : (some (0, 0, false)) = some (r1, r2, r3) := by rw [if_neg (show ¬ (false = true) by decide)] at H; exact H
  clear H
  have H := H1
  clear H1
  simp only [Option.some.injEq, Prod.mk.injEq] at H
  obtain ⟨rfl, rfl, rfl⟩ := H
  go_enter Try.func56, Try.ntmps56
  go_wp2_with (first | ((with_reducible refine gate_callee (f := 63) rfl ?_); refine gl (some 13) Try.func63 #[.int .i64 a1, .int .i64 0, .int .i64 (a0.size : Int)] ?_; (with_reducible refine (impl_in.calls a1 0 (a0.size : Int) false _ A3.out).mono ?_); rintro e w' ⟨rfl, ⟨nd, rfl⟩⟩; refine ⟨_, rfl, ?_⟩))
  go_ret3
  exact ⟨by first | rfl | (simp; done) | (simp [*]; done), by repeat (first | exact Drawn0.refl _ | apply Drawn0.step)⟩

/-! ### impl_ReadShort: function 57 -/
def impl_ReadShort.f (k : Nat) (a0 : ByteArray) (a1 : Int) : Option (ByteArray × Int × Bool) := (impl_ReadVar.f k a0 a1).bind fun bt200 => (if bt200.2.2 = true then (if bt200.1 > 20000 then (some ((⟨#[]⟩ : ByteArray), 0, false)) else (if bt200.1 > (wrap64 ((a0.size : Int) - bt200.2.1)) then (some ((⟨#[]⟩ : ByteArray), 0, false)) else (if 0 ≤ bt200.2.1 then (if bt200.2.1 ≤ (wrap64 (bt200.2.1 + bt200.1)) then (if (wrap64 (bt200.2.1 + bt200.1)) ≤ (a0.size : Int) then (some (a0.extract (bt200.2.1 : Int).toNat ((wrap64 (bt200.2.1 + bt200.1)) : Int).toNat, wrap64 (bt200.2.1 + bt200.1), true)) else (none)) else (none)) else (none)))) else (some ((⟨#[]⟩ : ByteArray), 0, false)))
theorem impl_ReadShort.mono : ∀ a0 a1 k, LeO (impl_ReadShort.f k a0 a1) (impl_ReadShort.f (k + 1) a0 a1) := by
 intro a0 a1 k
 unfold impl_ReadShort.f
 repeat' first
   | (with_reducible exact impl_ReadVar.mono _ _ _)
   | (with_reducible exact LeO.refl _)
   | (with_reducible exact LeO.none _)
   | (with_reducible refine LeO.ite ?_ ?_)
   | (with_reducible refine LeO.bind ?_ (fun _ => ?_))
   | exact impl_ReadVar.mono _ _ _
   | exact LeO.none _
   | refine LeO.ite ?_ ?_
   | refine LeO.bind ?_ (fun _ => ?_)
set_option maxHeartbeats 8000000 in
set_option maxRecDepth 100000 in
theorem impl_ReadShort.calls (k : Nat) (a0 : ByteArray) (a1 : Int) (r1 : ByteArray) (r2 : Int) (r3 : Bool) (w : World) (h : impl_ReadShort.f k a0 a1 = some (r1, r2, r3)) :
  Calls Try.prog 57 #[.string a0, .int .i64 a1] w fun e w' => e = .returned (.tuple #[.string r1, .int .i64 r2, .bool r3]) ∧ Drawn0 w w' := by
 have H : ((impl_ReadVar.f k a0 a1).bind fun bt200 => (if bt200.2.2 = true then (if bt200.1 > 20000 then (some ((⟨#[]⟩ : ByteArray), 0, false)) else (if bt200.1 > (wrap64 ((a0.size : Int) - bt200.2.1)) then (some ((⟨#[]⟩ : ByteArray), 0, false)) else (if 0 ≤ bt200.2.1 then (if bt200.2.1 ≤ (wrap64 (bt200.2.1 + bt200.1)) then (if (wrap64 (bt200.2.1 + bt200.1)) ≤ (a0.size : Int) then (some (a0.extract (bt200.2.1 : Int).toNat ((wrap64 (bt200.2.1 + bt200.1)) : Int).toNat, wrap64 (bt200.2.1 + bt200.1), true)) else (none)) else (none)) else (none)))) else (some ((⟨#[]⟩ : ByteArray), 0, false)))) = some (r1, r2, r3) := h
 clear h
 replace H := Option.bind_eq_some_iff.mp H
 obtain ⟨⟨t200, t201, t202⟩, A30, H⟩ := H
 replace H : (if t202 = true then (if t200 > 20000 then (some ((⟨#[]⟩ : ByteArray), 0, false)) else (if t200 > (wrap64 ((a0.size : Int) - t201)) then (some ((⟨#[]⟩ : ByteArray), 0, false)) else (if 0 ≤ t201 then (if t201 ≤ (wrap64 (t201 + t200)) then (if (wrap64 (t201 + t200)) ≤ (a0.size : Int) then (some (a0.extract (t201 : Int).toNat ((wrap64 (t201 + t200)) : Int).toNat, wrap64 (t201 + t200), true)) else (none)) else (none)) else (none)))) else (some ((⟨#[]⟩ : ByteArray), 0, false))) = some (r1, r2, r3) := H
 have A3 := Aside0.mk A30
 clear A30
 by_cases c4 : t202 = true
 ·subst c4
  have H1 : (if t200 > 20000 then (some ((⟨#[]⟩ : ByteArray), 0, false)) else (if t200 > (wrap64 ((a0.size : Int) - t201)) then (some ((⟨#[]⟩ : ByteArray), 0, false)) else (if 0 ≤ t201 then (if t201 ≤ (wrap64 (t201 + t200)) then (if (wrap64 (t201 + t200)) ≤ (a0.size : Int) then (some (a0.extract (t201 : Int).toNat ((wrap64 (t201 + t200)) : Int).toNat, wrap64 (t201 + t200), true)) else (none)) else (none)) else (none)))) = some (r1, r2, r3) := by rw [if_pos rfl] at H; exact H
  clear H
  have H := H1
  clear H1
  by_cases c5 : t200 > 20000
  ·rw [if_pos c5] at H
   have c5b0 : decide (20000 < t200) = true := decide_eq_true c5
   clear c5
   simp only [Option.some.injEq, Prod.mk.injEq] at H
   obtain ⟨rfl, rfl, rfl⟩ := H
   go_enter Try.func57, Try.ntmps57
   go_wp2_with (first | ((with_reducible refine gate_callee (f := 56) rfl ?_); refine gl (some 13) Try.func56 #[.string a0, .int .i64 a1] ?_; (with_reducible refine (impl_ReadVar.calls k a0 a1 t200 t201 true _ A3.out).mono ?_); rintro e w' ⟨rfl, ⟨nd, rfl⟩⟩; refine ⟨_, rfl, ?_⟩))
   go_ret3
   exact ⟨by first | rfl | (simp; done) | (simp [*]; done), by repeat (first | exact Drawn0.refl _ | apply Drawn0.step)⟩
  ·rw [if_neg c5] at H
   have c5b0 : decide (20000 < t200) = false := decide_eq_false c5
   clear c5
   by_cases c6 : t200 > (wrap64 ((a0.size : Int) - t201))
   ·rw [if_pos c6] at H
    have c6b0 : decide ((wrap64 ((a0.size : Int) - t201)) < t200) = true := decide_eq_true c6
    clear c6
    simp only [Option.some.injEq, Prod.mk.injEq] at H
    obtain ⟨rfl, rfl, rfl⟩ := H
    go_enter Try.func57, Try.ntmps57
    go_wp2_with (first | ((with_reducible refine gate_callee (f := 56) rfl ?_); refine gl (some 13) Try.func56 #[.string a0, .int .i64 a1] ?_; (with_reducible refine (impl_ReadVar.calls k a0 a1 t200 t201 true _ A3.out).mono ?_); rintro e w' ⟨rfl, ⟨nd, rfl⟩⟩; refine ⟨_, rfl, ?_⟩))
    go_ret3
    exact ⟨by first | rfl | (simp; done) | (simp [*]; done), by repeat (first | exact Drawn0.refl _ | apply Drawn0.step)⟩
   ·rw [if_neg c6] at H
    have c6b0 : decide ((wrap64 ((a0.size : Int) - t201)) < t200) = false := decide_eq_false c6
    clear c6
    by_cases c7 : 0 ≤ t201
    ·rw [if_pos c7] at H
     have c7b0 := eq_true c7
     have c7b1 : decide (0 ≤ t201) = true := decide_eq_true c7
     clear c7
     by_cases c8 : t201 ≤ (wrap64 (t201 + t200))
     ·rw [if_pos c8] at H
      have c8b0 := eq_true c8
      have c8b1 : decide (t201 ≤ (wrap64 (t201 + t200))) = true := decide_eq_true c8
      by_cases c9 : (wrap64 (t201 + t200)) ≤ (a0.size : Int)
      ·rw [if_pos c9] at H
       have c9b0 := eq_true c9
       have c9b1 : decide ((wrap64 (t201 + t200)) ≤ (a0.size : Int)) = true := decide_eq_true c9
       simp only [Option.some.injEq, Prod.mk.injEq] at H
       obtain ⟨rfl, rfl, rfl⟩ := H
       go_enter Try.func57, Try.ntmps57
       go_wp2_with (first | ((with_reducible refine gate_callee (f := 56) rfl ?_); refine gl (some 13) Try.func56 #[.string a0, .int .i64 a1] ?_; (with_reducible refine (impl_ReadVar.calls k a0 a1 t200 t201 true _ A3.out).mono ?_); rintro e w' ⟨rfl, ⟨nd, rfl⟩⟩; refine ⟨_, rfl, ?_⟩))
       go_ret3
       exact ⟨by first | rfl | (simp; done) | (simp [*]; done), by repeat (first | exact Drawn0.refl _ | apply Drawn0.step)⟩
      ·rw [if_neg c9] at H
       exact absurd H (by simp)
     ·rw [if_neg c8] at H
      exact absurd H (by simp)
    ·rw [if_neg c7] at H
     exact absurd H (by simp)
 ·replace c4 := Bool.eq_false_iff.mpr c4
  subst c4
  have H1 : (some ((⟨#[]⟩ : ByteArray), 0, false)) = some (r1, r2, r3) := by rw [if_neg (show ¬ (false = true) by decide)] at H; exact H
  clear H
  have H := H1
  clear H1
  simp only [Option.some.injEq, Prod.mk.injEq] at H
  obtain ⟨rfl, rfl, rfl⟩ := H
  go_enter Try.func57, Try.ntmps57
  go_wp2_with (first | ((with_reducible refine gate_callee (f := 56) rfl ?_); refine gl (some 13) Try.func56 #[.string a0, .int .i64 a1] ?_; (with_reducible refine (impl_ReadVar.calls k a0 a1 t200 t201 false _ A3.out).mono ?_); rintro e w' ⟨rfl, ⟨nd, rfl⟩⟩; refine ⟨_, rfl, ?_⟩))
  go_ret3
  exact ⟨by first | rfl | (simp; done) | (simp [*]; done), by repeat (first | exact Drawn0.refl _ | apply Drawn0.step)⟩

/-! ### impl_ReadRec: function 11 -/
theorem bs_ {P : Program} {ops : Array Oper} {rest : List Oper} {o : Oper} {a : Act} {Q : Exit → Act → World → Prop} {W : World} (n : Tmp) (m : Nat) (cs : Array Value) (t : TypeId)
  (h : ∀ g, g = W.heap.size → ∀ w1, w1.heap[g]? = some (.cells cs t (0, 0)) → Below W.heap.size W w1 → wpList P ops Q rest (a.put o.dst (.slice (some ⟨g, 0, none⟩) m m)) w1)
  (hd : o.dst = some n := by exact rfl) (hg : o.guard = none := by exact rfl)
  (hr : (execOp a.eval o).run P W = .ok (.value (.slice (some ⟨W.heap.size, 0, none⟩) m m)) (W.alloc (.cells cs t (0, 0))) := by first | (go_simp; done) | (go_simp; rfl)) : wpList P ops Q (o :: rest) a W :=
 Kd.event_run hg hr (h _ rfl _ (blk_new W _) (below_alloc (Below.refl _ _) _))
def impl_ReadRec.rv (k : Nat) (t : ByteArray) (C : Int → List Int → Option (Int × Int × Int × Int × Int × ByteArray × ByteArray × ByteArray × Bool)) : Nat → Int → List Int → Option (Int × Int × Int × Int × Int × ByteArray × ByteArray × ByteArray × Bool)
 | 0, at_, l => C at_ l
 | n + 1, at_, l => (impl_ReadVar.f k t at_).bind fun b => if b.2.2 = true then impl_ReadRec.rv k t C n b.2.1 (l ++ [b.1]) else some (0, 0, 0, 0, 0, (⟨#[]⟩ : ByteArray), (⟨#[]⟩ : ByteArray), (⟨#[]⟩ : ByteArray), false)
def impl_ReadRec.rs (k : Nat) (t : ByteArray) (C : Int → List ByteArray → Option (Int × Int × Int × Int × Int × ByteArray × ByteArray × ByteArray × Bool)) : Nat → Int → List ByteArray → Option (Int × Int × Int × Int × Int × ByteArray × ByteArray × ByteArray × Bool)
 | 0, at_, l => C at_ l
 | n + 1, at_, l => (impl_ReadShort.f k t at_).bind fun b => if b.2.2 = true then impl_ReadRec.rs k t C n b.2.1 (l ++ [b.1]) else some (0, 0, 0, 0, 0, (⟨#[]⟩ : ByteArray), (⟨#[]⟩ : ByteArray), (⟨#[]⟩ : ByteArray), false)
def impl_ReadRec.fin (k : Nat) (t : ByteArray) (l : List Int) (at_ : Int) (s : List ByteArray) : Option (Int × Int × Int × Int × Int × ByteArray × ByteArray × ByteArray × Bool) :=
 if at_ = (t.size : Int) then (impl_RecOk.f k (wrap64 (bt t 0)) (l.getD 0 0) (l.getD 1 0) (l.getD 2 0) (l.getD 3 0) (s.getD 0 (⟨#[]⟩ : ByteArray)) (s.getD 1 (⟨#[]⟩ : ByteArray)) (s.getD 2 (⟨#[]⟩ : ByteArray))).bind fun b => if b = true then some (wrap64 (bt t 0), l.getD 0 0, l.getD 1 0, l.getD 2 0, l.getD 3 0, s.getD 0 (⟨#[]⟩ : ByteArray), s.getD 1 (⟨#[]⟩ : ByteArray), s.getD 2 (⟨#[]⟩ : ByteArray), true) else some (0, 0, 0, 0, 0, (⟨#[]⟩ : ByteArray), (⟨#[]⟩ : ByteArray), (⟨#[]⟩ : ByteArray), false) else some (0, 0, 0, 0, 0, (⟨#[]⟩ : ByteArray), (⟨#[]⟩ : ByteArray), (⟨#[]⟩ : ByteArray), false)
def impl_ReadRec.f (k : Nat) (a0 : ByteArray) : Option (Int × Int × Int × Int × Int × ByteArray × ByteArray × ByteArray × Bool) := if a0.toList = ([] : List UInt8) then some (0, 0, 0, 0, 0, (⟨#[]⟩ : ByteArray), (⟨#[]⟩ : ByteArray), (⟨#[]⟩ : ByteArray), false) else (if 0 < (a0.size : Int) then impl_ReadRec.rv k a0 (fun at_ l => impl_ReadRec.rs k a0 (fun at2 s => impl_ReadRec.fin k a0 l at2 s) 3 at_ []) 4 1 [] else none)
theorem impl_ReadRec.mono : ∀ a0 k, LeO (impl_ReadRec.f k a0) (impl_ReadRec.f (k + 1) a0) := by
 intro a0 k
 have hf : ∀ l at2 s, LeO (impl_ReadRec.fin k a0 l at2 s) (impl_ReadRec.fin (k + 1) a0 l at2 s) := fun l at2 s => by
  unfold impl_ReadRec.fin
  exact LeO.ite (LeO.bind (impl_RecOk.mono _ _ _ _ _ _ _ _ _) (fun _ => LeO.refl _)) (LeO.refl _)
 have hs : ∀ l n at_ s, LeO (impl_ReadRec.rs k a0 (fun at2 s => impl_ReadRec.fin k a0 l at2 s) n at_ s) (impl_ReadRec.rs (k + 1) a0 (fun at2 s => impl_ReadRec.fin (k + 1) a0 l at2 s) n at_ s) := fun l n => by
  induction n with
  | zero => intro at_ s; exact hf _ _ _
  | succ n ih => intro at_ s; exact LeO.bind (impl_ReadShort.mono _ _ _) (fun _ => LeO.ite (ih _ _) (LeO.refl _))
 have hv : ∀ n at_ l, LeO (impl_ReadRec.rv k a0 (fun at_ l => impl_ReadRec.rs k a0 (fun at2 s => impl_ReadRec.fin k a0 l at2 s) 3 at_ []) n at_ l) (impl_ReadRec.rv (k + 1) a0 (fun at_ l => impl_ReadRec.rs (k + 1) a0 (fun at2 s => impl_ReadRec.fin (k + 1) a0 l at2 s) 3 at_ []) n at_ l) := fun n => by
  induction n with
  | zero => intro at_ l; exact hs _ _ _ _
  | succ n ih => intro at_ l; exact LeO.bind (impl_ReadVar.mono _ _ _) (fun _ => LeO.ite (ih _ _) (LeO.refl _))
 unfold impl_ReadRec.f
 exact LeO.ite (LeO.refl _) (LeO.ite (hv _ _ _) (LeO.refl _))
set_option maxHeartbeats 8000000 in
set_option maxRecDepth 100000 in
theorem impl_ReadRec.calls (k : Nat) (a0 : ByteArray) (r1 r2 r3 r4 r5 : Int) (r6 r7 r8 : ByteArray) (r9 : Bool) (w : World) (h : impl_ReadRec.f k a0 = some (r1, r2, r3, r4, r5, r6, r7, r8, r9)) :
  Calls Try.prog 11 #[.string a0] w fun e w' => e = .returned (.tuple #[.agg #[.int .i64 r1, .int .i64 r2, .int .i64 r3, .int .i64 r4, .int .i64 r5, .string r6, .string r7, .string r8], .bool r9]) ∧ Below w.heap.size w w' := by
 have hu23 := Try.underlying23
 have HB := ak (Below.refl w.heap.size w)
 unfold impl_ReadRec.f at h
 by_cases c2 : a0.toList = ([] : List UInt8)
 ·rw [if_pos c2] at h
  have c2b0 : (a0.toList == ([] : List UInt8)) = true := beq_iff_eq.mpr c2
  have c2b1 : (a0.toList != ([] : List UInt8)) = false := bne_eq_false_iff_eq.mpr c2
  clear c2
  simp only [Option.some.injEq, Prod.mk.injEq] at h
  obtain ⟨rfl, rfl, rfl, rfl, rfl, rfl, rfl, rfl, rfl⟩ := h
  go_enter Try.func11, Try.ntmps11
  go_wp2_with (first | ((with_reducible refine gate_dst (N := 2) rfl ?_); refine bx 2 #[.int .i64 0, .int .i64 0, .int .i64 0, .int .i64 0, .int .i64 0, .string (⟨#[]⟩ : ByteArray), .string (⟨#[]⟩ : ByteArray), .string (⟨#[]⟩ : ByteArray)] 23 ?_; intro gg hg w3 hbox hb; replace BG := ak (hbox); replace GG := ak (bz hg (lG HB)); replace HB := lB HB hb; clear hb hbox hg; have hcg_0 : w3.cell? ⟨gg, 0, none⟩ = some (.int .i64 0) := bc BG 0; have hfg_0 := blk_frozen BG.out 0; have hcg_1 : w3.cell? ⟨gg, 1, none⟩ = some (.int .i64 0) := bc BG 1; have hfg_1 := blk_frozen BG.out 1; have hcg_2 : w3.cell? ⟨gg, 2, none⟩ = some (.int .i64 0) := bc BG 2; have hfg_2 := blk_frozen BG.out 2; have hcg_3 : w3.cell? ⟨gg, 3, none⟩ = some (.int .i64 0) := bc BG 3; have hfg_3 := blk_frozen BG.out 3; have hcg_4 : w3.cell? ⟨gg, 4, none⟩ = some (.int .i64 0) := bc BG 4; have hfg_4 := blk_frozen BG.out 4; have hcg_5 : w3.cell? ⟨gg, 5, none⟩ = some (.string (⟨#[]⟩ : ByteArray)) := bc BG 5; have hfg_5 := blk_frozen BG.out 5; have hcg_6 : w3.cell? ⟨gg, 6, none⟩ = some (.string (⟨#[]⟩ : ByteArray)) := bc BG 6; have hfg_6 := blk_frozen BG.out 6; have hcg_7 : w3.cell? ⟨gg, 7, none⟩ = some (.string (⟨#[]⟩ : ByteArray)) := bc BG 7; have hfg_7 := blk_frozen BG.out 7; skip))
  refine bodyPost_ret (results_ct rfl _ _ gg 23 #[.int .i64 0, .int .i64 0, .int .i64 0, .int .i64 0, .int .i64 0, .string (⟨#[]⟩ : ByteArray), .string (⟨#[]⟩ : ByteArray), .string (⟨#[]⟩ : ByteArray)] (0, 0) _ rfl (bW BG) Try.underlying23 rfl (by kernel_rfl)) rfl ?_
  exact ⟨ew, by exact lT HB (gC GG gN)⟩
 ·rw [if_neg c2] at h
  have c2b0 : (a0.toList == ([] : List UInt8)) = false := beq_eq_false_iff_ne.mpr c2
  have c2b1 : (a0.toList != ([] : List UInt8)) = true := bne_iff_ne.mpr c2
  by_cases c5 : 0 < (a0.size : Int)
  ·rw [if_pos c5] at h
   have c5b0 : decide (0 < (a0.size : Int)) = true := decide_eq_true c5
   have c5b1 : decide (0 < a0.size) = true := decide_eq_true (by omega)
   have q6 : 0 < a0.size := by omega
   have hx6 : ∀ h : 0 < a0.size, ((a0[0]'h).toNat : Int) = bt a0 0 := bt_at a0 0
   have qi6 : (0 < (a0.size : Int)) = True := eq_true c5
   replace q6 := eq_true q6
   clear c5 c2
   have HA := Aside0.mk h
   clear h
   go_enter Try.func11, Try.ntmps11
   go_wp2_with (first | ((with_reducible refine gate_dst (N := 2) rfl ?_); refine bx 2 #[.int .i64 0, .int .i64 0, .int .i64 0, .int .i64 0, .int .i64 0, .string (⟨#[]⟩ : ByteArray), .string (⟨#[]⟩ : ByteArray), .string (⟨#[]⟩ : ByteArray)] 23 ?_; intro gg hg w3 hbox hb; replace BG := ak (hbox); replace GG := ak (bz hg (lG HB)); replace HB := lB HB hb; clear hb hbox hg; have hcg_0 : w3.cell? ⟨gg, 0, none⟩ = some (.int .i64 0) := bc BG 0; have hfg_0 := blk_frozen BG.out 0; have hcg_1 : w3.cell? ⟨gg, 1, none⟩ = some (.int .i64 0) := bc BG 1; have hfg_1 := blk_frozen BG.out 1; have hcg_2 : w3.cell? ⟨gg, 2, none⟩ = some (.int .i64 0) := bc BG 2; have hfg_2 := blk_frozen BG.out 2; have hcg_3 : w3.cell? ⟨gg, 3, none⟩ = some (.int .i64 0) := bc BG 3; have hfg_3 := blk_frozen BG.out 3; have hcg_4 : w3.cell? ⟨gg, 4, none⟩ = some (.int .i64 0) := bc BG 4; have hfg_4 := blk_frozen BG.out 4; have hcg_5 : w3.cell? ⟨gg, 5, none⟩ = some (.string (⟨#[]⟩ : ByteArray)) := bc BG 5; have hfg_5 := blk_frozen BG.out 5; have hcg_6 : w3.cell? ⟨gg, 6, none⟩ = some (.string (⟨#[]⟩ : ByteArray)) := bc BG 6; have hfg_6 := blk_frozen BG.out 6; have hcg_7 : w3.cell? ⟨gg, 7, none⟩ = some (.string (⟨#[]⟩ : ByteArray)) := bc BG 7; have hfg_7 := blk_frozen BG.out 7; skip) | ((with_reducible refine gate_dst (N := 4) rfl ?_); refine bx 4 #[.int .i64 0, .int .i64 0, .int .i64 0, .int .i64 0, .int .i64 0, .string (⟨#[]⟩ : ByteArray), .string (⟨#[]⟩ : ByteArray), .string (⟨#[]⟩ : ByteArray)] 23 ?_; intro gr hg w5 hbox hb; replace NGR := ak (nl hg (bG BG)); replace BG := bB BG hb; replace BR := ak (hbox); replace GR := ak (bz hg (lG HB)); replace HB := lB HB hb; clear hb hbox hg; have hcr_0 : w5.cell? ⟨gr, 0, none⟩ = some (.int .i64 0) := bc BR 0; have hfr_0 := blk_frozen BR.out 0; have hcr_1 : w5.cell? ⟨gr, 1, none⟩ = some (.int .i64 0) := bc BR 1; have hfr_1 := blk_frozen BR.out 1; have hcr_2 : w5.cell? ⟨gr, 2, none⟩ = some (.int .i64 0) := bc BR 2; have hfr_2 := blk_frozen BR.out 2; have hcr_3 : w5.cell? ⟨gr, 3, none⟩ = some (.int .i64 0) := bc BR 3; have hfr_3 := blk_frozen BR.out 3; have hcr_4 : w5.cell? ⟨gr, 4, none⟩ = some (.int .i64 0) := bc BR 4; have hfr_4 := blk_frozen BR.out 4; have hcr_5 : w5.cell? ⟨gr, 5, none⟩ = some (.string (⟨#[]⟩ : ByteArray)) := bc BR 5; have hfr_5 := blk_frozen BR.out 5; have hcr_6 : w5.cell? ⟨gr, 6, none⟩ = some (.string (⟨#[]⟩ : ByteArray)) := bc BR 6; have hfr_6 := blk_frozen BR.out 6; have hcr_7 : w5.cell? ⟨gr, 7, none⟩ = some (.string (⟨#[]⟩ : ByteArray)) := bc BR 7; have hfr_7 := blk_frozen BR.out 7; skip) | ((with_reducible refine gate_dst (N := 27) rfl ?_); refine bs_ 27 4 #[.pointer (some ⟨gr, 1, none⟩), .pointer (some ⟨gr, 2, none⟩), .pointer (some ⟨gr, 3, none⟩), .pointer (some ⟨gr, 4, none⟩)] 86 ?_; intro gs hg w6 hbox hb; replace NSR := ak (ng hg (bW (r := #[.int .i64 (wrap64 (bt a0 0)), .int .i64 0, .int .i64 0, .int .i64 0, .int .i64 0, .string (⟨#[]⟩ : ByteArray), .string (⟨#[]⟩ : ByteArray), .string (⟨#[]⟩ : ByteArray)]) BR)); replace BG := ak (blk_below (bT BG (nC NGR nN)) hb); replace HB := ak (below_step (lT HB (gC GR gN)) hb); replace BR := ak (blk_below (bW (r := #[.int .i64 (wrap64 (bt a0 0)), .int .i64 0, .int .i64 0, .int .i64 0, .int .i64 0, .string (⟨#[]⟩ : ByteArray), .string (⟨#[]⟩ : ByteArray), .string (⟨#[]⟩ : ByteArray)]) BR) hb); replace BS := ak (hbox); clear hb hbox hg))
   go_loopg [5, 29] 4 (fun kq v5 v29 w' => ∃ (at_ jj : Int) (l : List Int), v5 = .int .i64 at_ ∧ v29 = .int .i64 jj ∧ Aside0 (kq + l.length = 4 ∧ jj = (l.length : Int) ∧ impl_ReadRec.rv k a0 (fun at_ l => impl_ReadRec.rs k a0 (fun at2 s => impl_ReadRec.fin k a0 l at2 s) 3 at_ []) kq at_ l = some (r1, r2, r3, r4, r5, r6, r7, r8, r9)) ∧ Aside0 (w'.heap[gr]? = some (.cells #[.int .i64 (wrap64 (bt a0 0)), .int .i64 (l.getD 0 0), .int .i64 (l.getD 1 0), .int .i64 (l.getD 2 0), .int .i64 (l.getD 3 0), .string (⟨#[]⟩ : ByteArray), .string (⟨#[]⟩ : ByteArray), .string (⟨#[]⟩ : ByteArray)] 23 (0, 0))) ∧ Aside0 (w'.heap[gg]? = some (.cells #[.int .i64 0, .int .i64 0, .int .i64 0, .int .i64 0, .int .i64 0, .string (⟨#[]⟩ : ByteArray), .string (⟨#[]⟩ : ByteArray), .string (⟨#[]⟩ : ByteArray)] 23 (0, 0))) ∧ Aside0 (w'.heap[gs]? = some (.cells #[.pointer (some ⟨gr, 1, none⟩), .pointer (some ⟨gr, 2, none⟩), .pointer (some ⟨gr, 3, none⟩), .pointer (some ⟨gr, 4, none⟩)] 86 (0, 0))) ∧ Aside0 (Below w.heap.size w w'))
   case atStart => exact ⟨1, 0, [], (by first | rfl | (simp; done)), (by first | rfl | (simp; done)), ⟨rfl, rfl, HA.out⟩, ⟨BR.out⟩, BG, BS, HB⟩
   case round =>
    clear HA BR BG BS HB
    obtain ⟨at_, jj, l, rfl, rfl, HX, BR, BG, BS, HB⟩ := hrel
    rcases l with _ | ⟨a, _ | ⟨b, _ | ⟨c, _ | ⟨d, _ | ⟨e, l⟩⟩⟩⟩⟩
    ·obtain rfl : jj = 0 := HX.out.2.1
     obtain rfl : gk = 4 := by have := HX.out.1; simp at this; omega
     have H : ((impl_ReadVar.f k a0 at_).bind fun b_ => if b_.2.2 = true then impl_ReadRec.rv k a0 (fun at_ l => impl_ReadRec.rs k a0 (fun at2 s => impl_ReadRec.fin k a0 l at2 s) 3 at_ []) 3 b_.2.1 (([] : List Int) ++ [b_.1]) else some (0, 0, 0, 0, 0, (⟨#[]⟩ : ByteArray), (⟨#[]⟩ : ByteArray), (⟨#[]⟩ : ByteArray), false)) = some (r1, r2, r3, r4, r5, r6, r7, r8, r9) := HX.out.2.2
     have BR : Aside0 (wr.heap[gr]? = some (.cells #[.int .i64 (wrap64 (bt a0 0)), .int .i64 0, .int .i64 0, .int .i64 0, .int .i64 0, .string (⟨#[]⟩ : ByteArray), .string (⟨#[]⟩ : ByteArray), .string (⟨#[]⟩ : ByteArray)] 23 (0, 0))) := ⟨BR.out⟩
     clear HX
     replace H := Option.bind_eq_some_iff.mp H
     obtain ⟨⟨n, e, ok⟩, A0, H⟩ := H
     have AV := Aside0.mk A0
     clear A0
     have hsl : wr.cell? ⟨gs, 0, none⟩ = some (.pointer (some ⟨gr, 1, none⟩)) := bc BS 0
     have hng := NGR.out
     cases ok with
     | true =>
      have H2 : impl_ReadRec.rv k a0 (fun at_ l => impl_ReadRec.rs k a0 (fun at2 s => impl_ReadRec.fin k a0 l at2 s) 3 at_ []) 3 e (([] : List Int) ++ [n]) = some (r1, r2, r3, r4, r5, r6, r7, r8, r9) := by rw [if_pos rfl] at H; exact H
      have HA := Aside0.mk H2
      clear H H2
      go_wp2_with (first | ((with_reducible refine gate_callee (f := 56) rfl ?_); refine gl (some 36) Try.func56 #[.string a0, .int .i64 at_] ?_; (with_reducible refine (impl_ReadVar.calls k a0 at_ n e true _ AV.out).mono ?_); rintro e8 w8 ⟨rfl, ⟨nd, rfl⟩⟩; refine ⟨_, rfl, ?_⟩; have nBR := ak (bG (w' := World.drewN wr nd) BR); have nBG := ak (bG (w' := World.drewN wr nd) BG); have nBS := ak (bG (w' := World.drewN wr nd) BS); have nHB := ak (lG (w' := World.drewN wr nd) HB); clear BR BG BS HB; generalize World.drewN wr nd = w8 at nBR nBG nBS nHB ⊢; have BR := nBR; have BG := nBG; have BS := nBS; have HB := nHB; clear nBR nBG nBS nHB;  have hcr_0 : w8.cell? ⟨gr, 0, none⟩ = some (.int .i64 (wrap64 (bt a0 0))) := bc BR 0; have hfr_0 := blk_frozen BR.out 0; have hcr_1 : w8.cell? ⟨gr, 1, none⟩ = some (.int .i64 0) := bc BR 1; have hfr_1 := blk_frozen BR.out 1; have hcr_2 : w8.cell? ⟨gr, 2, none⟩ = some (.int .i64 0) := bc BR 2; have hfr_2 := blk_frozen BR.out 2; have hcr_3 : w8.cell? ⟨gr, 3, none⟩ = some (.int .i64 0) := bc BR 3; have hfr_3 := blk_frozen BR.out 3; have hcr_4 : w8.cell? ⟨gr, 4, none⟩ = some (.int .i64 0) := bc BR 4; have hfr_4 := blk_frozen BR.out 4; have hcr_5 : w8.cell? ⟨gr, 5, none⟩ = some (.string (⟨#[]⟩ : ByteArray)) := bc BR 5; have hfr_5 := blk_frozen BR.out 5; have hcr_6 : w8.cell? ⟨gr, 6, none⟩ = some (.string (⟨#[]⟩ : ByteArray)) := bc BR 6; have hfr_6 := blk_frozen BR.out 6; have hcr_7 : w8.cell? ⟨gr, 7, none⟩ = some (.string (⟨#[]⟩ : ByteArray)) := bc BR 7; have hfr_7 := blk_frozen BR.out 7; have hcg_0 : w8.cell? ⟨gg, 0, none⟩ = some (.int .i64 0) := bc BG 0; have hfg_0 := blk_frozen BG.out 0; have hcg_1 : w8.cell? ⟨gg, 1, none⟩ = some (.int .i64 0) := bc BG 1; have hfg_1 := blk_frozen BG.out 1; have hcg_2 : w8.cell? ⟨gg, 2, none⟩ = some (.int .i64 0) := bc BG 2; have hfg_2 := blk_frozen BG.out 2; have hcg_3 : w8.cell? ⟨gg, 3, none⟩ = some (.int .i64 0) := bc BG 3; have hfg_3 := blk_frozen BG.out 3; have hcg_4 : w8.cell? ⟨gg, 4, none⟩ = some (.int .i64 0) := bc BG 4; have hfg_4 := blk_frozen BG.out 4; have hcg_5 : w8.cell? ⟨gg, 5, none⟩ = some (.string (⟨#[]⟩ : ByteArray)) := bc BG 5; have hfg_5 := blk_frozen BG.out 5; have hcg_6 : w8.cell? ⟨gg, 6, none⟩ = some (.string (⟨#[]⟩ : ByteArray)) := bc BG 6; have hfg_6 := blk_frozen BG.out 6; have hcg_7 : w8.cell? ⟨gg, 7, none⟩ = some (.string (⟨#[]⟩ : ByteArray)) := bc BG 7; have hfg_7 := blk_frozen BG.out 7; skip))
      go_roundg 3
      case measure => omega
      case rel => exact ⟨e, 1, [n], (by first | rfl | (simp; done)), (by first | rfl | (simp; done)), ⟨rfl, rfl, HA.out⟩, ⟨bW BR⟩, ⟨bT BG (nC NGR nN)⟩, ⟨bT BS (nC NSR nN)⟩, ⟨lT HB (gC GR gN)⟩⟩
     | false =>
      have H2 : some (0, 0, 0, 0, 0, (⟨#[]⟩ : ByteArray), (⟨#[]⟩ : ByteArray), (⟨#[]⟩ : ByteArray), false) = some (r1, r2, r3, r4, r5, r6, r7, r8, r9) := by rw [if_neg (by simp)] at H; exact H
      clear H
      simp only [Option.some.injEq, Prod.mk.injEq] at H2
      obtain ⟨rfl, rfl, rfl, rfl, rfl, rfl, rfl, rfl, rfl⟩ := H2
      go_wp2_with (first | ((with_reducible refine gate_callee (f := 56) rfl ?_); refine gl (some 36) Try.func56 #[.string a0, .int .i64 at_] ?_; (with_reducible refine (impl_ReadVar.calls k a0 at_ n e false _ AV.out).mono ?_); rintro e8 w8 ⟨rfl, ⟨nd, rfl⟩⟩; refine ⟨_, rfl, ?_⟩; have nBR := ak (bG (w' := World.drewN wr nd) BR); have nBG := ak (bG (w' := World.drewN wr nd) BG); have nBS := ak (bG (w' := World.drewN wr nd) BS); have nHB := ak (lG (w' := World.drewN wr nd) HB); clear BR BG BS HB; generalize World.drewN wr nd = w8 at nBR nBG nBS nHB ⊢; have BR := nBR; have BG := nBG; have BS := nBS; have HB := nHB; clear nBR nBG nBS nHB;  have hcg_0 : w8.cell? ⟨gg, 0, none⟩ = some (.int .i64 0) := bc BG 0; have hfg_0 := blk_frozen BG.out 0; have hcg_1 : w8.cell? ⟨gg, 1, none⟩ = some (.int .i64 0) := bc BG 1; have hfg_1 := blk_frozen BG.out 1; have hcg_2 : w8.cell? ⟨gg, 2, none⟩ = some (.int .i64 0) := bc BG 2; have hfg_2 := blk_frozen BG.out 2; have hcg_3 : w8.cell? ⟨gg, 3, none⟩ = some (.int .i64 0) := bc BG 3; have hfg_3 := blk_frozen BG.out 3; have hcg_4 : w8.cell? ⟨gg, 4, none⟩ = some (.int .i64 0) := bc BG 4; have hfg_4 := blk_frozen BG.out 4; have hcg_5 : w8.cell? ⟨gg, 5, none⟩ = some (.string (⟨#[]⟩ : ByteArray)) := bc BG 5; have hfg_5 := blk_frozen BG.out 5; have hcg_6 : w8.cell? ⟨gg, 6, none⟩ = some (.string (⟨#[]⟩ : ByteArray)) := bc BG 6; have hfg_6 := blk_frozen BG.out 6; have hcg_7 : w8.cell? ⟨gg, 7, none⟩ = some (.string (⟨#[]⟩ : ByteArray)) := bc BG 7; have hfg_7 := blk_frozen BG.out 7; skip))
      refine bodyPost_ret (results_ct rfl _ _ gg 23 #[.int .i64 0, .int .i64 0, .int .i64 0, .int .i64 0, .int .i64 0, .string (⟨#[]⟩ : ByteArray), .string (⟨#[]⟩ : ByteArray), .string (⟨#[]⟩ : ByteArray)] (0, 0) _ rfl (bW BG) Try.underlying23 rfl (by kernel_rfl)) rfl ?_
      exact ⟨ew, by exact lT HB (gC GG gN)⟩
    ·obtain rfl : jj = 1 := HX.out.2.1
     obtain rfl : gk = 3 := by have := HX.out.1; simp at this; omega
     have H : ((impl_ReadVar.f k a0 at_).bind fun b_ => if b_.2.2 = true then impl_ReadRec.rv k a0 (fun at_ l => impl_ReadRec.rs k a0 (fun at2 s => impl_ReadRec.fin k a0 l at2 s) 3 at_ []) 2 b_.2.1 ([a] ++ [b_.1]) else some (0, 0, 0, 0, 0, (⟨#[]⟩ : ByteArray), (⟨#[]⟩ : ByteArray), (⟨#[]⟩ : ByteArray), false)) = some (r1, r2, r3, r4, r5, r6, r7, r8, r9) := HX.out.2.2
     have BR : Aside0 (wr.heap[gr]? = some (.cells #[.int .i64 (wrap64 (bt a0 0)), .int .i64 a, .int .i64 0, .int .i64 0, .int .i64 0, .string (⟨#[]⟩ : ByteArray), .string (⟨#[]⟩ : ByteArray), .string (⟨#[]⟩ : ByteArray)] 23 (0, 0))) := ⟨BR.out⟩
     clear HX
     replace H := Option.bind_eq_some_iff.mp H
     obtain ⟨⟨n, e, ok⟩, A0, H⟩ := H
     have AV := Aside0.mk A0
     clear A0
     have hsl : wr.cell? ⟨gs, 1, none⟩ = some (.pointer (some ⟨gr, 2, none⟩)) := bc BS 1
     have hng := NGR.out
     cases ok with
     | true =>
      have H2 : impl_ReadRec.rv k a0 (fun at_ l => impl_ReadRec.rs k a0 (fun at2 s => impl_ReadRec.fin k a0 l at2 s) 3 at_ []) 2 e ([a] ++ [n]) = some (r1, r2, r3, r4, r5, r6, r7, r8, r9) := by rw [if_pos rfl] at H; exact H
      have HA := Aside0.mk H2
      clear H H2
      go_wp2_with (first | ((with_reducible refine gate_callee (f := 56) rfl ?_); refine gl (some 36) Try.func56 #[.string a0, .int .i64 at_] ?_; (with_reducible refine (impl_ReadVar.calls k a0 at_ n e true _ AV.out).mono ?_); rintro e8 w8 ⟨rfl, ⟨nd, rfl⟩⟩; refine ⟨_, rfl, ?_⟩; have nBR := ak (bG (w' := World.drewN wr nd) BR); have nBG := ak (bG (w' := World.drewN wr nd) BG); have nBS := ak (bG (w' := World.drewN wr nd) BS); have nHB := ak (lG (w' := World.drewN wr nd) HB); clear BR BG BS HB; generalize World.drewN wr nd = w8 at nBR nBG nBS nHB ⊢; have BR := nBR; have BG := nBG; have BS := nBS; have HB := nHB; clear nBR nBG nBS nHB;  have hcr_0 : w8.cell? ⟨gr, 0, none⟩ = some (.int .i64 (wrap64 (bt a0 0))) := bc BR 0; have hfr_0 := blk_frozen BR.out 0; have hcr_1 : w8.cell? ⟨gr, 1, none⟩ = some (.int .i64 a) := bc BR 1; have hfr_1 := blk_frozen BR.out 1; have hcr_2 : w8.cell? ⟨gr, 2, none⟩ = some (.int .i64 0) := bc BR 2; have hfr_2 := blk_frozen BR.out 2; have hcr_3 : w8.cell? ⟨gr, 3, none⟩ = some (.int .i64 0) := bc BR 3; have hfr_3 := blk_frozen BR.out 3; have hcr_4 : w8.cell? ⟨gr, 4, none⟩ = some (.int .i64 0) := bc BR 4; have hfr_4 := blk_frozen BR.out 4; have hcr_5 : w8.cell? ⟨gr, 5, none⟩ = some (.string (⟨#[]⟩ : ByteArray)) := bc BR 5; have hfr_5 := blk_frozen BR.out 5; have hcr_6 : w8.cell? ⟨gr, 6, none⟩ = some (.string (⟨#[]⟩ : ByteArray)) := bc BR 6; have hfr_6 := blk_frozen BR.out 6; have hcr_7 : w8.cell? ⟨gr, 7, none⟩ = some (.string (⟨#[]⟩ : ByteArray)) := bc BR 7; have hfr_7 := blk_frozen BR.out 7; have hcg_0 : w8.cell? ⟨gg, 0, none⟩ = some (.int .i64 0) := bc BG 0; have hfg_0 := blk_frozen BG.out 0; have hcg_1 : w8.cell? ⟨gg, 1, none⟩ = some (.int .i64 0) := bc BG 1; have hfg_1 := blk_frozen BG.out 1; have hcg_2 : w8.cell? ⟨gg, 2, none⟩ = some (.int .i64 0) := bc BG 2; have hfg_2 := blk_frozen BG.out 2; have hcg_3 : w8.cell? ⟨gg, 3, none⟩ = some (.int .i64 0) := bc BG 3; have hfg_3 := blk_frozen BG.out 3; have hcg_4 : w8.cell? ⟨gg, 4, none⟩ = some (.int .i64 0) := bc BG 4; have hfg_4 := blk_frozen BG.out 4; have hcg_5 : w8.cell? ⟨gg, 5, none⟩ = some (.string (⟨#[]⟩ : ByteArray)) := bc BG 5; have hfg_5 := blk_frozen BG.out 5; have hcg_6 : w8.cell? ⟨gg, 6, none⟩ = some (.string (⟨#[]⟩ : ByteArray)) := bc BG 6; have hfg_6 := blk_frozen BG.out 6; have hcg_7 : w8.cell? ⟨gg, 7, none⟩ = some (.string (⟨#[]⟩ : ByteArray)) := bc BG 7; have hfg_7 := blk_frozen BG.out 7; skip))
      go_roundg 2
      case measure => omega
      case rel => exact ⟨e, 2, [a, n], (by first | rfl | (simp; done)), (by first | rfl | (simp; done)), ⟨rfl, rfl, HA.out⟩, ⟨bW BR⟩, ⟨bT BG (nC NGR nN)⟩, ⟨bT BS (nC NSR nN)⟩, ⟨lT HB (gC GR gN)⟩⟩
     | false =>
      have H2 : some (0, 0, 0, 0, 0, (⟨#[]⟩ : ByteArray), (⟨#[]⟩ : ByteArray), (⟨#[]⟩ : ByteArray), false) = some (r1, r2, r3, r4, r5, r6, r7, r8, r9) := by rw [if_neg (by simp)] at H; exact H
      clear H
      simp only [Option.some.injEq, Prod.mk.injEq] at H2
      obtain ⟨rfl, rfl, rfl, rfl, rfl, rfl, rfl, rfl, rfl⟩ := H2
      go_wp2_with (first | ((with_reducible refine gate_callee (f := 56) rfl ?_); refine gl (some 36) Try.func56 #[.string a0, .int .i64 at_] ?_; (with_reducible refine (impl_ReadVar.calls k a0 at_ n e false _ AV.out).mono ?_); rintro e8 w8 ⟨rfl, ⟨nd, rfl⟩⟩; refine ⟨_, rfl, ?_⟩; have nBR := ak (bG (w' := World.drewN wr nd) BR); have nBG := ak (bG (w' := World.drewN wr nd) BG); have nBS := ak (bG (w' := World.drewN wr nd) BS); have nHB := ak (lG (w' := World.drewN wr nd) HB); clear BR BG BS HB; generalize World.drewN wr nd = w8 at nBR nBG nBS nHB ⊢; have BR := nBR; have BG := nBG; have BS := nBS; have HB := nHB; clear nBR nBG nBS nHB;  have hcg_0 : w8.cell? ⟨gg, 0, none⟩ = some (.int .i64 0) := bc BG 0; have hfg_0 := blk_frozen BG.out 0; have hcg_1 : w8.cell? ⟨gg, 1, none⟩ = some (.int .i64 0) := bc BG 1; have hfg_1 := blk_frozen BG.out 1; have hcg_2 : w8.cell? ⟨gg, 2, none⟩ = some (.int .i64 0) := bc BG 2; have hfg_2 := blk_frozen BG.out 2; have hcg_3 : w8.cell? ⟨gg, 3, none⟩ = some (.int .i64 0) := bc BG 3; have hfg_3 := blk_frozen BG.out 3; have hcg_4 : w8.cell? ⟨gg, 4, none⟩ = some (.int .i64 0) := bc BG 4; have hfg_4 := blk_frozen BG.out 4; have hcg_5 : w8.cell? ⟨gg, 5, none⟩ = some (.string (⟨#[]⟩ : ByteArray)) := bc BG 5; have hfg_5 := blk_frozen BG.out 5; have hcg_6 : w8.cell? ⟨gg, 6, none⟩ = some (.string (⟨#[]⟩ : ByteArray)) := bc BG 6; have hfg_6 := blk_frozen BG.out 6; have hcg_7 : w8.cell? ⟨gg, 7, none⟩ = some (.string (⟨#[]⟩ : ByteArray)) := bc BG 7; have hfg_7 := blk_frozen BG.out 7; skip))
      refine bodyPost_ret (results_ct rfl _ _ gg 23 #[.int .i64 0, .int .i64 0, .int .i64 0, .int .i64 0, .int .i64 0, .string (⟨#[]⟩ : ByteArray), .string (⟨#[]⟩ : ByteArray), .string (⟨#[]⟩ : ByteArray)] (0, 0) _ rfl (bW BG) Try.underlying23 rfl (by kernel_rfl)) rfl ?_
      exact ⟨ew, by exact lT HB (gC GG gN)⟩
    ·obtain rfl : jj = 2 := HX.out.2.1
     obtain rfl : gk = 2 := by have := HX.out.1; simp at this; omega
     have H : ((impl_ReadVar.f k a0 at_).bind fun b_ => if b_.2.2 = true then impl_ReadRec.rv k a0 (fun at_ l => impl_ReadRec.rs k a0 (fun at2 s => impl_ReadRec.fin k a0 l at2 s) 3 at_ []) 1 b_.2.1 ([a, b] ++ [b_.1]) else some (0, 0, 0, 0, 0, (⟨#[]⟩ : ByteArray), (⟨#[]⟩ : ByteArray), (⟨#[]⟩ : ByteArray), false)) = some (r1, r2, r3, r4, r5, r6, r7, r8, r9) := HX.out.2.2
     have BR : Aside0 (wr.heap[gr]? = some (.cells #[.int .i64 (wrap64 (bt a0 0)), .int .i64 a, .int .i64 b, .int .i64 0, .int .i64 0, .string (⟨#[]⟩ : ByteArray), .string (⟨#[]⟩ : ByteArray), .string (⟨#[]⟩ : ByteArray)] 23 (0, 0))) := ⟨BR.out⟩
     clear HX
     replace H := Option.bind_eq_some_iff.mp H
     obtain ⟨⟨n, e, ok⟩, A0, H⟩ := H
     have AV := Aside0.mk A0
     clear A0
     have hsl : wr.cell? ⟨gs, 2, none⟩ = some (.pointer (some ⟨gr, 3, none⟩)) := bc BS 2
     have hng := NGR.out
     cases ok with
     | true =>
      have H2 : impl_ReadRec.rv k a0 (fun at_ l => impl_ReadRec.rs k a0 (fun at2 s => impl_ReadRec.fin k a0 l at2 s) 3 at_ []) 1 e ([a, b] ++ [n]) = some (r1, r2, r3, r4, r5, r6, r7, r8, r9) := by rw [if_pos rfl] at H; exact H
      have HA := Aside0.mk H2
      clear H H2
      go_wp2_with (first | ((with_reducible refine gate_callee (f := 56) rfl ?_); refine gl (some 36) Try.func56 #[.string a0, .int .i64 at_] ?_; (with_reducible refine (impl_ReadVar.calls k a0 at_ n e true _ AV.out).mono ?_); rintro e8 w8 ⟨rfl, ⟨nd, rfl⟩⟩; refine ⟨_, rfl, ?_⟩; have nBR := ak (bG (w' := World.drewN wr nd) BR); have nBG := ak (bG (w' := World.drewN wr nd) BG); have nBS := ak (bG (w' := World.drewN wr nd) BS); have nHB := ak (lG (w' := World.drewN wr nd) HB); clear BR BG BS HB; generalize World.drewN wr nd = w8 at nBR nBG nBS nHB ⊢; have BR := nBR; have BG := nBG; have BS := nBS; have HB := nHB; clear nBR nBG nBS nHB;  have hcr_0 : w8.cell? ⟨gr, 0, none⟩ = some (.int .i64 (wrap64 (bt a0 0))) := bc BR 0; have hfr_0 := blk_frozen BR.out 0; have hcr_1 : w8.cell? ⟨gr, 1, none⟩ = some (.int .i64 a) := bc BR 1; have hfr_1 := blk_frozen BR.out 1; have hcr_2 : w8.cell? ⟨gr, 2, none⟩ = some (.int .i64 b) := bc BR 2; have hfr_2 := blk_frozen BR.out 2; have hcr_3 : w8.cell? ⟨gr, 3, none⟩ = some (.int .i64 0) := bc BR 3; have hfr_3 := blk_frozen BR.out 3; have hcr_4 : w8.cell? ⟨gr, 4, none⟩ = some (.int .i64 0) := bc BR 4; have hfr_4 := blk_frozen BR.out 4; have hcr_5 : w8.cell? ⟨gr, 5, none⟩ = some (.string (⟨#[]⟩ : ByteArray)) := bc BR 5; have hfr_5 := blk_frozen BR.out 5; have hcr_6 : w8.cell? ⟨gr, 6, none⟩ = some (.string (⟨#[]⟩ : ByteArray)) := bc BR 6; have hfr_6 := blk_frozen BR.out 6; have hcr_7 : w8.cell? ⟨gr, 7, none⟩ = some (.string (⟨#[]⟩ : ByteArray)) := bc BR 7; have hfr_7 := blk_frozen BR.out 7; have hcg_0 : w8.cell? ⟨gg, 0, none⟩ = some (.int .i64 0) := bc BG 0; have hfg_0 := blk_frozen BG.out 0; have hcg_1 : w8.cell? ⟨gg, 1, none⟩ = some (.int .i64 0) := bc BG 1; have hfg_1 := blk_frozen BG.out 1; have hcg_2 : w8.cell? ⟨gg, 2, none⟩ = some (.int .i64 0) := bc BG 2; have hfg_2 := blk_frozen BG.out 2; have hcg_3 : w8.cell? ⟨gg, 3, none⟩ = some (.int .i64 0) := bc BG 3; have hfg_3 := blk_frozen BG.out 3; have hcg_4 : w8.cell? ⟨gg, 4, none⟩ = some (.int .i64 0) := bc BG 4; have hfg_4 := blk_frozen BG.out 4; have hcg_5 : w8.cell? ⟨gg, 5, none⟩ = some (.string (⟨#[]⟩ : ByteArray)) := bc BG 5; have hfg_5 := blk_frozen BG.out 5; have hcg_6 : w8.cell? ⟨gg, 6, none⟩ = some (.string (⟨#[]⟩ : ByteArray)) := bc BG 6; have hfg_6 := blk_frozen BG.out 6; have hcg_7 : w8.cell? ⟨gg, 7, none⟩ = some (.string (⟨#[]⟩ : ByteArray)) := bc BG 7; have hfg_7 := blk_frozen BG.out 7; skip))
      go_roundg 1
      case measure => omega
      case rel => exact ⟨e, 3, [a, b, n], (by first | rfl | (simp; done)), (by first | rfl | (simp; done)), ⟨rfl, rfl, HA.out⟩, ⟨bW BR⟩, ⟨bT BG (nC NGR nN)⟩, ⟨bT BS (nC NSR nN)⟩, ⟨lT HB (gC GR gN)⟩⟩
     | false =>
      have H2 : some (0, 0, 0, 0, 0, (⟨#[]⟩ : ByteArray), (⟨#[]⟩ : ByteArray), (⟨#[]⟩ : ByteArray), false) = some (r1, r2, r3, r4, r5, r6, r7, r8, r9) := by rw [if_neg (by simp)] at H; exact H
      clear H
      simp only [Option.some.injEq, Prod.mk.injEq] at H2
      obtain ⟨rfl, rfl, rfl, rfl, rfl, rfl, rfl, rfl, rfl⟩ := H2
      go_wp2_with (first | ((with_reducible refine gate_callee (f := 56) rfl ?_); refine gl (some 36) Try.func56 #[.string a0, .int .i64 at_] ?_; (with_reducible refine (impl_ReadVar.calls k a0 at_ n e false _ AV.out).mono ?_); rintro e8 w8 ⟨rfl, ⟨nd, rfl⟩⟩; refine ⟨_, rfl, ?_⟩; have nBR := ak (bG (w' := World.drewN wr nd) BR); have nBG := ak (bG (w' := World.drewN wr nd) BG); have nBS := ak (bG (w' := World.drewN wr nd) BS); have nHB := ak (lG (w' := World.drewN wr nd) HB); clear BR BG BS HB; generalize World.drewN wr nd = w8 at nBR nBG nBS nHB ⊢; have BR := nBR; have BG := nBG; have BS := nBS; have HB := nHB; clear nBR nBG nBS nHB;  have hcg_0 : w8.cell? ⟨gg, 0, none⟩ = some (.int .i64 0) := bc BG 0; have hfg_0 := blk_frozen BG.out 0; have hcg_1 : w8.cell? ⟨gg, 1, none⟩ = some (.int .i64 0) := bc BG 1; have hfg_1 := blk_frozen BG.out 1; have hcg_2 : w8.cell? ⟨gg, 2, none⟩ = some (.int .i64 0) := bc BG 2; have hfg_2 := blk_frozen BG.out 2; have hcg_3 : w8.cell? ⟨gg, 3, none⟩ = some (.int .i64 0) := bc BG 3; have hfg_3 := blk_frozen BG.out 3; have hcg_4 : w8.cell? ⟨gg, 4, none⟩ = some (.int .i64 0) := bc BG 4; have hfg_4 := blk_frozen BG.out 4; have hcg_5 : w8.cell? ⟨gg, 5, none⟩ = some (.string (⟨#[]⟩ : ByteArray)) := bc BG 5; have hfg_5 := blk_frozen BG.out 5; have hcg_6 : w8.cell? ⟨gg, 6, none⟩ = some (.string (⟨#[]⟩ : ByteArray)) := bc BG 6; have hfg_6 := blk_frozen BG.out 6; have hcg_7 : w8.cell? ⟨gg, 7, none⟩ = some (.string (⟨#[]⟩ : ByteArray)) := bc BG 7; have hfg_7 := blk_frozen BG.out 7; skip))
      refine bodyPost_ret (results_ct rfl _ _ gg 23 #[.int .i64 0, .int .i64 0, .int .i64 0, .int .i64 0, .int .i64 0, .string (⟨#[]⟩ : ByteArray), .string (⟨#[]⟩ : ByteArray), .string (⟨#[]⟩ : ByteArray)] (0, 0) _ rfl (bW BG) Try.underlying23 rfl (by kernel_rfl)) rfl ?_
      exact ⟨ew, by exact lT HB (gC GG gN)⟩
    ·obtain rfl : jj = 3 := HX.out.2.1
     obtain rfl : gk = 1 := by have := HX.out.1; simp at this; omega
     have H : ((impl_ReadVar.f k a0 at_).bind fun b_ => if b_.2.2 = true then impl_ReadRec.rv k a0 (fun at_ l => impl_ReadRec.rs k a0 (fun at2 s => impl_ReadRec.fin k a0 l at2 s) 3 at_ []) 0 b_.2.1 ([a, b, c] ++ [b_.1]) else some (0, 0, 0, 0, 0, (⟨#[]⟩ : ByteArray), (⟨#[]⟩ : ByteArray), (⟨#[]⟩ : ByteArray), false)) = some (r1, r2, r3, r4, r5, r6, r7, r8, r9) := HX.out.2.2
     have BR : Aside0 (wr.heap[gr]? = some (.cells #[.int .i64 (wrap64 (bt a0 0)), .int .i64 a, .int .i64 b, .int .i64 c, .int .i64 0, .string (⟨#[]⟩ : ByteArray), .string (⟨#[]⟩ : ByteArray), .string (⟨#[]⟩ : ByteArray)] 23 (0, 0))) := ⟨BR.out⟩
     clear HX
     replace H := Option.bind_eq_some_iff.mp H
     obtain ⟨⟨n, e, ok⟩, A0, H⟩ := H
     have AV := Aside0.mk A0
     clear A0
     have hsl : wr.cell? ⟨gs, 3, none⟩ = some (.pointer (some ⟨gr, 4, none⟩)) := bc BS 3
     have hng := NGR.out
     cases ok with
     | true =>
      have H2 : impl_ReadRec.rv k a0 (fun at_ l => impl_ReadRec.rs k a0 (fun at2 s => impl_ReadRec.fin k a0 l at2 s) 3 at_ []) 0 e ([a, b, c] ++ [n]) = some (r1, r2, r3, r4, r5, r6, r7, r8, r9) := by rw [if_pos rfl] at H; exact H
      have HA := Aside0.mk H2
      clear H H2
      go_wp2_with (first | ((with_reducible refine gate_callee (f := 56) rfl ?_); refine gl (some 36) Try.func56 #[.string a0, .int .i64 at_] ?_; (with_reducible refine (impl_ReadVar.calls k a0 at_ n e true _ AV.out).mono ?_); rintro e8 w8 ⟨rfl, ⟨nd, rfl⟩⟩; refine ⟨_, rfl, ?_⟩; have nBR := ak (bG (w' := World.drewN wr nd) BR); have nBG := ak (bG (w' := World.drewN wr nd) BG); have nBS := ak (bG (w' := World.drewN wr nd) BS); have nHB := ak (lG (w' := World.drewN wr nd) HB); clear BR BG BS HB; generalize World.drewN wr nd = w8 at nBR nBG nBS nHB ⊢; have BR := nBR; have BG := nBG; have BS := nBS; have HB := nHB; clear nBR nBG nBS nHB;  have hcr_0 : w8.cell? ⟨gr, 0, none⟩ = some (.int .i64 (wrap64 (bt a0 0))) := bc BR 0; have hfr_0 := blk_frozen BR.out 0; have hcr_1 : w8.cell? ⟨gr, 1, none⟩ = some (.int .i64 a) := bc BR 1; have hfr_1 := blk_frozen BR.out 1; have hcr_2 : w8.cell? ⟨gr, 2, none⟩ = some (.int .i64 b) := bc BR 2; have hfr_2 := blk_frozen BR.out 2; have hcr_3 : w8.cell? ⟨gr, 3, none⟩ = some (.int .i64 c) := bc BR 3; have hfr_3 := blk_frozen BR.out 3; have hcr_4 : w8.cell? ⟨gr, 4, none⟩ = some (.int .i64 0) := bc BR 4; have hfr_4 := blk_frozen BR.out 4; have hcr_5 : w8.cell? ⟨gr, 5, none⟩ = some (.string (⟨#[]⟩ : ByteArray)) := bc BR 5; have hfr_5 := blk_frozen BR.out 5; have hcr_6 : w8.cell? ⟨gr, 6, none⟩ = some (.string (⟨#[]⟩ : ByteArray)) := bc BR 6; have hfr_6 := blk_frozen BR.out 6; have hcr_7 : w8.cell? ⟨gr, 7, none⟩ = some (.string (⟨#[]⟩ : ByteArray)) := bc BR 7; have hfr_7 := blk_frozen BR.out 7; have hcg_0 : w8.cell? ⟨gg, 0, none⟩ = some (.int .i64 0) := bc BG 0; have hfg_0 := blk_frozen BG.out 0; have hcg_1 : w8.cell? ⟨gg, 1, none⟩ = some (.int .i64 0) := bc BG 1; have hfg_1 := blk_frozen BG.out 1; have hcg_2 : w8.cell? ⟨gg, 2, none⟩ = some (.int .i64 0) := bc BG 2; have hfg_2 := blk_frozen BG.out 2; have hcg_3 : w8.cell? ⟨gg, 3, none⟩ = some (.int .i64 0) := bc BG 3; have hfg_3 := blk_frozen BG.out 3; have hcg_4 : w8.cell? ⟨gg, 4, none⟩ = some (.int .i64 0) := bc BG 4; have hfg_4 := blk_frozen BG.out 4; have hcg_5 : w8.cell? ⟨gg, 5, none⟩ = some (.string (⟨#[]⟩ : ByteArray)) := bc BG 5; have hfg_5 := blk_frozen BG.out 5; have hcg_6 : w8.cell? ⟨gg, 6, none⟩ = some (.string (⟨#[]⟩ : ByteArray)) := bc BG 6; have hfg_6 := blk_frozen BG.out 6; have hcg_7 : w8.cell? ⟨gg, 7, none⟩ = some (.string (⟨#[]⟩ : ByteArray)) := bc BG 7; have hfg_7 := blk_frozen BG.out 7; skip))
      go_roundg 0
      case measure => omega
      case rel => exact ⟨e, 4, [a, b, c, n], (by first | rfl | (simp; done)), (by first | rfl | (simp; done)), ⟨rfl, rfl, HA.out⟩, ⟨bW BR⟩, ⟨bT BG (nC NGR nN)⟩, ⟨bT BS (nC NSR nN)⟩, ⟨lT HB (gC GR gN)⟩⟩
     | false =>
      have H2 : some (0, 0, 0, 0, 0, (⟨#[]⟩ : ByteArray), (⟨#[]⟩ : ByteArray), (⟨#[]⟩ : ByteArray), false) = some (r1, r2, r3, r4, r5, r6, r7, r8, r9) := by rw [if_neg (by simp)] at H; exact H
      clear H
      simp only [Option.some.injEq, Prod.mk.injEq] at H2
      obtain ⟨rfl, rfl, rfl, rfl, rfl, rfl, rfl, rfl, rfl⟩ := H2
      go_wp2_with (first | ((with_reducible refine gate_callee (f := 56) rfl ?_); refine gl (some 36) Try.func56 #[.string a0, .int .i64 at_] ?_; (with_reducible refine (impl_ReadVar.calls k a0 at_ n e false _ AV.out).mono ?_); rintro e8 w8 ⟨rfl, ⟨nd, rfl⟩⟩; refine ⟨_, rfl, ?_⟩; have nBR := ak (bG (w' := World.drewN wr nd) BR); have nBG := ak (bG (w' := World.drewN wr nd) BG); have nBS := ak (bG (w' := World.drewN wr nd) BS); have nHB := ak (lG (w' := World.drewN wr nd) HB); clear BR BG BS HB; generalize World.drewN wr nd = w8 at nBR nBG nBS nHB ⊢; have BR := nBR; have BG := nBG; have BS := nBS; have HB := nHB; clear nBR nBG nBS nHB;  have hcg_0 : w8.cell? ⟨gg, 0, none⟩ = some (.int .i64 0) := bc BG 0; have hfg_0 := blk_frozen BG.out 0; have hcg_1 : w8.cell? ⟨gg, 1, none⟩ = some (.int .i64 0) := bc BG 1; have hfg_1 := blk_frozen BG.out 1; have hcg_2 : w8.cell? ⟨gg, 2, none⟩ = some (.int .i64 0) := bc BG 2; have hfg_2 := blk_frozen BG.out 2; have hcg_3 : w8.cell? ⟨gg, 3, none⟩ = some (.int .i64 0) := bc BG 3; have hfg_3 := blk_frozen BG.out 3; have hcg_4 : w8.cell? ⟨gg, 4, none⟩ = some (.int .i64 0) := bc BG 4; have hfg_4 := blk_frozen BG.out 4; have hcg_5 : w8.cell? ⟨gg, 5, none⟩ = some (.string (⟨#[]⟩ : ByteArray)) := bc BG 5; have hfg_5 := blk_frozen BG.out 5; have hcg_6 : w8.cell? ⟨gg, 6, none⟩ = some (.string (⟨#[]⟩ : ByteArray)) := bc BG 6; have hfg_6 := blk_frozen BG.out 6; have hcg_7 : w8.cell? ⟨gg, 7, none⟩ = some (.string (⟨#[]⟩ : ByteArray)) := bc BG 7; have hfg_7 := blk_frozen BG.out 7; skip))
      refine bodyPost_ret (results_ct rfl _ _ gg 23 #[.int .i64 0, .int .i64 0, .int .i64 0, .int .i64 0, .int .i64 0, .string (⟨#[]⟩ : ByteArray), .string (⟨#[]⟩ : ByteArray), .string (⟨#[]⟩ : ByteArray)] (0, 0) _ rfl (bW BG) Try.underlying23 rfl (by kernel_rfl)) rfl ?_
      exact ⟨ew, by exact lT HB (gC GG gN)⟩
    ·obtain rfl : jj = 4 := HX.out.2.1
     obtain rfl : gk = 0 := by have := HX.out.1; simp at this; omega
     have HA : Aside0 (impl_ReadRec.rs k a0 (fun at2 s => impl_ReadRec.fin k a0 [a, b, c, d] at2 s) 3 at_ [] = some (r1, r2, r3, r4, r5, r6, r7, r8, r9)) := ⟨HX.out.2.2⟩
     have BR : Aside0 (wr.heap[gr]? = some (.cells #[.int .i64 (wrap64 (bt a0 0)), .int .i64 a, .int .i64 b, .int .i64 c, .int .i64 d, .string (⟨#[]⟩ : ByteArray), .string (⟨#[]⟩ : ByteArray), .string (⟨#[]⟩ : ByteArray)] 23 (0, 0))) := ⟨BR.out⟩
     clear HX BS
     go_wp2_with (first | ((with_reducible refine gate_dst (N := 51) rfl ?_); refine bs_ 51 3 #[.pointer (some ⟨gr, 5, none⟩), .pointer (some ⟨gr, 6, none⟩), .pointer (some ⟨gr, 7, none⟩)] 90 ?_; intro gs2 hg w9 hbox hb; replace NSR := ak (nl hg BR.out); replace BG := ak (blk_below BG.out hb); replace NS2R := ak (ng hg BR.out); replace BR := ak (blk_below BR.out hb); replace BS := ak (hbox); replace HB := ak (below_step HB.out hb); clear hb hbox hg))
     go_loopg [5, 53] 3 (fun kq v5 v53 w' => ∃ (at_ jj : Int) (l : List ByteArray), v5 = .int .i64 at_ ∧ v53 = .int .i64 jj ∧ Aside0 (kq + l.length = 3 ∧ jj = (l.length : Int) ∧ impl_ReadRec.rs k a0 (fun at2 s => impl_ReadRec.fin k a0 [a, b, c, d] at2 s) kq at_ l = some (r1, r2, r3, r4, r5, r6, r7, r8, r9)) ∧ Aside0 (w'.heap[gr]? = some (.cells #[.int .i64 (wrap64 (bt a0 0)), .int .i64 a, .int .i64 b, .int .i64 c, .int .i64 d, .string (l.getD 0 (⟨#[]⟩ : ByteArray)), .string (l.getD 1 (⟨#[]⟩ : ByteArray)), .string (l.getD 2 (⟨#[]⟩ : ByteArray))] 23 (0, 0))) ∧ Aside0 (w'.heap[gg]? = some (.cells #[.int .i64 0, .int .i64 0, .int .i64 0, .int .i64 0, .int .i64 0, .string (⟨#[]⟩ : ByteArray), .string (⟨#[]⟩ : ByteArray), .string (⟨#[]⟩ : ByteArray)] 23 (0, 0))) ∧ Aside0 (w'.heap[gs2]? = some (.cells #[.pointer (some ⟨gr, 5, none⟩), .pointer (some ⟨gr, 6, none⟩), .pointer (some ⟨gr, 7, none⟩)] 90 (0, 0))) ∧ Aside0 (Below w.heap.size w w'))
     case atStart => exact ⟨at_, 0, [], (by first | rfl | (simp; done)), (by first | rfl | (simp; done)), ⟨rfl, rfl, HA.out⟩, ⟨BR.out⟩, BG, BS, HB⟩
     case round =>
      clear HA BR BG BS HB
      obtain ⟨at_, jj, l, rfl, rfl, HX, BR, BG, BS, HB⟩ := hrel
      rcases l with _ | ⟨x, _ | ⟨y, _ | ⟨z, _ | ⟨e, l⟩⟩⟩⟩
      ·obtain rfl : jj = 0 := HX.out.2.1
       obtain rfl : gk = 3 := by have := HX.out.1; simp at this; omega
       have H : ((impl_ReadShort.f k a0 at_).bind fun b_ => if b_.2.2 = true then impl_ReadRec.rs k a0 (fun at2 s => impl_ReadRec.fin k a0 [a, b, c, d] at2 s) 2 b_.2.1 (([] : List ByteArray) ++ [b_.1]) else some (0, 0, 0, 0, 0, (⟨#[]⟩ : ByteArray), (⟨#[]⟩ : ByteArray), (⟨#[]⟩ : ByteArray), false)) = some (r1, r2, r3, r4, r5, r6, r7, r8, r9) := HX.out.2.2
       have BR : Aside0 (wr.heap[gr]? = some (.cells #[.int .i64 (wrap64 (bt a0 0)), .int .i64 a, .int .i64 b, .int .i64 c, .int .i64 d, .string (⟨#[]⟩ : ByteArray), .string (⟨#[]⟩ : ByteArray), .string (⟨#[]⟩ : ByteArray)] 23 (0, 0))) := ⟨BR.out⟩
       clear HX
       replace H := Option.bind_eq_some_iff.mp H
       obtain ⟨⟨n, e, ok⟩, A0, H⟩ := H
       have AV := Aside0.mk A0
       clear A0
       have hsl : wr.cell? ⟨gs2, 0, none⟩ = some (.pointer (some ⟨gr, 5, none⟩)) := bc BS 0
       have hng := NGR.out
       cases ok with
       | true =>
        have H2 : impl_ReadRec.rs k a0 (fun at2 s => impl_ReadRec.fin k a0 [a, b, c, d] at2 s) 2 e (([] : List ByteArray) ++ [n]) = some (r1, r2, r3, r4, r5, r6, r7, r8, r9) := by rw [if_pos rfl] at H; exact H
        have HA := Aside0.mk H2
        clear H H2
        go_wp2_with (first | ((with_reducible refine gate_callee (f := 57) rfl ?_); refine gl (some 60) Try.func57 #[.string a0, .int .i64 at_] ?_; (with_reducible refine (impl_ReadShort.calls k a0 at_ n e true _ AV.out).mono ?_); rintro e8 w8 ⟨rfl, ⟨nd, rfl⟩⟩; refine ⟨_, rfl, ?_⟩; have nBR := ak (bG (w' := World.drewN wr nd) BR); have nBG := ak (bG (w' := World.drewN wr nd) BG); have nBS := ak (bG (w' := World.drewN wr nd) BS); have nHB := ak (lG (w' := World.drewN wr nd) HB); clear BR BG BS HB; generalize World.drewN wr nd = w8 at nBR nBG nBS nHB ⊢; have BR := nBR; have BG := nBG; have BS := nBS; have HB := nHB; clear nBR nBG nBS nHB;  have hcr_0 : w8.cell? ⟨gr, 0, none⟩ = some (.int .i64 (wrap64 (bt a0 0))) := bc BR 0; have hfr_0 := blk_frozen BR.out 0; have hcr_1 : w8.cell? ⟨gr, 1, none⟩ = some (.int .i64 a) := bc BR 1; have hfr_1 := blk_frozen BR.out 1; have hcr_2 : w8.cell? ⟨gr, 2, none⟩ = some (.int .i64 b) := bc BR 2; have hfr_2 := blk_frozen BR.out 2; have hcr_3 : w8.cell? ⟨gr, 3, none⟩ = some (.int .i64 c) := bc BR 3; have hfr_3 := blk_frozen BR.out 3; have hcr_4 : w8.cell? ⟨gr, 4, none⟩ = some (.int .i64 d) := bc BR 4; have hfr_4 := blk_frozen BR.out 4; have hcr_5 : w8.cell? ⟨gr, 5, none⟩ = some (.string (⟨#[]⟩ : ByteArray)) := bc BR 5; have hfr_5 := blk_frozen BR.out 5; have hcr_6 : w8.cell? ⟨gr, 6, none⟩ = some (.string (⟨#[]⟩ : ByteArray)) := bc BR 6; have hfr_6 := blk_frozen BR.out 6; have hcr_7 : w8.cell? ⟨gr, 7, none⟩ = some (.string (⟨#[]⟩ : ByteArray)) := bc BR 7; have hfr_7 := blk_frozen BR.out 7; have hcg_0 : w8.cell? ⟨gg, 0, none⟩ = some (.int .i64 0) := bc BG 0; have hfg_0 := blk_frozen BG.out 0; have hcg_1 : w8.cell? ⟨gg, 1, none⟩ = some (.int .i64 0) := bc BG 1; have hfg_1 := blk_frozen BG.out 1; have hcg_2 : w8.cell? ⟨gg, 2, none⟩ = some (.int .i64 0) := bc BG 2; have hfg_2 := blk_frozen BG.out 2; have hcg_3 : w8.cell? ⟨gg, 3, none⟩ = some (.int .i64 0) := bc BG 3; have hfg_3 := blk_frozen BG.out 3; have hcg_4 : w8.cell? ⟨gg, 4, none⟩ = some (.int .i64 0) := bc BG 4; have hfg_4 := blk_frozen BG.out 4; have hcg_5 : w8.cell? ⟨gg, 5, none⟩ = some (.string (⟨#[]⟩ : ByteArray)) := bc BG 5; have hfg_5 := blk_frozen BG.out 5; have hcg_6 : w8.cell? ⟨gg, 6, none⟩ = some (.string (⟨#[]⟩ : ByteArray)) := bc BG 6; have hfg_6 := blk_frozen BG.out 6; have hcg_7 : w8.cell? ⟨gg, 7, none⟩ = some (.string (⟨#[]⟩ : ByteArray)) := bc BG 7; have hfg_7 := blk_frozen BG.out 7; skip))
        go_roundg 2
        case measure => omega
        case rel => exact ⟨e, 1, [n], (by first | rfl | (simp; done)), (by first | rfl | (simp; done)), ⟨rfl, rfl, HA.out⟩, ⟨bW BR⟩, ⟨bT BG (nC NGR nN)⟩, ⟨bT BS (nC NS2R nN)⟩, ⟨lT HB (gC GR gN)⟩⟩
       | false =>
        have H2 : some (0, 0, 0, 0, 0, (⟨#[]⟩ : ByteArray), (⟨#[]⟩ : ByteArray), (⟨#[]⟩ : ByteArray), false) = some (r1, r2, r3, r4, r5, r6, r7, r8, r9) := by rw [if_neg (by simp)] at H; exact H
        clear H
        simp only [Option.some.injEq, Prod.mk.injEq] at H2
        obtain ⟨rfl, rfl, rfl, rfl, rfl, rfl, rfl, rfl, rfl⟩ := H2
        go_wp2_with (first | ((with_reducible refine gate_callee (f := 57) rfl ?_); refine gl (some 60) Try.func57 #[.string a0, .int .i64 at_] ?_; (with_reducible refine (impl_ReadShort.calls k a0 at_ n e false _ AV.out).mono ?_); rintro e8 w8 ⟨rfl, ⟨nd, rfl⟩⟩; refine ⟨_, rfl, ?_⟩; have nBR := ak (bG (w' := World.drewN wr nd) BR); have nBG := ak (bG (w' := World.drewN wr nd) BG); have nBS := ak (bG (w' := World.drewN wr nd) BS); have nHB := ak (lG (w' := World.drewN wr nd) HB); clear BR BG BS HB; generalize World.drewN wr nd = w8 at nBR nBG nBS nHB ⊢; have BR := nBR; have BG := nBG; have BS := nBS; have HB := nHB; clear nBR nBG nBS nHB;  have hcg_0 : w8.cell? ⟨gg, 0, none⟩ = some (.int .i64 0) := bc BG 0; have hfg_0 := blk_frozen BG.out 0; have hcg_1 : w8.cell? ⟨gg, 1, none⟩ = some (.int .i64 0) := bc BG 1; have hfg_1 := blk_frozen BG.out 1; have hcg_2 : w8.cell? ⟨gg, 2, none⟩ = some (.int .i64 0) := bc BG 2; have hfg_2 := blk_frozen BG.out 2; have hcg_3 : w8.cell? ⟨gg, 3, none⟩ = some (.int .i64 0) := bc BG 3; have hfg_3 := blk_frozen BG.out 3; have hcg_4 : w8.cell? ⟨gg, 4, none⟩ = some (.int .i64 0) := bc BG 4; have hfg_4 := blk_frozen BG.out 4; have hcg_5 : w8.cell? ⟨gg, 5, none⟩ = some (.string (⟨#[]⟩ : ByteArray)) := bc BG 5; have hfg_5 := blk_frozen BG.out 5; have hcg_6 : w8.cell? ⟨gg, 6, none⟩ = some (.string (⟨#[]⟩ : ByteArray)) := bc BG 6; have hfg_6 := blk_frozen BG.out 6; have hcg_7 : w8.cell? ⟨gg, 7, none⟩ = some (.string (⟨#[]⟩ : ByteArray)) := bc BG 7; have hfg_7 := blk_frozen BG.out 7; skip))
        refine bodyPost_ret (results_ct rfl _ _ gg 23 #[.int .i64 0, .int .i64 0, .int .i64 0, .int .i64 0, .int .i64 0, .string (⟨#[]⟩ : ByteArray), .string (⟨#[]⟩ : ByteArray), .string (⟨#[]⟩ : ByteArray)] (0, 0) _ rfl (bW BG) Try.underlying23 rfl (by kernel_rfl)) rfl ?_
        exact ⟨ew, by exact lT HB (gC GG gN)⟩
      ·obtain rfl : jj = 1 := HX.out.2.1
       obtain rfl : gk = 2 := by have := HX.out.1; simp at this; omega
       have H : ((impl_ReadShort.f k a0 at_).bind fun b_ => if b_.2.2 = true then impl_ReadRec.rs k a0 (fun at2 s => impl_ReadRec.fin k a0 [a, b, c, d] at2 s) 1 b_.2.1 ([x] ++ [b_.1]) else some (0, 0, 0, 0, 0, (⟨#[]⟩ : ByteArray), (⟨#[]⟩ : ByteArray), (⟨#[]⟩ : ByteArray), false)) = some (r1, r2, r3, r4, r5, r6, r7, r8, r9) := HX.out.2.2
       have BR : Aside0 (wr.heap[gr]? = some (.cells #[.int .i64 (wrap64 (bt a0 0)), .int .i64 a, .int .i64 b, .int .i64 c, .int .i64 d, .string x, .string (⟨#[]⟩ : ByteArray), .string (⟨#[]⟩ : ByteArray)] 23 (0, 0))) := ⟨BR.out⟩
       clear HX
       replace H := Option.bind_eq_some_iff.mp H
       obtain ⟨⟨n, e, ok⟩, A0, H⟩ := H
       have AV := Aside0.mk A0
       clear A0
       have hsl : wr.cell? ⟨gs2, 1, none⟩ = some (.pointer (some ⟨gr, 6, none⟩)) := bc BS 1
       have hng := NGR.out
       cases ok with
       | true =>
        have H2 : impl_ReadRec.rs k a0 (fun at2 s => impl_ReadRec.fin k a0 [a, b, c, d] at2 s) 1 e ([x] ++ [n]) = some (r1, r2, r3, r4, r5, r6, r7, r8, r9) := by rw [if_pos rfl] at H; exact H
        have HA := Aside0.mk H2
        clear H H2
        go_wp2_with (first | ((with_reducible refine gate_callee (f := 57) rfl ?_); refine gl (some 60) Try.func57 #[.string a0, .int .i64 at_] ?_; (with_reducible refine (impl_ReadShort.calls k a0 at_ n e true _ AV.out).mono ?_); rintro e8 w8 ⟨rfl, ⟨nd, rfl⟩⟩; refine ⟨_, rfl, ?_⟩; have nBR := ak (bG (w' := World.drewN wr nd) BR); have nBG := ak (bG (w' := World.drewN wr nd) BG); have nBS := ak (bG (w' := World.drewN wr nd) BS); have nHB := ak (lG (w' := World.drewN wr nd) HB); clear BR BG BS HB; generalize World.drewN wr nd = w8 at nBR nBG nBS nHB ⊢; have BR := nBR; have BG := nBG; have BS := nBS; have HB := nHB; clear nBR nBG nBS nHB;  have hcr_0 : w8.cell? ⟨gr, 0, none⟩ = some (.int .i64 (wrap64 (bt a0 0))) := bc BR 0; have hfr_0 := blk_frozen BR.out 0; have hcr_1 : w8.cell? ⟨gr, 1, none⟩ = some (.int .i64 a) := bc BR 1; have hfr_1 := blk_frozen BR.out 1; have hcr_2 : w8.cell? ⟨gr, 2, none⟩ = some (.int .i64 b) := bc BR 2; have hfr_2 := blk_frozen BR.out 2; have hcr_3 : w8.cell? ⟨gr, 3, none⟩ = some (.int .i64 c) := bc BR 3; have hfr_3 := blk_frozen BR.out 3; have hcr_4 : w8.cell? ⟨gr, 4, none⟩ = some (.int .i64 d) := bc BR 4; have hfr_4 := blk_frozen BR.out 4; have hcr_5 : w8.cell? ⟨gr, 5, none⟩ = some (.string x) := bc BR 5; have hfr_5 := blk_frozen BR.out 5; have hcr_6 : w8.cell? ⟨gr, 6, none⟩ = some (.string (⟨#[]⟩ : ByteArray)) := bc BR 6; have hfr_6 := blk_frozen BR.out 6; have hcr_7 : w8.cell? ⟨gr, 7, none⟩ = some (.string (⟨#[]⟩ : ByteArray)) := bc BR 7; have hfr_7 := blk_frozen BR.out 7; have hcg_0 : w8.cell? ⟨gg, 0, none⟩ = some (.int .i64 0) := bc BG 0; have hfg_0 := blk_frozen BG.out 0; have hcg_1 : w8.cell? ⟨gg, 1, none⟩ = some (.int .i64 0) := bc BG 1; have hfg_1 := blk_frozen BG.out 1; have hcg_2 : w8.cell? ⟨gg, 2, none⟩ = some (.int .i64 0) := bc BG 2; have hfg_2 := blk_frozen BG.out 2; have hcg_3 : w8.cell? ⟨gg, 3, none⟩ = some (.int .i64 0) := bc BG 3; have hfg_3 := blk_frozen BG.out 3; have hcg_4 : w8.cell? ⟨gg, 4, none⟩ = some (.int .i64 0) := bc BG 4; have hfg_4 := blk_frozen BG.out 4; have hcg_5 : w8.cell? ⟨gg, 5, none⟩ = some (.string (⟨#[]⟩ : ByteArray)) := bc BG 5; have hfg_5 := blk_frozen BG.out 5; have hcg_6 : w8.cell? ⟨gg, 6, none⟩ = some (.string (⟨#[]⟩ : ByteArray)) := bc BG 6; have hfg_6 := blk_frozen BG.out 6; have hcg_7 : w8.cell? ⟨gg, 7, none⟩ = some (.string (⟨#[]⟩ : ByteArray)) := bc BG 7; have hfg_7 := blk_frozen BG.out 7; skip))
        go_roundg 1
        case measure => omega
        case rel => exact ⟨e, 2, [x, n], (by first | rfl | (simp; done)), (by first | rfl | (simp; done)), ⟨rfl, rfl, HA.out⟩, ⟨bW BR⟩, ⟨bT BG (nC NGR nN)⟩, ⟨bT BS (nC NS2R nN)⟩, ⟨lT HB (gC GR gN)⟩⟩
       | false =>
        have H2 : some (0, 0, 0, 0, 0, (⟨#[]⟩ : ByteArray), (⟨#[]⟩ : ByteArray), (⟨#[]⟩ : ByteArray), false) = some (r1, r2, r3, r4, r5, r6, r7, r8, r9) := by rw [if_neg (by simp)] at H; exact H
        clear H
        simp only [Option.some.injEq, Prod.mk.injEq] at H2
        obtain ⟨rfl, rfl, rfl, rfl, rfl, rfl, rfl, rfl, rfl⟩ := H2
        go_wp2_with (first | ((with_reducible refine gate_callee (f := 57) rfl ?_); refine gl (some 60) Try.func57 #[.string a0, .int .i64 at_] ?_; (with_reducible refine (impl_ReadShort.calls k a0 at_ n e false _ AV.out).mono ?_); rintro e8 w8 ⟨rfl, ⟨nd, rfl⟩⟩; refine ⟨_, rfl, ?_⟩; have nBR := ak (bG (w' := World.drewN wr nd) BR); have nBG := ak (bG (w' := World.drewN wr nd) BG); have nBS := ak (bG (w' := World.drewN wr nd) BS); have nHB := ak (lG (w' := World.drewN wr nd) HB); clear BR BG BS HB; generalize World.drewN wr nd = w8 at nBR nBG nBS nHB ⊢; have BR := nBR; have BG := nBG; have BS := nBS; have HB := nHB; clear nBR nBG nBS nHB;  have hcg_0 : w8.cell? ⟨gg, 0, none⟩ = some (.int .i64 0) := bc BG 0; have hfg_0 := blk_frozen BG.out 0; have hcg_1 : w8.cell? ⟨gg, 1, none⟩ = some (.int .i64 0) := bc BG 1; have hfg_1 := blk_frozen BG.out 1; have hcg_2 : w8.cell? ⟨gg, 2, none⟩ = some (.int .i64 0) := bc BG 2; have hfg_2 := blk_frozen BG.out 2; have hcg_3 : w8.cell? ⟨gg, 3, none⟩ = some (.int .i64 0) := bc BG 3; have hfg_3 := blk_frozen BG.out 3; have hcg_4 : w8.cell? ⟨gg, 4, none⟩ = some (.int .i64 0) := bc BG 4; have hfg_4 := blk_frozen BG.out 4; have hcg_5 : w8.cell? ⟨gg, 5, none⟩ = some (.string (⟨#[]⟩ : ByteArray)) := bc BG 5; have hfg_5 := blk_frozen BG.out 5; have hcg_6 : w8.cell? ⟨gg, 6, none⟩ = some (.string (⟨#[]⟩ : ByteArray)) := bc BG 6; have hfg_6 := blk_frozen BG.out 6; have hcg_7 : w8.cell? ⟨gg, 7, none⟩ = some (.string (⟨#[]⟩ : ByteArray)) := bc BG 7; have hfg_7 := blk_frozen BG.out 7; skip))
        refine bodyPost_ret (results_ct rfl _ _ gg 23 #[.int .i64 0, .int .i64 0, .int .i64 0, .int .i64 0, .int .i64 0, .string (⟨#[]⟩ : ByteArray), .string (⟨#[]⟩ : ByteArray), .string (⟨#[]⟩ : ByteArray)] (0, 0) _ rfl (bW BG) Try.underlying23 rfl (by kernel_rfl)) rfl ?_
        exact ⟨ew, by exact lT HB (gC GG gN)⟩
      ·obtain rfl : jj = 2 := HX.out.2.1
       obtain rfl : gk = 1 := by have := HX.out.1; simp at this; omega
       have H : ((impl_ReadShort.f k a0 at_).bind fun b_ => if b_.2.2 = true then impl_ReadRec.rs k a0 (fun at2 s => impl_ReadRec.fin k a0 [a, b, c, d] at2 s) 0 b_.2.1 ([x, y] ++ [b_.1]) else some (0, 0, 0, 0, 0, (⟨#[]⟩ : ByteArray), (⟨#[]⟩ : ByteArray), (⟨#[]⟩ : ByteArray), false)) = some (r1, r2, r3, r4, r5, r6, r7, r8, r9) := HX.out.2.2
       have BR : Aside0 (wr.heap[gr]? = some (.cells #[.int .i64 (wrap64 (bt a0 0)), .int .i64 a, .int .i64 b, .int .i64 c, .int .i64 d, .string x, .string y, .string (⟨#[]⟩ : ByteArray)] 23 (0, 0))) := ⟨BR.out⟩
       clear HX
       replace H := Option.bind_eq_some_iff.mp H
       obtain ⟨⟨n, e, ok⟩, A0, H⟩ := H
       have AV := Aside0.mk A0
       clear A0
       have hsl : wr.cell? ⟨gs2, 2, none⟩ = some (.pointer (some ⟨gr, 7, none⟩)) := bc BS 2
       have hng := NGR.out
       cases ok with
       | true =>
        have H2 : impl_ReadRec.rs k a0 (fun at2 s => impl_ReadRec.fin k a0 [a, b, c, d] at2 s) 0 e ([x, y] ++ [n]) = some (r1, r2, r3, r4, r5, r6, r7, r8, r9) := by rw [if_pos rfl] at H; exact H
        have HA := Aside0.mk H2
        clear H H2
        go_wp2_with (first | ((with_reducible refine gate_callee (f := 57) rfl ?_); refine gl (some 60) Try.func57 #[.string a0, .int .i64 at_] ?_; (with_reducible refine (impl_ReadShort.calls k a0 at_ n e true _ AV.out).mono ?_); rintro e8 w8 ⟨rfl, ⟨nd, rfl⟩⟩; refine ⟨_, rfl, ?_⟩; have nBR := ak (bG (w' := World.drewN wr nd) BR); have nBG := ak (bG (w' := World.drewN wr nd) BG); have nBS := ak (bG (w' := World.drewN wr nd) BS); have nHB := ak (lG (w' := World.drewN wr nd) HB); clear BR BG BS HB; generalize World.drewN wr nd = w8 at nBR nBG nBS nHB ⊢; have BR := nBR; have BG := nBG; have BS := nBS; have HB := nHB; clear nBR nBG nBS nHB;  have hcr_0 : w8.cell? ⟨gr, 0, none⟩ = some (.int .i64 (wrap64 (bt a0 0))) := bc BR 0; have hfr_0 := blk_frozen BR.out 0; have hcr_1 : w8.cell? ⟨gr, 1, none⟩ = some (.int .i64 a) := bc BR 1; have hfr_1 := blk_frozen BR.out 1; have hcr_2 : w8.cell? ⟨gr, 2, none⟩ = some (.int .i64 b) := bc BR 2; have hfr_2 := blk_frozen BR.out 2; have hcr_3 : w8.cell? ⟨gr, 3, none⟩ = some (.int .i64 c) := bc BR 3; have hfr_3 := blk_frozen BR.out 3; have hcr_4 : w8.cell? ⟨gr, 4, none⟩ = some (.int .i64 d) := bc BR 4; have hfr_4 := blk_frozen BR.out 4; have hcr_5 : w8.cell? ⟨gr, 5, none⟩ = some (.string x) := bc BR 5; have hfr_5 := blk_frozen BR.out 5; have hcr_6 : w8.cell? ⟨gr, 6, none⟩ = some (.string y) := bc BR 6; have hfr_6 := blk_frozen BR.out 6; have hcr_7 : w8.cell? ⟨gr, 7, none⟩ = some (.string (⟨#[]⟩ : ByteArray)) := bc BR 7; have hfr_7 := blk_frozen BR.out 7; have hcg_0 : w8.cell? ⟨gg, 0, none⟩ = some (.int .i64 0) := bc BG 0; have hfg_0 := blk_frozen BG.out 0; have hcg_1 : w8.cell? ⟨gg, 1, none⟩ = some (.int .i64 0) := bc BG 1; have hfg_1 := blk_frozen BG.out 1; have hcg_2 : w8.cell? ⟨gg, 2, none⟩ = some (.int .i64 0) := bc BG 2; have hfg_2 := blk_frozen BG.out 2; have hcg_3 : w8.cell? ⟨gg, 3, none⟩ = some (.int .i64 0) := bc BG 3; have hfg_3 := blk_frozen BG.out 3; have hcg_4 : w8.cell? ⟨gg, 4, none⟩ = some (.int .i64 0) := bc BG 4; have hfg_4 := blk_frozen BG.out 4; have hcg_5 : w8.cell? ⟨gg, 5, none⟩ = some (.string (⟨#[]⟩ : ByteArray)) := bc BG 5; have hfg_5 := blk_frozen BG.out 5; have hcg_6 : w8.cell? ⟨gg, 6, none⟩ = some (.string (⟨#[]⟩ : ByteArray)) := bc BG 6; have hfg_6 := blk_frozen BG.out 6; have hcg_7 : w8.cell? ⟨gg, 7, none⟩ = some (.string (⟨#[]⟩ : ByteArray)) := bc BG 7; have hfg_7 := blk_frozen BG.out 7; skip))
        go_roundg 0
        case measure => omega
        case rel => exact ⟨e, 3, [x, y, n], (by first | rfl | (simp; done)), (by first | rfl | (simp; done)), ⟨rfl, rfl, HA.out⟩, ⟨bW BR⟩, ⟨bT BG (nC NGR nN)⟩, ⟨bT BS (nC NS2R nN)⟩, ⟨lT HB (gC GR gN)⟩⟩
       | false =>
        have H2 : some (0, 0, 0, 0, 0, (⟨#[]⟩ : ByteArray), (⟨#[]⟩ : ByteArray), (⟨#[]⟩ : ByteArray), false) = some (r1, r2, r3, r4, r5, r6, r7, r8, r9) := by rw [if_neg (by simp)] at H; exact H
        clear H
        simp only [Option.some.injEq, Prod.mk.injEq] at H2
        obtain ⟨rfl, rfl, rfl, rfl, rfl, rfl, rfl, rfl, rfl⟩ := H2
        go_wp2_with (first | ((with_reducible refine gate_callee (f := 57) rfl ?_); refine gl (some 60) Try.func57 #[.string a0, .int .i64 at_] ?_; (with_reducible refine (impl_ReadShort.calls k a0 at_ n e false _ AV.out).mono ?_); rintro e8 w8 ⟨rfl, ⟨nd, rfl⟩⟩; refine ⟨_, rfl, ?_⟩; have nBR := ak (bG (w' := World.drewN wr nd) BR); have nBG := ak (bG (w' := World.drewN wr nd) BG); have nBS := ak (bG (w' := World.drewN wr nd) BS); have nHB := ak (lG (w' := World.drewN wr nd) HB); clear BR BG BS HB; generalize World.drewN wr nd = w8 at nBR nBG nBS nHB ⊢; have BR := nBR; have BG := nBG; have BS := nBS; have HB := nHB; clear nBR nBG nBS nHB;  have hcg_0 : w8.cell? ⟨gg, 0, none⟩ = some (.int .i64 0) := bc BG 0; have hfg_0 := blk_frozen BG.out 0; have hcg_1 : w8.cell? ⟨gg, 1, none⟩ = some (.int .i64 0) := bc BG 1; have hfg_1 := blk_frozen BG.out 1; have hcg_2 : w8.cell? ⟨gg, 2, none⟩ = some (.int .i64 0) := bc BG 2; have hfg_2 := blk_frozen BG.out 2; have hcg_3 : w8.cell? ⟨gg, 3, none⟩ = some (.int .i64 0) := bc BG 3; have hfg_3 := blk_frozen BG.out 3; have hcg_4 : w8.cell? ⟨gg, 4, none⟩ = some (.int .i64 0) := bc BG 4; have hfg_4 := blk_frozen BG.out 4; have hcg_5 : w8.cell? ⟨gg, 5, none⟩ = some (.string (⟨#[]⟩ : ByteArray)) := bc BG 5; have hfg_5 := blk_frozen BG.out 5; have hcg_6 : w8.cell? ⟨gg, 6, none⟩ = some (.string (⟨#[]⟩ : ByteArray)) := bc BG 6; have hfg_6 := blk_frozen BG.out 6; have hcg_7 : w8.cell? ⟨gg, 7, none⟩ = some (.string (⟨#[]⟩ : ByteArray)) := bc BG 7; have hfg_7 := blk_frozen BG.out 7; skip))
        refine bodyPost_ret (results_ct rfl _ _ gg 23 #[.int .i64 0, .int .i64 0, .int .i64 0, .int .i64 0, .int .i64 0, .string (⟨#[]⟩ : ByteArray), .string (⟨#[]⟩ : ByteArray), .string (⟨#[]⟩ : ByteArray)] (0, 0) _ rfl (bW BG) Try.underlying23 rfl (by kernel_rfl)) rfl ?_
        exact ⟨ew, by exact lT HB (gC GG gN)⟩
      ·obtain rfl : jj = 3 := HX.out.2.1
       obtain rfl : gk = 0 := by have := HX.out.1; simp at this; omega
       have H : (if at_ = (a0.size : Int) then (impl_RecOk.f k (wrap64 (bt a0 0)) a b c d x y z).bind fun b_ => if b_ = true then some (wrap64 (bt a0 0), a, b, c, d, x, y, z, true) else some (0, 0, 0, 0, 0, (⟨#[]⟩ : ByteArray), (⟨#[]⟩ : ByteArray), (⟨#[]⟩ : ByteArray), false) else some (0, 0, 0, 0, 0, (⟨#[]⟩ : ByteArray), (⟨#[]⟩ : ByteArray), (⟨#[]⟩ : ByteArray), false)) = some (r1, r2, r3, r4, r5, r6, r7, r8, r9) := HX.out.2.2
       have BR : Aside0 (wr.heap[gr]? = some (.cells #[.int .i64 (wrap64 (bt a0 0)), .int .i64 a, .int .i64 b, .int .i64 c, .int .i64 d, .string x, .string y, .string z] 23 (0, 0))) := ⟨BR.out⟩
       clear HX BS
       have hng := NGR.out
       have hcg_0 : wr.cell? ⟨gg, 0, none⟩ = some (.int .i64 0) := bc BG 0
       have hfg_0 := blk_frozen BG.out 0
       have hcg_1 : wr.cell? ⟨gg, 1, none⟩ = some (.int .i64 0) := bc BG 1
       have hfg_1 := blk_frozen BG.out 1
       have hcg_2 : wr.cell? ⟨gg, 2, none⟩ = some (.int .i64 0) := bc BG 2
       have hfg_2 := blk_frozen BG.out 2
       have hcg_3 : wr.cell? ⟨gg, 3, none⟩ = some (.int .i64 0) := bc BG 3
       have hfg_3 := blk_frozen BG.out 3
       have hcg_4 : wr.cell? ⟨gg, 4, none⟩ = some (.int .i64 0) := bc BG 4
       have hfg_4 := blk_frozen BG.out 4
       have hcg_5 : wr.cell? ⟨gg, 5, none⟩ = some (.string (⟨#[]⟩ : ByteArray)) := bc BG 5
       have hfg_5 := blk_frozen BG.out 5
       have hcg_6 : wr.cell? ⟨gg, 6, none⟩ = some (.string (⟨#[]⟩ : ByteArray)) := bc BG 6
       have hfg_6 := blk_frozen BG.out 6
       have hcg_7 : wr.cell? ⟨gg, 7, none⟩ = some (.string (⟨#[]⟩ : ByteArray)) := bc BG 7
       have hfg_7 := blk_frozen BG.out 7
       have hcr_0 : wr.cell? ⟨gr, 0, none⟩ = some (.int .i64 (wrap64 (bt a0 0))) := bc BR 0
       have hfr_0 := blk_frozen BR.out 0
       have hcr_1 : wr.cell? ⟨gr, 1, none⟩ = some (.int .i64 a) := bc BR 1
       have hfr_1 := blk_frozen BR.out 1
       have hcr_2 : wr.cell? ⟨gr, 2, none⟩ = some (.int .i64 b) := bc BR 2
       have hfr_2 := blk_frozen BR.out 2
       have hcr_3 : wr.cell? ⟨gr, 3, none⟩ = some (.int .i64 c) := bc BR 3
       have hfr_3 := blk_frozen BR.out 3
       have hcr_4 : wr.cell? ⟨gr, 4, none⟩ = some (.int .i64 d) := bc BR 4
       have hfr_4 := blk_frozen BR.out 4
       have hcr_5 : wr.cell? ⟨gr, 5, none⟩ = some (.string x) := bc BR 5
       have hfr_5 := blk_frozen BR.out 5
       have hcr_6 : wr.cell? ⟨gr, 6, none⟩ = some (.string y) := bc BR 6
       have hfr_6 := blk_frozen BR.out 6
       have hcr_7 : wr.cell? ⟨gr, 7, none⟩ = some (.string z) := bc BR 7
       have hfr_7 := blk_frozen BR.out 7
       by_cases c9 : at_ = (a0.size : Int)
       ·rw [if_pos c9] at H
        have c9b0 : (at_ == (a0.size : Int)) = true := beq_iff_eq.mpr c9
        have c9b1 : (at_ != (a0.size : Int)) = false := bne_eq_false_iff_eq.mpr c9
        clear c9
        replace H := Option.bind_eq_some_iff.mp H
        obtain ⟨ok, A0, H⟩ := H
        have AV := Aside0.mk A0
        clear A0
        cases ok with
        | true =>
         have H2 : some (wrap64 (bt a0 0), a, b, c, d, x, y, z, true) = some (r1, r2, r3, r4, r5, r6, r7, r8, r9) := by rw [if_pos rfl] at H; exact H
         clear H
         simp only [Option.some.injEq, Prod.mk.injEq] at H2
         obtain ⟨rfl, rfl, rfl, rfl, rfl, rfl, rfl, rfl, rfl⟩ := H2
         go_wp2_with (first | (go_at_call 28; (with_reducible refine (impl_RecOk.calls k (wrap64 (bt a0 0)) a b c d x y z true _ AV.out).mono ?_); rintro e8 w8 ⟨rfl, hb⟩; replace BR := bB BR hb; replace BG := bB BG hb; replace HB := lB HB hb; clear hb; have hcrr_0 : w8.cell? ⟨gr, 0, none⟩ = some (.int .i64 (wrap64 (bt a0 0))) := bc BR 0; have hfrr_0 := blk_frozen BR.out 0; have hcrr_1 : w8.cell? ⟨gr, 1, none⟩ = some (.int .i64 a) := bc BR 1; have hfrr_1 := blk_frozen BR.out 1; have hcrr_2 : w8.cell? ⟨gr, 2, none⟩ = some (.int .i64 b) := bc BR 2; have hfrr_2 := blk_frozen BR.out 2; have hcrr_3 : w8.cell? ⟨gr, 3, none⟩ = some (.int .i64 c) := bc BR 3; have hfrr_3 := blk_frozen BR.out 3; have hcrr_4 : w8.cell? ⟨gr, 4, none⟩ = some (.int .i64 d) := bc BR 4; have hfrr_4 := blk_frozen BR.out 4; have hcrr_5 : w8.cell? ⟨gr, 5, none⟩ = some (.string x) := bc BR 5; have hfrr_5 := blk_frozen BR.out 5; have hcrr_6 : w8.cell? ⟨gr, 6, none⟩ = some (.string y) := bc BR 6; have hfrr_6 := blk_frozen BR.out 6; have hcrr_7 : w8.cell? ⟨gr, 7, none⟩ = some (.string z) := bc BR 7; have hfrr_7 := blk_frozen BR.out 7; have hcgg_0 : w8.cell? ⟨gg, 0, none⟩ = some (.int .i64 0) := bc BG 0; have hfgg_0 := blk_frozen BG.out 0; have hcgg_1 : w8.cell? ⟨gg, 1, none⟩ = some (.int .i64 0) := bc BG 1; have hfgg_1 := blk_frozen BG.out 1; have hcgg_2 : w8.cell? ⟨gg, 2, none⟩ = some (.int .i64 0) := bc BG 2; have hfgg_2 := blk_frozen BG.out 2; have hcgg_3 : w8.cell? ⟨gg, 3, none⟩ = some (.int .i64 0) := bc BG 3; have hfgg_3 := blk_frozen BG.out 3; have hcgg_4 : w8.cell? ⟨gg, 4, none⟩ = some (.int .i64 0) := bc BG 4; have hfgg_4 := blk_frozen BG.out 4; have hcgg_5 : w8.cell? ⟨gg, 5, none⟩ = some (.string (⟨#[]⟩ : ByteArray)) := bc BG 5; have hfgg_5 := blk_frozen BG.out 5; have hcgg_6 : w8.cell? ⟨gg, 6, none⟩ = some (.string (⟨#[]⟩ : ByteArray)) := bc BG 6; have hfgg_6 := blk_frozen BG.out 6; have hcgg_7 : w8.cell? ⟨gg, 7, none⟩ = some (.string (⟨#[]⟩ : ByteArray)) := bc BG 7; have hfgg_7 := blk_frozen BG.out 7; skip))
         refine bodyPost_ret (results_ct rfl _ _ gg 23 #[.int .i64 (wrap64 (bt a0 0)), .int .i64 a, .int .i64 b, .int .i64 c, .int .i64 d, .string x, .string y, .string z] (0, 0) _ rfl (bW BG) Try.underlying23 rfl (by kernel_rfl)) rfl ?_
         exact ⟨ew, by exact lT HB (gC GG gN)⟩
        | false =>
         have H2 : some (0, 0, 0, 0, 0, (⟨#[]⟩ : ByteArray), (⟨#[]⟩ : ByteArray), (⟨#[]⟩ : ByteArray), false) = some (r1, r2, r3, r4, r5, r6, r7, r8, r9) := by rw [if_neg (by simp)] at H; exact H
         clear H
         simp only [Option.some.injEq, Prod.mk.injEq] at H2
         obtain ⟨rfl, rfl, rfl, rfl, rfl, rfl, rfl, rfl, rfl⟩ := H2
         go_wp2_with (first | (go_at_call 28; (with_reducible refine (impl_RecOk.calls k (wrap64 (bt a0 0)) a b c d x y z false _ AV.out).mono ?_); rintro e8 w8 ⟨rfl, hb⟩; replace BR := bB BR hb; replace BG := bB BG hb; replace HB := lB HB hb; clear hb; have hcrr_0 : w8.cell? ⟨gr, 0, none⟩ = some (.int .i64 (wrap64 (bt a0 0))) := bc BR 0; have hfrr_0 := blk_frozen BR.out 0; have hcrr_1 : w8.cell? ⟨gr, 1, none⟩ = some (.int .i64 a) := bc BR 1; have hfrr_1 := blk_frozen BR.out 1; have hcrr_2 : w8.cell? ⟨gr, 2, none⟩ = some (.int .i64 b) := bc BR 2; have hfrr_2 := blk_frozen BR.out 2; have hcrr_3 : w8.cell? ⟨gr, 3, none⟩ = some (.int .i64 c) := bc BR 3; have hfrr_3 := blk_frozen BR.out 3; have hcrr_4 : w8.cell? ⟨gr, 4, none⟩ = some (.int .i64 d) := bc BR 4; have hfrr_4 := blk_frozen BR.out 4; have hcrr_5 : w8.cell? ⟨gr, 5, none⟩ = some (.string x) := bc BR 5; have hfrr_5 := blk_frozen BR.out 5; have hcrr_6 : w8.cell? ⟨gr, 6, none⟩ = some (.string y) := bc BR 6; have hfrr_6 := blk_frozen BR.out 6; have hcrr_7 : w8.cell? ⟨gr, 7, none⟩ = some (.string z) := bc BR 7; have hfrr_7 := blk_frozen BR.out 7; have hcgg_0 : w8.cell? ⟨gg, 0, none⟩ = some (.int .i64 0) := bc BG 0; have hfgg_0 := blk_frozen BG.out 0; have hcgg_1 : w8.cell? ⟨gg, 1, none⟩ = some (.int .i64 0) := bc BG 1; have hfgg_1 := blk_frozen BG.out 1; have hcgg_2 : w8.cell? ⟨gg, 2, none⟩ = some (.int .i64 0) := bc BG 2; have hfgg_2 := blk_frozen BG.out 2; have hcgg_3 : w8.cell? ⟨gg, 3, none⟩ = some (.int .i64 0) := bc BG 3; have hfgg_3 := blk_frozen BG.out 3; have hcgg_4 : w8.cell? ⟨gg, 4, none⟩ = some (.int .i64 0) := bc BG 4; have hfgg_4 := blk_frozen BG.out 4; have hcgg_5 : w8.cell? ⟨gg, 5, none⟩ = some (.string (⟨#[]⟩ : ByteArray)) := bc BG 5; have hfgg_5 := blk_frozen BG.out 5; have hcgg_6 : w8.cell? ⟨gg, 6, none⟩ = some (.string (⟨#[]⟩ : ByteArray)) := bc BG 6; have hfgg_6 := blk_frozen BG.out 6; have hcgg_7 : w8.cell? ⟨gg, 7, none⟩ = some (.string (⟨#[]⟩ : ByteArray)) := bc BG 7; have hfgg_7 := blk_frozen BG.out 7; skip))
         refine bodyPost_ret (results_ct rfl _ _ gg 23 #[.int .i64 0, .int .i64 0, .int .i64 0, .int .i64 0, .int .i64 0, .string (⟨#[]⟩ : ByteArray), .string (⟨#[]⟩ : ByteArray), .string (⟨#[]⟩ : ByteArray)] (0, 0) _ rfl (bW BG) Try.underlying23 rfl (by kernel_rfl)) rfl ?_
         exact ⟨ew, by exact lT HB (gC GG gN)⟩
       ·rw [if_neg c9] at H
        have c9b0 : (at_ == (a0.size : Int)) = false := beq_eq_false_iff_ne.mpr c9
        have c9b1 : (at_ != (a0.size : Int)) = true := bne_iff_ne.mpr c9
        clear c9
        simp only [Option.some.injEq, Prod.mk.injEq] at H
        obtain ⟨rfl, rfl, rfl, rfl, rfl, rfl, rfl, rfl, rfl⟩ := H
        go_wp2
        refine bodyPost_ret (results_ct rfl _ _ gg 23 #[.int .i64 0, .int .i64 0, .int .i64 0, .int .i64 0, .int .i64 0, .string (⟨#[]⟩ : ByteArray), .string (⟨#[]⟩ : ByteArray), .string (⟨#[]⟩ : ByteArray)] (0, 0) _ rfl (bW BG) Try.underlying23 rfl (by kernel_rfl)) rfl ?_
        exact ⟨ew, by exact lT HB (gC GG gN)⟩
      ·exact absurd HX.out.1 (by simp only [List.length_cons]; omega)
    ·exact absurd HX.out.1 (by simp only [List.length_cons]; omega)
  ·rw [if_neg c5] at h
   exact absurd h (by simp)


/-! ### laws_eqRec: function 12 -/
def laws_eqRec.f (a0_0 : Int) (a0_1 : Int) (a0_2 : Int) (a0_3 : Int) (a0_4 : Int) (a0_5 : ByteArray) (a0_6 : ByteArray) (a0_7 : ByteArray) (a1_0 : Int) (a1_1 : Int) (a1_2 : Int) (a1_3 : Int) (a1_4 : Int) (a1_5 : ByteArray) (a1_6 : ByteArray) (a1_7 : ByteArray) : Option (Bool) := if a0_0 = a1_0 then (if a0_1 = a1_1 then (if a0_2 = a1_2 then (if a0_3 = a1_3 then (if a0_4 = a1_4 then (if a0_5.toList = a1_5.toList then (if a0_6.toList = a1_6.toList then (if a0_7.toList = a1_7.toList then (some true) else (some false)) else (some false)) else (some false)) else (some false)) else (some false)) else (some false)) else (some false)) else (some false)
set_option maxHeartbeats 8000000 in
set_option maxRecDepth 100000 in
theorem laws_eqRec.calls (a0_0 : Int) (a0_1 : Int) (a0_2 : Int) (a0_3 : Int) (a0_4 : Int) (a0_5 : ByteArray) (a0_6 : ByteArray) (a0_7 : ByteArray) (a1_0 : Int) (a1_1 : Int) (a1_2 : Int) (a1_3 : Int) (a1_4 : Int) (a1_5 : ByteArray) (a1_6 : ByteArray) (a1_7 : ByteArray) (r : Bool) (w : World) (h : laws_eqRec.f a0_0 a0_1 a0_2 a0_3 a0_4 a0_5 a0_6 a0_7 a1_0 a1_1 a1_2 a1_3 a1_4 a1_5 a1_6 a1_7 = some r) :
  Calls Try.prog 12 #[.agg #[.int .i64 a0_0, .int .i64 a0_1, .int .i64 a0_2, .int .i64 a0_3, .int .i64 a0_4, .string a0_5, .string a0_6, .string a0_7], .agg #[.int .i64 a1_0, .int .i64 a1_1, .int .i64 a1_2, .int .i64 a1_3, .int .i64 a1_4, .string a1_5, .string a1_6, .string a1_7]] w fun e w' => e = .returned (.bool r) ∧ Below w.heap.size w w' := by
 have hu23 := Try.underlying23
 have HB := ak (Below.refl w.heap.size w)
 have H : (if a0_0 = a1_0 then (if a0_1 = a1_1 then (if a0_2 = a1_2 then (if a0_3 = a1_3 then (if a0_4 = a1_4 then (if a0_5.toList = a1_5.toList then (if a0_6.toList = a1_6.toList then (if a0_7.toList = a1_7.toList then (some true) else (some false)) else (some false)) else (some false)) else (some false)) else (some false)) else (some false)) else (some false)) else (some false)) = some r := h
 clear h
 by_cases c3 : a0_0 = a1_0
 ·rw [if_pos c3] at H
  have c3b0 : (a0_0 == a1_0) = true := beq_iff_eq.mpr c3
  have c3b1 : (a0_0 != a1_0) = false := bne_eq_false_iff_eq.mpr c3
  clear c3
  by_cases c4 : a0_1 = a1_1
  ·rw [if_pos c4] at H
   have c4b0 : (a0_1 == a1_1) = true := beq_iff_eq.mpr c4
   have c4b1 : (a0_1 != a1_1) = false := bne_eq_false_iff_eq.mpr c4
   clear c4
   by_cases c5 : a0_2 = a1_2
   ·rw [if_pos c5] at H
    have c5b0 : (a0_2 == a1_2) = true := beq_iff_eq.mpr c5
    have c5b1 : (a0_2 != a1_2) = false := bne_eq_false_iff_eq.mpr c5
    clear c5
    by_cases c6 : a0_3 = a1_3
    ·rw [if_pos c6] at H
     have c6b0 : (a0_3 == a1_3) = true := beq_iff_eq.mpr c6
     have c6b1 : (a0_3 != a1_3) = false := bne_eq_false_iff_eq.mpr c6
     clear c6
     by_cases c7 : a0_4 = a1_4
     ·rw [if_pos c7] at H
      have c7b0 : (a0_4 == a1_4) = true := beq_iff_eq.mpr c7
      have c7b1 : (a0_4 != a1_4) = false := bne_eq_false_iff_eq.mpr c7
      clear c7
      by_cases c8 : a0_5.toList = a1_5.toList
      ·rw [if_pos c8] at H
       have c8b0 : (a0_5.toList == a1_5.toList) = true := beq_iff_eq.mpr c8
       have c8b1 : (a0_5.toList != a1_5.toList) = false := bne_eq_false_iff_eq.mpr c8
       clear c8
       by_cases c9 : a0_6.toList = a1_6.toList
       ·rw [if_pos c9] at H
        have c9b0 : (a0_6.toList == a1_6.toList) = true := beq_iff_eq.mpr c9
        have c9b1 : (a0_6.toList != a1_6.toList) = false := bne_eq_false_iff_eq.mpr c9
        clear c9
        by_cases c10 : a0_7.toList = a1_7.toList
        ·rw [if_pos c10] at H
         have c10b0 : (a0_7.toList == a1_7.toList) = true := beq_iff_eq.mpr c10
         have c10b1 : (a0_7.toList != a1_7.toList) = false := bne_eq_false_iff_eq.mpr c10
         clear c10
         obtain rfl := Option.some.inj H
         go_enter Try.func12, Try.ntmps12
         go_wp2_with (first | ((with_reducible refine gate_dst (N := 2) rfl ?_); refine bx 2 #[.int .i64 a0_0, .int .i64 a0_1, .int .i64 a0_2, .int .i64 a0_3, .int .i64 a0_4, .string a0_5, .string a0_6, .string a0_7] 23 ?_; intro gb203 hg w11 hbox hb; replace BK203 := ak (hbox); replace GW203 := ak (bz hg (lG HB)); replace GE203 := ak (bz hg (lG HB)); replace HB := lB HB hb; clear hb hbox hg) | ((with_reducible refine gate_dst (N := 3) rfl ?_); refine bx 3 #[.int .i64 a1_0, .int .i64 a1_1, .int .i64 a1_2, .int .i64 a1_3, .int .i64 a1_4, .string a1_5, .string a1_6, .string a1_7] 23 ?_; intro gb204 hg w12 hbox hb; replace BK204 := ak (hbox); replace GW204 := ak (bz hg (lT HB (gC GE203 gN))); replace GE204 := ak (bz hg (lT HB (gC GE203 gN))); replace HB := ak (below_step (lT HB (gC GE203 gN)) hb); replace NB203_204 := ak (nl hg (bG BK203)); replace NB204_203 := ak (ng hg (bG BK203)); replace BK203 := bB BK203 hb; clear hb hbox hg; have hnb13 := NB203_204.out; have hnc13 := NB204_203.out; have hcz14_0 : w12.cell? ⟨gb203, 0, none⟩ = some (.int .i64 a0_0) := bc BK203 0; have hcz14_1 : w12.cell? ⟨gb203, 1, none⟩ = some (.int .i64 a0_1) := bc BK203 1; have hcz14_2 : w12.cell? ⟨gb203, 2, none⟩ = some (.int .i64 a0_2) := bc BK203 2; have hcz14_3 : w12.cell? ⟨gb203, 3, none⟩ = some (.int .i64 a0_3) := bc BK203 3; have hcz14_4 : w12.cell? ⟨gb203, 4, none⟩ = some (.int .i64 a0_4) := bc BK203 4; have hcz14_5 : w12.cell? ⟨gb203, 5, none⟩ = some (.string a0_5) := bc BK203 5; have hcz14_6 : w12.cell? ⟨gb203, 6, none⟩ = some (.string a0_6) := bc BK203 6; have hcz14_7 : w12.cell? ⟨gb203, 7, none⟩ = some (.string a0_7) := bc BK203 7; have hfz14_0 := blk_frozen BK203.out 0; have hfz14_1 := blk_frozen BK203.out 1; have hfz14_2 := blk_frozen BK203.out 2; have hfz14_3 := blk_frozen BK203.out 3; have hfz14_4 := blk_frozen BK203.out 4; have hfz14_5 := blk_frozen BK203.out 5; have hfz14_6 := blk_frozen BK203.out 6; have hfz14_7 := blk_frozen BK203.out 7; have hcz15_0 : w12.cell? ⟨gb204, 0, none⟩ = some (.int .i64 a1_0) := bc BK204 0; have hcz15_1 : w12.cell? ⟨gb204, 1, none⟩ = some (.int .i64 a1_1) := bc BK204 1; have hcz15_2 : w12.cell? ⟨gb204, 2, none⟩ = some (.int .i64 a1_2) := bc BK204 2; have hcz15_3 : w12.cell? ⟨gb204, 3, none⟩ = some (.int .i64 a1_3) := bc BK204 3; have hcz15_4 : w12.cell? ⟨gb204, 4, none⟩ = some (.int .i64 a1_4) := bc BK204 4; have hcz15_5 : w12.cell? ⟨gb204, 5, none⟩ = some (.string a1_5) := bc BK204 5; have hcz15_6 : w12.cell? ⟨gb204, 6, none⟩ = some (.string a1_6) := bc BK204 6; have hcz15_7 : w12.cell? ⟨gb204, 7, none⟩ = some (.string a1_7) := bc BK204 7; have hfz15_0 := blk_frozen BK204.out 0; have hfz15_1 := blk_frozen BK204.out 1; have hfz15_2 := blk_frozen BK204.out 2; have hfz15_3 := blk_frozen BK204.out 3; have hfz15_4 := blk_frozen BK204.out 4; have hfz15_5 := blk_frozen BK204.out 5; have hfz15_6 := blk_frozen BK204.out 6; have hfz15_7 := blk_frozen BK204.out 7))
         go_ret
         exact ⟨ew, by exact lT HB (gC GE203 (gC GE204 gN))⟩
        ·rw [if_neg c10] at H
         have c10b0 : (a0_7.toList == a1_7.toList) = false := beq_eq_false_iff_ne.mpr c10
         have c10b1 : (a0_7.toList != a1_7.toList) = true := bne_iff_ne.mpr c10
         obtain rfl := Option.some.inj H
         go_enter Try.func12, Try.ntmps12
         go_wp2_with (first | ((with_reducible refine gate_dst (N := 2) rfl ?_); refine bx 2 #[.int .i64 a0_0, .int .i64 a0_1, .int .i64 a0_2, .int .i64 a0_3, .int .i64 a0_4, .string a0_5, .string a0_6, .string a0_7] 23 ?_; intro gb203 hg w16 hbox hb; replace BK203 := ak (hbox); replace GW203 := ak (bz hg (lG HB)); replace GE203 := ak (bz hg (lG HB)); replace HB := lB HB hb; clear hb hbox hg) | ((with_reducible refine gate_dst (N := 3) rfl ?_); refine bx 3 #[.int .i64 a1_0, .int .i64 a1_1, .int .i64 a1_2, .int .i64 a1_3, .int .i64 a1_4, .string a1_5, .string a1_6, .string a1_7] 23 ?_; intro gb204 hg w17 hbox hb; replace BK204 := ak (hbox); replace GW204 := ak (bz hg (lT HB (gC GE203 gN))); replace GE204 := ak (bz hg (lT HB (gC GE203 gN))); replace HB := ak (below_step (lT HB (gC GE203 gN)) hb); replace NB203_204 := ak (nl hg (bG BK203)); replace NB204_203 := ak (ng hg (bG BK203)); replace BK203 := bB BK203 hb; clear hb hbox hg; have hnb18 := NB203_204.out; have hnc18 := NB204_203.out; have hcz19_0 : w17.cell? ⟨gb203, 0, none⟩ = some (.int .i64 a0_0) := bc BK203 0; have hcz19_1 : w17.cell? ⟨gb203, 1, none⟩ = some (.int .i64 a0_1) := bc BK203 1; have hcz19_2 : w17.cell? ⟨gb203, 2, none⟩ = some (.int .i64 a0_2) := bc BK203 2; have hcz19_3 : w17.cell? ⟨gb203, 3, none⟩ = some (.int .i64 a0_3) := bc BK203 3; have hcz19_4 : w17.cell? ⟨gb203, 4, none⟩ = some (.int .i64 a0_4) := bc BK203 4; have hcz19_5 : w17.cell? ⟨gb203, 5, none⟩ = some (.string a0_5) := bc BK203 5; have hcz19_6 : w17.cell? ⟨gb203, 6, none⟩ = some (.string a0_6) := bc BK203 6; have hcz19_7 : w17.cell? ⟨gb203, 7, none⟩ = some (.string a0_7) := bc BK203 7; have hfz19_0 := blk_frozen BK203.out 0; have hfz19_1 := blk_frozen BK203.out 1; have hfz19_2 := blk_frozen BK203.out 2; have hfz19_3 := blk_frozen BK203.out 3; have hfz19_4 := blk_frozen BK203.out 4; have hfz19_5 := blk_frozen BK203.out 5; have hfz19_6 := blk_frozen BK203.out 6; have hfz19_7 := blk_frozen BK203.out 7; have hcz20_0 : w17.cell? ⟨gb204, 0, none⟩ = some (.int .i64 a1_0) := bc BK204 0; have hcz20_1 : w17.cell? ⟨gb204, 1, none⟩ = some (.int .i64 a1_1) := bc BK204 1; have hcz20_2 : w17.cell? ⟨gb204, 2, none⟩ = some (.int .i64 a1_2) := bc BK204 2; have hcz20_3 : w17.cell? ⟨gb204, 3, none⟩ = some (.int .i64 a1_3) := bc BK204 3; have hcz20_4 : w17.cell? ⟨gb204, 4, none⟩ = some (.int .i64 a1_4) := bc BK204 4; have hcz20_5 : w17.cell? ⟨gb204, 5, none⟩ = some (.string a1_5) := bc BK204 5; have hcz20_6 : w17.cell? ⟨gb204, 6, none⟩ = some (.string a1_6) := bc BK204 6; have hcz20_7 : w17.cell? ⟨gb204, 7, none⟩ = some (.string a1_7) := bc BK204 7; have hfz20_0 := blk_frozen BK204.out 0; have hfz20_1 := blk_frozen BK204.out 1; have hfz20_2 := blk_frozen BK204.out 2; have hfz20_3 := blk_frozen BK204.out 3; have hfz20_4 := blk_frozen BK204.out 4; have hfz20_5 := blk_frozen BK204.out 5; have hfz20_6 := blk_frozen BK204.out 6; have hfz20_7 := blk_frozen BK204.out 7))
         go_ret
         exact ⟨ew, by exact lT HB (gC GE203 (gC GE204 gN))⟩
       ·rw [if_neg c9] at H
        have c9b0 : (a0_6.toList == a1_6.toList) = false := beq_eq_false_iff_ne.mpr c9
        have c9b1 : (a0_6.toList != a1_6.toList) = true := bne_iff_ne.mpr c9
        obtain rfl := Option.some.inj H
        go_enter Try.func12, Try.ntmps12
        go_wp2_with (first | ((with_reducible refine gate_dst (N := 2) rfl ?_); refine bx 2 #[.int .i64 a0_0, .int .i64 a0_1, .int .i64 a0_2, .int .i64 a0_3, .int .i64 a0_4, .string a0_5, .string a0_6, .string a0_7] 23 ?_; intro gb203 hg w21 hbox hb; replace BK203 := ak (hbox); replace GW203 := ak (bz hg (lG HB)); replace GE203 := ak (bz hg (lG HB)); replace HB := lB HB hb; clear hb hbox hg) | ((with_reducible refine gate_dst (N := 3) rfl ?_); refine bx 3 #[.int .i64 a1_0, .int .i64 a1_1, .int .i64 a1_2, .int .i64 a1_3, .int .i64 a1_4, .string a1_5, .string a1_6, .string a1_7] 23 ?_; intro gb204 hg w22 hbox hb; replace BK204 := ak (hbox); replace GW204 := ak (bz hg (lT HB (gC GE203 gN))); replace GE204 := ak (bz hg (lT HB (gC GE203 gN))); replace HB := ak (below_step (lT HB (gC GE203 gN)) hb); replace NB203_204 := ak (nl hg (bG BK203)); replace NB204_203 := ak (ng hg (bG BK203)); replace BK203 := bB BK203 hb; clear hb hbox hg; have hnb23 := NB203_204.out; have hnc23 := NB204_203.out; have hcz24_0 : w22.cell? ⟨gb203, 0, none⟩ = some (.int .i64 a0_0) := bc BK203 0; have hcz24_1 : w22.cell? ⟨gb203, 1, none⟩ = some (.int .i64 a0_1) := bc BK203 1; have hcz24_2 : w22.cell? ⟨gb203, 2, none⟩ = some (.int .i64 a0_2) := bc BK203 2; have hcz24_3 : w22.cell? ⟨gb203, 3, none⟩ = some (.int .i64 a0_3) := bc BK203 3; have hcz24_4 : w22.cell? ⟨gb203, 4, none⟩ = some (.int .i64 a0_4) := bc BK203 4; have hcz24_5 : w22.cell? ⟨gb203, 5, none⟩ = some (.string a0_5) := bc BK203 5; have hcz24_6 : w22.cell? ⟨gb203, 6, none⟩ = some (.string a0_6) := bc BK203 6; have hcz24_7 : w22.cell? ⟨gb203, 7, none⟩ = some (.string a0_7) := bc BK203 7; have hfz24_0 := blk_frozen BK203.out 0; have hfz24_1 := blk_frozen BK203.out 1; have hfz24_2 := blk_frozen BK203.out 2; have hfz24_3 := blk_frozen BK203.out 3; have hfz24_4 := blk_frozen BK203.out 4; have hfz24_5 := blk_frozen BK203.out 5; have hfz24_6 := blk_frozen BK203.out 6; have hfz24_7 := blk_frozen BK203.out 7; have hcz25_0 : w22.cell? ⟨gb204, 0, none⟩ = some (.int .i64 a1_0) := bc BK204 0; have hcz25_1 : w22.cell? ⟨gb204, 1, none⟩ = some (.int .i64 a1_1) := bc BK204 1; have hcz25_2 : w22.cell? ⟨gb204, 2, none⟩ = some (.int .i64 a1_2) := bc BK204 2; have hcz25_3 : w22.cell? ⟨gb204, 3, none⟩ = some (.int .i64 a1_3) := bc BK204 3; have hcz25_4 : w22.cell? ⟨gb204, 4, none⟩ = some (.int .i64 a1_4) := bc BK204 4; have hcz25_5 : w22.cell? ⟨gb204, 5, none⟩ = some (.string a1_5) := bc BK204 5; have hcz25_6 : w22.cell? ⟨gb204, 6, none⟩ = some (.string a1_6) := bc BK204 6; have hcz25_7 : w22.cell? ⟨gb204, 7, none⟩ = some (.string a1_7) := bc BK204 7; have hfz25_0 := blk_frozen BK204.out 0; have hfz25_1 := blk_frozen BK204.out 1; have hfz25_2 := blk_frozen BK204.out 2; have hfz25_3 := blk_frozen BK204.out 3; have hfz25_4 := blk_frozen BK204.out 4; have hfz25_5 := blk_frozen BK204.out 5; have hfz25_6 := blk_frozen BK204.out 6; have hfz25_7 := blk_frozen BK204.out 7))
        go_ret
        exact ⟨ew, by exact lT HB (gC GE203 (gC GE204 gN))⟩
      ·rw [if_neg c8] at H
       have c8b0 : (a0_5.toList == a1_5.toList) = false := beq_eq_false_iff_ne.mpr c8
       have c8b1 : (a0_5.toList != a1_5.toList) = true := bne_iff_ne.mpr c8
       obtain rfl := Option.some.inj H
       go_enter Try.func12, Try.ntmps12
       go_wp2_with (first | ((with_reducible refine gate_dst (N := 2) rfl ?_); refine bx 2 #[.int .i64 a0_0, .int .i64 a0_1, .int .i64 a0_2, .int .i64 a0_3, .int .i64 a0_4, .string a0_5, .string a0_6, .string a0_7] 23 ?_; intro gb203 hg w26 hbox hb; replace BK203 := ak (hbox); replace GW203 := ak (bz hg (lG HB)); replace GE203 := ak (bz hg (lG HB)); replace HB := lB HB hb; clear hb hbox hg) | ((with_reducible refine gate_dst (N := 3) rfl ?_); refine bx 3 #[.int .i64 a1_0, .int .i64 a1_1, .int .i64 a1_2, .int .i64 a1_3, .int .i64 a1_4, .string a1_5, .string a1_6, .string a1_7] 23 ?_; intro gb204 hg w27 hbox hb; replace BK204 := ak (hbox); replace GW204 := ak (bz hg (lT HB (gC GE203 gN))); replace GE204 := ak (bz hg (lT HB (gC GE203 gN))); replace HB := ak (below_step (lT HB (gC GE203 gN)) hb); replace NB203_204 := ak (nl hg (bG BK203)); replace NB204_203 := ak (ng hg (bG BK203)); replace BK203 := bB BK203 hb; clear hb hbox hg; have hnb28 := NB203_204.out; have hnc28 := NB204_203.out; have hcz29_0 : w27.cell? ⟨gb203, 0, none⟩ = some (.int .i64 a0_0) := bc BK203 0; have hcz29_1 : w27.cell? ⟨gb203, 1, none⟩ = some (.int .i64 a0_1) := bc BK203 1; have hcz29_2 : w27.cell? ⟨gb203, 2, none⟩ = some (.int .i64 a0_2) := bc BK203 2; have hcz29_3 : w27.cell? ⟨gb203, 3, none⟩ = some (.int .i64 a0_3) := bc BK203 3; have hcz29_4 : w27.cell? ⟨gb203, 4, none⟩ = some (.int .i64 a0_4) := bc BK203 4; have hcz29_5 : w27.cell? ⟨gb203, 5, none⟩ = some (.string a0_5) := bc BK203 5; have hcz29_6 : w27.cell? ⟨gb203, 6, none⟩ = some (.string a0_6) := bc BK203 6; have hcz29_7 : w27.cell? ⟨gb203, 7, none⟩ = some (.string a0_7) := bc BK203 7; have hfz29_0 := blk_frozen BK203.out 0; have hfz29_1 := blk_frozen BK203.out 1; have hfz29_2 := blk_frozen BK203.out 2; have hfz29_3 := blk_frozen BK203.out 3; have hfz29_4 := blk_frozen BK203.out 4; have hfz29_5 := blk_frozen BK203.out 5; have hfz29_6 := blk_frozen BK203.out 6; have hfz29_7 := blk_frozen BK203.out 7; have hcz30_0 : w27.cell? ⟨gb204, 0, none⟩ = some (.int .i64 a1_0) := bc BK204 0; have hcz30_1 : w27.cell? ⟨gb204, 1, none⟩ = some (.int .i64 a1_1) := bc BK204 1; have hcz30_2 : w27.cell? ⟨gb204, 2, none⟩ = some (.int .i64 a1_2) := bc BK204 2; have hcz30_3 : w27.cell? ⟨gb204, 3, none⟩ = some (.int .i64 a1_3) := bc BK204 3; have hcz30_4 : w27.cell? ⟨gb204, 4, none⟩ = some (.int .i64 a1_4) := bc BK204 4; have hcz30_5 : w27.cell? ⟨gb204, 5, none⟩ = some (.string a1_5) := bc BK204 5; have hcz30_6 : w27.cell? ⟨gb204, 6, none⟩ = some (.string a1_6) := bc BK204 6; have hcz30_7 : w27.cell? ⟨gb204, 7, none⟩ = some (.string a1_7) := bc BK204 7; have hfz30_0 := blk_frozen BK204.out 0; have hfz30_1 := blk_frozen BK204.out 1; have hfz30_2 := blk_frozen BK204.out 2; have hfz30_3 := blk_frozen BK204.out 3; have hfz30_4 := blk_frozen BK204.out 4; have hfz30_5 := blk_frozen BK204.out 5; have hfz30_6 := blk_frozen BK204.out 6; have hfz30_7 := blk_frozen BK204.out 7))
       go_ret
       exact ⟨ew, by exact lT HB (gC GE203 (gC GE204 gN))⟩
     ·rw [if_neg c7] at H
      have c7b0 : (a0_4 == a1_4) = false := beq_eq_false_iff_ne.mpr c7
      have c7b1 : (a0_4 != a1_4) = true := bne_iff_ne.mpr c7
      obtain rfl := Option.some.inj H
      go_enter Try.func12, Try.ntmps12
      go_wp2_with (first | ((with_reducible refine gate_dst (N := 2) rfl ?_); refine bx 2 #[.int .i64 a0_0, .int .i64 a0_1, .int .i64 a0_2, .int .i64 a0_3, .int .i64 a0_4, .string a0_5, .string a0_6, .string a0_7] 23 ?_; intro gb203 hg w31 hbox hb; replace BK203 := ak (hbox); replace GW203 := ak (bz hg (lG HB)); replace GE203 := ak (bz hg (lG HB)); replace HB := lB HB hb; clear hb hbox hg) | ((with_reducible refine gate_dst (N := 3) rfl ?_); refine bx 3 #[.int .i64 a1_0, .int .i64 a1_1, .int .i64 a1_2, .int .i64 a1_3, .int .i64 a1_4, .string a1_5, .string a1_6, .string a1_7] 23 ?_; intro gb204 hg w32 hbox hb; replace BK204 := ak (hbox); replace GW204 := ak (bz hg (lT HB (gC GE203 gN))); replace GE204 := ak (bz hg (lT HB (gC GE203 gN))); replace HB := ak (below_step (lT HB (gC GE203 gN)) hb); replace NB203_204 := ak (nl hg (bG BK203)); replace NB204_203 := ak (ng hg (bG BK203)); replace BK203 := bB BK203 hb; clear hb hbox hg; have hnb33 := NB203_204.out; have hnc33 := NB204_203.out; have hcz34_0 : w32.cell? ⟨gb203, 0, none⟩ = some (.int .i64 a0_0) := bc BK203 0; have hcz34_1 : w32.cell? ⟨gb203, 1, none⟩ = some (.int .i64 a0_1) := bc BK203 1; have hcz34_2 : w32.cell? ⟨gb203, 2, none⟩ = some (.int .i64 a0_2) := bc BK203 2; have hcz34_3 : w32.cell? ⟨gb203, 3, none⟩ = some (.int .i64 a0_3) := bc BK203 3; have hcz34_4 : w32.cell? ⟨gb203, 4, none⟩ = some (.int .i64 a0_4) := bc BK203 4; have hcz34_5 : w32.cell? ⟨gb203, 5, none⟩ = some (.string a0_5) := bc BK203 5; have hcz34_6 : w32.cell? ⟨gb203, 6, none⟩ = some (.string a0_6) := bc BK203 6; have hcz34_7 : w32.cell? ⟨gb203, 7, none⟩ = some (.string a0_7) := bc BK203 7; have hfz34_0 := blk_frozen BK203.out 0; have hfz34_1 := blk_frozen BK203.out 1; have hfz34_2 := blk_frozen BK203.out 2; have hfz34_3 := blk_frozen BK203.out 3; have hfz34_4 := blk_frozen BK203.out 4; have hfz34_5 := blk_frozen BK203.out 5; have hfz34_6 := blk_frozen BK203.out 6; have hfz34_7 := blk_frozen BK203.out 7; have hcz35_0 : w32.cell? ⟨gb204, 0, none⟩ = some (.int .i64 a1_0) := bc BK204 0; have hcz35_1 : w32.cell? ⟨gb204, 1, none⟩ = some (.int .i64 a1_1) := bc BK204 1; have hcz35_2 : w32.cell? ⟨gb204, 2, none⟩ = some (.int .i64 a1_2) := bc BK204 2; have hcz35_3 : w32.cell? ⟨gb204, 3, none⟩ = some (.int .i64 a1_3) := bc BK204 3; have hcz35_4 : w32.cell? ⟨gb204, 4, none⟩ = some (.int .i64 a1_4) := bc BK204 4; have hcz35_5 : w32.cell? ⟨gb204, 5, none⟩ = some (.string a1_5) := bc BK204 5; have hcz35_6 : w32.cell? ⟨gb204, 6, none⟩ = some (.string a1_6) := bc BK204 6; have hcz35_7 : w32.cell? ⟨gb204, 7, none⟩ = some (.string a1_7) := bc BK204 7; have hfz35_0 := blk_frozen BK204.out 0; have hfz35_1 := blk_frozen BK204.out 1; have hfz35_2 := blk_frozen BK204.out 2; have hfz35_3 := blk_frozen BK204.out 3; have hfz35_4 := blk_frozen BK204.out 4; have hfz35_5 := blk_frozen BK204.out 5; have hfz35_6 := blk_frozen BK204.out 6; have hfz35_7 := blk_frozen BK204.out 7))
      go_ret
      exact ⟨ew, by exact lT HB (gC GE203 (gC GE204 gN))⟩
    ·rw [if_neg c6] at H
     have c6b0 : (a0_3 == a1_3) = false := beq_eq_false_iff_ne.mpr c6
     have c6b1 : (a0_3 != a1_3) = true := bne_iff_ne.mpr c6
     obtain rfl := Option.some.inj H
     go_enter Try.func12, Try.ntmps12
     go_wp2_with (first | ((with_reducible refine gate_dst (N := 2) rfl ?_); refine bx 2 #[.int .i64 a0_0, .int .i64 a0_1, .int .i64 a0_2, .int .i64 a0_3, .int .i64 a0_4, .string a0_5, .string a0_6, .string a0_7] 23 ?_; intro gb203 hg w36 hbox hb; replace BK203 := ak (hbox); replace GW203 := ak (bz hg (lG HB)); replace GE203 := ak (bz hg (lG HB)); replace HB := lB HB hb; clear hb hbox hg) | ((with_reducible refine gate_dst (N := 3) rfl ?_); refine bx 3 #[.int .i64 a1_0, .int .i64 a1_1, .int .i64 a1_2, .int .i64 a1_3, .int .i64 a1_4, .string a1_5, .string a1_6, .string a1_7] 23 ?_; intro gb204 hg w37 hbox hb; replace BK204 := ak (hbox); replace GW204 := ak (bz hg (lT HB (gC GE203 gN))); replace GE204 := ak (bz hg (lT HB (gC GE203 gN))); replace HB := ak (below_step (lT HB (gC GE203 gN)) hb); replace NB203_204 := ak (nl hg (bG BK203)); replace NB204_203 := ak (ng hg (bG BK203)); replace BK203 := bB BK203 hb; clear hb hbox hg; have hnb38 := NB203_204.out; have hnc38 := NB204_203.out; have hcz39_0 : w37.cell? ⟨gb203, 0, none⟩ = some (.int .i64 a0_0) := bc BK203 0; have hcz39_1 : w37.cell? ⟨gb203, 1, none⟩ = some (.int .i64 a0_1) := bc BK203 1; have hcz39_2 : w37.cell? ⟨gb203, 2, none⟩ = some (.int .i64 a0_2) := bc BK203 2; have hcz39_3 : w37.cell? ⟨gb203, 3, none⟩ = some (.int .i64 a0_3) := bc BK203 3; have hcz39_4 : w37.cell? ⟨gb203, 4, none⟩ = some (.int .i64 a0_4) := bc BK203 4; have hcz39_5 : w37.cell? ⟨gb203, 5, none⟩ = some (.string a0_5) := bc BK203 5; have hcz39_6 : w37.cell? ⟨gb203, 6, none⟩ = some (.string a0_6) := bc BK203 6; have hcz39_7 : w37.cell? ⟨gb203, 7, none⟩ = some (.string a0_7) := bc BK203 7; have hfz39_0 := blk_frozen BK203.out 0; have hfz39_1 := blk_frozen BK203.out 1; have hfz39_2 := blk_frozen BK203.out 2; have hfz39_3 := blk_frozen BK203.out 3; have hfz39_4 := blk_frozen BK203.out 4; have hfz39_5 := blk_frozen BK203.out 5; have hfz39_6 := blk_frozen BK203.out 6; have hfz39_7 := blk_frozen BK203.out 7; have hcz40_0 : w37.cell? ⟨gb204, 0, none⟩ = some (.int .i64 a1_0) := bc BK204 0; have hcz40_1 : w37.cell? ⟨gb204, 1, none⟩ = some (.int .i64 a1_1) := bc BK204 1; have hcz40_2 : w37.cell? ⟨gb204, 2, none⟩ = some (.int .i64 a1_2) := bc BK204 2; have hcz40_3 : w37.cell? ⟨gb204, 3, none⟩ = some (.int .i64 a1_3) := bc BK204 3; have hcz40_4 : w37.cell? ⟨gb204, 4, none⟩ = some (.int .i64 a1_4) := bc BK204 4; have hcz40_5 : w37.cell? ⟨gb204, 5, none⟩ = some (.string a1_5) := bc BK204 5; have hcz40_6 : w37.cell? ⟨gb204, 6, none⟩ = some (.string a1_6) := bc BK204 6; have hcz40_7 : w37.cell? ⟨gb204, 7, none⟩ = some (.string a1_7) := bc BK204 7; have hfz40_0 := blk_frozen BK204.out 0; have hfz40_1 := blk_frozen BK204.out 1; have hfz40_2 := blk_frozen BK204.out 2; have hfz40_3 := blk_frozen BK204.out 3; have hfz40_4 := blk_frozen BK204.out 4; have hfz40_5 := blk_frozen BK204.out 5; have hfz40_6 := blk_frozen BK204.out 6; have hfz40_7 := blk_frozen BK204.out 7))
     go_ret
     exact ⟨ew, by exact lT HB (gC GE203 (gC GE204 gN))⟩
   ·rw [if_neg c5] at H
    have c5b0 : (a0_2 == a1_2) = false := beq_eq_false_iff_ne.mpr c5
    have c5b1 : (a0_2 != a1_2) = true := bne_iff_ne.mpr c5
    obtain rfl := Option.some.inj H
    go_enter Try.func12, Try.ntmps12
    go_wp2_with (first | ((with_reducible refine gate_dst (N := 2) rfl ?_); refine bx 2 #[.int .i64 a0_0, .int .i64 a0_1, .int .i64 a0_2, .int .i64 a0_3, .int .i64 a0_4, .string a0_5, .string a0_6, .string a0_7] 23 ?_; intro gb203 hg w41 hbox hb; replace BK203 := ak (hbox); replace GW203 := ak (bz hg (lG HB)); replace GE203 := ak (bz hg (lG HB)); replace HB := lB HB hb; clear hb hbox hg) | ((with_reducible refine gate_dst (N := 3) rfl ?_); refine bx 3 #[.int .i64 a1_0, .int .i64 a1_1, .int .i64 a1_2, .int .i64 a1_3, .int .i64 a1_4, .string a1_5, .string a1_6, .string a1_7] 23 ?_; intro gb204 hg w42 hbox hb; replace BK204 := ak (hbox); replace GW204 := ak (bz hg (lT HB (gC GE203 gN))); replace GE204 := ak (bz hg (lT HB (gC GE203 gN))); replace HB := ak (below_step (lT HB (gC GE203 gN)) hb); replace NB203_204 := ak (nl hg (bG BK203)); replace NB204_203 := ak (ng hg (bG BK203)); replace BK203 := bB BK203 hb; clear hb hbox hg; have hnb43 := NB203_204.out; have hnc43 := NB204_203.out; have hcz44_0 : w42.cell? ⟨gb203, 0, none⟩ = some (.int .i64 a0_0) := bc BK203 0; have hcz44_1 : w42.cell? ⟨gb203, 1, none⟩ = some (.int .i64 a0_1) := bc BK203 1; have hcz44_2 : w42.cell? ⟨gb203, 2, none⟩ = some (.int .i64 a0_2) := bc BK203 2; have hcz44_3 : w42.cell? ⟨gb203, 3, none⟩ = some (.int .i64 a0_3) := bc BK203 3; have hcz44_4 : w42.cell? ⟨gb203, 4, none⟩ = some (.int .i64 a0_4) := bc BK203 4; have hcz44_5 : w42.cell? ⟨gb203, 5, none⟩ = some (.string a0_5) := bc BK203 5; have hcz44_6 : w42.cell? ⟨gb203, 6, none⟩ = some (.string a0_6) := bc BK203 6; have hcz44_7 : w42.cell? ⟨gb203, 7, none⟩ = some (.string a0_7) := bc BK203 7; have hfz44_0 := blk_frozen BK203.out 0; have hfz44_1 := blk_frozen BK203.out 1; have hfz44_2 := blk_frozen BK203.out 2; have hfz44_3 := blk_frozen BK203.out 3; have hfz44_4 := blk_frozen BK203.out 4; have hfz44_5 := blk_frozen BK203.out 5; have hfz44_6 := blk_frozen BK203.out 6; have hfz44_7 := blk_frozen BK203.out 7; have hcz45_0 : w42.cell? ⟨gb204, 0, none⟩ = some (.int .i64 a1_0) := bc BK204 0; have hcz45_1 : w42.cell? ⟨gb204, 1, none⟩ = some (.int .i64 a1_1) := bc BK204 1; have hcz45_2 : w42.cell? ⟨gb204, 2, none⟩ = some (.int .i64 a1_2) := bc BK204 2; have hcz45_3 : w42.cell? ⟨gb204, 3, none⟩ = some (.int .i64 a1_3) := bc BK204 3; have hcz45_4 : w42.cell? ⟨gb204, 4, none⟩ = some (.int .i64 a1_4) := bc BK204 4; have hcz45_5 : w42.cell? ⟨gb204, 5, none⟩ = some (.string a1_5) := bc BK204 5; have hcz45_6 : w42.cell? ⟨gb204, 6, none⟩ = some (.string a1_6) := bc BK204 6; have hcz45_7 : w42.cell? ⟨gb204, 7, none⟩ = some (.string a1_7) := bc BK204 7; have hfz45_0 := blk_frozen BK204.out 0; have hfz45_1 := blk_frozen BK204.out 1; have hfz45_2 := blk_frozen BK204.out 2; have hfz45_3 := blk_frozen BK204.out 3; have hfz45_4 := blk_frozen BK204.out 4; have hfz45_5 := blk_frozen BK204.out 5; have hfz45_6 := blk_frozen BK204.out 6; have hfz45_7 := blk_frozen BK204.out 7))
    go_ret
    exact ⟨ew, by exact lT HB (gC GE203 (gC GE204 gN))⟩
  ·rw [if_neg c4] at H
   have c4b0 : (a0_1 == a1_1) = false := beq_eq_false_iff_ne.mpr c4
   have c4b1 : (a0_1 != a1_1) = true := bne_iff_ne.mpr c4
   obtain rfl := Option.some.inj H
   go_enter Try.func12, Try.ntmps12
   go_wp2_with (first | ((with_reducible refine gate_dst (N := 2) rfl ?_); refine bx 2 #[.int .i64 a0_0, .int .i64 a0_1, .int .i64 a0_2, .int .i64 a0_3, .int .i64 a0_4, .string a0_5, .string a0_6, .string a0_7] 23 ?_; intro gb203 hg w46 hbox hb; replace BK203 := ak (hbox); replace GW203 := ak (bz hg (lG HB)); replace GE203 := ak (bz hg (lG HB)); replace HB := lB HB hb; clear hb hbox hg) | ((with_reducible refine gate_dst (N := 3) rfl ?_); refine bx 3 #[.int .i64 a1_0, .int .i64 a1_1, .int .i64 a1_2, .int .i64 a1_3, .int .i64 a1_4, .string a1_5, .string a1_6, .string a1_7] 23 ?_; intro gb204 hg w47 hbox hb; replace BK204 := ak (hbox); replace GW204 := ak (bz hg (lT HB (gC GE203 gN))); replace GE204 := ak (bz hg (lT HB (gC GE203 gN))); replace HB := ak (below_step (lT HB (gC GE203 gN)) hb); replace NB203_204 := ak (nl hg (bG BK203)); replace NB204_203 := ak (ng hg (bG BK203)); replace BK203 := bB BK203 hb; clear hb hbox hg; have hnb48 := NB203_204.out; have hnc48 := NB204_203.out; have hcz49_0 : w47.cell? ⟨gb203, 0, none⟩ = some (.int .i64 a0_0) := bc BK203 0; have hcz49_1 : w47.cell? ⟨gb203, 1, none⟩ = some (.int .i64 a0_1) := bc BK203 1; have hcz49_2 : w47.cell? ⟨gb203, 2, none⟩ = some (.int .i64 a0_2) := bc BK203 2; have hcz49_3 : w47.cell? ⟨gb203, 3, none⟩ = some (.int .i64 a0_3) := bc BK203 3; have hcz49_4 : w47.cell? ⟨gb203, 4, none⟩ = some (.int .i64 a0_4) := bc BK203 4; have hcz49_5 : w47.cell? ⟨gb203, 5, none⟩ = some (.string a0_5) := bc BK203 5; have hcz49_6 : w47.cell? ⟨gb203, 6, none⟩ = some (.string a0_6) := bc BK203 6; have hcz49_7 : w47.cell? ⟨gb203, 7, none⟩ = some (.string a0_7) := bc BK203 7; have hfz49_0 := blk_frozen BK203.out 0; have hfz49_1 := blk_frozen BK203.out 1; have hfz49_2 := blk_frozen BK203.out 2; have hfz49_3 := blk_frozen BK203.out 3; have hfz49_4 := blk_frozen BK203.out 4; have hfz49_5 := blk_frozen BK203.out 5; have hfz49_6 := blk_frozen BK203.out 6; have hfz49_7 := blk_frozen BK203.out 7; have hcz50_0 : w47.cell? ⟨gb204, 0, none⟩ = some (.int .i64 a1_0) := bc BK204 0; have hcz50_1 : w47.cell? ⟨gb204, 1, none⟩ = some (.int .i64 a1_1) := bc BK204 1; have hcz50_2 : w47.cell? ⟨gb204, 2, none⟩ = some (.int .i64 a1_2) := bc BK204 2; have hcz50_3 : w47.cell? ⟨gb204, 3, none⟩ = some (.int .i64 a1_3) := bc BK204 3; have hcz50_4 : w47.cell? ⟨gb204, 4, none⟩ = some (.int .i64 a1_4) := bc BK204 4; have hcz50_5 : w47.cell? ⟨gb204, 5, none⟩ = some (.string a1_5) := bc BK204 5; have hcz50_6 : w47.cell? ⟨gb204, 6, none⟩ = some (.string a1_6) := bc BK204 6; have hcz50_7 : w47.cell? ⟨gb204, 7, none⟩ = some (.string a1_7) := bc BK204 7; have hfz50_0 := blk_frozen BK204.out 0; have hfz50_1 := blk_frozen BK204.out 1; have hfz50_2 := blk_frozen BK204.out 2; have hfz50_3 := blk_frozen BK204.out 3; have hfz50_4 := blk_frozen BK204.out 4; have hfz50_5 := blk_frozen BK204.out 5; have hfz50_6 := blk_frozen BK204.out 6; have hfz50_7 := blk_frozen BK204.out 7))
   go_ret
   exact ⟨ew, by exact lT HB (gC GE203 (gC GE204 gN))⟩
 ·rw [if_neg c3] at H
  have c3b0 : (a0_0 == a1_0) = false := beq_eq_false_iff_ne.mpr c3
  have c3b1 : (a0_0 != a1_0) = true := bne_iff_ne.mpr c3
  obtain rfl := Option.some.inj H
  go_enter Try.func12, Try.ntmps12
  go_wp2_with (first | ((with_reducible refine gate_dst (N := 2) rfl ?_); refine bx 2 #[.int .i64 a0_0, .int .i64 a0_1, .int .i64 a0_2, .int .i64 a0_3, .int .i64 a0_4, .string a0_5, .string a0_6, .string a0_7] 23 ?_; intro gb203 hg w51 hbox hb; replace BK203 := ak (hbox); replace GW203 := ak (bz hg (lG HB)); replace GE203 := ak (bz hg (lG HB)); replace HB := lB HB hb; clear hb hbox hg) | ((with_reducible refine gate_dst (N := 3) rfl ?_); refine bx 3 #[.int .i64 a1_0, .int .i64 a1_1, .int .i64 a1_2, .int .i64 a1_3, .int .i64 a1_4, .string a1_5, .string a1_6, .string a1_7] 23 ?_; intro gb204 hg w52 hbox hb; replace BK204 := ak (hbox); replace GW204 := ak (bz hg (lT HB (gC GE203 gN))); replace GE204 := ak (bz hg (lT HB (gC GE203 gN))); replace HB := ak (below_step (lT HB (gC GE203 gN)) hb); replace NB203_204 := ak (nl hg (bG BK203)); replace NB204_203 := ak (ng hg (bG BK203)); replace BK203 := bB BK203 hb; clear hb hbox hg; have hnb53 := NB203_204.out; have hnc53 := NB204_203.out; have hcz54_0 : w52.cell? ⟨gb203, 0, none⟩ = some (.int .i64 a0_0) := bc BK203 0; have hcz54_1 : w52.cell? ⟨gb203, 1, none⟩ = some (.int .i64 a0_1) := bc BK203 1; have hcz54_2 : w52.cell? ⟨gb203, 2, none⟩ = some (.int .i64 a0_2) := bc BK203 2; have hcz54_3 : w52.cell? ⟨gb203, 3, none⟩ = some (.int .i64 a0_3) := bc BK203 3; have hcz54_4 : w52.cell? ⟨gb203, 4, none⟩ = some (.int .i64 a0_4) := bc BK203 4; have hcz54_5 : w52.cell? ⟨gb203, 5, none⟩ = some (.string a0_5) := bc BK203 5; have hcz54_6 : w52.cell? ⟨gb203, 6, none⟩ = some (.string a0_6) := bc BK203 6; have hcz54_7 : w52.cell? ⟨gb203, 7, none⟩ = some (.string a0_7) := bc BK203 7; have hfz54_0 := blk_frozen BK203.out 0; have hfz54_1 := blk_frozen BK203.out 1; have hfz54_2 := blk_frozen BK203.out 2; have hfz54_3 := blk_frozen BK203.out 3; have hfz54_4 := blk_frozen BK203.out 4; have hfz54_5 := blk_frozen BK203.out 5; have hfz54_6 := blk_frozen BK203.out 6; have hfz54_7 := blk_frozen BK203.out 7; have hcz55_0 : w52.cell? ⟨gb204, 0, none⟩ = some (.int .i64 a1_0) := bc BK204 0; have hcz55_1 : w52.cell? ⟨gb204, 1, none⟩ = some (.int .i64 a1_1) := bc BK204 1; have hcz55_2 : w52.cell? ⟨gb204, 2, none⟩ = some (.int .i64 a1_2) := bc BK204 2; have hcz55_3 : w52.cell? ⟨gb204, 3, none⟩ = some (.int .i64 a1_3) := bc BK204 3; have hcz55_4 : w52.cell? ⟨gb204, 4, none⟩ = some (.int .i64 a1_4) := bc BK204 4; have hcz55_5 : w52.cell? ⟨gb204, 5, none⟩ = some (.string a1_5) := bc BK204 5; have hcz55_6 : w52.cell? ⟨gb204, 6, none⟩ = some (.string a1_6) := bc BK204 6; have hcz55_7 : w52.cell? ⟨gb204, 7, none⟩ = some (.string a1_7) := bc BK204 7; have hfz55_0 := blk_frozen BK204.out 0; have hfz55_1 := blk_frozen BK204.out 1; have hfz55_2 := blk_frozen BK204.out 2; have hfz55_3 := blk_frozen BK204.out 3; have hfz55_4 := blk_frozen BK204.out 4; have hfz55_5 := blk_frozen BK204.out 5; have hfz55_6 := blk_frozen BK204.out 6; have hfz55_7 := blk_frozen BK204.out 7))
  go_ret
  exact ⟨ew, by exact lT HB (gC GE203 (gC GE204 gN))⟩

end Go.Proofs.Ytagkjeldheiejaa.PFnExactReadRec
