-- Written for this claim by a program of mine (a turned copy of the kit's print): functions as plain Lean, and their contracts. Lean checks it.
import Derived.Test.YtagkjeldheiejaaPFnRecordsx0
import Derived.Test.YtagkjeldheiejaaPFnRecordsx9
import Derived.Test.YtagkjeldheiejaaPFnRecordsx10
import Derived.Test.YtagkjeldheiejaaVFnRecords1
namespace Go.Proofs.Ytagkjeldheiejaa.PFnRecords
open Go.RowKit Go.Proofs.YtagkjeldheiejaaW.PrintWords Go.Proofs.YtagkjeldheiejaaW.PrintLast Go.Proofs.YtagkjeldheiejaaW.PrintMore
attribute [local go_sem] max2_int min2_int max_two min_two max_three min_three max_four min_four   -- for this text's walks alone
set_option linter.unusedVariables false
set_option linter.unusedSimpArgs false

/-! ### impl_ReadVar: function 56 -/
mutual
def impl_ReadVar.l0 : Nat → ByteArray → Int → Int → Int → Option (Int × Int × Bool)
 | 0, _, _, _, _ => none
 | k + 1, x0, x1, x7, x8 => if x8 < 5 then (impl_ReadVar.j1 k x0 x1 x7 x8 (decide ((wrap64 (x1 + x8)) < (x0.size : Int)))) else (impl_ReadVar.j1 k x0 x1 x7 x8 false)
def impl_ReadVar.j1 : Nat → ByteArray → Int → Int → Int → Bool → Option (Int × Int × Bool)
 | 0, _, _, _, _, _ => none
 | k + 1, x0, x1, x7, x8, x24 => if x24 = true then (if 0 ≤ (wrap64 (x1 + x8)) then (if (wrap64 (x1 + x8)) < (x0.size : Int) then (if 0 ≤ (wrap64 (7 * x8)) then (if (wrap64 (bt x0 (wrap64 (x1 + x8)))) > 127 then (impl_ReadVar.l0 k x0 x1 (Go.bits .or .i64 x7 (shl .i64 (Go.bits .and .i64 (wrap64 (bt x0 (wrap64 (x1 + x8)))) 127) (wrap64 (7 * x8)))) (wrap64 (x8 + 1))) else (if (wrap64 (bt x0 (wrap64 (x1 + x8)))) = 0 then (if x8 > 0 then (some (0, 0, false)) else (if (Go.bits .or .i64 x7 (shl .i64 (Go.bits .and .i64 (wrap64 (bt x0 (wrap64 (x1 + x8)))) 127) (wrap64 (7 * x8)))) > 1000000000 then (some (0, 0, false)) else (some (Go.bits .or .i64 x7 (shl .i64 (Go.bits .and .i64 (wrap64 (bt x0 (wrap64 (x1 + x8)))) 127) (wrap64 (7 * x8))), wrap64 ((wrap64 (x1 + x8)) + 1), true)))) else (if (Go.bits .or .i64 x7 (shl .i64 (Go.bits .and .i64 (wrap64 (bt x0 (wrap64 (x1 + x8)))) 127) (wrap64 (7 * x8)))) > 1000000000 then (some (0, 0, false)) else (some (Go.bits .or .i64 x7 (shl .i64 (Go.bits .and .i64 (wrap64 (bt x0 (wrap64 (x1 + x8)))) 127) (wrap64 (7 * x8))), wrap64 ((wrap64 (x1 + x8)) + 1), true))))) else (none)) else (none)) else (none)) else (some (0, 0, false))
end
def impl_ReadVar.f (k : Nat) (a0 : ByteArray) (a1 : Int) : Option (Int × Int × Bool) := (impl_in.f a1 0 (a0.size : Int)).bind fun t199 => (if t199 = true then (impl_ReadVar.l0 k a0 a1 0 0) else (some (0, 0, false)))
theorem impl_ReadVar.mono_l : ∀ k, (∀ y0 y1 y2 y3, LeO (impl_ReadVar.l0 k y0 y1 y2 y3) (impl_ReadVar.l0 (k + 1) y0 y1 y2 y3)) ∧ (∀ y0 y1 y2 y3 y4, LeO (impl_ReadVar.j1 k y0 y1 y2 y3 y4) (impl_ReadVar.j1 (k + 1) y0 y1 y2 y3 y4))
 | 0 => ⟨fun _ _ _ _ r h => by simp [impl_ReadVar.l0] at h, fun _ _ _ _ _ r h => by simp [impl_ReadVar.j1] at h⟩
 | k + 1 => by
  obtain ⟨ih0, ih1⟩ := impl_ReadVar.mono_l k
  refine ⟨?_, ?_⟩
  ·intro y0 y1 y2 y3
   unfold impl_ReadVar.l0
   repeat' first
   | (with_reducible exact ih0 _ _ _ _)
   | (with_reducible exact ih1 _ _ _ _ _)
   | (with_reducible exact LeO.refl _)
   | (with_reducible exact LeO.none _)
   | (with_reducible refine LeO.ite ?_ ?_)
   | (with_reducible refine LeO.bind ?_ (fun _ => ?_))
   | exact ih0 _ _ _ _
   | exact ih1 _ _ _ _ _
   | exact LeO.none _
   | refine LeO.ite ?_ ?_
   | refine LeO.bind ?_ (fun _ => ?_)
  ·intro y0 y1 y2 y3 y4
   unfold impl_ReadVar.j1
   repeat' first
   | (with_reducible exact ih0 _ _ _ _)
   | (with_reducible exact ih1 _ _ _ _ _)
   | (with_reducible exact LeO.refl _)
   | (with_reducible exact LeO.none _)
   | (with_reducible refine LeO.ite ?_ ?_)
   | (with_reducible refine LeO.bind ?_ (fun _ => ?_))
   | exact ih0 _ _ _ _
   | exact ih1 _ _ _ _ _
   | exact LeO.none _
   | refine LeO.ite ?_ ?_
   | refine LeO.bind ?_ (fun _ => ?_)
theorem impl_ReadVar.mono : ∀ a0 a1 k, LeO (impl_ReadVar.f k a0 a1) (impl_ReadVar.f (k + 1) a0 a1) := by
 intro a0 a1 k
 obtain ⟨ih0, ih1⟩ := impl_ReadVar.mono_l k
 unfold impl_ReadVar.f
 repeat' first
   | (with_reducible exact ih0 _ _ _ _)
   | (with_reducible exact ih1 _ _ _ _ _)
   | (with_reducible exact LeO.refl _)
   | (with_reducible exact LeO.none _)
   | (with_reducible refine LeO.ite ?_ ?_)
   | (with_reducible refine LeO.bind ?_ (fun _ => ?_))
   | exact ih0 _ _ _ _
   | exact ih1 _ _ _ _ _
   | exact LeO.none _
   | refine LeO.ite ?_ ?_
   | refine LeO.bind ?_ (fun _ => ?_)
set_option maxHeartbeats 8000000 in
set_option maxRecDepth 100000 in
theorem impl_ReadVar.calls (k : Nat) (a0 : ByteArray) (a1 : Int) (r1 : Int) (r2 : Int) (r3 : Bool) (w : World) (h : impl_ReadVar.f k a0 a1 = some (r1, r2, r3)) :
  Calls Try.prog 56 #[.string a0, .int .i64 a1] w fun e w' => e = .returned (.tuple #[.int .i64 r1, .int .i64 r2, .bool r3]) ∧ Drawn0 w w' := by
 have H : ((impl_in.f a1 0 (a0.size : Int)).bind fun t199 => (if t199 = true then (impl_ReadVar.l0 k a0 a1 0 0) else (some (0, 0, false)))) = some (r1, r2, r3) := h
 clear h
 replace H := Option.bind_eq_some_iff.mp H
 obtain ⟨t199, A30, H⟩ := H
 replace H : (if t199 = true then (impl_ReadVar.l0 k a0 a1 0 0) else (some (0, 0, false))) = some (r1, r2, r3) := H
 have A3 := Aside0.mk A30
 clear A30
 by_cases c4 : t199 = true
 ·subst c4
  have H1 : (impl_ReadVar.l0 k a0 a1 0 0) = some (r1, r2, r3) := by rw [if_pos rfl] at H; exact H
  clear H
  have H := H1
  clear H1
  have H' := Aside0.mk H
  clear H
  go_enter Try.func56, Try.ntmps56
  go_wp2_with (first | ((with_reducible refine gate_callee (f := 63) rfl ?_); refine gl (some 13) Try.func63 #[.int .i64 a1, .int .i64 0, .int .i64 (a0.size : Int)] ?_; (with_reducible refine (impl_in.calls a1 0 (a0.size : Int) true _ A3.out).mono ?_); rintro e w' ⟨rfl, ⟨nd, rfl⟩⟩; refine ⟨_, rfl, ?_⟩))
  go_loopg [7, 8] k (fun kq v7 v8 w' => ∃ (x7_1 : Int) (x8_1 : Int), v7 = .int .i64 x7_1 ∧ v8 = .int .i64 x8_1 ∧ Aside0 (impl_ReadVar.l0 kq a0 a1 x7_1 x8_1 = some (r1, r2, r3)) ∧ Aside0 (kq ≤ k) ∧ Drawn0 w w')
  case atStart => exact ⟨(0), (0), (by first | rfl | (simp; done) | (simp [*]; done)), (by first | rfl | (simp; done) | (simp [*]; done)), H', ⟨Nat.le_refl _⟩, by repeat (first | exact Drawn0.refl _ | apply Drawn0.step)⟩
  case round =>
   clear H'
   try clear p2
   try clear c4
   obtain ⟨x7_1, x8_1, rfl, rfl, HA, HK1, ⟨m1, rfl⟩⟩ := hrel
   cases gk with
   | zero => exact absurd HA.out (by simp [impl_ReadVar.l0])
   | succ k1 =>
    have H := HA.out
    clear HA
    simp only [impl_ReadVar.l0] at H
    have HC5 := Aside0.mk H
    clear H
    go_upto_region 5 with (fail)
    go_cut [24] (fun v24 wc => ∃ (kq : Nat) (x24_4 : Bool), v24 = .bool x24_4 ∧ Aside0 (impl_ReadVar.j1 kq a0 a1 x7_1 x8_1 x24_4 = some (r1, r2, r3)) ∧ Aside0 (kq ≤ k1) ∧ Drawn0 w wc)
    case first =>
     have H := HC5.out
     clear HC5
     by_cases c6 : x8_1 < 5
     ·rw [if_pos c6] at H
      have c6b0 : decide (x8_1 < 5) = true := decide_eq_true c6
      clear c6
      (first | rw [c6b0] | (simp only [i64_w, i32_w]; rw [c6b0]) | skip)
      have H' := Aside0.mk H
      clear H
      go_wp2
      go_meet
      case rel => exact ⟨_, (decide ((wrap64 (a1 + x8_1)) < (a0.size : Int))), (by first | rfl | (simp; done) | (simp [*]; done)), H', ⟨by have := HK1.out; first | omega | exact Nat.le_refl _⟩, by repeat (first | exact Drawn0.refl _ | apply Drawn0.step)⟩
     ·rw [if_neg c6] at H
      have c6b0 : decide (x8_1 < 5) = false := decide_eq_false c6
      clear c6
      (first | rw [c6b0] | (simp only [i64_w, i32_w]; rw [c6b0]) | skip)
      have H' := Aside0.mk H
      clear H
      go_wp2
      go_meet
      case rel => exact ⟨_, (false), (by first | rfl | (simp; done) | (simp [*]; done)), H', ⟨by have := HK1.out; first | omega | exact Nat.le_refl _⟩, by repeat (first | exact Drawn0.refl _ | apply Drawn0.step)⟩
    case rest =>
     clear HC5
     try clear p2
     try clear c4
     try clear c5
     try clear c6
     try clear c6b0
     try clear p6
     try clear p2
     obtain ⟨kq, x24_4, rfl, HA, HJ4, ⟨mc4, rfl⟩⟩ := hcut
     cases kq with
     | zero => exact absurd HA.out (by simp [impl_ReadVar.j1])
     | succ kj4 =>
      have H := HA.out
      clear HA
      simp only [impl_ReadVar.j1] at H
      by_cases c7 : x24_4 = true
      ·subst c7
       have H1 : (if 0 ≤ (wrap64 (a1 + x8_1)) then (if (wrap64 (a1 + x8_1)) < (a0.size : Int) then (if 0 ≤ (wrap64 (7 * x8_1)) then (if (wrap64 (bt a0 (wrap64 (a1 + x8_1)))) > 127 then (impl_ReadVar.l0 kj4 a0 a1 (Go.bits .or .i64 x7_1 (shl .i64 (Go.bits .and .i64 (wrap64 (bt a0 (wrap64 (a1 + x8_1)))) 127) (wrap64 (7 * x8_1)))) (wrap64 (x8_1 + 1))) else (if (wrap64 (bt a0 (wrap64 (a1 + x8_1)))) = 0 then (if x8_1 > 0 then (some (0, 0, false)) else (if (Go.bits .or .i64 x7_1 (shl .i64 (Go.bits .and .i64 (wrap64 (bt a0 (wrap64 (a1 + x8_1)))) 127) (wrap64 (7 * x8_1)))) > 1000000000 then (some (0, 0, false)) else (some (Go.bits .or .i64 x7_1 (shl .i64 (Go.bits .and .i64 (wrap64 (bt a0 (wrap64 (a1 + x8_1)))) 127) (wrap64 (7 * x8_1))), wrap64 ((wrap64 (a1 + x8_1)) + 1), true)))) else (if (Go.bits .or .i64 x7_1 (shl .i64 (Go.bits .and .i64 (wrap64 (bt a0 (wrap64 (a1 + x8_1)))) 127) (wrap64 (7 * x8_1)))) > 1000000000 then (some (0, 0, false)) else (some (Go.bits .or .i64 x7_1 (shl .i64 (Go.bits .and .i64 (wrap64 (bt a0 (wrap64 (a1 + x8_1)))) 127) (wrap64 (7 * x8_1))), wrap64 ((wrap64 (a1 + x8_1)) + 1), true))))) else (none)) else (none)) else (none)) = some (r1, r2, r3) := by rw [if_pos rfl] at H; exact H
       clear H
       have H := H1
       clear H1
       obtain ⟨ji8, hji8⟩ : ∃ j_ : Int, (wrap64 (a1 + x8_1)) = j_ := ⟨_, rfl⟩
       replace H : (if 0 ≤ (ji8) then (if (ji8) < (a0.size : Int) then (if 0 ≤ (wrap64 (7 * x8_1)) then (if (wrap64 (bt a0 (ji8))) > 127 then (impl_ReadVar.l0 kj4 a0 a1 (Go.bits .or .i64 x7_1 (shl .i64 (Go.bits .and .i64 (wrap64 (bt a0 (ji8))) 127) (wrap64 (7 * x8_1)))) (wrap64 (x8_1 + 1))) else (if (wrap64 (bt a0 (ji8))) = 0 then (if x8_1 > 0 then (some (0, 0, false)) else (if (Go.bits .or .i64 x7_1 (shl .i64 (Go.bits .and .i64 (wrap64 (bt a0 (ji8))) 127) (wrap64 (7 * x8_1)))) > 1000000000 then (some (0, 0, false)) else (some (Go.bits .or .i64 x7_1 (shl .i64 (Go.bits .and .i64 (wrap64 (bt a0 (ji8))) 127) (wrap64 (7 * x8_1))), wrap64 ((ji8) + 1), true)))) else (if (Go.bits .or .i64 x7_1 (shl .i64 (Go.bits .and .i64 (wrap64 (bt a0 (ji8))) 127) (wrap64 (7 * x8_1)))) > 1000000000 then (some (0, 0, false)) else (some (Go.bits .or .i64 x7_1 (shl .i64 (Go.bits .and .i64 (wrap64 (bt a0 (ji8))) 127) (wrap64 (7 * x8_1))), wrap64 ((ji8) + 1), true))))) else (none)) else (none)) else (none)) = some (r1, r2, r3) := by first | (rw [hji8] at H; exact H) | (simp only [hji8] at H ⊢; exact H)
       have hji8w : (IntKind.i64.wrap (a1 + x8_1)) = ji8 := (i64_w _).trans hji8
       by_cases c9 : 0 ≤ (ji8)
       ·rw [if_pos c9] at H
        have c9b0 : decide (0 ≤ (ji8)) = true := decide_eq_true c9
        clear c9
        by_cases c10 : (ji8) < (a0.size : Int)
        ·rw [if_pos c10] at H
         have c10b0 : decide ((ji8) < (a0.size : Int)) = true := decide_eq_true c10
         clear c10
         obtain ⟨ji12, hji12⟩ : ∃ j_ : Int, (wrap64 (7 * x8_1)) = j_ := ⟨_, rfl⟩
         replace H : (if 0 ≤ (ji12) then (if (wrap64 (bt a0 (ji8))) > 127 then (impl_ReadVar.l0 kj4 a0 a1 (Go.bits .or .i64 x7_1 (shl .i64 (Go.bits .and .i64 (wrap64 (bt a0 (ji8))) 127) (ji12))) (wrap64 (x8_1 + 1))) else (if (wrap64 (bt a0 (ji8))) = 0 then (if x8_1 > 0 then (some (0, 0, false)) else (if (Go.bits .or .i64 x7_1 (shl .i64 (Go.bits .and .i64 (wrap64 (bt a0 (ji8))) 127) (ji12))) > 1000000000 then (some (0, 0, false)) else (some (Go.bits .or .i64 x7_1 (shl .i64 (Go.bits .and .i64 (wrap64 (bt a0 (ji8))) 127) (ji12)), wrap64 ((ji8) + 1), true)))) else (if (Go.bits .or .i64 x7_1 (shl .i64 (Go.bits .and .i64 (wrap64 (bt a0 (ji8))) 127) (ji12))) > 1000000000 then (some (0, 0, false)) else (some (Go.bits .or .i64 x7_1 (shl .i64 (Go.bits .and .i64 (wrap64 (bt a0 (ji8))) 127) (ji12)), wrap64 ((ji8) + 1), true))))) else (none)) = some (r1, r2, r3) := by first | (rw [hji12] at H; exact H) | (simp only [hji12] at H ⊢; exact H)
         have hji12w : (IntKind.i64.wrap (7 * x8_1)) = ji12 := (i64_w _).trans hji12
         by_cases c13 : 0 ≤ (ji12)
         ·rw [if_pos c13] at H
          have c13b0 := eq_true c13
          have c13b1 : decide (0 ≤ (ji12)) = true := decide_eq_true c13
          clear c13
          obtain ⟨ji14, hji14⟩ : ∃ j_ : Int, (shl .i64 (Go.bits .and .i64 (wrap64 (bt a0 (ji8))) 127) (ji12)) = j_ := ⟨_, rfl⟩
          replace H : (if (wrap64 (bt a0 (ji8))) > 127 then (impl_ReadVar.l0 kj4 a0 a1 (Go.bits .or .i64 x7_1 (ji14)) (wrap64 (x8_1 + 1))) else (if (wrap64 (bt a0 (ji8))) = 0 then (if x8_1 > 0 then (some (0, 0, false)) else (if (Go.bits .or .i64 x7_1 (ji14)) > 1000000000 then (some (0, 0, false)) else (some (Go.bits .or .i64 x7_1 (ji14), wrap64 ((ji8) + 1), true)))) else (if (Go.bits .or .i64 x7_1 (ji14)) > 1000000000 then (some (0, 0, false)) else (some (Go.bits .or .i64 x7_1 (ji14), wrap64 ((ji8) + 1), true))))) = some (r1, r2, r3) := by first | (rw [hji14] at H; exact H) | (simp only [hji14] at H ⊢; exact H)
          have hji14_ : (IntKind.i64.wrap ((Go.bits .and .i64 (wrap64 (bt a0 (ji8))) 127) * 2 ^ min (ji12).toNat 64)) = ji14 := hji14
          have hji14z : (ji12) ≤ 64 → (IntKind.i64.wrap ((Go.bits .and .i64 (wrap64 (bt a0 (ji8))) 127) * 2 ^ (ji12).toNat)) = ji14 := shl_small hji14
          have hji14y : (wrap64 ((Go.bits .and .i64 (wrap64 (bt a0 (ji8))) 127) * 2 ^ min (ji12).toNat 64)) = ji14 := (i64_w _).symm.trans hji14_
          have hji14x : (ji12) ≤ 64 → (wrap64 ((Go.bits .and .i64 (wrap64 (bt a0 (ji8))) 127) * 2 ^ (ji12).toNat)) = ji14 := fun h_ => (i64_w _).symm.trans (hji14z h_)
          by_cases c15 : (wrap64 (bt a0 (ji8))) > 127
          ·rw [if_pos c15] at H
           have c15b0 : decide (127 < (wrap64 (bt a0 (ji8)))) = true := decide_eq_true c15
           clear c15
           have H' := Aside0.mk H
           clear H
           have p11 : 0 ≤ ((ji8) : Int) := of_decide_eq_true (by first | (with_reducible assumption) | assumption)
           have q11 : (ji8) < (a0.size : Int) := of_decide_eq_true (by first | (with_reducible assumption) | assumption)
           have hx11 := bt_at a0 (ji8)
           replace p11 := eq_true p11
           replace q11 := eq_true q11
           go_wp2
           go_roundg kj4
           case measure => have := HK1.out; have := HJ4.out; omega
           case rel => exact ⟨(Go.bits .or .i64 x7_1 (ji14)), (wrap64 (x8_1 + 1)), (by first | rfl | (simp; done) | (simp only [← hji14] <;> (first | rfl | simp)) | (simp [*]; done)), (by first | rfl | (simp; done) | (simp [*]; done)), H', ⟨by have := HK1.out; have := HJ4.out; omega⟩, by repeat (first | exact Drawn0.refl _ | apply Drawn0.step)⟩
          ·rw [if_neg c15] at H
           have c15b0 : decide (127 < (wrap64 (bt a0 (ji8)))) = false := decide_eq_false c15
           clear c15
           by_cases c16 : (wrap64 (bt a0 (ji8))) = 0
           ·rw [if_pos c16] at H
            have c16b0 : ((wrap64 (bt a0 (ji8))) == 0) = true := beq_iff_eq.mpr c16
            have c16b1 : ((wrap64 (bt a0 (ji8))) != 0) = false := bne_eq_false_iff_eq.mpr c16
            clear c16
            by_cases c17 : x8_1 > 0
            ·rw [if_pos c17] at H
             have c17b0 : decide (0 < x8_1) = true := decide_eq_true c17
             clear c17
             simp only [Option.some.injEq, Prod.mk.injEq] at H
             obtain ⟨rfl, rfl, rfl⟩ := H
             have p11 : 0 ≤ ((ji8) : Int) := of_decide_eq_true (by first | (with_reducible assumption) | assumption)
             have q11 : (ji8) < (a0.size : Int) := of_decide_eq_true (by first | (with_reducible assumption) | assumption)
             have hx11 := bt_at a0 (ji8)
             replace p11 := eq_true p11
             replace q11 := eq_true q11
             go_wp2
             go_ret3
             exact ⟨by first | rfl | (simp; done) | (simp only [← hji8, ← hji12, ← hji14] <;> (first | rfl | simp)) | (simp [*]; done), by repeat (first | exact Drawn0.refl _ | apply Drawn0.step)⟩
            ·rw [if_neg c17] at H
             have c17b0 : decide (0 < x8_1) = false := decide_eq_false c17
             clear c17
             by_cases c18 : (Go.bits .or .i64 x7_1 (ji14)) > 1000000000
             ·rw [if_pos c18] at H
              have c18b0 : decide (1000000000 < (Go.bits .or .i64 x7_1 (ji14))) = true := decide_eq_true c18
              clear c18
              simp only [Option.some.injEq, Prod.mk.injEq] at H
              obtain ⟨rfl, rfl, rfl⟩ := H
              have p11 : 0 ≤ ((ji8) : Int) := of_decide_eq_true (by first | (with_reducible assumption) | assumption)
              have q11 : (ji8) < (a0.size : Int) := of_decide_eq_true (by first | (with_reducible assumption) | assumption)
              have hx11 := bt_at a0 (ji8)
              replace p11 := eq_true p11
              replace q11 := eq_true q11
              go_wp2
              go_ret3
              exact ⟨by first | rfl | (simp; done) | (simp only [← hji8, ← hji12, ← hji14] <;> (first | rfl | simp)) | (simp [*]; done), by repeat (first | exact Drawn0.refl _ | apply Drawn0.step)⟩
             ·rw [if_neg c18] at H
              have c18b0 : decide (1000000000 < (Go.bits .or .i64 x7_1 (ji14))) = false := decide_eq_false c18
              clear c18
              simp only [Option.some.injEq, Prod.mk.injEq] at H
              obtain ⟨rfl, rfl, rfl⟩ := H
              have p11 : 0 ≤ ((ji8) : Int) := of_decide_eq_true (by first | (with_reducible assumption) | assumption)
              have q11 : (ji8) < (a0.size : Int) := of_decide_eq_true (by first | (with_reducible assumption) | assumption)
              have hx11 := bt_at a0 (ji8)
              replace p11 := eq_true p11
              replace q11 := eq_true q11
              go_wp2
              go_ret3
              exact ⟨by first | rfl | (simp; done) | (simp only [← hji8, ← hji12, ← hji14] <;> (first | rfl | simp)) | (simp [*]; done), by repeat (first | exact Drawn0.refl _ | apply Drawn0.step)⟩
           ·rw [if_neg c16] at H
            have c16b0 : ((wrap64 (bt a0 (ji8))) == 0) = false := beq_eq_false_iff_ne.mpr c16
            have c16b1 : ((wrap64 (bt a0 (ji8))) != 0) = true := bne_iff_ne.mpr c16
            by_cases c19 : (Go.bits .or .i64 x7_1 (ji14)) > 1000000000
            ·rw [if_pos c19] at H
             have c19b0 : decide (1000000000 < (Go.bits .or .i64 x7_1 (ji14))) = true := decide_eq_true c19
             clear c19
             simp only [Option.some.injEq, Prod.mk.injEq] at H
             obtain ⟨rfl, rfl, rfl⟩ := H
             have p11 : 0 ≤ ((ji8) : Int) := of_decide_eq_true (by first | (with_reducible assumption) | assumption)
             have q11 : (ji8) < (a0.size : Int) := of_decide_eq_true (by first | (with_reducible assumption) | assumption)
             have hx11 := bt_at a0 (ji8)
             replace p11 := eq_true p11
             replace q11 := eq_true q11
             go_wp2
             go_ret3
             exact ⟨by first | rfl | (simp; done) | (simp only [← hji8, ← hji12, ← hji14] <;> (first | rfl | simp)) | (simp [*]; done), by repeat (first | exact Drawn0.refl _ | apply Drawn0.step)⟩
            ·rw [if_neg c19] at H
             have c19b0 : decide (1000000000 < (Go.bits .or .i64 x7_1 (ji14))) = false := decide_eq_false c19
             clear c19
             simp only [Option.some.injEq, Prod.mk.injEq] at H
             obtain ⟨rfl, rfl, rfl⟩ := H
             have p11 : 0 ≤ ((ji8) : Int) := of_decide_eq_true (by first | (with_reducible assumption) | assumption)
             have q11 : (ji8) < (a0.size : Int) := of_decide_eq_true (by first | (with_reducible assumption) | assumption)
             have hx11 := bt_at a0 (ji8)
             replace p11 := eq_true p11
             replace q11 := eq_true q11
             go_wp2
             go_ret3
             exact ⟨by first | rfl | (simp; done) | (simp only [← hji8, ← hji12, ← hji14] <;> (first | rfl | simp)) | (simp [*]; done), by repeat (first | exact Drawn0.refl _ | apply Drawn0.step)⟩
         ·rw [if_neg c13] at H
          exact absurd H (by simp)
        ·rw [if_neg c10] at H
         exact absurd H (by simp)
       ·rw [if_neg c9] at H
        exact absurd H (by simp)
      ·replace c7 := Bool.eq_false_iff.mpr c7
       subst c7
       have H1 : (some (0, 0, false)) = some (r1, r2, r3) := by rw [if_neg (show ¬ (false = true) by decide)] at H; exact H
       clear H
       have H := H1
       clear H1
       simp only [Option.some.injEq, Prod.mk.injEq] at H
       obtain ⟨rfl, rfl, rfl⟩ := H
       go_wp2
       go_ret3
       exact ⟨by first | rfl | (simp; done) | (simp [*]; done), by repeat (first | exact Drawn0.refl _ | apply Drawn0.step)⟩
 ·replace c4 := Bool.eq_false_iff.mpr c4
  subst c4
  have H1 : (some (0, 0, false)) = some (r1, r2, r3) := by rw [if_neg (show ¬ (false = true) by decide)] at H; exact H
  clear H
  have H := H1
  clear H1
  simp only [Option.some.injEq, Prod.mk.injEq] at H
  obtain ⟨rfl, rfl, rfl⟩ := H
  go_enter Try.func56, Try.ntmps56
  go_wp2_with (first | ((with_reducible refine gate_callee (f := 63) rfl ?_); refine gl (some 13) Try.func63 #[.int .i64 a1, .int .i64 0, .int .i64 (a0.size : Int)] ?_; (with_reducible refine (impl_in.calls a1 0 (a0.size : Int) false _ A3.out).mono ?_); rintro e w' ⟨rfl, ⟨nd, rfl⟩⟩; refine ⟨_, rfl, ?_⟩))
  go_ret3
  exact ⟨by first | rfl | (simp; done) | (simp [*]; done), by repeat (first | exact Drawn0.refl _ | apply Drawn0.step)⟩

/-! ### impl_ReadShort: function 57 -/
def impl_ReadShort.f (k : Nat) (a0 : ByteArray) (a1 : Int) : Option (ByteArray × Int × Bool) := (impl_ReadVar.f k a0 a1).bind fun bt200 => (if bt200.2.2 = true then (if bt200.1 > 20000 then (some ((⟨#[]⟩ : ByteArray), 0, false)) else (if bt200.1 > (wrap64 ((a0.size : Int) - bt200.2.1)) then (some ((⟨#[]⟩ : ByteArray), 0, false)) else (if 0 ≤ bt200.2.1 then (if bt200.2.1 ≤ (wrap64 (bt200.2.1 + bt200.1)) then (if (wrap64 (bt200.2.1 + bt200.1)) ≤ (a0.size : Int) then (some (a0.extract (bt200.2.1 : Int).toNat ((wrap64 (bt200.2.1 + bt200.1)) : Int).toNat, wrap64 (bt200.2.1 + bt200.1), true)) else (none)) else (none)) else (none)))) else (some ((⟨#[]⟩ : ByteArray), 0, false)))
theorem impl_ReadShort.mono : ∀ a0 a1 k, LeO (impl_ReadShort.f k a0 a1) (impl_ReadShort.f (k + 1) a0 a1) := by
 intro a0 a1 k
 unfold impl_ReadShort.f
 repeat' first
   | (with_reducible exact impl_ReadVar.mono _ _ _)
   | (with_reducible exact LeO.refl _)
   | (with_reducible exact LeO.none _)
   | (with_reducible refine LeO.ite ?_ ?_)
   | (with_reducible refine LeO.bind ?_ (fun _ => ?_))
   | exact impl_ReadVar.mono _ _ _
   | exact LeO.none _
   | refine LeO.ite ?_ ?_
   | refine LeO.bind ?_ (fun _ => ?_)
set_option maxHeartbeats 8000000 in
set_option maxRecDepth 100000 in
theorem impl_ReadShort.calls (k : Nat) (a0 : ByteArray) (a1 : Int) (r1 : ByteArray) (r2 : Int) (r3 : Bool) (w : World) (h : impl_ReadShort.f k a0 a1 = some (r1, r2, r3)) :
  Calls Try.prog 57 #[.string a0, .int .i64 a1] w fun e w' => e = .returned (.tuple #[.string r1, .int .i64 r2, .bool r3]) ∧ Drawn0 w w' := by
 have H : ((impl_ReadVar.f k a0 a1).bind fun bt200 => (if bt200.2.2 = true then (if bt200.1 > 20000 then (some ((⟨#[]⟩ : ByteArray), 0, false)) else (if bt200.1 > (wrap64 ((a0.size : Int) - bt200.2.1)) then (some ((⟨#[]⟩ : ByteArray), 0, false)) else (if 0 ≤ bt200.2.1 then (if bt200.2.1 ≤ (wrap64 (bt200.2.1 + bt200.1)) then (if (wrap64 (bt200.2.1 + bt200.1)) ≤ (a0.size : Int) then (some (a0.extract (bt200.2.1 : Int).toNat ((wrap64 (bt200.2.1 + bt200.1)) : Int).toNat, wrap64 (bt200.2.1 + bt200.1), true)) else (none)) else (none)) else (none)))) else (some ((⟨#[]⟩ : ByteArray), 0, false)))) = some (r1, r2, r3) := h
 clear h
 replace H := Option.bind_eq_some_iff.mp H
 obtain ⟨⟨t200, t201, t202⟩, A30, H⟩ := H
 replace H : (if t202 = true then (if t200 > 20000 then (some ((⟨#[]⟩ : ByteArray), 0, false)) else (if t200 > (wrap64 ((a0.size : Int) - t201)) then (some ((⟨#[]⟩ : ByteArray), 0, false)) else (if 0 ≤ t201 then (if t201 ≤ (wrap64 (t201 + t200)) then (if (wrap64 (t201 + t200)) ≤ (a0.size : Int) then (some (a0.extract (t201 : Int).toNat ((wrap64 (t201 + t200)) : Int).toNat, wrap64 (t201 + t200), true)) else (none)) else (none)) else (none)))) else (some ((⟨#[]⟩ : ByteArray), 0, false))) = some (r1, r2, r3) := H
 have A3 := Aside0.mk A30
 clear A30
 by_cases c4 : t202 = true
 ·subst c4
  have H1 : (if t200 > 20000 then (some ((⟨#[]⟩ : ByteArray), 0, false)) else (if t200 > (wrap64 ((a0.size : Int) - t201)) then (some ((⟨#[]⟩ : ByteArray), 0, false)) else (if 0 ≤ t201 then (if t201 ≤ (wrap64 (t201 + t200)) then (if (wrap64 (t201 + t200)) ≤ (a0.size : Int) then (some (a0.extract (t201 : Int).toNat ((wrap64 (t201 + t200)) : Int).toNat, wrap64 (t201 + t200), true)) else (none)) else (none)) else (none)))) = some (r1, r2, r3) := by rw [if_pos rfl] at H; exact H
  clear H
  have H := H1
  clear H1
  by_cases c5 : t200 > 20000
  ·rw [if_pos c5] at H
   have c5b0 : decide (20000 < t200) = true := decide_eq_true c5
   clear c5
   simp only [Option.some.injEq, Prod.mk.injEq] at H
   obtain ⟨rfl, rfl, rfl⟩ := H
   go_enter Try.func57, Try.ntmps57
   go_wp2_with (first | ((with_reducible refine gate_callee (f := 56) rfl ?_); refine gl (some 13) Try.func56 #[.string a0, .int .i64 a1] ?_; (with_reducible refine (impl_ReadVar.calls k a0 a1 t200 t201 true _ A3.out).mono ?_); rintro e w' ⟨rfl, ⟨nd, rfl⟩⟩; refine ⟨_, rfl, ?_⟩))
   go_ret3
   exact ⟨by first | rfl | (simp; done) | (simp [*]; done), by repeat (first | exact Drawn0.refl _ | apply Drawn0.step)⟩
  ·rw [if_neg c5] at H
   have c5b0 : decide (20000 < t200) = false := decide_eq_false c5
   clear c5
   by_cases c6 : t200 > (wrap64 ((a0.size : Int) - t201))
   ·rw [if_pos c6] at H
    have c6b0 : decide ((wrap64 ((a0.size : Int) - t201)) < t200) = true := decide_eq_true c6
    clear c6
    simp only [Option.some.injEq, Prod.mk.injEq] at H
    obtain ⟨rfl, rfl, rfl⟩ := H
    go_enter Try.func57, Try.ntmps57
    go_wp2_with (first | ((with_reducible refine gate_callee (f := 56) rfl ?_); refine gl (some 13) Try.func56 #[.string a0, .int .i64 a1] ?_; (with_reducible refine (impl_ReadVar.calls k a0 a1 t200 t201 true _ A3.out).mono ?_); rintro e w' ⟨rfl, ⟨nd, rfl⟩⟩; refine ⟨_, rfl, ?_⟩))
    go_ret3
    exact ⟨by first | rfl | (simp; done) | (simp [*]; done), by repeat (first | exact Drawn0.refl _ | apply Drawn0.step)⟩
   ·rw [if_neg c6] at H
    have c6b0 : decide ((wrap64 ((a0.size : Int) - t201)) < t200) = false := decide_eq_false c6
    clear c6
    by_cases c7 : 0 ≤ t201
    ·rw [if_pos c7] at H
     have c7b0 := eq_true c7
     have c7b1 : decide (0 ≤ t201) = true := decide_eq_true c7
     clear c7
     by_cases c8 : t201 ≤ (wrap64 (t201 + t200))
     ·rw [if_pos c8] at H
      have c8b0 := eq_true c8
      have c8b1 : decide (t201 ≤ (wrap64 (t201 + t200))) = true := decide_eq_true c8
      by_cases c9 : (wrap64 (t201 + t200)) ≤ (a0.size : Int)
      ·rw [if_pos c9] at H
       have c9b0 := eq_true c9
       have c9b1 : decide ((wrap64 (t201 + t200)) ≤ (a0.size : Int)) = true := decide_eq_true c9
       simp only [Option.some.injEq, Prod.mk.injEq] at H
       obtain ⟨rfl, rfl, rfl⟩ := H
       go_enter Try.func57, Try.ntmps57
       go_wp2_with (first | ((with_reducible refine gate_callee (f := 56) rfl ?_); refine gl (some 13) Try.func56 #[.string a0, .int .i64 a1] ?_; (with_reducible refine (impl_ReadVar.calls k a0 a1 t200 t201 true _ A3.out).mono ?_); rintro e w' ⟨rfl, ⟨nd, rfl⟩⟩; refine ⟨_, rfl, ?_⟩))
       go_ret3
       exact ⟨by first | rfl | (simp; done) | (simp [*]; done), by repeat (first | exact Drawn0.refl _ | apply Drawn0.step)⟩
      ·rw [if_neg c9] at H
       exact absurd H (by simp)
     ·rw [if_neg c8] at H
      exact absurd H (by simp)
    ·rw [if_neg c7] at H
     exact absurd H (by simp)
 ·replace c4 := Bool.eq_false_iff.mpr c4
  subst c4
  have H1 : (some ((⟨#[]⟩ : ByteArray), 0, false)) = some (r1, r2, r3) := by rw [if_neg (show ¬ (false = true) by decide)] at H; exact H
  clear H
  have H := H1
  clear H1
  simp only [Option.some.injEq, Prod.mk.injEq] at H
  obtain ⟨rfl, rfl, rfl⟩ := H
  go_enter Try.func57, Try.ntmps57
  go_wp2_with (first | ((with_reducible refine gate_callee (f := 56) rfl ?_); refine gl (some 13) Try.func56 #[.string a0, .int .i64 a1] ?_; (with_reducible refine (impl_ReadVar.calls k a0 a1 t200 t201 false _ A3.out).mono ?_); rintro e w' ⟨rfl, ⟨nd, rfl⟩⟩; refine ⟨_, rfl, ?_⟩))
  go_ret3
  exact ⟨by first | rfl | (simp; done) | (simp [*]; done), by repeat (first | exact Drawn0.refl _ | apply Drawn0.step)⟩

/-! ### impl_ReadRec: function 11 -/
theorem bs_ {P : Program} {ops : Array Oper} {rest : List Oper} {o : Oper} {a : Act} {Q : Exit → Act → World → Prop} {W : World} (n : Tmp) (m : Nat) (cs : Array Value) (t : TypeId)
  (h : ∀ g, g = W.heap.size → ∀ w1, w1.heap[g]? = some (.cells cs t (0, 0)) → Below W.heap.size W w1 → wpList P ops Q rest (a.put o.dst (.slice (some ⟨g, 0, none⟩) m m)) w1)
  (hd : o.dst = some n := by exact rfl) (hg : o.guard = none := by exact rfl)
  (hr : (execOp a.eval o).run P W = .ok (.value (.slice (some ⟨W.heap.size, 0, none⟩) m m)) (W.alloc (.cells cs t (0, 0))) := by first | (go_simp; done) | (go_simp; rfl)) : wpList P ops Q (o :: rest) a W :=
 Kd.event_run hg hr (h _ rfl _ (blk_new W _) (below_alloc (Below.refl _ _) _))
def impl_ReadRec.rv (k : Nat) (t : ByteArray) (C : Int → List Int → Option (Int × Int × Int × Int × Int × ByteArray × ByteArray × ByteArray × Bool)) : Nat → Int → List Int → Option (Int × Int × Int × Int × Int × ByteArray × ByteArray × ByteArray × Bool)
 | 0, at_, l => C at_ l
 | n + 1, at_, l => (impl_ReadVar.f k t at_).bind fun b => if b.2.2 = true then impl_ReadRec.rv k t C n b.2.1 (l ++ [b.1]) else some (0, 0, 0, 0, 0, (⟨#[]⟩ : ByteArray), (⟨#[]⟩ : ByteArray), (⟨#[]⟩ : ByteArray), false)
def impl_ReadRec.rs (k : Nat) (t : ByteArray) (C : Int → List ByteArray → Option (Int × Int × Int × Int × Int × ByteArray × ByteArray × ByteArray × Bool)) : Nat → Int → List ByteArray → Option (Int × Int × Int × Int × Int × ByteArray × ByteArray × ByteArray × Bool)
 | 0, at_, l => C at_ l
 | n + 1, at_, l => (impl_ReadShort.f k t at_).bind fun b => if b.2.2 = true then impl_ReadRec.rs k t C n b.2.1 (l ++ [b.1]) else some (0, 0, 0, 0, 0, (⟨#[]⟩ : ByteArray), (⟨#[]⟩ : ByteArray), (⟨#[]⟩ : ByteArray), false)
def impl_ReadRec.fin (k : Nat) (t : ByteArray) (l : List Int) (at_ : Int) (s : List ByteArray) : Option (Int × Int × Int × Int × Int × ByteArray × ByteArray × ByteArray × Bool) :=
 if at_ = (t.size : Int) then (impl_RecOk.f k (wrap64 (bt t 0)) (l.getD 0 0) (l.getD 1 0) (l.getD 2 0) (l.getD 3 0) (s.getD 0 (⟨#[]⟩ : ByteArray)) (s.getD 1 (⟨#[]⟩ : ByteArray)) (s.getD 2 (⟨#[]⟩ : ByteArray))).bind fun b => if b = true then some (wrap64 (bt t 0), l.getD 0 0, l.getD 1 0, l.getD 2 0, l.getD 3 0, s.getD 0 (⟨#[]⟩ : ByteArray), s.getD 1 (⟨#[]⟩ : ByteArray), s.getD 2 (⟨#[]⟩ : ByteArray), true) else some (0, 0, 0, 0, 0, (⟨#[]⟩ : ByteArray), (⟨#[]⟩ : ByteArray), (⟨#[]⟩ : ByteArray), false) else some (0, 0, 0, 0, 0, (⟨#[]⟩ : ByteArray), (⟨#[]⟩ : ByteArray), (⟨#[]⟩ : ByteArray), false)
def impl_ReadRec.f (k : Nat) (a0 : ByteArray) : Option (Int × Int × Int × Int × Int × ByteArray × ByteArray × ByteArray × Bool) := if a0.toList = ([] : List UInt8) then some (0, 0, 0, 0, 0, (⟨#[]⟩ : ByteArray), (⟨#[]⟩ : ByteArray), (⟨#[]⟩ : ByteArray), false) else (if 0 < (a0.size : Int) then impl_ReadRec.rv k a0 (fun at_ l => impl_ReadRec.rs k a0 (fun at2 s => impl_ReadRec.fin k a0 l at2 s) 3 at_ []) 4 1 [] else none)
theorem impl_ReadRec.mono : ∀ a0 k, LeO (impl_ReadRec.f k a0) (impl_ReadRec.f (k + 1) a0) := by
 intro a0 k
 have hf : ∀ l at2 s, LeO (impl_ReadRec.fin k a0 l at2 s) (impl_ReadRec.fin (k + 1) a0 l at2 s) := fun l at2 s => by
  unfold impl_ReadRec.fin
  exact LeO.ite (LeO.bind (impl_RecOk.mono _ _ _ _ _ _ _ _ _) (fun _ => LeO.refl _)) (LeO.refl _)
 have hs : ∀ l n at_ s, LeO (impl_ReadRec.rs k a0 (fun at2 s => impl_ReadRec.fin k a0 l at2 s) n at_ s) (impl_ReadRec.rs (k + 1) a0 (fun at2 s => impl_ReadRec.fin (k + 1) a0 l at2 s) n at_ s) := fun l n => by
  induction n with
  | zero => intro at_ s; exact hf _ _ _
  | succ n ih => intro at_ s; exact LeO.bind (impl_ReadShort.mono _ _ _) (fun _ => LeO.ite (ih _ _) (LeO.refl _))
 have hv : ∀ n at_ l, LeO (impl_ReadRec.rv k a0 (fun at_ l => impl_ReadRec.rs k a0 (fun at2 s => impl_ReadRec.fin k a0 l at2 s) 3 at_ []) n at_ l) (impl_ReadRec.rv (k + 1) a0 (fun at_ l => impl_ReadRec.rs (k + 1) a0 (fun at2 s => impl_ReadRec.fin (k + 1) a0 l at2 s) 3 at_ []) n at_ l) := fun n => by
  induction n with
  | zero => intro at_ l; exact hs _ _ _ _
  | succ n ih => intro at_ l; exact LeO.bind (impl_ReadVar.mono _ _ _) (fun _ => LeO.ite (ih _ _) (LeO.refl _))
 unfold impl_ReadRec.f
 exact LeO.ite (LeO.refl _) (LeO.ite (hv _ _ _) (LeO.refl _))
set_option maxHeartbeats 8000000 in
set_option maxRecDepth 100000 in
theorem impl_ReadRec.calls (k : Nat) (a0 : ByteArray) (r1 r2 r3 r4 r5 : Int) (r6 r7 r8 : ByteArray) (r9 : Bool) (w : World) (h : impl_ReadRec.f k a0 = some (r1, r2, r3, r4, r5, r6, r7, r8, r9)) :
  Calls Try.prog 11 #[.string a0] w fun e w' => e = .returned (.tuple #[.agg #[.int .i64 r1, .int .i64 r2, .int .i64 r3, .int .i64 r4, .int .i64 r5, .string r6, .string r7, .string r8], .bool r9]) ∧ Below w.heap.size w w' := by
 have hu23 := Try.underlying23
 have HB := ak (Below.refl w.heap.size w)
 unfold impl_ReadRec.f at h
 by_cases c2 : a0.toList = ([] : List UInt8)
 ·rw [if_pos c2] at h
  have c2b0 : (a0.toList == ([] : List UInt8)) = true := beq_iff_eq.mpr c2
  have c2b1 : (a0.toList != ([] : List UInt8)) = false := bne_eq_false_iff_eq.mpr c2
  clear c2
  simp only [Option.some.injEq, Prod.mk.injEq] at h
  obtain ⟨rfl, rfl, rfl, rfl, rfl, rfl, rfl, rfl, rfl⟩ := h
  go_enter Try.func11, Try.ntmps11
  go_wp2_with (first | ((with_reducible refine gate_dst (N := 2) rfl ?_); refine bx 2 #[.int .i64 0, .int .i64 0, .int .i64 0, .int .i64 0, .int .i64 0, .string (⟨#[]⟩ : ByteArray), .string (⟨#[]⟩ : ByteArray), .string (⟨#[]⟩ : ByteArray)] 23 ?_; intro gg hg w3 hbox hb; replace BG := ak (hbox); replace GG := ak (bz hg (lG HB)); replace HB := lB HB hb; clear hb hbox hg; obtain ⟨hcg_0, hcg_1, hcg_2, hcg_3, hcg_4, hcg_5, hcg_6, hcg_7, hfg_0, hfg_1, hfg_2, hfg_3, hfg_4, hfg_5, hfg_6, hfg_7⟩ := bC8 BG; skip))
  refine bodyPost_ret (results_ct rfl _ _ gg 23 #[.int .i64 0, .int .i64 0, .int .i64 0, .int .i64 0, .int .i64 0, .string (⟨#[]⟩ : ByteArray), .string (⟨#[]⟩ : ByteArray), .string (⟨#[]⟩ : ByteArray)] (0, 0) _ rfl (bW BG) Try.underlying23 rfl (by kernel_rfl)) rfl ?_
  exact ⟨ew, by exact lT HB (gC GG gN)⟩
 ·rw [if_neg c2] at h
  have c2b0 : (a0.toList == ([] : List UInt8)) = false := beq_eq_false_iff_ne.mpr c2
  have c2b1 : (a0.toList != ([] : List UInt8)) = true := bne_iff_ne.mpr c2
  by_cases c5 : 0 < (a0.size : Int)
  ·rw [if_pos c5] at h
   have c5b0 : decide (0 < (a0.size : Int)) = true := decide_eq_true c5
   have c5b1 : decide (0 < a0.size) = true := decide_eq_true (by omega)
   have q6 : 0 < a0.size := by omega
   have hx6 : ∀ h : 0 < a0.size, ((a0[0]'h).toNat : Int) = bt a0 0 := bt_at a0 0
   have qi6 : (0 < (a0.size : Int)) = True := eq_true c5
   replace q6 := eq_true q6
   clear c5 c2
   have HA := Aside0.mk h
   clear h
   go_enter Try.func11, Try.ntmps11
   go_wp2_with (first | ((with_reducible refine gate_dst (N := 2) rfl ?_); refine bx 2 #[.int .i64 0, .int .i64 0, .int .i64 0, .int .i64 0, .int .i64 0, .string (⟨#[]⟩ : ByteArray), .string (⟨#[]⟩ : ByteArray), .string (⟨#[]⟩ : ByteArray)] 23 ?_; intro gg hg w3 hbox hb; replace BG := ak (hbox); replace GG := ak (bz hg (lG HB)); replace HB := lB HB hb; clear hb hbox hg; obtain ⟨hcg_0, hcg_1, hcg_2, hcg_3, hcg_4, hcg_5, hcg_6, hcg_7, hfg_0, hfg_1, hfg_2, hfg_3, hfg_4, hfg_5, hfg_6, hfg_7⟩ := bC8 BG; skip) | ((with_reducible refine gate_dst (N := 4) rfl ?_); refine bx 4 #[.int .i64 0, .int .i64 0, .int .i64 0, .int .i64 0, .int .i64 0, .string (⟨#[]⟩ : ByteArray), .string (⟨#[]⟩ : ByteArray), .string (⟨#[]⟩ : ByteArray)] 23 ?_; intro gr hg w5 hbox hb; replace NGR := ak (nl hg (bG BG)); replace BG := bB BG hb; replace BR := ak (hbox); replace GR := ak (bz hg (lG HB)); replace HB := lB HB hb; clear hb hbox hg; obtain ⟨hcr_0, hcr_1, hcr_2, hcr_3, hcr_4, hcr_5, hcr_6, hcr_7, hfr_0, hfr_1, hfr_2, hfr_3, hfr_4, hfr_5, hfr_6, hfr_7⟩ := bC8 BR; skip) | ((with_reducible refine gate_dst (N := 27) rfl ?_); refine bs_ 27 4 #[.pointer (some ⟨gr, 1, none⟩), .pointer (some ⟨gr, 2, none⟩), .pointer (some ⟨gr, 3, none⟩), .pointer (some ⟨gr, 4, none⟩)] 86 ?_; intro gs hg w6 hbox hb; replace NSR := ak (ng hg (bW (r := #[.int .i64 (wrap64 (bt a0 0)), .int .i64 0, .int .i64 0, .int .i64 0, .int .i64 0, .string (⟨#[]⟩ : ByteArray), .string (⟨#[]⟩ : ByteArray), .string (⟨#[]⟩ : ByteArray)]) BR)); replace BG := ak (blk_below (bT BG (nC NGR nN)) hb); replace HB := ak (below_step (lT HB (gC GR gN)) hb); replace BR := ak (blk_below (bW (r := #[.int .i64 (wrap64 (bt a0 0)), .int .i64 0, .int .i64 0, .int .i64 0, .int .i64 0, .string (⟨#[]⟩ : ByteArray), .string (⟨#[]⟩ : ByteArray), .string (⟨#[]⟩ : ByteArray)]) BR) hb); replace BS := ak (hbox); clear hb hbox hg))
   go_loopg [5, 29] 4 (fun kq v5 v29 w' => ∃ (at_ jj : Int) (l : List Int), v5 = .int .i64 at_ ∧ v29 = .int .i64 jj ∧ Aside0 (kq + l.length = 4 ∧ jj = (l.length : Int) ∧ impl_ReadRec.rv k a0 (fun at_ l => impl_ReadRec.rs k a0 (fun at2 s => impl_ReadRec.fin k a0 l at2 s) 3 at_ []) kq at_ l = some (r1, r2, r3, r4, r5, r6, r7, r8, r9)) ∧ Aside0 (w'.heap[gr]? = some (.cells #[.int .i64 (wrap64 (bt a0 0)), .int .i64 (l.getD 0 0), .int .i64 (l.getD 1 0), .int .i64 (l.getD 2 0), .int .i64 (l.getD 3 0), .string (⟨#[]⟩ : ByteArray), .string (⟨#[]⟩ : ByteArray), .string (⟨#[]⟩ : ByteArray)] 23 (0, 0))) ∧ Aside0 (w'.heap[gg]? = some (.cells #[.int .i64 0, .int .i64 0, .int .i64 0, .int .i64 0, .int .i64 0, .string (⟨#[]⟩ : ByteArray), .string (⟨#[]⟩ : ByteArray), .string (⟨#[]⟩ : ByteArray)] 23 (0, 0))) ∧ Aside0 (w'.heap[gs]? = some (.cells #[.pointer (some ⟨gr, 1, none⟩), .pointer (some ⟨gr, 2, none⟩), .pointer (some ⟨gr, 3, none⟩), .pointer (some ⟨gr, 4, none⟩)] 86 (0, 0))) ∧ Aside0 (Below w.heap.size w w'))
   case atStart => exact ⟨1, 0, [], (by first | rfl | (simp; done)), (by first | rfl | (simp; done)), ⟨rfl, rfl, HA.out⟩, ⟨BR.out⟩, BG, BS, HB⟩
   case round =>
    clear HA BR BG BS HB
    obtain ⟨at_, jj, l, rfl, rfl, HX, BR, BG, BS, HB⟩ := hrel
    rcases l with _ | ⟨a, _ | ⟨b, _ | ⟨c, _ | ⟨d, _ | ⟨e, l⟩⟩⟩⟩⟩
    ·obtain rfl : jj = 0 := HX.out.2.1
     obtain rfl : gk = 4 := by have := HX.out.1; simp at this; omega
     have H : ((impl_ReadVar.f k a0 at_).bind fun b_ => if b_.2.2 = true then impl_ReadRec.rv k a0 (fun at_ l => impl_ReadRec.rs k a0 (fun at2 s => impl_ReadRec.fin k a0 l at2 s) 3 at_ []) 3 b_.2.1 (([] : List Int) ++ [b_.1]) else some (0, 0, 0, 0, 0, (⟨#[]⟩ : ByteArray), (⟨#[]⟩ : ByteArray), (⟨#[]⟩ : ByteArray), false)) = some (r1, r2, r3, r4, r5, r6, r7, r8, r9) := HX.out.2.2
     have BR : Aside0 (wr.heap[gr]? = some (.cells #[.int .i64 (wrap64 (bt a0 0)), .int .i64 0, .int .i64 0, .int .i64 0, .int .i64 0, .string (⟨#[]⟩ : ByteArray), .string (⟨#[]⟩ : ByteArray), .string (⟨#[]⟩ : ByteArray)] 23 (0, 0))) := ⟨BR.out⟩
     clear HX
     replace H := Option.bind_eq_some_iff.mp H
     obtain ⟨⟨n, e, ok⟩, A0, H⟩ := H
     have AV := Aside0.mk A0
     clear A0
     have hsl : wr.cell? ⟨gs, 0, none⟩ = some (.pointer (some ⟨gr, 1, none⟩)) := bc BS 0
     have hng := NGR.out
     cases ok with
     | true =>
      have H2 : impl_ReadRec.rv k a0 (fun at_ l => impl_ReadRec.rs k a0 (fun at2 s => impl_ReadRec.fin k a0 l at2 s) 3 at_ []) 3 e (([] : List Int) ++ [n]) = some (r1, r2, r3, r4, r5, r6, r7, r8, r9) := by rw [if_pos rfl] at H; exact H
      have HA := Aside0.mk H2
      clear H H2
      go_wp2_with (first | ((with_reducible refine gate_callee (f := 56) rfl ?_); refine gl (some 36) Try.func56 #[.string a0, .int .i64 at_] ?_; (with_reducible refine (impl_ReadVar.calls k a0 at_ n e true _ AV.out).mono ?_); rintro e8 w8 ⟨rfl, ⟨nd, rfl⟩⟩; refine ⟨_, rfl, ?_⟩; have nBR := ak (bG (w' := World.drewN wr nd) BR); have nBG := ak (bG (w' := World.drewN wr nd) BG); have nBS := ak (bG (w' := World.drewN wr nd) BS); have nHB := ak (lG (w' := World.drewN wr nd) HB); clear BR BG BS HB; generalize World.drewN wr nd = w8 at nBR nBG nBS nHB ⊢; have BR := nBR; have BG := nBG; have BS := nBS; have HB := nHB; clear nBR nBG nBS nHB;  obtain ⟨hcr_0, hcr_1, hcr_2, hcr_3, hcr_4, hcr_5, hcr_6, hcr_7, hfr_0, hfr_1, hfr_2, hfr_3, hfr_4, hfr_5, hfr_6, hfr_7⟩ := bC8 BR; obtain ⟨hcg_0, hcg_1, hcg_2, hcg_3, hcg_4, hcg_5, hcg_6, hcg_7, hfg_0, hfg_1, hfg_2, hfg_3, hfg_4, hfg_5, hfg_6, hfg_7⟩ := bC8 BG; skip))
      go_roundg 3
      case measure => omega
      case rel => exact ⟨e, 1, [n], (by first | rfl | (simp; done)), (by first | rfl | (simp; done)), ⟨rfl, rfl, HA.out⟩, ⟨bW BR⟩, ⟨bT BG (nC NGR nN)⟩, ⟨bT BS (nC NSR nN)⟩, ⟨lT HB (gC GR gN)⟩⟩
     | false =>
      have H2 : some (0, 0, 0, 0, 0, (⟨#[]⟩ : ByteArray), (⟨#[]⟩ : ByteArray), (⟨#[]⟩ : ByteArray), false) = some (r1, r2, r3, r4, r5, r6, r7, r8, r9) := by rw [if_neg (by simp)] at H; exact H
      clear H
      simp only [Option.some.injEq, Prod.mk.injEq] at H2
      obtain ⟨rfl, rfl, rfl, rfl, rfl, rfl, rfl, rfl, rfl⟩ := H2
      go_wp2_with (first | ((with_reducible refine gate_callee (f := 56) rfl ?_); refine gl (some 36) Try.func56 #[.string a0, .int .i64 at_] ?_; (with_reducible refine (impl_ReadVar.calls k a0 at_ n e false _ AV.out).mono ?_); rintro e8 w8 ⟨rfl, ⟨nd, rfl⟩⟩; refine ⟨_, rfl, ?_⟩; have nBR := ak (bG (w' := World.drewN wr nd) BR); have nBG := ak (bG (w' := World.drewN wr nd) BG); have nBS := ak (bG (w' := World.drewN wr nd) BS); have nHB := ak (lG (w' := World.drewN wr nd) HB); clear BR BG BS HB; generalize World.drewN wr nd = w8 at nBR nBG nBS nHB ⊢; have BR := nBR; have BG := nBG; have BS := nBS; have HB := nHB; clear nBR nBG nBS nHB;  obtain ⟨hcg_0, hcg_1, hcg_2, hcg_3, hcg_4, hcg_5, hcg_6, hcg_7, hfg_0, hfg_1, hfg_2, hfg_3, hfg_4, hfg_5, hfg_6, hfg_7⟩ := bC8 BG; skip))
      refine bodyPost_ret (results_ct rfl _ _ gg 23 #[.int .i64 0, .int .i64 0, .int .i64 0, .int .i64 0, .int .i64 0, .string (⟨#[]⟩ : ByteArray), .string (⟨#[]⟩ : ByteArray), .string (⟨#[]⟩ : ByteArray)] (0, 0) _ rfl (bW BG) Try.underlying23 rfl (by kernel_rfl)) rfl ?_
      exact ⟨ew, by exact lT HB (gC GG gN)⟩
    ·obtain rfl : jj = 1 := HX.out.2.1
     obtain rfl : gk = 3 := by have := HX.out.1; simp at this; omega
     have H : ((impl_ReadVar.f k a0 at_).bind fun b_ => if b_.2.2 = true then impl_ReadRec.rv k a0 (fun at_ l => impl_ReadRec.rs k a0 (fun at2 s => impl_ReadRec.fin k a0 l at2 s) 3 at_ []) 2 b_.2.1 ([a] ++ [b_.1]) else some (0, 0, 0, 0, 0, (⟨#[]⟩ : ByteArray), (⟨#[]⟩ : ByteArray), (⟨#[]⟩ : ByteArray), false)) = some (r1, r2, r3, r4, r5, r6, r7, r8, r9) := HX.out.2.2
     have BR : Aside0 (wr.heap[gr]? = some (.cells #[.int .i64 (wrap64 (bt a0 0)), .int .i64 a, .int .i64 0, .int .i64 0, .int .i64 0, .string (⟨#[]⟩ : ByteArray), .string (⟨#[]⟩ : ByteArray), .string (⟨#[]⟩ : ByteArray)] 23 (0, 0))) := ⟨BR.out⟩
     clear HX
     replace H := Option.bind_eq_some_iff.mp H
     obtain ⟨⟨n, e, ok⟩, A0, H⟩ := H
     have AV := Aside0.mk A0
     clear A0
     have hsl : wr.cell? ⟨gs, 1, none⟩ = some (.pointer (some ⟨gr, 2, none⟩)) := bc BS 1
     have hng := NGR.out
     cases ok with
     | true =>
      have H2 : impl_ReadRec.rv k a0 (fun at_ l => impl_ReadRec.rs k a0 (fun at2 s => impl_ReadRec.fin k a0 l at2 s) 3 at_ []) 2 e ([a] ++ [n]) = some (r1, r2, r3, r4, r5, r6, r7, r8, r9) := by rw [if_pos rfl] at H; exact H
      have HA := Aside0.mk H2
      clear H H2
      go_wp2_with (first | ((with_reducible refine gate_callee (f := 56) rfl ?_); refine gl (some 36) Try.func56 #[.string a0, .int .i64 at_] ?_; (with_reducible refine (impl_ReadVar.calls k a0 at_ n e true _ AV.out).mono ?_); rintro e8 w8 ⟨rfl, ⟨nd, rfl⟩⟩; refine ⟨_, rfl, ?_⟩; have nBR := ak (bG (w' := World.drewN wr nd) BR); have nBG := ak (bG (w' := World.drewN wr nd) BG); have nBS := ak (bG (w' := World.drewN wr nd) BS); have nHB := ak (lG (w' := World.drewN wr nd) HB); clear BR BG BS HB; generalize World.drewN wr nd = w8 at nBR nBG nBS nHB ⊢; have BR := nBR; have BG := nBG; have BS := nBS; have HB := nHB; clear nBR nBG nBS nHB;  obtain ⟨hcr_0, hcr_1, hcr_2, hcr_3, hcr_4, hcr_5, hcr_6, hcr_7, hfr_0, hfr_1, hfr_2, hfr_3, hfr_4, hfr_5, hfr_6, hfr_7⟩ := bC8 BR; obtain ⟨hcg_0, hcg_1, hcg_2, hcg_3, hcg_4, hcg_5, hcg_6, hcg_7, hfg_0, hfg_1, hfg_2, hfg_3, hfg_4, hfg_5, hfg_6, hfg_7⟩ := bC8 BG; skip))
      go_roundg 2
      case measure => omega
      case rel => exact ⟨e, 2, [a, n], (by first | rfl | (simp; done)), (by first | rfl | (simp; done)), ⟨rfl, rfl, HA.out⟩, ⟨bW BR⟩, ⟨bT BG (nC NGR nN)⟩, ⟨bT BS (nC NSR nN)⟩, ⟨lT HB (gC GR gN)⟩⟩
     | false =>
      have H2 : some (0, 0, 0, 0, 0, (⟨#[]⟩ : ByteArray), (⟨#[]⟩ : ByteArray), (⟨#[]⟩ : ByteArray), false) = some (r1, r2, r3, r4, r5, r6, r7, r8, r9) := by rw [if_neg (by simp)] at H; exact H
      clear H
      simp only [Option.some.injEq, Prod.mk.injEq] at H2
      obtain ⟨rfl, rfl, rfl, rfl, rfl, rfl, rfl, rfl, rfl⟩ := H2
      go_wp2_with (first | ((with_reducible refine gate_callee (f := 56) rfl ?_); refine gl (some 36) Try.func56 #[.string a0, .int .i64 at_] ?_; (with_reducible refine (impl_ReadVar.calls k a0 at_ n e false _ AV.out).mono ?_); rintro e8 w8 ⟨rfl, ⟨nd, rfl⟩⟩; refine ⟨_, rfl, ?_⟩; have nBR := ak (bG (w' := World.drewN wr nd) BR); have nBG := ak (bG (w' := World.drewN wr nd) BG); have nBS := ak (bG (w' := World.drewN wr nd) BS); have nHB := ak (lG (w' := World.drewN wr nd) HB); clear BR BG BS HB; generalize World.drewN wr nd = w8 at nBR nBG nBS nHB ⊢; have BR := nBR; have BG := nBG; have BS := nBS; have HB := nHB; clear nBR nBG nBS nHB;  obtain ⟨hcg_0, hcg_1, hcg_2, hcg_3, hcg_4, hcg_5, hcg_6, hcg_7, hfg_0, hfg_1, hfg_2, hfg_3, hfg_4, hfg_5, hfg_6, hfg_7⟩ := bC8 BG; skip))
      refine bodyPost_ret (results_ct rfl _ _ gg 23 #[.int .i64 0, .int .i64 0, .int .i64 0, .int .i64 0, .int .i64 0, .string (⟨#[]⟩ : ByteArray), .string (⟨#[]⟩ : ByteArray), .string (⟨#[]⟩ : ByteArray)] (0, 0) _ rfl (bW BG) Try.underlying23 rfl (by kernel_rfl)) rfl ?_
      exact ⟨ew, by exact lT HB (gC GG gN)⟩
    ·obtain rfl : jj = 2 := HX.out.2.1
     obtain rfl : gk = 2 := by have := HX.out.1; simp at this; omega
     have H : ((impl_ReadVar.f k a0 at_).bind fun b_ => if b_.2.2 = true then impl_ReadRec.rv k a0 (fun at_ l => impl_ReadRec.rs k a0 (fun at2 s => impl_ReadRec.fin k a0 l at2 s) 3 at_ []) 1 b_.2.1 ([a, b] ++ [b_.1]) else some (0, 0, 0, 0, 0, (⟨#[]⟩ : ByteArray), (⟨#[]⟩ : ByteArray), (⟨#[]⟩ : ByteArray), false)) = some (r1, r2, r3, r4, r5, r6, r7, r8, r9) := HX.out.2.2
     have BR : Aside0 (wr.heap[gr]? = some (.cells #[.int .i64 (wrap64 (bt a0 0)), .int .i64 a, .int .i64 b, .int .i64 0, .int .i64 0, .string (⟨#[]⟩ : ByteArray), .string (⟨#[]⟩ : ByteArray), .string (⟨#[]⟩ : ByteArray)] 23 (0, 0))) := ⟨BR.out⟩
     clear HX
     replace H := Option.bind_eq_some_iff.mp H
     obtain ⟨⟨n, e, ok⟩, A0, H⟩ := H
     have AV := Aside0.mk A0
     clear A0
     have hsl : wr.cell? ⟨gs, 2, none⟩ = some (.pointer (some ⟨gr, 3, none⟩)) := bc BS 2
     have hng := NGR.out
     cases ok with
     | true =>
      have H2 : impl_ReadRec.rv k a0 (fun at_ l => impl_ReadRec.rs k a0 (fun at2 s => impl_ReadRec.fin k a0 l at2 s) 3 at_ []) 1 e ([a, b] ++ [n]) = some (r1, r2, r3, r4, r5, r6, r7, r8, r9) := by rw [if_pos rfl] at H; exact H
      have HA := Aside0.mk H2
      clear H H2
      go_wp2_with (first | ((with_reducible refine gate_callee (f := 56) rfl ?_); refine gl (some 36) Try.func56 #[.string a0, .int .i64 at_] ?_; (with_reducible refine (impl_ReadVar.calls k a0 at_ n e true _ AV.out).mono ?_); rintro e8 w8 ⟨rfl, ⟨nd, rfl⟩⟩; refine ⟨_, rfl, ?_⟩; have nBR := ak (bG (w' := World.drewN wr nd) BR); have nBG := ak (bG (w' := World.drewN wr nd) BG); have nBS := ak (bG (w' := World.drewN wr nd) BS); have nHB := ak (lG (w' := World.drewN wr nd) HB); clear BR BG BS HB; generalize World.drewN wr nd = w8 at nBR nBG nBS nHB ⊢; have BR := nBR; have BG := nBG; have BS := nBS; have HB := nHB; clear nBR nBG nBS nHB;  obtain ⟨hcr_0, hcr_1, hcr_2, hcr_3, hcr_4, hcr_5, hcr_6, hcr_7, hfr_0, hfr_1, hfr_2, hfr_3, hfr_4, hfr_5, hfr_6, hfr_7⟩ := bC8 BR; obtain ⟨hcg_0, hcg_1, hcg_2, hcg_3, hcg_4, hcg_5, hcg_6, hcg_7, hfg_0, hfg_1, hfg_2, hfg_3, hfg_4, hfg_5, hfg_6, hfg_7⟩ := bC8 BG; skip))
      go_roundg 1
      case measure => omega
      case rel => exact ⟨e, 3, [a, b, n], (by first | rfl | (simp; done)), (by first | rfl | (simp; done)), ⟨rfl, rfl, HA.out⟩, ⟨bW BR⟩, ⟨bT BG (nC NGR nN)⟩, ⟨bT BS (nC NSR nN)⟩, ⟨lT HB (gC GR gN)⟩⟩
     | false =>
      have H2 : some (0, 0, 0, 0, 0, (⟨#[]⟩ : ByteArray), (⟨#[]⟩ : ByteArray), (⟨#[]⟩ : ByteArray), false) = some (r1, r2, r3, r4, r5, r6, r7, r8, r9) := by rw [if_neg (by simp)] at H; exact H
      clear H
      simp only [Option.some.injEq, Prod.mk.injEq] at H2
      obtain ⟨rfl, rfl, rfl, rfl, rfl, rfl, rfl, rfl, rfl⟩ := H2
      go_wp2_with (first | ((with_reducible refine gate_callee (f := 56) rfl ?_); refine gl (some 36) Try.func56 #[.string a0, .int .i64 at_] ?_; (with_reducible refine (impl_ReadVar.calls k a0 at_ n e false _ AV.out).mono ?_); rintro e8 w8 ⟨rfl, ⟨nd, rfl⟩⟩; refine ⟨_, rfl, ?_⟩; have nBR := ak (bG (w' := World.drewN wr nd) BR); have nBG := ak (bG (w' := World.drewN wr nd) BG); have nBS := ak (bG (w' := World.drewN wr nd) BS); have nHB := ak (lG (w' := World.drewN wr nd) HB); clear BR BG BS HB; generalize World.drewN wr nd = w8 at nBR nBG nBS nHB ⊢; have BR := nBR; have BG := nBG; have BS := nBS; have HB := nHB; clear nBR nBG nBS nHB;  obtain ⟨hcg_0, hcg_1, hcg_2, hcg_3, hcg_4, hcg_5, hcg_6, hcg_7, hfg_0, hfg_1, hfg_2, hfg_3, hfg_4, hfg_5, hfg_6, hfg_7⟩ := bC8 BG; skip))
      refine bodyPost_ret (results_ct rfl _ _ gg 23 #[.int .i64 0, .int .i64 0, .int .i64 0, .int .i64 0, .int .i64 0, .string (⟨#[]⟩ : ByteArray), .string (⟨#[]⟩ : ByteArray), .string (⟨#[]⟩ : ByteArray)] (0, 0) _ rfl (bW BG) Try.underlying23 rfl (by kernel_rfl)) rfl ?_
      exact ⟨ew, by exact lT HB (gC GG gN)⟩
    ·obtain rfl : jj = 3 := HX.out.2.1
     obtain rfl : gk = 1 := by have := HX.out.1; simp at this; omega
     have H : ((impl_ReadVar.f k a0 at_).bind fun b_ => if b_.2.2 = true then impl_ReadRec.rv k a0 (fun at_ l => impl_ReadRec.rs k a0 (fun at2 s => impl_ReadRec.fin k a0 l at2 s) 3 at_ []) 0 b_.2.1 ([a, b, c] ++ [b_.1]) else some (0, 0, 0, 0, 0, (⟨#[]⟩ : ByteArray), (⟨#[]⟩ : ByteArray), (⟨#[]⟩ : ByteArray), false)) = some (r1, r2, r3, r4, r5, r6, r7, r8, r9) := HX.out.2.2
     have BR : Aside0 (wr.heap[gr]? = some (.cells #[.int .i64 (wrap64 (bt a0 0)), .int .i64 a, .int .i64 b, .int .i64 c, .int .i64 0, .string (⟨#[]⟩ : ByteArray), .string (⟨#[]⟩ : ByteArray), .string (⟨#[]⟩ : ByteArray)] 23 (0, 0))) := ⟨BR.out⟩
     clear HX
     replace H := Option.bind_eq_some_iff.mp H
     obtain ⟨⟨n, e, ok⟩, A0, H⟩ := H
     have AV := Aside0.mk A0
     clear A0
     have hsl : wr.cell? ⟨gs, 3, none⟩ = some (.pointer (some ⟨gr, 4, none⟩)) := bc BS 3
     have hng := NGR.out
     cases ok with
     | true =>
      have H2 : impl_ReadRec.rv k a0 (fun at_ l => impl_ReadRec.rs k a0 (fun at2 s => impl_ReadRec.fin k a0 l at2 s) 3 at_ []) 0 e ([a, b, c] ++ [n]) = some (r1, r2, r3, r4, r5, r6, r7, r8, r9) := by rw [if_pos rfl] at H; exact H
      have HA := Aside0.mk H2
      clear H H2
      go_wp2_with (first | ((with_reducible refine gate_callee (f := 56) rfl ?_); refine gl (some 36) Try.func56 #[.string a0, .int .i64 at_] ?_; (with_reducible refine (impl_ReadVar.calls k a0 at_ n e true _ AV.out).mono ?_); rintro e8 w8 ⟨rfl, ⟨nd, rfl⟩⟩; refine ⟨_, rfl, ?_⟩; have nBR := ak (bG (w' := World.drewN wr nd) BR); have nBG := ak (bG (w' := World.drewN wr nd) BG); have nBS := ak (bG (w' := World.drewN wr nd) BS); have nHB := ak (lG (w' := World.drewN wr nd) HB); clear BR BG BS HB; generalize World.drewN wr nd = w8 at nBR nBG nBS nHB ⊢; have BR := nBR; have BG := nBG; have BS := nBS; have HB := nHB; clear nBR nBG nBS nHB;  obtain ⟨hcr_0, hcr_1, hcr_2, hcr_3, hcr_4, hcr_5, hcr_6, hcr_7, hfr_0, hfr_1, hfr_2, hfr_3, hfr_4, hfr_5, hfr_6, hfr_7⟩ := bC8 BR; obtain ⟨hcg_0, hcg_1, hcg_2, hcg_3, hcg_4, hcg_5, hcg_6, hcg_7, hfg_0, hfg_1, hfg_2, hfg_3, hfg_4, hfg_5, hfg_6, hfg_7⟩ := bC8 BG; skip))
      go_roundg 0
      case measure => omega
      case rel => exact ⟨e, 4, [a, b, c, n], (by first | rfl | (simp; done)), (by first | rfl | (simp; done)), ⟨rfl, rfl, HA.out⟩, ⟨bW BR⟩, ⟨bT BG (nC NGR nN)⟩, ⟨bT BS (nC NSR nN)⟩, ⟨lT HB (gC GR gN)⟩⟩
     | false =>
      have H2 : some (0, 0, 0, 0, 0, (⟨#[]⟩ : ByteArray), (⟨#[]⟩ : ByteArray), (⟨#[]⟩ : ByteArray), false) = some (r1, r2, r3, r4, r5, r6, r7, r8, r9) := by rw [if_neg (by simp)] at H; exact H
      clear H
      simp only [Option.some.injEq, Prod.mk.injEq] at H2
      obtain ⟨rfl, rfl, rfl, rfl, rfl, rfl, rfl, rfl, rfl⟩ := H2
      go_wp2_with (first | ((with_reducible refine gate_callee (f := 56) rfl ?_); refine gl (some 36) Try.func56 #[.string a0, .int .i64 at_] ?_; (with_reducible refine (impl_ReadVar.calls k a0 at_ n e false _ AV.out).mono ?_); rintro e8 w8 ⟨rfl, ⟨nd, rfl⟩⟩; refine ⟨_, rfl, ?_⟩; have nBR := ak (bG (w' := World.drewN wr nd) BR); have nBG := ak (bG (w' := World.drewN wr nd) BG); have nBS := ak (bG (w' := World.drewN wr nd) BS); have nHB := ak (lG (w' := World.drewN wr nd) HB); clear BR BG BS HB; generalize World.drewN wr nd = w8 at nBR nBG nBS nHB ⊢; have BR := nBR; have BG := nBG; have BS := nBS; have HB := nHB; clear nBR nBG nBS nHB;  obtain ⟨hcg_0, hcg_1, hcg_2, hcg_3, hcg_4, hcg_5, hcg_6, hcg_7, hfg_0, hfg_1, hfg_2, hfg_3, hfg_4, hfg_5, hfg_6, hfg_7⟩ := bC8 BG; skip))
      refine bodyPost_ret (results_ct rfl _ _ gg 23 #[.int .i64 0, .int .i64 0, .int .i64 0, .int .i64 0, .int .i64 0, .string (⟨#[]⟩ : ByteArray), .string (⟨#[]⟩ : ByteArray), .string (⟨#[]⟩ : ByteArray)] (0, 0) _ rfl (bW BG) Try.underlying23 rfl (by kernel_rfl)) rfl ?_
      exact ⟨ew, by exact lT HB (gC GG gN)⟩
    ·obtain rfl : jj = 4 := HX.out.2.1
     obtain rfl : gk = 0 := by have := HX.out.1; simp at this; omega
     have HA : Aside0 (impl_ReadRec.rs k a0 (fun at2 s => impl_ReadRec.fin k a0 [a, b, c, d] at2 s) 3 at_ [] = some (r1, r2, r3, r4, r5, r6, r7, r8, r9)) := ⟨HX.out.2.2⟩
     have BR : Aside0 (wr.heap[gr]? = some (.cells #[.int .i64 (wrap64 (bt a0 0)), .int .i64 a, .int .i64 b, .int .i64 c, .int .i64 d, .string (⟨#[]⟩ : ByteArray), .string (⟨#[]⟩ : ByteArray), .string (⟨#[]⟩ : ByteArray)] 23 (0, 0))) := ⟨BR.out⟩
     clear HX BS
     go_wp2_with (first | ((with_reducible refine gate_dst (N := 51) rfl ?_); refine bs_ 51 3 #[.pointer (some ⟨gr, 5, none⟩), .pointer (some ⟨gr, 6, none⟩), .pointer (some ⟨gr, 7, none⟩)] 90 ?_; intro gs2 hg w9 hbox hb; replace NSR := ak (nl hg BR.out); replace BG := ak (blk_below BG.out hb); replace NS2R := ak (ng hg BR.out); replace BR := ak (blk_below BR.out hb); replace BS := ak (hbox); replace HB := ak (below_step HB.out hb); clear hb hbox hg))
     go_loopg [5, 53] 3 (fun kq v5 v53 w' => ∃ (at_ jj : Int) (l : List ByteArray), v5 = .int .i64 at_ ∧ v53 = .int .i64 jj ∧ Aside0 (kq + l.length = 3 ∧ jj = (l.length : Int) ∧ impl_ReadRec.rs k a0 (fun at2 s => impl_ReadRec.fin k a0 [a, b, c, d] at2 s) kq at_ l = some (r1, r2, r3, r4, r5, r6, r7, r8, r9)) ∧ Aside0 (w'.heap[gr]? = some (.cells #[.int .i64 (wrap64 (bt a0 0)), .int .i64 a, .int .i64 b, .int .i64 c, .int .i64 d, .string (l.getD 0 (⟨#[]⟩ : ByteArray)), .string (l.getD 1 (⟨#[]⟩ : ByteArray)), .string (l.getD 2 (⟨#[]⟩ : ByteArray))] 23 (0, 0))) ∧ Aside0 (w'.heap[gg]? = some (.cells #[.int .i64 0, .int .i64 0, .int .i64 0, .int .i64 0, .int .i64 0, .string (⟨#[]⟩ : ByteArray), .string (⟨#[]⟩ : ByteArray), .string (⟨#[]⟩ : ByteArray)] 23 (0, 0))) ∧ Aside0 (w'.heap[gs2]? = some (.cells #[.pointer (some ⟨gr, 5, none⟩), .pointer (some ⟨gr, 6, none⟩), .pointer (some ⟨gr, 7, none⟩)] 90 (0, 0))) ∧ Aside0 (Below w.heap.size w w'))
     case atStart => exact ⟨at_, 0, [], (by first | rfl | (simp; done)), (by first | rfl | (simp; done)), ⟨rfl, rfl, HA.out⟩, ⟨BR.out⟩, BG, BS, HB⟩
     case round =>
      clear HA BR BG BS HB
      obtain ⟨at_, jj, l, rfl, rfl, HX, BR, BG, BS, HB⟩ := hrel
      rcases l with _ | ⟨x, _ | ⟨y, _ | ⟨z, _ | ⟨e, l⟩⟩⟩⟩
      ·obtain rfl : jj = 0 := HX.out.2.1
       obtain rfl : gk = 3 := by have := HX.out.1; simp at this; omega
       have H : ((impl_ReadShort.f k a0 at_).bind fun b_ => if b_.2.2 = true then impl_ReadRec.rs k a0 (fun at2 s => impl_ReadRec.fin k a0 [a, b, c, d] at2 s) 2 b_.2.1 (([] : List ByteArray) ++ [b_.1]) else some (0, 0, 0, 0, 0, (⟨#[]⟩ : ByteArray), (⟨#[]⟩ : ByteArray), (⟨#[]⟩ : ByteArray), false)) = some (r1, r2, r3, r4, r5, r6, r7, r8, r9) := HX.out.2.2
       have BR : Aside0 (wr.heap[gr]? = some (.cells #[.int .i64 (wrap64 (bt a0 0)), .int .i64 a, .int .i64 b, .int .i64 c, .int .i64 d, .string (⟨#[]⟩ : ByteArray), .string (⟨#[]⟩ : ByteArray), .string (⟨#[]⟩ : ByteArray)] 23 (0, 0))) := ⟨BR.out⟩
       clear HX
       replace H := Option.bind_eq_some_iff.mp H
       obtain ⟨⟨n, e, ok⟩, A0, H⟩ := H
       have AV := Aside0.mk A0
       clear A0
       have hsl : wr.cell? ⟨gs2, 0, none⟩ = some (.pointer (some ⟨gr, 5, none⟩)) := bc BS 0
       have hng := NGR.out
       cases ok with
       | true =>
        have H2 : impl_ReadRec.rs k a0 (fun at2 s => impl_ReadRec.fin k a0 [a, b, c, d] at2 s) 2 e (([] : List ByteArray) ++ [n]) = some (r1, r2, r3, r4, r5, r6, r7, r8, r9) := by rw [if_pos rfl] at H; exact H
        have HA := Aside0.mk H2
        clear H H2
        go_wp2_with (first | ((with_reducible refine gate_callee (f := 57) rfl ?_); refine gl (some 60) Try.func57 #[.string a0, .int .i64 at_] ?_; (with_reducible refine (impl_ReadShort.calls k a0 at_ n e true _ AV.out).mono ?_); rintro e8 w8 ⟨rfl, ⟨nd, rfl⟩⟩; refine ⟨_, rfl, ?_⟩; have nBR := ak (bG (w' := World.drewN wr nd) BR); have nBG := ak (bG (w' := World.drewN wr nd) BG); have nBS := ak (bG (w' := World.drewN wr nd) BS); have nHB := ak (lG (w' := World.drewN wr nd) HB); clear BR BG BS HB; generalize World.drewN wr nd = w8 at nBR nBG nBS nHB ⊢; have BR := nBR; have BG := nBG; have BS := nBS; have HB := nHB; clear nBR nBG nBS nHB;  obtain ⟨hcr_0, hcr_1, hcr_2, hcr_3, hcr_4, hcr_5, hcr_6, hcr_7, hfr_0, hfr_1, hfr_2, hfr_3, hfr_4, hfr_5, hfr_6, hfr_7⟩ := bC8 BR; obtain ⟨hcg_0, hcg_1, hcg_2, hcg_3, hcg_4, hcg_5, hcg_6, hcg_7, hfg_0, hfg_1, hfg_2, hfg_3, hfg_4, hfg_5, hfg_6, hfg_7⟩ := bC8 BG; skip))
        go_roundg 2
        case measure => omega
        case rel => exact ⟨e, 1, [n], (by first | rfl | (simp; done)), (by first | rfl | (simp; done)), ⟨rfl, rfl, HA.out⟩, ⟨bW BR⟩, ⟨bT BG (nC NGR nN)⟩, ⟨bT BS (nC NS2R nN)⟩, ⟨lT HB (gC GR gN)⟩⟩
       | false =>
        have H2 : some (0, 0, 0, 0, 0, (⟨#[]⟩ : ByteArray), (⟨#[]⟩ : ByteArray), (⟨#[]⟩ : ByteArray), false) = some (r1, r2, r3, r4, r5, r6, r7, r8, r9) := by rw [if_neg (by simp)] at H; exact H
        clear H
        simp only [Option.some.injEq, Prod.mk.injEq] at H2
        obtain ⟨rfl, rfl, rfl, rfl, rfl, rfl, rfl, rfl, rfl⟩ := H2
        go_wp2_with (first | ((with_reducible refine gate_callee (f := 57) rfl ?_); refine gl (some 60) Try.func57 #[.string a0, .int .i64 at_] ?_; (with_reducible refine (impl_ReadShort.calls k a0 at_ n e false _ AV.out).mono ?_); rintro e8 w8 ⟨rfl, ⟨nd, rfl⟩⟩; refine ⟨_, rfl, ?_⟩; have nBR := ak (bG (w' := World.drewN wr nd) BR); have nBG := ak (bG (w' := World.drewN wr nd) BG); have nBS := ak (bG (w' := World.drewN wr nd) BS); have nHB := ak (lG (w' := World.drewN wr nd) HB); clear BR BG BS HB; generalize World.drewN wr nd = w8 at nBR nBG nBS nHB ⊢; have BR := nBR; have BG := nBG; have BS := nBS; have HB := nHB; clear nBR nBG nBS nHB;  obtain ⟨hcg_0, hcg_1, hcg_2, hcg_3, hcg_4, hcg_5, hcg_6, hcg_7, hfg_0, hfg_1, hfg_2, hfg_3, hfg_4, hfg_5, hfg_6, hfg_7⟩ := bC8 BG; skip))
        refine bodyPost_ret (results_ct rfl _ _ gg 23 #[.int .i64 0, .int .i64 0, .int .i64 0, .int .i64 0, .int .i64 0, .string (⟨#[]⟩ : ByteArray), .string (⟨#[]⟩ : ByteArray), .string (⟨#[]⟩ : ByteArray)] (0, 0) _ rfl (bW BG) Try.underlying23 rfl (by kernel_rfl)) rfl ?_
        exact ⟨ew, by exact lT HB (gC GG gN)⟩
      ·obtain rfl : jj = 1 := HX.out.2.1
       obtain rfl : gk = 2 := by have := HX.out.1; simp at this; omega
       have H : ((impl_ReadShort.f k a0 at_).bind fun b_ => if b_.2.2 = true then impl_ReadRec.rs k a0 (fun at2 s => impl_ReadRec.fin k a0 [a, b, c, d] at2 s) 1 b_.2.1 ([x] ++ [b_.1]) else some (0, 0, 0, 0, 0, (⟨#[]⟩ : ByteArray), (⟨#[]⟩ : ByteArray), (⟨#[]⟩ : ByteArray), false)) = some (r1, r2, r3, r4, r5, r6, r7, r8, r9) := HX.out.2.2
       have BR : Aside0 (wr.heap[gr]? = some (.cells #[.int .i64 (wrap64 (bt a0 0)), .int .i64 a, .int .i64 b, .int .i64 c, .int .i64 d, .string x, .string (⟨#[]⟩ : ByteArray), .string (⟨#[]⟩ : ByteArray)] 23 (0, 0))) := ⟨BR.out⟩
       clear HX
       replace H := Option.bind_eq_some_iff.mp H
       obtain ⟨⟨n, e, ok⟩, A0, H⟩ := H
       have AV := Aside0.mk A0
       clear A0
       have hsl : wr.cell? ⟨gs2, 1, none⟩ = some (.pointer (some ⟨gr, 6, none⟩)) := bc BS 1
       have hng := NGR.out
       cases ok with
       | true =>
        have H2 : impl_ReadRec.rs k a0 (fun at2 s => impl_ReadRec.fin k a0 [a, b, c, d] at2 s) 1 e ([x] ++ [n]) = some (r1, r2, r3, r4, r5, r6, r7, r8, r9) := by rw [if_pos rfl] at H; exact H
        have HA := Aside0.mk H2
        clear H H2
        go_wp2_with (first | ((with_reducible refine gate_callee (f := 57) rfl ?_); refine gl (some 60) Try.func57 #[.string a0, .int .i64 at_] ?_; (with_reducible refine (impl_ReadShort.calls k a0 at_ n e true _ AV.out).mono ?_); rintro e8 w8 ⟨rfl, ⟨nd, rfl⟩⟩; refine ⟨_, rfl, ?_⟩; have nBR := ak (bG (w' := World.drewN wr nd) BR); have nBG := ak (bG (w' := World.drewN wr nd) BG); have nBS := ak (bG (w' := World.drewN wr nd) BS); have nHB := ak (lG (w' := World.drewN wr nd) HB); clear BR BG BS HB; generalize World.drewN wr nd = w8 at nBR nBG nBS nHB ⊢; have BR := nBR; have BG := nBG; have BS := nBS; have HB := nHB; clear nBR nBG nBS nHB;  obtain ⟨hcr_0, hcr_1, hcr_2, hcr_3, hcr_4, hcr_5, hcr_6, hcr_7, hfr_0, hfr_1, hfr_2, hfr_3, hfr_4, hfr_5, hfr_6, hfr_7⟩ := bC8 BR; obtain ⟨hcg_0, hcg_1, hcg_2, hcg_3, hcg_4, hcg_5, hcg_6, hcg_7, hfg_0, hfg_1, hfg_2, hfg_3, hfg_4, hfg_5, hfg_6, hfg_7⟩ := bC8 BG; skip))
        go_roundg 1
        case measure => omega
        case rel => exact ⟨e, 2, [x, n], (by first | rfl | (simp; done)), (by first | rfl | (simp; done)), ⟨rfl, rfl, HA.out⟩, ⟨bW BR⟩, ⟨bT BG (nC NGR nN)⟩, ⟨bT BS (nC NS2R nN)⟩, ⟨lT HB (gC GR gN)⟩⟩
       | false =>
        have H2 : some (0, 0, 0, 0, 0, (⟨#[]⟩ : ByteArray), (⟨#[]⟩ : ByteArray), (⟨#[]⟩ : ByteArray), false) = some (r1, r2, r3, r4, r5, r6, r7, r8, r9) := by rw [if_neg (by simp)] at H; exact H
        clear H
        simp only [Option.some.injEq, Prod.mk.injEq] at H2
        obtain ⟨rfl, rfl, rfl, rfl, rfl, rfl, rfl, rfl, rfl⟩ := H2
        go_wp2_with (first | ((with_reducible refine gate_callee (f := 57) rfl ?_); refine gl (some 60) Try.func57 #[.string a0, .int .i64 at_] ?_; (with_reducible refine (impl_ReadShort.calls k a0 at_ n e false _ AV.out).mono ?_); rintro e8 w8 ⟨rfl, ⟨nd, rfl⟩⟩; refine ⟨_, rfl, ?_⟩; have nBR := ak (bG (w' := World.drewN wr nd) BR); have nBG := ak (bG (w' := World.drewN wr nd) BG); have nBS := ak (bG (w' := World.drewN wr nd) BS); have nHB := ak (lG (w' := World.drewN wr nd) HB); clear BR BG BS HB; generalize World.drewN wr nd = w8 at nBR nBG nBS nHB ⊢; have BR := nBR; have BG := nBG; have BS := nBS; have HB := nHB; clear nBR nBG nBS nHB;  obtain ⟨hcg_0, hcg_1, hcg_2, hcg_3, hcg_4, hcg_5, hcg_6, hcg_7, hfg_0, hfg_1, hfg_2, hfg_3, hfg_4, hfg_5, hfg_6, hfg_7⟩ := bC8 BG; skip))
        refine bodyPost_ret (results_ct rfl _ _ gg 23 #[.int .i64 0, .int .i64 0, .int .i64 0, .int .i64 0, .int .i64 0, .string (⟨#[]⟩ : ByteArray), .string (⟨#[]⟩ : ByteArray), .string (⟨#[]⟩ : ByteArray)] (0, 0) _ rfl (bW BG) Try.underlying23 rfl (by kernel_rfl)) rfl ?_
        exact ⟨ew, by exact lT HB (gC GG gN)⟩
      ·obtain rfl : jj = 2 := HX.out.2.1
       obtain rfl : gk = 1 := by have := HX.out.1; simp at this; omega
       have H : ((impl_ReadShort.f k a0 at_).bind fun b_ => if b_.2.2 = true then impl_ReadRec.rs k a0 (fun at2 s => impl_ReadRec.fin k a0 [a, b, c, d] at2 s) 0 b_.2.1 ([x, y] ++ [b_.1]) else some (0, 0, 0, 0, 0, (⟨#[]⟩ : ByteArray), (⟨#[]⟩ : ByteArray), (⟨#[]⟩ : ByteArray), false)) = some (r1, r2, r3, r4, r5, r6, r7, r8, r9) := HX.out.2.2
       have BR : Aside0 (wr.heap[gr]? = some (.cells #[.int .i64 (wrap64 (bt a0 0)), .int .i64 a, .int .i64 b, .int .i64 c, .int .i64 d, .string x, .string y, .string (⟨#[]⟩ : ByteArray)] 23 (0, 0))) := ⟨BR.out⟩
       clear HX
       replace H := Option.bind_eq_some_iff.mp H
       obtain ⟨⟨n, e, ok⟩, A0, H⟩ := H
       have AV := Aside0.mk A0
       clear A0
       have hsl : wr.cell? ⟨gs2, 2, none⟩ = some (.pointer (some ⟨gr, 7, none⟩)) := bc BS 2
       have hng := NGR.out
       cases ok with
       | true =>
        have H2 : impl_ReadRec.rs k a0 (fun at2 s => impl_ReadRec.fin k a0 [a, b, c, d] at2 s) 0 e ([x, y] ++ [n]) = some (r1, r2, r3, r4, r5, r6, r7, r8, r9) := by rw [if_pos rfl] at H; exact H
        have HA := Aside0.mk H2
        clear H H2
        go_wp2_with (first | ((with_reducible refine gate_callee (f := 57) rfl ?_); refine gl (some 60) Try.func57 #[.string a0, .int .i64 at_] ?_; (with_reducible refine (impl_ReadShort.calls k a0 at_ n e true _ AV.out).mono ?_); rintro e8 w8 ⟨rfl, ⟨nd, rfl⟩⟩; refine ⟨_, rfl, ?_⟩; have nBR := ak (bG (w' := World.drewN wr nd) BR); have nBG := ak (bG (w' := World.drewN wr nd) BG); have nBS := ak (bG (w' := World.drewN wr nd) BS); have nHB := ak (lG (w' := World.drewN wr nd) HB); clear BR BG BS HB; generalize World.drewN wr nd = w8 at nBR nBG nBS nHB ⊢; have BR := nBR; have BG := nBG; have BS := nBS; have HB := nHB; clear nBR nBG nBS nHB;  obtain ⟨hcr_0, hcr_1, hcr_2, hcr_3, hcr_4, hcr_5, hcr_6, hcr_7, hfr_0, hfr_1, hfr_2, hfr_3, hfr_4, hfr_5, hfr_6, hfr_7⟩ := bC8 BR; obtain ⟨hcg_0, hcg_1, hcg_2, hcg_3, hcg_4, hcg_5, hcg_6, hcg_7, hfg_0, hfg_1, hfg_2, hfg_3, hfg_4, hfg_5, hfg_6, hfg_7⟩ := bC8 BG; skip))
        go_roundg 0
        case measure => omega
        case rel => exact ⟨e, 3, [x, y, n], (by first | rfl | (simp; done)), (by first | rfl | (simp; done)), ⟨rfl, rfl, HA.out⟩, ⟨bW BR⟩, ⟨bT BG (nC NGR nN)⟩, ⟨bT BS (nC NS2R nN)⟩, ⟨lT HB (gC GR gN)⟩⟩
       | false =>
        have H2 : some (0, 0, 0, 0, 0, (⟨#[]⟩ : ByteArray), (⟨#[]⟩ : ByteArray), (⟨#[]⟩ : ByteArray), false) = some (r1, r2, r3, r4, r5, r6, r7, r8, r9) := by rw [if_neg (by simp)] at H; exact H
        clear H
        simp only [Option.some.injEq, Prod.mk.injEq] at H2
        obtain ⟨rfl, rfl, rfl, rfl, rfl, rfl, rfl, rfl, rfl⟩ := H2
        go_wp2_with (first | ((with_reducible refine gate_callee (f := 57) rfl ?_); refine gl (some 60) Try.func57 #[.string a0, .int .i64 at_] ?_; (with_reducible refine (impl_ReadShort.calls k a0 at_ n e false _ AV.out).mono ?_); rintro e8 w8 ⟨rfl, ⟨nd, rfl⟩⟩; refine ⟨_, rfl, ?_⟩; have nBR := ak (bG (w' := World.drewN wr nd) BR); have nBG := ak (bG (w' := World.drewN wr nd) BG); have nBS := ak (bG (w' := World.drewN wr nd) BS); have nHB := ak (lG (w' := World.drewN wr nd) HB); clear BR BG BS HB; generalize World.drewN wr nd = w8 at nBR nBG nBS nHB ⊢; have BR := nBR; have BG := nBG; have BS := nBS; have HB := nHB; clear nBR nBG nBS nHB;  obtain ⟨hcg_0, hcg_1, hcg_2, hcg_3, hcg_4, hcg_5, hcg_6, hcg_7, hfg_0, hfg_1, hfg_2, hfg_3, hfg_4, hfg_5, hfg_6, hfg_7⟩ := bC8 BG; skip))
        refine bodyPost_ret (results_ct rfl _ _ gg 23 #[.int .i64 0, .int .i64 0, .int .i64 0, .int .i64 0, .int .i64 0, .string (⟨#[]⟩ : ByteArray), .string (⟨#[]⟩ : ByteArray), .string (⟨#[]⟩ : ByteArray)] (0, 0) _ rfl (bW BG) Try.underlying23 rfl (by kernel_rfl)) rfl ?_
        exact ⟨ew, by exact lT HB (gC GG gN)⟩
      ·obtain rfl : jj = 3 := HX.out.2.1
       obtain rfl : gk = 0 := by have := HX.out.1; simp at this; omega
       have H : (if at_ = (a0.size : Int) then (impl_RecOk.f k (wrap64 (bt a0 0)) a b c d x y z).bind fun b_ => if b_ = true then some (wrap64 (bt a0 0), a, b, c, d, x, y, z, true) else some (0, 0, 0, 0, 0, (⟨#[]⟩ : ByteArray), (⟨#[]⟩ : ByteArray), (⟨#[]⟩ : ByteArray), false) else some (0, 0, 0, 0, 0, (⟨#[]⟩ : ByteArray), (⟨#[]⟩ : ByteArray), (⟨#[]⟩ : ByteArray), false)) = some (r1, r2, r3, r4, r5, r6, r7, r8, r9) := HX.out.2.2
       have BR : Aside0 (wr.heap[gr]? = some (.cells #[.int .i64 (wrap64 (bt a0 0)), .int .i64 a, .int .i64 b, .int .i64 c, .int .i64 d, .string x, .string y, .string z] 23 (0, 0))) := ⟨BR.out⟩
       clear HX BS
       have hng := NGR.out
       obtain ⟨hcg_0, hcg_1, hcg_2, hcg_3, hcg_4, hcg_5, hcg_6, hcg_7, hfg_0, hfg_1, hfg_2, hfg_3, hfg_4, hfg_5, hfg_6, hfg_7⟩ := bC8 BG
       obtain ⟨hcr_0, hcr_1, hcr_2, hcr_3, hcr_4, hcr_5, hcr_6, hcr_7, hfr_0, hfr_1, hfr_2, hfr_3, hfr_4, hfr_5, hfr_6, hfr_7⟩ := bC8 BR
       by_cases c9 : at_ = (a0.size : Int)
       ·rw [if_pos c9] at H
        have c9b0 : (at_ == (a0.size : Int)) = true := beq_iff_eq.mpr c9
        have c9b1 : (at_ != (a0.size : Int)) = false := bne_eq_false_iff_eq.mpr c9
        clear c9
        replace H := Option.bind_eq_some_iff.mp H
        obtain ⟨ok, A0, H⟩ := H
        have AV := Aside0.mk A0
        clear A0
        cases ok with
        | true =>
         have H2 : some (wrap64 (bt a0 0), a, b, c, d, x, y, z, true) = some (r1, r2, r3, r4, r5, r6, r7, r8, r9) := by rw [if_pos rfl] at H; exact H
         clear H
         simp only [Option.some.injEq, Prod.mk.injEq] at H2
         obtain ⟨rfl, rfl, rfl, rfl, rfl, rfl, rfl, rfl, rfl⟩ := H2
         go_wp2_with (first | (go_at_call 28; (with_reducible refine (impl_RecOk.calls k (wrap64 (bt a0 0)) a b c d x y z true _ AV.out).mono ?_); rintro e8 w8 ⟨rfl, hb⟩; replace BR := bB BR hb; replace BG := bB BG hb; replace HB := lB HB hb; clear hb; obtain ⟨hcrr_0, hcrr_1, hcrr_2, hcrr_3, hcrr_4, hcrr_5, hcrr_6, hcrr_7, hfrr_0, hfrr_1, hfrr_2, hfrr_3, hfrr_4, hfrr_5, hfrr_6, hfrr_7⟩ := bC8 BR; obtain ⟨hcgg_0, hcgg_1, hcgg_2, hcgg_3, hcgg_4, hcgg_5, hcgg_6, hcgg_7, hfgg_0, hfgg_1, hfgg_2, hfgg_3, hfgg_4, hfgg_5, hfgg_6, hfgg_7⟩ := bC8 BG; skip))
         refine bodyPost_ret (results_ct rfl _ _ gg 23 #[.int .i64 (wrap64 (bt a0 0)), .int .i64 a, .int .i64 b, .int .i64 c, .int .i64 d, .string x, .string y, .string z] (0, 0) _ rfl (bW BG) Try.underlying23 rfl (by kernel_rfl)) rfl ?_
         exact ⟨ew, by exact lT HB (gC GG gN)⟩
        | false =>
         have H2 : some (0, 0, 0, 0, 0, (⟨#[]⟩ : ByteArray), (⟨#[]⟩ : ByteArray), (⟨#[]⟩ : ByteArray), false) = some (r1, r2, r3, r4, r5, r6, r7, r8, r9) := by rw [if_neg (by simp)] at H; exact H
         clear H
         simp only [Option.some.injEq, Prod.mk.injEq] at H2
         obtain ⟨rfl, rfl, rfl, rfl, rfl, rfl, rfl, rfl, rfl⟩ := H2
         go_wp2_with (first | (go_at_call 28; (with_reducible refine (impl_RecOk.calls k (wrap64 (bt a0 0)) a b c d x y z false _ AV.out).mono ?_); rintro e8 w8 ⟨rfl, hb⟩; replace BR := bB BR hb; replace BG := bB BG hb; replace HB := lB HB hb; clear hb; obtain ⟨hcrr_0, hcrr_1, hcrr_2, hcrr_3, hcrr_4, hcrr_5, hcrr_6, hcrr_7, hfrr_0, hfrr_1, hfrr_2, hfrr_3, hfrr_4, hfrr_5, hfrr_6, hfrr_7⟩ := bC8 BR; obtain ⟨hcgg_0, hcgg_1, hcgg_2, hcgg_3, hcgg_4, hcgg_5, hcgg_6, hcgg_7, hfgg_0, hfgg_1, hfgg_2, hfgg_3, hfgg_4, hfgg_5, hfgg_6, hfgg_7⟩ := bC8 BG; skip))
         refine bodyPost_ret (results_ct rfl _ _ gg 23 #[.int .i64 0, .int .i64 0, .int .i64 0, .int .i64 0, .int .i64 0, .string (⟨#[]⟩ : ByteArray), .string (⟨#[]⟩ : ByteArray), .string (⟨#[]⟩ : ByteArray)] (0, 0) _ rfl (bW BG) Try.underlying23 rfl (by kernel_rfl)) rfl ?_
         exact ⟨ew, by exact lT HB (gC GG gN)⟩
       ·rw [if_neg c9] at H
        have c9b0 : (at_ == (a0.size : Int)) = false := beq_eq_false_iff_ne.mpr c9
        have c9b1 : (at_ != (a0.size : Int)) = true := bne_iff_ne.mpr c9
        clear c9
        simp only [Option.some.injEq, Prod.mk.injEq] at H
        obtain ⟨rfl, rfl, rfl, rfl, rfl, rfl, rfl, rfl, rfl⟩ := H
        go_wp2
        refine bodyPost_ret (results_ct rfl _ _ gg 23 #[.int .i64 0, .int .i64 0, .int .i64 0, .int .i64 0, .int .i64 0, .string (⟨#[]⟩ : ByteArray), .string (⟨#[]⟩ : ByteArray), .string (⟨#[]⟩ : ByteArray)] (0, 0) _ rfl (bW BG) Try.underlying23 rfl (by kernel_rfl)) rfl ?_
        exact ⟨ew, by exact lT HB (gC GG gN)⟩
      ·exact absurd HX.out.1 (by simp only [List.length_cons]; omega)
    ·exact absurd HX.out.1 (by simp only [List.length_cons]; omega)
  ·rw [if_neg c5] at h
   exact absurd h (by simp)


/-! ### impl_FrameOk: function 59 -/
def impl_FrameOk.f (a0_0 : Int) (a0_1 : Int) (a0_2 : ByteArray) : Option (Bool) := (impl_in.f a0_0 1 1000000000).bind fun t204 => (if t204 = true then ((impl_in.f a0_1 1 1000000000).bind fun t205 => (if t205 = true then ((impl_in.f (a0_2.size : Int) 1 180).bind fun t206 => (some t206)) else (some false))) else (some false))
set_option maxHeartbeats 8000000 in
set_option maxRecDepth 100000 in
theorem impl_FrameOk.calls (a0_0 : Int) (a0_1 : Int) (a0_2 : ByteArray) (r : Bool) (w : World) (h : impl_FrameOk.f a0_0 a0_1 a0_2 = some r) :
  Calls Try.prog 59 #[.agg #[.int .i64 a0_0, .int .i64 a0_1, .string a0_2]] w fun e w' => e = .returned (.bool r) ∧ Below w.heap.size w w' := by
 have hu35 := Try.underlying35
 have HB := ak (Below.refl w.heap.size w)
 have H : ((impl_in.f a0_0 1 1000000000).bind fun t204 => (if t204 = true then ((impl_in.f a0_1 1 1000000000).bind fun t205 => (if t205 = true then ((impl_in.f (a0_2.size : Int) 1 180).bind fun t206 => (some t206)) else (some false))) else (some false))) = some r := h
 clear h
 replace H := Option.bind_eq_some_iff.mp H
 obtain ⟨t204, A20, H⟩ := H
 replace H : (if t204 = true then ((impl_in.f a0_1 1 1000000000).bind fun t205 => (if t205 = true then ((impl_in.f (a0_2.size : Int) 1 180).bind fun t206 => (some t206)) else (some false))) else (some false)) = some r := H
 have A2 := Aside0.mk A20
 clear A20
 by_cases c3 : t204 = true
 ·subst c3
  have H1 : ((impl_in.f a0_1 1 1000000000).bind fun t205 => (if t205 = true then ((impl_in.f (a0_2.size : Int) 1 180).bind fun t206 => (some t206)) else (some false))) = some r := by rw [if_pos rfl] at H; exact H
  clear H
  have H := H1
  clear H1
  replace H := Option.bind_eq_some_iff.mp H
  obtain ⟨t205, A40, H⟩ := H
  replace H : (if t205 = true then ((impl_in.f (a0_2.size : Int) 1 180).bind fun t206 => (some t206)) else (some false)) = some r := H
  have A4 := Aside0.mk A40
  clear A40
  by_cases c5 : t205 = true
  ·subst c5
   have H1 : ((impl_in.f (a0_2.size : Int) 1 180).bind fun t206 => (some t206)) = some r := by rw [if_pos rfl] at H; exact H
   clear H
   have H := H1
   clear H1
   replace H := Option.bind_eq_some_iff.mp H
   obtain ⟨t206, A60, H⟩ := H
   replace H : (some t206) = some r := H
   have A6 := Aside0.mk A60
   clear A60
   obtain rfl := Option.some.inj H
   go_enter Try.func59, Try.ntmps59
   go_wp2_with (first | ((with_reducible refine gate_dst (N := 1) rfl ?_); (try (refine gate_guard (by rfl) ?_; dsimp only)); refine bx 1 #[.int .i64 a0_0, .int .i64 a0_1, .string a0_2] 35 ?_; intro gb203 hg w7 hbox hb; replace BK203 := ak (hbox); replace GW203 := ak (bz hg (lG HB)); replace GE203 := ak (bz hg (lG HB)); replace HB := lB HB hb; clear hb hbox hg; obtain ⟨hcz8_0, hcz8_1, hcz8_2, hfz8_0, hfz8_1, hfz8_2⟩ := bC3 BK203) | ((with_reducible refine gate_callee (f := 63) rfl ?_); refine gl (some 5) Try.func63 #[.int .i64 a0_0, .int .i64 1, .int .i64 1000000000] ?_; (with_reducible refine (impl_in.calls a0_0 1 1000000000 true _ A2.out).mono ?_); rintro e w' ⟨rfl, ⟨nd, rfl⟩⟩; refine ⟨_, rfl, ?_⟩) | (go_at_call 63; (with_reducible refine (impl_in.calls a0_1 1 1000000000 true _ A4.out).mono ?_); rintro e w' ⟨rfl, ⟨nd, rfl⟩⟩) | (go_at_call 63; (with_reducible refine (impl_in.calls (a0_2.size : Int) 1 180 t206 _ A6.out).mono ?_); rintro e w' ⟨rfl, ⟨nd, rfl⟩⟩))
   go_ret
   exact ⟨ew, by exact lT HB (gC GE203 gN)⟩
  ·replace c5 := Bool.eq_false_iff.mpr c5
   subst c5
   have H1 : (some false) = some r := by rw [if_neg (show ¬ (false = true) by decide)] at H; exact H
   clear H
   have H := H1
   clear H1
   obtain rfl := Option.some.inj H
   go_enter Try.func59, Try.ntmps59
   go_wp2_with (first | ((with_reducible refine gate_dst (N := 1) rfl ?_); (try (refine gate_guard (by rfl) ?_; dsimp only)); refine bx 1 #[.int .i64 a0_0, .int .i64 a0_1, .string a0_2] 35 ?_; intro gb203 hg w9 hbox hb; replace BK203 := ak (hbox); replace GW203 := ak (bz hg (lG HB)); replace GE203 := ak (bz hg (lG HB)); replace HB := lB HB hb; clear hb hbox hg; obtain ⟨hcz10_0, hcz10_1, hcz10_2, hfz10_0, hfz10_1, hfz10_2⟩ := bC3 BK203) | ((with_reducible refine gate_callee (f := 63) rfl ?_); refine gl (some 5) Try.func63 #[.int .i64 a0_0, .int .i64 1, .int .i64 1000000000] ?_; (with_reducible refine (impl_in.calls a0_0 1 1000000000 true _ A2.out).mono ?_); rintro e w' ⟨rfl, ⟨nd, rfl⟩⟩; refine ⟨_, rfl, ?_⟩) | (go_at_call 63; (with_reducible refine (impl_in.calls a0_1 1 1000000000 false _ A4.out).mono ?_); rintro e w' ⟨rfl, ⟨nd, rfl⟩⟩))
   go_ret
   exact ⟨ew, by exact lT HB (gC GE203 gN)⟩
 ·replace c3 := Bool.eq_false_iff.mpr c3
  subst c3
  have H1 : (some false) = some r := by rw [if_neg (show ¬ (false = true) by decide)] at H; exact H
  clear H
  have H := H1
  clear H1
  obtain rfl := Option.some.inj H
  go_enter Try.func59, Try.ntmps59
  go_wp2_with (first | ((with_reducible refine gate_dst (N := 1) rfl ?_); (try (refine gate_guard (by rfl) ?_; dsimp only)); refine bx 1 #[.int .i64 a0_0, .int .i64 a0_1, .string a0_2] 35 ?_; intro gb203 hg w11 hbox hb; replace BK203 := ak (hbox); replace GW203 := ak (bz hg (lG HB)); replace GE203 := ak (bz hg (lG HB)); replace HB := lB HB hb; clear hb hbox hg; obtain ⟨hcz12_0, hcz12_1, hcz12_2, hfz12_0, hfz12_1, hfz12_2⟩ := bC3 BK203) | ((with_reducible refine gate_callee (f := 63) rfl ?_); refine gl (some 5) Try.func63 #[.int .i64 a0_0, .int .i64 1, .int .i64 1000000000] ?_; (with_reducible refine (impl_in.calls a0_0 1 1000000000 false _ A2.out).mono ?_); rintro e w' ⟨rfl, ⟨nd, rfl⟩⟩; refine ⟨_, rfl, ?_⟩))
  go_ret
  exact ⟨ew, by exact lT HB (gC GE203 gN)⟩

/-! ### impl_FrameItem: function 16 -/
def impl_FrameItem.f (k : Nat) (a0_0 : Int) (a0_1 : Int) (a0_2 : ByteArray) : Option (Int × Int × Int × Int × Int × Int × ByteArray × ByteArray × ByteArray × Bool) := (impl_ReadRec.f k a0_2).bind fun bt209 => (if bt209.2.2.2.2.2.2.2.2 = true then ((impl_FrameOk.f a0_0 a0_1 a0_2).bind fun t219 => (if t219 = true then (some (a0_1, bt209.1, bt209.2.1, bt209.2.2.1, bt209.2.2.2.1, bt209.2.2.2.2.1, bt209.2.2.2.2.2.1, bt209.2.2.2.2.2.2.1, bt209.2.2.2.2.2.2.2.1, true)) else (some (0, 0, 0, 0, 0, 0, (⟨#[]⟩ : ByteArray), (⟨#[]⟩ : ByteArray), (⟨#[]⟩ : ByteArray), false)))) else (some (0, 0, 0, 0, 0, 0, (⟨#[]⟩ : ByteArray), (⟨#[]⟩ : ByteArray), (⟨#[]⟩ : ByteArray), false)))
theorem impl_FrameItem.mono : ∀ a0 a1 a2 k, LeO (impl_FrameItem.f k a0 a1 a2) (impl_FrameItem.f (k + 1) a0 a1 a2) := by
 intro a0 a1 a2 k
 unfold impl_FrameItem.f
 repeat' first
   | (with_reducible exact impl_ReadRec.mono _ _)
   | (with_reducible exact LeO.refl _)
   | (with_reducible exact LeO.none _)
   | (with_reducible refine LeO.ite ?_ ?_)
   | (with_reducible refine LeO.bind ?_ (fun _ => ?_))
   | exact impl_ReadRec.mono _ _
   | exact LeO.none _
   | refine LeO.ite ?_ ?_
   | refine LeO.bind ?_ (fun _ => ?_)
set_option maxHeartbeats 8000000 in
set_option maxRecDepth 100000 in
theorem impl_FrameItem.calls (k : Nat) (a0_0 : Int) (a0_1 : Int) (a0_2 : ByteArray) (r1 : Int) (r2 : Int) (r3 : Int) (r4 : Int) (r5 : Int) (r6 : Int) (r7 : ByteArray) (r8 : ByteArray) (r9 : ByteArray) (r10 : Bool) (w : World) (h : impl_FrameItem.f k a0_0 a0_1 a0_2 = some (r1, r2, r3, r4, r5, r6, r7, r8, r9, r10)) :
  Calls Try.prog 16 #[.agg #[.int .i64 a0_0, .int .i64 a0_1, .string a0_2]] w fun e w' => e = .returned (.tuple #[.agg #[.int .i64 r1, .int .i64 r2, .int .i64 r3, .int .i64 r4, .int .i64 r5, .int .i64 r6, .string r7, .string r8, .string r9], .bool r10]) ∧ Below w.heap.size w w' := by
 have hu35 := Try.underlying35
 have hu32 := Try.underlying32
 have hu23 := Try.underlying23
 have HB := ak (Below.refl w.heap.size w)
 have H : ((impl_ReadRec.f k a0_2).bind fun bt209 => (if bt209.2.2.2.2.2.2.2.2 = true then ((impl_FrameOk.f a0_0 a0_1 a0_2).bind fun t219 => (if t219 = true then (some (a0_1, bt209.1, bt209.2.1, bt209.2.2.1, bt209.2.2.2.1, bt209.2.2.2.2.1, bt209.2.2.2.2.2.1, bt209.2.2.2.2.2.2.1, bt209.2.2.2.2.2.2.2.1, true)) else (some (0, 0, 0, 0, 0, 0, (⟨#[]⟩ : ByteArray), (⟨#[]⟩ : ByteArray), (⟨#[]⟩ : ByteArray), false)))) else (some (0, 0, 0, 0, 0, 0, (⟨#[]⟩ : ByteArray), (⟨#[]⟩ : ByteArray), (⟨#[]⟩ : ByteArray), false)))) = some (r1, r2, r3, r4, r5, r6, r7, r8, r9, r10) := h
 clear h
 replace H := Option.bind_eq_some_iff.mp H
 obtain ⟨⟨t209, t210, t211, t212, t213, t214, t215, t216, t217⟩, A20, H⟩ := H
 replace H : (if t217 = true then ((impl_FrameOk.f a0_0 a0_1 a0_2).bind fun t219 => (if t219 = true then (some (a0_1, t209, t210, t211, t212, t213, t214, t215, t216, true)) else (some (0, 0, 0, 0, 0, 0, (⟨#[]⟩ : ByteArray), (⟨#[]⟩ : ByteArray), (⟨#[]⟩ : ByteArray), false)))) else (some (0, 0, 0, 0, 0, 0, (⟨#[]⟩ : ByteArray), (⟨#[]⟩ : ByteArray), (⟨#[]⟩ : ByteArray), false))) = some (r1, r2, r3, r4, r5, r6, r7, r8, r9, r10) := H
 have A2 := Aside0.mk A20
 clear A20
 by_cases c3 : t217 = true
 ·subst c3
  have H1 : ((impl_FrameOk.f a0_0 a0_1 a0_2).bind fun t219 => (if t219 = true then (some (a0_1, t209, t210, t211, t212, t213, t214, t215, t216, true)) else (some (0, 0, 0, 0, 0, 0, (⟨#[]⟩ : ByteArray), (⟨#[]⟩ : ByteArray), (⟨#[]⟩ : ByteArray), false)))) = some (r1, r2, r3, r4, r5, r6, r7, r8, r9, r10) := by rw [if_pos rfl] at H; exact H
  clear H
  have H := H1
  clear H1
  replace H := Option.bind_eq_some_iff.mp H
  obtain ⟨t219, A40, H⟩ := H
  replace H : (if t219 = true then (some (a0_1, t209, t210, t211, t212, t213, t214, t215, t216, true)) else (some (0, 0, 0, 0, 0, 0, (⟨#[]⟩ : ByteArray), (⟨#[]⟩ : ByteArray), (⟨#[]⟩ : ByteArray), false))) = some (r1, r2, r3, r4, r5, r6, r7, r8, r9, r10) := H
  have A4 := Aside0.mk A40
  clear A40
  by_cases c5 : t219 = true
  ·subst c5
   have H1 : (some (a0_1, t209, t210, t211, t212, t213, t214, t215, t216, true)) = some (r1, r2, r3, r4, r5, r6, r7, r8, r9, r10) := by rw [if_pos rfl] at H; exact H
   clear H
   have H := H1
   clear H1
   simp only [Option.some.injEq, Prod.mk.injEq] at H
   obtain ⟨rfl, rfl, rfl, rfl, rfl, rfl, rfl, rfl, rfl, rfl⟩ := H
   go_enter Try.func16, Try.ntmps16
   go_wp2_with (first | ((with_reducible refine gate_dst (N := 1) rfl ?_); refine bx 1 #[.int .i64 a0_0, .int .i64 a0_1, .string a0_2] 35 ?_; intro gb207 hg w6 hbox hb; replace BK207 := ak (hbox); replace GW207 := ak (bz hg (lG HB)); replace GE207 := ak (bz hg (lG HB)); replace HB := lB HB hb; clear hb hbox hg) | ((with_reducible refine gate_dst (N := 2) rfl ?_); refine bx 2 #[.int .i64 0, .int .i64 0, .int .i64 0, .int .i64 0, .int .i64 0, .int .i64 0, .string (⟨#[]⟩ : ByteArray), .string (⟨#[]⟩ : ByteArray), .string (⟨#[]⟩ : ByteArray)] 32 ?_; intro gb208 hg w7 hbox hb; replace BK208 := ak (hbox); replace GW208 := ak (bz hg (lT HB (gC GE207 gN))); replace GE208 := ak (bz hg (lT HB (gC GE207 gN))); replace HB := ak (below_step (lT HB (gC GE207 gN)) hb); replace NB207_208 := ak (nl hg (bG BK207)); replace NB208_207 := ak (ng hg (bG BK207)); replace BK207 := bB BK207 hb; clear hb hbox hg; have hnb8 := NB207_208.out; have hnc8 := NB208_207.out; obtain ⟨hcz9_0, hcz9_1, hcz9_2, hfz9_0, hfz9_1, hfz9_2⟩ := bC3 BK207) | ((with_reducible refine gate_callee (f := 11) rfl ?_); refine gl (some 9) Try.func11 #[.string a0_2] ?_; (with_reducible refine (impl_ReadRec.calls k a0_2 t209 t210 t211 t212 t213 t214 t215 t216 true _ A2.out).mono ?_); rintro e w10 ⟨rfl, hb⟩; refine ⟨_, rfl, ?_⟩; replace BK207 := bB BK207 hb; replace BK208 := bB BK208 hb; replace HB := ak (below_step (lT HB (gC GE207 (gC GE208 gN))) hb); (try clear hb); (try clear hk)) | ((with_reducible refine gate_dst (N := 4) rfl ?_); refine bx 4 #[.int .i64 0, .int .i64 0, .int .i64 0, .int .i64 0, .int .i64 0, .string (⟨#[]⟩ : ByteArray), .string (⟨#[]⟩ : ByteArray), .string (⟨#[]⟩ : ByteArray)] 23 ?_; intro gb218 hg w11 hbox hb; replace BK218 := ak (hbox); replace GW218 := ak (bz hg (lT HB (gC GE207 (gC GE208 gN)))); replace GE218 := ak (bz hg (lT HB (gC GE207 (gC GE208 gN)))); replace HB := ak (below_step (lT HB (gC GE207 (gC GE208 gN))) hb); replace NB207_218 := ak (nl hg (bG BK207)); replace NB218_207 := ak (ng hg (bG BK207)); replace BK207 := bB BK207 hb; replace NB208_218 := ak (nl hg (bG BK208)); replace NB218_208 := ak (ng hg (bG BK208)); replace BK208 := bB BK208 hb; clear hb hbox hg; have hnb12 := NB218_207.out; have hnc12 := NB207_218.out; have hnb13 := NB218_208.out; have hnc13 := NB208_218.out; obtain ⟨hcz14_0, hcz14_1, hcz14_2, hcz14_3, hcz14_4, hcz14_5, hcz14_6, hcz14_7, hfz14_0, hfz14_1, hfz14_2, hfz14_3, hfz14_4, hfz14_5, hfz14_6, hfz14_7⟩ := bC8 BK218; obtain ⟨hcz15_0, hcz15_1, hcz15_2, hfz15_0, hfz15_1, hfz15_2⟩ := bC3 BK207) | (go_at_call 59; (with_reducible refine (impl_FrameOk.calls a0_0 a0_1 a0_2 true _ A4.out).mono ?_); rintro e w16 ⟨rfl, hb⟩; replace BK207 := ak (blk_below (bT BK207 (nC NB207_218 nN)) hb); replace BK208 := ak (blk_below (bT BK208 (nC NB208_218 nN)) hb); replace BK218 := ak (blk_below (g := gb218) (o := .cells #[.int .i64 t209, .int .i64 t210, .int .i64 t211, .int .i64 t212, .int .i64 t213, .string t214, .string t215, .string t216] 23 (0, 0)) (bW BK218) hb); replace HB := ak (below_step (lT HB (gC GE207 (gC GE208 (gC GE218 gN)))) hb); (try clear hb); (try clear hk); obtain ⟨hcz17_0, hcz17_1, hcz17_2, hfz17_0, hfz17_1, hfz17_2⟩ := bC3 BK207; obtain ⟨hcz18_0, hcz18_1, hcz18_2, hcz18_3, hcz18_4, hcz18_5, hcz18_6, hcz18_7, hfz18_0, hfz18_1, hfz18_2, hfz18_3, hfz18_4, hfz18_5, hfz18_6, hfz18_7⟩ := bC8 BK218; obtain ⟨hcz19_0, hcz19_1, hcz19_2, hcz19_3, hcz19_4, hcz19_5, hcz19_6, hcz19_7, hcz19_8, hfz19_0, hfz19_1, hfz19_2, hfz19_3, hfz19_4, hfz19_5, hfz19_6, hfz19_7, hfz19_8⟩ := bC9 BK208))
   refine bodyPost_ret (results_ct rfl _ _ gb208 32 #[.int .i64 a0_1, .int .i64 t209, .int .i64 t210, .int .i64 t211, .int .i64 t212, .int .i64 t213, .string t214, .string t215, .string t216] (0, 0) _ rfl (bW BK208) Try.underlying32 rfl (by kernel_rfl)) rfl ?_
   exact ⟨ew, by exact lT HB (gC GE207 (gC GE208 (gC GE218 gN)))⟩
  ·replace c5 := Bool.eq_false_iff.mpr c5
   subst c5
   have H1 : (some (0, 0, 0, 0, 0, 0, (⟨#[]⟩ : ByteArray), (⟨#[]⟩ : ByteArray), (⟨#[]⟩ : ByteArray), false)) = some (r1, r2, r3, r4, r5, r6, r7, r8, r9, r10) := by rw [if_neg (show ¬ (false = true) by decide)] at H; exact H
   clear H
   have H := H1
   clear H1
   simp only [Option.some.injEq, Prod.mk.injEq] at H
   obtain ⟨rfl, rfl, rfl, rfl, rfl, rfl, rfl, rfl, rfl, rfl⟩ := H
   go_enter Try.func16, Try.ntmps16
   go_wp2_with (first | ((with_reducible refine gate_dst (N := 1) rfl ?_); refine bx 1 #[.int .i64 a0_0, .int .i64 a0_1, .string a0_2] 35 ?_; intro gb207 hg w20 hbox hb; replace BK207 := ak (hbox); replace GW207 := ak (bz hg (lG HB)); replace GE207 := ak (bz hg (lG HB)); replace HB := lB HB hb; clear hb hbox hg) | ((with_reducible refine gate_dst (N := 2) rfl ?_); refine bx 2 #[.int .i64 0, .int .i64 0, .int .i64 0, .int .i64 0, .int .i64 0, .int .i64 0, .string (⟨#[]⟩ : ByteArray), .string (⟨#[]⟩ : ByteArray), .string (⟨#[]⟩ : ByteArray)] 32 ?_; intro gb208 hg w21 hbox hb; replace BK208 := ak (hbox); replace GW208 := ak (bz hg (lT HB (gC GE207 gN))); replace GE208 := ak (bz hg (lT HB (gC GE207 gN))); replace HB := ak (below_step (lT HB (gC GE207 gN)) hb); replace NB207_208 := ak (nl hg (bG BK207)); replace NB208_207 := ak (ng hg (bG BK207)); replace BK207 := bB BK207 hb; clear hb hbox hg; have hnb22 := NB207_208.out; have hnc22 := NB208_207.out; obtain ⟨hcz23_0, hcz23_1, hcz23_2, hfz23_0, hfz23_1, hfz23_2⟩ := bC3 BK207) | ((with_reducible refine gate_callee (f := 11) rfl ?_); refine gl (some 9) Try.func11 #[.string a0_2] ?_; (with_reducible refine (impl_ReadRec.calls k a0_2 t209 t210 t211 t212 t213 t214 t215 t216 true _ A2.out).mono ?_); rintro e w24 ⟨rfl, hb⟩; refine ⟨_, rfl, ?_⟩; replace BK207 := bB BK207 hb; replace BK208 := bB BK208 hb; replace HB := ak (below_step (lT HB (gC GE207 (gC GE208 gN))) hb); (try clear hb); (try clear hk)) | ((with_reducible refine gate_dst (N := 4) rfl ?_); refine bx 4 #[.int .i64 0, .int .i64 0, .int .i64 0, .int .i64 0, .int .i64 0, .string (⟨#[]⟩ : ByteArray), .string (⟨#[]⟩ : ByteArray), .string (⟨#[]⟩ : ByteArray)] 23 ?_; intro gb218 hg w25 hbox hb; replace BK218 := ak (hbox); replace GW218 := ak (bz hg (lT HB (gC GE207 (gC GE208 gN)))); replace GE218 := ak (bz hg (lT HB (gC GE207 (gC GE208 gN)))); replace HB := ak (below_step (lT HB (gC GE207 (gC GE208 gN))) hb); replace NB207_218 := ak (nl hg (bG BK207)); replace NB218_207 := ak (ng hg (bG BK207)); replace BK207 := bB BK207 hb; replace NB208_218 := ak (nl hg (bG BK208)); replace NB218_208 := ak (ng hg (bG BK208)); replace BK208 := bB BK208 hb; clear hb hbox hg; have hnb26 := NB218_207.out; have hnc26 := NB207_218.out; have hnb27 := NB218_208.out; have hnc27 := NB208_218.out; obtain ⟨hcz28_0, hcz28_1, hcz28_2, hcz28_3, hcz28_4, hcz28_5, hcz28_6, hcz28_7, hfz28_0, hfz28_1, hfz28_2, hfz28_3, hfz28_4, hfz28_5, hfz28_6, hfz28_7⟩ := bC8 BK218; obtain ⟨hcz29_0, hcz29_1, hcz29_2, hfz29_0, hfz29_1, hfz29_2⟩ := bC3 BK207) | (go_at_call 59; (with_reducible refine (impl_FrameOk.calls a0_0 a0_1 a0_2 false _ A4.out).mono ?_); rintro e w30 ⟨rfl, hb⟩; replace BK207 := ak (blk_below (bT BK207 (nC NB207_218 nN)) hb); replace BK208 := ak (blk_below (bT BK208 (nC NB208_218 nN)) hb); replace BK218 := ak (blk_below (g := gb218) (o := .cells #[.int .i64 t209, .int .i64 t210, .int .i64 t211, .int .i64 t212, .int .i64 t213, .string t214, .string t215, .string t216] 23 (0, 0)) (bW BK218) hb); replace HB := ak (below_step (lT HB (gC GE207 (gC GE208 (gC GE218 gN)))) hb); (try clear hb); (try clear hk); obtain ⟨hcz31_0, hcz31_1, hcz31_2, hcz31_3, hcz31_4, hcz31_5, hcz31_6, hcz31_7, hcz31_8, hfz31_0, hfz31_1, hfz31_2, hfz31_3, hfz31_4, hfz31_5, hfz31_6, hfz31_7, hfz31_8⟩ := bC9 BK208))
   refine bodyPost_ret (results_ct rfl _ _ gb208 32 #[.int .i64 0, .int .i64 0, .int .i64 0, .int .i64 0, .int .i64 0, .int .i64 0, .string (⟨#[]⟩ : ByteArray), .string (⟨#[]⟩ : ByteArray), .string (⟨#[]⟩ : ByteArray)] (0, 0) _ rfl (bW BK208) Try.underlying32 rfl (by kernel_rfl)) rfl ?_
   exact ⟨ew, by exact lT HB (gC GE207 (gC GE208 (gC GE218 gN)))⟩
 ·replace c3 := Bool.eq_false_iff.mpr c3
  subst c3
  have H1 : (some (0, 0, 0, 0, 0, 0, (⟨#[]⟩ : ByteArray), (⟨#[]⟩ : ByteArray), (⟨#[]⟩ : ByteArray), false)) = some (r1, r2, r3, r4, r5, r6, r7, r8, r9, r10) := by rw [if_neg (show ¬ (false = true) by decide)] at H; exact H
  clear H
  have H := H1
  clear H1
  simp only [Option.some.injEq, Prod.mk.injEq] at H
  obtain ⟨rfl, rfl, rfl, rfl, rfl, rfl, rfl, rfl, rfl, rfl⟩ := H
  go_enter Try.func16, Try.ntmps16
  go_wp2_with (first | ((with_reducible refine gate_dst (N := 1) rfl ?_); refine bx 1 #[.int .i64 a0_0, .int .i64 a0_1, .string a0_2] 35 ?_; intro gb207 hg w32 hbox hb; replace BK207 := ak (hbox); replace GW207 := ak (bz hg (lG HB)); replace GE207 := ak (bz hg (lG HB)); replace HB := lB HB hb; clear hb hbox hg) | ((with_reducible refine gate_dst (N := 2) rfl ?_); refine bx 2 #[.int .i64 0, .int .i64 0, .int .i64 0, .int .i64 0, .int .i64 0, .int .i64 0, .string (⟨#[]⟩ : ByteArray), .string (⟨#[]⟩ : ByteArray), .string (⟨#[]⟩ : ByteArray)] 32 ?_; intro gb208 hg w33 hbox hb; replace BK208 := ak (hbox); replace GW208 := ak (bz hg (lT HB (gC GE207 gN))); replace GE208 := ak (bz hg (lT HB (gC GE207 gN))); replace HB := ak (below_step (lT HB (gC GE207 gN)) hb); replace NB207_208 := ak (nl hg (bG BK207)); replace NB208_207 := ak (ng hg (bG BK207)); replace BK207 := bB BK207 hb; clear hb hbox hg; have hnb34 := NB207_208.out; have hnc34 := NB208_207.out; obtain ⟨hcz35_0, hcz35_1, hcz35_2, hfz35_0, hfz35_1, hfz35_2⟩ := bC3 BK207) | ((with_reducible refine gate_callee (f := 11) rfl ?_); refine gl (some 9) Try.func11 #[.string a0_2] ?_; (with_reducible refine (impl_ReadRec.calls k a0_2 t209 t210 t211 t212 t213 t214 t215 t216 false _ A2.out).mono ?_); rintro e w36 ⟨rfl, hb⟩; refine ⟨_, rfl, ?_⟩; replace BK207 := bB BK207 hb; replace BK208 := bB BK208 hb; replace HB := ak (below_step (lT HB (gC GE207 (gC GE208 gN))) hb); (try clear hb); (try clear hk)) | ((with_reducible refine gate_dst (N := 4) rfl ?_); refine bx 4 #[.int .i64 0, .int .i64 0, .int .i64 0, .int .i64 0, .int .i64 0, .string (⟨#[]⟩ : ByteArray), .string (⟨#[]⟩ : ByteArray), .string (⟨#[]⟩ : ByteArray)] 23 ?_; intro gb218 hg w37 hbox hb; replace BK218 := ak (hbox); replace GW218 := ak (bz hg (lT HB (gC GE207 (gC GE208 gN)))); replace GE218 := ak (bz hg (lT HB (gC GE207 (gC GE208 gN)))); replace HB := ak (below_step (lT HB (gC GE207 (gC GE208 gN))) hb); replace NB207_218 := ak (nl hg (bG BK207)); replace NB218_207 := ak (ng hg (bG BK207)); replace BK207 := bB BK207 hb; replace NB208_218 := ak (nl hg (bG BK208)); replace NB218_208 := ak (ng hg (bG BK208)); replace BK208 := bB BK208 hb; clear hb hbox hg; have hnb38 := NB218_207.out; have hnc38 := NB207_218.out; have hnb39 := NB218_208.out; have hnc39 := NB208_218.out; obtain ⟨hcz40_0, hcz40_1, hcz40_2, hcz40_3, hcz40_4, hcz40_5, hcz40_6, hcz40_7, hfz40_0, hfz40_1, hfz40_2, hfz40_3, hfz40_4, hfz40_5, hfz40_6, hfz40_7⟩ := bC8 BK218; obtain ⟨hcz41_0, hcz41_1, hcz41_2, hcz41_3, hcz41_4, hcz41_5, hcz41_6, hcz41_7, hcz41_8, hfz41_0, hfz41_1, hfz41_2, hfz41_3, hfz41_4, hfz41_5, hfz41_6, hfz41_7, hfz41_8⟩ := bC9 BK208))
  refine bodyPost_ret (results_ct rfl _ _ gb208 32 #[.int .i64 0, .int .i64 0, .int .i64 0, .int .i64 0, .int .i64 0, .int .i64 0, .string (⟨#[]⟩ : ByteArray), .string (⟨#[]⟩ : ByteArray), .string (⟨#[]⟩ : ByteArray)] (0, 0) _ rfl (bF BK208 (nC NB208_218 nN)) Try.underlying32 rfl (by kernel_rfl)) rfl ?_
  exact ⟨ew, by exact lT HB (gC GE207 (gC GE208 (gC GE218 gN)))⟩

/-! ### laws_big: function 23 -/
def laws_big.f (l0 : List Int) : Option (Bool) := some (decide ((l0.length : Int) > 1048576))
set_option maxHeartbeats 8000000 in
set_option maxRecDepth 100000 in
theorem laws_big.calls (A0 : Option Addr) (c0 : Nat) (l0 : List Int) (r : Bool) (w : World) (hr0 : Kd.C (Kd.int .u8) w A0 l0.length l0) (hc0 : l0.length ≤ c0) (h : laws_big.f l0 = some r) :
  Calls Try.prog 23 #[.slice A0 l0.length c0] w fun e w' => e = .returned (.bool r) ∧ Drawn0 w w' := by
 have HR0 := Aside0.mk hr0
 have HC0 := Aside0.mk hc0
 clear hr0 hc0
 have H : (some (decide ((l0.length : Int) > 1048576))) = some r := h
 clear h
 obtain rfl := Option.some.inj H
 go_enter Try.func23, Try.ntmps23
 go_wp2
 go_ret
 exact ⟨by first | rfl | (simp; done) | (simp [*]; done), by repeat (first | exact Drawn0.refl _ | apply Drawn0.step)⟩

end Go.Proofs.Ytagkjeldheiejaa.PFnRecords
