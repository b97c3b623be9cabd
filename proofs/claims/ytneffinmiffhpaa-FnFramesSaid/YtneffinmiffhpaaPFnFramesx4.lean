-- Written for this claim by a program of mine (a turned copy of the kit's print): functions as plain Lean, and their contracts. Lean checks it.
import Derived.Test.YtneffinmiffhpaaPFnFramesx0
import Derived.Test.YtneffinmiffhpaaPFnFramesx2
import Derived.Test.YtneffinmiffhpaaPFnFramesx3
import Derived.Test.YtneffinmiffhpaaVFnFrames1
namespace Go.Proofs.Ytneffinmiffhpaa.PFnFrames
open Go.RowKit Go.Proofs.YtneffinmiffhpaaW.PrintWords Go.Proofs.YtneffinmiffhpaaW.PrintLast Go.Proofs.YtneffinmiffhpaaW.PrintMore
attribute [local go_sem] max2_int min2_int max_two min_two max_three min_three max_four min_four   -- for this text's walks alone
set_option linter.unusedVariables false
set_option linter.unusedSimpArgs false

/-! ### impl_ReadVar: function 60 -/
mutual
def impl_ReadVar.l0 : Nat → ByteArray → Int → Int → Int → Option (Int × Int × Bool)
 | 0, _, _, _, _ => none
 | k + 1, x0, x1, x7, x8 => if x8 < 5 then (impl_ReadVar.j1 k x0 x1 x7 x8 (decide ((wrap64 (x1 + x8)) < (x0.size : Int)))) else (impl_ReadVar.j1 k x0 x1 x7 x8 false)
def impl_ReadVar.j1 : Nat → ByteArray → Int → Int → Int → Bool → Option (Int × Int × Bool)
 | 0, _, _, _, _, _ => none
 | k + 1, x0, x1, x7, x8, x24 => if x24 = true then (if 0 ≤ (wrap64 (x1 + x8)) then (if (wrap64 (x1 + x8)) < (x0.size : Int) then (if 0 ≤ (wrap64 (7 * x8)) then (if (wrap64 (bt x0 (wrap64 (x1 + x8)))) > 127 then (impl_ReadVar.l0 k x0 x1 (Go.bits .or .i64 x7 (shl .i64 (Go.bits .and .i64 (wrap64 (bt x0 (wrap64 (x1 + x8)))) 127) (wrap64 (7 * x8)))) (wrap64 (x8 + 1))) else (if (wrap64 (bt x0 (wrap64 (x1 + x8)))) = 0 then (if x8 > 0 then (some (0, 0, false)) else (if (Go.bits .or .i64 x7 (shl .i64 (Go.bits .and .i64 (wrap64 (bt x0 (wrap64 (x1 + x8)))) 127) (wrap64 (7 * x8)))) > 1000000000 then (some (0, 0, false)) else (some (Go.bits .or .i64 x7 (shl .i64 (Go.bits .and .i64 (wrap64 (bt x0 (wrap64 (x1 + x8)))) 127) (wrap64 (7 * x8))), wrap64 ((wrap64 (x1 + x8)) + 1), true)))) else (if (Go.bits .or .i64 x7 (shl .i64 (Go.bits .and .i64 (wrap64 (bt x0 (wrap64 (x1 + x8)))) 127) (wrap64 (7 * x8)))) > 1000000000 then (some (0, 0, false)) else (some (Go.bits .or .i64 x7 (shl .i64 (Go.bits .and .i64 (wrap64 (bt x0 (wrap64 (x1 + x8)))) 127) (wrap64 (7 * x8))), wrap64 ((wrap64 (x1 + x8)) + 1), true))))) else (none)) else (none)) else (none)) else (some (0, 0, false))
end
def impl_ReadVar.f (k : Nat) (a0 : ByteArray) (a1 : Int) : Option (Int × Int × Bool) := (impl_in.f a1 0 (a0.size : Int)).bind fun t206 => (if t206 = true then (impl_ReadVar.l0 k a0 a1 0 0) else (some (0, 0, false)))
theorem impl_ReadVar.mono_l : ∀ k, (∀ y0 y1 y2 y3, LeO (impl_ReadVar.l0 k y0 y1 y2 y3) (impl_ReadVar.l0 (k + 1) y0 y1 y2 y3)) ∧ (∀ y0 y1 y2 y3 y4, LeO (impl_ReadVar.j1 k y0 y1 y2 y3 y4) (impl_ReadVar.j1 (k + 1) y0 y1 y2 y3 y4))
 | 0 => ⟨fun _ _ _ _ r h => by simp [impl_ReadVar.l0] at h, fun _ _ _ _ _ r h => by simp [impl_ReadVar.j1] at h⟩
 | k + 1 => by
  obtain ⟨ih0, ih1⟩ := impl_ReadVar.mono_l k
  refine ⟨?_, ?_⟩
  ·intro y0 y1 y2 y3
   unfold impl_ReadVar.l0
   repeat' first
   | (with_reducible exact ih0 _ _ _ _)
   | (with_reducible exact ih1 _ _ _ _ _)
   | (with_reducible exact LeO.refl _)
   | (with_reducible exact LeO.none _)
   | (with_reducible refine LeO.ite ?_ ?_)
   | (with_reducible refine LeO.bind ?_ (fun _ => ?_))
   | exact ih0 _ _ _ _
   | exact ih1 _ _ _ _ _
   | exact LeO.none _
   | refine LeO.ite ?_ ?_
   | refine LeO.bind ?_ (fun _ => ?_)
  ·intro y0 y1 y2 y3 y4
   unfold impl_ReadVar.j1
   repeat' first
   | (with_reducible exact ih0 _ _ _ _)
   | (with_reducible exact ih1 _ _ _ _ _)
   | (with_reducible exact LeO.refl _)
   | (with_reducible exact LeO.none _)
   | (with_reducible refine LeO.ite ?_ ?_)
   | (with_reducible refine LeO.bind ?_ (fun _ => ?_))
   | exact ih0 _ _ _ _
   | exact ih1 _ _ _ _ _
   | exact LeO.none _
   | refine LeO.ite ?_ ?_
   | refine LeO.bind ?_ (fun _ => ?_)
theorem impl_ReadVar.mono : ∀ a0 a1 k, LeO (impl_ReadVar.f k a0 a1) (impl_ReadVar.f (k + 1) a0 a1) := by
 intro a0 a1 k
 obtain ⟨ih0, ih1⟩ := impl_ReadVar.mono_l k
 unfold impl_ReadVar.f
 repeat' first
   | (with_reducible exact ih0 _ _ _ _)
   | (with_reducible exact ih1 _ _ _ _ _)
   | (with_reducible exact LeO.refl _)
   | (with_reducible exact LeO.none _)
   | (with_reducible refine LeO.ite ?_ ?_)
   | (with_reducible refine LeO.bind ?_ (fun _ => ?_))
   | exact ih0 _ _ _ _
   | exact ih1 _ _ _ _ _
   | exact LeO.none _
   | refine LeO.ite ?_ ?_
   | refine LeO.bind ?_ (fun _ => ?_)
set_option maxHeartbeats 8000000 in
set_option maxRecDepth 100000 in
theorem impl_ReadVar.calls (k : Nat) (a0 : ByteArray) (a1 : Int) (r1 : Int) (r2 : Int) (r3 : Bool) (w : World) (h : impl_ReadVar.f k a0 a1 = some (r1, r2, r3)) :
  Calls Try.prog 60 #[.string a0, .int .i64 a1] w fun e w' => e = .returned (.tuple #[.int .i64 r1, .int .i64 r2, .bool r3]) ∧ Drawn0 w w' := by
 have H : ((impl_in.f a1 0 (a0.size : Int)).bind fun t206 => (if t206 = true then (impl_ReadVar.l0 k a0 a1 0 0) else (some (0, 0, false)))) = some (r1, r2, r3) := h
 clear h
 replace H := Option.bind_eq_some_iff.mp H
 obtain ⟨t206, A30, H⟩ := H
 replace H : (if t206 = true then (impl_ReadVar.l0 k a0 a1 0 0) else (some (0, 0, false))) = some (r1, r2, r3) := H
 have A3 := Aside0.mk A30
 clear A30
 by_cases c4 : t206 = true
 ·subst c4
  have H1 : (impl_ReadVar.l0 k a0 a1 0 0) = some (r1, r2, r3) := by rw [if_pos rfl] at H; exact H
  clear H
  have H := H1
  clear H1
  have H' := Aside0.mk H
  clear H
  go_enter Try.func60, Try.ntmps60
  go_wp2_with (first | ((with_reducible refine gate_callee (f := 66) rfl ?_); refine gl (some 13) Try.func66 #[.int .i64 a1, .int .i64 0, .int .i64 (a0.size : Int)] ?_; (with_reducible refine (impl_in.calls a1 0 (a0.size : Int) true _ A3.out).mono ?_); rintro e w' ⟨rfl, ⟨nd, rfl⟩⟩; refine ⟨_, rfl, ?_⟩))
  go_loopg [7, 8] k (fun kq v7 v8 w' => ∃ (x7_1 : Int) (x8_1 : Int), v7 = .int .i64 x7_1 ∧ v8 = .int .i64 x8_1 ∧ Aside0 (impl_ReadVar.l0 kq a0 a1 x7_1 x8_1 = some (r1, r2, r3)) ∧ Aside0 (kq ≤ k) ∧ Drawn0 w w')
  case atStart => exact ⟨(0), (0), (by first | rfl | (simp; done) | (simp [*]; done)), (by first | rfl | (simp; done) | (simp [*]; done)), H', ⟨Nat.le_refl _⟩, by repeat (first | exact Drawn0.refl _ | apply Drawn0.step)⟩
  case round =>
   clear H'
   try clear p2
   try clear c4
   obtain ⟨x7_1, x8_1, rfl, rfl, HA, HK1, ⟨m1, rfl⟩⟩ := hrel
   cases gk with
   | zero => exact absurd HA.out (by simp [impl_ReadVar.l0])
   | succ k1 =>
    have H := HA.out
    clear HA
    simp only [impl_ReadVar.l0] at H
    have HC5 := Aside0.mk H
    clear H
    go_upto_region 5 with (fail)
    go_cut [24] (fun v24 wc => ∃ (kq : Nat) (x24_4 : Bool), v24 = .bool x24_4 ∧ Aside0 (impl_ReadVar.j1 kq a0 a1 x7_1 x8_1 x24_4 = some (r1, r2, r3)) ∧ Aside0 (kq ≤ k1) ∧ Drawn0 w wc)
    case first =>
     have H := HC5.out
     clear HC5
     by_cases c6 : x8_1 < 5
     ·rw [if_pos c6] at H
      have c6b0 : decide (x8_1 < 5) = true := decide_eq_true c6
      clear c6
      (first | rw [c6b0] | (simp only [i64_w, i32_w]; rw [c6b0]) | skip)
      have H' := Aside0.mk H
      clear H
      go_wp2
      go_meet
      case rel => exact ⟨_, (decide ((wrap64 (a1 + x8_1)) < (a0.size : Int))), (by first | rfl | (simp; done) | (simp [*]; done)), H', ⟨by have := HK1.out; first | omega | exact Nat.le_refl _⟩, by repeat (first | exact Drawn0.refl _ | apply Drawn0.step)⟩
     ·rw [if_neg c6] at H
      have c6b0 : decide (x8_1 < 5) = false := decide_eq_false c6
      clear c6
      (first | rw [c6b0] | (simp only [i64_w, i32_w]; rw [c6b0]) | skip)
      have H' := Aside0.mk H
      clear H
      go_wp2
      go_meet
      case rel => exact ⟨_, (false), (by first | rfl | (simp; done) | (simp [*]; done)), H', ⟨by have := HK1.out; first | omega | exact Nat.le_refl _⟩, by repeat (first | exact Drawn0.refl _ | apply Drawn0.step)⟩
    case rest =>
     clear HC5
     try clear p2
     try clear c4
     try clear c6
     try clear c6b0
     try clear p6
     try clear p2
     obtain ⟨kq, x24_4, rfl, HA, HJ4, ⟨mc4, rfl⟩⟩ := hcut
     cases kq with
     | zero => exact absurd HA.out (by simp [impl_ReadVar.j1])
     | succ kj4 =>
      have H := HA.out
      clear HA
      simp only [impl_ReadVar.j1] at H
      by_cases c7 : x24_4 = true
      ·subst c7
       have H1 : (if 0 ≤ (wrap64 (a1 + x8_1)) then (if (wrap64 (a1 + x8_1)) < (a0.size : Int) then (if 0 ≤ (wrap64 (7 * x8_1)) then (if (wrap64 (bt a0 (wrap64 (a1 + x8_1)))) > 127 then (impl_ReadVar.l0 kj4 a0 a1 (Go.bits .or .i64 x7_1 (shl .i64 (Go.bits .and .i64 (wrap64 (bt a0 (wrap64 (a1 + x8_1)))) 127) (wrap64 (7 * x8_1)))) (wrap64 (x8_1 + 1))) else (if (wrap64 (bt a0 (wrap64 (a1 + x8_1)))) = 0 then (if x8_1 > 0 then (some (0, 0, false)) else (if (Go.bits .or .i64 x7_1 (shl .i64 (Go.bits .and .i64 (wrap64 (bt a0 (wrap64 (a1 + x8_1)))) 127) (wrap64 (7 * x8_1)))) > 1000000000 then (some (0, 0, false)) else (some (Go.bits .or .i64 x7_1 (shl .i64 (Go.bits .and .i64 (wrap64 (bt a0 (wrap64 (a1 + x8_1)))) 127) (wrap64 (7 * x8_1))), wrap64 ((wrap64 (a1 + x8_1)) + 1), true)))) else (if (Go.bits .or .i64 x7_1 (shl .i64 (Go.bits .and .i64 (wrap64 (bt a0 (wrap64 (a1 + x8_1)))) 127) (wrap64 (7 * x8_1)))) > 1000000000 then (some (0, 0, false)) else (some (Go.bits .or .i64 x7_1 (shl .i64 (Go.bits .and .i64 (wrap64 (bt a0 (wrap64 (a1 + x8_1)))) 127) (wrap64 (7 * x8_1))), wrap64 ((wrap64 (a1 + x8_1)) + 1), true))))) else (none)) else (none)) else (none)) = some (r1, r2, r3) := by rw [if_pos rfl] at H; exact H
       clear H
       have H := H1
       clear H1
       obtain ⟨ji8, hji8⟩ : ∃ j_ : Int, (wrap64 (a1 + x8_1)) = j_ := ⟨_, rfl⟩
       replace H : (if 0 ≤ (ji8) then (if (ji8) < (a0.size : Int) then (if 0 ≤ (wrap64 (7 * x8_1)) then (if (wrap64 (bt a0 (ji8))) > 127 then (impl_ReadVar.l0 kj4 a0 a1 (Go.bits .or .i64 x7_1 (shl .i64 (Go.bits .and .i64 (wrap64 (bt a0 (ji8))) 127) (wrap64 (7 * x8_1)))) (wrap64 (x8_1 + 1))) else (if (wrap64 (bt a0 (ji8))) = 0 then (if x8_1 > 0 then (some (0, 0, false)) else (if (Go.bits .or .i64 x7_1 (shl .i64 (Go.bits .and .i64 (wrap64 (bt a0 (ji8))) 127) (wrap64 (7 * x8_1)))) > 1000000000 then (some (0, 0, false)) else (some (Go.bits .or .i64 x7_1 (shl .i64 (Go.bits .and .i64 (wrap64 (bt a0 (ji8))) 127) (wrap64 (7 * x8_1))), wrap64 ((ji8) + 1), true)))) else (if (Go.bits .or .i64 x7_1 (shl .i64 (Go.bits .and .i64 (wrap64 (bt a0 (ji8))) 127) (wrap64 (7 * x8_1)))) > 1000000000 then (some (0, 0, false)) else (some (Go.bits .or .i64 x7_1 (shl .i64 (Go.bits .and .i64 (wrap64 (bt a0 (ji8))) 127) (wrap64 (7 * x8_1))), wrap64 ((ji8) + 1), true))))) else (none)) else (none)) else (none)) = some (r1, r2, r3) := by first | (rw [hji8] at H; exact H) | (simp only [hji8] at H ⊢; exact H)
       have hji8w : (IntKind.i64.wrap (a1 + x8_1)) = ji8 := (i64_w _).trans hji8
       by_cases c9 : 0 ≤ (ji8)
       ·rw [if_pos c9] at H
        have c9b0 : decide (0 ≤ (ji8)) = true := decide_eq_true c9
        clear c9
        by_cases c10 : (ji8) < (a0.size : Int)
        ·rw [if_pos c10] at H
         have c10b0 : decide ((ji8) < (a0.size : Int)) = true := decide_eq_true c10
         clear c10
         obtain ⟨ji12, hji12⟩ : ∃ j_ : Int, (wrap64 (7 * x8_1)) = j_ := ⟨_, rfl⟩
         replace H : (if 0 ≤ (ji12) then (if (wrap64 (bt a0 (ji8))) > 127 then (impl_ReadVar.l0 kj4 a0 a1 (Go.bits .or .i64 x7_1 (shl .i64 (Go.bits .and .i64 (wrap64 (bt a0 (ji8))) 127) (ji12))) (wrap64 (x8_1 + 1))) else (if (wrap64 (bt a0 (ji8))) = 0 then (if x8_1 > 0 then (some (0, 0, false)) else (if (Go.bits .or .i64 x7_1 (shl .i64 (Go.bits .and .i64 (wrap64 (bt a0 (ji8))) 127) (ji12))) > 1000000000 then (some (0, 0, false)) else (some (Go.bits .or .i64 x7_1 (shl .i64 (Go.bits .and .i64 (wrap64 (bt a0 (ji8))) 127) (ji12)), wrap64 ((ji8) + 1), true)))) else (if (Go.bits .or .i64 x7_1 (shl .i64 (Go.bits .and .i64 (wrap64 (bt a0 (ji8))) 127) (ji12))) > 1000000000 then (some (0, 0, false)) else (some (Go.bits .or .i64 x7_1 (shl .i64 (Go.bits .and .i64 (wrap64 (bt a0 (ji8))) 127) (ji12)), wrap64 ((ji8) + 1), true))))) else (none)) = some (r1, r2, r3) := by first | (rw [hji12] at H; exact H) | (simp only [hji12] at H ⊢; exact H)
         have hji12w : (IntKind.i64.wrap (7 * x8_1)) = ji12 := (i64_w _).trans hji12
         by_cases c13 : 0 ≤ (ji12)
         ·rw [if_pos c13] at H
          have c13b0 := eq_true c13
          have c13b1 : decide (0 ≤ (ji12)) = true := decide_eq_true c13
          clear c13
          obtain ⟨ji14, hji14⟩ : ∃ j_ : Int, (shl .i64 (Go.bits .and .i64 (wrap64 (bt a0 (ji8))) 127) (ji12)) = j_ := ⟨_, rfl⟩
          replace H : (if (wrap64 (bt a0 (ji8))) > 127 then (impl_ReadVar.l0 kj4 a0 a1 (Go.bits .or .i64 x7_1 (ji14)) (wrap64 (x8_1 + 1))) else (if (wrap64 (bt a0 (ji8))) = 0 then (if x8_1 > 0 then (some (0, 0, false)) else (if (Go.bits .or .i64 x7_1 (ji14)) > 1000000000 then (some (0, 0, false)) else (some (Go.bits .or .i64 x7_1 (ji14), wrap64 ((ji8) + 1), true)))) else (if (Go.bits .or .i64 x7_1 (ji14)) > 1000000000 then (some (0, 0, false)) else (some (Go.bits .or .i64 x7_1 (ji14), wrap64 ((ji8) + 1), true))))) = some (r1, r2, r3) := by first | (rw [hji14] at H; exact H) | (simp only [hji14] at H ⊢; exact H)
          have hji14_ : (IntKind.i64.wrap ((Go.bits .and .i64 (wrap64 (bt a0 (ji8))) 127) * 2 ^ min (ji12).toNat 64)) = ji14 := hji14
          have hji14z : (ji12) ≤ 64 → (IntKind.i64.wrap ((Go.bits .and .i64 (wrap64 (bt a0 (ji8))) 127) * 2 ^ (ji12).toNat)) = ji14 := shl_small hji14
          have hji14y : (wrap64 ((Go.bits .and .i64 (wrap64 (bt a0 (ji8))) 127) * 2 ^ min (ji12).toNat 64)) = ji14 := (i64_w _).symm.trans hji14_
          have hji14x : (ji12) ≤ 64 → (wrap64 ((Go.bits .and .i64 (wrap64 (bt a0 (ji8))) 127) * 2 ^ (ji12).toNat)) = ji14 := fun h_ => (i64_w _).symm.trans (hji14z h_)
          by_cases c15 : (wrap64 (bt a0 (ji8))) > 127
          ·rw [if_pos c15] at H
           have c15b0 : decide (127 < (wrap64 (bt a0 (ji8)))) = true := decide_eq_true c15
           clear c15
           have H' := Aside0.mk H
           clear H
           have p11 : 0 ≤ ((ji8) : Int) := of_decide_eq_true (by first | (with_reducible assumption) | assumption)
           have q11 : (ji8) < (a0.size : Int) := of_decide_eq_true (by first | (with_reducible assumption) | assumption)
           have hx11 := bt_at a0 (ji8)
           replace p11 := eq_true p11
           replace q11 := eq_true q11
           go_wp2
           go_roundg kj4
           case measure => have := HK1.out; have := HJ4.out; omega
           case rel => exact ⟨(Go.bits .or .i64 x7_1 (ji14)), (wrap64 (x8_1 + 1)), (by first | rfl | (simp; done) | (simp only [← hji14] <;> (first | rfl | simp)) | (simp [*]; done)), (by first | rfl | (simp; done) | (simp [*]; done)), H', ⟨by have := HK1.out; have := HJ4.out; omega⟩, by repeat (first | exact Drawn0.refl _ | apply Drawn0.step)⟩
          ·rw [if_neg c15] at H
           have c15b0 : decide (127 < (wrap64 (bt a0 (ji8)))) = false := decide_eq_false c15
           clear c15
           by_cases c16 : (wrap64 (bt a0 (ji8))) = 0
           ·rw [if_pos c16] at H
            have c16b0 : ((wrap64 (bt a0 (ji8))) == 0) = true := beq_iff_eq.mpr c16
            have c16b1 : ((wrap64 (bt a0 (ji8))) != 0) = false := bne_eq_false_iff_eq.mpr c16
            clear c16
            by_cases c17 : x8_1 > 0
            ·rw [if_pos c17] at H
             have c17b0 : decide (0 < x8_1) = true := decide_eq_true c17
             clear c17
             simp only [Option.some.injEq, Prod.mk.injEq] at H
             obtain ⟨rfl, rfl, rfl⟩ := H
             have p11 : 0 ≤ ((ji8) : Int) := of_decide_eq_true (by first | (with_reducible assumption) | assumption)
             have q11 : (ji8) < (a0.size : Int) := of_decide_eq_true (by first | (with_reducible assumption) | assumption)
             have hx11 := bt_at a0 (ji8)
             replace p11 := eq_true p11
             replace q11 := eq_true q11
             go_wp2
             go_ret3
             exact ⟨by first | rfl | (simp; done) | (simp only [← hji8, ← hji12, ← hji14] <;> (first | rfl | simp)) | (simp [*]; done), by repeat (first | exact Drawn0.refl _ | apply Drawn0.step)⟩
            ·rw [if_neg c17] at H
             have c17b0 : decide (0 < x8_1) = false := decide_eq_false c17
             clear c17
             by_cases c18 : (Go.bits .or .i64 x7_1 (ji14)) > 1000000000
             ·rw [if_pos c18] at H
              have c18b0 : decide (1000000000 < (Go.bits .or .i64 x7_1 (ji14))) = true := decide_eq_true c18
              clear c18
              simp only [Option.some.injEq, Prod.mk.injEq] at H
              obtain ⟨rfl, rfl, rfl⟩ := H
              have p11 : 0 ≤ ((ji8) : Int) := of_decide_eq_true (by first | (with_reducible assumption) | assumption)
              have q11 : (ji8) < (a0.size : Int) := of_decide_eq_true (by first | (with_reducible assumption) | assumption)
              have hx11 := bt_at a0 (ji8)
              replace p11 := eq_true p11
              replace q11 := eq_true q11
              go_wp2
              go_ret3
              exact ⟨by first | rfl | (simp; done) | (simp only [← hji8, ← hji12, ← hji14] <;> (first | rfl | simp)) | (simp [*]; done), by repeat (first | exact Drawn0.refl _ | apply Drawn0.step)⟩
             ·rw [if_neg c18] at H
              have c18b0 : decide (1000000000 < (Go.bits .or .i64 x7_1 (ji14))) = false := decide_eq_false c18
              clear c18
              simp only [Option.some.injEq, Prod.mk.injEq] at H
              obtain ⟨rfl, rfl, rfl⟩ := H
              have p11 : 0 ≤ ((ji8) : Int) := of_decide_eq_true (by first | (with_reducible assumption) | assumption)
              have q11 : (ji8) < (a0.size : Int) := of_decide_eq_true (by first | (with_reducible assumption) | assumption)
              have hx11 := bt_at a0 (ji8)
              replace p11 := eq_true p11
              replace q11 := eq_true q11
              go_wp2
              go_ret3
              exact ⟨by first | rfl | (simp; done) | (simp only [← hji8, ← hji12, ← hji14] <;> (first | rfl | simp)) | (simp [*]; done), by repeat (first | exact Drawn0.refl _ | apply Drawn0.step)⟩
           ·rw [if_neg c16] at H
            have c16b0 : ((wrap64 (bt a0 (ji8))) == 0) = false := beq_eq_false_iff_ne.mpr c16
            have c16b1 : ((wrap64 (bt a0 (ji8))) != 0) = true := bne_iff_ne.mpr c16
            by_cases c19 : (Go.bits .or .i64 x7_1 (ji14)) > 1000000000
            ·rw [if_pos c19] at H
             have c19b0 : decide (1000000000 < (Go.bits .or .i64 x7_1 (ji14))) = true := decide_eq_true c19
             clear c19
             simp only [Option.some.injEq, Prod.mk.injEq] at H
             obtain ⟨rfl, rfl, rfl⟩ := H
             have p11 : 0 ≤ ((ji8) : Int) := of_decide_eq_true (by first | (with_reducible assumption) | assumption)
             have q11 : (ji8) < (a0.size : Int) := of_decide_eq_true (by first | (with_reducible assumption) | assumption)
             have hx11 := bt_at a0 (ji8)
             replace p11 := eq_true p11
             replace q11 := eq_true q11
             go_wp2
             go_ret3
             exact ⟨by first | rfl | (simp; done) | (simp only [← hji8, ← hji12, ← hji14] <;> (first | rfl | simp)) | (simp [*]; done), by repeat (first | exact Drawn0.refl _ | apply Drawn0.step)⟩
            ·rw [if_neg c19] at H
             have c19b0 : decide (1000000000 < (Go.bits .or .i64 x7_1 (ji14))) = false := decide_eq_false c19
             clear c19
             simp only [Option.some.injEq, Prod.mk.injEq] at H
             obtain ⟨rfl, rfl, rfl⟩ := H
             have p11 : 0 ≤ ((ji8) : Int) := of_decide_eq_true (by first | (with_reducible assumption) | assumption)
             have q11 : (ji8) < (a0.size : Int) := of_decide_eq_true (by first | (with_reducible assumption) | assumption)
             have hx11 := bt_at a0 (ji8)
             replace p11 := eq_true p11
             replace q11 := eq_true q11
             go_wp2
             go_ret3
             exact ⟨by first | rfl | (simp; done) | (simp only [← hji8, ← hji12, ← hji14] <;> (first | rfl | simp)) | (simp [*]; done), by repeat (first | exact Drawn0.refl _ | apply Drawn0.step)⟩
         ·rw [if_neg c13] at H
          exact absurd H (by simp)
        ·rw [if_neg c10] at H
         exact absurd H (by simp)
       ·rw [if_neg c9] at H
        exact absurd H (by simp)
      ·replace c7 := Bool.eq_false_iff.mpr c7
       subst c7
       have H1 : (some (0, 0, false)) = some (r1, r2, r3) := by rw [if_neg (show ¬ (false = true) by decide)] at H; exact H
       clear H
       have H := H1
       clear H1
       simp only [Option.some.injEq, Prod.mk.injEq] at H
       obtain ⟨rfl, rfl, rfl⟩ := H
       go_wp2
       go_ret3
       exact ⟨by first | rfl | (simp; done) | (simp [*]; done), by repeat (first | exact Drawn0.refl _ | apply Drawn0.step)⟩
 ·replace c4 := Bool.eq_false_iff.mpr c4
  subst c4
  have H1 : (some (0, 0, false)) = some (r1, r2, r3) := by rw [if_neg (show ¬ (false = true) by decide)] at H; exact H
  clear H
  have H := H1
  clear H1
  simp only [Option.some.injEq, Prod.mk.injEq] at H
  obtain ⟨rfl, rfl, rfl⟩ := H
  go_enter Try.func60, Try.ntmps60
  go_wp2_with (first | ((with_reducible refine gate_callee (f := 66) rfl ?_); refine gl (some 13) Try.func66 #[.int .i64 a1, .int .i64 0, .int .i64 (a0.size : Int)] ?_; (with_reducible refine (impl_in.calls a1 0 (a0.size : Int) false _ A3.out).mono ?_); rintro e w' ⟨rfl, ⟨nd, rfl⟩⟩; refine ⟨_, rfl, ?_⟩))
  go_ret3
  exact ⟨by first | rfl | (simp; done) | (simp [*]; done), by repeat (first | exact Drawn0.refl _ | apply Drawn0.step)⟩

/-! ### impl_ReadShort: function 18 -/
def impl_ReadShort.f (k : Nat) (a0 : ByteArray) (a1 : Int) : Option (ByteArray × Int × Bool) := (impl_ReadVar.f k a0 a1).bind fun bt207 => (if bt207.2.2 = true then (if bt207.1 > 20000 then (some ((⟨#[]⟩ : ByteArray), 0, false)) else (if bt207.1 > (wrap64 ((a0.size : Int) - bt207.2.1)) then (some ((⟨#[]⟩ : ByteArray), 0, false)) else (if 0 ≤ bt207.2.1 then (if bt207.2.1 ≤ (wrap64 (bt207.2.1 + bt207.1)) then (if (wrap64 (bt207.2.1 + bt207.1)) ≤ (a0.size : Int) then (some (a0.extract (bt207.2.1 : Int).toNat ((wrap64 (bt207.2.1 + bt207.1)) : Int).toNat, wrap64 (bt207.2.1 + bt207.1), true)) else (none)) else (none)) else (none)))) else (some ((⟨#[]⟩ : ByteArray), 0, false)))
theorem impl_ReadShort.mono : ∀ a0 a1 k, LeO (impl_ReadShort.f k a0 a1) (impl_ReadShort.f (k + 1) a0 a1) := by
 intro a0 a1 k
 unfold impl_ReadShort.f
 repeat' first
   | (with_reducible exact impl_ReadVar.mono _ _ _)
   | (with_reducible exact LeO.refl _)
   | (with_reducible exact LeO.none _)
   | (with_reducible refine LeO.ite ?_ ?_)
   | (with_reducible refine LeO.bind ?_ (fun _ => ?_))
   | exact impl_ReadVar.mono _ _ _
   | exact LeO.none _
   | refine LeO.ite ?_ ?_
   | refine LeO.bind ?_ (fun _ => ?_)
set_option maxHeartbeats 8000000 in
set_option maxRecDepth 100000 in
theorem impl_ReadShort.calls (k : Nat) (a0 : ByteArray) (a1 : Int) (r1 : ByteArray) (r2 : Int) (r3 : Bool) (w : World) (h : impl_ReadShort.f k a0 a1 = some (r1, r2, r3)) :
  Calls Try.prog 18 #[.string a0, .int .i64 a1] w fun e w' => e = .returned (.tuple #[.string r1, .int .i64 r2, .bool r3]) ∧ Drawn0 w w' := by
 have H : ((impl_ReadVar.f k a0 a1).bind fun bt207 => (if bt207.2.2 = true then (if bt207.1 > 20000 then (some ((⟨#[]⟩ : ByteArray), 0, false)) else (if bt207.1 > (wrap64 ((a0.size : Int) - bt207.2.1)) then (some ((⟨#[]⟩ : ByteArray), 0, false)) else (if 0 ≤ bt207.2.1 then (if bt207.2.1 ≤ (wrap64 (bt207.2.1 + bt207.1)) then (if (wrap64 (bt207.2.1 + bt207.1)) ≤ (a0.size : Int) then (some (a0.extract (bt207.2.1 : Int).toNat ((wrap64 (bt207.2.1 + bt207.1)) : Int).toNat, wrap64 (bt207.2.1 + bt207.1), true)) else (none)) else (none)) else (none)))) else (some ((⟨#[]⟩ : ByteArray), 0, false)))) = some (r1, r2, r3) := h
 clear h
 replace H := Option.bind_eq_some_iff.mp H
 obtain ⟨⟨t207, t208, t209⟩, A30, H⟩ := H
 replace H : (if t209 = true then (if t207 > 20000 then (some ((⟨#[]⟩ : ByteArray), 0, false)) else (if t207 > (wrap64 ((a0.size : Int) - t208)) then (some ((⟨#[]⟩ : ByteArray), 0, false)) else (if 0 ≤ t208 then (if t208 ≤ (wrap64 (t208 + t207)) then (if (wrap64 (t208 + t207)) ≤ (a0.size : Int) then (some (a0.extract (t208 : Int).toNat ((wrap64 (t208 + t207)) : Int).toNat, wrap64 (t208 + t207), true)) else (none)) else (none)) else (none)))) else (some ((⟨#[]⟩ : ByteArray), 0, false))) = some (r1, r2, r3) := H
 have A3 := Aside0.mk A30
 clear A30
 by_cases c4 : t209 = true
 ·subst c4
  have H1 : (if t207 > 20000 then (some ((⟨#[]⟩ : ByteArray), 0, false)) else (if t207 > (wrap64 ((a0.size : Int) - t208)) then (some ((⟨#[]⟩ : ByteArray), 0, false)) else (if 0 ≤ t208 then (if t208 ≤ (wrap64 (t208 + t207)) then (if (wrap64 (t208 + t207)) ≤ (a0.size : Int) then (some (a0.extract (t208 : Int).toNat ((wrap64 (t208 + t207)) : Int).toNat, wrap64 (t208 + t207), true)) else (none)) else (none)) else (none)))) = some (r1, r2, r3) := by rw [if_pos rfl] at H; exact H
  clear H
  have H := H1
  clear H1
  by_cases c5 : t207 > 20000
  ·rw [if_pos c5] at H
   have c5b0 : decide (20000 < t207) = true := decide_eq_true c5
   clear c5
   simp only [Option.some.injEq, Prod.mk.injEq] at H
   obtain ⟨rfl, rfl, rfl⟩ := H
   go_enter Try.func18, Try.ntmps18
   go_wp2_with (first | ((with_reducible refine gate_callee (f := 60) rfl ?_); refine gl (some 13) Try.func60 #[.string a0, .int .i64 a1] ?_; (with_reducible refine (impl_ReadVar.calls k a0 a1 t207 t208 true _ A3.out).mono ?_); rintro e w' ⟨rfl, ⟨nd, rfl⟩⟩; refine ⟨_, rfl, ?_⟩))
   go_ret3
   exact ⟨by first | rfl | (simp; done) | (simp [*]; done), by repeat (first | exact Drawn0.refl _ | apply Drawn0.step)⟩
  ·rw [if_neg c5] at H
   have c5b0 : decide (20000 < t207) = false := decide_eq_false c5
   clear c5
   by_cases c6 : t207 > (wrap64 ((a0.size : Int) - t208))
   ·rw [if_pos c6] at H
    have c6b0 : decide ((wrap64 ((a0.size : Int) - t208)) < t207) = true := decide_eq_true c6
    clear c6
    simp only [Option.some.injEq, Prod.mk.injEq] at H
    obtain ⟨rfl, rfl, rfl⟩ := H
    go_enter Try.func18, Try.ntmps18
    go_wp2_with (first | ((with_reducible refine gate_callee (f := 60) rfl ?_); refine gl (some 13) Try.func60 #[.string a0, .int .i64 a1] ?_; (with_reducible refine (impl_ReadVar.calls k a0 a1 t207 t208 true _ A3.out).mono ?_); rintro e w' ⟨rfl, ⟨nd, rfl⟩⟩; refine ⟨_, rfl, ?_⟩))
    go_ret3
    exact ⟨by first | rfl | (simp; done) | (simp [*]; done), by repeat (first | exact Drawn0.refl _ | apply Drawn0.step)⟩
   ·rw [if_neg c6] at H
    have c6b0 : decide ((wrap64 ((a0.size : Int) - t208)) < t207) = false := decide_eq_false c6
    clear c6
    by_cases c7 : 0 ≤ t208
    ·rw [if_pos c7] at H
     have c7b0 := eq_true c7
     have c7b1 : decide (0 ≤ t208) = true := decide_eq_true c7
     clear c7
     by_cases c8 : t208 ≤ (wrap64 (t208 + t207))
     ·rw [if_pos c8] at H
      have c8b0 := eq_true c8
      have c8b1 : decide (t208 ≤ (wrap64 (t208 + t207))) = true := decide_eq_true c8
      by_cases c9 : (wrap64 (t208 + t207)) ≤ (a0.size : Int)
      ·rw [if_pos c9] at H
       have c9b0 := eq_true c9
       have c9b1 : decide ((wrap64 (t208 + t207)) ≤ (a0.size : Int)) = true := decide_eq_true c9
       simp only [Option.some.injEq, Prod.mk.injEq] at H
       obtain ⟨rfl, rfl, rfl⟩ := H
       go_enter Try.func18, Try.ntmps18
       go_wp2_with (first | ((with_reducible refine gate_callee (f := 60) rfl ?_); refine gl (some 13) Try.func60 #[.string a0, .int .i64 a1] ?_; (with_reducible refine (impl_ReadVar.calls k a0 a1 t207 t208 true _ A3.out).mono ?_); rintro e w' ⟨rfl, ⟨nd, rfl⟩⟩; refine ⟨_, rfl, ?_⟩))
       go_ret3
       exact ⟨by first | rfl | (simp; done) | (simp [*]; done), by repeat (first | exact Drawn0.refl _ | apply Drawn0.step)⟩
      ·rw [if_neg c9] at H
       exact absurd H (by simp)
     ·rw [if_neg c8] at H
      exact absurd H (by simp)
    ·rw [if_neg c7] at H
     exact absurd H (by simp)
 ·replace c4 := Bool.eq_false_iff.mpr c4
  subst c4
  have H1 : (some ((⟨#[]⟩ : ByteArray), 0, false)) = some (r1, r2, r3) := by rw [if_neg (show ¬ (false = true) by decide)] at H; exact H
  clear H
  have H := H1
  clear H1
  simp only [Option.some.injEq, Prod.mk.injEq] at H
  obtain ⟨rfl, rfl, rfl⟩ := H
  go_enter Try.func18, Try.ntmps18
  go_wp2_with (first | ((with_reducible refine gate_callee (f := 60) rfl ?_); refine gl (some 13) Try.func60 #[.string a0, .int .i64 a1] ?_; (with_reducible refine (impl_ReadVar.calls k a0 a1 t207 t208 false _ A3.out).mono ?_); rintro e w' ⟨rfl, ⟨nd, rfl⟩⟩; refine ⟨_, rfl, ?_⟩))
  go_ret3
  exact ⟨by first | rfl | (simp; done) | (simp [*]; done), by repeat (first | exact Drawn0.refl _ | apply Drawn0.step)⟩

/-! ### impl_ReadFrame: function 39 -/
def impl_ReadFrame.j0 : Nat → ByteArray → Int → Int → Bool → Int → Int → ByteArray → Option (Int × Int × ByteArray × Int × Bool)
 | 0, _, _, _, _, _, _, _ => none
 | k + 1, x0, x1, x8, x63, x221000, x221001, x221002 => if x63 = true then (some (0, 0, (⟨#[]⟩ : ByteArray), 0, false)) else ((impl_FrameText.f k x221000 x221001 x221002).bind fun bt222 => (if 0 ≤ x1 then (if x1 ≤ (wrap64 (x8 + 4)) then (if (wrap64 (x8 + 4)) ≤ (x0.size : Int) then (if (x0.extract (x1 : Int).toNat ((wrap64 (x8 + 4)) : Int).toNat).toList = bt222.1.toList then (some (x221000, x221001, x221002, wrap64 (x8 + 4), true)) else (some (0, 0, (⟨#[]⟩ : ByteArray), 0, false))) else (none)) else (none)) else (none)))
def impl_ReadFrame.f (k : Nat) (a0 : ByteArray) (a1 : Int) : Option (Int × Int × ByteArray × Int × Bool) := (impl_ReadVar.f k a0 a1).bind fun bt211 => ((impl_ReadVar.f k a0 bt211.2.1).bind fun bt214 => ((impl_ReadShort.f k a0 bt214.2.1).bind fun bt217 => (if bt211.2.2 = true then (if bt214.2.2 = true then (if bt217.2.2 = true then ((impl_FrameOk.f bt211.1 bt214.1 bt217.1).bind fun t221 => (if t221 = true then (impl_ReadFrame.j0 k a0 a1 bt217.2.1 (decide ((wrap64 ((a0.size : Int) - bt217.2.1)) < 4)) bt211.1 bt214.1 bt217.1) else (impl_ReadFrame.j0 k a0 a1 bt217.2.1 true bt211.1 bt214.1 bt217.1))) else (impl_ReadFrame.j0 k a0 a1 bt217.2.1 true bt211.1 bt214.1 bt217.1)) else (impl_ReadFrame.j0 k a0 a1 bt217.2.1 true bt211.1 bt214.1 bt217.1)) else (impl_ReadFrame.j0 k a0 a1 bt217.2.1 true bt211.1 bt214.1 bt217.1))))
theorem impl_ReadFrame.mono_l : ∀ k, (∀ y0 y1 y2 y3 y4 y5 y6, LeO (impl_ReadFrame.j0 k y0 y1 y2 y3 y4 y5 y6) (impl_ReadFrame.j0 (k + 1) y0 y1 y2 y3 y4 y5 y6))
 | 0 => fun _ _ _ _ _ _ _ r h => by simp [impl_ReadFrame.j0] at h
 | k + 1 => by
  have ih0 := impl_ReadFrame.mono_l k
  ·intro y0 y1 y2 y3 y4 y5 y6
   unfold impl_ReadFrame.j0
   repeat' first
   | (with_reducible exact ih0 _ _ _ _ _ _ _)
   | (with_reducible exact impl_FrameText.mono _ _ _ _)
   | (with_reducible exact impl_ReadShort.mono _ _ _)
   | (with_reducible exact impl_ReadVar.mono _ _ _)
   | (with_reducible exact LeO.refl _)
   | (with_reducible exact LeO.none _)
   | (with_reducible refine LeO.ite ?_ ?_)
   | (with_reducible refine LeO.bind ?_ (fun _ => ?_))
   | exact ih0 _ _ _ _ _ _ _
   | exact impl_FrameText.mono _ _ _ _
   | exact impl_ReadShort.mono _ _ _
   | exact impl_ReadVar.mono _ _ _
   | exact LeO.none _
   | refine LeO.ite ?_ ?_
   | refine LeO.bind ?_ (fun _ => ?_)
theorem impl_ReadFrame.mono : ∀ a0 a1 k, LeO (impl_ReadFrame.f k a0 a1) (impl_ReadFrame.f (k + 1) a0 a1) := by
 intro a0 a1 k
 have ih0 := impl_ReadFrame.mono_l k
 unfold impl_ReadFrame.f
 repeat' first
   | (with_reducible exact ih0 _ _ _ _ _ _ _)
   | (with_reducible exact impl_FrameText.mono _ _ _ _)
   | (with_reducible exact impl_ReadShort.mono _ _ _)
   | (with_reducible exact impl_ReadVar.mono _ _ _)
   | (with_reducible exact LeO.refl _)
   | (with_reducible exact LeO.none _)
   | (with_reducible refine LeO.ite ?_ ?_)
   | (with_reducible refine LeO.bind ?_ (fun _ => ?_))
   | exact ih0 _ _ _ _ _ _ _
   | exact impl_FrameText.mono _ _ _ _
   | exact impl_ReadShort.mono _ _ _
   | exact impl_ReadVar.mono _ _ _
   | exact LeO.none _
   | refine LeO.ite ?_ ?_
   | refine LeO.bind ?_ (fun _ => ?_)
set_option maxHeartbeats 8000000 in
set_option maxRecDepth 100000 in
theorem impl_ReadFrame.calls (k : Nat) (a0 : ByteArray) (a1 : Int) (r1 : Int) (r2 : Int) (r3 : ByteArray) (r4 : Int) (r5 : Bool) (w : World) (h : impl_ReadFrame.f k a0 a1 = some (r1, r2, r3, r4, r5)) :
  Calls Try.prog 39 #[.string a0, .int .i64 a1] w fun e w' => e = .returned (.tuple #[.agg #[.int .i64 r1, .int .i64 r2, .string r3], .int .i64 r4, .bool r5]) ∧ Below w.heap.size w w' := by
 have hu47 := Try.underlying47
 have HB := ak (Below.refl w.heap.size w)
 have H : ((impl_ReadVar.f k a0 a1).bind fun bt211 => ((impl_ReadVar.f k a0 bt211.2.1).bind fun bt214 => ((impl_ReadShort.f k a0 bt214.2.1).bind fun bt217 => (if bt211.2.2 = true then (if bt214.2.2 = true then (if bt217.2.2 = true then ((impl_FrameOk.f bt211.1 bt214.1 bt217.1).bind fun t221 => (if t221 = true then (impl_ReadFrame.j0 k a0 a1 bt217.2.1 (decide ((wrap64 ((a0.size : Int) - bt217.2.1)) < 4)) bt211.1 bt214.1 bt217.1) else (impl_ReadFrame.j0 k a0 a1 bt217.2.1 true bt211.1 bt214.1 bt217.1))) else (impl_ReadFrame.j0 k a0 a1 bt217.2.1 true bt211.1 bt214.1 bt217.1)) else (impl_ReadFrame.j0 k a0 a1 bt217.2.1 true bt211.1 bt214.1 bt217.1)) else (impl_ReadFrame.j0 k a0 a1 bt217.2.1 true bt211.1 bt214.1 bt217.1))))) = some (r1, r2, r3, r4, r5) := h
 clear h
 replace H := Option.bind_eq_some_iff.mp H
 obtain ⟨⟨t211, t212, t213⟩, A30, H⟩ := H
 replace H : ((impl_ReadVar.f k a0 t212).bind fun bt214 => ((impl_ReadShort.f k a0 bt214.2.1).bind fun bt217 => (if t213 = true then (if bt214.2.2 = true then (if bt217.2.2 = true then ((impl_FrameOk.f t211 bt214.1 bt217.1).bind fun t221 => (if t221 = true then (impl_ReadFrame.j0 k a0 a1 bt217.2.1 (decide ((wrap64 ((a0.size : Int) - bt217.2.1)) < 4)) t211 bt214.1 bt217.1) else (impl_ReadFrame.j0 k a0 a1 bt217.2.1 true t211 bt214.1 bt217.1))) else (impl_ReadFrame.j0 k a0 a1 bt217.2.1 true t211 bt214.1 bt217.1)) else (impl_ReadFrame.j0 k a0 a1 bt217.2.1 true t211 bt214.1 bt217.1)) else (impl_ReadFrame.j0 k a0 a1 bt217.2.1 true t211 bt214.1 bt217.1)))) = some (r1, r2, r3, r4, r5) := H
 have A3 := Aside0.mk A30
 clear A30
 replace H := Option.bind_eq_some_iff.mp H
 obtain ⟨⟨t214, t215, t216⟩, A40, H⟩ := H
 replace H : ((impl_ReadShort.f k a0 t215).bind fun bt217 => (if t213 = true then (if t216 = true then (if bt217.2.2 = true then ((impl_FrameOk.f t211 t214 bt217.1).bind fun t221 => (if t221 = true then (impl_ReadFrame.j0 k a0 a1 bt217.2.1 (decide ((wrap64 ((a0.size : Int) - bt217.2.1)) < 4)) t211 t214 bt217.1) else (impl_ReadFrame.j0 k a0 a1 bt217.2.1 true t211 t214 bt217.1))) else (impl_ReadFrame.j0 k a0 a1 bt217.2.1 true t211 t214 bt217.1)) else (impl_ReadFrame.j0 k a0 a1 bt217.2.1 true t211 t214 bt217.1)) else (impl_ReadFrame.j0 k a0 a1 bt217.2.1 true t211 t214 bt217.1))) = some (r1, r2, r3, r4, r5) := H
 have A4 := Aside0.mk A40
 clear A40
 replace H := Option.bind_eq_some_iff.mp H
 obtain ⟨⟨t217, t218, t219⟩, A50, H⟩ := H
 replace H : (if t213 = true then (if t216 = true then (if t219 = true then ((impl_FrameOk.f t211 t214 t217).bind fun t221 => (if t221 = true then (impl_ReadFrame.j0 k a0 a1 t218 (decide ((wrap64 ((a0.size : Int) - t218)) < 4)) t211 t214 t217) else (impl_ReadFrame.j0 k a0 a1 t218 true t211 t214 t217))) else (impl_ReadFrame.j0 k a0 a1 t218 true t211 t214 t217)) else (impl_ReadFrame.j0 k a0 a1 t218 true t211 t214 t217)) else (impl_ReadFrame.j0 k a0 a1 t218 true t211 t214 t217)) = some (r1, r2, r3, r4, r5) := H
 have A5 := Aside0.mk A50
 clear A50
 have HC6 := Aside0.mk H
 clear H
 go_enter Try.func39, Try.ntmps39
 go_upto_region 5 with (first | ((with_reducible refine gate_dst (N := 4) rfl ?_); (try (refine gate_guard (by rfl) ?_; dsimp only)); refine bx 4 #[.int .i64 0, .int .i64 0, .string (⟨#[]⟩ : ByteArray)] 47 ?_; intro gb210 hg w7 hbox hb; replace BK210 := ak (hbox); replace GW210 := ak (bz hg (lG HB)); replace GE210 := ak (bz hg (lG HB)); replace HB := lB HB hb; clear hb hbox hg) | ((with_reducible refine gate_callee (f := 60) rfl ?_); refine gl (some 20) Try.func60 #[.string a0, .int .i64 a1] ?_; (with_reducible refine (impl_ReadVar.calls k a0 a1 t211 t212 t213 _ A3.out).mono ?_); rintro e w' ⟨rfl, ⟨nd, rfl⟩⟩; refine ⟨_, rfl, ?_⟩; (try (rw [drewN_self w7]; generalize hq_ : World.drewN w7 _ = w7; have n0_ : Aside0 (w7.heap[gb210]? = some (.cells #[.int .i64 0, .int .i64 0, .string (⟨#[]⟩ : ByteArray)] 47 (0, 0))) := ⟨by rw [← hq_]; exact (bG BK210)⟩; have n1_ : Aside0 (Below w.heap.size w w7) := ⟨by rw [← hq_]; exact (lT HB (gC GE210 gN))⟩; clear BK210 HB hq_; have BK210 := n0_; have HB := n1_; clear n0_ n1_)); (try (have hy210_0 : w7.cell? ⟨gb210, 0, none⟩ = some (.int .i64 0) := bc BK210 0; have hv210_0 := blk_frozen BK210.out 0; have hy210_1 : w7.cell? ⟨gb210, 1, none⟩ = some (.int .i64 0) := bc BK210 1; have hv210_1 := blk_frozen BK210.out 1; have hy210_2 : w7.cell? ⟨gb210, 2, none⟩ = some (.string (⟨#[]⟩ : ByteArray)) := bc BK210 2; have hv210_2 := blk_frozen BK210.out 2))) | ((with_reducible refine gate_callee (f := 60) rfl ?_); refine gl (some 27) Try.func60 #[.string a0, .int .i64 t212] ?_; (with_reducible refine (impl_ReadVar.calls k a0 t212 t214 t215 t216 _ A4.out).mono ?_); rintro e w' ⟨rfl, ⟨nd, rfl⟩⟩; refine ⟨_, rfl, ?_⟩; (try (rw [drewN_self w7]; generalize hq_ : World.drewN w7 _ = w7; have n0_ : Aside0 (w7.heap[gb210]? = some (.cells #[.int .i64 0, .int .i64 0, .string (⟨#[]⟩ : ByteArray)] 47 (0, 0))) := ⟨by rw [← hq_]; exact (bG BK210)⟩; have n1_ : Aside0 (Below w.heap.size w w7) := ⟨by rw [← hq_]; exact (lT HB (gC GE210 gN))⟩; clear BK210 HB hq_; have BK210 := n0_; have HB := n1_; clear n0_ n1_)); (try (have hy210_0 : w7.cell? ⟨gb210, 0, none⟩ = some (.int .i64 0) := bc BK210 0; have hv210_0 := blk_frozen BK210.out 0; have hy210_1 : w7.cell? ⟨gb210, 1, none⟩ = some (.int .i64 0) := bc BK210 1; have hv210_1 := blk_frozen BK210.out 1; have hy210_2 : w7.cell? ⟨gb210, 2, none⟩ = some (.string (⟨#[]⟩ : ByteArray)) := bc BK210 2; have hv210_2 := blk_frozen BK210.out 2))) | ((with_reducible refine gate_callee (f := 18) rfl ?_); refine gl (some 34) Try.func18 #[.string a0, .int .i64 t215] ?_; (with_reducible refine (impl_ReadShort.calls k a0 t215 t217 t218 t219 _ A5.out).mono ?_); rintro e w' ⟨rfl, ⟨nd, rfl⟩⟩; refine ⟨_, rfl, ?_⟩; (try (rw [drewN_self w7]; generalize hq_ : World.drewN w7 _ = w7; have n0_ : Aside0 (w7.heap[gb210]? = some (.cells #[.int .i64 0, .int .i64 0, .string (⟨#[]⟩ : ByteArray)] 47 (0, 0))) := ⟨by rw [← hq_]; exact (bG BK210)⟩; have n1_ : Aside0 (Below w.heap.size w w7) := ⟨by rw [← hq_]; exact (lT HB (gC GE210 gN))⟩; clear BK210 HB hq_; have BK210 := n0_; have HB := n1_; clear n0_ n1_)); (try (have hy210_0 : w7.cell? ⟨gb210, 0, none⟩ = some (.int .i64 0) := bc BK210 0; have hv210_0 := blk_frozen BK210.out 0; have hy210_1 : w7.cell? ⟨gb210, 1, none⟩ = some (.int .i64 0) := bc BK210 1; have hv210_1 := blk_frozen BK210.out 1; have hy210_2 : w7.cell? ⟨gb210, 2, none⟩ = some (.string (⟨#[]⟩ : ByteArray)) := bc BK210 2; have hv210_2 := blk_frozen BK210.out 2))) | ((with_reducible refine gate_dst (N := 14) rfl ?_); (try (refine gate_guard (by rfl) ?_; dsimp only)); refine bx 14 #[.int .i64 0, .int .i64 0, .string (⟨#[]⟩ : ByteArray)] 47 ?_; intro gb220 hg w8 hbox hb; replace BK220 := ak (hbox); replace GW220 := ak (bz hg (lT HB (gC GE210 gN))); replace GE220 := ak (bz hg (lT HB (gC GE210 gN))); replace HB := ak (below_step (lT HB (gC GE210 gN)) hb); replace NB210_220 := ak (nl hg (bG BK210)); replace NB220_210 := ak (ng hg (bG BK210)); replace BK210 := bB BK210 hb; clear hb hbox hg; have hnb9 := NB220_210.out; have hnc9 := NB210_220.out; obtain ⟨hcz10_0, hcz10_1, hcz10_2, hfz10_0, hfz10_1, hfz10_2⟩ := bC3 BK220))
 (try simp only [Act.put, List.setIfInBounds_toArray, List.set_cons_zero, List.set_cons_succ])
 go_cut [63] (fun v63 wc => ∃ (kq : Nat) (x63_5 : Bool), v63 = .bool x63_5 ∧ Aside0 (impl_ReadFrame.j0 kq a0 a1 t218 x63_5 t211 t214 t217 = some (r1, r2, r3, r4, r5)) ∧ Aside0 (kq ≤ k) ∧ Aside0 (wc.heap[gb210]? = some (.cells #[.int .i64 0, .int .i64 0, .string (⟨#[]⟩ : ByteArray)] 47 (0, 0))) ∧ Aside0 (wc.heap[gb220]? = some (.cells #[.int .i64 t211, .int .i64 t214, .string t217] 47 (0, 0))) ∧ Aside0 (Below w.heap.size w wc))
 case first =>
  have H := HC6.out
  clear HC6
  by_cases c11 : t213 = true
  ·subst c11
   have H1 : (if t216 = true then (if t219 = true then ((impl_FrameOk.f t211 t214 t217).bind fun t221 => (if t221 = true then (impl_ReadFrame.j0 k a0 a1 t218 (decide ((wrap64 ((a0.size : Int) - t218)) < 4)) t211 t214 t217) else (impl_ReadFrame.j0 k a0 a1 t218 true t211 t214 t217))) else (impl_ReadFrame.j0 k a0 a1 t218 true t211 t214 t217)) else (impl_ReadFrame.j0 k a0 a1 t218 true t211 t214 t217)) = some (r1, r2, r3, r4, r5) := by rw [if_pos rfl] at H; exact H
   clear H
   have H := H1
   clear H1
   by_cases c12 : t216 = true
   ·subst c12
    have H1 : (if t219 = true then ((impl_FrameOk.f t211 t214 t217).bind fun t221 => (if t221 = true then (impl_ReadFrame.j0 k a0 a1 t218 (decide ((wrap64 ((a0.size : Int) - t218)) < 4)) t211 t214 t217) else (impl_ReadFrame.j0 k a0 a1 t218 true t211 t214 t217))) else (impl_ReadFrame.j0 k a0 a1 t218 true t211 t214 t217)) = some (r1, r2, r3, r4, r5) := by rw [if_pos rfl] at H; exact H
    clear H
    have H := H1
    clear H1
    by_cases c13 : t219 = true
    ·subst c13
     have H1 : ((impl_FrameOk.f t211 t214 t217).bind fun t221 => (if t221 = true then (impl_ReadFrame.j0 k a0 a1 t218 (decide ((wrap64 ((a0.size : Int) - t218)) < 4)) t211 t214 t217) else (impl_ReadFrame.j0 k a0 a1 t218 true t211 t214 t217))) = some (r1, r2, r3, r4, r5) := by rw [if_pos rfl] at H; exact H
     clear H
     have H := H1
     clear H1
     replace H := Option.bind_eq_some_iff.mp H
     obtain ⟨t221, A140, H⟩ := H
     replace H : (if t221 = true then (impl_ReadFrame.j0 k a0 a1 t218 (decide ((wrap64 ((a0.size : Int) - t218)) < 4)) t211 t214 t217) else (impl_ReadFrame.j0 k a0 a1 t218 true t211 t214 t217)) = some (r1, r2, r3, r4, r5) := H
     have A14 := Aside0.mk A140
     clear A140
     by_cases c15 : t221 = true
     ·subst c15
      have H1 : (impl_ReadFrame.j0 k a0 a1 t218 (decide ((wrap64 ((a0.size : Int) - t218)) < 4)) t211 t214 t217) = some (r1, r2, r3, r4, r5) := by rw [if_pos rfl] at H; exact H
      clear H
      have H := H1
      clear H1
      have H' := Aside0.mk H
      clear H
      have hnb16 := NB220_210.out
      have hnc16 := NB210_220.out
      have hcz17_0 : w8.cell? ⟨gb220, 0, none⟩ = some (.int .i64 0) := bc BK220 0
      have hcz17_1 : w8.cell? ⟨gb220, 1, none⟩ = some (.int .i64 0) := bc BK220 1
      have hcz17_2 : w8.cell? ⟨gb220, 2, none⟩ = some (.string (⟨#[]⟩ : ByteArray)) := bc BK220 2
      have hfz17_0 := blk_frozen BK220.out 0
      have hfz17_1 := blk_frozen BK220.out 1
      have hfz17_2 := blk_frozen BK220.out 2
      go_wp2_with (first | (go_at_call 56; (with_reducible refine (impl_FrameOk.calls t211 t214 t217 true _ A14.out).mono ?_); rintro e w18 ⟨rfl, hb⟩; replace BK210 := ak (blk_below (bT BK210 (nC NB210_220 nN)) hb); replace BK220 := ak (blk_below (g := gb220) (o := .cells #[.int .i64 t211, .int .i64 t214, .string t217] 47 (0, 0)) (bW BK220) hb); replace HB := ak (below_step (lT HB (gC GE210 (gC GE220 gN))) hb); (try clear hb); (try clear hk)))
      go_meet
      case rel => exact ⟨_, (decide ((wrap64 ((a0.size : Int) - t218)) < 4)), (by first | rfl | (simp; done) | (simp [*]; done)), H', ⟨by first | omega | exact Nat.le_refl _⟩, ⟨bG BK210⟩, ⟨bG BK220⟩, ⟨by exact lT HB (gC GE210 (gC GE220 gN))⟩⟩
     ·replace c15 := Bool.eq_false_iff.mpr c15
      subst c15
      have H1 : (impl_ReadFrame.j0 k a0 a1 t218 true t211 t214 t217) = some (r1, r2, r3, r4, r5) := by rw [if_neg (show ¬ (false = true) by decide)] at H; exact H
      clear H
      have H := H1
      clear H1
      have H' := Aside0.mk H
      clear H
      have hnb19 := NB220_210.out
      have hnc19 := NB210_220.out
      have hcz20_0 : w8.cell? ⟨gb220, 0, none⟩ = some (.int .i64 0) := bc BK220 0
      have hcz20_1 : w8.cell? ⟨gb220, 1, none⟩ = some (.int .i64 0) := bc BK220 1
      have hcz20_2 : w8.cell? ⟨gb220, 2, none⟩ = some (.string (⟨#[]⟩ : ByteArray)) := bc BK220 2
      have hfz20_0 := blk_frozen BK220.out 0
      have hfz20_1 := blk_frozen BK220.out 1
      have hfz20_2 := blk_frozen BK220.out 2
      go_wp2_with (first | (go_at_call 56; (with_reducible refine (impl_FrameOk.calls t211 t214 t217 false _ A14.out).mono ?_); rintro e w21 ⟨rfl, hb⟩; replace BK210 := ak (blk_below (bT BK210 (nC NB210_220 nN)) hb); replace BK220 := ak (blk_below (g := gb220) (o := .cells #[.int .i64 t211, .int .i64 t214, .string t217] 47 (0, 0)) (bW BK220) hb); replace HB := ak (below_step (lT HB (gC GE210 (gC GE220 gN))) hb); (try clear hb); (try clear hk)))
      go_meet
      case rel => exact ⟨_, (true), (by first | rfl | (simp; done) | (simp [*]; done)), H', ⟨by first | omega | exact Nat.le_refl _⟩, ⟨bG BK210⟩, ⟨bG BK220⟩, ⟨by exact lT HB (gC GE210 (gC GE220 gN))⟩⟩
    ·replace c13 := Bool.eq_false_iff.mpr c13
     subst c13
     have H1 : (impl_ReadFrame.j0 k a0 a1 t218 true t211 t214 t217) = some (r1, r2, r3, r4, r5) := by rw [if_neg (show ¬ (false = true) by decide)] at H; exact H
     clear H
     have H := H1
     clear H1
     have H' := Aside0.mk H
     clear H
     go_wp2
     go_meet
     case rel => exact ⟨_, (true), (by first | rfl | (simp; done) | (simp [*]; done)), H', ⟨by first | omega | exact Nat.le_refl _⟩, ⟨by (with_reducible repeat (first | refine blk_drewN ?_ _ | refine blk_drew ?_ | refine blk_alloc ?_ _)); refine blk_far ?_ NB210_220.out _; (with_reducible repeat (first | refine blk_drewN ?_ _ | refine blk_drew ?_ | refine blk_alloc ?_ _)); refine blk_far ?_ NB210_220.out _; (with_reducible repeat (first | refine blk_drewN ?_ _ | refine blk_drew ?_ | refine blk_alloc ?_ _)); refine blk_far ?_ NB210_220.out _; (with_reducible repeat (first | refine blk_drewN ?_ _ | refine blk_drew ?_ | refine blk_alloc ?_ _)); exact BK210.out⟩, ⟨bW BK220⟩, ⟨by exact lT HB (gC GE210 (gC GE220 gN))⟩⟩
   ·replace c12 := Bool.eq_false_iff.mpr c12
    subst c12
    have H1 : (impl_ReadFrame.j0 k a0 a1 t218 true t211 t214 t217) = some (r1, r2, r3, r4, r5) := by rw [if_neg (show ¬ (false = true) by decide)] at H; exact H
    clear H
    have H := H1
    clear H1
    have H' := Aside0.mk H
    clear H
    go_wp2
    go_meet
    case rel => exact ⟨_, (true), (by first | rfl | (simp; done) | (simp [*]; done)), H', ⟨by first | omega | exact Nat.le_refl _⟩, ⟨by (with_reducible repeat (first | refine blk_drewN ?_ _ | refine blk_drew ?_ | refine blk_alloc ?_ _)); refine blk_far ?_ NB210_220.out _; (with_reducible repeat (first | refine blk_drewN ?_ _ | refine blk_drew ?_ | refine blk_alloc ?_ _)); refine blk_far ?_ NB210_220.out _; (with_reducible repeat (first | refine blk_drewN ?_ _ | refine blk_drew ?_ | refine blk_alloc ?_ _)); refine blk_far ?_ NB210_220.out _; (with_reducible repeat (first | refine blk_drewN ?_ _ | refine blk_drew ?_ | refine blk_alloc ?_ _)); exact BK210.out⟩, ⟨bW BK220⟩, ⟨by exact lT HB (gC GE210 (gC GE220 gN))⟩⟩
  ·replace c11 := Bool.eq_false_iff.mpr c11
   subst c11
   have H1 : (impl_ReadFrame.j0 k a0 a1 t218 true t211 t214 t217) = some (r1, r2, r3, r4, r5) := by rw [if_neg (show ¬ (false = true) by decide)] at H; exact H
   clear H
   have H := H1
   clear H1
   have H' := Aside0.mk H
   clear H
   go_wp2
   go_meet
   case rel => exact ⟨_, (true), (by first | rfl | (simp; done) | (simp [*]; done)), H', ⟨by first | omega | exact Nat.le_refl _⟩, ⟨by (with_reducible repeat (first | refine blk_drewN ?_ _ | refine blk_drew ?_ | refine blk_alloc ?_ _)); refine blk_far ?_ NB210_220.out _; (with_reducible repeat (first | refine blk_drewN ?_ _ | refine blk_drew ?_ | refine blk_alloc ?_ _)); refine blk_far ?_ NB210_220.out _; (with_reducible repeat (first | refine blk_drewN ?_ _ | refine blk_drew ?_ | refine blk_alloc ?_ _)); refine blk_far ?_ NB210_220.out _; (with_reducible repeat (first | refine blk_drewN ?_ _ | refine blk_drew ?_ | refine blk_alloc ?_ _)); exact BK210.out⟩, ⟨bW BK220⟩, ⟨by exact lT HB (gC GE210 (gC GE220 gN))⟩⟩
 case rest =>
  clear HC6
  try clear c1
  try clear p2
  try clear c3
  try clear c6
  try clear p6
  try clear c9
  try clear c11
  try clear c12
  try clear c13
  try clear c15
  try clear c16
  try clear c18
  try clear c19
  try clear hcz10_0
  try clear hcz10_1
  try clear hcz10_2
  try clear hcz17_0
  try clear hcz17_1
  try clear hcz17_2
  try clear hcz20_0
  try clear hcz20_1
  try clear hcz20_2
  try clear hfz10_0
  try clear hfz10_1
  try clear hfz10_2
  try clear hfz17_0
  try clear hfz17_1
  try clear hfz17_2
  try clear hfz20_0
  try clear hfz20_1
  try clear hfz20_2
  obtain ⟨kq, x63_5, rfl, HA, HJ5, BK210, BK220, HB⟩ := hcut
  cases kq with
  | zero => exact absurd HA.out (by simp [impl_ReadFrame.j0])
  | succ kj5 =>
   have H := HA.out
   clear HA
   simp only [impl_ReadFrame.j0] at H
   by_cases c22 : x63_5 = true
   ·subst c22
    have H1 : (some (0, 0, (⟨#[]⟩ : ByteArray), 0, false)) = some (r1, r2, r3, r4, r5) := by rw [if_pos rfl] at H; exact H
    clear H
    have H := H1
    clear H1
    simp only [Option.some.injEq, Prod.mk.injEq] at H
    obtain ⟨rfl, rfl, rfl, rfl, rfl⟩ := H
    have hnb23 := NB210_220.out
    have hnc23 := NB220_210.out
    have hcz24_0 : wc.cell? ⟨gb210, 0, none⟩ = some (.int .i64 0) := bc BK210 0
    have hcz24_1 : wc.cell? ⟨gb210, 1, none⟩ = some (.int .i64 0) := bc BK210 1
    have hcz24_2 : wc.cell? ⟨gb210, 2, none⟩ = some (.string (⟨#[]⟩ : ByteArray)) := bc BK210 2
    have hfz24_0 := blk_frozen BK210.out 0
    have hfz24_1 := blk_frozen BK210.out 1
    have hfz24_2 := blk_frozen BK210.out 2
    go_wp2
    refine bodyPost_ret (results_ctt rfl _ _ gb210 47 #[.int .i64 0, .int .i64 0, .string (⟨#[]⟩ : ByteArray)] (0, 0) _ rfl (bW BK210) Try.underlying47 rfl (by kernel_rfl)) rfl ?_
    exact ⟨ew, by exact lT HB (gC GE210 (gC GE220 gN))⟩
   ·replace c22 := Bool.eq_false_iff.mpr c22
    subst c22
    have H1 : ((impl_FrameText.f kj5 t211 t214 t217).bind fun bt222 => (if 0 ≤ a1 then (if a1 ≤ (wrap64 (t218 + 4)) then (if (wrap64 (t218 + 4)) ≤ (a0.size : Int) then (if (a0.extract (a1 : Int).toNat ((wrap64 (t218 + 4)) : Int).toNat).toList = bt222.1.toList then (some (t211, t214, t217, wrap64 (t218 + 4), true)) else (some (0, 0, (⟨#[]⟩ : ByteArray), 0, false))) else (none)) else (none)) else (none))) = some (r1, r2, r3, r4, r5) := by rw [if_neg (show ¬ (false = true) by decide)] at H; exact H
    clear H
    have H := H1
    clear H1
    replace H := Option.bind_eq_some_iff.mp H
    obtain ⟨⟨t222, t223⟩, A250, H⟩ := H
    replace H : (if 0 ≤ a1 then (if a1 ≤ (wrap64 (t218 + 4)) then (if (wrap64 (t218 + 4)) ≤ (a0.size : Int) then (if (a0.extract (a1 : Int).toNat ((wrap64 (t218 + 4)) : Int).toNat).toList = t222.toList then (some (t211, t214, t217, wrap64 (t218 + 4), true)) else (some (0, 0, (⟨#[]⟩ : ByteArray), 0, false))) else (none)) else (none)) else (none)) = some (r1, r2, r3, r4, r5) := H
    have A25 := Aside0.mk A250
    clear A250
    by_cases c26 : 0 ≤ a1
    ·rw [if_pos c26] at H
     have c26b0 := eq_true c26
     have c26b1 : decide (0 ≤ a1) = true := decide_eq_true c26
     clear c26
     by_cases c27 : a1 ≤ (wrap64 (t218 + 4))
     ·rw [if_pos c27] at H
      have c27b0 := eq_true c27
      have c27b1 : decide (a1 ≤ (wrap64 (t218 + 4))) = true := decide_eq_true c27
      by_cases c28 : (wrap64 (t218 + 4)) ≤ (a0.size : Int)
      ·rw [if_pos c28] at H
       have c28b0 := eq_true c28
       have c28b1 : decide ((wrap64 (t218 + 4)) ≤ (a0.size : Int)) = true := decide_eq_true c28
       by_cases c29 : (a0.extract (a1 : Int).toNat ((wrap64 (t218 + 4)) : Int).toNat).toList = t222.toList
       ·rw [if_pos c29] at H
        have c29b0 : ((a0.extract (a1 : Int).toNat ((wrap64 (t218 + 4)) : Int).toNat).toList == t222.toList) = true := beq_iff_eq.mpr c29
        have c29b1 : ((a0.extract (a1 : Int).toNat ((wrap64 (t218 + 4)) : Int).toNat).toList != t222.toList) = false := bne_eq_false_iff_eq.mpr c29
        clear c29
        simp only [Option.some.injEq, Prod.mk.injEq] at H
        obtain ⟨rfl, rfl, rfl, rfl, rfl⟩ := H
        have hnb30 := NB220_210.out
        have hnc30 := NB210_220.out
        have hcz31_0 : wc.cell? ⟨gb220, 0, none⟩ = some (.int .i64 t211) := bc BK220 0
        have hcz31_1 : wc.cell? ⟨gb220, 1, none⟩ = some (.int .i64 t214) := bc BK220 1
        have hcz31_2 : wc.cell? ⟨gb220, 2, none⟩ = some (.string t217) := bc BK220 2
        have hfz31_0 := blk_frozen BK220.out 0
        have hfz31_1 := blk_frozen BK220.out 1
        have hfz31_2 := blk_frozen BK220.out 2
        go_wp2_with (first | ((with_reducible refine gate_callee (f := 33) rfl ?_); refine gl (some 67) Try.func33 #[.agg #[.int .i64 t211, .int .i64 t214, .string t217]] ?_; (with_reducible refine (impl_FrameText.calls kj5 t211 t214 t217 t222 t223 _ A25.out).mono ?_); rintro e w32 ⟨rfl, hb⟩; refine ⟨_, rfl, ?_⟩; replace BK210 := bB BK210 hb; replace BK220 := bB BK220 hb; replace HB := ak (below_step (lT HB (gC GE210 (gC GE220 gN))) hb); (try clear hb); (try clear hk); obtain ⟨hcz33_0, hcz33_1, hcz33_2, hfz33_0, hfz33_1, hfz33_2⟩ := bC3 BK220; obtain ⟨hcz34_0, hcz34_1, hcz34_2, hfz34_0, hfz34_1, hfz34_2⟩ := bC3 BK210))
        refine bodyPost_ret (results_ctt rfl _ _ gb210 47 #[.int .i64 t211, .int .i64 t214, .string t217] (0, 0) _ rfl (bW BK210) Try.underlying47 rfl (by kernel_rfl)) rfl ?_
        exact ⟨ew, by exact lT HB (gC GE210 (gC GE220 gN))⟩
       ·rw [if_neg c29] at H
        have c29b0 : ((a0.extract (a1 : Int).toNat ((wrap64 (t218 + 4)) : Int).toNat).toList == t222.toList) = false := beq_eq_false_iff_ne.mpr c29
        have c29b1 : ((a0.extract (a1 : Int).toNat ((wrap64 (t218 + 4)) : Int).toNat).toList != t222.toList) = true := bne_iff_ne.mpr c29
        simp only [Option.some.injEq, Prod.mk.injEq] at H
        obtain ⟨rfl, rfl, rfl, rfl, rfl⟩ := H
        have hnb35 := NB220_210.out
        have hnc35 := NB210_220.out
        have hcz36_0 : wc.cell? ⟨gb220, 0, none⟩ = some (.int .i64 t211) := bc BK220 0
        have hcz36_1 : wc.cell? ⟨gb220, 1, none⟩ = some (.int .i64 t214) := bc BK220 1
        have hcz36_2 : wc.cell? ⟨gb220, 2, none⟩ = some (.string t217) := bc BK220 2
        have hfz36_0 := blk_frozen BK220.out 0
        have hfz36_1 := blk_frozen BK220.out 1
        have hfz36_2 := blk_frozen BK220.out 2
        go_wp2_with (first | ((with_reducible refine gate_callee (f := 33) rfl ?_); refine gl (some 67) Try.func33 #[.agg #[.int .i64 t211, .int .i64 t214, .string t217]] ?_; (with_reducible refine (impl_FrameText.calls kj5 t211 t214 t217 t222 t223 _ A25.out).mono ?_); rintro e w37 ⟨rfl, hb⟩; refine ⟨_, rfl, ?_⟩; replace BK210 := bB BK210 hb; replace BK220 := bB BK220 hb; replace HB := ak (below_step (lT HB (gC GE210 (gC GE220 gN))) hb); (try clear hb); (try clear hk); obtain ⟨hcz38_0, hcz38_1, hcz38_2, hfz38_0, hfz38_1, hfz38_2⟩ := bC3 BK210))
        refine bodyPost_ret (results_ctt rfl _ _ gb210 47 #[.int .i64 0, .int .i64 0, .string (⟨#[]⟩ : ByteArray)] (0, 0) _ rfl (bW BK210) Try.underlying47 rfl (by kernel_rfl)) rfl ?_
        exact ⟨ew, by exact lT HB (gC GE210 (gC GE220 gN))⟩
      ·rw [if_neg c28] at H
       exact absurd H (by simp)
     ·rw [if_neg c27] at H
      exact absurd H (by simp)
    ·rw [if_neg c26] at H
     exact absurd H (by simp)

/-! ### impl_ScanFrames: function 42 -/
def impl_ScanFrames.l0 : Nat → ByteArray → Int → List (S47) → Int → Option ((List (S47)) × Int)
 | 0, _, _, _, _ => none
 | k + 1, x0, x1, x6, x7 => (impl_ReadFrame.f k x0 x7).bind fun bt227 => (if bt227.2.2.2.2 = true then (if bt227.1 = x1 then (if x6.length < 4398046511104 then (impl_ScanFrames.l0 k x0 x1 (x6 ++ [(⟨bt227.1, bt227.2.1, bt227.2.2.1⟩ : S47)]) bt227.2.2.2.1) else (none)) else (some (x6, x7))) else (some (x6, x7)))
def impl_ScanFrames.f (k : Nat) (a0 : ByteArray) (a1 : Int) : Option ((List (S47)) × Int) := impl_ScanFrames.l0 k a0 a1 (([] : List (S47))) 0
theorem impl_ScanFrames.mono_l : ∀ k, (∀ y0 y1 y2 y3, LeO (impl_ScanFrames.l0 k y0 y1 y2 y3) (impl_ScanFrames.l0 (k + 1) y0 y1 y2 y3))
 | 0 => fun _ _ _ _ r h => by simp [impl_ScanFrames.l0] at h
 | k + 1 => by
  have ih0 := impl_ScanFrames.mono_l k
  ·intro y0 y1 y2 y3
   unfold impl_ScanFrames.l0
   repeat' first
   | (with_reducible exact ih0 _ _ _ _)
   | (with_reducible exact impl_ReadFrame.mono _ _ _)
   | (with_reducible exact LeO.refl _)
   | (with_reducible exact LeO.none _)
   | (with_reducible refine LeO.ite ?_ ?_)
   | (with_reducible refine LeO.bind ?_ (fun _ => ?_))
   | exact ih0 _ _ _ _
   | exact impl_ReadFrame.mono _ _ _
   | exact LeO.none _
   | refine LeO.ite ?_ ?_
   | refine LeO.bind ?_ (fun _ => ?_)
theorem impl_ScanFrames.mono : ∀ a0 a1 k, LeO (impl_ScanFrames.f k a0 a1) (impl_ScanFrames.f (k + 1) a0 a1) := by
 intro a0 a1 k
 have ih0 := impl_ScanFrames.mono_l k
 unfold impl_ScanFrames.f
 repeat' first
   | (with_reducible exact ih0 _ _ _ _)
   | (with_reducible exact impl_ReadFrame.mono _ _ _)
   | (with_reducible exact LeO.refl _)
   | (with_reducible exact LeO.none _)
   | (with_reducible refine LeO.ite ?_ ?_)
   | (with_reducible refine LeO.bind ?_ (fun _ => ?_))
   | exact ih0 _ _ _ _
   | exact impl_ReadFrame.mono _ _ _
   | exact LeO.none _
   | refine LeO.ite ?_ ?_
   | refine LeO.bind ?_ (fun _ => ?_)
set_option maxHeartbeats 8000000 in
set_option maxRecDepth 100000 in
theorem impl_ScanFrames.calls (k : Nat) (a0 : ByteArray) (a1 : Int) (r1 : List (S47)) (r2 : Int) (w : World) (h : impl_ScanFrames.f k a0 a1 = some (r1, r2)) :
  Calls Try.prog 42 #[.string a0, .int .i64 a1] w fun e w' => ∃ v0_ : Value, e = .returned (.tuple #[v0_, .int .i64 r2]) ∧ Kd.R k47 47 w' w.heap.size (fun _ => True) v0_ r1 ∧ Below w.heap.size w w' := by
 have hu47 := Try.underlying47
 have HB := ak (Below.refl w.heap.size w)
 have H : (impl_ScanFrames.l0 k a0 a1 (([] : List (S47))) 0) = some (r1, r2) := h
 clear h
 obtain ⟨y224, hy224⟩ : ∃ y_ : List (S47), y_ = (([] : List (S47))) := ⟨_, rfl⟩
 replace H : (impl_ScanFrames.l0 k a0 a1 y224 0) = some (r1, r2) := by first | (rw [hy224]; with_reducible exact H) | (have H2_ := (Option.bind_some _ _).symm.trans H; rw [hy224]; with_reducible exact H2_) | (have H2_ := (Option.bind_some _ _).symm.trans H; with_reducible exact H2_) | with_reducible exact H | (rw [hy224]; exact H) | exact H
 have Ny224 := Aside0.mk hy224
 clear hy224
 have H' := Aside0.mk H
 clear H
 go_enter Try.func42, Try.ntmps42
 go_wp2_with (first | ((with_reducible refine gate_dst (N := 11) rfl ?_); refine Kd.R_lit k47 _ 47 ?hg (N := 11) ?hd (xs := ([] : List (S47))) (inner := []) (ok := fun _ => True) (okp := fun _ => True) ?hr ?hp (fun _ hk => hk) trivial (Below.refl _ _) (Nat.le_refl _) (by simp) ?_; (case hd => rfl); (case hg => rfl); (case hr => first | (go_simp; done) | (go_simp; rfl)); (case hp => exact (Reps.none _ _)); intro v225 w3 ho4 hb hg_ hnew_; clear hg_ hnew_; (first | rw [← Ny224.out] at ho4 | (simp only [Int.reduceToNat] at ho4; rw [← Ny224.out] at ho4)); replace HO226 := ak (Kd.R_lower ho4 (below_size (lG HB))); replace HB := lB HB hb; clear hb ho4))
 go_loopg [6, 7] k (fun kq v6 v7 w' => ∃ (x6_1 : List (S47)) (x7_1 : Int), v7 = .int .i64 x7_1 ∧ Aside0 (impl_ScanFrames.l0 kq a0 a1 x6_1 x7_1 = some (r1, r2)) ∧ Aside0 (kq ≤ k) ∧ Aside0 (Kd.R k47 47 w' w.heap.size (fun _ => True) v6 x6_1) ∧ Aside0 (Below w.heap.size w w'))
 case atStart => exact ⟨(y224), (0), (by first | rfl | (simp; done) | (simp [*]; done)), H', ⟨Nat.le_refl _⟩, ⟨by (with_reducible repeat (first | apply Kd.R_alloc | apply Kd.R_drewN | apply Kd.R_drew)); exact HO226.out⟩, ⟨by exact lG HB⟩⟩
 case round =>
  clear H'
  try clear p2
  try clear c4
  obtain ⟨x6_1, x7_1, rfl, HA, HK1, HO_6, HB⟩ := hrel
  cases gk with
  | zero => exact absurd HA.out (by simp [impl_ScanFrames.l0])
  | succ k1 =>
   have H := HA.out
   clear HA
   simp only [impl_ScanFrames.l0] at H
   replace H := Option.bind_eq_some_iff.mp H
   obtain ⟨⟨t227, t228, t229, t230, t231⟩, A50, H⟩ := H
   replace H : (if t231 = true then (if t227 = a1 then (if x6_1.length < 4398046511104 then (impl_ScanFrames.l0 k1 a0 a1 (x6_1 ++ [(⟨t227, t228, t229⟩ : S47)]) t230) else (none)) else (some (x6_1, x7_1))) else (some (x6_1, x7_1))) = some (r1, r2) := H
   have A5 := Aside0.mk A50
   clear A50
   by_cases c6 : t231 = true
   ·subst c6
    have H1 : (if t227 = a1 then (if x6_1.length < 4398046511104 then (impl_ScanFrames.l0 k1 a0 a1 (x6_1 ++ [(⟨t227, t228, t229⟩ : S47)]) t230) else (none)) else (some (x6_1, x7_1))) = some (r1, r2) := by rw [if_pos rfl] at H; exact H
    clear H
    have H := H1
    clear H1
    by_cases c7 : t227 = a1
    ·rw [if_pos c7] at H
     have c7b0 : (t227 == a1) = true := beq_iff_eq.mpr c7
     have c7b1 : (t227 != a1) = false := bne_eq_false_iff_eq.mpr c7
     clear c7
     by_cases c8 : x6_1.length < 4398046511104
     ·rw [if_pos c8] at H
      have LMc8 := Aside0.mk c8
      clear c8
      obtain ⟨y233, hy233⟩ : ∃ y_ : List (S47), y_ = (x6_1 ++ [(⟨t227, t228, t229⟩ : S47)]) := ⟨_, rfl⟩
      replace H : (impl_ScanFrames.l0 k1 a0 a1 y233 t230) = some (r1, r2) := by first | (rw [hy233]; with_reducible exact H) | (have H2_ := (Option.bind_some _ _).symm.trans H; rw [hy233]; with_reducible exact H2_) | (have H2_ := (Option.bind_some _ _).symm.trans H; with_reducible exact H2_) | with_reducible exact H | (rw [hy233]; exact H) | exact H
      have Ny233 := Aside0.mk hy233
      clear hy233
      have H' := Aside0.mk H
      clear H
      go_wp2_with (first | ((with_reducible refine gate_callee (f := 39) rfl ?_); refine gl (some 15) Try.func39 #[.string a0, .int .i64 x7_1] ?_; (with_reducible refine (impl_ReadFrame.calls k1 a0 x7_1 t227 t228 t229 t230 true _ A5.out).mono ?_); rintro e w9 ⟨rfl, hb⟩; refine ⟨_, rfl, ?_⟩; replace HO_6 := rB HO_6 hb; replace HB := lB HB hb; (try clear hb); (try clear hk)) | ((with_reducible refine gate_dst (N := 8) rfl ?_); refine bx 8 #[.int .i64 0, .int .i64 0, .string (⟨#[]⟩ : ByteArray)] 47 ?_; intro gb232 hg w10 hbox hb; replace HO_6 := ak (Kd.R_below (Kd.R_elderB (rG HO_6) gb232 (Nat.le_of_eq hg.symm)) hb); replace BK232 := ak (hbox); replace GW232 := ak (bz hg (lG HB)); replace GE232 := ak (bz hg (lG HB)); replace HB := lB HB hb; clear hb hbox hg; obtain ⟨hcz11_0, hcz11_1, hcz11_2, hfz11_0, hfz11_1, hfz11_2⟩ := bC3 BK232) | ((with_reducible refine gate_builtin (b := .append) (xs := #[.tmp 29, .tmp 31]) rfl ?_); at_builtin; refine Kd.R_append k47 (w0 := w) w.heap.size rfl (.tmp 29) (.tmp 31) 55 47 (.agg #[(.int .i64 0), (.int .i64 0), (.string ⟨#[]⟩)]) 32 rfl Try.underlying55 info47 rfl (by decide) (by omega) u6 x6_1 (⟨t227, t228, t229⟩ : S47) [.int .i64 t227, .int .i64 t228, .string t229] (fun k_ => k_ ≠ gb232) (fun _ => False) rfl (by first | (go_simp; done) | (go_simp; rfl)) ?aP (fun _ hk => hk.elim) ?aF ?aO ?aB ?aS ?aL ?_; (case aP => exact k47_mkM _ _ _ (⟨t227, t228, t229⟩ : S47)); (case aB => exact (lT HB (gC GE232 gN))); (case aF => exact (fun k_ hk => Kd.freshB (g := gb232) (o := .cells #[.int .i64 t227, .int .i64 t228, .string t229] 47 (0, 0)) (bW BK232) k_ hk)); (case aO => exact (by (with_reducible repeat (first | apply Kd.R_alloc | apply Kd.R_drewN | apply Kd.R_drew)); exact Kd.R_mono (Kd.R_far (p := ⟨gb232, 2, none⟩) (Kd.R_far (p := ⟨gb232, 1, none⟩) (Kd.R_far (p := ⟨gb232, 0, none⟩) (Kd.R_mono HO_6.out (fun k_ hk => (⟨hk, hk.2⟩ : _ ∧ k_ ≠ gb232))) (fun _ hk => hk.2) (.int .i64 t227)) (fun _ hk => hk.2) (.int .i64 t228)) (fun _ hk => hk.2) (.string t229)) (fun _ hk => hk.1.2))); (case aS => exact (below_size (lT HB (gC GE232 gN)))); (case aL => have := LMc8.out; omega); intro v234 w12 ho hb hg hat; rw [← Ny233.out] at ho; have n0_ := ak (blk_grown (g := gb232) (o := .cells #[.int .i64 t227, .int .i64 t228, .string t229] 47 (0, 0)) (bW BK232) hg (Kd.R_away HO_6.out (fun _ hk => hk.2))); have n1_ := ak (hb); have n2_ := ak (ho); clear BK232; clear HB; clear HO_6; have BK232 := n0_; have HB := n1_; have HO235 := n2_; clear n0_ n1_ n2_; clear ho hb hg hat))
      go_roundg k1
      case measure => have := HK1.out; omega
      case rel => exact ⟨(y233), (t230), (by first | rfl | (simp; done) | (simp [*]; done)), H', ⟨by have := HK1.out; omega⟩, ⟨by (with_reducible repeat (first | apply Kd.R_alloc | apply Kd.R_drewN | apply Kd.R_drew)); exact Kd.R_mono HO235.out (fun _ hk => trivial)⟩, ⟨by exact lT HB (gC GE232 gN)⟩⟩
     ·rw [if_neg c8] at H
      exact absurd H (by simp)
    ·rw [if_neg c7] at H
     have c7b0 : (t227 == a1) = false := beq_eq_false_iff_ne.mpr c7
     have c7b1 : (t227 != a1) = true := bne_iff_ne.mpr c7
     simp only [Option.some.injEq, Prod.mk.injEq] at H
     obtain ⟨rfl, rfl⟩ := H
     go_wp2_with (first | ((with_reducible refine gate_callee (f := 39) rfl ?_); refine gl (some 15) Try.func39 #[.string a0, .int .i64 x7_1] ?_; (with_reducible refine (impl_ReadFrame.calls k1 a0 x7_1 t227 t228 t229 t230 true _ A5.out).mono ?_); rintro e w13 ⟨rfl, hb⟩; refine ⟨_, rfl, ?_⟩; replace HO_6 := rB HO_6 hb; replace HB := lB HB hb; (try clear hb); (try clear hk)) | ((with_reducible refine gate_dst (N := 8) rfl ?_); refine bx 8 #[.int .i64 0, .int .i64 0, .string (⟨#[]⟩ : ByteArray)] 47 ?_; intro gb232 hg w14 hbox hb; replace HO_6 := ak (Kd.R_below (Kd.R_elderB (rG HO_6) gb232 (Nat.le_of_eq hg.symm)) hb); replace BK232 := ak (hbox); replace GW232 := ak (bz hg (lG HB)); replace GE232 := ak (bz hg (lG HB)); replace HB := lB HB hb; clear hb hbox hg; obtain ⟨hcz15_0, hcz15_1, hcz15_2, hfz15_0, hfz15_1, hfz15_2⟩ := bC3 BK232))
     go_ret2
     exact ⟨_, ew, by (with_reducible repeat (first | apply Kd.R_alloc | apply Kd.R_drewN | apply Kd.R_drew)); exact Kd.R_mono (Kd.R_far (p := ⟨gb232, 2, none⟩) (Kd.R_far (p := ⟨gb232, 1, none⟩) (Kd.R_far (p := ⟨gb232, 0, none⟩) (Kd.R_mono HO_6.out (fun k_ hk => (⟨hk, hk.2⟩ : _ ∧ k_ ≠ gb232))) (fun _ hk => hk.2) (.int .i64 t227)) (fun _ hk => hk.2) (.int .i64 t228)) (fun _ hk => hk.2) (.string t229)) (fun _ hk => trivial), by exact lT HB (gC GE232 gN)⟩
   ·replace c6 := Bool.eq_false_iff.mpr c6
    subst c6
    have H1 : (some (x6_1, x7_1)) = some (r1, r2) := by rw [if_neg (show ¬ (false = true) by decide)] at H; exact H
    clear H
    have H := H1
    clear H1
    simp only [Option.some.injEq, Prod.mk.injEq] at H
    obtain ⟨rfl, rfl⟩ := H
    go_wp2_with (first | ((with_reducible refine gate_callee (f := 39) rfl ?_); refine gl (some 15) Try.func39 #[.string a0, .int .i64 x7_1] ?_; (with_reducible refine (impl_ReadFrame.calls k1 a0 x7_1 t227 t228 t229 t230 false _ A5.out).mono ?_); rintro e w16 ⟨rfl, hb⟩; refine ⟨_, rfl, ?_⟩; replace HO_6 := rB HO_6 hb; replace HB := lB HB hb; (try clear hb); (try clear hk)) | ((with_reducible refine gate_dst (N := 8) rfl ?_); refine bx 8 #[.int .i64 0, .int .i64 0, .string (⟨#[]⟩ : ByteArray)] 47 ?_; intro gb232 hg w17 hbox hb; replace HO_6 := ak (Kd.R_below (Kd.R_elderB (rG HO_6) gb232 (Nat.le_of_eq hg.symm)) hb); replace BK232 := ak (hbox); replace GW232 := ak (bz hg (lG HB)); replace GE232 := ak (bz hg (lG HB)); replace HB := lB HB hb; clear hb hbox hg; obtain ⟨hcz18_0, hcz18_1, hcz18_2, hfz18_0, hfz18_1, hfz18_2⟩ := bC3 BK232))
    go_ret2
    exact ⟨_, ew, by (with_reducible repeat (first | apply Kd.R_alloc | apply Kd.R_drewN | apply Kd.R_drew)); exact Kd.R_mono (Kd.R_far (p := ⟨gb232, 2, none⟩) (Kd.R_far (p := ⟨gb232, 1, none⟩) (Kd.R_far (p := ⟨gb232, 0, none⟩) (Kd.R_mono HO_6.out (fun k_ hk => (⟨hk, hk.2⟩ : _ ∧ k_ ≠ gb232))) (fun _ hk => hk.2) (.int .i64 t227)) (fun _ hk => hk.2) (.int .i64 t228)) (fun _ hk => hk.2) (.string t229)) (fun _ hk => trivial), by exact lT HB (gC GE232 gN)⟩

end Go.Proofs.Ytneffinmiffhpaa.PFnFrames
