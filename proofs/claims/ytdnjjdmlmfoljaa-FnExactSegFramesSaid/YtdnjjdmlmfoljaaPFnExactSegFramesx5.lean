-- Written for this claim by a program of mine (a turned copy of the kit's print): functions as plain Lean, and their contracts. Lean checks it.
import Derived.Test.YtdnjjdmlmfoljaaPFnExactSegFramesx0
import Derived.Test.YtdnjjdmlmfoljaaPFnExactSegFramesx3
import Derived.Test.YtdnjjdmlmfoljaaPFnExactSegFramesx4
import Derived.Test.YtdnjjdmlmfoljaaVFnExactSegFrames1
namespace Go.Proofs.Ytdnjjdmlmfoljaa.PFnExactSegFrames
open Go.RowKit Go.Proofs.YtdnjjdmlmfoljaaW.PrintWords Go.Proofs.YtdnjjdmlmfoljaaW.PrintLast Go.Proofs.YtdnjjdmlmfoljaaW.PrintMore
attribute [local go_sem] max2_int min2_int max_two min_two max_three min_three max_four min_four   -- for this text's walks alone
set_option linter.unusedVariables false
set_option linter.unusedSimpArgs false

/-! ### spec_SumMore: function 111 -/
mutual
def spec_SumMore.l0 : Nat → Int → ByteArray → Int → Option (Int)
 | 0, _, _, _ => none
 | k + 1, x0, x1, x5 => if x5 < (x1.size : Int) then (if 0 ≤ x5 then (spec_SumMore.l1 k (Go.bits .xor .u32 x0 ((bt x1 x5) % 4294967296)) x1 x5 0) else (none)) else (some x0)
def spec_SumMore.l1 : Nat → Int → ByteArray → Int → Int → Option (Int)
 | 0, _, _, _, _ => none
 | k + 1, x0, x1, x5, x6 => if x6 < 8 then (if (Int.tmod x0 2) = 1 then (spec_SumMore.l1 k (Go.bits .xor .u32 ((Int.tdiv x0 2) % 4294967296) 3558460437) x1 x5 (wrap64 (x6 + 1))) else (spec_SumMore.l1 k ((Int.tdiv x0 2) % 4294967296) x1 x5 (wrap64 (x6 + 1)))) else (spec_SumMore.l0 k x0 x1 (wrap64 (x5 + 1)))
end
def spec_SumMore.f (k : Nat) (a0 : Int) (a1 : ByteArray) : Option (Int) := spec_SumMore.l0 k a0 a1 0
theorem spec_SumMore.mono_l : ∀ k, (∀ y0 y1 y2, LeO (spec_SumMore.l0 k y0 y1 y2) (spec_SumMore.l0 (k + 1) y0 y1 y2)) ∧ (∀ y0 y1 y2 y3, LeO (spec_SumMore.l1 k y0 y1 y2 y3) (spec_SumMore.l1 (k + 1) y0 y1 y2 y3))
 | 0 => ⟨fun _ _ _ r h => by simp [spec_SumMore.l0] at h, fun _ _ _ _ r h => by simp [spec_SumMore.l1] at h⟩
 | k + 1 => by
  obtain ⟨ih0, ih1⟩ := spec_SumMore.mono_l k
  refine ⟨?_, ?_⟩
  ·intro y0 y1 y2
   unfold spec_SumMore.l0
   repeat' first
   | (with_reducible exact ih0 _ _ _)
   | (with_reducible exact ih1 _ _ _ _)
   | (with_reducible exact LeO.refl _)
   | (with_reducible exact LeO.none _)
   | (with_reducible refine LeO.ite ?_ ?_)
   | (with_reducible refine LeO.bind ?_ (fun _ => ?_))
   | exact ih0 _ _ _
   | exact ih1 _ _ _ _
   | exact LeO.none _
   | refine LeO.ite ?_ ?_
   | refine LeO.bind ?_ (fun _ => ?_)
  ·intro y0 y1 y2 y3
   unfold spec_SumMore.l1
   repeat' first
   | (with_reducible exact ih0 _ _ _)
   | (with_reducible exact ih1 _ _ _ _)
   | (with_reducible exact LeO.refl _)
   | (with_reducible exact LeO.none _)
   | (with_reducible refine LeO.ite ?_ ?_)
   | (with_reducible refine LeO.bind ?_ (fun _ => ?_))
   | exact ih0 _ _ _
   | exact ih1 _ _ _ _
   | exact LeO.none _
   | refine LeO.ite ?_ ?_
   | refine LeO.bind ?_ (fun _ => ?_)
theorem spec_SumMore.mono : ∀ a0 a1 k, LeO (spec_SumMore.f k a0 a1) (spec_SumMore.f (k + 1) a0 a1) := by
 intro a0 a1 k
 obtain ⟨ih0, ih1⟩ := spec_SumMore.mono_l k
 unfold spec_SumMore.f
 repeat' first
   | (with_reducible exact ih0 _ _ _)
   | (with_reducible exact ih1 _ _ _ _)
   | (with_reducible exact LeO.refl _)
   | (with_reducible exact LeO.none _)
   | (with_reducible refine LeO.ite ?_ ?_)
   | (with_reducible refine LeO.bind ?_ (fun _ => ?_))
   | exact ih0 _ _ _
   | exact ih1 _ _ _ _
   | exact LeO.none _
   | refine LeO.ite ?_ ?_
   | refine LeO.bind ?_ (fun _ => ?_)
set_option maxHeartbeats 8000000 in
set_option maxRecDepth 100000 in
theorem spec_SumMore.calls (k : Nat) (a0 : Int) (a1 : ByteArray) (r : Int) (w : World) (h : spec_SumMore.f k a0 a1 = some r) :
  Calls Try.prog 111 #[.int .u32 a0, .string a1] w fun e w' => e = .returned (.int .u32 r) ∧ Drawn0 w w' := by
 have H : (spec_SumMore.l0 k a0 a1 0) = some r := h
 clear h
 have H' := Aside0.mk H
 clear H
 go_enter Try.func111, Try.ntmps111
 go_wp2
 go_loopg [0, 5] k (fun kq v0 v5 w' => ∃ (x0_1 : Int) (x5_1 : Int), v0 = .int .u32 x0_1 ∧ v5 = .int .i64 x5_1 ∧ Aside0 (spec_SumMore.l0 kq x0_1 a1 x5_1 = some r) ∧ Aside0 (kq ≤ k) ∧ Drawn0 w w')
 case atStart => exact ⟨(a0), (0), (by first | rfl | (simp; done) | (simp [*]; done)), (by first | rfl | (simp; done) | (simp [*]; done)), H', ⟨Nat.le_refl _⟩, by repeat (first | exact Drawn0.refl _ | apply Drawn0.step)⟩
 case round =>
  clear H'
  try clear c1
  try clear p2
  obtain ⟨x0_1, x5_1, rfl, rfl, HA, HK1, ⟨m1, rfl⟩⟩ := hrel
  cases gk with
  | zero => exact absurd HA.out (by simp [spec_SumMore.l0])
  | succ k1 =>
   have H := HA.out
   clear HA
   simp only [spec_SumMore.l0] at H
   by_cases c3 : x5_1 < (a1.size : Int)
   ·rw [if_pos c3] at H
    have c3b0 : decide (x5_1 < (a1.size : Int)) = true := decide_eq_true c3
    clear c3
    by_cases c4 : 0 ≤ x5_1
    ·rw [if_pos c4] at H
     have c4b0 : decide (0 ≤ x5_1) = true := decide_eq_true c4
     clear c4
     have H' := Aside0.mk H
     clear H
     have p5 : 0 ≤ (x5_1 : Int) := of_decide_eq_true (by first | (with_reducible assumption) | assumption)
     have q5 : x5_1 < (a1.size : Int) := of_decide_eq_true (by first | (with_reducible assumption) | assumption)
     have hx5 := bt_at a1 x5_1
     replace p5 := eq_true p5
     replace q5 := eq_true q5
     go_wp2
     go_loopg [0, 6] k1 (fun kq v0 v6 w' => ∃ (x0_2 : Int) (x6_2 : Int), v0 = .int .u32 x0_2 ∧ v6 = .int .i64 x6_2 ∧ Aside0 (spec_SumMore.l1 kq x0_2 a1 x5_1 x6_2 = some r) ∧ Aside0 (kq ≤ k1) ∧ Drawn0 w w')
     case atStart => exact ⟨(Go.bits .xor .u32 x0_1 ((bt a1 x5_1) % 4294967296)), (0), (by first | rfl | (simp; done) | (simp [*]; done)), (by first | rfl | (simp; done) | (simp [*]; done)), H', ⟨Nat.le_refl _⟩, by repeat (first | exact Drawn0.refl _ | apply Drawn0.step)⟩
     case round =>
      clear H'
      try clear c1
      try clear p2
      try clear c3
      try clear c3b0
      try clear c4
      try clear c4b0
      try clear p5
      try clear q5
      try clear hx5
      try clear p2
      try clear p5
      try clear q5
      obtain ⟨x0_2, x6_2, rfl, rfl, HA, HK2, ⟨m2, rfl⟩⟩ := hrel
      cases gk with
      | zero => exact absurd HA.out (by simp [spec_SumMore.l1])
      | succ k2 =>
       have H := HA.out
       clear HA
       simp only [spec_SumMore.l1] at H
       by_cases c6 : x6_2 < 8
       ·rw [if_pos c6] at H
        have c6b0 : decide (x6_2 < 8) = true := decide_eq_true c6
        clear c6
        by_cases c7 : (Int.tmod x0_2 2) = 1
        ·rw [if_pos c7] at H
         have c7b0 : ((Int.tmod x0_2 2) == 1) = true := beq_iff_eq.mpr c7
         have c7b1 : ((Int.tmod x0_2 2) != 1) = false := bne_eq_false_iff_eq.mpr c7
         clear c7
         have H' := Aside0.mk H
         clear H
         go_wp2
         go_roundg k2
         case measure => have := HK1.out; have := HK2.out; omega
         case rel => exact ⟨(Go.bits .xor .u32 ((Int.tdiv x0_2 2) % 4294967296) 3558460437), (wrap64 (x6_2 + 1)), (by first | rfl | (simp; done) | (simp [*]; done)), (by first | rfl | (simp; done) | (simp [*]; done)), H', ⟨by have := HK1.out; have := HK2.out; omega⟩, by repeat (first | exact Drawn0.refl _ | apply Drawn0.step)⟩
        ·rw [if_neg c7] at H
         have c7b0 : ((Int.tmod x0_2 2) == 1) = false := beq_eq_false_iff_ne.mpr c7
         have c7b1 : ((Int.tmod x0_2 2) != 1) = true := bne_iff_ne.mpr c7
         have H' := Aside0.mk H
         clear H
         go_wp2
         go_roundg k2
         case measure => have := HK1.out; have := HK2.out; omega
         case rel => exact ⟨((Int.tdiv x0_2 2) % 4294967296), (wrap64 (x6_2 + 1)), (by first | rfl | (simp; done) | (simp [*]; done)), (by first | rfl | (simp; done) | (simp [*]; done)), H', ⟨by have := HK1.out; have := HK2.out; omega⟩, by repeat (first | exact Drawn0.refl _ | apply Drawn0.step)⟩
       ·rw [if_neg c6] at H
        have c6b0 : decide (x6_2 < 8) = false := decide_eq_false c6
        clear c6
        have H' := Aside0.mk H
        clear H
        go_wp2
        go_roundg k2
        case measure => have := HK1.out; have := HK2.out; omega
        case rel => exact ⟨(x0_2), (wrap64 (x5_1 + 1)), (by first | rfl | (simp; done) | (simp [*]; done)), (by first | rfl | (simp; done) | (simp [*]; done)), H', ⟨by have := HK1.out; have := HK2.out; omega⟩, by repeat (first | exact Drawn0.refl _ | apply Drawn0.step)⟩
    ·rw [if_neg c4] at H
     exact absurd H (by simp)
   ·rw [if_neg c3] at H
    have c3b0 : decide (x5_1 < (a1.size : Int)) = false := decide_eq_false c3
    clear c3
    obtain rfl := Option.some.inj H
    go_wp2
    go_ret
    exact ⟨by first | rfl | (simp; done) | (simp [*]; done), by repeat (first | exact Drawn0.refl _ | apply Drawn0.step)⟩

/-! ### spec_SumOf: function 109 -/
def spec_SumOf.f (k : Nat) (a0 : ByteArray) : Option (Int) := (spec_SumMore.f k 4294967295 a0).bind fun t192 => (some t192)
theorem spec_SumOf.mono : ∀ a0 k, LeO (spec_SumOf.f k a0) (spec_SumOf.f (k + 1) a0) := by
 intro a0 k
 unfold spec_SumOf.f
 repeat' first
   | (with_reducible exact spec_SumMore.mono _ _ _)
   | (with_reducible exact LeO.refl _)
   | (with_reducible exact LeO.none _)
   | (with_reducible refine LeO.ite ?_ ?_)
   | (with_reducible refine LeO.bind ?_ (fun _ => ?_))
   | exact spec_SumMore.mono _ _ _
   | exact LeO.none _
   | refine LeO.ite ?_ ?_
   | refine LeO.bind ?_ (fun _ => ?_)
set_option maxHeartbeats 8000000 in
set_option maxRecDepth 100000 in
theorem spec_SumOf.calls (k : Nat) (a0 : ByteArray) (r : Int) (w : World) (h : spec_SumOf.f k a0 = some r) :
  Calls Try.prog 109 #[.string a0] w fun e w' => e = .returned (.int .u32 r) ∧ Drawn0 w w' := by
 have H : ((spec_SumMore.f k 4294967295 a0).bind fun t192 => (some t192)) = some r := h
 clear h
 replace H := Option.bind_eq_some_iff.mp H
 obtain ⟨t192, A20, H⟩ := H
 replace H : (some t192) = some r := H
 have A2 := Aside0.mk A20
 clear A20
 obtain rfl := Option.some.inj H
 go_enter Try.func109, Try.ntmps109
 go_wp2_with (first | ((with_reducible refine gate_callee (f := 111) rfl ?_); refine gl (some 4) Try.func111 #[.int .u32 4294967295, .string a0] ?_; (with_reducible refine (spec_SumMore.calls k 4294967295 a0 t192 _ A2.out).mono ?_); rintro e w' ⟨rfl, ⟨nd, rfl⟩⟩; refine ⟨_, rfl, ?_⟩))
 go_ret
 exact ⟨by first | rfl | (simp; done) | (simp [*]; done), by repeat (first | exact Drawn0.refl _ | apply Drawn0.step)⟩

/-! ### spec_Sealed: function 103 -/
def spec_Sealed.f (k : Nat) (a0 : ByteArray) : Option (ByteArray × Bool) := if (a0.size : Int) > 20000 then (some ((⟨#[]⟩ : ByteArray), false)) else ((spec_SumOf.f k a0).bind fun t193 => ((spec_l02Four.f t193).bind fun t194 => (if a0.size + t194.size ≤ 9223372036854775807 then (some (a0 ++ t194, true)) else (none))))
theorem spec_Sealed.mono : ∀ a0 k, LeO (spec_Sealed.f k a0) (spec_Sealed.f (k + 1) a0) := by
 intro a0 k
 unfold spec_Sealed.f
 repeat' first
   | (with_reducible exact spec_SumOf.mono _ _)
   | (with_reducible exact LeO.refl _)
   | (with_reducible exact LeO.none _)
   | (with_reducible refine LeO.ite ?_ ?_)
   | (with_reducible refine LeO.bind ?_ (fun _ => ?_))
   | exact spec_SumOf.mono _ _
   | exact LeO.none _
   | refine LeO.ite ?_ ?_
   | refine LeO.bind ?_ (fun _ => ?_)
set_option maxHeartbeats 8000000 in
set_option maxRecDepth 100000 in
theorem spec_Sealed.calls (k : Nat) (a0 : ByteArray) (r1 : ByteArray) (r2 : Bool) (w : World) (h : spec_Sealed.f k a0 = some (r1, r2)) :
  Calls Try.prog 103 #[.string a0] w fun e w' => e = .returned (.tuple #[.string r1, .bool r2]) ∧ Below w.heap.size w w' := by
 have HB := ak (Below.refl w.heap.size w)
 have H : (if (a0.size : Int) > 20000 then (some ((⟨#[]⟩ : ByteArray), false)) else ((spec_SumOf.f k a0).bind fun t193 => ((spec_l02Four.f t193).bind fun t194 => (if a0.size + t194.size ≤ 9223372036854775807 then (some (a0 ++ t194, true)) else (none))))) = some (r1, r2) := h
 clear h
 by_cases c2 : (a0.size : Int) > 20000
 ·rw [if_pos c2] at H
  have c2b0 : decide (20000 < (a0.size : Int)) = true := decide_eq_true c2
  have c2b1 : decide (20000 < a0.size) = true := decide_eq_true (by omega)
  clear c2
  simp only [Option.some.injEq, Prod.mk.injEq] at H
  obtain ⟨rfl, rfl⟩ := H
  go_enter Try.func103, Try.ntmps103
  go_wp2
  go_ret2
  exact ⟨ew, by exact lG HB⟩
 ·rw [if_neg c2] at H
  have c2b0 : decide (20000 < (a0.size : Int)) = false := decide_eq_false c2
  have c2b1 : decide (20000 < a0.size) = false := decide_eq_false (by omega)
  clear c2
  replace H := Option.bind_eq_some_iff.mp H
  obtain ⟨t193, A30, H⟩ := H
  replace H : ((spec_l02Four.f t193).bind fun t194 => (if a0.size + t194.size ≤ 9223372036854775807 then (some (a0 ++ t194, true)) else (none))) = some (r1, r2) := H
  have A3 := Aside0.mk A30
  clear A30
  replace H := Option.bind_eq_some_iff.mp H
  obtain ⟨t194, A40, H⟩ := H
  replace H : (if a0.size + t194.size ≤ 9223372036854775807 then (some (a0 ++ t194, true)) else (none)) = some (r1, r2) := H
  have A4 := Aside0.mk A40
  clear A40
  by_cases c5 : a0.size + t194.size ≤ 9223372036854775807
  ·rw [if_pos c5] at H
   have c5b0 := eq_true c5
   have c5b1 : decide (a0.size + t194.size ≤ 9223372036854775807) = true := decide_eq_true c5
   try have c5b2 : (9223372036854775807 < a0.size + t194.size) = False := eq_false (Nat.not_lt.2 c5)
   simp only [Option.some.injEq, Prod.mk.injEq] at H
   obtain ⟨rfl, rfl⟩ := H
   go_enter Try.func103, Try.ntmps103
   go_wp2_with (first | ((with_reducible refine gate_callee (f := 109) rfl ?_); refine gl (some 9) Try.func109 #[.string a0] ?_; (with_reducible refine (spec_SumOf.calls k a0 t193 _ A3.out).mono ?_); rintro e w' ⟨rfl, ⟨nd, rfl⟩⟩; refine ⟨_, rfl, ?_⟩) | ((with_reducible refine gate_callee (f := 108) rfl ?_); refine gl (some 10) Try.func108 #[.int .u32 t193] ?_; (with_reducible refine (spec_l02Four.calls t193 t194 _ A4.out).mono ?_); rintro e w6 ⟨rfl, hb⟩; refine ⟨_, rfl, ?_⟩; replace HB := lB HB hb; (try clear hb); (try clear hk)))
   go_ret2
   exact ⟨ew, by exact lG HB⟩
  ·rw [if_neg c5] at H
   exact absurd H (by simp)

/-! ### spec_FrameText: function 91 -/
def spec_FrameText.f (k : Nat) (a0_0 : Int) (a0_1 : Int) (a0_2 : ByteArray) : Option (ByteArray × Bool) := (spec_FrameOk.f a0_0 a0_1 a0_2).bind fun t196 => (if t196 = true then ((spec_l01Var.f k a0_0).bind fun t197 => ((spec_l01Var.f k a0_1).bind fun t198 => (if t197.size + t198.size ≤ 9223372036854775807 then ((spec_l01Var.f k (a0_2.size : Int)).bind fun t199 => (if t197.size + t198.size + t199.size ≤ 9223372036854775807 then (if t197.size + t198.size + t199.size + a0_2.size ≤ 9223372036854775807 then ((spec_Sealed.f k (((t197 ++ t198) ++ t199) ++ a0_2)).bind fun bt200 => (some (bt200.1, bt200.2))) else (none)) else (none))) else (none)))) else (some ((⟨#[]⟩ : ByteArray), false)))
theorem spec_FrameText.mono : ∀ a0 a1 a2 k, LeO (spec_FrameText.f k a0 a1 a2) (spec_FrameText.f (k + 1) a0 a1 a2) := by
 intro a0 a1 a2 k
 unfold spec_FrameText.f
 repeat' first
   | (with_reducible exact spec_Sealed.mono _ _)
   | (with_reducible exact spec_l01Var.mono _ _)
   | (with_reducible exact LeO.refl _)
   | (with_reducible exact LeO.none _)
   | (with_reducible refine LeO.ite ?_ ?_)
   | (with_reducible refine LeO.bind ?_ (fun _ => ?_))
   | exact spec_Sealed.mono _ _
   | exact spec_l01Var.mono _ _
   | exact LeO.none _
   | refine LeO.ite ?_ ?_
   | refine LeO.bind ?_ (fun _ => ?_)
def spec_FrameText.T3 : Bool × List (List Nat × List Nat) := (true, [([], []), ([0], [0]), ([1], [1]), ([], []), ([3], [3]), ([4, 2], [4]), ([2, 5], [2, 5]), ([], []), ([7], [7]), ([8], [8]), ([9, 5], [9]), ([6, 10], [6, 10]), ([], []), ([12], [12]), ([11, 13], [11, 13]), ([14, 10], [14]), ([15], [15]), ([15], [15]), ([16, 15, 0, 1, 2, 3, 4, 5, 6, 7, 8, 9, 10, 11, 12, 13, 14, 15, 16, 17], [16]), ([17, 18, 0, 1, 2, 3, 4, 5, 6, 7, 8, 9, 10, 11, 12, 13, 14, 15, 16, 17, 18], [17])])
def spec_FrameText.B3 : List Nat := [0, 1, 3, 0, 8, 31, 63, 0, 128, 384, 959, 2047, 0, 4096, 16383, 32767, 65535, 65535, 262143, 524287]
theorem spec_FrameText.tab3 : rtab .any (opsOf Try.f91 3) = spec_FrameText.T3 := by kernel_rfl
theorem spec_FrameText.bits3 : waitsOk spec_FrameText.T3.2 spec_FrameText.B3 = true := by kernel_rfl
set_option maxHeartbeats 8000000 in
set_option maxRecDepth 100000 in
theorem spec_FrameText.calls (k : Nat) (a0_0 : Int) (a0_1 : Int) (a0_2 : ByteArray) (r1 : ByteArray) (r2 : Bool) (w : World) (h : spec_FrameText.f k a0_0 a0_1 a0_2 = some (r1, r2)) :
  Calls Try.prog 91 #[.agg #[.int .i64 a0_0, .int .i64 a0_1, .string a0_2]] w fun e w' => e = .returned (.tuple #[.string r1, .bool r2]) ∧ Below w.heap.size w w' := by
 have hu77 := Try.underlying77
 have HB := ak (Below.refl w.heap.size w)
 have H : ((spec_FrameOk.f a0_0 a0_1 a0_2).bind fun t196 => (if t196 = true then ((spec_l01Var.f k a0_0).bind fun t197 => ((spec_l01Var.f k a0_1).bind fun t198 => (if t197.size + t198.size ≤ 9223372036854775807 then ((spec_l01Var.f k (a0_2.size : Int)).bind fun t199 => (if t197.size + t198.size + t199.size ≤ 9223372036854775807 then (if t197.size + t198.size + t199.size + a0_2.size ≤ 9223372036854775807 then ((spec_Sealed.f k (((t197 ++ t198) ++ t199) ++ a0_2)).bind fun bt200 => (some (bt200.1, bt200.2))) else (none)) else (none))) else (none)))) else (some ((⟨#[]⟩ : ByteArray), false)))) = some (r1, r2) := h
 clear h
 replace H := Option.bind_eq_some_iff.mp H
 obtain ⟨t196, A20, H⟩ := H
 replace H : (if t196 = true then ((spec_l01Var.f k a0_0).bind fun t197 => ((spec_l01Var.f k a0_1).bind fun t198 => (if t197.size + t198.size ≤ 9223372036854775807 then ((spec_l01Var.f k (a0_2.size : Int)).bind fun t199 => (if t197.size + t198.size + t199.size ≤ 9223372036854775807 then (if t197.size + t198.size + t199.size + a0_2.size ≤ 9223372036854775807 then ((spec_Sealed.f k (((t197 ++ t198) ++ t199) ++ a0_2)).bind fun bt200 => (some (bt200.1, bt200.2))) else (none)) else (none))) else (none)))) else (some ((⟨#[]⟩ : ByteArray), false))) = some (r1, r2) := H
 have A2 := Aside0.mk A20
 clear A20
 by_cases c3 : t196 = true
 ·subst c3
  have H1 : ((spec_l01Var.f k a0_0).bind fun t197 => ((spec_l01Var.f k a0_1).bind fun t198 => (if t197.size + t198.size ≤ 9223372036854775807 then ((spec_l01Var.f k (a0_2.size : Int)).bind fun t199 => (if t197.size + t198.size + t199.size ≤ 9223372036854775807 then (if t197.size + t198.size + t199.size + a0_2.size ≤ 9223372036854775807 then ((spec_Sealed.f k (((t197 ++ t198) ++ t199) ++ a0_2)).bind fun bt200 => (some (bt200.1, bt200.2))) else (none)) else (none))) else (none)))) = some (r1, r2) := by rw [if_pos rfl] at H; exact H
  clear H
  have H := H1
  clear H1
  replace H := Option.bind_eq_some_iff.mp H
  obtain ⟨t197, A40, H⟩ := H
  replace H : ((spec_l01Var.f k a0_1).bind fun t198 => (if t197.size + t198.size ≤ 9223372036854775807 then ((spec_l01Var.f k (a0_2.size : Int)).bind fun t199 => (if t197.size + t198.size + t199.size ≤ 9223372036854775807 then (if t197.size + t198.size + t199.size + a0_2.size ≤ 9223372036854775807 then ((spec_Sealed.f k (((t197 ++ t198) ++ t199) ++ a0_2)).bind fun bt200 => (some (bt200.1, bt200.2))) else (none)) else (none))) else (none))) = some (r1, r2) := H
  have A4 := Aside0.mk A40
  clear A40
  replace H := Option.bind_eq_some_iff.mp H
  obtain ⟨t198, A50, H⟩ := H
  replace H : (if t197.size + t198.size ≤ 9223372036854775807 then ((spec_l01Var.f k (a0_2.size : Int)).bind fun t199 => (if t197.size + t198.size + t199.size ≤ 9223372036854775807 then (if t197.size + t198.size + t199.size + a0_2.size ≤ 9223372036854775807 then ((spec_Sealed.f k (((t197 ++ t198) ++ t199) ++ a0_2)).bind fun bt200 => (some (bt200.1, bt200.2))) else (none)) else (none))) else (none)) = some (r1, r2) := H
  have A5 := Aside0.mk A50
  clear A50
  by_cases c6 : t197.size + t198.size ≤ 9223372036854775807
  ·rw [if_pos c6] at H
   have c6b0 := eq_true c6
   have c6b1 : decide (t197.size + t198.size ≤ 9223372036854775807) = true := decide_eq_true c6
   try have c6b2 : (9223372036854775807 < t197.size + t198.size) = False := eq_false (Nat.not_lt.2 c6)
   replace H := Option.bind_eq_some_iff.mp H
   obtain ⟨t199, A70, H⟩ := H
   replace H : (if t197.size + t198.size + t199.size ≤ 9223372036854775807 then (if t197.size + t198.size + t199.size + a0_2.size ≤ 9223372036854775807 then ((spec_Sealed.f k (((t197 ++ t198) ++ t199) ++ a0_2)).bind fun bt200 => (some (bt200.1, bt200.2))) else (none)) else (none)) = some (r1, r2) := H
   have A7 := Aside0.mk A70
   clear A70
   by_cases c8 : t197.size + t198.size + t199.size ≤ 9223372036854775807
   ·rw [if_pos c8] at H
    have c8b0 := eq_true c8
    have c8b1 : decide (t197.size + t198.size + t199.size ≤ 9223372036854775807) = true := decide_eq_true c8
    try have c8b2 : (9223372036854775807 < t197.size + t198.size + t199.size) = False := eq_false (Nat.not_lt.2 c8)
    by_cases c9 : t197.size + t198.size + t199.size + a0_2.size ≤ 9223372036854775807
    ·rw [if_pos c9] at H
     have c9b0 := eq_true c9
     have c9b1 : decide (t197.size + t198.size + t199.size + a0_2.size ≤ 9223372036854775807) = true := decide_eq_true c9
     try have c9b2 : (9223372036854775807 < t197.size + t198.size + t199.size + a0_2.size) = False := eq_false (Nat.not_lt.2 c9)
     replace H := Option.bind_eq_some_iff.mp H
     obtain ⟨⟨t200, t201⟩, A100, H⟩ := H
     replace H : (some (t200, t201)) = some (r1, r2) := H
     have A10 := Aside0.mk A100
     clear A100
     simp only [Option.some.injEq, Prod.mk.injEq] at H
     obtain ⟨rfl, rfl⟩ := H
     go_enter Try.func91, Try.ntmps91
     try go_wp2_with (first | ((with_reducible refine gate_dst (N := 1) rfl ?_); refine bx 1 #[.int .i64 a0_0, .int .i64 a0_1, .string a0_2] 77 ?_; intro gb195 hg w11 hbox hb; replace BK195 := ak (hbox); replace GW195 := ak (bz hg (lG HB)); replace GE195 := ak (bz hg (lG HB)); replace HB := lB HB hb; clear hb hbox hg; obtain ⟨hcz12_0, hcz12_1, hcz12_2, hfz12_0, hfz12_1, hfz12_2⟩ := bC3 BK195) | ((with_reducible refine gate_callee (f := 102) rfl ?_); refine gl (some 5) Try.func102 #[.agg #[.int .i64 a0_0, .int .i64 a0_1, .string a0_2]] ?_; (with_reducible refine (spec_FrameOk.calls a0_0 a0_1 a0_2 true _ A2.out).mono ?_); rintro e w13 ⟨rfl, hb⟩; refine ⟨_, rfl, ?_⟩; replace BK195 := bB BK195 hb; replace HB := ak (below_step (lT HB (gC GE195 gN)) hb); (try clear hb); (try clear hk)))
     replace BK195 := ak (blk_drew BK195.out)
     replace HB := ak (below_drew1 HB.out)
     refine start_ (n := 20) (S := fun w' => w'.cell? ⟨gb195, 0, none⟩ = some (.int .i64 a0_0) ∧ w'.cell? ⟨gb195, 1, none⟩ = some (.int .i64 a0_1) ∧ w'.cell? ⟨gb195, 2, none⟩ = some (.string a0_2)) (ds := []) #[f_,f_,f_,f_,f_,f_,f_,f_,f_,f_,f_,f_,f_,f_,f_,f_,f_,f_,f_,f_] (by kernel_rfl) rfl rfl ⟨bc BK195 0, bc BK195 1, bc BK195 2⟩ (fun hHeld => ?_); refine with_tabW spec_FrameText.tab3 spec_FrameText.bits3 (fun HT_ HW_ => ?_)
     generalize w13.drew = w14 at BK195 HB hHeld ⊢
     refine pu 0 7 (fb 20 1) HT_ ?_
     refine pu 3 10 (fb 20 9) HT_ ?_
     refine pu 7 14 (fb 20 137) HT_ ?_
     refine pu 12 19 (fb 20 4233) HT_ ?_
     refine tk 1 8 (fb 20 4235) HT_ HW_ hHeld ?_
     refine tk 4 11 (fb 20 4251) HT_ HW_ hHeld ?_
     refine tk 8 15 (fb 20 4507) HT_ HW_ hHeld ?_
     refine pu 9 16 (fb 20 5019) HT_ ?_
     refine tk 13 20 (fb 20 13211) HT_ HW_ hHeld ?_
     refine on 2 (some 9) (fb 20 13215) HT_ (fun K hK => ?_)
     refine goes_ Try.func101 (by kernel_rfl) rfl #[.int .i64 a0_0] (by rfl) rfl rfl (by (try simp only [List.map_toArray, List.map_cons, List.map_nil]); first | done | rfl | (simp only [List.length_drop, List.length_take]; rfl)) ?_
     with_reducible refine (spec_l01Var.calls k a0_0 t197 _ A4.out).mono ?_
     rintro e w15 ⟨rfl, hb⟩
     refine ⟨_, rfl, ?_⟩
     replace BK195 := bB BK195 hb
     replace HB := ak (below_step (lT HB (gC GE195 gN)) hb)
     (try clear hb)
     (try clear hb2)
     (try clear hk)
     (try clear hi)
     refine hK.out _ _ ⟨bc BK195 0, bc BK195 1, bc BK195 2⟩ (fun hHeld => ?_)
     clear hK K
     refine nm ?_
     refine on 5 (some 12) (fb 20 13247) HT_ (fun K hK => ?_)
     refine goes_ Try.func101 (by kernel_rfl) rfl #[.int .i64 a0_1] (by rfl) rfl rfl (by (try simp only [List.map_toArray, List.map_cons, List.map_nil]); first | done | rfl | (simp only [List.length_drop, List.length_take]; rfl)) ?_
     with_reducible refine (spec_l01Var.calls k a0_1 t198 _ A5.out).mono ?_
     rintro e w16 ⟨rfl, hb⟩
     refine ⟨_, rfl, ?_⟩
     replace BK195 := bB BK195 hb
     replace HB := ak (below_step (lT HB (gC GE195 gN)) hb)
     (try clear hb)
     (try clear hb2)
     (try clear hk)
     (try clear hi)
     refine hK.out _ _ ⟨bc BK195 0, bc BK195 1, bc BK195 2⟩ (fun hHeld => ?_)
     clear hK K
     refine nm ?_
     refine pu 6 13 (fb 20 13311) HT_ ?_
     refine on 10 (some 17) (fb 20 14335) HT_ (fun K hK => ?_)
     refine goes_ Try.func101 (by kernel_rfl) rfl #[.int .i64 (a0_2.size : Int)] (by rfl) rfl rfl (by (try simp only [List.map_toArray, List.map_cons, List.map_nil]); first | done | rfl | (simp only [List.length_drop, List.length_take]; rfl)) ?_
     with_reducible refine (spec_l01Var.calls k (a0_2.size : Int) t199 _ A7.out).mono ?_
     rintro e w17 ⟨rfl, hb⟩
     refine ⟨_, rfl, ?_⟩
     replace BK195 := bB BK195 hb
     replace HB := ak (below_step (lT HB (gC GE195 gN)) hb)
     (try clear hb)
     (try clear hb2)
     (try clear hk)
     (try clear hi)
     refine hK.out _ _ ⟨bc BK195 0, bc BK195 1, bc BK195 2⟩ (fun hHeld => ?_)
     clear hK K
     refine nm ?_
     refine pu 11 18 (fb 20 16383) HT_ ?_
     refine pu 14 21 (fb 20 32767) HT_ ?_
     refine on 15 (some 22) (fb 20 65535) HT_ (fun K hK => ?_)
     refine goes_ Try.func103 (by kernel_rfl) rfl #[.string (((t197 ++ t198) ++ t199) ++ a0_2)] (by rfl) rfl rfl (by (try simp only [List.map_toArray, List.map_cons, List.map_nil]); first | done | rfl | (simp only [List.length_drop, List.length_take]; rfl)) ?_
     with_reducible refine (spec_Sealed.calls k (((t197 ++ t198) ++ t199) ++ a0_2) t200 t201 _ A10.out).mono ?_
     rintro e w18 ⟨rfl, hb⟩
     refine ⟨_, rfl, ?_⟩
     replace BK195 := bB BK195 hb
     replace HB := ak (below_step (lT HB (gC GE195 gN)) hb)
     (try clear hb)
     (try clear hb2)
     (try clear hk)
     (try clear hi)
     refine hK.out _ _ ⟨bc BK195 0, bc BK195 1, bc BK195 2⟩ (fun hHeld => ?_)
     clear hK K
     refine nm ?_
     refine pu 16 23 (fb 20 131071) HT_ ?_
     refine pu 17 24 (fb 20 262143) HT_ ?_
     refine pu 18 2 (fb 20 524287) HT_ ?_
     refine pu 19 3 (fb 20 1048575) HT_ ?_
     refine done_ (done_of HT_.out (by kernel_rfl)) ?_
     try go_wp2
     go_ret2
     exact ⟨ew, by exact lT HB (gC GE195 gN)⟩
    ·rw [if_neg c9] at H
     exact absurd H (by simp)
   ·rw [if_neg c8] at H
    exact absurd H (by simp)
  ·rw [if_neg c6] at H
   exact absurd H (by simp)
 ·replace c3 := Bool.eq_false_iff.mpr c3
  subst c3
  have H1 : (some ((⟨#[]⟩ : ByteArray), false)) = some (r1, r2) := by rw [if_neg (show ¬ (false = true) by decide)] at H; exact H
  clear H
  have H := H1
  clear H1
  simp only [Option.some.injEq, Prod.mk.injEq] at H
  obtain ⟨rfl, rfl⟩ := H
  go_enter Try.func91, Try.ntmps91
  go_wp2_with (first | ((with_reducible refine gate_dst (N := 1) rfl ?_); refine bx 1 #[.int .i64 a0_0, .int .i64 a0_1, .string a0_2] 77 ?_; intro gb195 hg w19 hbox hb; replace BK195 := ak (hbox); replace GW195 := ak (bz hg (lG HB)); replace GE195 := ak (bz hg (lG HB)); replace HB := lB HB hb; clear hb hbox hg; obtain ⟨hcz20_0, hcz20_1, hcz20_2, hfz20_0, hfz20_1, hfz20_2⟩ := bC3 BK195) | ((with_reducible refine gate_callee (f := 102) rfl ?_); refine gl (some 5) Try.func102 #[.agg #[.int .i64 a0_0, .int .i64 a0_1, .string a0_2]] ?_; (with_reducible refine (spec_FrameOk.calls a0_0 a0_1 a0_2 false _ A2.out).mono ?_); rintro e w21 ⟨rfl, hb⟩; refine ⟨_, rfl, ?_⟩; replace BK195 := bB BK195 hb; replace HB := ak (below_step (lT HB (gC GE195 gN)) hb); (try clear hb); (try clear hk)))
  go_ret2
  exact ⟨ew, by exact lT HB (gC GE195 gN)⟩

/-! ### spec_ReadFrame: function 69 -/
def spec_ReadFrame.j0 : Nat → ByteArray → Int → Int → Bool → Int → Int → ByteArray → Option (Int × Int × ByteArray × Int × Bool)
 | 0, _, _, _, _, _, _, _ => none
 | k + 1, x0, x1, x14, x64, x213000, x213001, x213002 => if x64 = true then (some (0, 0, (⟨#[]⟩ : ByteArray), 0, false)) else ((spec_FrameText.f k x213000 x213001 x213002).bind fun bt213 => (if bt213.2 = true then (if 0 ≤ x1 then (if x1 ≤ (wrap64 (x14 + 4)) then (if (wrap64 (x14 + 4)) ≤ (x0.size : Int) then (if bt213.1.toList = (x0.extract (x1 : Int).toNat ((wrap64 (x14 + 4)) : Int).toNat).toList then (some (x213000, x213001, x213002, wrap64 (x14 + 4), true)) else (some (0, 0, (⟨#[]⟩ : ByteArray), 0, false))) else (none)) else (none)) else (none)) else (some (0, 0, (⟨#[]⟩ : ByteArray), 0, false))))
def spec_ReadFrame.f (k : Nat) (a0 : ByteArray) (a1 : Int) : Option (Int × Int × ByteArray × Int × Bool) := (spec_ReadVar.f k a0 a1).bind fun bt203 => ((spec_ReadVar.f k a0 bt203.2.1).bind fun bt206 => ((spec_ReadShort.f k a0 bt206.2.1).bind fun bt209 => (if bt203.2.2 = true then (if bt206.2.2 = true then (if bt209.2.2 = true then (if bt209.2.1 > (wrap64 ((a0.size : Int) - 4)) then (spec_ReadFrame.j0 k a0 a1 bt209.2.1 true bt203.1 bt206.1 bt209.1) else (spec_ReadFrame.j0 k a0 a1 bt209.2.1 (decide (a1 < 0)) bt203.1 bt206.1 bt209.1)) else (spec_ReadFrame.j0 k a0 a1 bt209.2.1 true bt203.1 bt206.1 bt209.1)) else (spec_ReadFrame.j0 k a0 a1 bt209.2.1 true bt203.1 bt206.1 bt209.1)) else (spec_ReadFrame.j0 k a0 a1 bt209.2.1 true bt203.1 bt206.1 bt209.1))))
theorem spec_ReadFrame.mono_l : ∀ k, (∀ y0 y1 y2 y3 y4 y5 y6, LeO (spec_ReadFrame.j0 k y0 y1 y2 y3 y4 y5 y6) (spec_ReadFrame.j0 (k + 1) y0 y1 y2 y3 y4 y5 y6))
 | 0 => fun _ _ _ _ _ _ _ r h => by simp [spec_ReadFrame.j0] at h
 | k + 1 => by
  have ih0 := spec_ReadFrame.mono_l k
  ·intro y0 y1 y2 y3 y4 y5 y6
   unfold spec_ReadFrame.j0
   repeat' first
   | (with_reducible exact ih0 _ _ _ _ _ _ _)
   | (with_reducible exact spec_FrameText.mono _ _ _ _)
   | (with_reducible exact spec_ReadShort.mono _ _ _)
   | (with_reducible exact spec_ReadVar.mono _ _ _)
   | (with_reducible exact LeO.refl _)
   | (with_reducible exact LeO.none _)
   | (with_reducible refine LeO.ite ?_ ?_)
   | (with_reducible refine LeO.bind ?_ (fun _ => ?_))
   | exact ih0 _ _ _ _ _ _ _
   | exact spec_FrameText.mono _ _ _ _
   | exact spec_ReadShort.mono _ _ _
   | exact spec_ReadVar.mono _ _ _
   | exact LeO.none _
   | refine LeO.ite ?_ ?_
   | refine LeO.bind ?_ (fun _ => ?_)
theorem spec_ReadFrame.mono : ∀ a0 a1 k, LeO (spec_ReadFrame.f k a0 a1) (spec_ReadFrame.f (k + 1) a0 a1) := by
 intro a0 a1 k
 have ih0 := spec_ReadFrame.mono_l k
 unfold spec_ReadFrame.f
 repeat' first
   | (with_reducible exact ih0 _ _ _ _ _ _ _)
   | (with_reducible exact spec_FrameText.mono _ _ _ _)
   | (with_reducible exact spec_ReadShort.mono _ _ _)
   | (with_reducible exact spec_ReadVar.mono _ _ _)
   | (with_reducible exact LeO.refl _)
   | (with_reducible exact LeO.none _)
   | (with_reducible refine LeO.ite ?_ ?_)
   | (with_reducible refine LeO.bind ?_ (fun _ => ?_))
   | exact ih0 _ _ _ _ _ _ _
   | exact spec_FrameText.mono _ _ _ _
   | exact spec_ReadShort.mono _ _ _
   | exact spec_ReadVar.mono _ _ _
   | exact LeO.none _
   | refine LeO.ite ?_ ?_
   | refine LeO.bind ?_ (fun _ => ?_)
set_option maxHeartbeats 8000000 in
set_option maxRecDepth 100000 in
theorem spec_ReadFrame.calls (k : Nat) (a0 : ByteArray) (a1 : Int) (r1 : Int) (r2 : Int) (r3 : ByteArray) (r4 : Int) (r5 : Bool) (w : World) (h : spec_ReadFrame.f k a0 a1 = some (r1, r2, r3, r4, r5)) :
  Calls Try.prog 69 #[.string a0, .int .i64 a1] w fun e w' => e = .returned (.tuple #[.agg #[.int .i64 r1, .int .i64 r2, .string r3], .int .i64 r4, .bool r5]) ∧ Below w.heap.size w w' := by
 have hu77 := Try.underlying77
 have HB := ak (Below.refl w.heap.size w)
 have H : ((spec_ReadVar.f k a0 a1).bind fun bt203 => ((spec_ReadVar.f k a0 bt203.2.1).bind fun bt206 => ((spec_ReadShort.f k a0 bt206.2.1).bind fun bt209 => (if bt203.2.2 = true then (if bt206.2.2 = true then (if bt209.2.2 = true then (if bt209.2.1 > (wrap64 ((a0.size : Int) - 4)) then (spec_ReadFrame.j0 k a0 a1 bt209.2.1 true bt203.1 bt206.1 bt209.1) else (spec_ReadFrame.j0 k a0 a1 bt209.2.1 (decide (a1 < 0)) bt203.1 bt206.1 bt209.1)) else (spec_ReadFrame.j0 k a0 a1 bt209.2.1 true bt203.1 bt206.1 bt209.1)) else (spec_ReadFrame.j0 k a0 a1 bt209.2.1 true bt203.1 bt206.1 bt209.1)) else (spec_ReadFrame.j0 k a0 a1 bt209.2.1 true bt203.1 bt206.1 bt209.1))))) = some (r1, r2, r3, r4, r5) := h
 clear h
 replace H := Option.bind_eq_some_iff.mp H
 obtain ⟨⟨t203, t204, t205⟩, A30, H⟩ := H
 replace H : ((spec_ReadVar.f k a0 t204).bind fun bt206 => ((spec_ReadShort.f k a0 bt206.2.1).bind fun bt209 => (if t205 = true then (if bt206.2.2 = true then (if bt209.2.2 = true then (if bt209.2.1 > (wrap64 ((a0.size : Int) - 4)) then (spec_ReadFrame.j0 k a0 a1 bt209.2.1 true t203 bt206.1 bt209.1) else (spec_ReadFrame.j0 k a0 a1 bt209.2.1 (decide (a1 < 0)) t203 bt206.1 bt209.1)) else (spec_ReadFrame.j0 k a0 a1 bt209.2.1 true t203 bt206.1 bt209.1)) else (spec_ReadFrame.j0 k a0 a1 bt209.2.1 true t203 bt206.1 bt209.1)) else (spec_ReadFrame.j0 k a0 a1 bt209.2.1 true t203 bt206.1 bt209.1)))) = some (r1, r2, r3, r4, r5) := H
 have A3 := Aside0.mk A30
 clear A30
 replace H := Option.bind_eq_some_iff.mp H
 obtain ⟨⟨t206, t207, t208⟩, A40, H⟩ := H
 replace H : ((spec_ReadShort.f k a0 t207).bind fun bt209 => (if t205 = true then (if t208 = true then (if bt209.2.2 = true then (if bt209.2.1 > (wrap64 ((a0.size : Int) - 4)) then (spec_ReadFrame.j0 k a0 a1 bt209.2.1 true t203 t206 bt209.1) else (spec_ReadFrame.j0 k a0 a1 bt209.2.1 (decide (a1 < 0)) t203 t206 bt209.1)) else (spec_ReadFrame.j0 k a0 a1 bt209.2.1 true t203 t206 bt209.1)) else (spec_ReadFrame.j0 k a0 a1 bt209.2.1 true t203 t206 bt209.1)) else (spec_ReadFrame.j0 k a0 a1 bt209.2.1 true t203 t206 bt209.1))) = some (r1, r2, r3, r4, r5) := H
 have A4 := Aside0.mk A40
 clear A40
 replace H := Option.bind_eq_some_iff.mp H
 obtain ⟨⟨t209, t210, t211⟩, A50, H⟩ := H
 replace H : (if t205 = true then (if t208 = true then (if t211 = true then (if t210 > (wrap64 ((a0.size : Int) - 4)) then (spec_ReadFrame.j0 k a0 a1 t210 true t203 t206 t209) else (spec_ReadFrame.j0 k a0 a1 t210 (decide (a1 < 0)) t203 t206 t209)) else (spec_ReadFrame.j0 k a0 a1 t210 true t203 t206 t209)) else (spec_ReadFrame.j0 k a0 a1 t210 true t203 t206 t209)) else (spec_ReadFrame.j0 k a0 a1 t210 true t203 t206 t209)) = some (r1, r2, r3, r4, r5) := H
 have A5 := Aside0.mk A50
 clear A50
 have HC6 := Aside0.mk H
 clear H
 go_enter Try.func69, Try.ntmps69
 go_upto_region 5 with (first | ((with_reducible refine gate_dst (N := 4) rfl ?_); (try (refine gate_guard (by rfl) ?_; dsimp only)); refine bx 4 #[.int .i64 0, .int .i64 0, .string (⟨#[]⟩ : ByteArray)] 77 ?_; intro gb202 hg w7 hbox hb; replace BK202 := ak (hbox); replace GW202 := ak (bz hg (lG HB)); replace GE202 := ak (bz hg (lG HB)); replace HB := lB HB hb; clear hb hbox hg) | ((with_reducible refine gate_callee (f := 89) rfl ?_); refine gl (some 22) Try.func89 #[.string a0, .int .i64 a1] ?_; (with_reducible refine (spec_ReadVar.calls k a0 a1 t203 t204 t205 _ A3.out).mono ?_); rintro e w8 ⟨rfl, hb⟩; refine ⟨_, rfl, ?_⟩; replace BK202 := bB BK202 hb; replace HB := ak (below_step (lT HB (gC GE202 gN)) hb); (try clear hb); (try clear hk)) | ((with_reducible refine gate_callee (f := 89) rfl ?_); refine gl (some 29) Try.func89 #[.string a0, .int .i64 t204] ?_; (with_reducible refine (spec_ReadVar.calls k a0 t204 t206 t207 t208 _ A4.out).mono ?_); rintro e w9 ⟨rfl, hb⟩; refine ⟨_, rfl, ?_⟩; replace BK202 := bB BK202 hb; replace HB := ak (below_step (lT HB (gC GE202 gN)) hb); (try clear hb); (try clear hk)) | ((with_reducible refine gate_callee (f := 90) rfl ?_); refine gl (some 36) Try.func90 #[.string a0, .int .i64 t207] ?_; (with_reducible refine (spec_ReadShort.calls k a0 t207 t209 t210 t211 _ A5.out).mono ?_); rintro e w10 ⟨rfl, hb⟩; refine ⟨_, rfl, ?_⟩; replace BK202 := bB BK202 hb; replace HB := ak (below_step (lT HB (gC GE202 gN)) hb); (try clear hb); (try clear hk)) | ((with_reducible refine gate_dst (N := 16) rfl ?_); (try (refine gate_guard (by rfl) ?_; dsimp only)); refine bx 16 #[.int .i64 0, .int .i64 0, .string (⟨#[]⟩ : ByteArray)] 77 ?_; intro gb212 hg w11 hbox hb; replace BK212 := ak (hbox); replace GW212 := ak (bz hg (lT HB (gC GE202 gN))); replace GE212 := ak (bz hg (lT HB (gC GE202 gN))); replace HB := ak (below_step (lT HB (gC GE202 gN)) hb); replace NB202_212 := ak (nl hg (bG BK202)); replace NB212_202 := ak (ng hg (bG BK202)); replace BK202 := bB BK202 hb; clear hb hbox hg; have hnb12 := NB212_202.out; have hnc12 := NB202_212.out; obtain ⟨hcz13_0, hcz13_1, hcz13_2, hfz13_0, hfz13_1, hfz13_2⟩ := bC3 BK212))
 (try simp only [Act.put, List.setIfInBounds_toArray, List.set_cons_zero, List.set_cons_succ])
 go_cut [64] (fun v64 wc => ∃ (kq : Nat) (x64_5 : Bool), v64 = .bool x64_5 ∧ Aside0 (spec_ReadFrame.j0 kq a0 a1 t210 x64_5 t203 t206 t209 = some (r1, r2, r3, r4, r5)) ∧ Aside0 (kq ≤ k) ∧ Aside0 (wc.heap[gb202]? = some (.cells #[.int .i64 0, .int .i64 0, .string (⟨#[]⟩ : ByteArray)] 77 (0, 0))) ∧ Aside0 (wc.heap[gb212]? = some (.cells #[.int .i64 t203, .int .i64 t206, .string t209] 77 (0, 0))) ∧ Aside0 (Below w.heap.size w wc))
 case first =>
  have H := HC6.out
  clear HC6
  by_cases c14 : t205 = true
  ·subst c14
   have H1 : (if t208 = true then (if t211 = true then (if t210 > (wrap64 ((a0.size : Int) - 4)) then (spec_ReadFrame.j0 k a0 a1 t210 true t203 t206 t209) else (spec_ReadFrame.j0 k a0 a1 t210 (decide (a1 < 0)) t203 t206 t209)) else (spec_ReadFrame.j0 k a0 a1 t210 true t203 t206 t209)) else (spec_ReadFrame.j0 k a0 a1 t210 true t203 t206 t209)) = some (r1, r2, r3, r4, r5) := by rw [if_pos rfl] at H; exact H
   clear H
   have H := H1
   clear H1
   by_cases c15 : t208 = true
   ·subst c15
    have H1 : (if t211 = true then (if t210 > (wrap64 ((a0.size : Int) - 4)) then (spec_ReadFrame.j0 k a0 a1 t210 true t203 t206 t209) else (spec_ReadFrame.j0 k a0 a1 t210 (decide (a1 < 0)) t203 t206 t209)) else (spec_ReadFrame.j0 k a0 a1 t210 true t203 t206 t209)) = some (r1, r2, r3, r4, r5) := by rw [if_pos rfl] at H; exact H
    clear H
    have H := H1
    clear H1
    by_cases c16 : t211 = true
    ·subst c16
     have H1 : (if t210 > (wrap64 ((a0.size : Int) - 4)) then (spec_ReadFrame.j0 k a0 a1 t210 true t203 t206 t209) else (spec_ReadFrame.j0 k a0 a1 t210 (decide (a1 < 0)) t203 t206 t209)) = some (r1, r2, r3, r4, r5) := by rw [if_pos rfl] at H; exact H
     clear H
     have H := H1
     clear H1
     by_cases c17 : t210 > (wrap64 ((a0.size : Int) - 4))
     ·rw [if_pos c17] at H
      have c17b0 : decide ((wrap64 ((a0.size : Int) - 4)) < t210) = true := decide_eq_true c17
      clear c17
      (first | rw [c17b0] | (simp only [i64_w, i32_w]; rw [c17b0]) | skip)
      have H' := Aside0.mk H
      clear H
      go_wp2
      go_meet
      case rel => exact ⟨_, (true), (by first | rfl | (simp; done) | (simp [*]; done)), H', ⟨by first | omega | exact Nat.le_refl _⟩, ⟨by (with_reducible repeat (first | refine blk_drewN ?_ _ | refine blk_drew ?_ | refine blk_alloc ?_ _)); refine blk_far ?_ NB202_212.out _; (with_reducible repeat (first | refine blk_drewN ?_ _ | refine blk_drew ?_ | refine blk_alloc ?_ _)); refine blk_far ?_ NB202_212.out _; (with_reducible repeat (first | refine blk_drewN ?_ _ | refine blk_drew ?_ | refine blk_alloc ?_ _)); refine blk_far ?_ NB202_212.out _; (with_reducible repeat (first | refine blk_drewN ?_ _ | refine blk_drew ?_ | refine blk_alloc ?_ _)); exact BK202.out⟩, ⟨bW BK212⟩, ⟨by exact lT HB (gC GE202 (gC GE212 gN))⟩⟩
     ·rw [if_neg c17] at H
      have c17b0 : decide ((wrap64 ((a0.size : Int) - 4)) < t210) = false := decide_eq_false c17
      clear c17
      (first | rw [c17b0] | (simp only [i64_w, i32_w]; rw [c17b0]) | skip)
      have H' := Aside0.mk H
      clear H
      go_wp2
      go_meet
      case rel => exact ⟨_, (decide (a1 < 0)), (by first | rfl | (simp; done) | (simp [*]; done)), H', ⟨by first | omega | exact Nat.le_refl _⟩, ⟨by (with_reducible repeat (first | refine blk_drewN ?_ _ | refine blk_drew ?_ | refine blk_alloc ?_ _)); refine blk_far ?_ NB202_212.out _; (with_reducible repeat (first | refine blk_drewN ?_ _ | refine blk_drew ?_ | refine blk_alloc ?_ _)); refine blk_far ?_ NB202_212.out _; (with_reducible repeat (first | refine blk_drewN ?_ _ | refine blk_drew ?_ | refine blk_alloc ?_ _)); refine blk_far ?_ NB202_212.out _; (with_reducible repeat (first | refine blk_drewN ?_ _ | refine blk_drew ?_ | refine blk_alloc ?_ _)); exact BK202.out⟩, ⟨bW BK212⟩, ⟨by exact lT HB (gC GE202 (gC GE212 gN))⟩⟩
    ·replace c16 := Bool.eq_false_iff.mpr c16
     subst c16
     have H1 : (spec_ReadFrame.j0 k a0 a1 t210 true t203 t206 t209) = some (r1, r2, r3, r4, r5) := by rw [if_neg (show ¬ (false = true) by decide)] at H; exact H
     clear H
     have H := H1
     clear H1
     have H' := Aside0.mk H
     clear H
     go_wp2
     go_meet
     case rel => exact ⟨_, (true), (by first | rfl | (simp; done) | (simp [*]; done)), H', ⟨by first | omega | exact Nat.le_refl _⟩, ⟨by (with_reducible repeat (first | refine blk_drewN ?_ _ | refine blk_drew ?_ | refine blk_alloc ?_ _)); refine blk_far ?_ NB202_212.out _; (with_reducible repeat (first | refine blk_drewN ?_ _ | refine blk_drew ?_ | refine blk_alloc ?_ _)); refine blk_far ?_ NB202_212.out _; (with_reducible repeat (first | refine blk_drewN ?_ _ | refine blk_drew ?_ | refine blk_alloc ?_ _)); refine blk_far ?_ NB202_212.out _; (with_reducible repeat (first | refine blk_drewN ?_ _ | refine blk_drew ?_ | refine blk_alloc ?_ _)); exact BK202.out⟩, ⟨bW BK212⟩, ⟨by exact lT HB (gC GE202 (gC GE212 gN))⟩⟩
   ·replace c15 := Bool.eq_false_iff.mpr c15
    subst c15
    have H1 : (spec_ReadFrame.j0 k a0 a1 t210 true t203 t206 t209) = some (r1, r2, r3, r4, r5) := by rw [if_neg (show ¬ (false = true) by decide)] at H; exact H
    clear H
    have H := H1
    clear H1
    have H' := Aside0.mk H
    clear H
    go_wp2
    go_meet
    case rel => exact ⟨_, (true), (by first | rfl | (simp; done) | (simp [*]; done)), H', ⟨by first | omega | exact Nat.le_refl _⟩, ⟨by (with_reducible repeat (first | refine blk_drewN ?_ _ | refine blk_drew ?_ | refine blk_alloc ?_ _)); refine blk_far ?_ NB202_212.out _; (with_reducible repeat (first | refine blk_drewN ?_ _ | refine blk_drew ?_ | refine blk_alloc ?_ _)); refine blk_far ?_ NB202_212.out _; (with_reducible repeat (first | refine blk_drewN ?_ _ | refine blk_drew ?_ | refine blk_alloc ?_ _)); refine blk_far ?_ NB202_212.out _; (with_reducible repeat (first | refine blk_drewN ?_ _ | refine blk_drew ?_ | refine blk_alloc ?_ _)); exact BK202.out⟩, ⟨bW BK212⟩, ⟨by exact lT HB (gC GE202 (gC GE212 gN))⟩⟩
  ·replace c14 := Bool.eq_false_iff.mpr c14
   subst c14
   have H1 : (spec_ReadFrame.j0 k a0 a1 t210 true t203 t206 t209) = some (r1, r2, r3, r4, r5) := by rw [if_neg (show ¬ (false = true) by decide)] at H; exact H
   clear H
   have H := H1
   clear H1
   have H' := Aside0.mk H
   clear H
   go_wp2
   go_meet
   case rel => exact ⟨_, (true), (by first | rfl | (simp; done) | (simp [*]; done)), H', ⟨by first | omega | exact Nat.le_refl _⟩, ⟨by (with_reducible repeat (first | refine blk_drewN ?_ _ | refine blk_drew ?_ | refine blk_alloc ?_ _)); refine blk_far ?_ NB202_212.out _; (with_reducible repeat (first | refine blk_drewN ?_ _ | refine blk_drew ?_ | refine blk_alloc ?_ _)); refine blk_far ?_ NB202_212.out _; (with_reducible repeat (first | refine blk_drewN ?_ _ | refine blk_drew ?_ | refine blk_alloc ?_ _)); refine blk_far ?_ NB202_212.out _; (with_reducible repeat (first | refine blk_drewN ?_ _ | refine blk_drew ?_ | refine blk_alloc ?_ _)); exact BK202.out⟩, ⟨bW BK212⟩, ⟨by exact lT HB (gC GE202 (gC GE212 gN))⟩⟩
 case rest =>
  clear HC6
  try clear c1
  try clear p2
  try clear c6
  try clear p6
  try clear c8
  try clear c9
  try clear c12
  try clear c14
  try clear c15
  try clear c16
  try clear c17
  try clear c17b0
  try clear hcz13_0
  try clear hcz13_1
  try clear hcz13_2
  try clear hfz13_0
  try clear hfz13_1
  try clear hfz13_2
  obtain ⟨kq, x64_5, rfl, HA, HJ5, BK202, BK212, HB⟩ := hcut
  cases kq with
  | zero => exact absurd HA.out (by simp [spec_ReadFrame.j0])
  | succ kj5 =>
   have H := HA.out
   clear HA
   simp only [spec_ReadFrame.j0] at H
   by_cases c18 : x64_5 = true
   ·subst c18
    have H1 : (some (0, 0, (⟨#[]⟩ : ByteArray), 0, false)) = some (r1, r2, r3, r4, r5) := by rw [if_pos rfl] at H; exact H
    clear H
    have H := H1
    clear H1
    simp only [Option.some.injEq, Prod.mk.injEq] at H
    obtain ⟨rfl, rfl, rfl, rfl, rfl⟩ := H
    have hnb19 := NB202_212.out
    have hnc19 := NB212_202.out
    obtain ⟨hcz20_0, hcz20_1, hcz20_2, hfz20_0, hfz20_1, hfz20_2⟩ := bC3 BK202
    go_wp2
    refine bodyPost_ret (results_ctt rfl _ _ gb202 77 #[.int .i64 0, .int .i64 0, .string (⟨#[]⟩ : ByteArray)] (0, 0) _ rfl (bW BK202) Try.underlying77 rfl (by kernel_rfl)) rfl ?_
    exact ⟨ew, by exact lT HB (gC GE202 (gC GE212 gN))⟩
   ·replace c18 := Bool.eq_false_iff.mpr c18
    subst c18
    have H1 : ((spec_FrameText.f kj5 t203 t206 t209).bind fun bt213 => (if bt213.2 = true then (if 0 ≤ a1 then (if a1 ≤ (wrap64 (t210 + 4)) then (if (wrap64 (t210 + 4)) ≤ (a0.size : Int) then (if bt213.1.toList = (a0.extract (a1 : Int).toNat ((wrap64 (t210 + 4)) : Int).toNat).toList then (some (t203, t206, t209, wrap64 (t210 + 4), true)) else (some (0, 0, (⟨#[]⟩ : ByteArray), 0, false))) else (none)) else (none)) else (none)) else (some (0, 0, (⟨#[]⟩ : ByteArray), 0, false)))) = some (r1, r2, r3, r4, r5) := by rw [if_neg (show ¬ (false = true) by decide)] at H; exact H
    clear H
    have H := H1
    clear H1
    replace H := Option.bind_eq_some_iff.mp H
    obtain ⟨⟨t213, t214⟩, A210, H⟩ := H
    replace H : (if t214 = true then (if 0 ≤ a1 then (if a1 ≤ (wrap64 (t210 + 4)) then (if (wrap64 (t210 + 4)) ≤ (a0.size : Int) then (if t213.toList = (a0.extract (a1 : Int).toNat ((wrap64 (t210 + 4)) : Int).toNat).toList then (some (t203, t206, t209, wrap64 (t210 + 4), true)) else (some (0, 0, (⟨#[]⟩ : ByteArray), 0, false))) else (none)) else (none)) else (none)) else (some (0, 0, (⟨#[]⟩ : ByteArray), 0, false))) = some (r1, r2, r3, r4, r5) := H
    have A21 := Aside0.mk A210
    clear A210
    by_cases c22 : t214 = true
    ·subst c22
     have H1 : (if 0 ≤ a1 then (if a1 ≤ (wrap64 (t210 + 4)) then (if (wrap64 (t210 + 4)) ≤ (a0.size : Int) then (if t213.toList = (a0.extract (a1 : Int).toNat ((wrap64 (t210 + 4)) : Int).toNat).toList then (some (t203, t206, t209, wrap64 (t210 + 4), true)) else (some (0, 0, (⟨#[]⟩ : ByteArray), 0, false))) else (none)) else (none)) else (none)) = some (r1, r2, r3, r4, r5) := by rw [if_pos rfl] at H; exact H
     clear H
     have H := H1
     clear H1
     by_cases c23 : 0 ≤ a1
     ·rw [if_pos c23] at H
      have c23b0 := eq_true c23
      have c23b1 : decide (0 ≤ a1) = true := decide_eq_true c23
      clear c23
      by_cases c24 : a1 ≤ (wrap64 (t210 + 4))
      ·rw [if_pos c24] at H
       have c24b0 := eq_true c24
       have c24b1 : decide (a1 ≤ (wrap64 (t210 + 4))) = true := decide_eq_true c24
       by_cases c25 : (wrap64 (t210 + 4)) ≤ (a0.size : Int)
       ·rw [if_pos c25] at H
        have c25b0 := eq_true c25
        have c25b1 : decide ((wrap64 (t210 + 4)) ≤ (a0.size : Int)) = true := decide_eq_true c25
        by_cases c26 : t213.toList = (a0.extract (a1 : Int).toNat ((wrap64 (t210 + 4)) : Int).toNat).toList
        ·rw [if_pos c26] at H
         have c26b0 : (t213.toList == (a0.extract (a1 : Int).toNat ((wrap64 (t210 + 4)) : Int).toNat).toList) = true := beq_iff_eq.mpr c26
         have c26b1 : (t213.toList != (a0.extract (a1 : Int).toNat ((wrap64 (t210 + 4)) : Int).toNat).toList) = false := bne_eq_false_iff_eq.mpr c26
         clear c26
         simp only [Option.some.injEq, Prod.mk.injEq] at H
         obtain ⟨rfl, rfl, rfl, rfl, rfl⟩ := H
         have hnb27 := NB212_202.out
         have hnc27 := NB202_212.out
         obtain ⟨hcz28_0, hcz28_1, hcz28_2, hfz28_0, hfz28_1, hfz28_2⟩ := bC3 BK212
         go_wp2_with (first | ((with_reducible refine gate_callee (f := 91) rfl ?_); refine gl (some 68) Try.func91 #[.agg #[.int .i64 t203, .int .i64 t206, .string t209]] ?_; (with_reducible refine (spec_FrameText.calls kj5 t203 t206 t209 t213 true _ A21.out).mono ?_); rintro e w29 ⟨rfl, hb⟩; refine ⟨_, rfl, ?_⟩; replace BK202 := bB BK202 hb; replace BK212 := bB BK212 hb; replace HB := ak (below_step (lT HB (gC GE202 (gC GE212 gN))) hb); (try clear hb); (try clear hk); obtain ⟨hcz30_0, hcz30_1, hcz30_2, hfz30_0, hfz30_1, hfz30_2⟩ := bC3 BK212; obtain ⟨hcz31_0, hcz31_1, hcz31_2, hfz31_0, hfz31_1, hfz31_2⟩ := bC3 BK202))
         refine bodyPost_ret (results_ctt rfl _ _ gb202 77 #[.int .i64 t203, .int .i64 t206, .string t209] (0, 0) _ rfl (bW BK202) Try.underlying77 rfl (by kernel_rfl)) rfl ?_
         exact ⟨ew, by exact lT HB (gC GE202 (gC GE212 gN))⟩
        ·rw [if_neg c26] at H
         have c26b0 : (t213.toList == (a0.extract (a1 : Int).toNat ((wrap64 (t210 + 4)) : Int).toNat).toList) = false := beq_eq_false_iff_ne.mpr c26
         have c26b1 : (t213.toList != (a0.extract (a1 : Int).toNat ((wrap64 (t210 + 4)) : Int).toNat).toList) = true := bne_iff_ne.mpr c26
         simp only [Option.some.injEq, Prod.mk.injEq] at H
         obtain ⟨rfl, rfl, rfl, rfl, rfl⟩ := H
         have hnb32 := NB212_202.out
         have hnc32 := NB202_212.out
         obtain ⟨hcz33_0, hcz33_1, hcz33_2, hfz33_0, hfz33_1, hfz33_2⟩ := bC3 BK212
         go_wp2_with (first | ((with_reducible refine gate_callee (f := 91) rfl ?_); refine gl (some 68) Try.func91 #[.agg #[.int .i64 t203, .int .i64 t206, .string t209]] ?_; (with_reducible refine (spec_FrameText.calls kj5 t203 t206 t209 t213 true _ A21.out).mono ?_); rintro e w34 ⟨rfl, hb⟩; refine ⟨_, rfl, ?_⟩; replace BK202 := bB BK202 hb; replace BK212 := bB BK212 hb; replace HB := ak (below_step (lT HB (gC GE202 (gC GE212 gN))) hb); (try clear hb); (try clear hk); obtain ⟨hcz35_0, hcz35_1, hcz35_2, hfz35_0, hfz35_1, hfz35_2⟩ := bC3 BK202))
         refine bodyPost_ret (results_ctt rfl _ _ gb202 77 #[.int .i64 0, .int .i64 0, .string (⟨#[]⟩ : ByteArray)] (0, 0) _ rfl (bW BK202) Try.underlying77 rfl (by kernel_rfl)) rfl ?_
         exact ⟨ew, by exact lT HB (gC GE202 (gC GE212 gN))⟩
       ·rw [if_neg c25] at H
        exact absurd H (by simp)
      ·rw [if_neg c24] at H
       exact absurd H (by simp)
     ·rw [if_neg c23] at H
      exact absurd H (by simp)
    ·replace c22 := Bool.eq_false_iff.mpr c22
     subst c22
     have H1 : (some (0, 0, (⟨#[]⟩ : ByteArray), 0, false)) = some (r1, r2, r3, r4, r5) := by rw [if_neg (show ¬ (false = true) by decide)] at H; exact H
     clear H
     have H := H1
     clear H1
     simp only [Option.some.injEq, Prod.mk.injEq] at H
     obtain ⟨rfl, rfl, rfl, rfl, rfl⟩ := H
     have hnb36 := NB212_202.out
     have hnc36 := NB202_212.out
     obtain ⟨hcz37_0, hcz37_1, hcz37_2, hfz37_0, hfz37_1, hfz37_2⟩ := bC3 BK212
     go_wp2_with (first | ((with_reducible refine gate_callee (f := 91) rfl ?_); refine gl (some 68) Try.func91 #[.agg #[.int .i64 t203, .int .i64 t206, .string t209]] ?_; (with_reducible refine (spec_FrameText.calls kj5 t203 t206 t209 t213 false _ A21.out).mono ?_); rintro e w38 ⟨rfl, hb⟩; refine ⟨_, rfl, ?_⟩; replace BK202 := bB BK202 hb; replace BK212 := bB BK212 hb; replace HB := ak (below_step (lT HB (gC GE202 (gC GE212 gN))) hb); (try clear hb); (try clear hk); obtain ⟨hcz39_0, hcz39_1, hcz39_2, hfz39_0, hfz39_1, hfz39_2⟩ := bC3 BK202))
     refine bodyPost_ret (results_ctt rfl _ _ gb202 77 #[.int .i64 0, .int .i64 0, .string (⟨#[]⟩ : ByteArray)] (0, 0) _ rfl (bW BK202) Try.underlying77 rfl (by kernel_rfl)) rfl ?_
     exact ⟨ew, by exact lT HB (gC GE202 (gC GE212 gN))⟩

end Go.Proofs.Ytdnjjdmlmfoljaa.PFnExactSegFrames
