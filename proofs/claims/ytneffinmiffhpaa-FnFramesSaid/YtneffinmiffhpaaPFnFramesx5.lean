-- Written for this claim by a program of mine (a turned copy of the kit's print): functions as plain Lean, and their contracts. Lean checks it.
import Derived.Test.YtneffinmiffhpaaPFnFramesx0
import Derived.Test.YtneffinmiffhpaaPFnFramesx1
import Derived.Test.YtneffinmiffhpaaPFnFramesx2
import Derived.Test.YtneffinmiffhpaaPFnFramesx3
import Derived.Test.YtneffinmiffhpaaPFnFramesx4
import Derived.Test.YtneffinmiffhpaaVFnFrames1
namespace Go.Proofs.Ytneffinmiffhpaa.PFnFrames
open Go.RowKit Go.Proofs.YtneffinmiffhpaaW.PrintWords Go.Proofs.YtneffinmiffhpaaW.PrintLast Go.Proofs.YtneffinmiffhpaaW.PrintMore
attribute [local go_sem] max2_int min2_int max_two min_two max_three min_three max_four min_four   -- for this text's walks alone
set_option linter.unusedVariables false
set_option linter.unusedSimpArgs false

attribute [local go_sem high] eqA47
/-! ### laws_sameFrames: function 43 -/
def laws_sameFrames.l0 : Nat → List (S47) → List (S47) → Int → Option (Bool)
 | 0, _, _, _ => none
 | k + 1, x0, x1, x5 => if x5 < (x0.length : Int) then (if 0 ≤ x5 then (if x5 < (x1.length : Int) then (if (!(((rd_T47 x0 x5).f0) == ((rd_T47 x1 x5).f0)) || (!(((rd_T47 x0 x5).f1) == ((rd_T47 x1 x5).f1)) || (!((((rd_T47 x0 x5).f2).toList) == (((rd_T47 x1 x5).f2).toList))))) = true then (some false) else (laws_sameFrames.l0 k x0 x1 (wrap64 (x5 + 1)))) else (none)) else (none)) else (some true)
def laws_sameFrames.f (k : Nat) (l0 : List (S47)) (l1 : List (S47)) : Option (Bool) := if (l0.length : Int) = (l1.length : Int) then (laws_sameFrames.l0 k l0 l1 0) else (some false)
theorem laws_sameFrames.mono_l : ∀ k, (∀ y0 y1 y2, LeO (laws_sameFrames.l0 k y0 y1 y2) (laws_sameFrames.l0 (k + 1) y0 y1 y2))
 | 0 => fun _ _ _ r h => by simp [laws_sameFrames.l0] at h
 | k + 1 => by
  have ih0 := laws_sameFrames.mono_l k
  ·intro y0 y1 y2
   unfold laws_sameFrames.l0
   repeat' first
   | (with_reducible exact ih0 _ _ _)
   | (with_reducible exact LeO.refl _)
   | (with_reducible exact LeO.none _)
   | (with_reducible refine LeO.ite ?_ ?_)
   | (with_reducible refine LeO.bind ?_ (fun _ => ?_))
   | exact ih0 _ _ _
   | exact LeO.none _
   | refine LeO.ite ?_ ?_
   | refine LeO.bind ?_ (fun _ => ?_)
theorem laws_sameFrames.mono : ∀ a0 a1 k, LeO (laws_sameFrames.f k a0 a1) (laws_sameFrames.f (k + 1) a0 a1) := by
 intro a0 a1 k
 have ih0 := laws_sameFrames.mono_l k
 unfold laws_sameFrames.f
 repeat' first
   | (with_reducible exact ih0 _ _ _)
   | (with_reducible exact LeO.refl _)
   | (with_reducible exact LeO.none _)
   | (with_reducible refine LeO.ite ?_ ?_)
   | (with_reducible refine LeO.bind ?_ (fun _ => ?_))
   | exact ih0 _ _ _
   | exact LeO.none _
   | refine LeO.ite ?_ ?_
   | refine LeO.bind ?_ (fun _ => ?_)
set_option maxHeartbeats 8000000 in
set_option maxRecDepth 100000 in
theorem laws_sameFrames.calls (k : Nat) (A0 : Option Addr) (c0 : Nat) (l0 : List (S47)) (A1 : Option Addr) (c1 : Nat) (l1 : List (S47)) (r : Bool) (w : World) (hr0 : Kd.C k47 w A0 l0.length l0) (hc0 : l0.length ≤ c0) (hr1 : Kd.C k47 w A1 l1.length l1) (hc1 : l1.length ≤ c1) (h : laws_sameFrames.f k l0 l1 = some r) :
  Calls Try.prog 43 #[.slice A0 l0.length c0, .slice A1 l1.length c1] w fun e w' => e = .returned (.bool r) ∧ Drawn0 w w' := by
 have hu47 := Try.underlying47
 have HR0 := Aside0.mk hr0
 have HC0 := Aside0.mk hc0
 clear hr0 hc0
 have HR1 := Aside0.mk hr1
 have HC1 := Aside0.mk hc1
 clear hr1 hc1
 have H : (if (l0.length : Int) = (l1.length : Int) then (laws_sameFrames.l0 k l0 l1 0) else (some false)) = some r := h
 clear h
 by_cases c3 : (l0.length : Int) = (l1.length : Int)
 ·rw [if_pos c3] at H
  have c3b0 : ((l0.length : Int) == (l1.length : Int)) = true := beq_iff_eq.mpr c3
  have c3b1 : ((l0.length : Int) != (l1.length : Int)) = false := bne_eq_false_iff_eq.mpr c3
  have c3b2 : (l0.length == l1.length) = true := by first | simpa using c3 | (simp at c3 ⊢; omega)
  clear c3
  have H' := Aside0.mk H
  clear H
  go_enter Try.func43, Try.ntmps43
  go_wp2
  repeat (go_quiet (fail); try go_wp2)
  go_loopg [5] k (fun kq v5 w' => ∃ (x5_1 : Int), v5 = .int .i64 x5_1 ∧ Aside0 (laws_sameFrames.l0 kq l0 l1 x5_1 = some r) ∧ Aside0 (kq ≤ k) ∧ Drawn0 w w')
  case atStart => exact ⟨(0), (by first | rfl | (simp; done) | (simp [*]; done)), H', ⟨Nat.le_refl _⟩, by repeat (first | exact Drawn0.refl _ | apply Drawn0.step)⟩
  case round =>
   clear H'
   try clear c1
   try clear p2
   try clear c3
   try clear c3b0
   try clear c3b1
   try clear c3b2
   obtain ⟨x5_1, rfl, HA, HK1, ⟨m1, rfl⟩⟩ := hrel
   cases gk with
   | zero => exact absurd HA.out (by simp [laws_sameFrames.l0])
   | succ k1 =>
    have H := HA.out
    clear HA
    simp only [laws_sameFrames.l0] at H
    by_cases c4 : x5_1 < (l0.length : Int)
    ·rw [if_pos c4] at H
     have c4b0 : decide (x5_1 < (l0.length : Int)) = true := decide_eq_true c4
     clear c4
     by_cases c5 : 0 ≤ x5_1
     ·rw [if_pos c5] at H
      have c5b0 : decide (0 ≤ x5_1) = true := decide_eq_true c5
      clear c5
      by_cases c6 : x5_1 < (l1.length : Int)
      ·rw [if_pos c6] at H
       have c6b0 : decide (x5_1 < (l1.length : Int)) = true := decide_eq_true c6
       clear c6
       by_cases c7 : (!(((rd_T47 l0 x5_1).f0) == ((rd_T47 l1 x5_1).f0)) || (!(((rd_T47 l0 x5_1).f1) == ((rd_T47 l1 x5_1).f1)) || (!((((rd_T47 l0 x5_1).f2).toList) == (((rd_T47 l1 x5_1).f2).toList))))) = true
       ·rw [if_pos c7] at H
        have c7b0 : (!(((rd_T47 l0 x5_1).f0) == ((rd_T47 l1 x5_1).f0)) || (!(((rd_T47 l0 x5_1).f1) == ((rd_T47 l1 x5_1).f1)) || (!((((rd_T47 l0 x5_1).f2).toList) == (((rd_T47 l1 x5_1).f2).toList))))) = true := c7
        clear c7
        obtain rfl := Option.some.inj H
        have p236 : 0 ≤ (x5_1 : Int) := of_decide_eq_true (by first | (with_reducible assumption) | assumption)
        have q236 : x5_1 < (l0.length : Int) := of_decide_eq_true (by first | (with_reducible assumption) | assumption)
        obtain ⟨ad236, e236, hx236_0, hx236_1, hx236_2⟩ := at_T47 HR0.out x5_1 p236 q236
        cases e236
        replace p236 := eq_true p236
        replace q236 := eq_true q236
        have p237 : 0 ≤ (x5_1 : Int) := of_decide_eq_true (by first | (with_reducible assumption) | assumption)
        have q237 : x5_1 < (l1.length : Int) := of_decide_eq_true (by first | (with_reducible assumption) | assumption)
        obtain ⟨ad237, e237, hx237_0, hx237_1, hx237_2⟩ := at_T47 HR1.out x5_1 p237 q237
        cases e237
        replace p237 := eq_true p237
        replace q237 := eq_true q237
        go_wp2
        repeat (go_quiet (fail); try go_wp2)
        go_ret
        exact ⟨by first | rfl | (simp; done) | (simp [*]; done), by repeat (first | exact Drawn0.refl _ | apply Drawn0.step)⟩
       ·rw [if_neg c7] at H
        have c7b0 : (!(((rd_T47 l0 x5_1).f0) == ((rd_T47 l1 x5_1).f0)) || (!(((rd_T47 l0 x5_1).f1) == ((rd_T47 l1 x5_1).f1)) || (!((((rd_T47 l0 x5_1).f2).toList) == (((rd_T47 l1 x5_1).f2).toList))))) = false := by simpa using c7
        clear c7
        have H' := Aside0.mk H
        clear H
        have p236 : 0 ≤ (x5_1 : Int) := of_decide_eq_true (by first | (with_reducible assumption) | assumption)
        have q236 : x5_1 < (l0.length : Int) := of_decide_eq_true (by first | (with_reducible assumption) | assumption)
        obtain ⟨ad236, e236, hx236_0, hx236_1, hx236_2⟩ := at_T47 HR0.out x5_1 p236 q236
        cases e236
        replace p236 := eq_true p236
        replace q236 := eq_true q236
        have p237 : 0 ≤ (x5_1 : Int) := of_decide_eq_true (by first | (with_reducible assumption) | assumption)
        have q237 : x5_1 < (l1.length : Int) := of_decide_eq_true (by first | (with_reducible assumption) | assumption)
        obtain ⟨ad237, e237, hx237_0, hx237_1, hx237_2⟩ := at_T47 HR1.out x5_1 p237 q237
        cases e237
        replace p237 := eq_true p237
        replace q237 := eq_true q237
        go_wp2
        repeat (go_quiet (fail); try go_wp2)
        go_roundg k1
        case measure => have := HK1.out; omega
        case rel => exact ⟨(wrap64 (x5_1 + 1)), (by first | rfl | (simp; done) | (simp [*]; done)), H', ⟨by have := HK1.out; omega⟩, by repeat (first | exact Drawn0.refl _ | apply Drawn0.step)⟩
      ·rw [if_neg c6] at H
       exact absurd H (by simp)
     ·rw [if_neg c5] at H
      exact absurd H (by simp)
    ·rw [if_neg c4] at H
     have c4b0 : decide (x5_1 < (l0.length : Int)) = false := decide_eq_false c4
     clear c4
     obtain rfl := Option.some.inj H
     go_wp2
     repeat (go_quiet (fail); try go_wp2)
     go_ret
     exact ⟨by first | rfl | (simp; done) | (simp [*]; done), by repeat (first | exact Drawn0.refl _ | apply Drawn0.step)⟩
 ·rw [if_neg c3] at H
  have c3b0 : ((l0.length : Int) == (l1.length : Int)) = false := beq_eq_false_iff_ne.mpr c3
  have c3b1 : ((l0.length : Int) != (l1.length : Int)) = true := bne_iff_ne.mpr c3
  have c3b2 : (l0.length == l1.length) = false := by first | simpa using c3 | (simp at c3 ⊢; omega)
  obtain rfl := Option.some.inj H
  go_enter Try.func43, Try.ntmps43
  go_wp2
  repeat (go_quiet (fail); try go_wp2)
  go_ret
  exact ⟨by first | rfl | (simp; done) | (simp [*]; done), by repeat (first | exact Drawn0.refl _ | apply Drawn0.step)⟩

/-! ### laws_FnFrames: function 11 -/
mutual
def laws_FnFrames.l0 : Nat → List Int → List (S47) → ByteArray → List Int → Int → Option (Bool)
 | 0, _, _, _, _, _ => none
 | k + 1, x0, x3, x4, x5, x6 => if x6 < (x3.length : Int) then (if 0 ≤ x6 then ((impl_FrameText.f k ((rd_T47 x3 x6).f0) ((rd_T47 x3 x6).f1) ((rd_T47 x3 x6).f2)).bind fun bt246 => (if bt246.2 = true then ((impl_FrameSize.f k ((rd_T47 x3 x6).f0) ((rd_T47 x3 x6).f1) ((rd_T47 x3 x6).f2)).bind fun t249 => (if (bt246.1.size : Int) = t249 then (if x4.size + bt246.1.size ≤ 9223372036854775807 then (if x5.length < 17592186044416 then (laws_FnFrames.l0 k x0 x3 (x4 ++ bt246.1) (x5 ++ [((x4 ++ bt246.1).size : Int)]) (wrap64 (x6 + 1))) else (none)) else (none)) else (some false))) else (some false))) else (none)) else ((impl_ScanFrames.f k x4 3).bind fun bt253 => ((laws_sameFrames.f k bt253.1 x3).bind fun t257 => (if t257 = true then (laws_FnFrames.j1 k x0 x3 x4 x5 (bt253.2 != (x4.size : Int))) else (laws_FnFrames.j1 k x0 x3 x4 x5 true))))
def laws_FnFrames.j1 : Nat → List Int → List (S47) → ByteArray → List Int → Bool → Option (Bool)
 | 0, _, _, _, _, _ => none
 | k + 1, x0, x3, x4, x5, x67 => if x67 = true then (some false) else ((spec_DrawPlaces.f k x0).bind fun t258 => (if 0 < (t258.length : Int) then (if (wrap64 ((x4.size : Int) + 1)) = 0 then (none) else (if 0 ≤ (Int.tmod (rd t258 0) (wrap64 ((x4.size : Int) + 1))) then (if (Int.tmod (rd t258 0) (wrap64 ((x4.size : Int) + 1))) ≤ (x4.size : Int) then ((impl_ScanFrames.f k (x4.extract 0 ((Int.tmod (rd t258 0) (wrap64 ((x4.size : Int) + 1))) : Int).toNat) 3).bind fun bt262 => (if (bt262.1.length : Int) < (x5.length : Int) then (if 0 ≤ (bt262.1.length : Int) then (if bt262.2 = (rd x5 (bt262.1.length : Int)) then (if bt262.2 ≤ (Int.tmod (rd t258 0) (wrap64 ((x4.size : Int) + 1))) then (if (bt262.1.length : Int) ≤ (x3.length : Int) then ((laws_sameFrames.f k bt262.1 (x3.take ((bt262.1.length : Int) : Int).toNat)).bind fun t271 => (if t271 = true then (if (bt262.1.length : Int) = (x3.length : Int) then (some true) else (if 0 ≤ (wrap64 ((bt262.1.length : Int) + 1)) then (if (wrap64 ((bt262.1.length : Int) + 1)) < (x5.length : Int) then (some (decide ((rd x5 (wrap64 ((bt262.1.length : Int) + 1))) > (Int.tmod (rd t258 0) (wrap64 ((x4.size : Int) + 1)))))) else (none)) else (none))) else (some false))) else (none)) else (some false)) else (some false)) else (none)) else (some false))) else (none)) else (none))) else (none)))
end
def laws_FnFrames.f (k : Nat) (l0 : List Int) : Option (Bool) := (laws_big.f l0).bind fun t238 => (if t238 = true then (some true) else ((spec_DrawFrames.f k l0).bind fun t239 => (laws_FnFrames.l0 k l0 t239 (⟨#[]⟩ : ByteArray) (([0] : List Int)) 0)))
theorem laws_FnFrames.mono_l : ∀ k, (∀ y0 y1 y2 y3 y4, LeO (laws_FnFrames.l0 k y0 y1 y2 y3 y4) (laws_FnFrames.l0 (k + 1) y0 y1 y2 y3 y4)) ∧ (∀ y0 y1 y2 y3 y4, LeO (laws_FnFrames.j1 k y0 y1 y2 y3 y4) (laws_FnFrames.j1 (k + 1) y0 y1 y2 y3 y4))
 | 0 => ⟨fun _ _ _ _ _ r h => by simp [laws_FnFrames.l0] at h, fun _ _ _ _ _ r h => by simp [laws_FnFrames.j1] at h⟩
 | k + 1 => by
  obtain ⟨ih0, ih1⟩ := laws_FnFrames.mono_l k
  refine ⟨?_, ?_⟩
  ·intro y0 y1 y2 y3 y4
   unfold laws_FnFrames.l0
   repeat' first
   | (with_reducible exact ih0 _ _ _ _ _)
   | (with_reducible exact ih1 _ _ _ _ _)
   | (with_reducible exact impl_FrameSize.mono _ _ _ _)
   | (with_reducible exact impl_FrameText.mono _ _ _ _)
   | (with_reducible exact impl_ScanFrames.mono _ _ _)
   | (with_reducible exact laws_sameFrames.mono _ _ _)
   | (with_reducible exact spec_DrawFrames.mono _ _)
   | (with_reducible exact spec_DrawPlaces.mono _ _)
   | (with_reducible exact LeO.refl _)
   | (with_reducible exact LeO.none _)
   | (with_reducible refine LeO.ite ?_ ?_)
   | (with_reducible refine LeO.bind ?_ (fun _ => ?_))
   | exact ih0 _ _ _ _ _
   | exact ih1 _ _ _ _ _
   | exact impl_FrameSize.mono _ _ _ _
   | exact impl_FrameText.mono _ _ _ _
   | exact impl_ScanFrames.mono _ _ _
   | exact laws_sameFrames.mono _ _ _
   | exact spec_DrawFrames.mono _ _
   | exact spec_DrawPlaces.mono _ _
   | exact LeO.none _
   | refine LeO.ite ?_ ?_
   | refine LeO.bind ?_ (fun _ => ?_)
  ·intro y0 y1 y2 y3 y4
   unfold laws_FnFrames.j1
   repeat' first
   | (with_reducible exact ih0 _ _ _ _ _)
   | (with_reducible exact ih1 _ _ _ _ _)
   | (with_reducible exact impl_FrameSize.mono _ _ _ _)
   | (with_reducible exact impl_FrameText.mono _ _ _ _)
   | (with_reducible exact impl_ScanFrames.mono _ _ _)
   | (with_reducible exact laws_sameFrames.mono _ _ _)
   | (with_reducible exact spec_DrawFrames.mono _ _)
   | (with_reducible exact spec_DrawPlaces.mono _ _)
   | (with_reducible exact LeO.refl _)
   | (with_reducible exact LeO.none _)
   | (with_reducible refine LeO.ite ?_ ?_)
   | (with_reducible refine LeO.bind ?_ (fun _ => ?_))
   | exact ih0 _ _ _ _ _
   | exact ih1 _ _ _ _ _
   | exact impl_FrameSize.mono _ _ _ _
   | exact impl_FrameText.mono _ _ _ _
   | exact impl_ScanFrames.mono _ _ _
   | exact laws_sameFrames.mono _ _ _
   | exact spec_DrawFrames.mono _ _
   | exact spec_DrawPlaces.mono _ _
   | exact LeO.none _
   | refine LeO.ite ?_ ?_
   | refine LeO.bind ?_ (fun _ => ?_)
theorem laws_FnFrames.mono : ∀ a0 k, LeO (laws_FnFrames.f k a0) (laws_FnFrames.f (k + 1) a0) := by
 intro a0 k
 obtain ⟨ih0, ih1⟩ := laws_FnFrames.mono_l k
 unfold laws_FnFrames.f
 repeat' first
   | (with_reducible exact ih0 _ _ _ _ _)
   | (with_reducible exact ih1 _ _ _ _ _)
   | (with_reducible exact impl_FrameSize.mono _ _ _ _)
   | (with_reducible exact impl_FrameText.mono _ _ _ _)
   | (with_reducible exact impl_ScanFrames.mono _ _ _)
   | (with_reducible exact laws_sameFrames.mono _ _ _)
   | (with_reducible exact spec_DrawFrames.mono _ _)
   | (with_reducible exact spec_DrawPlaces.mono _ _)
   | (with_reducible exact LeO.refl _)
   | (with_reducible exact LeO.none _)
   | (with_reducible refine LeO.ite ?_ ?_)
   | (with_reducible refine LeO.bind ?_ (fun _ => ?_))
   | exact ih0 _ _ _ _ _
   | exact ih1 _ _ _ _ _
   | exact impl_FrameSize.mono _ _ _ _
   | exact impl_FrameText.mono _ _ _ _
   | exact impl_ScanFrames.mono _ _ _
   | exact laws_sameFrames.mono _ _ _
   | exact spec_DrawFrames.mono _ _
   | exact spec_DrawPlaces.mono _ _
   | exact LeO.none _
   | refine LeO.ite ?_ ?_
   | refine LeO.bind ?_ (fun _ => ?_)
set_option maxHeartbeats 8000000 in
set_option maxRecDepth 100000 in
theorem laws_FnFrames.calls (k : Nat) (A0 : Option Addr) (c0 : Nat) (l0 : List Int) (r : Bool) (w : World) (hr0 : Kd.C (Kd.int .u8) w A0 l0.length l0) (hc0 : l0.length ≤ c0) (h : laws_FnFrames.f k l0 = some r) :
  Calls Try.prog 11 #[.slice A0 l0.length c0] w fun e w' => e = .returned (.bool r) ∧ Below w.heap.size w w' := by
 have hu47 := Try.underlying47
 have HR0 := Aside0.mk hr0
 have HC0 := Aside0.mk hc0
 clear hr0 hc0
 have HB := ak (Below.refl w.heap.size w)
 have H : ((laws_big.f l0).bind fun t238 => (if t238 = true then (some true) else ((spec_DrawFrames.f k l0).bind fun t239 => (laws_FnFrames.l0 k l0 t239 (⟨#[]⟩ : ByteArray) (([0] : List Int)) 0)))) = some r := h
 clear h
 replace H := Option.bind_eq_some_iff.mp H
 obtain ⟨t238, A20, H⟩ := H
 replace H : (if t238 = true then (some true) else ((spec_DrawFrames.f k l0).bind fun t239 => (laws_FnFrames.l0 k l0 t239 (⟨#[]⟩ : ByteArray) (([0] : List Int)) 0))) = some r := H
 have A2 := Aside0.mk A20
 clear A20
 by_cases c3 : t238 = true
 ·subst c3
  have H1 : (some true) = some r := by rw [if_pos rfl] at H; exact H
  clear H
  have H := H1
  clear H1
  obtain rfl := Option.some.inj H
  go_enter Try.func11, Try.ntmps11
  go_wp2_with (first | ((with_reducible refine gate_callee (f := 19) rfl ?_); refine gl (some 15) Try.func19 #[.slice A0 l0.length c0] ?_; (with_reducible refine (laws_big.calls _ _ l0 true _ ?side1 ?side2 A2.out).mono ?_); (case side1 => repeat (first | exact HR0.out | (with_reducible refine Kd.C_alloc ?_ _) | (with_reducible refine Kd.C_drewN ?_ _) | (with_reducible refine Kd.C_drew ?_))); (case side2 => exact HC0.out); rintro e w' ⟨rfl, ⟨nd, rfl⟩⟩; refine ⟨_, rfl, ?_⟩))
  go_ret
  exact ⟨ew, by exact lG HB⟩
 ·replace c3 := Bool.eq_false_iff.mpr c3
  subst c3
  have H1 : ((spec_DrawFrames.f k l0).bind fun t239 => (laws_FnFrames.l0 k l0 t239 (⟨#[]⟩ : ByteArray) (([0] : List Int)) 0)) = some r := by rw [if_neg (show ¬ (false = true) by decide)] at H; exact H
  clear H
  have H := H1
  clear H1
  replace H := Option.bind_eq_some_iff.mp H
  obtain ⟨t239, A40, H⟩ := H
  replace H : (laws_FnFrames.l0 k l0 t239 (⟨#[]⟩ : ByteArray) (([0] : List Int)) 0) = some r := H
  have A4 := Aside0.mk A40
  clear A40
  obtain ⟨y242, hy242⟩ : ∃ y_ : List Int, y_ = (([0] : List Int)) := ⟨_, rfl⟩
  replace H : (laws_FnFrames.l0 k l0 t239 (⟨#[]⟩ : ByteArray) y242 0) = some r := by first | (rw [hy242]; with_reducible exact H) | (have H2_ := (Option.bind_some _ _).symm.trans H; rw [hy242]; with_reducible exact H2_) | (have H2_ := (Option.bind_some _ _).symm.trans H; with_reducible exact H2_) | with_reducible exact H | (rw [hy242]; exact H) | exact H
  have Ny242 := Aside0.mk hy242
  clear hy242
  have H' := Aside0.mk H
  clear H
  go_enter Try.func11, Try.ntmps11
  go_wp2_with (first | ((with_reducible refine gate_callee (f := 19) rfl ?_); refine gl (some 15) Try.func19 #[.slice A0 l0.length c0] ?_; (with_reducible refine (laws_big.calls _ _ l0 false _ ?side1 ?side2 A2.out).mono ?_); (case side1 => repeat (first | exact HR0.out | (with_reducible refine Kd.C_alloc ?_ _) | (with_reducible refine Kd.C_drewN ?_ _) | (with_reducible refine Kd.C_drew ?_))); (case side2 => exact HC0.out); rintro e w' ⟨rfl, ⟨nd, rfl⟩⟩; refine ⟨_, rfl, ?_⟩) | ((with_reducible refine gate_callee (f := 41) rfl ?_); refine gl (some 17) Try.func41 #[.slice A0 l0.length c0] ?_; (with_reducible refine (spec_DrawFrames.calls k _ _ l0 t239 _ ?side1 ?side2 A4.out).mono ?_); (case side1 => repeat (first | exact HR0.out | (with_reducible refine Kd.C_alloc ?_ _) | (with_reducible refine Kd.C_drewN ?_ _) | (with_reducible refine Kd.C_drew ?_))); (case side2 => exact HC0.out); rintro e w5 ⟨v240, rfl, ho0, hb⟩; refine ⟨_, rfl, ?_⟩; replace HO241 := ak (Kd.R_lower ho0 (below_size (lG HB))); replace HB := lB HB hb; (try clear hb); (try clear hk); (try clear ho0)) | ((with_reducible refine gate_dst (N := 18) rfl ?_); (try (refine gate_guard (by rfl) ?_; dsimp only)); refine Kd.R_lit (Kd.int .i64) _ 3 ?hg (N := 18) ?hd (xs := ([0] : List Int)) (inner := [.int .i64 0]) (ok := fun _ => True) (okp := fun _ => True) ?hr ?hp (fun _ hk => hk) trivial (Below.refl _ _) (Nat.le_refl _) (by simp) ?_; (case hd => rfl); (case hg => rfl); (case hr => first | (go_simp; done) | (go_simp; rfl)); (case hp => exact (Reps.one (show Kd.M (Kd.int .i64) _ _ _ 0 [.int .i64 0] from rfl) (Reps.none _ _))); intro v243 w6 ho7 hb hg_ hnew_; clear hg_ hnew_; (first | rw [← Ny242.out] at ho7 | (simp only [Int.reduceToNat] at ho7; rw [← Ny242.out] at ho7)); replace HO241 := rB HO241 hb; replace HO244 := ak (Kd.R_lower ho7 (below_size (lG HB))); replace HB := lB HB hb; clear hb ho7))
  go_loopg [4, 5, 6] k (fun kq v4 v5 v6 w' => ∃ (x4_1 : ByteArray) (x5_1 : List Int) (x6_1 : Int), v4 = .string x4_1 ∧ v6 = .int .i64 x6_1 ∧ Aside0 (laws_FnFrames.l0 kq l0 t239 x4_1 x5_1 x6_1 = some r) ∧ Aside0 (kq ≤ k) ∧ Aside0 (Kd.R k47 47 w' w.heap.size (fun _ => True) v240 t239) ∧ Aside0 (Kd.R (Kd.int .i64) 3 w' w.heap.size (fun _ => True) v5 x5_1) ∧ Aside0 (Below w.heap.size w w'))
  case atStart => exact ⟨((⟨#[]⟩ : ByteArray)), (y242), (0), (by first | rfl | (simp; done) | (simp [*]; done)), (by first | rfl | (simp; done) | (simp [*]; done)), H', ⟨Nat.le_refl _⟩, ⟨by (with_reducible repeat (first | apply Kd.R_alloc | apply Kd.R_drewN | apply Kd.R_drew)); exact HO241.out⟩, ⟨by (with_reducible repeat (first | apply Kd.R_alloc | apply Kd.R_drewN | apply Kd.R_drew)); exact HO244.out⟩, ⟨by exact lG HB⟩⟩
  case round =>
   clear H'
   try clear c1
   try clear p2
   try clear c3
   try clear c4
   obtain ⟨x4_1, x5_1, x6_1, rfl, rfl, HA, HK1, HO_3, HO_5, HB⟩ := hrel
   cases gk with
   | zero => exact absurd HA.out (by simp [laws_FnFrames.l0])
   | succ k1 =>
    have H := HA.out
    clear HA
    simp only [laws_FnFrames.l0] at H
    by_cases c8 : x6_1 < (t239.length : Int)
    ·rw [if_pos c8] at H
     have c8b0 : decide (x6_1 < (t239.length : Int)) = true := decide_eq_true c8
     clear c8
     by_cases c9 : 0 ≤ x6_1
     ·rw [if_pos c9] at H
      have c9b0 : decide (0 ≤ x6_1) = true := decide_eq_true c9
      clear c9
      replace H := Option.bind_eq_some_iff.mp H
      obtain ⟨⟨t246, t247⟩, A100, H⟩ := H
      replace H : (if t247 = true then ((impl_FrameSize.f k1 ((rd_T47 t239 x6_1).f0) ((rd_T47 t239 x6_1).f1) ((rd_T47 t239 x6_1).f2)).bind fun t249 => (if (t246.size : Int) = t249 then (if x4_1.size + t246.size ≤ 9223372036854775807 then (if x5_1.length < 17592186044416 then (laws_FnFrames.l0 k1 l0 t239 (x4_1 ++ t246) (x5_1 ++ [((x4_1 ++ t246).size : Int)]) (wrap64 (x6_1 + 1))) else (none)) else (none)) else (some false))) else (some false)) = some r := H
      have A10 := Aside0.mk A100
      clear A100
      by_cases c11 : t247 = true
      ·subst c11
       have H1 : ((impl_FrameSize.f k1 ((rd_T47 t239 x6_1).f0) ((rd_T47 t239 x6_1).f1) ((rd_T47 t239 x6_1).f2)).bind fun t249 => (if (t246.size : Int) = t249 then (if x4_1.size + t246.size ≤ 9223372036854775807 then (if x5_1.length < 17592186044416 then (laws_FnFrames.l0 k1 l0 t239 (x4_1 ++ t246) (x5_1 ++ [((x4_1 ++ t246).size : Int)]) (wrap64 (x6_1 + 1))) else (none)) else (none)) else (some false))) = some r := by rw [if_pos rfl] at H; exact H
       clear H
       have H := H1
       clear H1
       replace H := Option.bind_eq_some_iff.mp H
       obtain ⟨t249, A120, H⟩ := H
       replace H : (if (t246.size : Int) = t249 then (if x4_1.size + t246.size ≤ 9223372036854775807 then (if x5_1.length < 17592186044416 then (laws_FnFrames.l0 k1 l0 t239 (x4_1 ++ t246) (x5_1 ++ [((x4_1 ++ t246).size : Int)]) (wrap64 (x6_1 + 1))) else (none)) else (none)) else (some false)) = some r := H
       have A12 := Aside0.mk A120
       clear A120
       by_cases c13 : (t246.size : Int) = t249
       ·rw [if_pos c13] at H
        have c13b0 : ((t246.size : Int) == t249) = true := beq_iff_eq.mpr c13
        have c13b1 : ((t246.size : Int) != t249) = false := bne_eq_false_iff_eq.mpr c13
        clear c13
        by_cases c14 : x4_1.size + t246.size ≤ 9223372036854775807
        ·rw [if_pos c14] at H
         have c14b0 := eq_true c14
         have c14b1 : decide (x4_1.size + t246.size ≤ 9223372036854775807) = true := decide_eq_true c14
         try have c14b2 : (9223372036854775807 < x4_1.size + t246.size) = False := eq_false (Nat.not_lt.2 c14)
         by_cases c15 : x5_1.length < 17592186044416
         ·rw [if_pos c15] at H
          have LMc15 := Aside0.mk c15
          clear c15
          obtain ⟨y250, hy250⟩ : ∃ y_ : List Int, y_ = (x5_1 ++ [((x4_1 ++ t246).size : Int)]) := ⟨_, rfl⟩
          replace H : (laws_FnFrames.l0 k1 l0 t239 (x4_1 ++ t246) y250 (wrap64 (x6_1 + 1))) = some r := by first | (rw [hy250]; with_reducible exact H) | (have H2_ := (Option.bind_some _ _).symm.trans H; rw [hy250]; with_reducible exact H2_) | (have H2_ := (Option.bind_some _ _).symm.trans H; with_reducible exact H2_) | with_reducible exact H | (rw [hy250]; exact H) | exact H
          have Ny250 := Aside0.mk hy250
          clear hy250
          have H' := Aside0.mk H
          clear H
          obtain ⟨Ao16, co16, eo16⟩ := Kd.R_slice HO_3.out
          subst eo16
          have p245 : 0 ≤ (x6_1 : Int) := of_decide_eq_true (by first | (with_reducible assumption) | assumption)
          have q245 : x6_1 < (t239.length : Int) := of_decide_eq_true (by first | (with_reducible assumption) | assumption)
          obtain ⟨ad245, e245, hx245_0, hx245_1, hx245_2⟩ := at_T47 (Kd.R_reads' HO_3.out).2.2 x6_1 p245 q245
          cases e245
          replace p245 := eq_true p245
          replace q245 := eq_true q245
          go_wp2_with (first | ((with_reducible refine gate_callee (f := 33) rfl ?_); refine gl (some 30) Try.func33 #[.agg #[.int .i64 ((rd_T47 t239 x6_1).f0), .int .i64 ((rd_T47 t239 x6_1).f1), .string ((rd_T47 t239 x6_1).f2)]] ?_; (with_reducible refine (impl_FrameText.calls k1 ((rd_T47 t239 x6_1).f0) ((rd_T47 t239 x6_1).f1) ((rd_T47 t239 x6_1).f2) t246 true _ A10.out).mono ?_); rintro e w17 ⟨rfl, hb⟩; refine ⟨_, rfl, ?_⟩; replace HO_3 := rB HO_3 hb; replace HO_5 := rB HO_5 hb; replace HB := lB HB hb; (try clear hb); (try clear hk); have p248 : 0 ≤ (x6_1 : Int) := of_decide_eq_true (by first | (with_reducible assumption) | assumption); have q248 : x6_1 < (t239.length : Int) := of_decide_eq_true (by first | (with_reducible assumption) | assumption); obtain ⟨ad248, e248, hx248_0, hx248_1, hx248_2⟩ := at_T47 (Kd.R_reads' HO_3.out).2.2 x6_1 p248 q248; obtain rfl : ad245 = ad248 := (by injection e248); replace p248 := eq_true p248; replace q248 := eq_true q248) | (go_at_call 35; (with_reducible refine (impl_FrameSize.calls k1 ((rd_T47 t239 x6_1).f0) ((rd_T47 t239 x6_1).f1) ((rd_T47 t239 x6_1).f2) t249 _ A12.out).mono ?_); rintro e w18 ⟨rfl, hb⟩; replace HO_3 := rB HO_3 hb; replace HO_5 := rB HO_5 hb; replace HB := lB HB hb; (try clear hb); (try clear hk)) | ((with_reducible refine gate_builtin (b := .append) (xs := #[.tmp 48, .tmp 51]) rfl ?_); (try (refine gate_guard (by rfl) ?_; dsimp only)); at_builtin; refine Kd.R_append (Kd.int .i64) (w0 := w) w.heap.size rfl (.tmp 48) (.tmp 51) 31 3 (.int .i64 0) 8 rfl Try.underlying31 info3 rfl (by decide) (by omega) u5 x5_1 ((x4_1 ++ t246).size : Int) [.int .i64 ((x4_1.size : Int) + (t246.size : Int))] (fun _ => True) (fun _ => False) rfl (by first | rfl | (go_simp; done) | (go_simp; rfl) | (simp only [ByteArray.size_append, Int.natCast_add]; first | done | rfl | (go_simp; done) | (go_simp; rfl))) ?aP (fun _ hk => hk.elim) ?aF ?aO ?aB ?aS ?aL ?_; (case aP => (have hs_ : ((x4_1 ++ t246).size : Int) = (x4_1.size : Int) + (t246.size : Int) := by rw [ByteArray.size_append]; omega); rw [hs_]; exact rfl); (case aB => exact (lG HB)); (case aF => exact (fun _ _ => trivial)); (case aO => exact (rG HO_5)); (case aS => exact (below_size (lG HB))); (case aL => have := LMc15.out; omega); intro v251 w19 ho hb hg hat; rw [← Ny250.out] at ho; have n0_ := ak (Kd.R_over' (rG HO_3) (Kd.R_typed (rG HO_5)) (by decide) hg); have n1_ := ak (hb); have n2_ := ak (ho); clear HO_3; clear HB; clear HO_5; have HO_3 := n0_; have HB := n1_; have HO252 := n2_; clear n0_ n1_ n2_; clear ho hb hg hat))
          go_roundg k1
          case measure => have := HK1.out; omega
          case rel => exact ⟨(x4_1 ++ t246), (y250), (wrap64 (x6_1 + 1)), (by first | rfl | (simp; done) | (simp [*]; done)), (by first | rfl | (simp; done) | (simp [*]; done)), H', ⟨by have := HK1.out; omega⟩, ⟨by (with_reducible repeat (first | apply Kd.R_alloc | apply Kd.R_drewN | apply Kd.R_drew)); exact HO_3.out⟩, ⟨by (with_reducible repeat (first | apply Kd.R_alloc | apply Kd.R_drewN | apply Kd.R_drew)); exact HO252.out⟩, ⟨by exact lG HB⟩⟩
         ·rw [if_neg c15] at H
          exact absurd H (by simp)
        ·rw [if_neg c14] at H
         exact absurd H (by simp)
       ·rw [if_neg c13] at H
        have c13b0 : ((t246.size : Int) == t249) = false := beq_eq_false_iff_ne.mpr c13
        have c13b1 : ((t246.size : Int) != t249) = true := bne_iff_ne.mpr c13
        obtain rfl := Option.some.inj H
        obtain ⟨Ao20, co20, eo20⟩ := Kd.R_slice HO_3.out
        subst eo20
        have p245 : 0 ≤ (x6_1 : Int) := of_decide_eq_true (by first | (with_reducible assumption) | assumption)
        have q245 : x6_1 < (t239.length : Int) := of_decide_eq_true (by first | (with_reducible assumption) | assumption)
        obtain ⟨ad245, e245, hx245_0, hx245_1, hx245_2⟩ := at_T47 (Kd.R_reads' HO_3.out).2.2 x6_1 p245 q245
        cases e245
        replace p245 := eq_true p245
        replace q245 := eq_true q245
        go_wp2_with (first | ((with_reducible refine gate_callee (f := 33) rfl ?_); refine gl (some 30) Try.func33 #[.agg #[.int .i64 ((rd_T47 t239 x6_1).f0), .int .i64 ((rd_T47 t239 x6_1).f1), .string ((rd_T47 t239 x6_1).f2)]] ?_; (with_reducible refine (impl_FrameText.calls k1 ((rd_T47 t239 x6_1).f0) ((rd_T47 t239 x6_1).f1) ((rd_T47 t239 x6_1).f2) t246 true _ A10.out).mono ?_); rintro e w21 ⟨rfl, hb⟩; refine ⟨_, rfl, ?_⟩; replace HO_3 := rB HO_3 hb; replace HO_5 := rB HO_5 hb; replace HB := lB HB hb; (try clear hb); (try clear hk); have p248 : 0 ≤ (x6_1 : Int) := of_decide_eq_true (by first | (with_reducible assumption) | assumption); have q248 : x6_1 < (t239.length : Int) := of_decide_eq_true (by first | (with_reducible assumption) | assumption); obtain ⟨ad248, e248, hx248_0, hx248_1, hx248_2⟩ := at_T47 (Kd.R_reads' HO_3.out).2.2 x6_1 p248 q248; obtain rfl : ad245 = ad248 := (by injection e248); replace p248 := eq_true p248; replace q248 := eq_true q248) | (go_at_call 35; (with_reducible refine (impl_FrameSize.calls k1 ((rd_T47 t239 x6_1).f0) ((rd_T47 t239 x6_1).f1) ((rd_T47 t239 x6_1).f2) t249 _ A12.out).mono ?_); rintro e w22 ⟨rfl, hb⟩; replace HO_3 := rB HO_3 hb; replace HO_5 := rB HO_5 hb; replace HB := lB HB hb; (try clear hb); (try clear hk)))
        go_ret
        exact ⟨ew, by exact lG HB⟩
      ·replace c11 := Bool.eq_false_iff.mpr c11
       subst c11
       have H1 : (some false) = some r := by rw [if_neg (show ¬ (false = true) by decide)] at H; exact H
       clear H
       have H := H1
       clear H1
       obtain rfl := Option.some.inj H
       obtain ⟨Ao23, co23, eo23⟩ := Kd.R_slice HO_3.out
       subst eo23
       have p245 : 0 ≤ (x6_1 : Int) := of_decide_eq_true (by first | (with_reducible assumption) | assumption)
       have q245 : x6_1 < (t239.length : Int) := of_decide_eq_true (by first | (with_reducible assumption) | assumption)
       obtain ⟨ad245, e245, hx245_0, hx245_1, hx245_2⟩ := at_T47 (Kd.R_reads' HO_3.out).2.2 x6_1 p245 q245
       cases e245
       replace p245 := eq_true p245
       replace q245 := eq_true q245
       go_wp2_with (first | ((with_reducible refine gate_callee (f := 33) rfl ?_); refine gl (some 30) Try.func33 #[.agg #[.int .i64 ((rd_T47 t239 x6_1).f0), .int .i64 ((rd_T47 t239 x6_1).f1), .string ((rd_T47 t239 x6_1).f2)]] ?_; (with_reducible refine (impl_FrameText.calls k1 ((rd_T47 t239 x6_1).f0) ((rd_T47 t239 x6_1).f1) ((rd_T47 t239 x6_1).f2) t246 false _ A10.out).mono ?_); rintro e w24 ⟨rfl, hb⟩; refine ⟨_, rfl, ?_⟩; replace HO_3 := rB HO_3 hb; replace HO_5 := rB HO_5 hb; replace HB := lB HB hb; (try clear hb); (try clear hk)))
       go_ret
       exact ⟨ew, by exact lG HB⟩
     ·rw [if_neg c9] at H
      exact absurd H (by simp)
    ·rw [if_neg c8] at H
     have c8b0 : decide (x6_1 < (t239.length : Int)) = false := decide_eq_false c8
     clear c8
     replace H := Option.bind_eq_some_iff.mp H
     obtain ⟨⟨t253, t254⟩, A250, H⟩ := H
     replace H : ((laws_sameFrames.f k1 t253 t239).bind fun t257 => (if t257 = true then (laws_FnFrames.j1 k1 l0 t239 x4_1 x5_1 (t254 != (x4_1.size : Int))) else (laws_FnFrames.j1 k1 l0 t239 x4_1 x5_1 true))) = some r := H
     have A25 := Aside0.mk A250
     clear A250
     have HC26 := Aside0.mk H
     clear H
     obtain ⟨Ao27, co27, eo27⟩ := Kd.R_slice HO_3.out
     subst eo27
     go_upto_region 15 with (first | ((with_reducible refine gate_callee (f := 42) rfl ?_); refine gl (some 55) Try.func42 #[.string x4_1, .int .i64 3] ?_; (with_reducible refine (impl_ScanFrames.calls k1 x4_1 3 t253 t254 _ A25.out).mono ?_); rintro e w28 ⟨v255, rfl, ho0, hb⟩; refine ⟨_, rfl, ?_⟩; replace HO_5 := rB HO_5 hb; replace HO256 := ak (Kd.R_lower (Kd.R_new' ho0 (Kd.R_lt (rG HO_3))) (below_size (lG HB))); replace HO_3 := ak (Kd.R_elder' (rG HO_3) (Kd.R_base ho0) hb); replace HB := lB HB hb; (try clear hb); (try clear hk); (try clear ho0)))
     (try simp only [Act.put, List.setIfInBounds_toArray, List.set_cons_zero, List.set_cons_succ])
     go_cut [67] (fun v67 wc => ∃ (kq : Nat) (x67_25 : Bool), v67 = .bool x67_25 ∧ Aside0 (laws_FnFrames.j1 kq l0 t239 x4_1 x5_1 x67_25 = some r) ∧ Aside0 (kq ≤ k1) ∧ Aside0 (Kd.R k47 47 wc w.heap.size (fun _ => True) (.slice Ao27 t239.length co27) t239) ∧ Aside0 (Kd.R (Kd.int .i64) 3 wc w.heap.size (fun _ => True) u5 x5_1) ∧ Aside0 (Below w.heap.size w wc))
     case first =>
      have H := HC26.out
      clear HC26
      replace H := Option.bind_eq_some_iff.mp H
      obtain ⟨t257, A290, H⟩ := H
      replace H : (if t257 = true then (laws_FnFrames.j1 k1 l0 t239 x4_1 x5_1 (t254 != (x4_1.size : Int))) else (laws_FnFrames.j1 k1 l0 t239 x4_1 x5_1 true)) = some r := H
      have A29 := Aside0.mk A290
      clear A290
      by_cases c30 : t257 = true
      ·subst c30
       have H1 : (laws_FnFrames.j1 k1 l0 t239 x4_1 x5_1 (t254 != (x4_1.size : Int))) = some r := by rw [if_pos rfl] at H; exact H
       clear H
       have H := H1
       clear H1
       have H' := Aside0.mk H
       clear H
       obtain ⟨Ao31, co31, eo31⟩ := Kd.R_slice HO256.out
       subst eo31
       go_wp2_with (first | ((with_reducible refine gate_callee (f := 43) rfl ?_); refine gl (some 60) Try.func43 #[.slice Ao31 t253.length co31, .slice Ao27 t239.length co27] ?_; (with_reducible refine (laws_sameFrames.calls k1 _ _ t253 _ _ t239 true _ ?side1 ?side2 ?side3 ?side4 A29.out).mono ?_); (case side1 => exact cG (Kd.R_reads' HO256.out).2.2); (case side2 => exact (Kd.R_reads' HO256.out).2.1); (case side3 => exact cG (Kd.R_reads' HO_3.out).2.2); (case side4 => exact (Kd.R_reads' HO_3.out).2.1); rintro e w' ⟨rfl, ⟨nd, rfl⟩⟩; refine ⟨_, rfl, ?_⟩))
       go_meet
       case rel => exact ⟨_, ((t254 != (x4_1.size : Int))), (by first | rfl | (simp; done) | (simp [*]; done)), H', ⟨by have := HK1.out; first | omega | exact Nat.le_refl _⟩, ⟨by (with_reducible repeat (first | apply Kd.R_alloc | apply Kd.R_drewN | apply Kd.R_drew)); exact Kd.R_mono HO_3.out (fun _ hk => trivial)⟩, ⟨by (with_reducible repeat (first | apply Kd.R_alloc | apply Kd.R_drewN | apply Kd.R_drew)); exact HO_5.out⟩, ⟨by exact lG HB⟩⟩
      ·replace c30 := Bool.eq_false_iff.mpr c30
       subst c30
       have H1 : (laws_FnFrames.j1 k1 l0 t239 x4_1 x5_1 true) = some r := by rw [if_neg (show ¬ (false = true) by decide)] at H; exact H
       clear H
       have H := H1
       clear H1
       have H' := Aside0.mk H
       clear H
       obtain ⟨Ao32, co32, eo32⟩ := Kd.R_slice HO256.out
       subst eo32
       go_wp2_with (first | ((with_reducible refine gate_callee (f := 43) rfl ?_); refine gl (some 60) Try.func43 #[.slice Ao32 t253.length co32, .slice Ao27 t239.length co27] ?_; (with_reducible refine (laws_sameFrames.calls k1 _ _ t253 _ _ t239 false _ ?side1 ?side2 ?side3 ?side4 A29.out).mono ?_); (case side1 => exact cG (Kd.R_reads' HO256.out).2.2); (case side2 => exact (Kd.R_reads' HO256.out).2.1); (case side3 => exact cG (Kd.R_reads' HO_3.out).2.2); (case side4 => exact (Kd.R_reads' HO_3.out).2.1); rintro e w' ⟨rfl, ⟨nd, rfl⟩⟩; refine ⟨_, rfl, ?_⟩))
       go_meet
       case rel => exact ⟨_, (true), (by first | rfl | (simp; done) | (simp [*]; done)), H', ⟨by have := HK1.out; first | omega | exact Nat.le_refl _⟩, ⟨by (with_reducible repeat (first | apply Kd.R_alloc | apply Kd.R_drewN | apply Kd.R_drew)); exact Kd.R_mono HO_3.out (fun _ hk => trivial)⟩, ⟨by (with_reducible repeat (first | apply Kd.R_alloc | apply Kd.R_drewN | apply Kd.R_drew)); exact HO_5.out⟩, ⟨by exact lG HB⟩⟩
     case rest =>
      clear HC26
      try clear c1
      try clear p2
      try clear q2
      try clear hx2
      try clear c3
      try clear c4
      try clear p6
      try clear c8
      try clear c8b0
      try clear c9
      try clear c9b0
      try clear c11
      try clear c13
      try clear c13b0
      try clear c13b1
      try clear c14
      try clear c14b0
      try clear c14b1
      try clear c14b2
      try clear c15
      try clear c19
      try clear p24
      try clear q24
      try clear hx24
      try clear c30
      try clear hx245_0
      try clear hx245_1
      try clear hx245_2
      try clear hx248_0
      try clear hx248_1
      try clear hx248_2
      try clear p2
      try clear p245
      try clear p248
      try clear q245
      try clear q248
      obtain ⟨kq, x67_25, rfl, HA, HJ25, HO_3, HO_5, HB⟩ := hcut
      cases kq with
      | zero => exact absurd HA.out (by simp [laws_FnFrames.j1])
      | succ kj25 =>
       have H := HA.out
       clear HA
       simp only [laws_FnFrames.j1] at H
       by_cases c33 : x67_25 = true
       ·subst c33
        have H1 : (some false) = some r := by rw [if_pos rfl] at H; exact H
        clear H
        have H := H1
        clear H1
        obtain rfl := Option.some.inj H
        go_wp2
        go_ret
        exact ⟨ew, by exact lG HB⟩
       ·replace c33 := Bool.eq_false_iff.mpr c33
        subst c33
        have H1 : ((spec_DrawPlaces.f kj25 l0).bind fun t258 => (if 0 < (t258.length : Int) then (if (wrap64 ((x4_1.size : Int) + 1)) = 0 then (none) else (if 0 ≤ (Int.tmod (rd t258 0) (wrap64 ((x4_1.size : Int) + 1))) then (if (Int.tmod (rd t258 0) (wrap64 ((x4_1.size : Int) + 1))) ≤ (x4_1.size : Int) then ((impl_ScanFrames.f kj25 (x4_1.extract 0 ((Int.tmod (rd t258 0) (wrap64 ((x4_1.size : Int) + 1))) : Int).toNat) 3).bind fun bt262 => (if (bt262.1.length : Int) < (x5_1.length : Int) then (if 0 ≤ (bt262.1.length : Int) then (if bt262.2 = (rd x5_1 (bt262.1.length : Int)) then (if bt262.2 ≤ (Int.tmod (rd t258 0) (wrap64 ((x4_1.size : Int) + 1))) then (if (bt262.1.length : Int) ≤ (t239.length : Int) then ((laws_sameFrames.f kj25 bt262.1 (t239.take ((bt262.1.length : Int) : Int).toNat)).bind fun t271 => (if t271 = true then (if (bt262.1.length : Int) = (t239.length : Int) then (some true) else (if 0 ≤ (wrap64 ((bt262.1.length : Int) + 1)) then (if (wrap64 ((bt262.1.length : Int) + 1)) < (x5_1.length : Int) then (some (decide ((rd x5_1 (wrap64 ((bt262.1.length : Int) + 1))) > (Int.tmod (rd t258 0) (wrap64 ((x4_1.size : Int) + 1)))))) else (none)) else (none))) else (some false))) else (none)) else (some false)) else (some false)) else (none)) else (some false))) else (none)) else (none))) else (none))) = some r := by rw [if_neg (show ¬ (false = true) by decide)] at H; exact H
        clear H
        have H := H1
        clear H1
        replace H := Option.bind_eq_some_iff.mp H
        obtain ⟨t258, A340, H⟩ := H
        replace H : (if 0 < (t258.length : Int) then (if (wrap64 ((x4_1.size : Int) + 1)) = 0 then (none) else (if 0 ≤ (Int.tmod (rd t258 0) (wrap64 ((x4_1.size : Int) + 1))) then (if (Int.tmod (rd t258 0) (wrap64 ((x4_1.size : Int) + 1))) ≤ (x4_1.size : Int) then ((impl_ScanFrames.f kj25 (x4_1.extract 0 ((Int.tmod (rd t258 0) (wrap64 ((x4_1.size : Int) + 1))) : Int).toNat) 3).bind fun bt262 => (if (bt262.1.length : Int) < (x5_1.length : Int) then (if 0 ≤ (bt262.1.length : Int) then (if bt262.2 = (rd x5_1 (bt262.1.length : Int)) then (if bt262.2 ≤ (Int.tmod (rd t258 0) (wrap64 ((x4_1.size : Int) + 1))) then (if (bt262.1.length : Int) ≤ (t239.length : Int) then ((laws_sameFrames.f kj25 bt262.1 (t239.take ((bt262.1.length : Int) : Int).toNat)).bind fun t271 => (if t271 = true then (if (bt262.1.length : Int) = (t239.length : Int) then (some true) else (if 0 ≤ (wrap64 ((bt262.1.length : Int) + 1)) then (if (wrap64 ((bt262.1.length : Int) + 1)) < (x5_1.length : Int) then (some (decide ((rd x5_1 (wrap64 ((bt262.1.length : Int) + 1))) > (Int.tmod (rd t258 0) (wrap64 ((x4_1.size : Int) + 1)))))) else (none)) else (none))) else (some false))) else (none)) else (some false)) else (some false)) else (none)) else (some false))) else (none)) else (none))) else (none)) = some r := H
        have A34 := Aside0.mk A340
        clear A340
        by_cases c35 : 0 < (t258.length : Int)
        ·rw [if_pos c35] at H
         have c35b0 : decide (0 < (t258.length : Int)) = true := decide_eq_true c35
         have c35b1 : decide (0 < t258.length) = true := decide_eq_true (by omega)
         clear c35
         by_cases c36 : (wrap64 ((x4_1.size : Int) + 1)) = 0
         ·rw [if_pos c36] at H
          exact absurd H (by simp)
         ·rw [if_neg c36] at H
          have c36b0 : ((wrap64 ((x4_1.size : Int) + 1)) == 0) = false := beq_eq_false_iff_ne.mpr c36
          have c36b1 : ((wrap64 ((x4_1.size : Int) + 1)) != 0) = true := bne_iff_ne.mpr c36
          obtain ⟨ji37, hji37⟩ : ∃ j_ : Int, (Int.tmod (rd t258 0) (wrap64 ((x4_1.size : Int) + 1))) = j_ := ⟨_, rfl⟩
          replace H : (if 0 ≤ (ji37) then (if (ji37) ≤ (x4_1.size : Int) then ((impl_ScanFrames.f kj25 (x4_1.extract 0 ((ji37) : Int).toNat) 3).bind fun bt262 => (if (bt262.1.length : Int) < (x5_1.length : Int) then (if 0 ≤ (bt262.1.length : Int) then (if bt262.2 = (rd x5_1 (bt262.1.length : Int)) then (if bt262.2 ≤ (ji37) then (if (bt262.1.length : Int) ≤ (t239.length : Int) then ((laws_sameFrames.f kj25 bt262.1 (t239.take ((bt262.1.length : Int) : Int).toNat)).bind fun t271 => (if t271 = true then (if (bt262.1.length : Int) = (t239.length : Int) then (some true) else (if 0 ≤ (wrap64 ((bt262.1.length : Int) + 1)) then (if (wrap64 ((bt262.1.length : Int) + 1)) < (x5_1.length : Int) then (some (decide ((rd x5_1 (wrap64 ((bt262.1.length : Int) + 1))) > (ji37)))) else (none)) else (none))) else (some false))) else (none)) else (some false)) else (some false)) else (none)) else (some false))) else (none)) else (none)) = some r := by first | (rw [hji37] at H; exact H) | (simp only [hji37] at H ⊢; exact H)
          (try rw [hji37] at A34)
          by_cases c38 : 0 ≤ (ji37)
          ·rw [if_pos c38] at H
           have c38b0 := eq_true c38
           have c38b1 : decide (0 ≤ (ji37)) = true := decide_eq_true c38
           clear c38
           by_cases c39 : (ji37) ≤ (x4_1.size : Int)
           ·rw [if_pos c39] at H
            have c39b0 := eq_true c39
            have c39b1 : decide ((ji37) ≤ (x4_1.size : Int)) = true := decide_eq_true c39
            clear c39
            replace H := Option.bind_eq_some_iff.mp H
            obtain ⟨⟨t262, t263⟩, A400, H⟩ := H
            replace H : (if (t262.length : Int) < (x5_1.length : Int) then (if 0 ≤ (t262.length : Int) then (if t263 = (rd x5_1 (t262.length : Int)) then (if t263 ≤ (ji37) then (if (t262.length : Int) ≤ (t239.length : Int) then ((laws_sameFrames.f kj25 t262 (t239.take ((t262.length : Int) : Int).toNat)).bind fun t271 => (if t271 = true then (if (t262.length : Int) = (t239.length : Int) then (some true) else (if 0 ≤ (wrap64 ((t262.length : Int) + 1)) then (if (wrap64 ((t262.length : Int) + 1)) < (x5_1.length : Int) then (some (decide ((rd x5_1 (wrap64 ((t262.length : Int) + 1))) > (ji37)))) else (none)) else (none))) else (some false))) else (none)) else (some false)) else (some false)) else (none)) else (some false)) = some r := H
            have A40 := Aside0.mk A400
            clear A400
            by_cases c41 : (t262.length : Int) < (x5_1.length : Int)
            ·rw [if_pos c41] at H
             have c41b0 : decide ((t262.length : Int) < (x5_1.length : Int)) = true := decide_eq_true c41
             have c41b1 : decide (t262.length < x5_1.length) = true := decide_eq_true (Int.ofNat_lt.mp c41)
             clear c41
             by_cases c42 : 0 ≤ (t262.length : Int)
             ·rw [if_pos c42] at H
              have c42b0 : decide (0 ≤ (t262.length : Int)) = true := decide_eq_true c42
              have c42b1 : decide (0 ≤ t262.length) = true := decide_eq_true (by omega)
              clear c42
              by_cases c43 : t263 = (rd x5_1 (t262.length : Int))
              ·rw [if_pos c43] at H
               have c43b0 : (t263 == (rd x5_1 (t262.length : Int))) = true := beq_iff_eq.mpr c43
               have c43b1 : (t263 != (rd x5_1 (t262.length : Int))) = false := bne_eq_false_iff_eq.mpr c43
               clear c43
               by_cases c44 : t263 ≤ (ji37)
               ·rw [if_pos c44] at H
                have c44b0 : decide (t263 ≤ (ji37)) = true := decide_eq_true c44
                clear c44
                have c45b0 := eq_true (of_decide_eq_true (by first | (with_reducible assumption) | assumption) : 0 ≤ (t262.length : Int))
                by_cases c46 : (t262.length : Int) ≤ (t239.length : Int)
                ·rw [if_pos c46] at H
                 have c46b0 := eq_true c46
                 have c46b1 : decide ((t262.length : Int) ≤ (t239.length : Int)) = true := decide_eq_true c46
                 clear c46
                 obtain ⟨y267, hy267⟩ : ∃ y_ : List (S47), y_ = (t239.take ((t262.length : Int) : Int).toNat) := ⟨_, rfl⟩
                 replace H : ((laws_sameFrames.f kj25 t262 y267).bind fun t271 => (if t271 = true then (if (t262.length : Int) = (t239.length : Int) then (some true) else (if 0 ≤ (wrap64 ((t262.length : Int) + 1)) then (if (wrap64 ((t262.length : Int) + 1)) < (x5_1.length : Int) then (some (decide ((rd x5_1 (wrap64 ((t262.length : Int) + 1))) > (ji37)))) else (none)) else (none))) else (some false))) = some r := by first | (rw [hy267]; with_reducible exact H) | (have H2_ := (Option.bind_some _ _).symm.trans H; rw [hy267]; with_reducible exact H2_) | (have H2_ := (Option.bind_some _ _).symm.trans H; with_reducible exact H2_) | with_reducible exact H | (rw [hy267]; exact H) | exact H
                 have Ny267 := Aside0.mk hy267
                 clear hy267
                 replace H := Option.bind_eq_some_iff.mp H
                 obtain ⟨t271, A470, H⟩ := H
                 replace H : (if t271 = true then (if (t262.length : Int) = (t239.length : Int) then (some true) else (if 0 ≤ (wrap64 ((t262.length : Int) + 1)) then (if (wrap64 ((t262.length : Int) + 1)) < (x5_1.length : Int) then (some (decide ((rd x5_1 (wrap64 ((t262.length : Int) + 1))) > (ji37)))) else (none)) else (none))) else (some false)) = some r := H
                 have A47 := Aside0.mk A470
                 clear A470
                 by_cases c48 : t271 = true
                 ·subst c48
                  have H1 : (if (t262.length : Int) = (t239.length : Int) then (some true) else (if 0 ≤ (wrap64 ((t262.length : Int) + 1)) then (if (wrap64 ((t262.length : Int) + 1)) < (x5_1.length : Int) then (some (decide ((rd x5_1 (wrap64 ((t262.length : Int) + 1))) > (ji37)))) else (none)) else (none))) = some r := by rw [if_pos rfl] at H; exact H
                  clear H
                  have H := H1
                  clear H1
                  by_cases c49 : (t262.length : Int) = (t239.length : Int)
                  ·rw [if_pos c49] at H
                   have c49b0 : ((t262.length : Int) == (t239.length : Int)) = true := beq_iff_eq.mpr c49
                   have c49b1 : ((t262.length : Int) != (t239.length : Int)) = false := bne_eq_false_iff_eq.mpr c49
                   have c49b2 : (t262.length == t239.length) = true := by first | simpa using c49 | (simp at c49 ⊢; omega)
                   clear c49
                   obtain rfl := Option.some.inj H
                   go_wp2_with (first | ((with_reducible refine gate_callee (f := 21) rfl ?_); refine gl (some 69) Try.func21 #[.slice A0 l0.length c0] ?_; (with_reducible refine (spec_DrawPlaces.calls kj25 _ _ l0 t258 _ ?side1 ?side2 A34.out).mono ?_); (case side1 => exact cG (Kd.C_below HR0.out HB.out)); (case side2 => exact HC0.out); rintro e w50 ⟨v259, rfl, ho0, hb⟩; refine ⟨_, rfl, ?_⟩; replace HO_3 := rB HO_3 hb; replace HO260 := ak (Kd.R_lower (Kd.R_new' ho0 (Kd.R_lt (rG HO_5))) (below_size (lG HB))); replace HO_5 := ak (Kd.R_elder' (rG HO_5) (Kd.R_base ho0) hb); replace HB := lB HB hb; (try clear hb); (try clear hk); (try clear ho0); obtain ⟨Ao51, co51, eo51⟩ := Kd.R_slice HO260.out; subst eo51; have p261 : 0 ≤ (0 : Int) := (by omega); have q261 : 0 < (t258.length : Int) := of_decide_eq_true (by first | (with_reducible assumption) | assumption); obtain ⟨ad261, e261, hx261_0⟩ := Kd.at_int (Kd.R_reads' HO260.out).2.2 0 p261 q261; cases e261; have qi261 : (0 < t258.length) = True := eq_true (by omega); (try rw [show ((0 : Int)).toNat = 0 from rfl] at hx261_0); (try rw [Addr.add_zero'] at hx261_0); replace p261 := eq_true p261; replace q261 := eq_true q261) | ((with_reducible refine gate_callee (f := 42) rfl ?_); refine goesL_ (some 80) rfl rfl Try.func42 (by kernel_rfl) rfl #[.string (x4_1.extract 0 ((ji37) : Int).toNat), .int .i64 3] rfl (by (try simp only [List.map_toArray, List.map_cons, List.map_nil]); first | done | (simp only [hji37]; rfl) | rfl | (simp only [List.length_drop, List.length_take]; rfl)) ?_; (with_reducible refine (impl_ScanFrames.calls kj25 (x4_1.extract 0 ((ji37) : Int).toNat) 3 t262 t263 _ A40.out).mono ?_); rintro e w52 ⟨v264, rfl, ho0, hb⟩; refine ⟨_, rfl, ?_⟩; replace HO_5 := rB HO_5 hb; replace HO260 := rB HO260 hb; replace HO265 := ak (Kd.R_lower (Kd.R_new' ho0 (Kd.R_lt (rG HO_3))) (below_size (lG HB))); replace HO_3 := ak (Kd.R_elder' (rG HO_3) (Kd.R_base ho0) hb); replace HB := lB HB hb; (try clear hb); (try clear hk); (try clear ho0); obtain ⟨Ao53, co53, eo53⟩ := Kd.R_slice HO265.out; subst eo53; obtain ⟨Ao54, co54, eo54⟩ := Kd.R_slice HO_5.out; subst eo54; have p266 : 0 ≤ ((t262.length : Int) : Int) := of_decide_eq_true (by first | (with_reducible assumption) | assumption); have q266 : (t262.length : Int) < (x5_1.length : Int) := of_decide_eq_true (by first | (with_reducible assumption) | assumption); obtain ⟨ad266, e266, hx266_0⟩ := Kd.at_int (Kd.R_reads' HO_5.out).2.2 (t262.length : Int) p266 q266; cases e266; (try simp only [Go.IntWalk.toNatUp] at hx266_0); replace p266 := eq_true p266; replace q266 := eq_true q266; have q55 : ((t262.length : Int) : Int) ≤ ((t239.length : Int) : Int) := of_decide_eq_true (by first | (with_reducible assumption) | assumption); obtain ⟨i055, hi055, _, hsz55, _⟩ := info_parts info47; have hroom55 : t239.length ≤ co27 := (Kd.R_reads' HO_3.out).2.1; have hC55 : Kd.C k47 _ Ao27 t239.length t239 := (Kd.R_reads' HO_3.out).2.2; have hcut55 := cut_to (P := Try.prog) 55 47 .i64 Try.underlying55 hi055 Ao27 t239.length co27 (t262.length : Int) (of_decide_eq_true (by first | (with_reducible assumption) | assumption)) q55 hroom55; have hr55 := Kd.C_take (m := ((t262.length : Int) : Int).toNat) hC55 (by omega); have hy55 : y267.length = ((t262.length : Int) : Int).toNat := (by rw [Ny267.out, List.length_take]; omega); rw [← Ny267.out] at hr55; rw [← hy55] at hcut55; have HR270 := Aside0.mk hr55; have HC270 := ak (show y267.length ≤ co27 from by omega); clear hr55 hC55 hroom55 hi055 hsz55; have KY55 := Aside0.mk hy55; clear hy55; have KL55 := ak (show ((t262.length : Int) : Int).toNat ≤ t239.length from by omega); replace q55 := eq_true q55) | (go_at_call 43; (with_reducible refine (laws_sameFrames.calls kj25 _ _ t262 _ _ y267 true _ ?side1 ?side2 ?side3 ?side4 A47.out).mono ?_); (case side1 => exact cG (Kd.R_reads' HO265.out).2.2); (case side2 => exact (Kd.R_reads' HO265.out).2.1); (case side3 => repeat (first | exact (by repeat (first | (with_reducible exact HR270.out) | (with_reducible refine Kd.C_alloc ?_ _) | (with_reducible refine Kd.C_drewN ?_ _) | (with_reducible refine Kd.C_drew ?_) | exact HR270.out)) | (with_reducible refine Kd.C_alloc ?_ _) | (with_reducible refine Kd.C_drewN ?_ _) | (with_reducible refine Kd.C_drew ?_))); (case side4 => exact HC270.out); rintro e w' ⟨rfl, ⟨nd, rfl⟩⟩))
                   go_ret
                   exact ⟨by first | rfl | (simp [errW_none, errW_some] <;> rfl) | (simp only [← hji37]; first | rfl | (simp [errW_none, errW_some] <;> rfl)) | (simp [*, errW_none, errW_some] <;> rfl), by exact lG HB⟩
                  ·rw [if_neg c49] at H
                   have c49b0 : ((t262.length : Int) == (t239.length : Int)) = false := beq_eq_false_iff_ne.mpr c49
                   have c49b1 : ((t262.length : Int) != (t239.length : Int)) = true := bne_iff_ne.mpr c49
                   have c49b2 : (t262.length == t239.length) = false := by first | simpa using c49 | (simp at c49 ⊢; omega)
                   obtain ⟨ji56, hji56⟩ : ∃ j_ : Int, (wrap64 ((t262.length : Int) + 1)) = j_ := ⟨_, rfl⟩
                   replace H : (if 0 ≤ (ji56) then (if (ji56) < (x5_1.length : Int) then (some (decide ((rd x5_1 (ji56)) > (ji37)))) else (none)) else (none)) = some r := by first | (rw [hji56] at H; exact H) | (simp only [hji56] at H ⊢; exact H)
                   (try rw [hji56] at A34)
                   (try rw [hji56] at A40)
                   (try rw [hji56] at A47)
                   have hji56w : (IntKind.i64.wrap ((t262.length : Int) + 1)) = ji56 := (i64_w _).trans hji56
                   by_cases c57 : 0 ≤ (ji56)
                   ·rw [if_pos c57] at H
                    have c57b0 : decide (0 ≤ (ji56)) = true := decide_eq_true c57
                    clear c57
                    by_cases c58 : (ji56) < (x5_1.length : Int)
                    ·rw [if_pos c58] at H
                     have c58b0 : decide ((ji56) < (x5_1.length : Int)) = true := decide_eq_true c58
                     clear c58
                     obtain rfl := Option.some.inj H
                     go_wp2_with (first | ((with_reducible refine gate_callee (f := 21) rfl ?_); refine gl (some 69) Try.func21 #[.slice A0 l0.length c0] ?_; (with_reducible refine (spec_DrawPlaces.calls kj25 _ _ l0 t258 _ ?side1 ?side2 A34.out).mono ?_); (case side1 => exact cG (Kd.C_below HR0.out HB.out)); (case side2 => exact HC0.out); rintro e w59 ⟨v259, rfl, ho0, hb⟩; refine ⟨_, rfl, ?_⟩; replace HO_3 := rB HO_3 hb; replace HO260 := ak (Kd.R_lower (Kd.R_new' ho0 (Kd.R_lt (rG HO_5))) (below_size (lG HB))); replace HO_5 := ak (Kd.R_elder' (rG HO_5) (Kd.R_base ho0) hb); replace HB := lB HB hb; (try clear hb); (try clear hk); (try clear ho0); obtain ⟨Ao60, co60, eo60⟩ := Kd.R_slice HO260.out; subst eo60; have p261 : 0 ≤ (0 : Int) := (by omega); have q261 : 0 < (t258.length : Int) := of_decide_eq_true (by first | (with_reducible assumption) | assumption); obtain ⟨ad261, e261, hx261_0⟩ := Kd.at_int (Kd.R_reads' HO260.out).2.2 0 p261 q261; cases e261; have qi261 : (0 < t258.length) = True := eq_true (by omega); (try rw [show ((0 : Int)).toNat = 0 from rfl] at hx261_0); (try rw [Addr.add_zero'] at hx261_0); replace p261 := eq_true p261; replace q261 := eq_true q261) | ((with_reducible refine gate_callee (f := 42) rfl ?_); refine goesL_ (some 80) rfl rfl Try.func42 (by kernel_rfl) rfl #[.string (x4_1.extract 0 ((ji37) : Int).toNat), .int .i64 3] rfl (by (try simp only [List.map_toArray, List.map_cons, List.map_nil]); first | done | (simp only [hji37]; rfl) | rfl | (simp only [List.length_drop, List.length_take]; rfl)) ?_; (with_reducible refine (impl_ScanFrames.calls kj25 (x4_1.extract 0 ((ji37) : Int).toNat) 3 t262 t263 _ A40.out).mono ?_); rintro e w61 ⟨v264, rfl, ho0, hb⟩; refine ⟨_, rfl, ?_⟩; replace HO_5 := rB HO_5 hb; replace HO260 := rB HO260 hb; replace HO265 := ak (Kd.R_lower (Kd.R_new' ho0 (Kd.R_lt (rG HO_3))) (below_size (lG HB))); replace HO_3 := ak (Kd.R_elder' (rG HO_3) (Kd.R_base ho0) hb); replace HB := lB HB hb; (try clear hb); (try clear hk); (try clear ho0); obtain ⟨Ao62, co62, eo62⟩ := Kd.R_slice HO265.out; subst eo62; obtain ⟨Ao63, co63, eo63⟩ := Kd.R_slice HO_5.out; subst eo63; have p266 : 0 ≤ ((t262.length : Int) : Int) := of_decide_eq_true (by first | (with_reducible assumption) | assumption); have q266 : (t262.length : Int) < (x5_1.length : Int) := of_decide_eq_true (by first | (with_reducible assumption) | assumption); obtain ⟨ad266, e266, hx266_0⟩ := Kd.at_int (Kd.R_reads' HO_5.out).2.2 (t262.length : Int) p266 q266; cases e266; (try simp only [Go.IntWalk.toNatUp] at hx266_0); replace p266 := eq_true p266; replace q266 := eq_true q266; have q64 : ((t262.length : Int) : Int) ≤ ((t239.length : Int) : Int) := of_decide_eq_true (by first | (with_reducible assumption) | assumption); obtain ⟨i064, hi064, _, hsz64, _⟩ := info_parts info47; have hroom64 : t239.length ≤ co27 := (Kd.R_reads' HO_3.out).2.1; have hC64 : Kd.C k47 _ Ao27 t239.length t239 := (Kd.R_reads' HO_3.out).2.2; have hcut64 := cut_to (P := Try.prog) 55 47 .i64 Try.underlying55 hi064 Ao27 t239.length co27 (t262.length : Int) (of_decide_eq_true (by first | (with_reducible assumption) | assumption)) q64 hroom64; have hr64 := Kd.C_take (m := ((t262.length : Int) : Int).toNat) hC64 (by omega); have hy64 : y267.length = ((t262.length : Int) : Int).toNat := (by rw [Ny267.out, List.length_take]; omega); rw [← Ny267.out] at hr64; rw [← hy64] at hcut64; have HR270 := Aside0.mk hr64; have HC270 := ak (show y267.length ≤ co27 from by omega); clear hr64 hC64 hroom64 hi064 hsz64; have KY64 := Aside0.mk hy64; clear hy64; have KL64 := ak (show ((t262.length : Int) : Int).toNat ≤ t239.length from by omega); replace q64 := eq_true q64) | (go_at_call 43; (with_reducible refine (laws_sameFrames.calls kj25 _ _ t262 _ _ y267 true _ ?side1 ?side2 ?side3 ?side4 A47.out).mono ?_); (case side1 => exact cG (Kd.R_reads' HO265.out).2.2); (case side2 => exact (Kd.R_reads' HO265.out).2.1); (case side3 => repeat (first | exact (by repeat (first | (with_reducible exact HR270.out) | (with_reducible refine Kd.C_alloc ?_ _) | (with_reducible refine Kd.C_drewN ?_ _) | (with_reducible refine Kd.C_drew ?_) | exact HR270.out)) | (with_reducible refine Kd.C_alloc ?_ _) | (with_reducible refine Kd.C_drewN ?_ _) | (with_reducible refine Kd.C_drew ?_))); (case side4 => exact HC270.out); rintro e w' ⟨rfl, ⟨nd, rfl⟩⟩; have p272 : 0 ≤ ((ji56) : Int) := of_decide_eq_true (by first | (with_reducible assumption) | assumption); have q272 : (ji56) < (x5_1.length : Int) := of_decide_eq_true (by first | (with_reducible assumption) | assumption); obtain ⟨ad272, e272, hx272_0⟩ := Kd.at_int (Kd.R_reads' HO_5.out).2.2 (ji56) p272 q272; obtain rfl : ad266 = ad272 := (by injection e272); replace p272 := eq_true p272; replace q272 := eq_true q272))
                     go_ret
                     exact ⟨by first | rfl | (simp [errW_none, errW_some] <;> rfl) | (simp only [← hji37, ← hji56]; first | rfl | (simp [errW_none, errW_some] <;> rfl)) | (simp [*, errW_none, errW_some] <;> rfl), by exact lG HB⟩
                    ·rw [if_neg c58] at H
                     exact absurd H (by simp)
                   ·rw [if_neg c57] at H
                    exact absurd H (by simp)
                 ·replace c48 := Bool.eq_false_iff.mpr c48
                  subst c48
                  have H1 : (some false) = some r := by rw [if_neg (show ¬ (false = true) by decide)] at H; exact H
                  clear H
                  have H := H1
                  clear H1
                  obtain rfl := Option.some.inj H
                  go_wp2_with (first | ((with_reducible refine gate_callee (f := 21) rfl ?_); refine gl (some 69) Try.func21 #[.slice A0 l0.length c0] ?_; (with_reducible refine (spec_DrawPlaces.calls kj25 _ _ l0 t258 _ ?side1 ?side2 A34.out).mono ?_); (case side1 => exact cG (Kd.C_below HR0.out HB.out)); (case side2 => exact HC0.out); rintro e w65 ⟨v259, rfl, ho0, hb⟩; refine ⟨_, rfl, ?_⟩; replace HO_3 := rB HO_3 hb; replace HO260 := ak (Kd.R_lower (Kd.R_new' ho0 (Kd.R_lt (rG HO_5))) (below_size (lG HB))); replace HO_5 := ak (Kd.R_elder' (rG HO_5) (Kd.R_base ho0) hb); replace HB := lB HB hb; (try clear hb); (try clear hk); (try clear ho0); obtain ⟨Ao66, co66, eo66⟩ := Kd.R_slice HO260.out; subst eo66; have p261 : 0 ≤ (0 : Int) := (by omega); have q261 : 0 < (t258.length : Int) := of_decide_eq_true (by first | (with_reducible assumption) | assumption); obtain ⟨ad261, e261, hx261_0⟩ := Kd.at_int (Kd.R_reads' HO260.out).2.2 0 p261 q261; cases e261; have qi261 : (0 < t258.length) = True := eq_true (by omega); (try rw [show ((0 : Int)).toNat = 0 from rfl] at hx261_0); (try rw [Addr.add_zero'] at hx261_0); replace p261 := eq_true p261; replace q261 := eq_true q261) | ((with_reducible refine gate_callee (f := 42) rfl ?_); refine goesL_ (some 80) rfl rfl Try.func42 (by kernel_rfl) rfl #[.string (x4_1.extract 0 ((ji37) : Int).toNat), .int .i64 3] rfl (by (try simp only [List.map_toArray, List.map_cons, List.map_nil]); first | done | (simp only [hji37]; rfl) | rfl | (simp only [List.length_drop, List.length_take]; rfl)) ?_; (with_reducible refine (impl_ScanFrames.calls kj25 (x4_1.extract 0 ((ji37) : Int).toNat) 3 t262 t263 _ A40.out).mono ?_); rintro e w67 ⟨v264, rfl, ho0, hb⟩; refine ⟨_, rfl, ?_⟩; replace HO_5 := rB HO_5 hb; replace HO260 := rB HO260 hb; replace HO265 := ak (Kd.R_lower (Kd.R_new' ho0 (Kd.R_lt (rG HO_3))) (below_size (lG HB))); replace HO_3 := ak (Kd.R_elder' (rG HO_3) (Kd.R_base ho0) hb); replace HB := lB HB hb; (try clear hb); (try clear hk); (try clear ho0); obtain ⟨Ao68, co68, eo68⟩ := Kd.R_slice HO265.out; subst eo68; obtain ⟨Ao69, co69, eo69⟩ := Kd.R_slice HO_5.out; subst eo69; have p266 : 0 ≤ ((t262.length : Int) : Int) := of_decide_eq_true (by first | (with_reducible assumption) | assumption); have q266 : (t262.length : Int) < (x5_1.length : Int) := of_decide_eq_true (by first | (with_reducible assumption) | assumption); obtain ⟨ad266, e266, hx266_0⟩ := Kd.at_int (Kd.R_reads' HO_5.out).2.2 (t262.length : Int) p266 q266; cases e266; (try simp only [Go.IntWalk.toNatUp] at hx266_0); replace p266 := eq_true p266; replace q266 := eq_true q266; have q70 : ((t262.length : Int) : Int) ≤ ((t239.length : Int) : Int) := of_decide_eq_true (by first | (with_reducible assumption) | assumption); obtain ⟨i070, hi070, _, hsz70, _⟩ := info_parts info47; have hroom70 : t239.length ≤ co27 := (Kd.R_reads' HO_3.out).2.1; have hC70 : Kd.C k47 _ Ao27 t239.length t239 := (Kd.R_reads' HO_3.out).2.2; have hcut70 := cut_to (P := Try.prog) 55 47 .i64 Try.underlying55 hi070 Ao27 t239.length co27 (t262.length : Int) (of_decide_eq_true (by first | (with_reducible assumption) | assumption)) q70 hroom70; have hr70 := Kd.C_take (m := ((t262.length : Int) : Int).toNat) hC70 (by omega); have hy70 : y267.length = ((t262.length : Int) : Int).toNat := (by rw [Ny267.out, List.length_take]; omega); rw [← Ny267.out] at hr70; rw [← hy70] at hcut70; have HR270 := Aside0.mk hr70; have HC270 := ak (show y267.length ≤ co27 from by omega); clear hr70 hC70 hroom70 hi070 hsz70; have KY70 := Aside0.mk hy70; clear hy70; have KL70 := ak (show ((t262.length : Int) : Int).toNat ≤ t239.length from by omega); replace q70 := eq_true q70) | (go_at_call 43; (with_reducible refine (laws_sameFrames.calls kj25 _ _ t262 _ _ y267 false _ ?side1 ?side2 ?side3 ?side4 A47.out).mono ?_); (case side1 => exact cG (Kd.R_reads' HO265.out).2.2); (case side2 => exact (Kd.R_reads' HO265.out).2.1); (case side3 => repeat (first | exact (by repeat (first | (with_reducible exact HR270.out) | (with_reducible refine Kd.C_alloc ?_ _) | (with_reducible refine Kd.C_drewN ?_ _) | (with_reducible refine Kd.C_drew ?_) | exact HR270.out)) | (with_reducible refine Kd.C_alloc ?_ _) | (with_reducible refine Kd.C_drewN ?_ _) | (with_reducible refine Kd.C_drew ?_))); (case side4 => exact HC270.out); rintro e w' ⟨rfl, ⟨nd, rfl⟩⟩))
                  go_ret
                  exact ⟨by first | rfl | (simp [errW_none, errW_some] <;> rfl) | (simp only [← hji37]; first | rfl | (simp [errW_none, errW_some] <;> rfl)) | (simp [*, errW_none, errW_some] <;> rfl), by exact lG HB⟩
                ·rw [if_neg c46] at H
                 exact absurd H (by simp)
               ·rw [if_neg c44] at H
                have c44b0 : decide (t263 ≤ (ji37)) = false := decide_eq_false c44
                clear c44
                obtain rfl := Option.some.inj H
                go_wp2_with (first | ((with_reducible refine gate_callee (f := 21) rfl ?_); refine gl (some 69) Try.func21 #[.slice A0 l0.length c0] ?_; (with_reducible refine (spec_DrawPlaces.calls kj25 _ _ l0 t258 _ ?side1 ?side2 A34.out).mono ?_); (case side1 => exact cG (Kd.C_below HR0.out HB.out)); (case side2 => exact HC0.out); rintro e w71 ⟨v259, rfl, ho0, hb⟩; refine ⟨_, rfl, ?_⟩; replace HO_3 := rB HO_3 hb; replace HO260 := ak (Kd.R_lower (Kd.R_new' ho0 (Kd.R_lt (rG HO_5))) (below_size (lG HB))); replace HO_5 := ak (Kd.R_elder' (rG HO_5) (Kd.R_base ho0) hb); replace HB := lB HB hb; (try clear hb); (try clear hk); (try clear ho0); obtain ⟨Ao72, co72, eo72⟩ := Kd.R_slice HO260.out; subst eo72; have p261 : 0 ≤ (0 : Int) := (by omega); have q261 : 0 < (t258.length : Int) := of_decide_eq_true (by first | (with_reducible assumption) | assumption); obtain ⟨ad261, e261, hx261_0⟩ := Kd.at_int (Kd.R_reads' HO260.out).2.2 0 p261 q261; cases e261; have qi261 : (0 < t258.length) = True := eq_true (by omega); (try rw [show ((0 : Int)).toNat = 0 from rfl] at hx261_0); (try rw [Addr.add_zero'] at hx261_0); replace p261 := eq_true p261; replace q261 := eq_true q261) | ((with_reducible refine gate_callee (f := 42) rfl ?_); refine goesL_ (some 80) rfl rfl Try.func42 (by kernel_rfl) rfl #[.string (x4_1.extract 0 ((ji37) : Int).toNat), .int .i64 3] rfl (by (try simp only [List.map_toArray, List.map_cons, List.map_nil]); first | done | (simp only [hji37]; rfl) | rfl | (simp only [List.length_drop, List.length_take]; rfl)) ?_; (with_reducible refine (impl_ScanFrames.calls kj25 (x4_1.extract 0 ((ji37) : Int).toNat) 3 t262 t263 _ A40.out).mono ?_); rintro e w73 ⟨v264, rfl, ho0, hb⟩; refine ⟨_, rfl, ?_⟩; replace HO_5 := rB HO_5 hb; replace HO260 := rB HO260 hb; replace HO265 := ak (Kd.R_lower (Kd.R_new' ho0 (Kd.R_lt (rG HO_3))) (below_size (lG HB))); replace HO_3 := ak (Kd.R_elder' (rG HO_3) (Kd.R_base ho0) hb); replace HB := lB HB hb; (try clear hb); (try clear hk); (try clear ho0); obtain ⟨Ao74, co74, eo74⟩ := Kd.R_slice HO265.out; subst eo74; obtain ⟨Ao75, co75, eo75⟩ := Kd.R_slice HO_5.out; subst eo75; have p266 : 0 ≤ ((t262.length : Int) : Int) := of_decide_eq_true (by first | (with_reducible assumption) | assumption); have q266 : (t262.length : Int) < (x5_1.length : Int) := of_decide_eq_true (by first | (with_reducible assumption) | assumption); obtain ⟨ad266, e266, hx266_0⟩ := Kd.at_int (Kd.R_reads' HO_5.out).2.2 (t262.length : Int) p266 q266; cases e266; (try simp only [Go.IntWalk.toNatUp] at hx266_0); replace p266 := eq_true p266; replace q266 := eq_true q266))
                go_ret
                exact ⟨by first | rfl | (simp [errW_none, errW_some] <;> rfl) | (simp only [← hji37]; first | rfl | (simp [errW_none, errW_some] <;> rfl)) | (simp [*, errW_none, errW_some] <;> rfl), by exact lG HB⟩
              ·rw [if_neg c43] at H
               have c43b0 : (t263 == (rd x5_1 (t262.length : Int))) = false := beq_eq_false_iff_ne.mpr c43
               have c43b1 : (t263 != (rd x5_1 (t262.length : Int))) = true := bne_iff_ne.mpr c43
               obtain rfl := Option.some.inj H
               go_wp2_with (first | ((with_reducible refine gate_callee (f := 21) rfl ?_); refine gl (some 69) Try.func21 #[.slice A0 l0.length c0] ?_; (with_reducible refine (spec_DrawPlaces.calls kj25 _ _ l0 t258 _ ?side1 ?side2 A34.out).mono ?_); (case side1 => exact cG (Kd.C_below HR0.out HB.out)); (case side2 => exact HC0.out); rintro e w76 ⟨v259, rfl, ho0, hb⟩; refine ⟨_, rfl, ?_⟩; replace HO_3 := rB HO_3 hb; replace HO260 := ak (Kd.R_lower (Kd.R_new' ho0 (Kd.R_lt (rG HO_5))) (below_size (lG HB))); replace HO_5 := ak (Kd.R_elder' (rG HO_5) (Kd.R_base ho0) hb); replace HB := lB HB hb; (try clear hb); (try clear hk); (try clear ho0); obtain ⟨Ao77, co77, eo77⟩ := Kd.R_slice HO260.out; subst eo77; have p261 : 0 ≤ (0 : Int) := (by omega); have q261 : 0 < (t258.length : Int) := of_decide_eq_true (by first | (with_reducible assumption) | assumption); obtain ⟨ad261, e261, hx261_0⟩ := Kd.at_int (Kd.R_reads' HO260.out).2.2 0 p261 q261; cases e261; have qi261 : (0 < t258.length) = True := eq_true (by omega); (try rw [show ((0 : Int)).toNat = 0 from rfl] at hx261_0); (try rw [Addr.add_zero'] at hx261_0); replace p261 := eq_true p261; replace q261 := eq_true q261) | ((with_reducible refine gate_callee (f := 42) rfl ?_); refine goesL_ (some 80) rfl rfl Try.func42 (by kernel_rfl) rfl #[.string (x4_1.extract 0 ((ji37) : Int).toNat), .int .i64 3] rfl (by (try simp only [List.map_toArray, List.map_cons, List.map_nil]); first | done | (simp only [hji37]; rfl) | rfl | (simp only [List.length_drop, List.length_take]; rfl)) ?_; (with_reducible refine (impl_ScanFrames.calls kj25 (x4_1.extract 0 ((ji37) : Int).toNat) 3 t262 t263 _ A40.out).mono ?_); rintro e w78 ⟨v264, rfl, ho0, hb⟩; refine ⟨_, rfl, ?_⟩; replace HO_5 := rB HO_5 hb; replace HO260 := rB HO260 hb; replace HO265 := ak (Kd.R_lower (Kd.R_new' ho0 (Kd.R_lt (rG HO_3))) (below_size (lG HB))); replace HO_3 := ak (Kd.R_elder' (rG HO_3) (Kd.R_base ho0) hb); replace HB := lB HB hb; (try clear hb); (try clear hk); (try clear ho0); obtain ⟨Ao79, co79, eo79⟩ := Kd.R_slice HO265.out; subst eo79; obtain ⟨Ao80, co80, eo80⟩ := Kd.R_slice HO_5.out; subst eo80; have p266 : 0 ≤ ((t262.length : Int) : Int) := of_decide_eq_true (by first | (with_reducible assumption) | assumption); have q266 : (t262.length : Int) < (x5_1.length : Int) := of_decide_eq_true (by first | (with_reducible assumption) | assumption); obtain ⟨ad266, e266, hx266_0⟩ := Kd.at_int (Kd.R_reads' HO_5.out).2.2 (t262.length : Int) p266 q266; cases e266; (try simp only [Go.IntWalk.toNatUp] at hx266_0); replace p266 := eq_true p266; replace q266 := eq_true q266))
               go_ret
               exact ⟨by first | rfl | (simp [errW_none, errW_some] <;> rfl) | (simp only [← hji37]; first | rfl | (simp [errW_none, errW_some] <;> rfl)) | (simp [*, errW_none, errW_some] <;> rfl), by exact lG HB⟩
             ·rw [if_neg c42] at H
              exact absurd H (by simp)
            ·rw [if_neg c41] at H
             have c41b0 : decide ((t262.length : Int) < (x5_1.length : Int)) = false := decide_eq_false c41
             have c41b1 : decide (t262.length < x5_1.length) = false := decide_eq_false (fun h => c41 (Int.ofNat_lt.mpr h))
             clear c41
             obtain rfl := Option.some.inj H
             go_wp2_with (first | ((with_reducible refine gate_callee (f := 21) rfl ?_); refine gl (some 69) Try.func21 #[.slice A0 l0.length c0] ?_; (with_reducible refine (spec_DrawPlaces.calls kj25 _ _ l0 t258 _ ?side1 ?side2 A34.out).mono ?_); (case side1 => exact cG (Kd.C_below HR0.out HB.out)); (case side2 => exact HC0.out); rintro e w81 ⟨v259, rfl, ho0, hb⟩; refine ⟨_, rfl, ?_⟩; replace HO_3 := rB HO_3 hb; replace HO260 := ak (Kd.R_lower (Kd.R_new' ho0 (Kd.R_lt (rG HO_5))) (below_size (lG HB))); replace HO_5 := ak (Kd.R_elder' (rG HO_5) (Kd.R_base ho0) hb); replace HB := lB HB hb; (try clear hb); (try clear hk); (try clear ho0); obtain ⟨Ao82, co82, eo82⟩ := Kd.R_slice HO260.out; subst eo82; have p261 : 0 ≤ (0 : Int) := (by omega); have q261 : 0 < (t258.length : Int) := of_decide_eq_true (by first | (with_reducible assumption) | assumption); obtain ⟨ad261, e261, hx261_0⟩ := Kd.at_int (Kd.R_reads' HO260.out).2.2 0 p261 q261; cases e261; have qi261 : (0 < t258.length) = True := eq_true (by omega); (try rw [show ((0 : Int)).toNat = 0 from rfl] at hx261_0); (try rw [Addr.add_zero'] at hx261_0); replace p261 := eq_true p261; replace q261 := eq_true q261) | ((with_reducible refine gate_callee (f := 42) rfl ?_); refine goesL_ (some 80) rfl rfl Try.func42 (by kernel_rfl) rfl #[.string (x4_1.extract 0 ((ji37) : Int).toNat), .int .i64 3] rfl (by (try simp only [List.map_toArray, List.map_cons, List.map_nil]); first | done | (simp only [hji37]; rfl) | rfl | (simp only [List.length_drop, List.length_take]; rfl)) ?_; (with_reducible refine (impl_ScanFrames.calls kj25 (x4_1.extract 0 ((ji37) : Int).toNat) 3 t262 t263 _ A40.out).mono ?_); rintro e w83 ⟨v264, rfl, ho0, hb⟩; refine ⟨_, rfl, ?_⟩; replace HO_5 := rB HO_5 hb; replace HO260 := rB HO260 hb; replace HO265 := ak (Kd.R_lower (Kd.R_new' ho0 (Kd.R_lt (rG HO_3))) (below_size (lG HB))); replace HO_3 := ak (Kd.R_elder' (rG HO_3) (Kd.R_base ho0) hb); replace HB := lB HB hb; (try clear hb); (try clear hk); (try clear ho0); obtain ⟨Ao84, co84, eo84⟩ := Kd.R_slice HO265.out; subst eo84; obtain ⟨Ao85, co85, eo85⟩ := Kd.R_slice HO_5.out; subst eo85))
             go_ret
             exact ⟨by first | rfl | (simp [errW_none, errW_some] <;> rfl) | (simp only [← hji37]; first | rfl | (simp [errW_none, errW_some] <;> rfl)) | (simp [*, errW_none, errW_some] <;> rfl), by exact lG HB⟩
           ·rw [if_neg c39] at H
            exact absurd H (by simp)
          ·rw [if_neg c38] at H
           exact absurd H (by simp)
        ·rw [if_neg c35] at H
         exact absurd H (by simp)

/-- THE ONE PURE STATEMENT of laws_FnFrames: yours. -/
def laws_FnFrames.Pure : Prop := ∀ (l0 : List Int), l0.length ≤ maxLen → l0.length * 1 ≤ 140737488351232 → (∀ x ∈ l0, (Lit.int .u8 x).wf = true) → ∃ k, laws_FnFrames.f k l0 = some true
theorem laws_FnFrames.walk (P : laws_FnFrames.Pure) (a0 : Option Addr) (len0 cap0 : Nat) (z0 : List Int) (w : World) (w0 : (a0 = none ∧ len0 = 0 ∧ cap0 = 0 ∧ z0 = []) ∨ ∃ x, a0 = some x ∧ len0 ≤ cap0 ∧ cap0 ≤ maxLen ∧ z0.length = cap0 ∧ (∀ i, i < z0.length → w.cell? (x.add i) = some (.int .u8 (z0.getD i 0))) ∧ ∀ n ∈ z0, (Lit.int .u8 n).wf = true) (y0 : len0 * 1 ≤ 140737488351232) :
  Calls Try.prog 11 #[.slice a0 len0 cap0] w fun e w' => e = .returned (.bool true) ∧ Below w.heap.size w w' := by
 obtain ⟨l0, rfl, hr0, hm0, hw0, hc0⟩ := ReadsInt.ofRowC w0
 obtain ⟨k, h⟩ := P l0 hm0 y0 hw0
 refine (laws_FnFrames.calls k _ _ l0 true w (Kd.C_of_reads (d := (0 : Int)) (h1 := fun _ => rfl) hr0) hc0 h).mono ?_
 rintro e w' ⟨rfl, hd⟩
 exact ⟨rfl, hd⟩

end Go.Proofs.Ytneffinmiffhpaa.PFnFrames
