-- printed
import Derived.Test.YtagkjeldheiejaaPFnStatesToldx4
import Derived.Test.YtagkjeldheiejaaVFnStatesTold1
namespace Go.Proofs.Ytagkjeldheiejaa.PFnStatesTold
open Go.RowKit YtagkjeldheiejaaW.PrintWords YtagkjeldheiejaaW.PrintLast YtagkjeldheiejaaW.PrintMore
set_option linter.unusedVariables false
set_option linter.unusedSimpArgs false
attribute [local go_sem] max2_int min2_int max_two min_two max_three min_three max_four min_four
set_option maxHeartbeats 8000000
set_option maxRecDepth 100000
def spec_RecOk.f (k : Nat) (a0_0 : Int) (a0_1 : Int) (a0_2 : Int) (a0_3 : Int) (a0_4 : Int) (a0_5 : ByteArray) (a0_6 : ByteArray) (a0_7 : ByteArray) : Option (Bool) := (spec_l01In.f a0_0 1 5).bind fun t103 => (if t103 = true then ((spec_l01In.f a0_1 1 9999).bind fun t104 => (if t104 = true then (if a0_0 = 3 then (if a0_0 = 1 then ((spec_WordOk.f k a0_5).bind fun t105 => (if t105 = true then ((spec_WordOk.f k a0_6).bind fun t106 => (if t106 = true then ((spec_l01In.f a0_3 1 10000).bind fun t107 => (if t107 = true then ((spec_l01In.f a0_2 1 9999).bind fun t108 => (if t108 = true then ((spec_l01In.f a0_4 0 7).bind fun t109 => (if t109 = true then (some (decide ((a0_7.size : Int) ≤ 100))) else (some false))) else (some false))) else (some false))) else (some false))) else (some false))) else (if a0_5.toList = ([] : List UInt8) then (if a0_6.toList = ([] : List UInt8) then (if a0_3 = 0 then ((spec_l01In.f a0_2 1 9999).bind fun t110 => (if t110 = true then ((spec_l01In.f a0_4 0 7).bind fun t111 => (if t111 = true then (some (decide ((a0_7.size : Int) ≤ 100))) else (some false))) else (some false))) else (some false)) else (some false)) else (some false))) else (if a0_0 = 4 then (if a0_0 = 1 then ((spec_WordOk.f k a0_5).bind fun t112 => (if t112 = true then ((spec_WordOk.f k a0_6).bind fun t113 => (if t113 = true then ((spec_l01In.f a0_3 1 10000).bind fun t114 => (if t114 = true then ((spec_l01In.f a0_2 1 9999).bind fun t115 => (if t115 = true then ((spec_l01In.f a0_4 0 7).bind fun t116 => (if t116 = true then (some (a0_7.toList == ([] : List UInt8))) else (some false))) else (some false))) else (some false))) else (some false))) else (some false))) else (if a0_5.toList = ([] : List UInt8) then (if a0_6.toList = ([] : List UInt8) then (if a0_3 = 0 then ((spec_l01In.f a0_2 1 9999).bind fun t117 => (if t117 = true then ((spec_l01In.f a0_4 0 7).bind fun t118 => (if t118 = true then (some (a0_7.toList == ([] : List UInt8))) else (some false))) else (some false))) else (some false)) else (some false)) else (some false))) else (if a0_0 = 1 then ((spec_WordOk.f k a0_5).bind fun t119 => (if t119 = true then ((spec_WordOk.f k a0_6).bind fun t120 => (if t120 = true then ((spec_l01In.f a0_3 1 10000).bind fun t121 => (if t121 = true then (if a0_0 = 5 then ((spec_l01In.f a0_2 1 9999).bind fun t122 => (if t122 = true then (if a0_4 = 0 then (some (a0_7.toList == ([] : List UInt8))) else (some false)) else (some false))) else (if a0_2 = 0 then (if a0_4 = 0 then (some (a0_7.toList == ([] : List UInt8))) else (some false)) else (some false))) else (some false))) else (some false))) else (some false))) else (if a0_5.toList = ([] : List UInt8) then (if a0_6.toList = ([] : List UInt8) then (if a0_3 = 0 then (if a0_0 = 5 then ((spec_l01In.f a0_2 1 9999).bind fun t123 => (if t123 = true then (if a0_4 = 0 then (some (a0_7.toList == ([] : List UInt8))) else (some false)) else (some false))) else (if a0_2 = 0 then (if a0_4 = 0 then (some (a0_7.toList == ([] : List UInt8))) else (some false)) else (some false))) else (some false)) else (some false)) else (some false))))) else (some false))) else (some false))
theorem spec_RecOk.mono : ∀ a0 a1 a2 a3 a4 a5 a6 a7 k, LeO (spec_RecOk.f k a0 a1 a2 a3 a4 a5 a6 a7) (spec_RecOk.f (k + 1) a0 a1 a2 a3 a4 a5 a6 a7) := by
 intro a0 a1 a2 a3 a4 a5 a6 a7 k
 unfold spec_RecOk.f
 repeat' with_reducible first | exact spec_WordOk.mono _ _ | exact LeO.refl _ | exact LeO.none _ | refine LeO.ite ?_ ?_ | refine LeO.bind ?_ (fun _ => ?_)
theorem spec_RecOk.calls (k : Nat) (a0_0 : Int) (a0_1 : Int) (a0_2 : Int) (a0_3 : Int) (a0_4 : Int) (a0_5 : ByteArray) (a0_6 : ByteArray) (a0_7 : ByteArray) (r : Bool) (w : World) (h : spec_RecOk.f k a0_0 a0_1 a0_2 a0_3 a0_4 a0_5 a0_6 a0_7 = some r) :
  Calls Try.prog 27 #[.agg #[.int .i64 a0_0, .int .i64 a0_1, .int .i64 a0_2, .int .i64 a0_3, .int .i64 a0_4, .string a0_5, .string a0_6, .string a0_7]] w fun e w' => e = .returned (.bool r) ∧ Below w.heap.size w w' := by
 have hu23 := Try.underlying23
 have HB := ak (Below.refl w.heap.size w)
 have H := h
 clear h
 unfold spec_RecOk.f at H
 obtain ⟨t103, A2, H⟩ := eb H
 try dsimp only at H
 have HS_ := Aside0.mk H
 clear H
 go_enter Try.func27, Try.ntmps27
 go_wp2_with (first | ((with_reducible refine gate_dst (N := 1) rfl ?_); refine bx 1 #[.int .i64 a0_0, .int .i64 a0_1, .int .i64 a0_2, .int .i64 a0_3, .int .i64 a0_4, .string a0_5, .string a0_6, .string a0_7] 23 ?_; intro gb102 hg w18 hbox hb; replace BK102 := ak (hbox); replace GE102 := ak (bz hg (lG HB)); replace HB := lB HB hb; clear hb hbox hg; obtain ⟨_, _, _, _, _, _, _, _, _, _, _, _, _, _, _, _⟩ := bC8 BK102) | ((with_reducible refine gate_callee (f := 61) rfl ?_); refine gl (some 8) Try.func61 #[.int .i64 a0_0, .int .i64 1, .int .i64 5] ?_; (with_reducible refine (spec_l01In.calls a0_0 1 5 _ _ A2.out).mono ?_); rintro e w' ⟨rfl, ⟨nd, rfl⟩⟩; refine ⟨_, rfl, ?_⟩; refine Stop.out ?_))
 have H := HS_.out
 clear HS_
 by_cases c3 : t103 = true
 {
 subst c3
 rw [if_pos rfl] at H
 obtain ⟨t104, A4, H⟩ := eb H
 try dsimp only at H
 have HS_ := Aside0.mk H
 clear H
 refine ⟨?_⟩
 go_wp2_with (go_at_call 61; (with_reducible refine (spec_l01In.calls a0_1 1 9999 _ _ A4.out).mono ?_); rintro e w' ⟨rfl, ⟨nd, rfl⟩⟩; refine Stop.out ?_)
 have H := HS_.out
 clear HS_
 by_cases c5 : t104 = true
 {
 subst c5
 rw [if_pos rfl] at H
 by_cases c6 : a0_0 = 3
 {
 rw [if_pos c6] at H
 have c6b0 := beq_iff_eq.mpr c6
 have c6b1 := bne_eq_false_iff_eq.mpr c6
 clear c6
 by_cases c7 : a0_0 = 1
 {
 rw [if_pos c7] at H
 have c7b0 := beq_iff_eq.mpr c7
 have c7b1 := bne_eq_false_iff_eq.mpr c7
 clear c7
 obtain ⟨t105, A8, H⟩ := eb H
 try dsimp only at H
 have HS_ := Aside0.mk H
 clear H
 refine ⟨?_⟩
 go_wp2_with (go_at_call 32; (with_reducible refine (spec_WordOk.calls k a0_5 _ _ A8.out).mono ?_); rintro e w' ⟨rfl, ⟨nd, rfl⟩⟩; refine Stop.out ?_)
 have H := HS_.out
 clear HS_
 by_cases c9 : t105 = true
 {
 subst c9
 rw [if_pos rfl] at H
 obtain ⟨t106, A10, H⟩ := eb H
 try dsimp only at H
 have HS_ := Aside0.mk H
 clear H
 refine ⟨?_⟩
 go_wp2_with (go_at_call 32; (with_reducible refine (spec_WordOk.calls k a0_6 _ _ A10.out).mono ?_); rintro e w' ⟨rfl, ⟨nd, rfl⟩⟩; refine Stop.out ?_)
 have H := HS_.out
 clear HS_
 by_cases c11 : t106 = true
 {
 subst c11
 rw [if_pos rfl] at H
 obtain ⟨t107, A12, H⟩ := eb H
 try dsimp only at H
 have HS_ := Aside0.mk H
 clear H
 refine ⟨?_⟩
 go_wp2_with (go_at_call 61; (with_reducible refine (spec_l01In.calls a0_3 1 10000 _ _ A12.out).mono ?_); rintro e w' ⟨rfl, ⟨nd, rfl⟩⟩; refine Stop.out ?_)
 have H := HS_.out
 clear HS_
 by_cases c13 : t107 = true
 {
 subst c13
 rw [if_pos rfl] at H
 obtain ⟨t108, A14, H⟩ := eb H
 try dsimp only at H
 have HS_ := Aside0.mk H
 clear H
 refine ⟨?_⟩
 go_wp2_with (go_at_call 61; (with_reducible refine (spec_l01In.calls a0_2 1 9999 _ _ A14.out).mono ?_); rintro e w' ⟨rfl, ⟨nd, rfl⟩⟩; refine Stop.out ?_)
 have H := HS_.out
 clear HS_
 by_cases c15 : t108 = true
 {
 subst c15
 rw [if_pos rfl] at H
 obtain ⟨t109, A16, H⟩ := eb H
 try dsimp only at H
 have HS_ := Aside0.mk H
 clear H
 refine ⟨?_⟩
 go_wp2_with (go_at_call 61; (with_reducible refine (spec_l01In.calls a0_4 0 7 _ _ A16.out).mono ?_); rintro e w' ⟨rfl, ⟨nd, rfl⟩⟩; refine Stop.out ?_)
 have H := HS_.out
 clear HS_
 by_cases c17 : t109 = true
 {
 subst c17
 rw [if_pos rfl] at H
 obtain rfl := Option.some.inj H
 refine ⟨?_⟩
 go_wp2
 go_ret
 exact ⟨ew, by exact lT HB (gC GE102 gN)⟩
 }
 {
 replace c17 := Bool.eq_false_iff.mpr c17
 subst c17
 rw [if_neg (show ¬ (false = true) by decide)] at H
 obtain rfl := Option.some.inj H
 refine ⟨?_⟩
 go_wp2
 go_ret
 exact ⟨ew, by exact lT HB (gC GE102 gN)⟩
 }
 }
 {
 replace c15 := Bool.eq_false_iff.mpr c15
 subst c15
 rw [if_neg (show ¬ (false = true) by decide)] at H
 obtain rfl := Option.some.inj H
 refine ⟨?_⟩
 go_wp2
 go_ret
 exact ⟨ew, by exact lT HB (gC GE102 gN)⟩
 }
 }
 {
 replace c13 := Bool.eq_false_iff.mpr c13
 subst c13
 rw [if_neg (show ¬ (false = true) by decide)] at H
 obtain rfl := Option.some.inj H
 refine ⟨?_⟩
 go_wp2
 go_ret
 exact ⟨ew, by exact lT HB (gC GE102 gN)⟩
 }
 }
 {
 replace c11 := Bool.eq_false_iff.mpr c11
 subst c11
 rw [if_neg (show ¬ (false = true) by decide)] at H
 obtain rfl := Option.some.inj H
 refine ⟨?_⟩
 go_wp2
 go_ret
 exact ⟨ew, by exact lT HB (gC GE102 gN)⟩
 }
 }
 {
 replace c9 := Bool.eq_false_iff.mpr c9
 subst c9
 rw [if_neg (show ¬ (false = true) by decide)] at H
 obtain rfl := Option.some.inj H
 refine ⟨?_⟩
 go_wp2
 go_ret
 exact ⟨ew, by exact lT HB (gC GE102 gN)⟩
 }
 }
 {
 rw [if_neg c7] at H
 have c7b0 := beq_eq_false_iff_ne.mpr c7
 have c7b1 := bne_iff_ne.mpr c7
 by_cases c30 : a0_5.toList = ([] : List UInt8)
 {
 rw [if_pos c30] at H
 have c30b0 := beq_iff_eq.mpr c30
 have c30b1 := bne_eq_false_iff_eq.mpr c30
 clear c30
 by_cases c31 : a0_6.toList = ([] : List UInt8)
 {
 rw [if_pos c31] at H
 have c31b0 := beq_iff_eq.mpr c31
 have c31b1 := bne_eq_false_iff_eq.mpr c31
 clear c31
 by_cases c32 : a0_3 = 0
 {
 rw [if_pos c32] at H
 have c32b0 := beq_iff_eq.mpr c32
 have c32b1 := bne_eq_false_iff_eq.mpr c32
 clear c32
 obtain ⟨t110, A33, H⟩ := eb H
 try dsimp only at H
 have HS_ := Aside0.mk H
 clear H
 refine ⟨?_⟩
 go_wp2_with (go_at_call 61; (with_reducible refine (spec_l01In.calls a0_2 1 9999 _ _ A33.out).mono ?_); rintro e w' ⟨rfl, ⟨nd, rfl⟩⟩; refine Stop.out ?_)
 have H := HS_.out
 clear HS_
 by_cases c34 : t110 = true
 {
 subst c34
 rw [if_pos rfl] at H
 obtain ⟨t111, A35, H⟩ := eb H
 try dsimp only at H
 have HS_ := Aside0.mk H
 clear H
 refine ⟨?_⟩
 go_wp2_with (go_at_call 61; (with_reducible refine (spec_l01In.calls a0_4 0 7 _ _ A35.out).mono ?_); rintro e w' ⟨rfl, ⟨nd, rfl⟩⟩; refine Stop.out ?_)
 have H := HS_.out
 clear HS_
 by_cases c36 : t111 = true
 {
 subst c36
 rw [if_pos rfl] at H
 obtain rfl := Option.some.inj H
 refine ⟨?_⟩
 go_wp2
 go_ret
 exact ⟨ew, by exact lT HB (gC GE102 gN)⟩
 }
 {
 replace c36 := Bool.eq_false_iff.mpr c36
 subst c36
 rw [if_neg (show ¬ (false = true) by decide)] at H
 obtain rfl := Option.some.inj H
 refine ⟨?_⟩
 go_wp2
 go_ret
 exact ⟨ew, by exact lT HB (gC GE102 gN)⟩
 }
 }
 {
 replace c34 := Bool.eq_false_iff.mpr c34
 subst c34
 rw [if_neg (show ¬ (false = true) by decide)] at H
 obtain rfl := Option.some.inj H
 refine ⟨?_⟩
 go_wp2
 go_ret
 exact ⟨ew, by exact lT HB (gC GE102 gN)⟩
 }
 }
 {
 rw [if_neg c32] at H
 have c32b0 := beq_eq_false_iff_ne.mpr c32
 have c32b1 := bne_iff_ne.mpr c32
 obtain rfl := Option.some.inj H
 refine ⟨?_⟩
 go_wp2
 go_ret
 exact ⟨ew, by exact lT HB (gC GE102 gN)⟩
 }
 }
 {
 rw [if_neg c31] at H
 have c31b0 := beq_eq_false_iff_ne.mpr c31
 have c31b1 := bne_iff_ne.mpr c31
 obtain rfl := Option.some.inj H
 refine ⟨?_⟩
 go_wp2
 go_ret
 exact ⟨ew, by exact lT HB (gC GE102 gN)⟩
 }
 }
 {
 rw [if_neg c30] at H
 have c30b0 := beq_eq_false_iff_ne.mpr c30
 have c30b1 := bne_iff_ne.mpr c30
 obtain rfl := Option.some.inj H
 refine ⟨?_⟩
 go_wp2
 go_ret
 exact ⟨ew, by exact lT HB (gC GE102 gN)⟩
 }
 }
 }
 {
 rw [if_neg c6] at H
 have c6b0 := beq_eq_false_iff_ne.mpr c6
 have c6b1 := bne_iff_ne.mpr c6
 by_cases c49 : a0_0 = 4
 {
 rw [if_pos c49] at H
 have c49b0 := beq_iff_eq.mpr c49
 have c49b1 := bne_eq_false_iff_eq.mpr c49
 clear c49
 by_cases c50 : a0_0 = 1
 {
 rw [if_pos c50] at H
 have c50b0 := beq_iff_eq.mpr c50
 have c50b1 := bne_eq_false_iff_eq.mpr c50
 clear c50
 obtain ⟨t112, A51, H⟩ := eb H
 try dsimp only at H
 have HS_ := Aside0.mk H
 clear H
 refine ⟨?_⟩
 go_wp2_with (go_at_call 32; (with_reducible refine (spec_WordOk.calls k a0_5 _ _ A51.out).mono ?_); rintro e w' ⟨rfl, ⟨nd, rfl⟩⟩; refine Stop.out ?_)
 have H := HS_.out
 clear HS_
 by_cases c52 : t112 = true
 {
 subst c52
 rw [if_pos rfl] at H
 obtain ⟨t113, A53, H⟩ := eb H
 try dsimp only at H
 have HS_ := Aside0.mk H
 clear H
 refine ⟨?_⟩
 go_wp2_with (go_at_call 32; (with_reducible refine (spec_WordOk.calls k a0_6 _ _ A53.out).mono ?_); rintro e w' ⟨rfl, ⟨nd, rfl⟩⟩; refine Stop.out ?_)
 have H := HS_.out
 clear HS_
 by_cases c54 : t113 = true
 {
 subst c54
 rw [if_pos rfl] at H
 obtain ⟨t114, A55, H⟩ := eb H
 try dsimp only at H
 have HS_ := Aside0.mk H
 clear H
 refine ⟨?_⟩
 go_wp2_with (go_at_call 61; (with_reducible refine (spec_l01In.calls a0_3 1 10000 _ _ A55.out).mono ?_); rintro e w' ⟨rfl, ⟨nd, rfl⟩⟩; refine Stop.out ?_)
 have H := HS_.out
 clear HS_
 by_cases c56 : t114 = true
 {
 subst c56
 rw [if_pos rfl] at H
 obtain ⟨t115, A57, H⟩ := eb H
 try dsimp only at H
 have HS_ := Aside0.mk H
 clear H
 refine ⟨?_⟩
 go_wp2_with (go_at_call 61; (with_reducible refine (spec_l01In.calls a0_2 1 9999 _ _ A57.out).mono ?_); rintro e w' ⟨rfl, ⟨nd, rfl⟩⟩; refine Stop.out ?_)
 have H := HS_.out
 clear HS_
 by_cases c58 : t115 = true
 {
 subst c58
 rw [if_pos rfl] at H
 obtain ⟨t116, A59, H⟩ := eb H
 try dsimp only at H
 have HS_ := Aside0.mk H
 clear H
 refine ⟨?_⟩
 go_wp2_with (go_at_call 61; (with_reducible refine (spec_l01In.calls a0_4 0 7 _ _ A59.out).mono ?_); rintro e w' ⟨rfl, ⟨nd, rfl⟩⟩; refine Stop.out ?_)
 have H := HS_.out
 clear HS_
 by_cases c60 : t116 = true
 {
 subst c60
 rw [if_pos rfl] at H
 obtain rfl := Option.some.inj H
 refine ⟨?_⟩
 go_wp2
 go_ret
 exact ⟨ew, by exact lT HB (gC GE102 gN)⟩
 }
 {
 replace c60 := Bool.eq_false_iff.mpr c60
 subst c60
 rw [if_neg (show ¬ (false = true) by decide)] at H
 obtain rfl := Option.some.inj H
 refine ⟨?_⟩
 go_wp2
 go_ret
 exact ⟨ew, by exact lT HB (gC GE102 gN)⟩
 }
 }
 {
 replace c58 := Bool.eq_false_iff.mpr c58
 subst c58
 rw [if_neg (show ¬ (false = true) by decide)] at H
 obtain rfl := Option.some.inj H
 refine ⟨?_⟩
 go_wp2
 go_ret
 exact ⟨ew, by exact lT HB (gC GE102 gN)⟩
 }
 }
 {
 replace c56 := Bool.eq_false_iff.mpr c56
 subst c56
 rw [if_neg (show ¬ (false = true) by decide)] at H
 obtain rfl := Option.some.inj H
 refine ⟨?_⟩
 go_wp2
 go_ret
 exact ⟨ew, by exact lT HB (gC GE102 gN)⟩
 }
 }
 {
 replace c54 := Bool.eq_false_iff.mpr c54
 subst c54
 rw [if_neg (show ¬ (false = true) by decide)] at H
 obtain rfl := Option.some.inj H
 refine ⟨?_⟩
 go_wp2
 go_ret
 exact ⟨ew, by exact lT HB (gC GE102 gN)⟩
 }
 }
 {
 replace c52 := Bool.eq_false_iff.mpr c52
 subst c52
 rw [if_neg (show ¬ (false = true) by decide)] at H
 obtain rfl := Option.some.inj H
 refine ⟨?_⟩
 go_wp2
 go_ret
 exact ⟨ew, by exact lT HB (gC GE102 gN)⟩
 }
 }
 {
 rw [if_neg c50] at H
 have c50b0 := beq_eq_false_iff_ne.mpr c50
 have c50b1 := bne_iff_ne.mpr c50
 by_cases c73 : a0_5.toList = ([] : List UInt8)
 {
 rw [if_pos c73] at H
 have c73b0 := beq_iff_eq.mpr c73
 have c73b1 := bne_eq_false_iff_eq.mpr c73
 clear c73
 by_cases c74 : a0_6.toList = ([] : List UInt8)
 {
 rw [if_pos c74] at H
 have c74b0 := beq_iff_eq.mpr c74
 have c74b1 := bne_eq_false_iff_eq.mpr c74
 clear c74
 by_cases c75 : a0_3 = 0
 {
 rw [if_pos c75] at H
 have c75b0 := beq_iff_eq.mpr c75
 have c75b1 := bne_eq_false_iff_eq.mpr c75
 clear c75
 obtain ⟨t117, A76, H⟩ := eb H
 try dsimp only at H
 have HS_ := Aside0.mk H
 clear H
 refine ⟨?_⟩
 go_wp2_with (go_at_call 61; (with_reducible refine (spec_l01In.calls a0_2 1 9999 _ _ A76.out).mono ?_); rintro e w' ⟨rfl, ⟨nd, rfl⟩⟩; refine Stop.out ?_)
 have H := HS_.out
 clear HS_
 by_cases c77 : t117 = true
 {
 subst c77
 rw [if_pos rfl] at H
 obtain ⟨t118, A78, H⟩ := eb H
 try dsimp only at H
 have HS_ := Aside0.mk H
 clear H
 refine ⟨?_⟩
 go_wp2_with (go_at_call 61; (with_reducible refine (spec_l01In.calls a0_4 0 7 _ _ A78.out).mono ?_); rintro e w' ⟨rfl, ⟨nd, rfl⟩⟩; refine Stop.out ?_)
 have H := HS_.out
 clear HS_
 by_cases c79 : t118 = true
 {
 subst c79
 rw [if_pos rfl] at H
 obtain rfl := Option.some.inj H
 refine ⟨?_⟩
 go_wp2
 go_ret
 exact ⟨ew, by exact lT HB (gC GE102 gN)⟩
 }
 {
 replace c79 := Bool.eq_false_iff.mpr c79
 subst c79
 rw [if_neg (show ¬ (false = true) by decide)] at H
 obtain rfl := Option.some.inj H
 refine ⟨?_⟩
 go_wp2
 go_ret
 exact ⟨ew, by exact lT HB (gC GE102 gN)⟩
 }
 }
 {
 replace c77 := Bool.eq_false_iff.mpr c77
 subst c77
 rw [if_neg (show ¬ (false = true) by decide)] at H
 obtain rfl := Option.some.inj H
 refine ⟨?_⟩
 go_wp2
 go_ret
 exact ⟨ew, by exact lT HB (gC GE102 gN)⟩
 }
 }
 {
 rw [if_neg c75] at H
 have c75b0 := beq_eq_false_iff_ne.mpr c75
 have c75b1 := bne_iff_ne.mpr c75
 obtain rfl := Option.some.inj H
 refine ⟨?_⟩
 go_wp2
 go_ret
 exact ⟨ew, by exact lT HB (gC GE102 gN)⟩
 }
 }
 {
 rw [if_neg c74] at H
 have c74b0 := beq_eq_false_iff_ne.mpr c74
 have c74b1 := bne_iff_ne.mpr c74
 obtain rfl := Option.some.inj H
 refine ⟨?_⟩
 go_wp2
 go_ret
 exact ⟨ew, by exact lT HB (gC GE102 gN)⟩
 }
 }
 {
 rw [if_neg c73] at H
 have c73b0 := beq_eq_false_iff_ne.mpr c73
 have c73b1 := bne_iff_ne.mpr c73
 obtain rfl := Option.some.inj H
 refine ⟨?_⟩
 go_wp2
 go_ret
 exact ⟨ew, by exact lT HB (gC GE102 gN)⟩
 }
 }
 }
 {
 rw [if_neg c49] at H
 have c49b0 := beq_eq_false_iff_ne.mpr c49
 have c49b1 := bne_iff_ne.mpr c49
 by_cases c92 : a0_0 = 1
 {
 rw [if_pos c92] at H
 have c92b0 := beq_iff_eq.mpr c92
 have c92b1 := bne_eq_false_iff_eq.mpr c92
 clear c92
 obtain ⟨t119, A93, H⟩ := eb H
 try dsimp only at H
 have HS_ := Aside0.mk H
 clear H
 refine ⟨?_⟩
 go_wp2_with (go_at_call 32; (with_reducible refine (spec_WordOk.calls k a0_5 _ _ A93.out).mono ?_); rintro e w' ⟨rfl, ⟨nd, rfl⟩⟩; refine Stop.out ?_)
 have H := HS_.out
 clear HS_
 by_cases c94 : t119 = true
 {
 subst c94
 rw [if_pos rfl] at H
 obtain ⟨t120, A95, H⟩ := eb H
 try dsimp only at H
 have HS_ := Aside0.mk H
 clear H
 refine ⟨?_⟩
 go_wp2_with (go_at_call 32; (with_reducible refine (spec_WordOk.calls k a0_6 _ _ A95.out).mono ?_); rintro e w' ⟨rfl, ⟨nd, rfl⟩⟩; refine Stop.out ?_)
 have H := HS_.out
 clear HS_
 by_cases c96 : t120 = true
 {
 subst c96
 rw [if_pos rfl] at H
 obtain ⟨t121, A97, H⟩ := eb H
 try dsimp only at H
 have HS_ := Aside0.mk H
 clear H
 refine ⟨?_⟩
 go_wp2_with (go_at_call 61; (with_reducible refine (spec_l01In.calls a0_3 1 10000 _ _ A97.out).mono ?_); rintro e w' ⟨rfl, ⟨nd, rfl⟩⟩; refine Stop.out ?_)
 have H := HS_.out
 clear HS_
 by_cases c98 : t121 = true
 {
 subst c98
 rw [if_pos rfl] at H
 by_cases c99 : a0_0 = 5
 {
 rw [if_pos c99] at H
 have c99b0 := beq_iff_eq.mpr c99
 have c99b1 := bne_eq_false_iff_eq.mpr c99
 clear c99
 obtain ⟨t122, A100, H⟩ := eb H
 try dsimp only at H
 have HS_ := Aside0.mk H
 clear H
 refine ⟨?_⟩
 go_wp2_with (go_at_call 61; (with_reducible refine (spec_l01In.calls a0_2 1 9999 _ _ A100.out).mono ?_); rintro e w' ⟨rfl, ⟨nd, rfl⟩⟩; refine Stop.out ?_)
 have H := HS_.out
 clear HS_
 by_cases c101 : t122 = true
 {
 subst c101
 rw [if_pos rfl] at H
 by_cases c102 : a0_4 = 0
 {
 rw [if_pos c102] at H
 have c102b0 := beq_iff_eq.mpr c102
 have c102b1 := bne_eq_false_iff_eq.mpr c102
 clear c102
 obtain rfl := Option.some.inj H
 refine ⟨?_⟩
 go_wp2
 go_ret
 exact ⟨ew, by exact lT HB (gC GE102 gN)⟩
 }
 {
 rw [if_neg c102] at H
 have c102b0 := beq_eq_false_iff_ne.mpr c102
 have c102b1 := bne_iff_ne.mpr c102
 obtain rfl := Option.some.inj H
 refine ⟨?_⟩
 go_wp2
 go_ret
 exact ⟨ew, by exact lT HB (gC GE102 gN)⟩
 }
 }
 {
 replace c101 := Bool.eq_false_iff.mpr c101
 subst c101
 rw [if_neg (show ¬ (false = true) by decide)] at H
 obtain rfl := Option.some.inj H
 refine ⟨?_⟩
 go_wp2
 go_ret
 exact ⟨ew, by exact lT HB (gC GE102 gN)⟩
 }
 }
 {
 rw [if_neg c99] at H
 have c99b0 := beq_eq_false_iff_ne.mpr c99
 have c99b1 := bne_iff_ne.mpr c99
 by_cases c109 : a0_2 = 0
 {
 rw [if_pos c109] at H
 have c109b0 := beq_iff_eq.mpr c109
 have c109b1 := bne_eq_false_iff_eq.mpr c109
 clear c109
 by_cases c110 : a0_4 = 0
 {
 rw [if_pos c110] at H
 have c110b0 := beq_iff_eq.mpr c110
 have c110b1 := bne_eq_false_iff_eq.mpr c110
 clear c110
 obtain rfl := Option.some.inj H
 refine ⟨?_⟩
 go_wp2
 go_ret
 exact ⟨ew, by exact lT HB (gC GE102 gN)⟩
 }
 {
 rw [if_neg c110] at H
 have c110b0 := beq_eq_false_iff_ne.mpr c110
 have c110b1 := bne_iff_ne.mpr c110
 obtain rfl := Option.some.inj H
 refine ⟨?_⟩
 go_wp2
 go_ret
 exact ⟨ew, by exact lT HB (gC GE102 gN)⟩
 }
 }
 {
 rw [if_neg c109] at H
 have c109b0 := beq_eq_false_iff_ne.mpr c109
 have c109b1 := bne_iff_ne.mpr c109
 obtain rfl := Option.some.inj H
 refine ⟨?_⟩
 go_wp2
 go_ret
 exact ⟨ew, by exact lT HB (gC GE102 gN)⟩
 }
 }
 }
 {
 replace c98 := Bool.eq_false_iff.mpr c98
 subst c98
 rw [if_neg (show ¬ (false = true) by decide)] at H
 obtain rfl := Option.some.inj H
 refine ⟨?_⟩
 go_wp2
 go_ret
 exact ⟨ew, by exact lT HB (gC GE102 gN)⟩
 }
 }
 {
 replace c96 := Bool.eq_false_iff.mpr c96
 subst c96
 rw [if_neg (show ¬ (false = true) by decide)] at H
 obtain rfl := Option.some.inj H
 refine ⟨?_⟩
 go_wp2
 go_ret
 exact ⟨ew, by exact lT HB (gC GE102 gN)⟩
 }
 }
 {
 replace c94 := Bool.eq_false_iff.mpr c94
 subst c94
 rw [if_neg (show ¬ (false = true) by decide)] at H
 obtain rfl := Option.some.inj H
 refine ⟨?_⟩
 go_wp2
 go_ret
 exact ⟨ew, by exact lT HB (gC GE102 gN)⟩
 }
 }
 {
 rw [if_neg c92] at H
 have c92b0 := beq_eq_false_iff_ne.mpr c92
 have c92b1 := bne_iff_ne.mpr c92
 by_cases c123 : a0_5.toList = ([] : List UInt8)
 {
 rw [if_pos c123] at H
 have c123b0 := beq_iff_eq.mpr c123
 have c123b1 := bne_eq_false_iff_eq.mpr c123
 clear c123
 by_cases c124 : a0_6.toList = ([] : List UInt8)
 {
 rw [if_pos c124] at H
 have c124b0 := beq_iff_eq.mpr c124
 have c124b1 := bne_eq_false_iff_eq.mpr c124
 clear c124
 by_cases c125 : a0_3 = 0
 {
 rw [if_pos c125] at H
 have c125b0 := beq_iff_eq.mpr c125
 have c125b1 := bne_eq_false_iff_eq.mpr c125
 clear c125
 by_cases c126 : a0_0 = 5
 {
 rw [if_pos c126] at H
 have c126b0 := beq_iff_eq.mpr c126
 have c126b1 := bne_eq_false_iff_eq.mpr c126
 clear c126
 obtain ⟨t123, A127, H⟩ := eb H
 try dsimp only at H
 have HS_ := Aside0.mk H
 clear H
 refine ⟨?_⟩
 go_wp2_with (go_at_call 61; (with_reducible refine (spec_l01In.calls a0_2 1 9999 _ _ A127.out).mono ?_); rintro e w' ⟨rfl, ⟨nd, rfl⟩⟩; refine Stop.out ?_)
 have H := HS_.out
 clear HS_
 by_cases c128 : t123 = true
 {
 subst c128
 rw [if_pos rfl] at H
 by_cases c129 : a0_4 = 0
 {
 rw [if_pos c129] at H
 have c129b0 := beq_iff_eq.mpr c129
 have c129b1 := bne_eq_false_iff_eq.mpr c129
 clear c129
 obtain rfl := Option.some.inj H
 refine ⟨?_⟩
 go_wp2
 go_ret
 exact ⟨ew, by exact lT HB (gC GE102 gN)⟩
 }
 {
 rw [if_neg c129] at H
 have c129b0 := beq_eq_false_iff_ne.mpr c129
 have c129b1 := bne_iff_ne.mpr c129
 obtain rfl := Option.some.inj H
 refine ⟨?_⟩
 go_wp2
 go_ret
 exact ⟨ew, by exact lT HB (gC GE102 gN)⟩
 }
 }
 {
 replace c128 := Bool.eq_false_iff.mpr c128
 subst c128
 rw [if_neg (show ¬ (false = true) by decide)] at H
 obtain rfl := Option.some.inj H
 refine ⟨?_⟩
 go_wp2
 go_ret
 exact ⟨ew, by exact lT HB (gC GE102 gN)⟩
 }
 }
 {
 rw [if_neg c126] at H
 have c126b0 := beq_eq_false_iff_ne.mpr c126
 have c126b1 := bne_iff_ne.mpr c126
 by_cases c136 : a0_2 = 0
 {
 rw [if_pos c136] at H
 have c136b0 := beq_iff_eq.mpr c136
 have c136b1 := bne_eq_false_iff_eq.mpr c136
 clear c136
 by_cases c137 : a0_4 = 0
 {
 rw [if_pos c137] at H
 have c137b0 := beq_iff_eq.mpr c137
 have c137b1 := bne_eq_false_iff_eq.mpr c137
 clear c137
 obtain rfl := Option.some.inj H
 refine ⟨?_⟩
 go_wp2
 go_ret
 exact ⟨ew, by exact lT HB (gC GE102 gN)⟩
 }
 {
 rw [if_neg c137] at H
 have c137b0 := beq_eq_false_iff_ne.mpr c137
 have c137b1 := bne_iff_ne.mpr c137
 obtain rfl := Option.some.inj H
 refine ⟨?_⟩
 go_wp2
 go_ret
 exact ⟨ew, by exact lT HB (gC GE102 gN)⟩
 }
 }
 {
 rw [if_neg c136] at H
 have c136b0 := beq_eq_false_iff_ne.mpr c136
 have c136b1 := bne_iff_ne.mpr c136
 obtain rfl := Option.some.inj H
 refine ⟨?_⟩
 go_wp2
 go_ret
 exact ⟨ew, by exact lT HB (gC GE102 gN)⟩
 }
 }
 }
 {
 rw [if_neg c125] at H
 have c125b0 := beq_eq_false_iff_ne.mpr c125
 have c125b1 := bne_iff_ne.mpr c125
 obtain rfl := Option.some.inj H
 refine ⟨?_⟩
 go_wp2
 go_ret
 exact ⟨ew, by exact lT HB (gC GE102 gN)⟩
 }
 }
 {
 rw [if_neg c124] at H
 have c124b0 := beq_eq_false_iff_ne.mpr c124
 have c124b1 := bne_iff_ne.mpr c124
 obtain rfl := Option.some.inj H
 refine ⟨?_⟩
 go_wp2
 go_ret
 exact ⟨ew, by exact lT HB (gC GE102 gN)⟩
 }
 }
 {
 rw [if_neg c123] at H
 have c123b0 := beq_eq_false_iff_ne.mpr c123
 have c123b1 := bne_iff_ne.mpr c123
 obtain rfl := Option.some.inj H
 refine ⟨?_⟩
 go_wp2
 go_ret
 exact ⟨ew, by exact lT HB (gC GE102 gN)⟩
 }
 }
 }
 }
 }
 {
 replace c5 := Bool.eq_false_iff.mpr c5
 subst c5
 rw [if_neg (show ¬ (false = true) by decide)] at H
 obtain rfl := Option.some.inj H
 refine ⟨?_⟩
 go_wp2
 go_ret
 exact ⟨ew, by exact lT HB (gC GE102 gN)⟩
 }
 }
 {
 replace c3 := Bool.eq_false_iff.mpr c3
 subst c3
 rw [if_neg (show ¬ (false = true) by decide)] at H
 obtain rfl := Option.some.inj H
 refine ⟨?_⟩
 go_wp2
 go_ret
 exact ⟨ew, by exact lT HB (gC GE102 gN)⟩
 }
end Go.Proofs.Ytagkjeldheiejaa.PFnStatesTold
