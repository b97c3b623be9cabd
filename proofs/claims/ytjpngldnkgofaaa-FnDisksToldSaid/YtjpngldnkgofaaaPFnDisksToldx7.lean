-- Written for this claim by a program of mine (a turned copy of the kit's print): functions as plain Lean, and their contracts. Lean checks it.
import Derived.Test.YtjpngldnkgofaaaPFnDisksToldx0
import Derived.Test.YtjpngldnkgofaaaPFnDisksToldx2
import Derived.Test.YtjpngldnkgofaaaPFnDisksToldx4
import Derived.Test.YtjpngldnkgofaaaPFnDisksToldx5
import Derived.Test.YtjpngldnkgofaaaPFnDisksToldx6
import Derived.Test.YtjpngldnkgofaaaVFnDisksTold1
namespace Go.Proofs.Ytjpngldnkgofaaa.PFnDisksTold
open Go.RowKit Go.Proofs.YtjpngldnkgofaaaW.PrintWords Go.Proofs.YtjpngldnkgofaaaW.PrintLast Go.Proofs.YtjpngldnkgofaaaW.PrintMore
attribute [local go_sem] max2_int min2_int max_two min_two max_three min_three max_four min_four   -- for this text's walks alone
set_option linter.unusedVariables false
set_option linter.unusedSimpArgs false

/-! ### spec_l01Below: function 47 -/
def spec_l01Below.f (s0_0 : List Int) (s0_1 : Int) (s0_2 : Int) (a1 : Int) : Option (Int × Int × Int) := if a1 ≤ 0 then (some (0, s0_1, s0_2)) else (if a1 ≤ 256 then ((spec_l01Byte.f s0_0 s0_1 s0_2).bind fun bt191 => (if a1 = 0 then (none) else (some (Int.tmod bt191.1 a1, bt191.2.1, bt191.2.2)))) else ((spec_l01Byte.f s0_0 s0_1 s0_2).bind fun bt194 => ((spec_l01Byte.f s0_0 bt194.2.1 bt194.2.2).bind fun bt197 => ((spec_l01Byte.f s0_0 bt197.2.1 bt197.2.2).bind fun bt200 => ((spec_l01Byte.f s0_0 bt200.2.1 bt200.2.2).bind fun bt203 => (if a1 = 0 then (none) else (some (Int.tmod (wrap64 ((wrap64 ((wrap64 ((wrap64 (bt194.1 * 16777216)) + (wrap64 (bt197.1 * 65536)))) + (wrap64 (bt200.1 * 256)))) + bt203.1)) a1, bt203.2.1, bt203.2.2))))))))
set_option maxHeartbeats 8000000 in
set_option maxRecDepth 100000 in
theorem spec_l01Below.calls (g : Nat) (s0_0 : List Int) (s0_1 : Int) (s0_2 : Int) (a1 : Int) (r1 : Int) (r2 : Int) (r3 : Int) (w0 w : World) (hI : IsS80 w0 w g s0_0 s0_1 s0_2) (hB : Below w0.heap.size w0 w) (h : spec_l01Below.f s0_0 s0_1 s0_2 a1 = some (r1, r2, r3)) :
  Calls Try.prog 47 #[.pointer (some ⟨g, 0, none⟩), .int .i64 a1] w fun e w' => e = .returned (.int .i64 r1) ∧ IsS80 w0 w' g s0_0 r2 r3 ∧ Below w0.heap.size w0 w' ∧ KeepBut w w' g none := by
 have HI0 := Aside0.mk hI
 have HK := ak (KeepBut.refl w g none)
 have HL := Aside0.mk hB.size
 clear hI
 have HW0 := Aside0.mk hB.size
 have HB := Aside0.mk hB
 clear hB
 have H : (if a1 ≤ 0 then (some (0, s0_1, s0_2)) else (if a1 ≤ 256 then ((spec_l01Byte.f s0_0 s0_1 s0_2).bind fun bt191 => (if a1 = 0 then (none) else (some (Int.tmod bt191.1 a1, bt191.2.1, bt191.2.2)))) else ((spec_l01Byte.f s0_0 s0_1 s0_2).bind fun bt194 => ((spec_l01Byte.f s0_0 bt194.2.1 bt194.2.2).bind fun bt197 => ((spec_l01Byte.f s0_0 bt197.2.1 bt197.2.2).bind fun bt200 => ((spec_l01Byte.f s0_0 bt200.2.1 bt200.2.2).bind fun bt203 => (if a1 = 0 then (none) else (some (Int.tmod (wrap64 ((wrap64 ((wrap64 ((wrap64 (bt194.1 * 16777216)) + (wrap64 (bt197.1 * 65536)))) + (wrap64 (bt200.1 * 256)))) + bt203.1)) a1, bt203.2.1, bt203.2.2))))))))) = some (r1, r2, r3) := h
 clear h
 by_cases c3 : a1 ≤ 0
 ·rw [if_pos c3] at H
  have c3b0 : decide (a1 ≤ 0) = true := decide_eq_true c3
  clear c3
  simp only [Option.some.injEq, Prod.mk.injEq] at H
  obtain ⟨rfl, rfl, rfl⟩ := H
  go_enter Try.func47, Try.ntmps47
  go_wp2
  go_ret
  exact ⟨ew, IsS80.T_ HI0 nN, lT HB gN, kT HK gN⟩
 ·rw [if_neg c3] at H
  have c3b0 : decide (a1 ≤ 0) = false := decide_eq_false c3
  clear c3
  by_cases c4 : a1 ≤ 256
  ·rw [if_pos c4] at H
   have c4b0 : decide (a1 ≤ 256) = true := decide_eq_true c4
   clear c4
   replace H := Option.bind_eq_some_iff.mp H
   obtain ⟨⟨t191, t192, t193⟩, A50, H⟩ := H
   replace H : (if a1 = 0 then (none) else (some (Int.tmod t191 a1, t192, t193))) = some (r1, r2, r3) := H
   have A5 := Aside0.mk A50
   clear A50
   by_cases c6 : a1 = 0
   ·rw [if_pos c6] at H
    exact absurd H (by simp)
   ·rw [if_neg c6] at H
    have c6b0 : (a1 == 0) = false := beq_eq_false_iff_ne.mpr c6
    have c6b1 : (a1 != 0) = true := bne_iff_ne.mpr c6
    simp only [Option.some.injEq, Prod.mk.injEq] at H
    obtain ⟨rfl, rfl, rfl⟩ := H
    go_enter Try.func47, Try.ntmps47
    go_wp2_with (first | ((with_reducible refine gate_callee (f := 46) rfl ?_); refine gl (some 14) Try.func46 #[.pointer (some ⟨g, 0, none⟩)] ?_; (with_reducible refine (spec_l01Byte.calls g s0_0 s0_1 s0_2 t191 t192 t193 w0 _ ?side1 ?side2 A5.out).mono ?_); (case side1 => exact IsS80.T_ HI0 nN); (case side2 => exact lT HB gN); rintro e w7 ⟨rfl, hi, hb, hk⟩; refine ⟨_, rfl, ?_⟩; replace HK := ak (KeepBut.trans (kT HK gN) hk (.inl rfl)); replace HB := ak (hb); replace HI0 := ak (hi); (try clear hb); (try clear hk); (try clear hi)))
    go_ret
    exact ⟨ew, IsS80.T_ HI0 nN, lT HB gN, kT HK gN⟩
  ·rw [if_neg c4] at H
   have c4b0 : decide (a1 ≤ 256) = false := decide_eq_false c4
   clear c4
   replace H := Option.bind_eq_some_iff.mp H
   obtain ⟨⟨t194, t195, t196⟩, A80, H⟩ := H
   replace H : ((spec_l01Byte.f s0_0 t195 t196).bind fun bt197 => ((spec_l01Byte.f s0_0 bt197.2.1 bt197.2.2).bind fun bt200 => ((spec_l01Byte.f s0_0 bt200.2.1 bt200.2.2).bind fun bt203 => (if a1 = 0 then (none) else (some (Int.tmod (wrap64 ((wrap64 ((wrap64 ((wrap64 (t194 * 16777216)) + (wrap64 (bt197.1 * 65536)))) + (wrap64 (bt200.1 * 256)))) + bt203.1)) a1, bt203.2.1, bt203.2.2)))))) = some (r1, r2, r3) := H
   have A8 := Aside0.mk A80
   clear A80
   replace H := Option.bind_eq_some_iff.mp H
   obtain ⟨⟨t197, t198, t199⟩, A90, H⟩ := H
   replace H : ((spec_l01Byte.f s0_0 t198 t199).bind fun bt200 => ((spec_l01Byte.f s0_0 bt200.2.1 bt200.2.2).bind fun bt203 => (if a1 = 0 then (none) else (some (Int.tmod (wrap64 ((wrap64 ((wrap64 ((wrap64 (t194 * 16777216)) + (wrap64 (t197 * 65536)))) + (wrap64 (bt200.1 * 256)))) + bt203.1)) a1, bt203.2.1, bt203.2.2))))) = some (r1, r2, r3) := H
   have A9 := Aside0.mk A90
   clear A90
   replace H := Option.bind_eq_some_iff.mp H
   obtain ⟨⟨t200, t201, t202⟩, A100, H⟩ := H
   replace H : ((spec_l01Byte.f s0_0 t201 t202).bind fun bt203 => (if a1 = 0 then (none) else (some (Int.tmod (wrap64 ((wrap64 ((wrap64 ((wrap64 (t194 * 16777216)) + (wrap64 (t197 * 65536)))) + (wrap64 (t200 * 256)))) + bt203.1)) a1, bt203.2.1, bt203.2.2)))) = some (r1, r2, r3) := H
   have A10 := Aside0.mk A100
   clear A100
   replace H := Option.bind_eq_some_iff.mp H
   obtain ⟨⟨t203, t204, t205⟩, A110, H⟩ := H
   replace H : (if a1 = 0 then (none) else (some (Int.tmod (wrap64 ((wrap64 ((wrap64 ((wrap64 (t194 * 16777216)) + (wrap64 (t197 * 65536)))) + (wrap64 (t200 * 256)))) + t203)) a1, t204, t205))) = some (r1, r2, r3) := H
   have A11 := Aside0.mk A110
   clear A110
   by_cases c12 : a1 = 0
   ·rw [if_pos c12] at H
    exact absurd H (by simp)
   ·rw [if_neg c12] at H
    have c12b0 : (a1 == 0) = false := beq_eq_false_iff_ne.mpr c12
    have c12b1 : (a1 != 0) = true := bne_iff_ne.mpr c12
    simp only [Option.some.injEq, Prod.mk.injEq] at H
    obtain ⟨rfl, rfl, rfl⟩ := H
    go_enter Try.func47, Try.ntmps47
    go_wp2_with (first | ((with_reducible refine gate_callee (f := 46) rfl ?_); refine gl (some 18) Try.func46 #[.pointer (some ⟨g, 0, none⟩)] ?_; (with_reducible refine (spec_l01Byte.calls g s0_0 s0_1 s0_2 t194 t195 t196 w0 _ ?side1 ?side2 A8.out).mono ?_); (case side1 => exact IsS80.T_ HI0 nN); (case side2 => exact lT HB gN); rintro e w13 ⟨rfl, hi, hb, hk⟩; refine ⟨_, rfl, ?_⟩; replace HK := ak (KeepBut.trans (kT HK gN) hk (.inl rfl)); replace HB := ak (hb); replace HI0 := ak (hi); (try clear hb); (try clear hk); (try clear hi)) | ((with_reducible refine gate_callee (f := 46) rfl ?_); refine gl (some 20) Try.func46 #[.pointer (some ⟨g, 0, none⟩)] ?_; (with_reducible refine (spec_l01Byte.calls g s0_0 t195 t196 t197 t198 t199 w0 _ ?side1 ?side2 A9.out).mono ?_); (case side1 => exact IsS80.T_ HI0 nN); (case side2 => exact lT HB gN); rintro e w14 ⟨rfl, hi, hb, hk⟩; refine ⟨_, rfl, ?_⟩; replace HK := ak (KeepBut.trans (kT HK gN) hk (.inl rfl)); replace HB := ak (hb); replace HI0 := ak (hi); (try clear hb); (try clear hk); (try clear hi)) | ((with_reducible refine gate_callee (f := 46) rfl ?_); refine gl (some 22) Try.func46 #[.pointer (some ⟨g, 0, none⟩)] ?_; (with_reducible refine (spec_l01Byte.calls g s0_0 t198 t199 t200 t201 t202 w0 _ ?side1 ?side2 A10.out).mono ?_); (case side1 => exact IsS80.T_ HI0 nN); (case side2 => exact lT HB gN); rintro e w15 ⟨rfl, hi, hb, hk⟩; refine ⟨_, rfl, ?_⟩; replace HK := ak (KeepBut.trans (kT HK gN) hk (.inl rfl)); replace HB := ak (hb); replace HI0 := ak (hi); (try clear hb); (try clear hk); (try clear hi)) | ((with_reducible refine gate_callee (f := 46) rfl ?_); refine gl (some 24) Try.func46 #[.pointer (some ⟨g, 0, none⟩)] ?_; (with_reducible refine (spec_l01Byte.calls g s0_0 t201 t202 t203 t204 t205 w0 _ ?side1 ?side2 A11.out).mono ?_); (case side1 => exact IsS80.T_ HI0 nN); (case side2 => exact lT HB gN); rintro e w16 ⟨rfl, hi, hb, hk⟩; refine ⟨_, rfl, ?_⟩; replace HK := ak (KeepBut.trans (kT HK gN) hk (.inl rfl)); replace HB := ak (hb); replace HI0 := ak (hi); (try clear hb); (try clear hk); (try clear hi)))
    go_ret
    exact ⟨ew, IsS80.T_ HI0 nN, lT HB gN, kT HK gN⟩

/-! ### spec_l01Long: function 78 -/
def spec_l01Long.l0 : Nat → Int → Int → List Int → Int → Option (ByteArray)
 | 0, _, _, _, _ => none
 | k + 1, x0, x1, x5, x6 => if x6 < x0 then (if 0 ≤ x6 then (if x6 < (x5.length : Int) then (spec_l01Long.l0 k x0 x1 (x5.set (x6 : Int).toNat x1) (wrap64 (x6 + 1))) else (none)) else (none)) else (some (strOfNums x5))
def spec_l01Long.f (k : Nat) (a0 : Int) (a1 : Int) : Option (ByteArray) := if 0 ≤ a0 then (if (a0 : Int).toNat ≤ 281474976710656 then (spec_l01Long.l0 k a0 a1 (List.replicate (a0 : Int).toNat 0) 0) else (none)) else (none)
theorem spec_l01Long.mono_l : ∀ k, (∀ y0 y1 y2 y3, LeO (spec_l01Long.l0 k y0 y1 y2 y3) (spec_l01Long.l0 (k + 1) y0 y1 y2 y3))
 | 0 => fun _ _ _ _ r h => by simp [spec_l01Long.l0] at h
 | k + 1 => by
  have ih0 := spec_l01Long.mono_l k
  ·intro y0 y1 y2 y3
   unfold spec_l01Long.l0
   repeat' first
   | (with_reducible exact ih0 _ _ _ _)
   | (with_reducible exact LeO.refl _)
   | (with_reducible exact LeO.none _)
   | (with_reducible refine LeO.ite ?_ ?_)
   | (with_reducible refine LeO.bind ?_ (fun _ => ?_))
   | exact ih0 _ _ _ _
   | exact LeO.none _
   | refine LeO.ite ?_ ?_
   | refine LeO.bind ?_ (fun _ => ?_)
theorem spec_l01Long.mono : ∀ a0 a1 k, LeO (spec_l01Long.f k a0 a1) (spec_l01Long.f (k + 1) a0 a1) := by
 intro a0 a1 k
 have ih0 := spec_l01Long.mono_l k
 unfold spec_l01Long.f
 repeat' first
   | (with_reducible exact ih0 _ _ _ _)
   | (with_reducible exact LeO.refl _)
   | (with_reducible exact LeO.none _)
   | (with_reducible refine LeO.ite ?_ ?_)
   | (with_reducible refine LeO.bind ?_ (fun _ => ?_))
   | exact ih0 _ _ _ _
   | exact LeO.none _
   | refine LeO.ite ?_ ?_
   | refine LeO.bind ?_ (fun _ => ?_)
set_option maxHeartbeats 8000000 in
set_option maxRecDepth 100000 in
theorem spec_l01Long.calls (k : Nat) (a0 : Int) (a1 : Int) (r : ByteArray) (w : World) (h : spec_l01Long.f k a0 a1 = some r) :
  Calls Try.prog 78 #[.int .i64 a0, .int .u8 a1] w fun e w' => e = .returned (.string r) ∧ Below w.heap.size w w' := by
 have HB := ak (Below.refl w.heap.size w)
 have H : (if 0 ≤ a0 then (if (a0 : Int).toNat ≤ 281474976710656 then (spec_l01Long.l0 k a0 a1 (List.replicate (a0 : Int).toNat 0) 0) else (none)) else (none)) = some r := h
 clear h
 by_cases c3 : 0 ≤ a0
 ·rw [if_pos c3] at H
  have c3b0 := eq_true c3
  have c3b1 : decide (0 ≤ a0) = true := decide_eq_true c3
  clear c3
  by_cases c4 : (a0 : Int).toNat ≤ 281474976710656
  ·rw [if_pos c4] at H
   have c4b0 := eq_true c4
   have c4b1 : decide ((a0 : Int).toNat ≤ 281474976710656) = true := decide_eq_true c4
   clear c4
   obtain ⟨y206, hy206⟩ : ∃ y_ : List Int, y_ = (List.replicate (a0 : Int).toNat 0) := ⟨_, rfl⟩
   replace H : (spec_l01Long.l0 k a0 a1 y206 0) = some r := by first | (rw [hy206]; with_reducible exact H) | (have H2_ := (Option.bind_some _ _).symm.trans H; rw [hy206]; with_reducible exact H2_) | (have H2_ := (Option.bind_some _ _).symm.trans H; with_reducible exact H2_) | with_reducible exact H | (rw [hy206]; exact H) | exact H
   have Ny206 := Aside0.mk hy206
   clear hy206
   have H' := Aside0.mk H
   clear H
   go_enter Try.func78, Try.ntmps78
   go_wp2_with (first | ((with_reducible refine gate_dst (N := 8) rfl ?_); refine Kd.R_make (Kd.int .u8) _ 5 rfl (N := 8) rfl 22 _ _ rfl a0 rfl rfl Try.underlying22 (.int .u8 0) 1 info5 rfl (by decide) (by omega) 0 (ok := fun _ => True) (okp := fun _ => True) rfl (fun _ hk => hk) trivial (of_decide_eq_true (by first | (with_reducible assumption) | assumption)) (Nat.le_trans (Nat.mul_le_mul_right _ (of_decide_eq_true (by first | (with_reducible assumption) | assumption) : a0.toNat ≤ 281474976710656)) (by omega)) (Below.refl _ _) (Nat.le_refl _) ?_; intro v207 w5 ho6 hb hg_ hnew_; clear hg_ hnew_; (first | rw [← Ny206.out] at ho6 | (simp only [Int.reduceToNat] at ho6; rw [← Ny206.out] at ho6)); replace HO208 := ak (Kd.R_lower ho6 (below_size (lG HB))); replace HB := lB HB hb; clear hb ho6))
   go_loopg [6] k (fun kq v6 w' => ∃ (x5_1 : List Int) (x6_1 : Int), v6 = .int .i64 x6_1 ∧ Aside0 (spec_l01Long.l0 kq a0 a1 x5_1 x6_1 = some r) ∧ Aside0 (kq ≤ k) ∧ Aside0 (Kd.R (Kd.int .u8) 5 w' w.heap.size (fun _ => True) v207 x5_1) ∧ Aside0 (Below w.heap.size w w'))
   case atStart => exact ⟨(y206), (0), (by first | rfl | (simp; done) | (simp [*]; done)), H', ⟨Nat.le_refl _⟩, ⟨by (with_reducible repeat (first | apply Kd.R_alloc | apply Kd.R_drewN | apply Kd.R_drew)); exact HO208.out⟩, ⟨by exact lG HB⟩⟩
   case round =>
    clear H'
    try clear p2
    try clear c3
    try clear c3b0
    try clear c3b1
    try clear c4
    try clear c4b0
    try clear c4b1
    obtain ⟨x5_1, x6_1, rfl, HA, HK1, HO_5, HB⟩ := hrel
    cases gk with
    | zero => exact absurd HA.out (by simp [spec_l01Long.l0])
    | succ k1 =>
     have H := HA.out
     clear HA
     simp only [spec_l01Long.l0] at H
     by_cases c7 : x6_1 < a0
     ·rw [if_pos c7] at H
      have c7b0 : decide (x6_1 < a0) = true := decide_eq_true c7
      clear c7
      by_cases c8 : 0 ≤ x6_1
      ·rw [if_pos c8] at H
       have c8b0 : decide (0 ≤ x6_1) = true := decide_eq_true c8
       clear c8
       by_cases c9 : x6_1 < (x5_1.length : Int)
       ·rw [if_pos c9] at H
        have c9b0 : decide (x6_1 < (x5_1.length : Int)) = true := decide_eq_true c9
        clear c9
        obtain ⟨y209, hy209⟩ : ∃ y_ : List Int, y_ = (x5_1.set (x6_1 : Int).toNat a1) := ⟨_, rfl⟩
        replace H : (spec_l01Long.l0 k1 a0 a1 y209 (wrap64 (x6_1 + 1))) = some r := by first | (rw [hy209]; with_reducible exact H) | (have H2_ := (Option.bind_some _ _).symm.trans H; rw [hy209]; with_reducible exact H2_) | (have H2_ := (Option.bind_some _ _).symm.trans H; with_reducible exact H2_) | with_reducible exact H | (rw [hy209]; exact H) | exact H
        have Ny209 := Aside0.mk hy209
        clear hy209
        have H' := Aside0.mk H
        clear H
        have p10 : 0 ≤ (x6_1 : Int) := of_decide_eq_true (by first | (with_reducible assumption) | assumption)
        have q10 : (x6_1 : Int) < ((x5_1.length : Int) : Int) := of_decide_eq_true (by first | (with_reducible assumption) | assumption)
        obtain ⟨go10, co10, eo10, gb10, gl10, cl10, HG10⟩ := Kd.R_form HO_5.out (by omega)
        (first | cases eo10 | (injection eo10 with ea_ en_ ec_; (first | subst ea_ | (injection ea_ with ea_; subst ea_)); subst ec_; clear en_))
        have GB10 := Aside0.mk gb10
        have GG10 := Aside0.mk HG10
        clear gb10 gl10 HG10
        obtain ⟨hx10_0, hf10_0⟩ := Kd.R_celln 0 HO_5.out (x6_1 : Int) p10 q10
        replace p10 := eq_true p10
        replace q10 := eq_true q10
        have HP11 := Kd.R_putg HO_5.out (x6_1 : Int) a1
        go_wp2_with (first | ((with_reducible refine gate_store (t := 5) (p := 17) rfl ?_); refine store_event (t := 5) (p := 17) (v := ?vo_w12) (w1 := (wr.setCell ⟨go10, (x6_1 : Int).toNat, none⟩ (.int .u8 a1))) ?hg ?ho ?hn ?hr ?_; (case ho => rfl); (case hg => rfl); (case hn => rfl); (case hr => first | (go_simp; done) | (go_simp; rfl)); intro w12 hw; have hg : wr.grownBy w12 (some go10) := (by rw [hw]; exact HP11.2); have hp_ : Kd.R (Kd.int .u8) 5 w12 w.heap.size (fun _ => True) (.slice (some ⟨go10, 0, none⟩) x5_1.length co10) y209 := (by rw [hw, Ny209.out]; exact HP11.1); clear HP11; replace HO_5 := ak (hp_); replace HB := ak ((by rw [hw]; exact below_set (HB.out) GB10.out : Below w.heap.size w w12)); clear hg hw hp_))
        go_roundg k1
        case measure => have := HK1.out; omega
        case rel => exact ⟨(y209), (wrap64 (x6_1 + 1)), (by first | rfl | (simp; done) | (simp [*]; done)), H', ⟨by have := HK1.out; omega⟩, ⟨by (with_reducible repeat (first | apply Kd.R_alloc | apply Kd.R_drewN | apply Kd.R_drew)); exact HO_5.out⟩, ⟨by exact lG HB⟩⟩
       ·rw [if_neg c9] at H
        exact absurd H (by simp)
      ·rw [if_neg c8] at H
       exact absurd H (by simp)
     ·rw [if_neg c7] at H
      have c7b0 : decide (x6_1 < a0) = false := decide_eq_false c7
      clear c7
      obtain rfl := Option.some.inj H
      have hcv13 := own_string (P := Try.prog) Try.underlying22 Try.underlying5 Try.underlying9 (Kd.own_of_R HO_5.out)
      go_wp2
      go_ret
      exact ⟨ew, by exact lG HB⟩
  ·rw [if_neg c4] at H
   exact absurd H (by simp)
 ·rw [if_neg c3] at H
  exact absurd H (by simp)

/-! ### spec_l03Zero: function 79 -/
def spec_l03Zero.f (k : Nat)  : Option (ByteArray) := (spec_l01Long.f k 32 0).bind fun t210 => (some t210)
theorem spec_l03Zero.mono : ∀ k, LeO (spec_l03Zero.f k ) (spec_l03Zero.f (k + 1) ) := by
 intro  k
 unfold spec_l03Zero.f
 repeat' first
   | (with_reducible exact spec_l01Long.mono _ _ _)
   | (with_reducible exact LeO.refl _)
   | (with_reducible exact LeO.none _)
   | (with_reducible refine LeO.ite ?_ ?_)
   | (with_reducible refine LeO.bind ?_ (fun _ => ?_))
   | exact spec_l01Long.mono _ _ _
   | exact LeO.none _
   | refine LeO.ite ?_ ?_
   | refine LeO.bind ?_ (fun _ => ?_)
set_option maxHeartbeats 8000000 in
set_option maxRecDepth 100000 in
theorem spec_l03Zero.calls (k : Nat)  (r : ByteArray) (w : World) (h : spec_l03Zero.f k  = some r) :
  Calls Try.prog 79 #[] w fun e w' => e = .returned (.string r) ∧ Below w.heap.size w w' := by
 have HB := ak (Below.refl w.heap.size w)
 have H : ((spec_l01Long.f k 32 0).bind fun t210 => (some t210)) = some r := h
 clear h
 replace H := Option.bind_eq_some_iff.mp H
 obtain ⟨t210, A10, H⟩ := H
 replace H : (some t210) = some r := H
 have A1 := Aside0.mk A10
 clear A10
 obtain rfl := Option.some.inj H
 go_enter Try.func79, Try.ntmps79
 go_wp2_with (first | ((with_reducible refine gate_callee (f := 78) rfl ?_); refine gl (some 1) Try.func78 #[.int .i64 32, .int .u8 0] ?_; (with_reducible refine (spec_l01Long.calls k 32 0 t210 _ A1.out).mono ?_); rintro e w2 ⟨rfl, hb⟩; refine ⟨_, rfl, ?_⟩; replace HB := lB HB hb; (try clear hb); (try clear hk)))
 go_ret
 exact ⟨ew, by exact lG HB⟩

/-! ### spec_DiskNew: function 67 -/
def spec_DiskNew.l0 : Nat → Int → Int → List ByteArray → Option (List ByteArray × (List (S63)) × Bool)
 | 0, _, _, _ => none
 | k + 1, x0, x5, x214000 => if x5 < x0 then ((spec_l03Zero.f k).bind fun t214 => (if x214000.length < 8796093022208 then (spec_DiskNew.l0 k x0 (wrap64 (x5 + 1)) (x214000 ++ [t214])) else (none))) else (some (x214000, ([] : List (S63)), true))
def spec_DiskNew.f (k : Nat) (a0 : Int) : Option (List ByteArray × (List (S63)) × Bool) := (spec_l01In.f a0 1 100).bind fun t212 => (if t212 = true then (spec_DiskNew.l0 k a0 0 ([] : List ByteArray)) else (some (([] : List ByteArray), ([] : List (S63)), false)))
theorem spec_DiskNew.mono_l : ∀ k, (∀ y0 y1 y2, LeO (spec_DiskNew.l0 k y0 y1 y2) (spec_DiskNew.l0 (k + 1) y0 y1 y2))
 | 0 => fun _ _ _ r h => by simp [spec_DiskNew.l0] at h
 | k + 1 => by
  have ih0 := spec_DiskNew.mono_l k
  ·intro y0 y1 y2
   unfold spec_DiskNew.l0
   repeat' first
   | (with_reducible exact ih0 _ _ _)
   | (with_reducible exact spec_l03Zero.mono _)
   | (with_reducible exact LeO.refl _)
   | (with_reducible exact LeO.none _)
   | (with_reducible refine LeO.ite ?_ ?_)
   | (with_reducible refine LeO.bind ?_ (fun _ => ?_))
   | exact ih0 _ _ _
   | exact spec_l03Zero.mono _
   | exact LeO.none _
   | refine LeO.ite ?_ ?_
   | refine LeO.bind ?_ (fun _ => ?_)
theorem spec_DiskNew.mono : ∀ a0 k, LeO (spec_DiskNew.f k a0) (spec_DiskNew.f (k + 1) a0) := by
 intro a0 k
 have ih0 := spec_DiskNew.mono_l k
 unfold spec_DiskNew.f
 repeat' first
   | (with_reducible exact ih0 _ _ _)
   | (with_reducible exact spec_l03Zero.mono _)
   | (with_reducible exact LeO.refl _)
   | (with_reducible exact LeO.none _)
   | (with_reducible refine LeO.ite ?_ ?_)
   | (with_reducible refine LeO.bind ?_ (fun _ => ?_))
   | exact ih0 _ _ _
   | exact spec_l03Zero.mono _
   | exact LeO.none _
   | refine LeO.ite ?_ ?_
   | refine LeO.bind ?_ (fun _ => ?_)
set_option maxHeartbeats 8000000 in
set_option maxRecDepth 100000 in
theorem spec_DiskNew.calls (k : Nat) (a0 : Int) (r1 : List ByteArray) (r2 : List (S63)) (r3 : Bool) (w : World) (h : spec_DiskNew.f k a0 = some (r1, r2, r3)) :
  Calls Try.prog 67 #[.int .i64 a0] w fun e w' => ∃ v0_ v1_ : Value, e = .returned (.tuple #[.agg #[v0_, v1_], .bool r3]) ∧ Kd.R Kd.string 9 w' w.heap.size (fun _ => True) v0_ r1 ∧ Kd.R k63 63 w' w.heap.size (fun _ => True) v1_ r2 ∧ Below w.heap.size w w' := by
 have hu27 := Try.underlying27
 have HB := ak (Below.refl w.heap.size w)
 have H : ((spec_l01In.f a0 1 100).bind fun t212 => (if t212 = true then (spec_DiskNew.l0 k a0 0 ([] : List ByteArray)) else (some (([] : List ByteArray), ([] : List (S63)), false)))) = some (r1, r2, r3) := h
 clear h
 replace H := Option.bind_eq_some_iff.mp H
 obtain ⟨t212, A20, H⟩ := H
 replace H : (if t212 = true then (spec_DiskNew.l0 k a0 0 ([] : List ByteArray)) else (some (([] : List ByteArray), ([] : List (S63)), false))) = some (r1, r2, r3) := H
 have A2 := Aside0.mk A20
 clear A20
 by_cases c3 : t212 = true
 ·subst c3
  have H1 : (spec_DiskNew.l0 k a0 0 ([] : List ByteArray)) = some (r1, r2, r3) := by rw [if_pos rfl] at H; exact H
  clear H
  have H := H1
  clear H1
  have H' := Aside0.mk H
  clear H
  go_enter Try.func67, Try.ntmps67
  go_wp2_with (first | ((with_reducible refine gate_dst (N := 2) rfl ?_); refine bx 2 #[.slice none 0 0, .slice none 0 0] 27 ?_; intro gb211 hg w4 hbox hb; replace BK211 := ak (hbox); replace GW211 := ak (bz hg (lG HB)); replace GE211 := ak (bz hg (lG HB)); replace HB := lB HB hb; clear hb hbox hg) | ((with_reducible refine gate_callee (f := 49) rfl ?_); refine gl (some 7) Try.func49 #[.int .i64 a0, .int .i64 1, .int .i64 100] ?_; (with_reducible refine (spec_l01In.calls a0 1 100 true _ A2.out).mono ?_); rintro e w' ⟨rfl, ⟨nd, rfl⟩⟩; refine ⟨_, rfl, ?_⟩; (try (rw [drewN_self w4]; generalize hq_ : World.drewN w4 _ = w4; have n0_ : Aside0 (w4.heap[gb211]? = some (.cells #[.slice none 0 0, .slice none 0 0] 27 (0, 0))) := ⟨by rw [← hq_]; exact (bG BK211)⟩; have n1_ : Aside0 (Below w.heap.size w w4) := ⟨by rw [← hq_]; exact (lT HB (gC GE211 gN))⟩; clear BK211 HB hq_; have BK211 := n0_; have HB := n1_; clear n0_ n1_)); (try (have hy211_0 : w4.cell? ⟨gb211, 0, none⟩ = some (.slice none 0 0) := bc BK211 0; have hv211_0 := blk_frozen BK211.out 0; have hy211_1 : w4.cell? ⟨gb211, 1, none⟩ = some (.slice none 0 0) := bc BK211 1; have hv211_1 := blk_frozen BK211.out 1))) | ((with_reducible refine gate_dst (N := 4) rfl ?_); refine bx 4 #[.slice none 0 0, .slice none 0 0] 27 ?_; intro gb213 hg w5 hbox hb; replace BK213 := ak (hbox); replace GW213 := ak (bz hg (lT HB (gC GE211 gN))); replace GE213 := ak (bz hg (lT HB (gC GE211 gN))); replace HB := ak (below_step (lT HB (gC GE211 gN)) hb); replace NB211_213 := ak (nl hg (bG BK211)); replace NB213_211 := ak (ng hg (bG BK211)); replace BK211 := bB BK211 hb; clear hb hbox hg; have hnb6 := NB213_211.out; have hnc6 := NB211_213.out; obtain ⟨hcz7_0, hcz7_1, hfz7_0, hfz7_1⟩ := bC2 BK213))
  go_loopg [5] k (fun kq v5 w' => ∃ (x5_1 : Int) (x214000_1 : List ByteArray) (u214000 : Value), v5 = .int .i64 x5_1 ∧ Aside0 (spec_DiskNew.l0 kq a0 x5_1 x214000_1 = some (r1, r2, r3)) ∧ Aside0 (kq ≤ k) ∧ Aside0 (Kd.R Kd.string 9 w' w.heap.size (fun _ => True) u214000 x214000_1) ∧ Aside0 (w'.heap[gb211]? = some (.cells #[(.slice none 0 0), (.slice none 0 0)] 27 (0, 0))) ∧ Aside0 (w'.heap[gb213]? = some (.cells #[u214000, (.slice none 0 0)] 27 (0, 0))) ∧ Aside0 (Below w.heap.size w w'))
  case atStart => exact ⟨(0), (([] : List ByteArray)), (.slice none 0 0), (by first | rfl | (simp; done) | (simp [*]; done)), H', ⟨Nat.le_refl _⟩, ⟨nil_⟩, ⟨by (with_reducible repeat (first | refine blk_drewN ?_ _ | refine blk_drew ?_ | refine blk_alloc ?_ _)); refine blk_far ?_ NB211_213.out _; (with_reducible repeat (first | refine blk_drewN ?_ _ | refine blk_drew ?_ | refine blk_alloc ?_ _)); refine blk_far ?_ NB211_213.out _; (with_reducible repeat (first | refine blk_drewN ?_ _ | refine blk_drew ?_ | refine blk_alloc ?_ _)); exact BK211.out⟩, ⟨bW BK213⟩, ⟨by exact lT HB (gC GE211 (gC GE213 gN))⟩⟩
  case round =>
   clear H'
   try clear p2
   try clear c3
   try clear c4
   try clear c6
   try clear hcz7_0
   try clear hcz7_1
   try clear hfz7_0
   try clear hfz7_1
   obtain ⟨x5_1, x214000_1, u214000, rfl, HA, HK1, HO_214000, BK211, BK213, HB⟩ := hrel
   cases gk with
   | zero => exact absurd HA.out (by simp [spec_DiskNew.l0])
   | succ k1 =>
    have H := HA.out
    clear HA
    simp only [spec_DiskNew.l0] at H
    by_cases c8 : x5_1 < a0
    ·rw [if_pos c8] at H
     have c8b0 : decide (x5_1 < a0) = true := decide_eq_true c8
     clear c8
     replace H := Option.bind_eq_some_iff.mp H
     obtain ⟨t214, A90, H⟩ := H
     replace H : (if x214000_1.length < 8796093022208 then (spec_DiskNew.l0 k1 a0 (wrap64 (x5_1 + 1)) (x214000_1 ++ [t214])) else (none)) = some (r1, r2, r3) := H
     have A9 := Aside0.mk A90
     clear A90
     by_cases c10 : x214000_1.length < 8796093022208
     ·rw [if_pos c10] at H
      have LMc10 := Aside0.mk c10
      clear c10
      obtain ⟨y215, hy215⟩ : ∃ y_ : List ByteArray, y_ = (x214000_1 ++ [t214]) := ⟨_, rfl⟩
      replace H : (spec_DiskNew.l0 k1 a0 (wrap64 (x5_1 + 1)) y215) = some (r1, r2, r3) := by first | (rw [hy215]; with_reducible exact H) | (have H2_ := (Option.bind_some _ _).symm.trans H; rw [hy215]; with_reducible exact H2_) | (have H2_ := (Option.bind_some _ _).symm.trans H; with_reducible exact H2_) | with_reducible exact H | (rw [hy215]; exact H) | exact H
      have Ny215 := Aside0.mk hy215
      clear hy215
      have H' := Aside0.mk H
      clear H
      try go_wp2
      replace HO_214000 := ak (Kd.R_drew HO_214000.out)
      replace BK211 := ak (blk_drew BK211.out)
      replace BK213 := ak (blk_drew BK213.out)
      replace HB := ak (below_drew1 HB.out)
      refine start_ (n := 7) (S := fun w' => w'.cell? ⟨gb213, 0, none⟩ = some (u214000) ∧ w'.cell? ⟨gb213, 1, none⟩ = some (.slice none 0 0)) (ds := [6]) #[f_,f_,f_,f_,f_,f_,f_] (by kernel_rfl) rfl rfl ⟨bc BK213 0, bc BK213 1⟩ (fun hHeld => ?_)
      generalize wr.drew = w11 at HO_214000 BK211 BK213 HB hHeld ⊢
      refine pure_ (i := 0) (N := some 16) (v := ?_) (a' := ?_) #[t_,f_,f_,f_,f_,f_,f_] rfl rfl (by kernel_rfl) (fun _ _ _ h => h) (Or.inl ⟨by rfl, ?_⟩) ?_ ?_
      rotate_left
      ·intro w'
       go_simp
       with_reducible rfl
      rotate_left
      ·simp only [Act.put, List.setIfInBounds_toArray, List.set_cons_zero, List.set_cons_succ, i64_w, i32_w]
       rfl
      refine take_ (i := 1) (N := some 17) (v := ?_) (a' := ?_) #[t_,t_,f_,f_,f_,f_,f_] rfl rfl (by kernel_rfl) (fun _ _ _ h => h) (Or.inl ⟨by rfl, ?_⟩) hHeld ?_ ?_
      rotate_left
      ·rintro w' ⟨s0, s1⟩
       go_simp
       with_reducible rfl
      rotate_left
      ·simp only [Act.put, List.setIfInBounds_toArray, List.set_cons_zero, List.set_cons_succ, i64_w, i32_w]
       rfl
      refine one_ (i := 2) (N := some 18) #[t_,t_,t_,f_,f_,f_,f_] rfl rfl (by kernel_rfl) (by decide) (fun K hK => ?_)
      refine goes_ Try.func79 (by kernel_rfl) rfl #[] (by rfl) rfl rfl (by (try simp only [List.map_toArray, List.map_cons, List.map_nil]); first | done | rfl | (simp only [List.length_drop, List.length_take]; rfl)) ?_
      with_reducible refine (spec_l03Zero.calls k1  t214 _ A9.out).mono ?_
      rintro e w12 ⟨rfl, hb⟩
      refine ⟨_, rfl, ?_⟩
      replace HO_214000 := rB HO_214000 hb
      replace BK211 := bB BK211 hb
      replace BK213 := bB BK213 hb
      replace HB := ak (below_step (lT HB (gC GE211 (gC GE213 gN))) hb)
      (try clear hb)
      (try clear hb2)
      (try clear hk)
      (try clear hi)
      refine hK.out _ _ ⟨bc BK213 0, bc BK213 1⟩ (fun hHeld => ?_)
      clear hK K
      refine nm ?_
      refine one_ (i := 3) (N := some 19) #[t_,t_,t_,t_,f_,f_,f_] rfl rfl (by kernel_rfl) (by decide) (fun K hK => ?_)
      refine value_ (w1 := ?_) (v := ?_) (by rfl) rfl ?_ ?_
      rotate_left 2
      ·go_simp
       constructor
       ·rfl
       ·rfl
      refine hK.out _ _ ⟨(blk_cell (blk_alloc BK213.out _) 0).trans rfl, (blk_cell (blk_alloc BK213.out _) 1).trans rfl⟩ (fun hHeld => ?_)
      clear hK K
      refine nm ?_
      refine one_ (i := 4) (N := some 20) #[t_,t_,t_,t_,t_,f_,f_] rfl rfl (by kernel_rfl) (by decide) (fun K hK => ?_)
      refine Kd.R_append_step Kd.string (w0 := w) w.heap.size (by rfl) (.tmp 17) (.tmp 19) 24 9 (.string ⟨#[]⟩) 16 rfl Try.underlying24 info9 rfl (by decide) (by omega) u214000 x214000_1 t214 [.string t214] (fun _ => True) (fun _ => False) rfl rfl ?aP (fun _ hk => hk.elim) ?aF ?aO ?aB ?aS ?aL ?_
      (case aP => exact rfl)
      (case aB => exact (lT HB (gC GE211 (gC GE213 gN))))
      (case aF => exact (fun _ _ => trivial))
      (case aO => exact (rG HO_214000))
      (case aS => exact (below_size (lT HB (gC GE211 (gC GE213 gN)))))
      (case aL => have := LMc10.out; omega)
      intro v216 w13 ho hb hg hat
      rw [← Ny215.out] at ho
      have n0_ := ak (blk_grown (g := gb211) (o := .cells #[.slice none 0 0, .slice none 0 0] 27 (0, 0)) (bG BK211) hg (Kd.R_ne HO_214000.out BK211.out (by decide)))
      have n1_ := ak (blk_grown (g := gb213) (o := .cells #[u214000, .slice none 0 0] 27 (0, 0)) (bG BK213) hg (Kd.R_ne HO_214000.out BK213.out (by decide)))
      have n2_ := ak (hb)
      have n3_ := ak (ho)
      clear BK211
      clear BK213
      clear HB
      clear HO_214000
      have BK211 := n0_
      have BK213 := n1_
      have HB := n2_
      have HO217 := n3_
      clear n0_ n1_ n2_ n3_
      clear ho hb hg hat
      obtain ⟨Ao14, co14, eo14⟩ := Kd.R_slice HO217.out
      (first | subst eo14 | (injection eo14 with f1_ f2_ f3_; have f4_ := f1_.symm; have f5_ := f3_.symm; clear f1_ f2_ f3_; subst f4_; subst f5_))
      refine hK.out _ _ ⟨bc BK213 0, bc BK213 1⟩ (fun hHeld => ?_)
      clear hK K
      refine nm ?_
      refine pure_ (i := 5) (N := some 21) (v := ?_) (a' := ?_) #[t_,t_,t_,t_,t_,t_,f_] rfl rfl (by kernel_rfl) (fun _ _ _ h => h) (Or.inl ⟨by rfl, ?_⟩) ?_ ?_
      rotate_left
      ·intro w'
       go_simp
       with_reducible rfl
      rotate_left
      ·simp only [Act.put, List.setIfInBounds_toArray, List.set_cons_zero, List.set_cons_succ, i64_w, i32_w]
       rfl
      refine last_ (i := 6) (N := none) #[t_,t_,t_,t_,t_,t_,t_] rfl rfl (by kernel_rfl) (by decide) (fun K hK => ?_)
      have hs15 : w13.cell? ⟨gb213, 0, none⟩ = some (u214000) := bc BK213 0
      have hfs15 := blk_frozen BK213.out 0
      have hns15_0 := NB211_213.out
      have hms15_0 := NB213_211.out
      refine skip_ (w1 := ?_) (by rfl) rfl ?_ ?_
      rotate_left
      ·go_simp
       rfl
      refine hK.out _ _ ?_
      clear hK K
      refine done_ (by kernel_rfl) ?_
      try go_wp2
      go_roundg k1
      case measure => have := HK1.out; omega
      case rel => exact ⟨(wrap64 (x5_1 + 1)), (y215), (.slice Ao14 y215.length co14), (by first | rfl | (simp; done) | (simp [*]; done)), H', ⟨by have := HK1.out; omega⟩, ⟨by exact Kd.R_mono (rT HO217 BK213 (by decide)) (fun _ hk => trivial)⟩, ⟨by (with_reducible repeat (first | refine blk_drewN ?_ _ | refine blk_drew ?_ | refine blk_alloc ?_ _)); refine blk_far ?_ NB211_213.out _; (with_reducible repeat (first | refine blk_drewN ?_ _ | refine blk_drew ?_ | refine blk_alloc ?_ _)); exact BK211.out⟩, ⟨bW BK213⟩, ⟨by exact lT HB (gC GE211 (gC GE213 gN))⟩⟩
     ·rw [if_neg c10] at H
      exact absurd H (by simp)
    ·rw [if_neg c8] at H
     have c8b0 : decide (x5_1 < a0) = false := decide_eq_false c8
     clear c8
     simp only [Option.some.injEq, Prod.mk.injEq] at H
     obtain ⟨rfl, rfl, rfl⟩ := H
     have hnb16 := NB213_211.out
     have hnc16 := NB211_213.out
     have hcz17_0 : wr.cell? ⟨gb213, 0, none⟩ = some (u214000) := bc BK213 0
     have hcz17_1 : wr.cell? ⟨gb213, 1, none⟩ = some (.slice none 0 0) := bc BK213 1
     have hfz17_0 := blk_frozen BK213.out 0
     have hfz17_1 := blk_frozen BK213.out 1
     obtain ⟨Ao18, co18, eo18⟩ := Kd.R_slice HO_214000.out
     subst eo18
     have hcz19_0 : wr.cell? ⟨gb211, 0, none⟩ = some (.slice none 0 0) := bc BK211 0
     have hcz19_1 : wr.cell? ⟨gb211, 1, none⟩ = some (.slice none 0 0) := bc BK211 1
     have hfz19_0 := blk_frozen BK211.out 0
     have hfz19_1 := blk_frozen BK211.out 1
     go_wp2
     refine bodyPost_ret (results_ct rfl _ _ gb211 27 #[.slice Ao18 x214000_1.length co18, .slice none 0 0] (0, 0) _ rfl (bW BK211) Try.underlying27 rfl (by kernel_rfl)) rfl ?_
     exact ⟨_, _, ew, by exact Kd.R_mono (rT HO_214000 BK211 (by decide)) (fun _ hk => trivial), nil_, by exact lT HB (gC GE211 (gC GE213 gN))⟩
 ·replace c3 := Bool.eq_false_iff.mpr c3
  subst c3
  have H1 : (some (([] : List ByteArray), ([] : List (S63)), false)) = some (r1, r2, r3) := by rw [if_neg (show ¬ (false = true) by decide)] at H; exact H
  clear H
  have H := H1
  clear H1
  simp only [Option.some.injEq, Prod.mk.injEq] at H
  obtain ⟨rfl, rfl, rfl⟩ := H
  go_enter Try.func67, Try.ntmps67
  go_wp2_with (first | ((with_reducible refine gate_dst (N := 2) rfl ?_); refine bx 2 #[.slice none 0 0, .slice none 0 0] 27 ?_; intro gb211 hg w20 hbox hb; replace BK211 := ak (hbox); replace GW211 := ak (bz hg (lG HB)); replace GE211 := ak (bz hg (lG HB)); replace HB := lB HB hb; clear hb hbox hg) | ((with_reducible refine gate_callee (f := 49) rfl ?_); refine gl (some 7) Try.func49 #[.int .i64 a0, .int .i64 1, .int .i64 100] ?_; (with_reducible refine (spec_l01In.calls a0 1 100 false _ A2.out).mono ?_); rintro e w' ⟨rfl, ⟨nd, rfl⟩⟩; refine ⟨_, rfl, ?_⟩; (try (rw [drewN_self w20]; generalize hq_ : World.drewN w20 _ = w20; have n0_ : Aside0 (w20.heap[gb211]? = some (.cells #[.slice none 0 0, .slice none 0 0] 27 (0, 0))) := ⟨by rw [← hq_]; exact (bG BK211)⟩; have n1_ : Aside0 (Below w.heap.size w w20) := ⟨by rw [← hq_]; exact (lT HB (gC GE211 gN))⟩; clear BK211 HB hq_; have BK211 := n0_; have HB := n1_; clear n0_ n1_)); (try (have hy211_0 : w20.cell? ⟨gb211, 0, none⟩ = some (.slice none 0 0) := bc BK211 0; have hv211_0 := blk_frozen BK211.out 0; have hy211_1 : w20.cell? ⟨gb211, 1, none⟩ = some (.slice none 0 0) := bc BK211 1; have hv211_1 := blk_frozen BK211.out 1)); obtain ⟨hcz21_0, hcz21_1, hfz21_0, hfz21_1⟩ := bC2 BK211))
  refine bodyPost_ret (results_ct rfl _ _ gb211 27 #[.slice none 0 0, .slice none 0 0] (0, 0) _ rfl (bW BK211) Try.underlying27 rfl (by kernel_rfl)) rfl ?_
  exact ⟨_, _, ew, nil_, nil_, by exact lT HB (gC GE211 gN)⟩

/-! ### spec_WriteSector: function 95 -/
def spec_WriteSector.f (k : Nat) (l0_0 : List ByteArray) (l0_1 : List (S63)) (a1 : Int) (a2 : ByteArray) : Option (List ByteArray × (List (S63)) × Bool) := (spec_l03Copy.f l0_0 l0_1).bind fun bt220 => ((spec_DiskOk.f k l0_0 l0_1).bind fun t227 => (if t227 = true then ((spec_l01In.f a1 0 (wrap64 ((l0_0.length : Int) - 1))).bind fun t228 => (if t228 = true then (if (a2.size : Int) = 32 then (if (l0_1.length : Int) ≥ 60 then (some (bt220.1, bt220.2, false)) else (if bt220.2.length < 5864062014805 then (some (bt220.1, (bt220.2 ++ [(⟨a1, a2⟩ : S63)]), true)) else (none))) else (some (bt220.1, bt220.2, false))) else (some (bt220.1, bt220.2, false)))) else (some (bt220.1, bt220.2, false))))
theorem spec_WriteSector.mono : ∀ a0 a1 a2 a3 k, LeO (spec_WriteSector.f k a0 a1 a2 a3) (spec_WriteSector.f (k + 1) a0 a1 a2 a3) := by
 intro a0 a1 a2 a3 k
 unfold spec_WriteSector.f
 repeat' first
   | (with_reducible exact spec_DiskOk.mono _ _ _)
   | (with_reducible exact LeO.refl _)
   | (with_reducible exact LeO.none _)
   | (with_reducible refine LeO.ite ?_ ?_)
   | (with_reducible refine LeO.bind ?_ (fun _ => ?_))
   | exact spec_DiskOk.mono _ _ _
   | exact LeO.none _
   | refine LeO.ite ?_ ?_
   | refine LeO.bind ?_ (fun _ => ?_)
set_option maxHeartbeats 8000000 in
set_option maxRecDepth 100000 in
theorem spec_WriteSector.calls (k : Nat) (A0_0 : Option Addr) (c0_0 : Nat) (l0_0 : List ByteArray) (A0_1 : Option Addr) (c0_1 : Nat) (l0_1 : List (S63)) (a1 : Int) (a2 : ByteArray) (r1 : List ByteArray) (r2 : List (S63)) (r3 : Bool) (w : World) (hr0_0 : Kd.C Kd.string w A0_0 l0_0.length l0_0) (hc0_0 : l0_0.length ≤ c0_0) (hr0_1 : Kd.C k63 w A0_1 l0_1.length l0_1) (hc0_1 : l0_1.length ≤ c0_1) (h : spec_WriteSector.f k l0_0 l0_1 a1 a2 = some (r1, r2, r3)) :
  Calls Try.prog 95 #[.agg #[.slice A0_0 l0_0.length c0_0, .slice A0_1 l0_1.length c0_1], .int .i64 a1, .string a2] w fun e w' => ∃ v0_ v1_ : Value, e = .returned (.tuple #[.agg #[v0_, v1_], .bool r3]) ∧ Kd.R Kd.string 9 w' w.heap.size (fun _ => True) v0_ r1 ∧ Kd.R k63 63 w' w.heap.size (fun _ => True) v1_ r2 ∧ Below w.heap.size w w' := by
 have hu27 := Try.underlying27
 have hu63 := Try.underlying63
 have HR0_0 := Aside0.mk hr0_0
 have HC0_0 := Aside0.mk hc0_0
 clear hr0_0 hc0_0
 have HR0_1 := Aside0.mk hr0_1
 have HC0_1 := Aside0.mk hc0_1
 clear hr0_1 hc0_1
 have HB := ak (Below.refl w.heap.size w)
 have H : ((spec_l03Copy.f l0_0 l0_1).bind fun bt220 => ((spec_DiskOk.f k l0_0 l0_1).bind fun t227 => (if t227 = true then ((spec_l01In.f a1 0 (wrap64 ((l0_0.length : Int) - 1))).bind fun t228 => (if t228 = true then (if (a2.size : Int) = 32 then (if (l0_1.length : Int) ≥ 60 then (some (bt220.1, bt220.2, false)) else (if bt220.2.length < 5864062014805 then (some (bt220.1, (bt220.2 ++ [(⟨a1, a2⟩ : S63)]), true)) else (none))) else (some (bt220.1, bt220.2, false))) else (some (bt220.1, bt220.2, false)))) else (some (bt220.1, bt220.2, false))))) = some (r1, r2, r3) := h
 clear h
 replace H := Option.bind_eq_some_iff.mp H
 obtain ⟨⟨t220, t223⟩, A40, H⟩ := H
 replace H : ((spec_DiskOk.f k l0_0 l0_1).bind fun t227 => (if t227 = true then ((spec_l01In.f a1 0 (wrap64 ((l0_0.length : Int) - 1))).bind fun t228 => (if t228 = true then (if (a2.size : Int) = 32 then (if (l0_1.length : Int) ≥ 60 then (some (t220, t223, false)) else (if t223.length < 5864062014805 then (some (t220, (t223 ++ [(⟨a1, a2⟩ : S63)]), true)) else (none))) else (some (t220, t223, false))) else (some (t220, t223, false)))) else (some (t220, t223, false)))) = some (r1, r2, r3) := H
 have A4 := Aside0.mk A40
 clear A40
 replace H := Option.bind_eq_some_iff.mp H
 obtain ⟨t227, A50, H⟩ := H
 replace H : (if t227 = true then ((spec_l01In.f a1 0 (wrap64 ((l0_0.length : Int) - 1))).bind fun t228 => (if t228 = true then (if (a2.size : Int) = 32 then (if (l0_1.length : Int) ≥ 60 then (some (t220, t223, false)) else (if t223.length < 5864062014805 then (some (t220, (t223 ++ [(⟨a1, a2⟩ : S63)]), true)) else (none))) else (some (t220, t223, false))) else (some (t220, t223, false)))) else (some (t220, t223, false))) = some (r1, r2, r3) := H
 have A5 := Aside0.mk A50
 clear A50
 by_cases c6 : t227 = true
 ·subst c6
  have H1 : ((spec_l01In.f a1 0 (wrap64 ((l0_0.length : Int) - 1))).bind fun t228 => (if t228 = true then (if (a2.size : Int) = 32 then (if (l0_1.length : Int) ≥ 60 then (some (t220, t223, false)) else (if t223.length < 5864062014805 then (some (t220, (t223 ++ [(⟨a1, a2⟩ : S63)]), true)) else (none))) else (some (t220, t223, false))) else (some (t220, t223, false)))) = some (r1, r2, r3) := by rw [if_pos rfl] at H; exact H
  clear H
  have H := H1
  clear H1
  replace H := Option.bind_eq_some_iff.mp H
  obtain ⟨t228, A70, H⟩ := H
  replace H : (if t228 = true then (if (a2.size : Int) = 32 then (if (l0_1.length : Int) ≥ 60 then (some (t220, t223, false)) else (if t223.length < 5864062014805 then (some (t220, (t223 ++ [(⟨a1, a2⟩ : S63)]), true)) else (none))) else (some (t220, t223, false))) else (some (t220, t223, false))) = some (r1, r2, r3) := H
  have A7 := Aside0.mk A70
  clear A70
  by_cases c8 : t228 = true
  ·subst c8
   have H1 : (if (a2.size : Int) = 32 then (if (l0_1.length : Int) ≥ 60 then (some (t220, t223, false)) else (if t223.length < 5864062014805 then (some (t220, (t223 ++ [(⟨a1, a2⟩ : S63)]), true)) else (none))) else (some (t220, t223, false))) = some (r1, r2, r3) := by rw [if_pos rfl] at H; exact H
   clear H
   have H := H1
   clear H1
   by_cases c9 : (a2.size : Int) = 32
   ·rw [if_pos c9] at H
    have c9b0 : ((a2.size : Int) == 32) = true := beq_iff_eq.mpr c9
    have c9b1 : ((a2.size : Int) != 32) = false := bne_eq_false_iff_eq.mpr c9
    clear c9
    by_cases c10 : (l0_1.length : Int) ≥ 60
    ·rw [if_pos c10] at H
     have c10b0 : decide (60 ≤ (l0_1.length : Int)) = true := decide_eq_true c10
     have c10b1 : decide (60 ≤ l0_1.length) = true := decide_eq_true (by omega)
     clear c10
     simp only [Option.some.injEq, Prod.mk.injEq] at H
     obtain ⟨rfl, rfl, rfl⟩ := H
     go_enter Try.func95, Try.ntmps95
     go_wp2_with (first | ((with_reducible refine gate_dst (N := 3) rfl ?_); (try (refine gate_guard (by rfl) ?_; dsimp only)); refine bx 3 #[.slice A0_0 l0_0.length c0_0, .slice A0_1 l0_1.length c0_1] 27 ?_; intro gb218 hg w11 hbox hb; replace BK218 := ak (hbox); replace GW218 := ak (bz hg (lG HB)); replace GE218 := ak (bz hg (lG HB)); replace HB := lB HB hb; clear hb hbox hg) | ((with_reducible refine gate_dst (N := 6) rfl ?_); (try (refine gate_guard (by rfl) ?_; dsimp only)); refine bx 6 #[.slice none 0 0, .slice none 0 0] 27 ?_; intro gb219 hg w12 hbox hb; replace BK219 := ak (hbox); replace GW219 := ak (bz hg (lT HB (gC GE218 gN))); replace GE219 := ak (bz hg (lT HB (gC GE218 gN))); replace HB := ak (below_step (lT HB (gC GE218 gN)) hb); replace NB218_219 := ak (nl hg (bG BK218)); replace NB219_218 := ak (ng hg (bG BK218)); replace BK218 := bB BK218 hb; clear hb hbox hg; have hnb13 := NB218_219.out; have hnc13 := NB219_218.out; obtain ⟨hcz14_0, hcz14_1, hfz14_0, hfz14_1⟩ := bC2 BK218) | ((with_reducible refine gate_callee (f := 58) rfl ?_); refine gl (some 10) Try.func58 #[.agg #[.slice A0_0 l0_0.length c0_0, .slice A0_1 l0_1.length c0_1]] ?_; (with_reducible refine (spec_l03Copy.calls _ _ l0_0 _ _ l0_1 t220 t223 _ ?side1 ?side2 ?side3 ?side4 A4.out).mono ?_); (case side1 => exact cG (Kd.C_below HR0_0.out HB.out)); (case side2 => exact HC0_0.out); (case side3 => exact cG (Kd.C_below HR0_1.out HB.out)); (case side4 => exact HC0_1.out); rintro e w15 ⟨v221, v224, rfl, ho0, ho1, hb⟩; refine ⟨_, rfl, ?_⟩; replace HO222 := ak (Kd.R_lower ho0 (below_size (lT HB (gC GE218 (gC GE219 gN))))); replace HO225 := ak (Kd.R_lower ho1 (below_size (lT HB (gC GE218 (gC GE219 gN))))); replace BK218 := bB BK218 hb; replace BK219 := bB BK219 hb; replace HB := ak (below_step (lT HB (gC GE218 (gC GE219 gN))) hb); (try clear hb); (try clear hk); (try clear ho0); (try clear ho1)) | ((with_reducible refine gate_dst (N := 8) rfl ?_); (try (refine gate_guard (by rfl) ?_; dsimp only)); refine bx 8 #[.slice none 0 0, .slice none 0 0] 27 ?_; intro gb226 hg w16 hbox hb; replace HO222 := rB HO222 hb; replace HO225 := rB HO225 hb; replace BK226 := ak (hbox); replace GW226 := ak (bz hg (lT HB (gC GE218 (gC GE219 gN)))); replace GE226 := ak (bz hg (lT HB (gC GE218 (gC GE219 gN)))); replace HB := ak (below_step (lT HB (gC GE218 (gC GE219 gN))) hb); replace NB218_226 := ak (nl hg (bG BK218)); replace NB226_218 := ak (ng hg (bG BK218)); replace BK218 := bB BK218 hb; replace NB219_226 := ak (nl hg (bG BK219)); replace NB226_219 := ak (ng hg (bG BK219)); replace BK219 := bB BK219 hb; clear hb hbox hg; obtain ⟨Ao17, co17, eo17⟩ := Kd.R_slice HO222.out; subst eo17; have hnb18 := NB226_218.out; have hnc18 := NB218_226.out; have hnb19 := NB226_219.out; have hnc19 := NB219_226.out; obtain ⟨hcz20_0, hcz20_1, hfz20_0, hfz20_1⟩ := bC2 BK226; obtain ⟨Ao21, co21, eo21⟩ := Kd.R_slice HO225.out; subst eo21; obtain ⟨hcz22_0, hcz22_1, hfz22_0, hfz22_1⟩ := bC2 BK218) | ((with_reducible refine gate_callee (f := 35) rfl ?_); refine gl (some 12) Try.func35 #[.agg #[.slice A0_0 l0_0.length c0_0, .slice A0_1 l0_1.length c0_1]] ?_; (with_reducible refine (spec_DiskOk.calls k _ _ l0_0 _ _ l0_1 true _ ?side1 ?side2 ?side3 ?side4 A5.out).mono ?_); (case side1 => exact Kd.C_below HR0_0.out (lT HB (gC GE218 (gC GE219 (gC GE226 gN))))); (case side2 => exact HC0_0.out); (case side3 => exact Kd.C_below HR0_1.out (lT HB (gC GE218 (gC GE219 (gC GE226 gN))))); (case side4 => exact HC0_1.out); rintro e w23 ⟨rfl, hb⟩; refine ⟨_, rfl, ?_⟩; replace HO222 := ak (Kd.R_below (rT HO222 BK226 (by decide)) hb); replace HO225 := ak (Kd.R_below (rT HO225 BK226 (by decide)) hb); replace BK218 := ak (blk_below (bT BK218 (nC NB218_226 nN)) hb); replace BK219 := ak (blk_below (bT BK219 (nC NB219_226 nN)) hb); replace BK226 := ak (blk_below (g := gb226) (o := .cells #[.slice Ao17 t220.length co17, .slice Ao21 t223.length co21] 27 (0, 0)) (bW BK226) hb); replace HB := ak (below_step (lT HB (gC GE218 (gC GE219 (gC GE226 gN)))) hb); (try clear hb); (try clear hk); obtain ⟨hcz24_0, hcz24_1, hfz24_0, hfz24_1⟩ := bC2 BK218) | (go_at_call 49; (with_reducible refine (spec_l01In.calls a1 0 (wrap64 ((l0_0.length : Int) - 1)) true _ A7.out).mono ?_); rintro e w' ⟨rfl, ⟨nd, rfl⟩⟩; (try (rw [drewN_self w23]; generalize hq_ : World.drewN w23 _ = w23; have n0_ : Aside0 (Kd.R Kd.string 9 w23 w.heap.size (fun _ => True) (.slice Ao17 t220.length co17) t220) := ⟨by rw [← hq_]; exact (rG HO222)⟩; have n1_ : Aside0 (Kd.R k63 63 w23 w.heap.size (fun _ => True) (.slice Ao21 t223.length co21) t223) := ⟨by rw [← hq_]; exact (rG HO225)⟩; have n2_ : Aside0 (w23.heap[gb218]? = some (.cells #[.slice A0_0 l0_0.length c0_0, .slice A0_1 l0_1.length c0_1] 27 (0, 0))) := ⟨by rw [← hq_]; exact (bG BK218)⟩; have n3_ : Aside0 (w23.heap[gb219]? = some (.cells #[.slice none 0 0, .slice none 0 0] 27 (0, 0))) := ⟨by rw [← hq_]; exact (bG BK219)⟩; have n4_ : Aside0 (w23.heap[gb226]? = some (.cells #[.slice Ao17 t220.length co17, .slice Ao21 t223.length co21] 27 (0, 0))) := ⟨by rw [← hq_]; exact (bG BK226)⟩; have n5_ : Aside0 (Below w.heap.size w w23) := ⟨by rw [← hq_]; exact (lT HB (gC GE218 (gC GE219 (gC GE226 gN))))⟩; clear HO222 HO225 BK218 BK219 BK226 HB hq_; have HO222 := n0_; have HO225 := n1_; have BK218 := n2_; have BK219 := n3_; have BK226 := n4_; have HB := n5_; clear n0_ n1_ n2_ n3_ n4_ n5_)); (try (have hy218_0 : w23.cell? ⟨gb218, 0, none⟩ = some (.slice A0_0 l0_0.length c0_0) := bc BK218 0; have hv218_0 := blk_frozen BK218.out 0; have hy218_1 : w23.cell? ⟨gb218, 1, none⟩ = some (.slice A0_1 l0_1.length c0_1) := bc BK218 1; have hv218_1 := blk_frozen BK218.out 1)); (try (have hy219_0 : w23.cell? ⟨gb219, 0, none⟩ = some (.slice none 0 0) := bc BK219 0; have hv219_0 := blk_frozen BK219.out 0; have hy219_1 : w23.cell? ⟨gb219, 1, none⟩ = some (.slice none 0 0) := bc BK219 1; have hv219_1 := blk_frozen BK219.out 1)); (try (have hy226_0 : w23.cell? ⟨gb226, 0, none⟩ = some (.slice Ao17 t220.length co17) := bc BK226 0; have hv226_0 := blk_frozen BK226.out 0; have hy226_1 : w23.cell? ⟨gb226, 1, none⟩ = some (.slice Ao21 t223.length co21) := bc BK226 1; have hv226_1 := blk_frozen BK226.out 1)); obtain ⟨hcz25_0, hcz25_1, hfz25_0, hfz25_1⟩ := bC2 BK226; obtain ⟨hcz26_0, hcz26_1, hfz26_0, hfz26_1⟩ := bC2 BK219))
     refine bodyPost_ret (results_ct rfl _ _ gb219 27 #[.slice Ao17 t220.length co17, .slice Ao21 t223.length co21] (0, 0) _ rfl (bW BK219) Try.underlying27 rfl (by kernel_rfl)) rfl ?_
     exact ⟨_, _, ew, by exact Kd.R_mono (rT HO222 BK219 (by decide)) (fun _ hk => trivial), by exact Kd.R_mono (rT HO225 BK219 (by decide)) (fun _ hk => trivial), by exact lT HB (gC GE218 (gC GE219 (gC GE226 gN)))⟩
    ·rw [if_neg c10] at H
     have c10b0 : decide (60 ≤ (l0_1.length : Int)) = false := decide_eq_false c10
     have c10b1 : decide (60 ≤ l0_1.length) = false := decide_eq_false (by omega)
     clear c10
     by_cases c27 : t223.length < 5864062014805
     ·rw [if_pos c27] at H
      have LMc27 := Aside0.mk c27
      clear c27
      obtain ⟨y229, hy229⟩ : ∃ y_ : List (S63), y_ = (t223 ++ [(⟨a1, a2⟩ : S63)]) := ⟨_, rfl⟩
      replace H : (some (t220, y229, true)) = some (r1, r2, r3) := by first | (rw [hy229]; with_reducible exact H) | (have H2_ := (Option.bind_some _ _).symm.trans H; rw [hy229]; with_reducible exact H2_) | (have H2_ := (Option.bind_some _ _).symm.trans H; with_reducible exact H2_) | with_reducible exact H | (rw [hy229]; exact H) | exact H
      have Ny229 := Aside0.mk hy229
      clear hy229
      simp only [Option.some.injEq, Prod.mk.injEq] at H
      obtain ⟨rfl, rfl, rfl⟩ := H
      go_enter Try.func95, Try.ntmps95
      go_wp2_with (first | ((with_reducible refine gate_dst (N := 3) rfl ?_); (try (refine gate_guard (by rfl) ?_; dsimp only)); refine bx 3 #[.slice A0_0 l0_0.length c0_0, .slice A0_1 l0_1.length c0_1] 27 ?_; intro gb218 hg w28 hbox hb; replace BK218 := ak (hbox); replace GW218 := ak (bz hg (lG HB)); replace GE218 := ak (bz hg (lG HB)); replace HB := lB HB hb; clear hb hbox hg) | ((with_reducible refine gate_dst (N := 6) rfl ?_); (try (refine gate_guard (by rfl) ?_; dsimp only)); refine bx 6 #[.slice none 0 0, .slice none 0 0] 27 ?_; intro gb219 hg w29 hbox hb; replace BK219 := ak (hbox); replace GW219 := ak (bz hg (lT HB (gC GE218 gN))); replace GE219 := ak (bz hg (lT HB (gC GE218 gN))); replace HB := ak (below_step (lT HB (gC GE218 gN)) hb); replace NB218_219 := ak (nl hg (bG BK218)); replace NB219_218 := ak (ng hg (bG BK218)); replace BK218 := bB BK218 hb; clear hb hbox hg; have hnb30 := NB218_219.out; have hnc30 := NB219_218.out; obtain ⟨hcz31_0, hcz31_1, hfz31_0, hfz31_1⟩ := bC2 BK218) | ((with_reducible refine gate_callee (f := 58) rfl ?_); refine gl (some 10) Try.func58 #[.agg #[.slice A0_0 l0_0.length c0_0, .slice A0_1 l0_1.length c0_1]] ?_; (with_reducible refine (spec_l03Copy.calls _ _ l0_0 _ _ l0_1 t220 t223 _ ?side1 ?side2 ?side3 ?side4 A4.out).mono ?_); (case side1 => exact cG (Kd.C_below HR0_0.out HB.out)); (case side2 => exact HC0_0.out); (case side3 => exact cG (Kd.C_below HR0_1.out HB.out)); (case side4 => exact HC0_1.out); rintro e w32 ⟨v221, v224, rfl, ho0, ho1, hb⟩; refine ⟨_, rfl, ?_⟩; replace HO222 := ak (Kd.R_lower ho0 (below_size (lT HB (gC GE218 (gC GE219 gN))))); replace HO225 := ak (Kd.R_lower ho1 (below_size (lT HB (gC GE218 (gC GE219 gN))))); replace BK218 := bB BK218 hb; replace BK219 := bB BK219 hb; replace HB := ak (below_step (lT HB (gC GE218 (gC GE219 gN))) hb); (try clear hb); (try clear hk); (try clear ho0); (try clear ho1)) | ((with_reducible refine gate_dst (N := 8) rfl ?_); (try (refine gate_guard (by rfl) ?_; dsimp only)); refine bx 8 #[.slice none 0 0, .slice none 0 0] 27 ?_; intro gb226 hg w33 hbox hb; replace HO222 := rB HO222 hb; replace HO225 := rB HO225 hb; replace BK226 := ak (hbox); replace GW226 := ak (bz hg (lT HB (gC GE218 (gC GE219 gN)))); replace GE226 := ak (bz hg (lT HB (gC GE218 (gC GE219 gN)))); replace HB := ak (below_step (lT HB (gC GE218 (gC GE219 gN))) hb); replace NB218_226 := ak (nl hg (bG BK218)); replace NB226_218 := ak (ng hg (bG BK218)); replace BK218 := bB BK218 hb; replace NB219_226 := ak (nl hg (bG BK219)); replace NB226_219 := ak (ng hg (bG BK219)); replace BK219 := bB BK219 hb; clear hb hbox hg; obtain ⟨Ao34, co34, eo34⟩ := Kd.R_slice HO222.out; subst eo34; have hnb35 := NB226_218.out; have hnc35 := NB218_226.out; have hnb36 := NB226_219.out; have hnc36 := NB219_226.out; obtain ⟨hcz37_0, hcz37_1, hfz37_0, hfz37_1⟩ := bC2 BK226; obtain ⟨Ao38, co38, eo38⟩ := Kd.R_slice HO225.out; subst eo38; obtain ⟨hcz39_0, hcz39_1, hfz39_0, hfz39_1⟩ := bC2 BK218) | ((with_reducible refine gate_callee (f := 35) rfl ?_); refine gl (some 12) Try.func35 #[.agg #[.slice A0_0 l0_0.length c0_0, .slice A0_1 l0_1.length c0_1]] ?_; (with_reducible refine (spec_DiskOk.calls k _ _ l0_0 _ _ l0_1 true _ ?side1 ?side2 ?side3 ?side4 A5.out).mono ?_); (case side1 => exact Kd.C_below HR0_0.out (lT HB (gC GE218 (gC GE219 (gC GE226 gN))))); (case side2 => exact HC0_0.out); (case side3 => exact Kd.C_below HR0_1.out (lT HB (gC GE218 (gC GE219 (gC GE226 gN))))); (case side4 => exact HC0_1.out); rintro e w40 ⟨rfl, hb⟩; refine ⟨_, rfl, ?_⟩; replace HO222 := ak (Kd.R_below (rT HO222 BK226 (by decide)) hb); replace HO225 := ak (Kd.R_below (rT HO225 BK226 (by decide)) hb); replace BK218 := ak (blk_below (bT BK218 (nC NB218_226 nN)) hb); replace BK219 := ak (blk_below (bT BK219 (nC NB219_226 nN)) hb); replace BK226 := ak (blk_below (g := gb226) (o := .cells #[.slice Ao34 t220.length co34, .slice Ao38 t223.length co38] 27 (0, 0)) (bW BK226) hb); replace HB := ak (below_step (lT HB (gC GE218 (gC GE219 (gC GE226 gN)))) hb); (try clear hb); (try clear hk); obtain ⟨hcz41_0, hcz41_1, hfz41_0, hfz41_1⟩ := bC2 BK218) | (go_at_call 49; (with_reducible refine (spec_l01In.calls a1 0 (wrap64 ((l0_0.length : Int) - 1)) true _ A7.out).mono ?_); rintro e w' ⟨rfl, ⟨nd, rfl⟩⟩; (try (rw [drewN_self w40]; generalize hq_ : World.drewN w40 _ = w40; have n0_ : Aside0 (Kd.R Kd.string 9 w40 w.heap.size (fun _ => True) (.slice Ao34 t220.length co34) t220) := ⟨by rw [← hq_]; exact (rG HO222)⟩; have n1_ : Aside0 (Kd.R k63 63 w40 w.heap.size (fun _ => True) (.slice Ao38 t223.length co38) t223) := ⟨by rw [← hq_]; exact (rG HO225)⟩; have n2_ : Aside0 (w40.heap[gb218]? = some (.cells #[.slice A0_0 l0_0.length c0_0, .slice A0_1 l0_1.length c0_1] 27 (0, 0))) := ⟨by rw [← hq_]; exact (bG BK218)⟩; have n3_ : Aside0 (w40.heap[gb219]? = some (.cells #[.slice none 0 0, .slice none 0 0] 27 (0, 0))) := ⟨by rw [← hq_]; exact (bG BK219)⟩; have n4_ : Aside0 (w40.heap[gb226]? = some (.cells #[.slice Ao34 t220.length co34, .slice Ao38 t223.length co38] 27 (0, 0))) := ⟨by rw [← hq_]; exact (bG BK226)⟩; have n5_ : Aside0 (Below w.heap.size w w40) := ⟨by rw [← hq_]; exact (lT HB (gC GE218 (gC GE219 (gC GE226 gN))))⟩; clear HO222 HO225 BK218 BK219 BK226 HB hq_; have HO222 := n0_; have HO225 := n1_; have BK218 := n2_; have BK219 := n3_; have BK226 := n4_; have HB := n5_; clear n0_ n1_ n2_ n3_ n4_ n5_)); (try (have hy218_0 : w40.cell? ⟨gb218, 0, none⟩ = some (.slice A0_0 l0_0.length c0_0) := bc BK218 0; have hv218_0 := blk_frozen BK218.out 0; have hy218_1 : w40.cell? ⟨gb218, 1, none⟩ = some (.slice A0_1 l0_1.length c0_1) := bc BK218 1; have hv218_1 := blk_frozen BK218.out 1)); (try (have hy219_0 : w40.cell? ⟨gb219, 0, none⟩ = some (.slice none 0 0) := bc BK219 0; have hv219_0 := blk_frozen BK219.out 0; have hy219_1 : w40.cell? ⟨gb219, 1, none⟩ = some (.slice none 0 0) := bc BK219 1; have hv219_1 := blk_frozen BK219.out 1)); (try (have hy226_0 : w40.cell? ⟨gb226, 0, none⟩ = some (.slice Ao34 t220.length co34) := bc BK226 0; have hv226_0 := blk_frozen BK226.out 0; have hy226_1 : w40.cell? ⟨gb226, 1, none⟩ = some (.slice Ao38 t223.length co38) := bc BK226 1; have hv226_1 := blk_frozen BK226.out 1)); obtain ⟨hcz42_0, hcz42_1, hfz42_0, hfz42_1⟩ := bC2 BK226) | ((with_reducible refine gate_builtin (b := .append) (xs := #[.tmp 36, .tmp 40]) rfl ?_); (try (refine gate_guard (by rfl) ?_; dsimp only)); at_builtin; refine Kd.R_append k63 (w0 := w) w.heap.size rfl (.tmp 36) (.tmp 40) 25 63 (.agg #[(.int .i64 0), (.string ⟨#[]⟩)]) 24 rfl Try.underlying25 info63 rfl (by decide) (by omega) (.slice Ao38 t223.length co38) t223 (⟨a1, a2⟩ : S63) [.int .i64 a1, .string a2] (fun _ => True) (fun _ => False) rfl rfl ?aP (fun _ hk => hk.elim) ?aF ?aO ?aB ?aS ?aL ?_; (case aP => exact k63_mkM _ _ _ (⟨a1, a2⟩ : S63)); (case aB => exact (lT HB (gC GE218 (gC GE219 (gC GE226 gN))))); (case aF => exact (fun _ _ => trivial)); (case aO => exact (rG HO225)); (case aS => exact (below_size (lT HB (gC GE218 (gC GE219 (gC GE226 gN)))))); (case aL => have := LMc27.out; omega); intro v230 w43 ho hb hg hat; rw [← Ny229.out] at ho; have n0_ := ak (blk_grown (g := gb218) (o := .cells #[.slice A0_0 l0_0.length c0_0, .slice A0_1 l0_1.length c0_1] 27 (0, 0)) (bG BK218) hg (Kd.R_ne HO225.out BK218.out (by decide))); have n1_ := ak (blk_grown (g := gb219) (o := .cells #[.slice none 0 0, .slice none 0 0] 27 (0, 0)) (bG BK219) hg (Kd.R_ne HO225.out BK219.out (by decide))); have n2_ := ak (Kd.R_over' (rG HO222) (Kd.R_typed (rG HO225)) (by decide) hg); have n3_ := ak (blk_grown (g := gb226) (o := .cells #[.slice Ao34 t220.length co34, .slice Ao38 t223.length co38] 27 (0, 0)) (bG BK226) hg (Kd.R_ne HO225.out BK226.out (by decide))); have n4_ := ak (hb); have n5_ := ak (ho); clear BK218; clear BK219; clear HO222; clear BK226; clear HB; clear HO225; have BK218 := n0_; have BK219 := n1_; have HO222 := n2_; have BK226 := n3_; have HB := n4_; have HO231 := n5_; clear n0_ n1_ n2_ n3_ n4_ n5_; clear ho hb hg hat; obtain ⟨Ao44, co44, eo44⟩ := Kd.R_slice HO231.out; subst eo44; obtain ⟨hcz45_0, hcz45_1, hfz45_0, hfz45_1⟩ := bC2 BK226; obtain ⟨hcz46_0, hcz46_1, hfz46_0, hfz46_1⟩ := bC2 BK219))
      refine bodyPost_ret (results_ct rfl _ _ gb219 27 #[.slice Ao34 t220.length co34, .slice Ao44 y229.length co44] (0, 0) _ rfl (by (with_reducible repeat (first | refine blk_drewN ?_ _ | refine blk_drew ?_ | refine blk_alloc ?_ _)); refine blk_put (cs := #[.slice Ao34 t220.length co34, .slice none 0 0]) ?_ 1 _ rfl; (with_reducible repeat (first | refine blk_drewN ?_ _ | refine blk_drew ?_ | refine blk_alloc ?_ _)); refine blk_put (cs := #[.slice none 0 0, .slice none 0 0]) ?_ 0 _ rfl; (with_reducible repeat (first | refine blk_drewN ?_ _ | refine blk_drew ?_ | refine blk_alloc ?_ _)); refine blk_far ?_ NB219_226.out _; (with_reducible repeat (first | refine blk_drewN ?_ _ | refine blk_drew ?_ | refine blk_alloc ?_ _)); exact BK219.out) Try.underlying27 rfl (by kernel_rfl)) rfl ?_
      exact ⟨_, _, ew, by exact Kd.R_mono (rT2 HO222 BK226 BK219 (by decide) (by decide)) (fun _ hk => trivial), by exact Kd.R_mono (rT2 HO231 BK226 BK219 (by decide) (by decide)) (fun _ hk => trivial), by exact lT HB (gC GE218 (gC GE219 (gC GE226 gN)))⟩
     ·rw [if_neg c27] at H
      exact absurd H (by simp)
   ·rw [if_neg c9] at H
    have c9b0 : ((a2.size : Int) == 32) = false := beq_eq_false_iff_ne.mpr c9
    have c9b1 : ((a2.size : Int) != 32) = true := bne_iff_ne.mpr c9
    simp only [Option.some.injEq, Prod.mk.injEq] at H
    obtain ⟨rfl, rfl, rfl⟩ := H
    go_enter Try.func95, Try.ntmps95
    go_wp2_with (first | ((with_reducible refine gate_dst (N := 3) rfl ?_); (try (refine gate_guard (by rfl) ?_; dsimp only)); refine bx 3 #[.slice A0_0 l0_0.length c0_0, .slice A0_1 l0_1.length c0_1] 27 ?_; intro gb218 hg w47 hbox hb; replace BK218 := ak (hbox); replace GW218 := ak (bz hg (lG HB)); replace GE218 := ak (bz hg (lG HB)); replace HB := lB HB hb; clear hb hbox hg) | ((with_reducible refine gate_dst (N := 6) rfl ?_); (try (refine gate_guard (by rfl) ?_; dsimp only)); refine bx 6 #[.slice none 0 0, .slice none 0 0] 27 ?_; intro gb219 hg w48 hbox hb; replace BK219 := ak (hbox); replace GW219 := ak (bz hg (lT HB (gC GE218 gN))); replace GE219 := ak (bz hg (lT HB (gC GE218 gN))); replace HB := ak (below_step (lT HB (gC GE218 gN)) hb); replace NB218_219 := ak (nl hg (bG BK218)); replace NB219_218 := ak (ng hg (bG BK218)); replace BK218 := bB BK218 hb; clear hb hbox hg; have hnb49 := NB218_219.out; have hnc49 := NB219_218.out; obtain ⟨hcz50_0, hcz50_1, hfz50_0, hfz50_1⟩ := bC2 BK218) | ((with_reducible refine gate_callee (f := 58) rfl ?_); refine gl (some 10) Try.func58 #[.agg #[.slice A0_0 l0_0.length c0_0, .slice A0_1 l0_1.length c0_1]] ?_; (with_reducible refine (spec_l03Copy.calls _ _ l0_0 _ _ l0_1 t220 t223 _ ?side1 ?side2 ?side3 ?side4 A4.out).mono ?_); (case side1 => exact cG (Kd.C_below HR0_0.out HB.out)); (case side2 => exact HC0_0.out); (case side3 => exact cG (Kd.C_below HR0_1.out HB.out)); (case side4 => exact HC0_1.out); rintro e w51 ⟨v221, v224, rfl, ho0, ho1, hb⟩; refine ⟨_, rfl, ?_⟩; replace HO222 := ak (Kd.R_lower ho0 (below_size (lT HB (gC GE218 (gC GE219 gN))))); replace HO225 := ak (Kd.R_lower ho1 (below_size (lT HB (gC GE218 (gC GE219 gN))))); replace BK218 := bB BK218 hb; replace BK219 := bB BK219 hb; replace HB := ak (below_step (lT HB (gC GE218 (gC GE219 gN))) hb); (try clear hb); (try clear hk); (try clear ho0); (try clear ho1)) | ((with_reducible refine gate_dst (N := 8) rfl ?_); (try (refine gate_guard (by rfl) ?_; dsimp only)); refine bx 8 #[.slice none 0 0, .slice none 0 0] 27 ?_; intro gb226 hg w52 hbox hb; replace HO222 := rB HO222 hb; replace HO225 := rB HO225 hb; replace BK226 := ak (hbox); replace GW226 := ak (bz hg (lT HB (gC GE218 (gC GE219 gN)))); replace GE226 := ak (bz hg (lT HB (gC GE218 (gC GE219 gN)))); replace HB := ak (below_step (lT HB (gC GE218 (gC GE219 gN))) hb); replace NB218_226 := ak (nl hg (bG BK218)); replace NB226_218 := ak (ng hg (bG BK218)); replace BK218 := bB BK218 hb; replace NB219_226 := ak (nl hg (bG BK219)); replace NB226_219 := ak (ng hg (bG BK219)); replace BK219 := bB BK219 hb; clear hb hbox hg; obtain ⟨Ao53, co53, eo53⟩ := Kd.R_slice HO222.out; subst eo53; have hnb54 := NB226_218.out; have hnc54 := NB218_226.out; have hnb55 := NB226_219.out; have hnc55 := NB219_226.out; obtain ⟨hcz56_0, hcz56_1, hfz56_0, hfz56_1⟩ := bC2 BK226; obtain ⟨Ao57, co57, eo57⟩ := Kd.R_slice HO225.out; subst eo57; obtain ⟨hcz58_0, hcz58_1, hfz58_0, hfz58_1⟩ := bC2 BK218) | ((with_reducible refine gate_callee (f := 35) rfl ?_); refine gl (some 12) Try.func35 #[.agg #[.slice A0_0 l0_0.length c0_0, .slice A0_1 l0_1.length c0_1]] ?_; (with_reducible refine (spec_DiskOk.calls k _ _ l0_0 _ _ l0_1 true _ ?side1 ?side2 ?side3 ?side4 A5.out).mono ?_); (case side1 => exact Kd.C_below HR0_0.out (lT HB (gC GE218 (gC GE219 (gC GE226 gN))))); (case side2 => exact HC0_0.out); (case side3 => exact Kd.C_below HR0_1.out (lT HB (gC GE218 (gC GE219 (gC GE226 gN))))); (case side4 => exact HC0_1.out); rintro e w59 ⟨rfl, hb⟩; refine ⟨_, rfl, ?_⟩; replace HO222 := ak (Kd.R_below (rT HO222 BK226 (by decide)) hb); replace HO225 := ak (Kd.R_below (rT HO225 BK226 (by decide)) hb); replace BK218 := ak (blk_below (bT BK218 (nC NB218_226 nN)) hb); replace BK219 := ak (blk_below (bT BK219 (nC NB219_226 nN)) hb); replace BK226 := ak (blk_below (g := gb226) (o := .cells #[.slice Ao53 t220.length co53, .slice Ao57 t223.length co57] 27 (0, 0)) (bW BK226) hb); replace HB := ak (below_step (lT HB (gC GE218 (gC GE219 (gC GE226 gN)))) hb); (try clear hb); (try clear hk); obtain ⟨hcz60_0, hcz60_1, hfz60_0, hfz60_1⟩ := bC2 BK218) | (go_at_call 49; (with_reducible refine (spec_l01In.calls a1 0 (wrap64 ((l0_0.length : Int) - 1)) true _ A7.out).mono ?_); rintro e w' ⟨rfl, ⟨nd, rfl⟩⟩; (try (rw [drewN_self w59]; generalize hq_ : World.drewN w59 _ = w59; have n0_ : Aside0 (Kd.R Kd.string 9 w59 w.heap.size (fun _ => True) (.slice Ao53 t220.length co53) t220) := ⟨by rw [← hq_]; exact (rG HO222)⟩; have n1_ : Aside0 (Kd.R k63 63 w59 w.heap.size (fun _ => True) (.slice Ao57 t223.length co57) t223) := ⟨by rw [← hq_]; exact (rG HO225)⟩; have n2_ : Aside0 (w59.heap[gb218]? = some (.cells #[.slice A0_0 l0_0.length c0_0, .slice A0_1 l0_1.length c0_1] 27 (0, 0))) := ⟨by rw [← hq_]; exact (bG BK218)⟩; have n3_ : Aside0 (w59.heap[gb219]? = some (.cells #[.slice none 0 0, .slice none 0 0] 27 (0, 0))) := ⟨by rw [← hq_]; exact (bG BK219)⟩; have n4_ : Aside0 (w59.heap[gb226]? = some (.cells #[.slice Ao53 t220.length co53, .slice Ao57 t223.length co57] 27 (0, 0))) := ⟨by rw [← hq_]; exact (bG BK226)⟩; have n5_ : Aside0 (Below w.heap.size w w59) := ⟨by rw [← hq_]; exact (lT HB (gC GE218 (gC GE219 (gC GE226 gN))))⟩; clear HO222 HO225 BK218 BK219 BK226 HB hq_; have HO222 := n0_; have HO225 := n1_; have BK218 := n2_; have BK219 := n3_; have BK226 := n4_; have HB := n5_; clear n0_ n1_ n2_ n3_ n4_ n5_)); (try (have hy218_0 : w59.cell? ⟨gb218, 0, none⟩ = some (.slice A0_0 l0_0.length c0_0) := bc BK218 0; have hv218_0 := blk_frozen BK218.out 0; have hy218_1 : w59.cell? ⟨gb218, 1, none⟩ = some (.slice A0_1 l0_1.length c0_1) := bc BK218 1; have hv218_1 := blk_frozen BK218.out 1)); (try (have hy219_0 : w59.cell? ⟨gb219, 0, none⟩ = some (.slice none 0 0) := bc BK219 0; have hv219_0 := blk_frozen BK219.out 0; have hy219_1 : w59.cell? ⟨gb219, 1, none⟩ = some (.slice none 0 0) := bc BK219 1; have hv219_1 := blk_frozen BK219.out 1)); (try (have hy226_0 : w59.cell? ⟨gb226, 0, none⟩ = some (.slice Ao53 t220.length co53) := bc BK226 0; have hv226_0 := blk_frozen BK226.out 0; have hy226_1 : w59.cell? ⟨gb226, 1, none⟩ = some (.slice Ao57 t223.length co57) := bc BK226 1; have hv226_1 := blk_frozen BK226.out 1)); obtain ⟨hcz61_0, hcz61_1, hfz61_0, hfz61_1⟩ := bC2 BK226; obtain ⟨hcz62_0, hcz62_1, hfz62_0, hfz62_1⟩ := bC2 BK219))
    refine bodyPost_ret (results_ct rfl _ _ gb219 27 #[.slice Ao53 t220.length co53, .slice Ao57 t223.length co57] (0, 0) _ rfl (bW BK219) Try.underlying27 rfl (by kernel_rfl)) rfl ?_
    exact ⟨_, _, ew, by exact Kd.R_mono (rT HO222 BK219 (by decide)) (fun _ hk => trivial), by exact Kd.R_mono (rT HO225 BK219 (by decide)) (fun _ hk => trivial), by exact lT HB (gC GE218 (gC GE219 (gC GE226 gN)))⟩
  ·replace c8 := Bool.eq_false_iff.mpr c8
   subst c8
   have H1 : (some (t220, t223, false)) = some (r1, r2, r3) := by rw [if_neg (show ¬ (false = true) by decide)] at H; exact H
   clear H
   have H := H1
   clear H1
   simp only [Option.some.injEq, Prod.mk.injEq] at H
   obtain ⟨rfl, rfl, rfl⟩ := H
   go_enter Try.func95, Try.ntmps95
   go_wp2_with (first | ((with_reducible refine gate_dst (N := 3) rfl ?_); (try (refine gate_guard (by rfl) ?_; dsimp only)); refine bx 3 #[.slice A0_0 l0_0.length c0_0, .slice A0_1 l0_1.length c0_1] 27 ?_; intro gb218 hg w63 hbox hb; replace BK218 := ak (hbox); replace GW218 := ak (bz hg (lG HB)); replace GE218 := ak (bz hg (lG HB)); replace HB := lB HB hb; clear hb hbox hg) | ((with_reducible refine gate_dst (N := 6) rfl ?_); (try (refine gate_guard (by rfl) ?_; dsimp only)); refine bx 6 #[.slice none 0 0, .slice none 0 0] 27 ?_; intro gb219 hg w64 hbox hb; replace BK219 := ak (hbox); replace GW219 := ak (bz hg (lT HB (gC GE218 gN))); replace GE219 := ak (bz hg (lT HB (gC GE218 gN))); replace HB := ak (below_step (lT HB (gC GE218 gN)) hb); replace NB218_219 := ak (nl hg (bG BK218)); replace NB219_218 := ak (ng hg (bG BK218)); replace BK218 := bB BK218 hb; clear hb hbox hg; have hnb65 := NB218_219.out; have hnc65 := NB219_218.out; obtain ⟨hcz66_0, hcz66_1, hfz66_0, hfz66_1⟩ := bC2 BK218) | ((with_reducible refine gate_callee (f := 58) rfl ?_); refine gl (some 10) Try.func58 #[.agg #[.slice A0_0 l0_0.length c0_0, .slice A0_1 l0_1.length c0_1]] ?_; (with_reducible refine (spec_l03Copy.calls _ _ l0_0 _ _ l0_1 t220 t223 _ ?side1 ?side2 ?side3 ?side4 A4.out).mono ?_); (case side1 => exact cG (Kd.C_below HR0_0.out HB.out)); (case side2 => exact HC0_0.out); (case side3 => exact cG (Kd.C_below HR0_1.out HB.out)); (case side4 => exact HC0_1.out); rintro e w67 ⟨v221, v224, rfl, ho0, ho1, hb⟩; refine ⟨_, rfl, ?_⟩; replace HO222 := ak (Kd.R_lower ho0 (below_size (lT HB (gC GE218 (gC GE219 gN))))); replace HO225 := ak (Kd.R_lower ho1 (below_size (lT HB (gC GE218 (gC GE219 gN))))); replace BK218 := bB BK218 hb; replace BK219 := bB BK219 hb; replace HB := ak (below_step (lT HB (gC GE218 (gC GE219 gN))) hb); (try clear hb); (try clear hk); (try clear ho0); (try clear ho1)) | ((with_reducible refine gate_dst (N := 8) rfl ?_); (try (refine gate_guard (by rfl) ?_; dsimp only)); refine bx 8 #[.slice none 0 0, .slice none 0 0] 27 ?_; intro gb226 hg w68 hbox hb; replace HO222 := rB HO222 hb; replace HO225 := rB HO225 hb; replace BK226 := ak (hbox); replace GW226 := ak (bz hg (lT HB (gC GE218 (gC GE219 gN)))); replace GE226 := ak (bz hg (lT HB (gC GE218 (gC GE219 gN)))); replace HB := ak (below_step (lT HB (gC GE218 (gC GE219 gN))) hb); replace NB218_226 := ak (nl hg (bG BK218)); replace NB226_218 := ak (ng hg (bG BK218)); replace BK218 := bB BK218 hb; replace NB219_226 := ak (nl hg (bG BK219)); replace NB226_219 := ak (ng hg (bG BK219)); replace BK219 := bB BK219 hb; clear hb hbox hg; obtain ⟨Ao69, co69, eo69⟩ := Kd.R_slice HO222.out; subst eo69; have hnb70 := NB226_218.out; have hnc70 := NB218_226.out; have hnb71 := NB226_219.out; have hnc71 := NB219_226.out; obtain ⟨hcz72_0, hcz72_1, hfz72_0, hfz72_1⟩ := bC2 BK226; obtain ⟨Ao73, co73, eo73⟩ := Kd.R_slice HO225.out; subst eo73; obtain ⟨hcz74_0, hcz74_1, hfz74_0, hfz74_1⟩ := bC2 BK218) | ((with_reducible refine gate_callee (f := 35) rfl ?_); refine gl (some 12) Try.func35 #[.agg #[.slice A0_0 l0_0.length c0_0, .slice A0_1 l0_1.length c0_1]] ?_; (with_reducible refine (spec_DiskOk.calls k _ _ l0_0 _ _ l0_1 true _ ?side1 ?side2 ?side3 ?side4 A5.out).mono ?_); (case side1 => exact Kd.C_below HR0_0.out (lT HB (gC GE218 (gC GE219 (gC GE226 gN))))); (case side2 => exact HC0_0.out); (case side3 => exact Kd.C_below HR0_1.out (lT HB (gC GE218 (gC GE219 (gC GE226 gN))))); (case side4 => exact HC0_1.out); rintro e w75 ⟨rfl, hb⟩; refine ⟨_, rfl, ?_⟩; replace HO222 := ak (Kd.R_below (rT HO222 BK226 (by decide)) hb); replace HO225 := ak (Kd.R_below (rT HO225 BK226 (by decide)) hb); replace BK218 := ak (blk_below (bT BK218 (nC NB218_226 nN)) hb); replace BK219 := ak (blk_below (bT BK219 (nC NB219_226 nN)) hb); replace BK226 := ak (blk_below (g := gb226) (o := .cells #[.slice Ao69 t220.length co69, .slice Ao73 t223.length co73] 27 (0, 0)) (bW BK226) hb); replace HB := ak (below_step (lT HB (gC GE218 (gC GE219 (gC GE226 gN)))) hb); (try clear hb); (try clear hk); obtain ⟨hcz76_0, hcz76_1, hfz76_0, hfz76_1⟩ := bC2 BK218) | (go_at_call 49; (with_reducible refine (spec_l01In.calls a1 0 (wrap64 ((l0_0.length : Int) - 1)) false _ A7.out).mono ?_); rintro e w' ⟨rfl, ⟨nd, rfl⟩⟩; (try (rw [drewN_self w75]; generalize hq_ : World.drewN w75 _ = w75; have n0_ : Aside0 (Kd.R Kd.string 9 w75 w.heap.size (fun _ => True) (.slice Ao69 t220.length co69) t220) := ⟨by rw [← hq_]; exact (rG HO222)⟩; have n1_ : Aside0 (Kd.R k63 63 w75 w.heap.size (fun _ => True) (.slice Ao73 t223.length co73) t223) := ⟨by rw [← hq_]; exact (rG HO225)⟩; have n2_ : Aside0 (w75.heap[gb218]? = some (.cells #[.slice A0_0 l0_0.length c0_0, .slice A0_1 l0_1.length c0_1] 27 (0, 0))) := ⟨by rw [← hq_]; exact (bG BK218)⟩; have n3_ : Aside0 (w75.heap[gb219]? = some (.cells #[.slice none 0 0, .slice none 0 0] 27 (0, 0))) := ⟨by rw [← hq_]; exact (bG BK219)⟩; have n4_ : Aside0 (w75.heap[gb226]? = some (.cells #[.slice Ao69 t220.length co69, .slice Ao73 t223.length co73] 27 (0, 0))) := ⟨by rw [← hq_]; exact (bG BK226)⟩; have n5_ : Aside0 (Below w.heap.size w w75) := ⟨by rw [← hq_]; exact (lT HB (gC GE218 (gC GE219 (gC GE226 gN))))⟩; clear HO222 HO225 BK218 BK219 BK226 HB hq_; have HO222 := n0_; have HO225 := n1_; have BK218 := n2_; have BK219 := n3_; have BK226 := n4_; have HB := n5_; clear n0_ n1_ n2_ n3_ n4_ n5_)); (try (have hy218_0 : w75.cell? ⟨gb218, 0, none⟩ = some (.slice A0_0 l0_0.length c0_0) := bc BK218 0; have hv218_0 := blk_frozen BK218.out 0; have hy218_1 : w75.cell? ⟨gb218, 1, none⟩ = some (.slice A0_1 l0_1.length c0_1) := bc BK218 1; have hv218_1 := blk_frozen BK218.out 1)); (try (have hy219_0 : w75.cell? ⟨gb219, 0, none⟩ = some (.slice none 0 0) := bc BK219 0; have hv219_0 := blk_frozen BK219.out 0; have hy219_1 : w75.cell? ⟨gb219, 1, none⟩ = some (.slice none 0 0) := bc BK219 1; have hv219_1 := blk_frozen BK219.out 1)); (try (have hy226_0 : w75.cell? ⟨gb226, 0, none⟩ = some (.slice Ao69 t220.length co69) := bc BK226 0; have hv226_0 := blk_frozen BK226.out 0; have hy226_1 : w75.cell? ⟨gb226, 1, none⟩ = some (.slice Ao73 t223.length co73) := bc BK226 1; have hv226_1 := blk_frozen BK226.out 1)); obtain ⟨hcz77_0, hcz77_1, hfz77_0, hfz77_1⟩ := bC2 BK226; obtain ⟨hcz78_0, hcz78_1, hfz78_0, hfz78_1⟩ := bC2 BK219))
   refine bodyPost_ret (results_ct rfl _ _ gb219 27 #[.slice Ao69 t220.length co69, .slice Ao73 t223.length co73] (0, 0) _ rfl (bW BK219) Try.underlying27 rfl (by kernel_rfl)) rfl ?_
   exact ⟨_, _, ew, by exact Kd.R_mono (rT HO222 BK219 (by decide)) (fun _ hk => trivial), by exact Kd.R_mono (rT HO225 BK219 (by decide)) (fun _ hk => trivial), by exact lT HB (gC GE218 (gC GE219 (gC GE226 gN)))⟩
 ·replace c6 := Bool.eq_false_iff.mpr c6
  subst c6
  have H1 : (some (t220, t223, false)) = some (r1, r2, r3) := by rw [if_neg (show ¬ (false = true) by decide)] at H; exact H
  clear H
  have H := H1
  clear H1
  simp only [Option.some.injEq, Prod.mk.injEq] at H
  obtain ⟨rfl, rfl, rfl⟩ := H
  go_enter Try.func95, Try.ntmps95
  go_wp2_with (first | ((with_reducible refine gate_dst (N := 3) rfl ?_); (try (refine gate_guard (by rfl) ?_; dsimp only)); refine bx 3 #[.slice A0_0 l0_0.length c0_0, .slice A0_1 l0_1.length c0_1] 27 ?_; intro gb218 hg w79 hbox hb; replace BK218 := ak (hbox); replace GW218 := ak (bz hg (lG HB)); replace GE218 := ak (bz hg (lG HB)); replace HB := lB HB hb; clear hb hbox hg) | ((with_reducible refine gate_dst (N := 6) rfl ?_); (try (refine gate_guard (by rfl) ?_; dsimp only)); refine bx 6 #[.slice none 0 0, .slice none 0 0] 27 ?_; intro gb219 hg w80 hbox hb; replace BK219 := ak (hbox); replace GW219 := ak (bz hg (lT HB (gC GE218 gN))); replace GE219 := ak (bz hg (lT HB (gC GE218 gN))); replace HB := ak (below_step (lT HB (gC GE218 gN)) hb); replace NB218_219 := ak (nl hg (bG BK218)); replace NB219_218 := ak (ng hg (bG BK218)); replace BK218 := bB BK218 hb; clear hb hbox hg; have hnb81 := NB218_219.out; have hnc81 := NB219_218.out; obtain ⟨hcz82_0, hcz82_1, hfz82_0, hfz82_1⟩ := bC2 BK218) | ((with_reducible refine gate_callee (f := 58) rfl ?_); refine gl (some 10) Try.func58 #[.agg #[.slice A0_0 l0_0.length c0_0, .slice A0_1 l0_1.length c0_1]] ?_; (with_reducible refine (spec_l03Copy.calls _ _ l0_0 _ _ l0_1 t220 t223 _ ?side1 ?side2 ?side3 ?side4 A4.out).mono ?_); (case side1 => exact cG (Kd.C_below HR0_0.out HB.out)); (case side2 => exact HC0_0.out); (case side3 => exact cG (Kd.C_below HR0_1.out HB.out)); (case side4 => exact HC0_1.out); rintro e w83 ⟨v221, v224, rfl, ho0, ho1, hb⟩; refine ⟨_, rfl, ?_⟩; replace HO222 := ak (Kd.R_lower ho0 (below_size (lT HB (gC GE218 (gC GE219 gN))))); replace HO225 := ak (Kd.R_lower ho1 (below_size (lT HB (gC GE218 (gC GE219 gN))))); replace BK218 := bB BK218 hb; replace BK219 := bB BK219 hb; replace HB := ak (below_step (lT HB (gC GE218 (gC GE219 gN))) hb); (try clear hb); (try clear hk); (try clear ho0); (try clear ho1)) | ((with_reducible refine gate_dst (N := 8) rfl ?_); (try (refine gate_guard (by rfl) ?_; dsimp only)); refine bx 8 #[.slice none 0 0, .slice none 0 0] 27 ?_; intro gb226 hg w84 hbox hb; replace HO222 := rB HO222 hb; replace HO225 := rB HO225 hb; replace BK226 := ak (hbox); replace GW226 := ak (bz hg (lT HB (gC GE218 (gC GE219 gN)))); replace GE226 := ak (bz hg (lT HB (gC GE218 (gC GE219 gN)))); replace HB := ak (below_step (lT HB (gC GE218 (gC GE219 gN))) hb); replace NB218_226 := ak (nl hg (bG BK218)); replace NB226_218 := ak (ng hg (bG BK218)); replace BK218 := bB BK218 hb; replace NB219_226 := ak (nl hg (bG BK219)); replace NB226_219 := ak (ng hg (bG BK219)); replace BK219 := bB BK219 hb; clear hb hbox hg; obtain ⟨Ao85, co85, eo85⟩ := Kd.R_slice HO222.out; subst eo85; have hnb86 := NB226_218.out; have hnc86 := NB218_226.out; have hnb87 := NB226_219.out; have hnc87 := NB219_226.out; obtain ⟨hcz88_0, hcz88_1, hfz88_0, hfz88_1⟩ := bC2 BK226; obtain ⟨Ao89, co89, eo89⟩ := Kd.R_slice HO225.out; subst eo89; obtain ⟨hcz90_0, hcz90_1, hfz90_0, hfz90_1⟩ := bC2 BK218) | ((with_reducible refine gate_callee (f := 35) rfl ?_); refine gl (some 12) Try.func35 #[.agg #[.slice A0_0 l0_0.length c0_0, .slice A0_1 l0_1.length c0_1]] ?_; (with_reducible refine (spec_DiskOk.calls k _ _ l0_0 _ _ l0_1 false _ ?side1 ?side2 ?side3 ?side4 A5.out).mono ?_); (case side1 => exact Kd.C_below HR0_0.out (lT HB (gC GE218 (gC GE219 (gC GE226 gN))))); (case side2 => exact HC0_0.out); (case side3 => exact Kd.C_below HR0_1.out (lT HB (gC GE218 (gC GE219 (gC GE226 gN))))); (case side4 => exact HC0_1.out); rintro e w91 ⟨rfl, hb⟩; refine ⟨_, rfl, ?_⟩; replace HO222 := ak (Kd.R_below (rT HO222 BK226 (by decide)) hb); replace HO225 := ak (Kd.R_below (rT HO225 BK226 (by decide)) hb); replace BK218 := ak (blk_below (bT BK218 (nC NB218_226 nN)) hb); replace BK219 := ak (blk_below (bT BK219 (nC NB219_226 nN)) hb); replace BK226 := ak (blk_below (g := gb226) (o := .cells #[.slice Ao85 t220.length co85, .slice Ao89 t223.length co89] 27 (0, 0)) (bW BK226) hb); replace HB := ak (below_step (lT HB (gC GE218 (gC GE219 (gC GE226 gN)))) hb); (try clear hb); (try clear hk); obtain ⟨hcz92_0, hcz92_1, hfz92_0, hfz92_1⟩ := bC2 BK226; obtain ⟨hcz93_0, hcz93_1, hfz93_0, hfz93_1⟩ := bC2 BK219))
  refine bodyPost_ret (results_ct rfl _ _ gb219 27 #[.slice Ao85 t220.length co85, .slice Ao89 t223.length co89] (0, 0) _ rfl (bW BK219) Try.underlying27 rfl (by kernel_rfl)) rfl ?_
  exact ⟨_, _, ew, by exact Kd.R_mono (rT HO222 BK219 (by decide)) (fun _ hk => trivial), by exact Kd.R_mono (rT HO225 BK219 (by decide)) (fun _ hk => trivial), by exact lT HB (gC GE218 (gC GE219 (gC GE226 gN)))⟩

end Go.Proofs.Ytjpngldnkgofaaa.PFnDisksTold
