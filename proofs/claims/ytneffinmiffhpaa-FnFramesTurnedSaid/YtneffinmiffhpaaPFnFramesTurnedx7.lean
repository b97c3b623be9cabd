-- Written for this claim by a program of mine (a turned copy of the kit's print): functions as plain Lean, and their contracts. Lean checks it.
import Derived.Test.YtneffinmiffhpaaPFnFramesTurnedx0
import Derived.Test.YtneffinmiffhpaaPFnFramesTurnedx6
import Derived.Test.YtneffinmiffhpaaVFnFramesTurned1
namespace Go.Proofs.Ytneffinmiffhpaa.PFnFramesTurned
open Go.RowKit Go.Proofs.YtneffinmiffhpaaW.PrintWords Go.Proofs.YtneffinmiffhpaaW.PrintLast Go.Proofs.YtneffinmiffhpaaW.PrintMore
attribute [local go_sem] max2_int min2_int max_two min_two max_three min_three max_four min_four   -- for this text's walks alone
set_option linter.unusedVariables false
set_option linter.unusedSimpArgs false

/-! ### spec_l01Long: function 84 -/
def spec_l01Long.l0 : Nat → Int → Int → List Int → Int → Option (ByteArray)
 | 0, _, _, _, _ => none
 | k + 1, x0, x1, x5, x6 => if x6 < x0 then (if 0 ≤ x6 then (if x6 < (x5.length : Int) then (spec_l01Long.l0 k x0 x1 (x5.set (x6 : Int).toNat x1) (wrap64 (x6 + 1))) else (none)) else (none)) else (some (strOfNums x5))
def spec_l01Long.f (k : Nat) (a0 : Int) (a1 : Int) : Option (ByteArray) := if 0 ≤ a0 then (if (a0 : Int).toNat ≤ 281474976710656 then (spec_l01Long.l0 k a0 a1 (List.replicate (a0 : Int).toNat 0) 0) else (none)) else (none)
theorem spec_l01Long.mono_l : ∀ k, (∀ y0 y1 y2 y3, LeO (spec_l01Long.l0 k y0 y1 y2 y3) (spec_l01Long.l0 (k + 1) y0 y1 y2 y3))
 | 0 => fun _ _ _ _ r h => by simp [spec_l01Long.l0] at h
 | k + 1 => by
  have ih0 := spec_l01Long.mono_l k
  ·intro y0 y1 y2 y3
   unfold spec_l01Long.l0
   repeat' first
   | (with_reducible exact ih0 _ _ _ _)
   | (with_reducible exact LeO.refl _)
   | (with_reducible exact LeO.none _)
   | (with_reducible refine LeO.ite ?_ ?_)
   | (with_reducible refine LeO.bind ?_ (fun _ => ?_))
   | exact ih0 _ _ _ _
   | exact LeO.none _
   | refine LeO.ite ?_ ?_
   | refine LeO.bind ?_ (fun _ => ?_)
theorem spec_l01Long.mono : ∀ a0 a1 k, LeO (spec_l01Long.f k a0 a1) (spec_l01Long.f (k + 1) a0 a1) := by
 intro a0 a1 k
 have ih0 := spec_l01Long.mono_l k
 unfold spec_l01Long.f
 repeat' first
   | (with_reducible exact ih0 _ _ _ _)
   | (with_reducible exact LeO.refl _)
   | (with_reducible exact LeO.none _)
   | (with_reducible refine LeO.ite ?_ ?_)
   | (with_reducible refine LeO.bind ?_ (fun _ => ?_))
   | exact ih0 _ _ _ _
   | exact LeO.none _
   | refine LeO.ite ?_ ?_
   | refine LeO.bind ?_ (fun _ => ?_)
set_option maxHeartbeats 8000000 in
set_option maxRecDepth 100000 in
theorem spec_l01Long.calls (k : Nat) (a0 : Int) (a1 : Int) (r : ByteArray) (w : World) (h : spec_l01Long.f k a0 a1 = some r) :
  Calls Try.prog 84 #[.int .i64 a0, .int .u8 a1] w fun e w' => e = .returned (.string r) ∧ Below w.heap.size w w' := by
 have HB := ak (Below.refl w.heap.size w)
 have H : (if 0 ≤ a0 then (if (a0 : Int).toNat ≤ 281474976710656 then (spec_l01Long.l0 k a0 a1 (List.replicate (a0 : Int).toNat 0) 0) else (none)) else (none)) = some r := h
 clear h
 by_cases c3 : 0 ≤ a0
 ·rw [if_pos c3] at H
  have c3b0 := eq_true c3
  have c3b1 : decide (0 ≤ a0) = true := decide_eq_true c3
  clear c3
  by_cases c4 : (a0 : Int).toNat ≤ 281474976710656
  ·rw [if_pos c4] at H
   have c4b0 := eq_true c4
   have c4b1 : decide ((a0 : Int).toNat ≤ 281474976710656) = true := decide_eq_true c4
   clear c4
   obtain ⟨y260, hy260⟩ : ∃ y_ : List Int, y_ = (List.replicate (a0 : Int).toNat 0) := ⟨_, rfl⟩
   replace H : (spec_l01Long.l0 k a0 a1 y260 0) = some r := by first | (rw [hy260]; with_reducible exact H) | (have H2_ := (Option.bind_some _ _).symm.trans H; rw [hy260]; with_reducible exact H2_) | (have H2_ := (Option.bind_some _ _).symm.trans H; with_reducible exact H2_) | with_reducible exact H | (rw [hy260]; exact H) | exact H
   have Ny260 := Aside0.mk hy260
   clear hy260
   have H' := Aside0.mk H
   clear H
   go_enter Try.func84, Try.ntmps84
   go_wp2_with (first | ((with_reducible refine gate_dst (N := 8) rfl ?_); refine Kd.R_make (Kd.int .u8) _ 5 rfl (N := 8) rfl 28 _ _ rfl a0 rfl rfl Try.underlying28 (.int .u8 0) 1 info5 rfl (by decide) (by omega) 0 (ok := fun _ => True) (okp := fun _ => True) rfl (fun _ hk => hk) trivial (of_decide_eq_true (by first | (with_reducible assumption) | assumption)) (Nat.le_trans (Nat.mul_le_mul_right _ (of_decide_eq_true (by first | (with_reducible assumption) | assumption) : a0.toNat ≤ 281474976710656)) (by omega)) (Below.refl _ _) (Nat.le_refl _) ?_; intro v261 w5 ho6 hb hg_ hnew_; clear hg_ hnew_; (first | rw [← Ny260.out] at ho6 | (simp only [Int.reduceToNat] at ho6; rw [← Ny260.out] at ho6)); replace HO262 := ak (Kd.R_lower ho6 (below_size (lG HB))); replace HB := lB HB hb; clear hb ho6))
   go_loopg [6] k (fun kq v6 w' => ∃ (x5_1 : List Int) (x6_1 : Int), v6 = .int .i64 x6_1 ∧ Aside0 (spec_l01Long.l0 kq a0 a1 x5_1 x6_1 = some r) ∧ Aside0 (kq ≤ k) ∧ Aside0 (Kd.R (Kd.int .u8) 5 w' w.heap.size (fun _ => True) v261 x5_1) ∧ Aside0 (Below w.heap.size w w'))
   case atStart => exact ⟨(y260), (0), (by first | rfl | (simp; done) | (simp [*]; done)), H', ⟨Nat.le_refl _⟩, ⟨by (with_reducible repeat (first | apply Kd.R_alloc | apply Kd.R_drewN | apply Kd.R_drew)); exact HO262.out⟩, ⟨by exact lG HB⟩⟩
   case round =>
    clear H'
    try clear p2
    try clear c3
    try clear c3b0
    try clear c3b1
    try clear c4
    try clear c4b0
    try clear c4b1
    obtain ⟨x5_1, x6_1, rfl, HA, HK1, HO_5, HB⟩ := hrel
    cases gk with
    | zero => exact absurd HA.out (by simp [spec_l01Long.l0])
    | succ k1 =>
     have H := HA.out
     clear HA
     simp only [spec_l01Long.l0] at H
     by_cases c7 : x6_1 < a0
     ·rw [if_pos c7] at H
      have c7b0 : decide (x6_1 < a0) = true := decide_eq_true c7
      clear c7
      by_cases c8 : 0 ≤ x6_1
      ·rw [if_pos c8] at H
       have c8b0 : decide (0 ≤ x6_1) = true := decide_eq_true c8
       clear c8
       by_cases c9 : x6_1 < (x5_1.length : Int)
       ·rw [if_pos c9] at H
        have c9b0 : decide (x6_1 < (x5_1.length : Int)) = true := decide_eq_true c9
        clear c9
        obtain ⟨y263, hy263⟩ : ∃ y_ : List Int, y_ = (x5_1.set (x6_1 : Int).toNat a1) := ⟨_, rfl⟩
        replace H : (spec_l01Long.l0 k1 a0 a1 y263 (wrap64 (x6_1 + 1))) = some r := by first | (rw [hy263]; with_reducible exact H) | (have H2_ := (Option.bind_some _ _).symm.trans H; rw [hy263]; with_reducible exact H2_) | (have H2_ := (Option.bind_some _ _).symm.trans H; with_reducible exact H2_) | with_reducible exact H | (rw [hy263]; exact H) | exact H
        have Ny263 := Aside0.mk hy263
        clear hy263
        have H' := Aside0.mk H
        clear H
        have p10 : 0 ≤ (x6_1 : Int) := of_decide_eq_true (by first | (with_reducible assumption) | assumption)
        have q10 : (x6_1 : Int) < ((x5_1.length : Int) : Int) := of_decide_eq_true (by first | (with_reducible assumption) | assumption)
        obtain ⟨go10, co10, eo10, gb10, gl10, cl10, HG10⟩ := Kd.R_form HO_5.out (by omega)
        (first | cases eo10 | (injection eo10 with ea_ en_ ec_; (first | subst ea_ | (injection ea_ with ea_; subst ea_)); subst ec_; clear en_))
        have GB10 := Aside0.mk gb10
        have GG10 := Aside0.mk HG10
        clear gb10 gl10 HG10
        obtain ⟨hx10_0, hf10_0⟩ := Kd.R_celln 0 HO_5.out (x6_1 : Int) p10 q10
        replace p10 := eq_true p10
        replace q10 := eq_true q10
        have HP11 := Kd.R_putg HO_5.out (x6_1 : Int) a1
        go_wp2_with (first | ((with_reducible refine gate_store (t := 5) (p := 17) rfl ?_); refine store_event (t := 5) (p := 17) (v := ?vo_w12) (w1 := (wr.setCell ⟨go10, (x6_1 : Int).toNat, none⟩ (.int .u8 a1))) ?hg ?ho ?hn ?hr ?_; (case ho => rfl); (case hg => rfl); (case hn => rfl); (case hr => first | (go_simp; done) | (go_simp; rfl)); intro w12 hw; have hg : wr.grownBy w12 (some go10) := (by rw [hw]; exact HP11.2); have hp_ : Kd.R (Kd.int .u8) 5 w12 w.heap.size (fun _ => True) (.slice (some ⟨go10, 0, none⟩) x5_1.length co10) y263 := (by rw [hw, Ny263.out]; exact HP11.1); clear HP11; replace HO_5 := ak (hp_); replace HB := ak ((by rw [hw]; exact below_set (HB.out) GB10.out : Below w.heap.size w w12)); clear hg hw hp_))
        go_roundg k1
        case measure => have := HK1.out; omega
        case rel => exact ⟨(y263), (wrap64 (x6_1 + 1)), (by first | rfl | (simp; done) | (simp [*]; done)), H', ⟨by have := HK1.out; omega⟩, ⟨by (with_reducible repeat (first | apply Kd.R_alloc | apply Kd.R_drewN | apply Kd.R_drew)); exact HO_5.out⟩, ⟨by exact lG HB⟩⟩
       ·rw [if_neg c9] at H
        exact absurd H (by simp)
      ·rw [if_neg c8] at H
       exact absurd H (by simp)
     ·rw [if_neg c7] at H
      have c7b0 : decide (x6_1 < a0) = false := decide_eq_false c7
      clear c7
      obtain rfl := Option.some.inj H
      have hcv13 := own_string (P := Try.prog) Try.underlying28 Try.underlying5 Try.underlying9 (Kd.own_of_R HO_5.out)
      go_wp2
      go_ret
      exact ⟨ew, by exact lG HB⟩
  ·rw [if_neg c4] at H
   exact absurd H (by simp)
 ·rw [if_neg c3] at H
  exact absurd H (by simp)

/-! ### spec_l04Any: function 76 -/
def spec_l04Any.f (k : Nat) (s0_0 : List Int) (s0_1 : Int) (s0_2 : Int) : Option (Int × Int × ByteArray × Int × Int) := (spec_l04Frame.f k s0_0 s0_1 s0_2).bind fun bt265 => ((spec_l01Below.f s0_0 bt265.2.2.2.1 bt265.2.2.2.2 10).bind fun bt271 => (if bt271.1 = 0 then ((spec_l01PickInt.f s0_0 bt271.2.1 bt271.2.2 (([0, 1000000000, 1000000001] : List Int))).bind fun bt277 => (some (bt277.1, bt265.2.1, bt265.2.2.1, bt277.2.1, bt277.2.2))) else (if bt271.1 = 1 then ((spec_l01PickInt.f s0_0 bt271.2.1 bt271.2.2 (([0, 1000000000, (-1)] : List Int))).bind fun bt283 => (some (bt265.1, bt283.1, bt265.2.2.1, bt283.2.1, bt283.2.2))) else (if bt271.1 = 2 then ((spec_l01PickInt.f s0_0 bt271.2.1 bt271.2.2 (([0, 180, 181] : List Int))).bind fun bt289 => ((spec_l01Long.f k bt289.1 97).bind fun t292 => (some (bt265.1, bt265.2.1, t292, bt289.2.1, bt289.2.2)))) else (some (bt265.1, bt265.2.1, bt265.2.2.1, bt271.2.1, bt271.2.2))))))
theorem spec_l04Any.mono : ∀ a0 a1 a2 k, LeO (spec_l04Any.f k a0 a1 a2) (spec_l04Any.f (k + 1) a0 a1 a2) := by
 intro a0 a1 a2 k
 unfold spec_l04Any.f
 repeat' first
   | (with_reducible exact spec_l01Long.mono _ _ _)
   | (with_reducible exact spec_l04Frame.mono _ _ _ _)
   | (with_reducible exact LeO.refl _)
   | (with_reducible exact LeO.none _)
   | (with_reducible refine LeO.ite ?_ ?_)
   | (with_reducible refine LeO.bind ?_ (fun _ => ?_))
   | exact spec_l01Long.mono _ _ _
   | exact spec_l04Frame.mono _ _ _ _
   | exact LeO.none _
   | refine LeO.ite ?_ ?_
   | refine LeO.bind ?_ (fun _ => ?_)
set_option maxHeartbeats 8000000 in
set_option maxRecDepth 100000 in
theorem spec_l04Any.calls (k : Nat) (g : Nat) (s0_0 : List Int) (s0_1 : Int) (s0_2 : Int) (r1 : Int) (r2 : Int) (r3 : ByteArray) (r4 : Int) (r5 : Int) (w0 w : World) (hI : IsS92 w0 w g s0_0 s0_1 s0_2) (hB : Below w0.heap.size w0 w) (h : spec_l04Any.f k s0_0 s0_1 s0_2 = some (r1, r2, r3, r4, r5)) :
  Calls Try.prog 76 #[.pointer (some ⟨g, 0, none⟩)] w fun e w' => e = .returned (.agg #[.int .i64 r1, .int .i64 r2, .string r3]) ∧ IsS92 w0 w' g s0_0 r4 r5 ∧ Below w0.heap.size w0 w' ∧ KeepBut w w' g none := by
 have hu47 := Try.underlying47
 have HI0 := Aside0.mk hI
 have HK := ak (KeepBut.refl w g none)
 have HL := Aside0.mk hB.size
 clear hI
 have HW0 := Aside0.mk hB.size
 have HB := Aside0.mk hB
 clear hB
 have H : ((spec_l04Frame.f k s0_0 s0_1 s0_2).bind fun bt265 => ((spec_l01Below.f s0_0 bt265.2.2.2.1 bt265.2.2.2.2 10).bind fun bt271 => (if bt271.1 = 0 then ((spec_l01PickInt.f s0_0 bt271.2.1 bt271.2.2 (([0, 1000000000, 1000000001] : List Int))).bind fun bt277 => (some (bt277.1, bt265.2.1, bt265.2.2.1, bt277.2.1, bt277.2.2))) else (if bt271.1 = 1 then ((spec_l01PickInt.f s0_0 bt271.2.1 bt271.2.2 (([0, 1000000000, (-1)] : List Int))).bind fun bt283 => (some (bt265.1, bt283.1, bt265.2.2.1, bt283.2.1, bt283.2.2))) else (if bt271.1 = 2 then ((spec_l01PickInt.f s0_0 bt271.2.1 bt271.2.2 (([0, 180, 181] : List Int))).bind fun bt289 => ((spec_l01Long.f k bt289.1 97).bind fun t292 => (some (bt265.1, bt265.2.1, t292, bt289.2.1, bt289.2.2)))) else (some (bt265.1, bt265.2.1, bt265.2.2.1, bt271.2.1, bt271.2.2))))))) = some (r1, r2, r3, r4, r5) := h
 clear h
 replace H := Option.bind_eq_some_iff.mp H
 obtain ⟨⟨t265, t266, t267, t268, t269⟩, A20, H⟩ := H
 replace H : ((spec_l01Below.f s0_0 t268 t269 10).bind fun bt271 => (if bt271.1 = 0 then ((spec_l01PickInt.f s0_0 bt271.2.1 bt271.2.2 (([0, 1000000000, 1000000001] : List Int))).bind fun bt277 => (some (bt277.1, t266, t267, bt277.2.1, bt277.2.2))) else (if bt271.1 = 1 then ((spec_l01PickInt.f s0_0 bt271.2.1 bt271.2.2 (([0, 1000000000, (-1)] : List Int))).bind fun bt283 => (some (t265, bt283.1, t267, bt283.2.1, bt283.2.2))) else (if bt271.1 = 2 then ((spec_l01PickInt.f s0_0 bt271.2.1 bt271.2.2 (([0, 180, 181] : List Int))).bind fun bt289 => ((spec_l01Long.f k bt289.1 97).bind fun t292 => (some (t265, t266, t292, bt289.2.1, bt289.2.2)))) else (some (t265, t266, t267, bt271.2.1, bt271.2.2)))))) = some (r1, r2, r3, r4, r5) := H
 have A2 := Aside0.mk A20
 clear A20
 replace H := Option.bind_eq_some_iff.mp H
 obtain ⟨⟨t271, t272, t273⟩, A30, H⟩ := H
 replace H : (if t271 = 0 then ((spec_l01PickInt.f s0_0 t272 t273 (([0, 1000000000, 1000000001] : List Int))).bind fun bt277 => (some (bt277.1, t266, t267, bt277.2.1, bt277.2.2))) else (if t271 = 1 then ((spec_l01PickInt.f s0_0 t272 t273 (([0, 1000000000, (-1)] : List Int))).bind fun bt283 => (some (t265, bt283.1, t267, bt283.2.1, bt283.2.2))) else (if t271 = 2 then ((spec_l01PickInt.f s0_0 t272 t273 (([0, 180, 181] : List Int))).bind fun bt289 => ((spec_l01Long.f k bt289.1 97).bind fun t292 => (some (t265, t266, t292, bt289.2.1, bt289.2.2)))) else (some (t265, t266, t267, t272, t273))))) = some (r1, r2, r3, r4, r5) := H
 have A3 := Aside0.mk A30
 clear A30
 by_cases c4 : t271 = 0
 ·rw [if_pos c4] at H
  have c4b0 : (t271 == 0) = true := beq_iff_eq.mpr c4
  have c4b1 : (t271 != 0) = false := bne_eq_false_iff_eq.mpr c4
  clear c4
  obtain ⟨y274, hy274⟩ : ∃ y_ : List Int, y_ = (([0, 1000000000, 1000000001] : List Int)) := ⟨_, rfl⟩
  replace H : ((spec_l01PickInt.f s0_0 t272 t273 y274).bind fun bt277 => (some (bt277.1, t266, t267, bt277.2.1, bt277.2.2))) = some (r1, r2, r3, r4, r5) := by first | (rw [hy274]; with_reducible exact H) | (have H2_ := (Option.bind_some _ _).symm.trans H; rw [hy274]; with_reducible exact H2_) | (have H2_ := (Option.bind_some _ _).symm.trans H; with_reducible exact H2_) | with_reducible exact H | (rw [hy274]; exact H) | exact H
  have Ny274 := Aside0.mk hy274
  clear hy274
  replace H := Option.bind_eq_some_iff.mp H
  obtain ⟨⟨t277, t278, t279⟩, A50, H⟩ := H
  replace H : (some (t277, t266, t267, t278, t279)) = some (r1, r2, r3, r4, r5) := H
  have A5 := Aside0.mk A50
  clear A50
  simp only [Option.some.injEq, Prod.mk.injEq] at H
  obtain ⟨rfl, rfl, rfl, rfl, rfl⟩ := H
  go_enter Try.func76, Try.ntmps76
  go_wp2_with (first | ((with_reducible refine gate_dst (N := 2) rfl ?_); refine bx 2 #[.int .i64 0, .int .i64 0, .string (⟨#[]⟩ : ByteArray)] 47 ?_; intro gb264 hg w6 hbox hb; replace HB := ak (below_step (lT HB gN) hb); replace BK264 := ak (hbox); replace GW264 := ak ((by rw [hg]; exact (keep_size (w := w) (g := g) (row := none) (kT HK gN)) : w.heap.size ≤ gb264)); replace GE264 := ak ((Nat.le_trans HW0.out (by rw [hg]; exact (keep_size (w := w) (g := g) (row := none) (kT HK gN)) : w.heap.size ≤ gb264) : w0.heap.size ≤ gb264)); replace HK := ak (KeepBut.trans (kT HK gN) (KeepBut.of_below hb g none) (.inl rfl)); replace NB0_264 := ak ((by rw [hg]; exact Nat.ne_of_lt (IsS92.lt (show IsS92 w0 _ g s0_0 s0_1 s0_2 from IsS92.T_ HI0 nN)) : g ≠ gb264)); replace NB264_0 := ak ((by rw [hg]; exact Nat.ne_of_gt (IsS92.lt (show IsS92 w0 _ g s0_0 s0_1 s0_2 from IsS92.T_ HI0 nN)) : gb264 ≠ g)); replace HI0 := ak (IsS92.below (IsS92.T_ HI0 nN) hb); clear hb hbox hg) | ((with_reducible refine gate_callee (f := 74) rfl ?_); refine gl (some 5) Try.func74 #[.pointer (some ⟨g, 0, none⟩)] ?_; (with_reducible refine (spec_l04Frame.calls k g s0_0 s0_1 s0_2 t265 t266 t267 t268 t269 w0 _ ?side1 ?side2 A2.out).mono ?_); (case side1 => exact IsS92.T_ HI0 (nC NB0_264 nN)); (case side2 => exact lT HB (gC GE264 gN)); rintro e w7 ⟨rfl, hi, hb, hk⟩; refine ⟨_, rfl, ?_⟩; replace BK264 := ak (KeepBut.blk hk (g' := gb264) (o := .cells #[.int .i64 0, .int .i64 0, .string (⟨#[]⟩ : ByteArray)] 47 (0, 0)) (bG BK264) NB264_0.out (by simp)); replace HK := ak (KeepBut.trans (kT HK (gC GW264 gN)) hk (.inl rfl)); replace HB := ak (hb); replace HI0 := ak (hi); (try clear hb); (try clear hk); (try clear hi)) | ((with_reducible refine gate_dst (N := 3) rfl ?_); refine bx 3 #[.int .i64 0, .int .i64 0, .string (⟨#[]⟩ : ByteArray)] 47 ?_; intro gb270 hg w8 hbox hb; replace HB := ak (below_step (lT HB (gC GE264 gN)) hb); replace BK270 := ak (hbox); replace GW270 := ak ((by rw [hg]; exact (keep_size (w := w) (g := g) (row := none) (kT HK (gC GW264 gN))) : w.heap.size ≤ gb270)); replace GE270 := ak ((Nat.le_trans HW0.out (by rw [hg]; exact (keep_size (w := w) (g := g) (row := none) (kT HK (gC GW264 gN))) : w.heap.size ≤ gb270) : w0.heap.size ≤ gb270)); replace HK := ak (KeepBut.trans (kT HK (gC GW264 gN)) (KeepBut.of_below hb g none) (.inl rfl)); replace NB264_270 := ak (nl hg (bG BK264)); replace NB270_264 := ak (ng hg (bG BK264)); replace BK264 := bB BK264 hb; replace NB0_270 := ak ((by rw [hg]; exact Nat.ne_of_lt (IsS92.lt (show IsS92 w0 _ g s0_0 t268 t269 from IsS92.T_ HI0 (nC NB0_264 nN))) : g ≠ gb270)); replace NB270_0 := ak ((by rw [hg]; exact Nat.ne_of_gt (IsS92.lt (show IsS92 w0 _ g s0_0 t268 t269 from IsS92.T_ HI0 (nC NB0_264 nN))) : gb270 ≠ g)); replace HI0 := ak (IsS92.below (IsS92.T_ HI0 (nC NB0_264 nN)) hb); clear hb hbox hg; have hnb9 := NB270_264.out; have hnc9 := NB264_270.out; have hnb10 := NB270_0.out; have hnc10 := NB0_270.out; obtain ⟨hcz11_0, hcz11_1, hcz11_2, hfz11_0, hfz11_1, hfz11_2⟩ := bC3 BK270) | ((with_reducible refine gate_callee (f := 63) rfl ?_); refine gl (some 7) Try.func63 #[.pointer (some ⟨g, 0, none⟩), .int .i64 10] ?_; (with_reducible refine (spec_l01Below.calls g s0_0 t268 t269 10 t271 t272 t273 w0 _ ?side1 ?side2 A3.out).mono ?_); (case side1 => exact IsS92.T_ HI0 (nC NB0_264 (nC NB0_270 nN))); (case side2 => exact lT HB (gC GE264 (gC GE270 gN))); rintro e w12 ⟨rfl, hi, hb, hk⟩; refine ⟨_, rfl, ?_⟩; replace BK264 := ak (KeepBut.blk hk (g' := gb264) (o := .cells #[.int .i64 0, .int .i64 0, .string (⟨#[]⟩ : ByteArray)] 47 (0, 0)) (bT BK264 (nC NB264_270 nN)) NB264_0.out (by simp)); replace BK270 := ak (KeepBut.blk hk (g' := gb270) (o := .cells #[.int .i64 t265, .int .i64 t266, .string t267] 47 (0, 0)) (bW BK270) NB270_0.out (by simp)); replace HK := ak (KeepBut.trans (kT HK (gC GW264 (gC GW270 gN))) hk (.inl rfl)); replace HB := ak (hb); replace HI0 := ak (hi); (try clear hb); (try clear hk); (try clear hi)) | ((with_reducible refine gate_dst (N := 11) rfl ?_); refine Kd.R_lit (Kd.int .i64) _ 3 ?hg (N := 11) ?hd (xs := ([0, 1000000000, 1000000001] : List Int)) (inner := [.int .i64 0, .int .i64 1000000000, .int .i64 1000000001]) (ok := fun _ => True) (okp := fun _ => True) ?hr ?hp (fun _ hk => hk) trivial (Below.refl _ _) (Nat.le_refl _) (by simp) ?_; (case hd => rfl); (case hg => rfl); (case hr => first | (go_simp; done) | (go_simp; rfl)); (case hp => exact (Reps.one (show Kd.M (Kd.int .i64) _ _ _ 0 [.int .i64 0] from rfl) (Reps.one (show Kd.M (Kd.int .i64) _ _ _ 1000000000 [.int .i64 1000000000] from rfl) (Reps.one (show Kd.M (Kd.int .i64) _ _ _ 1000000001 [.int .i64 1000000001] from rfl) (Reps.none _ _))))); intro v275 w13 ho14 hb hg_ hnew_; clear hg_ hnew_; (first | rw [← Ny274.out] at ho14 | (simp only [Int.reduceToNat] at ho14; rw [← Ny274.out] at ho14)); replace HO276 := ak (Kd.R_lower ho14 (keep_size (w := w) (g := g) (row := none) (kT HK (gC GW264 (gC GW270 gN))))); replace BK264 := bB BK264 hb; replace BK270 := bB BK270 hb; replace HK := ak (KeepBut.trans (kT HK (gC GW264 (gC GW270 gN))) (KeepBut.of_below hb g none) (.inl rfl)); replace HB := ak (below_step (lT HB (gC GE264 (gC GE270 gN))) hb); replace HI0 := ak (IsS92.below (IsS92.T_ HI0 (nC NB0_264 (nC NB0_270 nN))) hb); clear hb ho14; obtain ⟨Ao15, co15, eo15⟩ := Kd.R_slice HO276.out; subst eo15) | ((with_reducible refine gate_callee (f := 83) rfl ?_); refine gl (some 12) Try.func83 #[.pointer (some ⟨g, 0, none⟩), .slice Ao15 y274.length co15] ?_; (with_reducible refine (spec_l01PickInt.calls g s0_0 t272 t273 _ _ y274 t277 t278 t279 w0 _ ?side1 ?side2 ?side3 ?side4 ?side5 A5.out).mono ?_); (case side1 => exact IsS92.T_ HI0 (nC NB0_264 (nC NB0_270 nN))); (case side2 => exact lT HB (gC GE264 (gC GE270 gN))); (case side3 => exact cG (Kd.R_reads' HO276.out).2.2); (case side4 => exact (Kd.R_reads' HO276.out).2.1); (case side5 => exact far_slice (IsS92.own_ne HI0.out HO276.out (by decide))); rintro e w16 ⟨rfl, hi, hb, hk⟩; refine ⟨_, rfl, ?_⟩; replace BK264 := ak (KeepBut.blk hk (g' := gb264) (o := .cells #[.int .i64 0, .int .i64 0, .string (⟨#[]⟩ : ByteArray)] 47 (0, 0)) (bG BK264) NB264_0.out (by simp)); replace BK270 := ak (KeepBut.blk hk (g' := gb270) (o := .cells #[.int .i64 t265, .int .i64 t266, .string t267] 47 (0, 0)) (bG BK270) NB270_0.out (by simp)); replace HO276 := ak (Kd.R_mono (Kd.R_keep (IsS92.apart (show IsS92 w0 _ g s0_0 t272 t273 from IsS92.T_ HI0 (nC NB0_264 (nC NB0_270 nN))) (rG HO276) (by decide)) hk (fun _ h => h.2)) (fun _ h => h.1)); replace HK := ak (KeepBut.trans (kT HK (gC GW264 (gC GW270 gN))) hk (.inl rfl)); replace HB := ak (hb); replace HI0 := ak (hi); (try clear hb); (try clear hk); (try clear hi); obtain ⟨hcz17_0, hcz17_1, hcz17_2, hfz17_0, hfz17_1, hfz17_2⟩ := bC3 BK270; have hnb18 := NB264_0.out; have hnc18 := NB0_264.out; obtain ⟨hcz19_0, hcz19_1, hcz19_2, hfz19_0, hfz19_1, hfz19_2⟩ := bC3 BK264))
  refine bodyPost_ret (results_cell_row rfl _ _ gb264 47 #[.int .i64 t277, .int .i64 t266, .string t267] (0, 0) _ rfl (by (with_reducible repeat (first | refine blk_drewN ?_ _ | refine blk_drew ?_ | refine blk_alloc ?_ _)); refine blk_put (cs := #[.int .i64 t277, .int .i64 t266, .string (⟨#[]⟩ : ByteArray)]) ?_ 2 _ rfl; (with_reducible repeat (first | refine blk_drewN ?_ _ | refine blk_drew ?_ | refine blk_alloc ?_ _)); refine blk_put (cs := #[.int .i64 t277, .int .i64 0, .string (⟨#[]⟩ : ByteArray)]) ?_ 1 _ rfl; (with_reducible repeat (first | refine blk_drewN ?_ _ | refine blk_drew ?_ | refine blk_alloc ?_ _)); refine blk_put (cs := #[.int .i64 0, .int .i64 0, .string (⟨#[]⟩ : ByteArray)]) ?_ 0 _ rfl; (with_reducible repeat (first | refine blk_drewN ?_ _ | refine blk_drew ?_ | refine blk_alloc ?_ _)); refine blk_far ?_ NB264_270.out _; (with_reducible repeat (first | refine blk_drewN ?_ _ | refine blk_drew ?_ | refine blk_alloc ?_ _)); exact BK264.out) Try.underlying47 rfl (by kernel_rfl)) rfl ?_
  exact ⟨ew, IsS92.T_ HI0 (nC NB0_264 (nC NB0_270 nN)), lT HB (gC GE264 (gC GE270 gN)), kT HK (gC GW264 (gC GW270 gN))⟩
 ·rw [if_neg c4] at H
  have c4b0 : (t271 == 0) = false := beq_eq_false_iff_ne.mpr c4
  have c4b1 : (t271 != 0) = true := bne_iff_ne.mpr c4
  by_cases c20 : t271 = 1
  ·rw [if_pos c20] at H
   have c20b0 : (t271 == 1) = true := beq_iff_eq.mpr c20
   have c20b1 : (t271 != 1) = false := bne_eq_false_iff_eq.mpr c20
   clear c20
   obtain ⟨y280, hy280⟩ : ∃ y_ : List Int, y_ = (([0, 1000000000, (-1)] : List Int)) := ⟨_, rfl⟩
   replace H : ((spec_l01PickInt.f s0_0 t272 t273 y280).bind fun bt283 => (some (t265, bt283.1, t267, bt283.2.1, bt283.2.2))) = some (r1, r2, r3, r4, r5) := by first | (rw [hy280]; with_reducible exact H) | (have H2_ := (Option.bind_some _ _).symm.trans H; rw [hy280]; with_reducible exact H2_) | (have H2_ := (Option.bind_some _ _).symm.trans H; with_reducible exact H2_) | with_reducible exact H | (rw [hy280]; exact H) | exact H
   have Ny280 := Aside0.mk hy280
   clear hy280
   replace H := Option.bind_eq_some_iff.mp H
   obtain ⟨⟨t283, t284, t285⟩, A210, H⟩ := H
   replace H : (some (t265, t283, t267, t284, t285)) = some (r1, r2, r3, r4, r5) := H
   have A21 := Aside0.mk A210
   clear A210
   simp only [Option.some.injEq, Prod.mk.injEq] at H
   obtain ⟨rfl, rfl, rfl, rfl, rfl⟩ := H
   go_enter Try.func76, Try.ntmps76
   go_wp2_with (first | ((with_reducible refine gate_dst (N := 2) rfl ?_); refine bx 2 #[.int .i64 0, .int .i64 0, .string (⟨#[]⟩ : ByteArray)] 47 ?_; intro gb264 hg w22 hbox hb; replace HB := ak (below_step (lT HB gN) hb); replace BK264 := ak (hbox); replace GW264 := ak ((by rw [hg]; exact (keep_size (w := w) (g := g) (row := none) (kT HK gN)) : w.heap.size ≤ gb264)); replace GE264 := ak ((Nat.le_trans HW0.out (by rw [hg]; exact (keep_size (w := w) (g := g) (row := none) (kT HK gN)) : w.heap.size ≤ gb264) : w0.heap.size ≤ gb264)); replace HK := ak (KeepBut.trans (kT HK gN) (KeepBut.of_below hb g none) (.inl rfl)); replace NB0_264 := ak ((by rw [hg]; exact Nat.ne_of_lt (IsS92.lt (show IsS92 w0 _ g s0_0 s0_1 s0_2 from IsS92.T_ HI0 nN)) : g ≠ gb264)); replace NB264_0 := ak ((by rw [hg]; exact Nat.ne_of_gt (IsS92.lt (show IsS92 w0 _ g s0_0 s0_1 s0_2 from IsS92.T_ HI0 nN)) : gb264 ≠ g)); replace HI0 := ak (IsS92.below (IsS92.T_ HI0 nN) hb); clear hb hbox hg) | ((with_reducible refine gate_callee (f := 74) rfl ?_); refine gl (some 5) Try.func74 #[.pointer (some ⟨g, 0, none⟩)] ?_; (with_reducible refine (spec_l04Frame.calls k g s0_0 s0_1 s0_2 t265 t266 t267 t268 t269 w0 _ ?side1 ?side2 A2.out).mono ?_); (case side1 => exact IsS92.T_ HI0 (nC NB0_264 nN)); (case side2 => exact lT HB (gC GE264 gN)); rintro e w23 ⟨rfl, hi, hb, hk⟩; refine ⟨_, rfl, ?_⟩; replace BK264 := ak (KeepBut.blk hk (g' := gb264) (o := .cells #[.int .i64 0, .int .i64 0, .string (⟨#[]⟩ : ByteArray)] 47 (0, 0)) (bG BK264) NB264_0.out (by simp)); replace HK := ak (KeepBut.trans (kT HK (gC GW264 gN)) hk (.inl rfl)); replace HB := ak (hb); replace HI0 := ak (hi); (try clear hb); (try clear hk); (try clear hi)) | ((with_reducible refine gate_dst (N := 3) rfl ?_); refine bx 3 #[.int .i64 0, .int .i64 0, .string (⟨#[]⟩ : ByteArray)] 47 ?_; intro gb270 hg w24 hbox hb; replace HB := ak (below_step (lT HB (gC GE264 gN)) hb); replace BK270 := ak (hbox); replace GW270 := ak ((by rw [hg]; exact (keep_size (w := w) (g := g) (row := none) (kT HK (gC GW264 gN))) : w.heap.size ≤ gb270)); replace GE270 := ak ((Nat.le_trans HW0.out (by rw [hg]; exact (keep_size (w := w) (g := g) (row := none) (kT HK (gC GW264 gN))) : w.heap.size ≤ gb270) : w0.heap.size ≤ gb270)); replace HK := ak (KeepBut.trans (kT HK (gC GW264 gN)) (KeepBut.of_below hb g none) (.inl rfl)); replace NB264_270 := ak (nl hg (bG BK264)); replace NB270_264 := ak (ng hg (bG BK264)); replace BK264 := bB BK264 hb; replace NB0_270 := ak ((by rw [hg]; exact Nat.ne_of_lt (IsS92.lt (show IsS92 w0 _ g s0_0 t268 t269 from IsS92.T_ HI0 (nC NB0_264 nN))) : g ≠ gb270)); replace NB270_0 := ak ((by rw [hg]; exact Nat.ne_of_gt (IsS92.lt (show IsS92 w0 _ g s0_0 t268 t269 from IsS92.T_ HI0 (nC NB0_264 nN))) : gb270 ≠ g)); replace HI0 := ak (IsS92.below (IsS92.T_ HI0 (nC NB0_264 nN)) hb); clear hb hbox hg; have hnb25 := NB270_264.out; have hnc25 := NB264_270.out; have hnb26 := NB270_0.out; have hnc26 := NB0_270.out; obtain ⟨hcz27_0, hcz27_1, hcz27_2, hfz27_0, hfz27_1, hfz27_2⟩ := bC3 BK270) | ((with_reducible refine gate_callee (f := 63) rfl ?_); refine gl (some 7) Try.func63 #[.pointer (some ⟨g, 0, none⟩), .int .i64 10] ?_; (with_reducible refine (spec_l01Below.calls g s0_0 t268 t269 10 t271 t272 t273 w0 _ ?side1 ?side2 A3.out).mono ?_); (case side1 => exact IsS92.T_ HI0 (nC NB0_264 (nC NB0_270 nN))); (case side2 => exact lT HB (gC GE264 (gC GE270 gN))); rintro e w28 ⟨rfl, hi, hb, hk⟩; refine ⟨_, rfl, ?_⟩; replace BK264 := ak (KeepBut.blk hk (g' := gb264) (o := .cells #[.int .i64 0, .int .i64 0, .string (⟨#[]⟩ : ByteArray)] 47 (0, 0)) (bT BK264 (nC NB264_270 nN)) NB264_0.out (by simp)); replace BK270 := ak (KeepBut.blk hk (g' := gb270) (o := .cells #[.int .i64 t265, .int .i64 t266, .string t267] 47 (0, 0)) (bW BK270) NB270_0.out (by simp)); replace HK := ak (KeepBut.trans (kT HK (gC GW264 (gC GW270 gN))) hk (.inl rfl)); replace HB := ak (hb); replace HI0 := ak (hi); (try clear hb); (try clear hk); (try clear hi)) | ((with_reducible refine gate_dst (N := 17) rfl ?_); refine Kd.R_lit (Kd.int .i64) _ 3 ?hg (N := 17) ?hd (xs := ([0, 1000000000, (-1)] : List Int)) (inner := [.int .i64 0, .int .i64 1000000000, .int .i64 (-1)]) (ok := fun _ => True) (okp := fun _ => True) ?hr ?hp (fun _ hk => hk) trivial (Below.refl _ _) (Nat.le_refl _) (by simp) ?_; (case hd => rfl); (case hg => rfl); (case hr => first | (go_simp; done) | (go_simp; rfl)); (case hp => exact (Reps.one (show Kd.M (Kd.int .i64) _ _ _ 0 [.int .i64 0] from rfl) (Reps.one (show Kd.M (Kd.int .i64) _ _ _ 1000000000 [.int .i64 1000000000] from rfl) (Reps.one (show Kd.M (Kd.int .i64) _ _ _ (-1) [.int .i64 (-1)] from rfl) (Reps.none _ _))))); intro v281 w29 ho30 hb hg_ hnew_; clear hg_ hnew_; (first | rw [← Ny280.out] at ho30 | (simp only [Int.reduceToNat] at ho30; rw [← Ny280.out] at ho30)); replace HO282 := ak (Kd.R_lower ho30 (keep_size (w := w) (g := g) (row := none) (kT HK (gC GW264 (gC GW270 gN))))); replace BK264 := bB BK264 hb; replace BK270 := bB BK270 hb; replace HK := ak (KeepBut.trans (kT HK (gC GW264 (gC GW270 gN))) (KeepBut.of_below hb g none) (.inl rfl)); replace HB := ak (below_step (lT HB (gC GE264 (gC GE270 gN))) hb); replace HI0 := ak (IsS92.below (IsS92.T_ HI0 (nC NB0_264 (nC NB0_270 nN))) hb); clear hb ho30; obtain ⟨Ao31, co31, eo31⟩ := Kd.R_slice HO282.out; subst eo31) | ((with_reducible refine gate_callee (f := 83) rfl ?_); refine gl (some 18) Try.func83 #[.pointer (some ⟨g, 0, none⟩), .slice Ao31 y280.length co31] ?_; (with_reducible refine (spec_l01PickInt.calls g s0_0 t272 t273 _ _ y280 t283 t284 t285 w0 _ ?side1 ?side2 ?side3 ?side4 ?side5 A21.out).mono ?_); (case side1 => exact IsS92.T_ HI0 (nC NB0_264 (nC NB0_270 nN))); (case side2 => exact lT HB (gC GE264 (gC GE270 gN))); (case side3 => exact cG (Kd.R_reads' HO282.out).2.2); (case side4 => exact (Kd.R_reads' HO282.out).2.1); (case side5 => exact far_slice (IsS92.own_ne HI0.out HO282.out (by decide))); rintro e w32 ⟨rfl, hi, hb, hk⟩; refine ⟨_, rfl, ?_⟩; replace BK264 := ak (KeepBut.blk hk (g' := gb264) (o := .cells #[.int .i64 0, .int .i64 0, .string (⟨#[]⟩ : ByteArray)] 47 (0, 0)) (bG BK264) NB264_0.out (by simp)); replace BK270 := ak (KeepBut.blk hk (g' := gb270) (o := .cells #[.int .i64 t265, .int .i64 t266, .string t267] 47 (0, 0)) (bG BK270) NB270_0.out (by simp)); replace HO282 := ak (Kd.R_mono (Kd.R_keep (IsS92.apart (show IsS92 w0 _ g s0_0 t272 t273 from IsS92.T_ HI0 (nC NB0_264 (nC NB0_270 nN))) (rG HO282) (by decide)) hk (fun _ h => h.2)) (fun _ h => h.1)); replace HK := ak (KeepBut.trans (kT HK (gC GW264 (gC GW270 gN))) hk (.inl rfl)); replace HB := ak (hb); replace HI0 := ak (hi); (try clear hb); (try clear hk); (try clear hi); obtain ⟨hcz33_0, hcz33_1, hcz33_2, hfz33_0, hfz33_1, hfz33_2⟩ := bC3 BK270; have hnb34 := NB264_0.out; have hnc34 := NB0_264.out; obtain ⟨hcz35_0, hcz35_1, hcz35_2, hfz35_0, hfz35_1, hfz35_2⟩ := bC3 BK264))
   refine bodyPost_ret (results_cell_row rfl _ _ gb264 47 #[.int .i64 t265, .int .i64 t283, .string t267] (0, 0) _ rfl (by (with_reducible repeat (first | refine blk_drewN ?_ _ | refine blk_drew ?_ | refine blk_alloc ?_ _)); refine blk_put (cs := #[.int .i64 t265, .int .i64 t283, .string (⟨#[]⟩ : ByteArray)]) ?_ 2 _ rfl; (with_reducible repeat (first | refine blk_drewN ?_ _ | refine blk_drew ?_ | refine blk_alloc ?_ _)); refine blk_put (cs := #[.int .i64 t265, .int .i64 0, .string (⟨#[]⟩ : ByteArray)]) ?_ 1 _ rfl; (with_reducible repeat (first | refine blk_drewN ?_ _ | refine blk_drew ?_ | refine blk_alloc ?_ _)); refine blk_put (cs := #[.int .i64 0, .int .i64 0, .string (⟨#[]⟩ : ByteArray)]) ?_ 0 _ rfl; (with_reducible repeat (first | refine blk_drewN ?_ _ | refine blk_drew ?_ | refine blk_alloc ?_ _)); refine blk_far ?_ NB264_270.out _; (with_reducible repeat (first | refine blk_drewN ?_ _ | refine blk_drew ?_ | refine blk_alloc ?_ _)); exact BK264.out) Try.underlying47 rfl (by kernel_rfl)) rfl ?_
   exact ⟨ew, IsS92.T_ HI0 (nC NB0_264 (nC NB0_270 nN)), lT HB (gC GE264 (gC GE270 gN)), kT HK (gC GW264 (gC GW270 gN))⟩
  ·rw [if_neg c20] at H
   have c20b0 : (t271 == 1) = false := beq_eq_false_iff_ne.mpr c20
   have c20b1 : (t271 != 1) = true := bne_iff_ne.mpr c20
   by_cases c36 : t271 = 2
   ·rw [if_pos c36] at H
    have c36b0 : (t271 == 2) = true := beq_iff_eq.mpr c36
    have c36b1 : (t271 != 2) = false := bne_eq_false_iff_eq.mpr c36
    clear c36
    obtain ⟨y286, hy286⟩ : ∃ y_ : List Int, y_ = (([0, 180, 181] : List Int)) := ⟨_, rfl⟩
    replace H : ((spec_l01PickInt.f s0_0 t272 t273 y286).bind fun bt289 => ((spec_l01Long.f k bt289.1 97).bind fun t292 => (some (t265, t266, t292, bt289.2.1, bt289.2.2)))) = some (r1, r2, r3, r4, r5) := by first | (rw [hy286]; with_reducible exact H) | (have H2_ := (Option.bind_some _ _).symm.trans H; rw [hy286]; with_reducible exact H2_) | (have H2_ := (Option.bind_some _ _).symm.trans H; with_reducible exact H2_) | with_reducible exact H | (rw [hy286]; exact H) | exact H
    have Ny286 := Aside0.mk hy286
    clear hy286
    replace H := Option.bind_eq_some_iff.mp H
    obtain ⟨⟨t289, t290, t291⟩, A370, H⟩ := H
    replace H : ((spec_l01Long.f k t289 97).bind fun t292 => (some (t265, t266, t292, t290, t291))) = some (r1, r2, r3, r4, r5) := H
    have A37 := Aside0.mk A370
    clear A370
    replace H := Option.bind_eq_some_iff.mp H
    obtain ⟨t292, A380, H⟩ := H
    replace H : (some (t265, t266, t292, t290, t291)) = some (r1, r2, r3, r4, r5) := H
    have A38 := Aside0.mk A380
    clear A380
    simp only [Option.some.injEq, Prod.mk.injEq] at H
    obtain ⟨rfl, rfl, rfl, rfl, rfl⟩ := H
    go_enter Try.func76, Try.ntmps76
    go_wp2_with (first | ((with_reducible refine gate_dst (N := 2) rfl ?_); refine bx 2 #[.int .i64 0, .int .i64 0, .string (⟨#[]⟩ : ByteArray)] 47 ?_; intro gb264 hg w39 hbox hb; replace HB := ak (below_step (lT HB gN) hb); replace BK264 := ak (hbox); replace GW264 := ak ((by rw [hg]; exact (keep_size (w := w) (g := g) (row := none) (kT HK gN)) : w.heap.size ≤ gb264)); replace GE264 := ak ((Nat.le_trans HW0.out (by rw [hg]; exact (keep_size (w := w) (g := g) (row := none) (kT HK gN)) : w.heap.size ≤ gb264) : w0.heap.size ≤ gb264)); replace HK := ak (KeepBut.trans (kT HK gN) (KeepBut.of_below hb g none) (.inl rfl)); replace NB0_264 := ak ((by rw [hg]; exact Nat.ne_of_lt (IsS92.lt (show IsS92 w0 _ g s0_0 s0_1 s0_2 from IsS92.T_ HI0 nN)) : g ≠ gb264)); replace NB264_0 := ak ((by rw [hg]; exact Nat.ne_of_gt (IsS92.lt (show IsS92 w0 _ g s0_0 s0_1 s0_2 from IsS92.T_ HI0 nN)) : gb264 ≠ g)); replace HI0 := ak (IsS92.below (IsS92.T_ HI0 nN) hb); clear hb hbox hg) | ((with_reducible refine gate_callee (f := 74) rfl ?_); refine gl (some 5) Try.func74 #[.pointer (some ⟨g, 0, none⟩)] ?_; (with_reducible refine (spec_l04Frame.calls k g s0_0 s0_1 s0_2 t265 t266 t267 t268 t269 w0 _ ?side1 ?side2 A2.out).mono ?_); (case side1 => exact IsS92.T_ HI0 (nC NB0_264 nN)); (case side2 => exact lT HB (gC GE264 gN)); rintro e w40 ⟨rfl, hi, hb, hk⟩; refine ⟨_, rfl, ?_⟩; replace BK264 := ak (KeepBut.blk hk (g' := gb264) (o := .cells #[.int .i64 0, .int .i64 0, .string (⟨#[]⟩ : ByteArray)] 47 (0, 0)) (bG BK264) NB264_0.out (by simp)); replace HK := ak (KeepBut.trans (kT HK (gC GW264 gN)) hk (.inl rfl)); replace HB := ak (hb); replace HI0 := ak (hi); (try clear hb); (try clear hk); (try clear hi)) | ((with_reducible refine gate_dst (N := 3) rfl ?_); refine bx 3 #[.int .i64 0, .int .i64 0, .string (⟨#[]⟩ : ByteArray)] 47 ?_; intro gb270 hg w41 hbox hb; replace HB := ak (below_step (lT HB (gC GE264 gN)) hb); replace BK270 := ak (hbox); replace GW270 := ak ((by rw [hg]; exact (keep_size (w := w) (g := g) (row := none) (kT HK (gC GW264 gN))) : w.heap.size ≤ gb270)); replace GE270 := ak ((Nat.le_trans HW0.out (by rw [hg]; exact (keep_size (w := w) (g := g) (row := none) (kT HK (gC GW264 gN))) : w.heap.size ≤ gb270) : w0.heap.size ≤ gb270)); replace HK := ak (KeepBut.trans (kT HK (gC GW264 gN)) (KeepBut.of_below hb g none) (.inl rfl)); replace NB264_270 := ak (nl hg (bG BK264)); replace NB270_264 := ak (ng hg (bG BK264)); replace BK264 := bB BK264 hb; replace NB0_270 := ak ((by rw [hg]; exact Nat.ne_of_lt (IsS92.lt (show IsS92 w0 _ g s0_0 t268 t269 from IsS92.T_ HI0 (nC NB0_264 nN))) : g ≠ gb270)); replace NB270_0 := ak ((by rw [hg]; exact Nat.ne_of_gt (IsS92.lt (show IsS92 w0 _ g s0_0 t268 t269 from IsS92.T_ HI0 (nC NB0_264 nN))) : gb270 ≠ g)); replace HI0 := ak (IsS92.below (IsS92.T_ HI0 (nC NB0_264 nN)) hb); clear hb hbox hg; have hnb42 := NB270_264.out; have hnc42 := NB264_270.out; have hnb43 := NB270_0.out; have hnc43 := NB0_270.out; obtain ⟨hcz44_0, hcz44_1, hcz44_2, hfz44_0, hfz44_1, hfz44_2⟩ := bC3 BK270) | ((with_reducible refine gate_callee (f := 63) rfl ?_); refine gl (some 7) Try.func63 #[.pointer (some ⟨g, 0, none⟩), .int .i64 10] ?_; (with_reducible refine (spec_l01Below.calls g s0_0 t268 t269 10 t271 t272 t273 w0 _ ?side1 ?side2 A3.out).mono ?_); (case side1 => exact IsS92.T_ HI0 (nC NB0_264 (nC NB0_270 nN))); (case side2 => exact lT HB (gC GE264 (gC GE270 gN))); rintro e w45 ⟨rfl, hi, hb, hk⟩; refine ⟨_, rfl, ?_⟩; replace BK264 := ak (KeepBut.blk hk (g' := gb264) (o := .cells #[.int .i64 0, .int .i64 0, .string (⟨#[]⟩ : ByteArray)] 47 (0, 0)) (bT BK264 (nC NB264_270 nN)) NB264_0.out (by simp)); replace BK270 := ak (KeepBut.blk hk (g' := gb270) (o := .cells #[.int .i64 t265, .int .i64 t266, .string t267] 47 (0, 0)) (bW BK270) NB270_0.out (by simp)); replace HK := ak (KeepBut.trans (kT HK (gC GW264 (gC GW270 gN))) hk (.inl rfl)); replace HB := ak (hb); replace HI0 := ak (hi); (try clear hb); (try clear hk); (try clear hi)) | ((with_reducible refine gate_dst (N := 23) rfl ?_); refine Kd.R_lit (Kd.int .i64) _ 3 ?hg (N := 23) ?hd (xs := ([0, 180, 181] : List Int)) (inner := [.int .i64 0, .int .i64 180, .int .i64 181]) (ok := fun _ => True) (okp := fun _ => True) ?hr ?hp (fun _ hk => hk) trivial (Below.refl _ _) (Nat.le_refl _) (by simp) ?_; (case hd => rfl); (case hg => rfl); (case hr => first | (go_simp; done) | (go_simp; rfl)); (case hp => exact (Reps.one (show Kd.M (Kd.int .i64) _ _ _ 0 [.int .i64 0] from rfl) (Reps.one (show Kd.M (Kd.int .i64) _ _ _ 180 [.int .i64 180] from rfl) (Reps.one (show Kd.M (Kd.int .i64) _ _ _ 181 [.int .i64 181] from rfl) (Reps.none _ _))))); intro v287 w46 ho47 hb hg_ hnew_; clear hg_ hnew_; (first | rw [← Ny286.out] at ho47 | (simp only [Int.reduceToNat] at ho47; rw [← Ny286.out] at ho47)); replace HO288 := ak (Kd.R_lower ho47 (keep_size (w := w) (g := g) (row := none) (kT HK (gC GW264 (gC GW270 gN))))); replace BK264 := bB BK264 hb; replace BK270 := bB BK270 hb; replace HK := ak (KeepBut.trans (kT HK (gC GW264 (gC GW270 gN))) (KeepBut.of_below hb g none) (.inl rfl)); replace HB := ak (below_step (lT HB (gC GE264 (gC GE270 gN))) hb); replace HI0 := ak (IsS92.below (IsS92.T_ HI0 (nC NB0_264 (nC NB0_270 nN))) hb); clear hb ho47; obtain ⟨Ao48, co48, eo48⟩ := Kd.R_slice HO288.out; subst eo48) | ((with_reducible refine gate_callee (f := 83) rfl ?_); refine gl (some 24) Try.func83 #[.pointer (some ⟨g, 0, none⟩), .slice Ao48 y286.length co48] ?_; (with_reducible refine (spec_l01PickInt.calls g s0_0 t272 t273 _ _ y286 t289 t290 t291 w0 _ ?side1 ?side2 ?side3 ?side4 ?side5 A37.out).mono ?_); (case side1 => exact IsS92.T_ HI0 (nC NB0_264 (nC NB0_270 nN))); (case side2 => exact lT HB (gC GE264 (gC GE270 gN))); (case side3 => exact cG (Kd.R_reads' HO288.out).2.2); (case side4 => exact (Kd.R_reads' HO288.out).2.1); (case side5 => exact far_slice (IsS92.own_ne HI0.out HO288.out (by decide))); rintro e w49 ⟨rfl, hi, hb, hk⟩; refine ⟨_, rfl, ?_⟩; replace BK264 := ak (KeepBut.blk hk (g' := gb264) (o := .cells #[.int .i64 0, .int .i64 0, .string (⟨#[]⟩ : ByteArray)] 47 (0, 0)) (bG BK264) NB264_0.out (by simp)); replace BK270 := ak (KeepBut.blk hk (g' := gb270) (o := .cells #[.int .i64 t265, .int .i64 t266, .string t267] 47 (0, 0)) (bG BK270) NB270_0.out (by simp)); replace HO288 := ak (Kd.R_mono (Kd.R_keep (IsS92.apart (show IsS92 w0 _ g s0_0 t272 t273 from IsS92.T_ HI0 (nC NB0_264 (nC NB0_270 nN))) (rG HO288) (by decide)) hk (fun _ h => h.2)) (fun _ h => h.1)); replace HK := ak (KeepBut.trans (kT HK (gC GW264 (gC GW270 gN))) hk (.inl rfl)); replace HB := ak (hb); replace HI0 := ak (hi); (try clear hb); (try clear hk); (try clear hi)) | ((with_reducible refine gate_callee (f := 84) rfl ?_); refine gl (some 25) Try.func84 #[.int .i64 t289, .int .u8 97] ?_; (with_reducible refine (spec_l01Long.calls k t289 97 t292 _ A38.out).mono ?_); rintro e w50 ⟨rfl, hb⟩; refine ⟨_, rfl, ?_⟩; replace HO288 := rB HO288 hb; replace BK264 := bB BK264 hb; replace BK270 := bB BK270 hb; replace HK := ak (KeepBut.trans (kT HK (gC GW264 (gC GW270 gN))) (KeepBut.of_below hb g none) (.inl rfl)); replace HB := ak (below_step (lT HB (gC GE264 (gC GE270 gN))) hb); replace HI0 := ak (IsS92.below (IsS92.T_ HI0 (nC NB0_264 (nC NB0_270 nN))) hb); (try clear hb); (try clear hk); (try clear hi); obtain ⟨hcz51_0, hcz51_1, hcz51_2, hfz51_0, hfz51_1, hfz51_2⟩ := bC3 BK270; have hnb52 := NB264_0.out; have hnc52 := NB0_264.out; obtain ⟨hcz53_0, hcz53_1, hcz53_2, hfz53_0, hfz53_1, hfz53_2⟩ := bC3 BK264))
    refine bodyPost_ret (results_cell_row rfl _ _ gb264 47 #[.int .i64 t265, .int .i64 t266, .string t292] (0, 0) _ rfl (by (with_reducible repeat (first | refine blk_drewN ?_ _ | refine blk_drew ?_ | refine blk_alloc ?_ _)); refine blk_put (cs := #[.int .i64 t265, .int .i64 t266, .string (⟨#[]⟩ : ByteArray)]) ?_ 2 _ rfl; (with_reducible repeat (first | refine blk_drewN ?_ _ | refine blk_drew ?_ | refine blk_alloc ?_ _)); refine blk_put (cs := #[.int .i64 t265, .int .i64 0, .string (⟨#[]⟩ : ByteArray)]) ?_ 1 _ rfl; (with_reducible repeat (first | refine blk_drewN ?_ _ | refine blk_drew ?_ | refine blk_alloc ?_ _)); refine blk_put (cs := #[.int .i64 0, .int .i64 0, .string (⟨#[]⟩ : ByteArray)]) ?_ 0 _ rfl; (with_reducible repeat (first | refine blk_drewN ?_ _ | refine blk_drew ?_ | refine blk_alloc ?_ _)); refine blk_far ?_ NB264_270.out _; (with_reducible repeat (first | refine blk_drewN ?_ _ | refine blk_drew ?_ | refine blk_alloc ?_ _)); exact BK264.out) Try.underlying47 rfl (by kernel_rfl)) rfl ?_
    exact ⟨ew, IsS92.T_ HI0 (nC NB0_264 (nC NB0_270 nN)), lT HB (gC GE264 (gC GE270 gN)), kT HK (gC GW264 (gC GW270 gN))⟩
   ·rw [if_neg c36] at H
    have c36b0 : (t271 == 2) = false := beq_eq_false_iff_ne.mpr c36
    have c36b1 : (t271 != 2) = true := bne_iff_ne.mpr c36
    simp only [Option.some.injEq, Prod.mk.injEq] at H
    obtain ⟨rfl, rfl, rfl, rfl, rfl⟩ := H
    go_enter Try.func76, Try.ntmps76
    go_wp2_with (first | ((with_reducible refine gate_dst (N := 2) rfl ?_); refine bx 2 #[.int .i64 0, .int .i64 0, .string (⟨#[]⟩ : ByteArray)] 47 ?_; intro gb264 hg w54 hbox hb; replace HB := ak (below_step (lT HB gN) hb); replace BK264 := ak (hbox); replace GW264 := ak ((by rw [hg]; exact (keep_size (w := w) (g := g) (row := none) (kT HK gN)) : w.heap.size ≤ gb264)); replace GE264 := ak ((Nat.le_trans HW0.out (by rw [hg]; exact (keep_size (w := w) (g := g) (row := none) (kT HK gN)) : w.heap.size ≤ gb264) : w0.heap.size ≤ gb264)); replace HK := ak (KeepBut.trans (kT HK gN) (KeepBut.of_below hb g none) (.inl rfl)); replace NB0_264 := ak ((by rw [hg]; exact Nat.ne_of_lt (IsS92.lt (show IsS92 w0 _ g s0_0 s0_1 s0_2 from IsS92.T_ HI0 nN)) : g ≠ gb264)); replace NB264_0 := ak ((by rw [hg]; exact Nat.ne_of_gt (IsS92.lt (show IsS92 w0 _ g s0_0 s0_1 s0_2 from IsS92.T_ HI0 nN)) : gb264 ≠ g)); replace HI0 := ak (IsS92.below (IsS92.T_ HI0 nN) hb); clear hb hbox hg) | ((with_reducible refine gate_callee (f := 74) rfl ?_); refine gl (some 5) Try.func74 #[.pointer (some ⟨g, 0, none⟩)] ?_; (with_reducible refine (spec_l04Frame.calls k g s0_0 s0_1 s0_2 t265 t266 t267 t268 t269 w0 _ ?side1 ?side2 A2.out).mono ?_); (case side1 => exact IsS92.T_ HI0 (nC NB0_264 nN)); (case side2 => exact lT HB (gC GE264 gN)); rintro e w55 ⟨rfl, hi, hb, hk⟩; refine ⟨_, rfl, ?_⟩; replace BK264 := ak (KeepBut.blk hk (g' := gb264) (o := .cells #[.int .i64 0, .int .i64 0, .string (⟨#[]⟩ : ByteArray)] 47 (0, 0)) (bG BK264) NB264_0.out (by simp)); replace HK := ak (KeepBut.trans (kT HK (gC GW264 gN)) hk (.inl rfl)); replace HB := ak (hb); replace HI0 := ak (hi); (try clear hb); (try clear hk); (try clear hi)) | ((with_reducible refine gate_dst (N := 3) rfl ?_); refine bx 3 #[.int .i64 0, .int .i64 0, .string (⟨#[]⟩ : ByteArray)] 47 ?_; intro gb270 hg w56 hbox hb; replace HB := ak (below_step (lT HB (gC GE264 gN)) hb); replace BK270 := ak (hbox); replace GW270 := ak ((by rw [hg]; exact (keep_size (w := w) (g := g) (row := none) (kT HK (gC GW264 gN))) : w.heap.size ≤ gb270)); replace GE270 := ak ((Nat.le_trans HW0.out (by rw [hg]; exact (keep_size (w := w) (g := g) (row := none) (kT HK (gC GW264 gN))) : w.heap.size ≤ gb270) : w0.heap.size ≤ gb270)); replace HK := ak (KeepBut.trans (kT HK (gC GW264 gN)) (KeepBut.of_below hb g none) (.inl rfl)); replace NB264_270 := ak (nl hg (bG BK264)); replace NB270_264 := ak (ng hg (bG BK264)); replace BK264 := bB BK264 hb; replace NB0_270 := ak ((by rw [hg]; exact Nat.ne_of_lt (IsS92.lt (show IsS92 w0 _ g s0_0 t268 t269 from IsS92.T_ HI0 (nC NB0_264 nN))) : g ≠ gb270)); replace NB270_0 := ak ((by rw [hg]; exact Nat.ne_of_gt (IsS92.lt (show IsS92 w0 _ g s0_0 t268 t269 from IsS92.T_ HI0 (nC NB0_264 nN))) : gb270 ≠ g)); replace HI0 := ak (IsS92.below (IsS92.T_ HI0 (nC NB0_264 nN)) hb); clear hb hbox hg; have hnb57 := NB270_264.out; have hnc57 := NB264_270.out; have hnb58 := NB270_0.out; have hnc58 := NB0_270.out; obtain ⟨hcz59_0, hcz59_1, hcz59_2, hfz59_0, hfz59_1, hfz59_2⟩ := bC3 BK270) | ((with_reducible refine gate_callee (f := 63) rfl ?_); refine gl (some 7) Try.func63 #[.pointer (some ⟨g, 0, none⟩), .int .i64 10] ?_; (with_reducible refine (spec_l01Below.calls g s0_0 t268 t269 10 t271 t272 t273 w0 _ ?side1 ?side2 A3.out).mono ?_); (case side1 => exact IsS92.T_ HI0 (nC NB0_264 (nC NB0_270 nN))); (case side2 => exact lT HB (gC GE264 (gC GE270 gN))); rintro e w60 ⟨rfl, hi, hb, hk⟩; refine ⟨_, rfl, ?_⟩; replace BK264 := ak (KeepBut.blk hk (g' := gb264) (o := .cells #[.int .i64 0, .int .i64 0, .string (⟨#[]⟩ : ByteArray)] 47 (0, 0)) (bT BK264 (nC NB264_270 nN)) NB264_0.out (by simp)); replace BK270 := ak (KeepBut.blk hk (g' := gb270) (o := .cells #[.int .i64 t265, .int .i64 t266, .string t267] 47 (0, 0)) (bW BK270) NB270_0.out (by simp)); replace HK := ak (KeepBut.trans (kT HK (gC GW264 (gC GW270 gN))) hk (.inl rfl)); replace HB := ak (hb); replace HI0 := ak (hi); (try clear hb); (try clear hk); (try clear hi); obtain ⟨hcz61_0, hcz61_1, hcz61_2, hfz61_0, hfz61_1, hfz61_2⟩ := bC3 BK270; have hnb62 := NB264_0.out; have hnc62 := NB0_264.out; obtain ⟨hcz63_0, hcz63_1, hcz63_2, hfz63_0, hfz63_1, hfz63_2⟩ := bC3 BK264))
    refine bodyPost_ret (results_cell_row rfl _ _ gb264 47 #[.int .i64 t265, .int .i64 t266, .string t267] (0, 0) _ rfl (bW BK264) Try.underlying47 rfl (by kernel_rfl)) rfl ?_
    exact ⟨ew, IsS92.T_ HI0 (nC NB0_264 (nC NB0_270 nN)), lT HB (gC GE264 (gC GE270 gN)), kT HK (gC GW264 (gC GW270 gN))⟩

/-! ### spec_DrawFrameText: function 52 -/
def spec_DrawFrameText.f (k : Nat) (l0 : List Int) : Option (Int × Int × ByteArray) := (spec_l01New.f k l0).bind fun bt294 => ((spec_l04Any.f k bt294.1 bt294.2.1 bt294.2.2).bind fun bt298 => (some (bt298.1, bt298.2.1, bt298.2.2.1)))
theorem spec_DrawFrameText.mono : ∀ a0 k, LeO (spec_DrawFrameText.f k a0) (spec_DrawFrameText.f (k + 1) a0) := by
 intro a0 k
 unfold spec_DrawFrameText.f
 repeat' first
   | (with_reducible exact spec_l01New.mono _ _)
   | (with_reducible exact spec_l04Any.mono _ _ _ _)
   | (with_reducible exact LeO.refl _)
   | (with_reducible exact LeO.none _)
   | (with_reducible refine LeO.ite ?_ ?_)
   | (with_reducible refine LeO.bind ?_ (fun _ => ?_))
   | exact spec_l01New.mono _ _
   | exact spec_l04Any.mono _ _ _ _
   | exact LeO.none _
   | refine LeO.ite ?_ ?_
   | refine LeO.bind ?_ (fun _ => ?_)
set_option maxHeartbeats 8000000 in
set_option maxRecDepth 100000 in
theorem spec_DrawFrameText.calls (k : Nat) (A0 : Option Addr) (c0 : Nat) (l0 : List Int) (r1 : Int) (r2 : Int) (r3 : ByteArray) (w : World) (hr0 : Kd.C (Kd.int .u8) w A0 l0.length l0) (hc0 : l0.length ≤ c0) (h : spec_DrawFrameText.f k l0 = some (r1, r2, r3)) :
  Calls Try.prog 52 #[.slice A0 l0.length c0] w fun e w' => e = .returned (.agg #[.int .i64 r1, .int .i64 r2, .string r3]) ∧ Below w.heap.size w w' := by
 have hu47 := Try.underlying47
 have HR0 := Aside0.mk hr0
 have HC0 := Aside0.mk hc0
 clear hr0 hc0
 have HB := ak (Below.refl w.heap.size w)
 have H : ((spec_l01New.f k l0).bind fun bt294 => ((spec_l04Any.f k bt294.1 bt294.2.1 bt294.2.2).bind fun bt298 => (some (bt298.1, bt298.2.1, bt298.2.2.1)))) = some (r1, r2, r3) := h
 clear h
 replace H := Option.bind_eq_some_iff.mp H
 obtain ⟨⟨t294, t295, t296⟩, A20, H⟩ := H
 replace H : ((spec_l04Any.f k t294 t295 t296).bind fun bt298 => (some (bt298.1, bt298.2.1, bt298.2.2.1))) = some (r1, r2, r3) := H
 have A2 := Aside0.mk A20
 clear A20
 replace H := Option.bind_eq_some_iff.mp H
 obtain ⟨⟨t298, t299, t300, t301, t302⟩, A30, H⟩ := H
 replace H : (some (t298, t299, t300)) = some (r1, r2, r3) := H
 have A3 := Aside0.mk A30
 clear A30
 simp only [Option.some.injEq, Prod.mk.injEq] at H
 obtain ⟨rfl, rfl, rfl⟩ := H
 go_enter Try.func52, Try.ntmps52
 go_wp2_with (first | ((with_reducible refine gate_dst (N := 2) rfl ?_); refine bx 2 #[.int .i64 0, .int .i64 0, .string (⟨#[]⟩ : ByteArray)] 47 ?_; intro gb293 hg w4 hbox hb; replace BK293 := ak (hbox); replace GW293 := ak (bz hg (lG HB)); replace GE293 := ak (bz hg (lG HB)); replace HB := lB HB hb; clear hb hbox hg) | ((with_reducible refine gate_callee (f := 61) rfl ?_); refine gl (some 4) Try.func61 #[.slice A0 l0.length c0] ?_; (with_reducible refine (spec_l01New.calls k _ _ l0 t294 t295 t296 w _ ?side1 ?side2 ?side3 A2.out).mono ?_); (case side1 => exact lT HB (gC GE293 gN)); (case side2 => exact HR0.out); (case side3 => exact HC0.out); rintro e w5 ⟨g297, rfl, hi, hb, hb2⟩; refine ⟨_, rfl, ?_⟩; replace HB := ak (hb); replace HI297 := ak (hi); replace NB297_293 := ak (IsS92.ne_blk hi (blk_below (bG BK293) hb2) (by decide)); replace NB293_297 := ak (Ne.symm (IsS92.ne_blk hi (blk_below (bG BK293) hb2) (by decide))); replace BK293 := ak (blk_below (bG BK293) hb2); (try clear hb); (try clear hb2); (try clear hk); (try clear hi)) | ((with_reducible refine gate_callee (f := 76) rfl ?_); refine gl (some 5) Try.func76 #[.pointer (some ⟨g297, 0, none⟩)] ?_; (with_reducible refine (spec_l04Any.calls k g297 t294 t295 t296 t298 t299 t300 t301 t302 w _ ?side1 ?side2 A3.out).mono ?_); (case side1 => exact IsS92.T_ HI297 (nC NB297_293 nN)); (case side2 => exact lT HB (gC GE293 gN)); rintro e w6 ⟨rfl, hi, hb, hk⟩; refine ⟨_, rfl, ?_⟩; replace BK293 := ak (KeepBut.blk hk (g' := gb293) (o := .cells #[.int .i64 0, .int .i64 0, .string (⟨#[]⟩ : ByteArray)] 47 (0, 0)) (bG BK293) NB293_297.out (by simp)); replace HB := ak (hb); replace HI297 := ak (hi); (try clear hb); (try clear hb2); (try clear hk); (try clear hi); have hnb7 := NB293_297.out; have hnc7 := NB297_293.out; obtain ⟨hcz8_0, hcz8_1, hcz8_2, hfz8_0, hfz8_1, hfz8_2⟩ := bC3 BK293))
 refine bodyPost_ret (results_cell_row rfl _ _ gb293 47 #[.int .i64 t298, .int .i64 t299, .string t300] (0, 0) _ rfl (bW BK293) Try.underlying47 rfl (by kernel_rfl)) rfl ?_
 exact ⟨ew, lT HB (gC GE293 gN)⟩

/-! ### spec_l02Spoilt: function 77 -/
def spec_l02Spoilt.j0 : Nat → ByteArray → Bool → List Int → Int → Int → Option (ByteArray × Int × Int)
 | 0, _, _, _, _, _ => none
 | k + 1, x1, x23, x1000, x1001, x1002 => if x23 = true then (if (x1.size : Int) > 0 then ((spec_l01Below.f x1000 x1001 x1002 (x1.size : Int)).bind fun bt312 => (if 0 ≤ bt312.1 then (if bt312.1 ≤ (x1.size : Int) then ((spec_l01Text.f k x1000 bt312.2.1 bt312.2.2 1).bind fun bt315 => (if (x1.extract 0 (bt312.1 : Int).toNat).size + bt315.1.size ≤ 9223372036854775807 then (if 0 ≤ (wrap64 (bt312.1 + 1)) then (if (wrap64 (bt312.1 + 1)) ≤ (x1.size : Int) then (if (x1.extract 0 (bt312.1 : Int).toNat).size + bt315.1.size + (x1.extract ((wrap64 (bt312.1 + 1)) : Int).toNat x1.size).size ≤ 9223372036854775807 then (some (((x1.extract 0 (bt312.1 : Int).toNat) ++ bt315.1) ++ (x1.extract ((wrap64 (bt312.1 + 1)) : Int).toNat x1.size), bt315.2.1, bt315.2.2)) else (none)) else (none)) else (none)) else (none))) else (none)) else (none))) else (some (x1, x1001, x1002))) else (some (x1, x1001, x1002))
def spec_l02Spoilt.f (k : Nat) (s0_0 : List Int) (s0_1 : Int) (s0_2 : Int) (a1 : ByteArray) : Option (ByteArray × Int × Int) := (spec_l01Below.f s0_0 s0_1 s0_2 12).bind fun bt303 => (if bt303.1 = 0 then ((spec_l01Text.f k s0_0 bt303.2.1 bt303.2.2 1).bind fun bt306 => (if a1.size + bt306.1.size ≤ 9223372036854775807 then (some (a1 ++ bt306.1, bt306.2.1, bt306.2.2)) else (none))) else (if bt303.1 = 1 then ((spec_l01Below.f s0_0 bt303.2.1 bt303.2.2 (wrap64 ((a1.size : Int) + 1))).bind fun bt309 => (if 0 ≤ bt309.1 then (if bt309.1 ≤ (a1.size : Int) then (some (a1.extract 0 (bt309.1 : Int).toNat, bt309.2.1, bt309.2.2)) else (none)) else (none))) else (if bt303.1 = 2 then (spec_l02Spoilt.j0 k a1 (bt303.1 == 2) s0_0 bt303.2.1 bt303.2.2) else (spec_l02Spoilt.j0 k a1 (bt303.1 == 3) s0_0 bt303.2.1 bt303.2.2))))
theorem spec_l02Spoilt.mono_l : ∀ k, (∀ y0 y1 y2 y3 y4, LeO (spec_l02Spoilt.j0 k y0 y1 y2 y3 y4) (spec_l02Spoilt.j0 (k + 1) y0 y1 y2 y3 y4))
 | 0 => fun _ _ _ _ _ r h => by simp [spec_l02Spoilt.j0] at h
 | k + 1 => by
  have ih0 := spec_l02Spoilt.mono_l k
  ·intro y0 y1 y2 y3 y4
   unfold spec_l02Spoilt.j0
   repeat' first
   | (with_reducible exact ih0 _ _ _ _ _)
   | (with_reducible exact spec_l01Text.mono _ _ _ _ _)
   | (with_reducible exact LeO.refl _)
   | (with_reducible exact LeO.none _)
   | (with_reducible refine LeO.ite ?_ ?_)
   | (with_reducible refine LeO.bind ?_ (fun _ => ?_))
   | exact ih0 _ _ _ _ _
   | exact spec_l01Text.mono _ _ _ _ _
   | exact LeO.none _
   | refine LeO.ite ?_ ?_
   | refine LeO.bind ?_ (fun _ => ?_)
theorem spec_l02Spoilt.mono : ∀ a0 a1 a2 a3 k, LeO (spec_l02Spoilt.f k a0 a1 a2 a3) (spec_l02Spoilt.f (k + 1) a0 a1 a2 a3) := by
 intro a0 a1 a2 a3 k
 have ih0 := spec_l02Spoilt.mono_l k
 unfold spec_l02Spoilt.f
 repeat' first
   | (with_reducible exact ih0 _ _ _ _ _)
   | (with_reducible exact spec_l01Text.mono _ _ _ _ _)
   | (with_reducible exact LeO.refl _)
   | (with_reducible exact LeO.none _)
   | (with_reducible refine LeO.ite ?_ ?_)
   | (with_reducible refine LeO.bind ?_ (fun _ => ?_))
   | exact ih0 _ _ _ _ _
   | exact spec_l01Text.mono _ _ _ _ _
   | exact LeO.none _
   | refine LeO.ite ?_ ?_
   | refine LeO.bind ?_ (fun _ => ?_)
def spec_l02Spoilt.T10 : Bool × List (List Nat × List Nat) := (true, [([], []), ([], []), ([0, 1], [0, 1]), ([], []), ([3], [3]), ([2, 4], [2, 4]), ([], []), ([], []), ([7], [7]), ([6, 8], [6, 8]), ([5, 9], [5, 9]), ([10, 4, 0, 1, 2, 3, 4, 5, 6, 7, 8, 9, 10], [10])])
def spec_l02Spoilt.B10 : List Nat := [0, 0, 3, 0, 8, 31, 0, 0, 128, 448, 1023, 2047]
theorem spec_l02Spoilt.tab10 : rtab .any (opsOf Try.f77 10) = spec_l02Spoilt.T10 := by kernel_rfl
theorem spec_l02Spoilt.bits10 : waitsOk spec_l02Spoilt.T10.2 spec_l02Spoilt.B10 = true := by kernel_rfl
set_option maxHeartbeats 8000000 in
set_option maxRecDepth 100000 in
theorem spec_l02Spoilt.calls (k : Nat) (g : Nat) (s0_0 : List Int) (s0_1 : Int) (s0_2 : Int) (a1 : ByteArray) (r1 : ByteArray) (r2 : Int) (r3 : Int) (w0 w : World) (hI : IsS92 w0 w g s0_0 s0_1 s0_2) (hB : Below w0.heap.size w0 w) (h : spec_l02Spoilt.f k s0_0 s0_1 s0_2 a1 = some (r1, r2, r3)) :
  Calls Try.prog 77 #[.pointer (some ⟨g, 0, none⟩), .string a1] w fun e w' => e = .returned (.string r1) ∧ IsS92 w0 w' g s0_0 r2 r3 ∧ Below w0.heap.size w0 w' ∧ KeepBut w w' g none := by
 have HI0 := Aside0.mk hI
 have HK := ak (KeepBut.refl w g none)
 have HL := Aside0.mk hB.size
 clear hI
 have HW0 := Aside0.mk hB.size
 have HB := Aside0.mk hB
 clear hB
 have H : ((spec_l01Below.f s0_0 s0_1 s0_2 12).bind fun bt303 => (if bt303.1 = 0 then ((spec_l01Text.f k s0_0 bt303.2.1 bt303.2.2 1).bind fun bt306 => (if a1.size + bt306.1.size ≤ 9223372036854775807 then (some (a1 ++ bt306.1, bt306.2.1, bt306.2.2)) else (none))) else (if bt303.1 = 1 then ((spec_l01Below.f s0_0 bt303.2.1 bt303.2.2 (wrap64 ((a1.size : Int) + 1))).bind fun bt309 => (if 0 ≤ bt309.1 then (if bt309.1 ≤ (a1.size : Int) then (some (a1.extract 0 (bt309.1 : Int).toNat, bt309.2.1, bt309.2.2)) else (none)) else (none))) else (if bt303.1 = 2 then (spec_l02Spoilt.j0 k a1 (bt303.1 == 2) s0_0 bt303.2.1 bt303.2.2) else (spec_l02Spoilt.j0 k a1 (bt303.1 == 3) s0_0 bt303.2.1 bt303.2.2))))) = some (r1, r2, r3) := h
 clear h
 replace H := Option.bind_eq_some_iff.mp H
 obtain ⟨⟨t303, t304, t305⟩, A30, H⟩ := H
 replace H : (if t303 = 0 then ((spec_l01Text.f k s0_0 t304 t305 1).bind fun bt306 => (if a1.size + bt306.1.size ≤ 9223372036854775807 then (some (a1 ++ bt306.1, bt306.2.1, bt306.2.2)) else (none))) else (if t303 = 1 then ((spec_l01Below.f s0_0 t304 t305 (wrap64 ((a1.size : Int) + 1))).bind fun bt309 => (if 0 ≤ bt309.1 then (if bt309.1 ≤ (a1.size : Int) then (some (a1.extract 0 (bt309.1 : Int).toNat, bt309.2.1, bt309.2.2)) else (none)) else (none))) else (if t303 = 2 then (spec_l02Spoilt.j0 k a1 (t303 == 2) s0_0 t304 t305) else (spec_l02Spoilt.j0 k a1 (t303 == 3) s0_0 t304 t305)))) = some (r1, r2, r3) := H
 have A3 := Aside0.mk A30
 clear A30
 by_cases c4 : t303 = 0
 ·rw [if_pos c4] at H
  have c4b0 : (t303 == 0) = true := beq_iff_eq.mpr c4
  have c4b1 : (t303 != 0) = false := bne_eq_false_iff_eq.mpr c4
  clear c4
  replace H := Option.bind_eq_some_iff.mp H
  obtain ⟨⟨t306, t307, t308⟩, A50, H⟩ := H
  replace H : (if a1.size + t306.size ≤ 9223372036854775807 then (some (a1 ++ t306, t307, t308)) else (none)) = some (r1, r2, r3) := H
  have A5 := Aside0.mk A50
  clear A50
  by_cases c6 : a1.size + t306.size ≤ 9223372036854775807
  ·rw [if_pos c6] at H
   have c6b0 := eq_true c6
   have c6b1 : decide (a1.size + t306.size ≤ 9223372036854775807) = true := decide_eq_true c6
   try have c6b2 : (9223372036854775807 < a1.size + t306.size) = False := eq_false (Nat.not_lt.2 c6)
   simp only [Option.some.injEq, Prod.mk.injEq] at H
   obtain ⟨rfl, rfl, rfl⟩ := H
   go_enter Try.func77, Try.ntmps77
   go_wp2_with (first | ((with_reducible refine gate_callee (f := 63) rfl ?_); refine gl (some 7) Try.func63 #[.pointer (some ⟨g, 0, none⟩), .int .i64 12] ?_; (with_reducible refine (spec_l01Below.calls g s0_0 s0_1 s0_2 12 t303 t304 t305 w0 _ ?side1 ?side2 A3.out).mono ?_); (case side1 => exact IsS92.T_ HI0 nN); (case side2 => exact lT HB gN); rintro e w7 ⟨rfl, hi, hb, hk⟩; refine ⟨_, rfl, ?_⟩; replace HK := ak (KeepBut.trans (kT HK gN) hk (.inl rfl)); replace HB := ak (hb); replace HI0 := ak (hi); (try clear hb); (try clear hk); (try clear hi)) | ((with_reducible refine gate_callee (f := 62) rfl ?_); refine gl (some 12) Try.func62 #[.pointer (some ⟨g, 0, none⟩), .int .i64 1] ?_; (with_reducible refine (spec_l01Text.calls k g s0_0 t304 t305 1 t306 t307 t308 w0 _ ?side1 ?side2 A5.out).mono ?_); (case side1 => exact IsS92.T_ HI0 nN); (case side2 => exact lT HB gN); rintro e w8 ⟨rfl, hi, hb, hk⟩; refine ⟨_, rfl, ?_⟩; replace HK := ak (KeepBut.trans (kT HK gN) hk (.inl rfl)); replace HB := ak (hb); replace HI0 := ak (hi); (try clear hb); (try clear hk); (try clear hi)))
   go_ret
   exact ⟨ew, IsS92.T_ HI0 nN, lT HB gN, kT HK gN⟩
  ·rw [if_neg c6] at H
   exact absurd H (by simp)
 ·rw [if_neg c4] at H
  have c4b0 : (t303 == 0) = false := beq_eq_false_iff_ne.mpr c4
  have c4b1 : (t303 != 0) = true := bne_iff_ne.mpr c4
  by_cases c9 : t303 = 1
  ·rw [if_pos c9] at H
   have c9b0 : (t303 == 1) = true := beq_iff_eq.mpr c9
   have c9b1 : (t303 != 1) = false := bne_eq_false_iff_eq.mpr c9
   clear c9
   replace H := Option.bind_eq_some_iff.mp H
   obtain ⟨⟨t309, t310, t311⟩, A100, H⟩ := H
   replace H : (if 0 ≤ t309 then (if t309 ≤ (a1.size : Int) then (some (a1.extract 0 (t309 : Int).toNat, t310, t311)) else (none)) else (none)) = some (r1, r2, r3) := H
   have A10 := Aside0.mk A100
   clear A100
   by_cases c11 : 0 ≤ t309
   ·rw [if_pos c11] at H
    have c11b0 := eq_true c11
    have c11b1 : decide (0 ≤ t309) = true := decide_eq_true c11
    clear c11
    by_cases c12 : t309 ≤ (a1.size : Int)
    ·rw [if_pos c12] at H
     have c12b0 := eq_true c12
     have c12b1 : decide (t309 ≤ (a1.size : Int)) = true := decide_eq_true c12
     clear c12
     simp only [Option.some.injEq, Prod.mk.injEq] at H
     obtain ⟨rfl, rfl, rfl⟩ := H
     go_enter Try.func77, Try.ntmps77
     go_wp2_with (first | ((with_reducible refine gate_callee (f := 63) rfl ?_); refine gl (some 7) Try.func63 #[.pointer (some ⟨g, 0, none⟩), .int .i64 12] ?_; (with_reducible refine (spec_l01Below.calls g s0_0 s0_1 s0_2 12 t303 t304 t305 w0 _ ?side1 ?side2 A3.out).mono ?_); (case side1 => exact IsS92.T_ HI0 nN); (case side2 => exact lT HB gN); rintro e w13 ⟨rfl, hi, hb, hk⟩; refine ⟨_, rfl, ?_⟩; replace HK := ak (KeepBut.trans (kT HK gN) hk (.inl rfl)); replace HB := ak (hb); replace HI0 := ak (hi); (try clear hb); (try clear hk); (try clear hi)) | ((with_reducible refine gate_callee (f := 63) rfl ?_); refine gl (some 21) Try.func63 #[.pointer (some ⟨g, 0, none⟩), .int .i64 (wrap64 ((a1.size : Int) + 1))] ?_; (with_reducible refine (spec_l01Below.calls g s0_0 t304 t305 (wrap64 ((a1.size : Int) + 1)) t309 t310 t311 w0 _ ?side1 ?side2 A10.out).mono ?_); (case side1 => exact IsS92.T_ HI0 nN); (case side2 => exact lT HB gN); rintro e w14 ⟨rfl, hi, hb, hk⟩; refine ⟨_, rfl, ?_⟩; replace HK := ak (KeepBut.trans (kT HK gN) hk (.inl rfl)); replace HB := ak (hb); replace HI0 := ak (hi); (try clear hb); (try clear hk); (try clear hi)))
     go_ret
     exact ⟨ew, IsS92.T_ HI0 nN, lT HB gN, kT HK gN⟩
    ·rw [if_neg c12] at H
     exact absurd H (by simp)
   ·rw [if_neg c11] at H
    exact absurd H (by simp)
  ·rw [if_neg c9] at H
   have c9b0 : (t303 == 1) = false := beq_eq_false_iff_ne.mpr c9
   have c9b1 : (t303 != 1) = true := bne_iff_ne.mpr c9
   have HC15 := Aside0.mk H
   clear H
   go_enter Try.func77, Try.ntmps77
   go_upto_if 23 with (first | ((with_reducible refine gate_callee (f := 63) rfl ?_); refine gl (some 7) Try.func63 #[.pointer (some ⟨g, 0, none⟩), .int .i64 12] ?_; (with_reducible refine (spec_l01Below.calls g s0_0 s0_1 s0_2 12 t303 t304 t305 w0 _ ?side1 ?side2 A3.out).mono ?_); (case side1 => exact IsS92.T_ HI0 nN); (case side2 => exact lT HB gN); rintro e w16 ⟨rfl, hi, hb, hk⟩; refine ⟨_, rfl, ?_⟩; replace HK := ak (KeepBut.trans (kT HK gN) hk (.inl rfl)); replace HB := ak (hb); replace HI0 := ak (hi); (try clear hb); (try clear hk); (try clear hi)))
   (try simp only [Act.put, List.setIfInBounds_toArray, List.set_cons_zero, List.set_cons_succ])
   go_cut [23] (fun v23 wc => ∃ (kq : Nat) (x23_14 : Bool), v23 = .bool x23_14 ∧ Aside0 (spec_l02Spoilt.j0 kq a1 x23_14 s0_0 t304 t305 = some (r1, r2, r3)) ∧ Aside0 (kq ≤ k) ∧ Aside0 (IsS92 w0 wc g s0_0 t304 t305) ∧ Aside0 (KeepBut w wc g none) ∧ Aside0 (Below w0.heap.size w0 wc))
   case first =>
    have H := HC15.out
    clear HC15
    by_cases c17 : t303 = 2
    ·rw [if_pos c17] at H
     have c17b0 : (t303 == 2) = true := beq_iff_eq.mpr c17
     have c17b1 : (t303 != 2) = false := bne_eq_false_iff_eq.mpr c17
     clear c17
     (first | rw [c17b0] | (simp only [i64_w, i32_w]; rw [c17b0]) | skip)
     have H' := Aside0.mk H
     clear H
     go_wp2
     go_meet
     case rel => exact ⟨_, ((t303 == 2)), (by first | rfl | (simp; done) | (simp [*]; done)), H', ⟨by first | omega | exact Nat.le_refl _⟩, ⟨IsS92.T_ HI0 nN⟩, ⟨kT HK gN⟩, ⟨lT HB gN⟩⟩
    ·rw [if_neg c17] at H
     have c17b0 : (t303 == 2) = false := beq_eq_false_iff_ne.mpr c17
     have c17b1 : (t303 != 2) = true := bne_iff_ne.mpr c17
     (first | rw [c17b0] | (simp only [i64_w, i32_w]; rw [c17b0]) | skip)
     have H' := Aside0.mk H
     clear H
     go_wp2
     go_meet
     case rel => exact ⟨_, ((t303 == 3)), (by first | rfl | (simp; done) | (simp [*]; done)), H', ⟨by first | omega | exact Nat.le_refl _⟩, ⟨IsS92.T_ HI0 nN⟩, ⟨kT HK gN⟩, ⟨lT HB gN⟩⟩
   case rest =>
    clear HC15
    try clear c1
    try clear p2
    try clear c4
    try clear c4b0
    try clear c4b1
    try clear c6
    try clear c6b0
    try clear c6b1
    try clear c6b2
    try clear p6
    try clear c7
    try clear c9
    try clear c9b0
    try clear c9b1
    try clear c11
    try clear c11b0
    try clear c11b1
    try clear c12
    try clear c12b0
    try clear c12b1
    try clear c17
    try clear c17b0
    try clear c17b1
    obtain ⟨kq, x23_14, rfl, HA, HJ14, HI0, HK, HB⟩ := hcut
    cases kq with
    | zero => exact absurd HA.out (by simp [spec_l02Spoilt.j0])
    | succ kj14 =>
     have H := HA.out
     clear HA
     simp only [spec_l02Spoilt.j0] at H
     by_cases c18 : x23_14 = true
     ·subst c18
      have H1 : (if (a1.size : Int) > 0 then ((spec_l01Below.f s0_0 t304 t305 (a1.size : Int)).bind fun bt312 => (if 0 ≤ bt312.1 then (if bt312.1 ≤ (a1.size : Int) then ((spec_l01Text.f kj14 s0_0 bt312.2.1 bt312.2.2 1).bind fun bt315 => (if (a1.extract 0 (bt312.1 : Int).toNat).size + bt315.1.size ≤ 9223372036854775807 then (if 0 ≤ (wrap64 (bt312.1 + 1)) then (if (wrap64 (bt312.1 + 1)) ≤ (a1.size : Int) then (if (a1.extract 0 (bt312.1 : Int).toNat).size + bt315.1.size + (a1.extract ((wrap64 (bt312.1 + 1)) : Int).toNat a1.size).size ≤ 9223372036854775807 then (some (((a1.extract 0 (bt312.1 : Int).toNat) ++ bt315.1) ++ (a1.extract ((wrap64 (bt312.1 + 1)) : Int).toNat a1.size), bt315.2.1, bt315.2.2)) else (none)) else (none)) else (none)) else (none))) else (none)) else (none))) else (some (a1, t304, t305))) = some (r1, r2, r3) := by rw [if_pos rfl] at H; exact H
      clear H
      have H := H1
      clear H1
      by_cases c19 : (a1.size : Int) > 0
      ·rw [if_pos c19] at H
       have c19b0 : decide (0 < (a1.size : Int)) = true := decide_eq_true c19
       have c19b1 : decide (0 < a1.size) = true := decide_eq_true (by omega)
       clear c19
       replace H := Option.bind_eq_some_iff.mp H
       obtain ⟨⟨t312, t313, t314⟩, A200, H⟩ := H
       replace H : (if 0 ≤ t312 then (if t312 ≤ (a1.size : Int) then ((spec_l01Text.f kj14 s0_0 t313 t314 1).bind fun bt315 => (if (a1.extract 0 (t312 : Int).toNat).size + bt315.1.size ≤ 9223372036854775807 then (if 0 ≤ (wrap64 (t312 + 1)) then (if (wrap64 (t312 + 1)) ≤ (a1.size : Int) then (if (a1.extract 0 (t312 : Int).toNat).size + bt315.1.size + (a1.extract ((wrap64 (t312 + 1)) : Int).toNat a1.size).size ≤ 9223372036854775807 then (some (((a1.extract 0 (t312 : Int).toNat) ++ bt315.1) ++ (a1.extract ((wrap64 (t312 + 1)) : Int).toNat a1.size), bt315.2.1, bt315.2.2)) else (none)) else (none)) else (none)) else (none))) else (none)) else (none)) = some (r1, r2, r3) := H
       have A20 := Aside0.mk A200
       clear A200
       by_cases c21 : 0 ≤ t312
       ·rw [if_pos c21] at H
        have c21b0 := eq_true c21
        have c21b1 : decide (0 ≤ t312) = true := decide_eq_true c21
        clear c21
        by_cases c22 : t312 ≤ (a1.size : Int)
        ·rw [if_pos c22] at H
         have c22b0 := eq_true c22
         have c22b1 : decide (t312 ≤ (a1.size : Int)) = true := decide_eq_true c22
         clear c22
         replace H := Option.bind_eq_some_iff.mp H
         obtain ⟨⟨t315, t316, t317⟩, A230, H⟩ := H
         replace H : (if (a1.extract 0 (t312 : Int).toNat).size + t315.size ≤ 9223372036854775807 then (if 0 ≤ (wrap64 (t312 + 1)) then (if (wrap64 (t312 + 1)) ≤ (a1.size : Int) then (if (a1.extract 0 (t312 : Int).toNat).size + t315.size + (a1.extract ((wrap64 (t312 + 1)) : Int).toNat a1.size).size ≤ 9223372036854775807 then (some (((a1.extract 0 (t312 : Int).toNat) ++ t315) ++ (a1.extract ((wrap64 (t312 + 1)) : Int).toNat a1.size), t316, t317)) else (none)) else (none)) else (none)) else (none)) = some (r1, r2, r3) := H
         have A23 := Aside0.mk A230
         clear A230
         by_cases c24 : (a1.extract 0 (t312 : Int).toNat).size + t315.size ≤ 9223372036854775807
         ·rw [if_pos c24] at H
          have c24b0 := eq_true c24
          have c24b1 : decide ((a1.extract 0 (t312 : Int).toNat).size + t315.size ≤ 9223372036854775807) = true := decide_eq_true c24
          try have c24b2 : (9223372036854775807 < (a1.extract 0 (t312 : Int).toNat).size + t315.size) = False := eq_false (Nat.not_lt.2 c24)
          try have c24b9 : (9223372036854775807 < (t312 : Int).toNat + t315.size) = False := eq_false (by have h_ := c24; (try have h11_ := of_eq_true c11b0); (try have g11_ := of_decide_eq_true c11b0); (try have h21_ := of_eq_true c21b0); (try have g21_ := of_decide_eq_true c21b0); (try have h22_ := of_eq_true c22b0); (try have g22_ := of_decide_eq_true c22b0); simp only [ByteArray.size_extract] at h_; omega)
          try have c24b7 : (9223372036854775807 < min (t312 : Int).toNat a1.size + t315.size) = False := eq_false (by have h_ := c24; (try have h11_ := of_eq_true c11b0); (try have g11_ := of_decide_eq_true c11b0); (try have h21_ := of_eq_true c21b0); (try have g21_ := of_decide_eq_true c21b0); (try have h22_ := of_eq_true c22b0); (try have g22_ := of_decide_eq_true c22b0); simp only [ByteArray.size_extract] at h_; omega)
          obtain ⟨ji25, hji25⟩ : ∃ j_ : Int, (wrap64 (t312 + 1)) = j_ := ⟨_, rfl⟩
          replace H : (if 0 ≤ (ji25) then (if (ji25) ≤ (a1.size : Int) then (if (a1.extract 0 (t312 : Int).toNat).size + t315.size + (a1.extract ((ji25) : Int).toNat a1.size).size ≤ 9223372036854775807 then (some (((a1.extract 0 (t312 : Int).toNat) ++ t315) ++ (a1.extract ((ji25) : Int).toNat a1.size), t316, t317)) else (none)) else (none)) else (none)) = some (r1, r2, r3) := by first | (rw [hji25] at H; exact H) | (simp only [hji25] at H ⊢; exact H)
          (try rw [hji25] at A20)
          (try rw [hji25] at A23)
          have hji25w : (IntKind.i64.wrap (t312 + 1)) = ji25 := (i64_w _).trans hji25
          by_cases c26 : 0 ≤ (ji25)
          ·rw [if_pos c26] at H
           have c26b0 := eq_true c26
           have c26b1 : decide (0 ≤ (ji25)) = true := decide_eq_true c26
           clear c26
           by_cases c27 : (ji25) ≤ (a1.size : Int)
           ·rw [if_pos c27] at H
            have c27b0 := eq_true c27
            have c27b1 : decide ((ji25) ≤ (a1.size : Int)) = true := decide_eq_true c27
            clear c27
            by_cases c28 : (a1.extract 0 (t312 : Int).toNat).size + t315.size + (a1.extract ((ji25) : Int).toNat a1.size).size ≤ 9223372036854775807
            ·rw [if_pos c28] at H
             have c28b0 := eq_true c28
             have c28b1 : decide ((a1.extract 0 (t312 : Int).toNat).size + t315.size + (a1.extract ((ji25) : Int).toNat a1.size).size ≤ 9223372036854775807) = true := decide_eq_true c28
             try have c28b2 : (9223372036854775807 < (a1.extract 0 (t312 : Int).toNat).size + t315.size + (a1.extract ((ji25) : Int).toNat a1.size).size) = False := eq_false (Nat.not_lt.2 c28)
             try have c28b9 : (9223372036854775807 < (t312 : Int).toNat + t315.size + (a1.size - ((ji25) : Int).toNat)) = False := eq_false (by have h_ := c28; (try have h11_ := of_eq_true c11b0); (try have g11_ := of_decide_eq_true c11b0); (try have h21_ := of_eq_true c21b0); (try have g21_ := of_decide_eq_true c21b0); (try have h22_ := of_eq_true c22b0); (try have g22_ := of_decide_eq_true c22b0); (try have h24_ := of_eq_true c24b0); (try have g24_ := of_decide_eq_true c24b0); (try simp only [ByteArray.size_extract, ByteArray.size_append] at h24_); (try have h26_ := of_eq_true c26b0); (try have g26_ := of_decide_eq_true c26b0); (try have h27_ := of_eq_true c27b0); (try have g27_ := of_decide_eq_true c27b0); simp only [ByteArray.size_extract] at h_; omega)
             try have c28b7 : (9223372036854775807 < min (t312 : Int).toNat a1.size + t315.size + (a1.size - ((ji25) : Int).toNat)) = False := eq_false (by have h_ := c28; (try have h11_ := of_eq_true c11b0); (try have g11_ := of_decide_eq_true c11b0); (try have h21_ := of_eq_true c21b0); (try have g21_ := of_decide_eq_true c21b0); (try have h22_ := of_eq_true c22b0); (try have g22_ := of_decide_eq_true c22b0); (try have h24_ := of_eq_true c24b0); (try have g24_ := of_decide_eq_true c24b0); (try simp only [ByteArray.size_extract, ByteArray.size_append] at h24_); (try have h26_ := of_eq_true c26b0); (try have g26_ := of_decide_eq_true c26b0); (try have h27_ := of_eq_true c27b0); (try have g27_ := of_decide_eq_true c27b0); simp only [ByteArray.size_extract] at h_; omega)
             simp only [Option.some.injEq, Prod.mk.injEq] at H
             obtain ⟨rfl, rfl, rfl⟩ := H
             try go_wp2_with (first | ((with_reducible refine gate_callee (f := 63) rfl ?_); refine gl (some 32) Try.func63 #[.pointer (some ⟨g, 0, none⟩), .int .i64 (a1.size : Int)] ?_; (with_reducible refine (spec_l01Below.calls g s0_0 t304 t305 (a1.size : Int) t312 t313 t314 w0 _ ?side1 ?side2 A20.out).mono ?_); (case side1 => exact IsS92.T_ HI0 nN); (case side2 => exact lT HB gN); rintro e w29 ⟨rfl, hi, hb, hk⟩; refine ⟨_, rfl, ?_⟩; replace HK := ak (KeepBut.trans (kT HK gN) hk (.inl rfl)); replace HB := ak (hb); replace HI0 := ak (hi); (try clear hb); (try clear hk); (try clear hi)))
             replace HI0 := ak (IsS92.drew HI0.out)
             replace HK := ak (keep_drew HK.out)
             replace HB := ak (below_drew1 HB.out)
             refine start_ (n := 12) (S := fun w' => True) (ds := []) #[f_,f_,f_,f_,f_,f_,f_,f_,f_,f_,f_,f_] (by kernel_rfl) rfl rfl trivial (fun hHeld => ?_); refine with_tabW spec_l02Spoilt.tab10 spec_l02Spoilt.bits10 (fun HT_ HW_ => ?_)
             generalize w29.drew = w30 at HI0 HK HB hHeld ⊢
             refine pu 0 33 (fb 12 1) HT_ ?_
             refine pu 1 34 (fb 12 3) HT_ ?_
             refine pu 2 35 (fb 12 7) HT_ ?_
             refine pu 3 36 (fb 12 15) HT_ ?_
             refine pu 6 39 (fb 12 79) HT_ ?_
             refine pu 7 40 (fb 12 207) HT_ ?_
             refine pu 8 41 (fb 12 463) HT_ ?_
             refine pu 9 42 (fb 12 975) HT_ ?_
             refine on 4 (some 37) (fb 12 991) HT_ (fun K hK => ?_)
             refine goes_ Try.func62 (by kernel_rfl) rfl #[.pointer (some ⟨g, 0, none⟩), .int .i64 1] (by rfl) rfl rfl (by (try simp only [List.map_toArray, List.map_cons, List.map_nil]); first | done | rfl | (simp only [List.length_drop, List.length_take]; rfl)) ?_
             with_reducible refine (spec_l01Text.calls kj14 g s0_0 t313 t314 1 t315 t316 t317 w0 _ ?side1 ?side2 A23.out).mono ?_
             (case side1 => exact IsS92.T_ HI0 nN)
             (case side2 => exact lT HB gN)
             rintro e w31 ⟨rfl, hi, hb, hk⟩
             refine ⟨_, rfl, ?_⟩
             replace HK := ak (KeepBut.trans (kT HK gN) hk (.inl rfl))
             replace HB := ak (hb)
             replace HI0 := ak (hi)
             (try clear hb)
             (try clear hb2)
             (try clear hk)
             (try clear hi)
             refine hK.out _ _ trivial (fun hHeld => ?_)
             clear hK K
             refine nm ?_
             refine pu 5 38 (fb 12 1023) HT_ ?_
             refine pu 10 43 (fb 12 2047) HT_ ?_
             refine pu 11 4 (fb 12 4095) HT_ ?_
             refine done_ (done_of HT_.out (by kernel_rfl)) ?_
             try go_wp2
             go_ret
             exact ⟨by first | rfl | (simp [errW_none, errW_some] <;> rfl) | (simp only [← hji25]; first | rfl | (simp [errW_none, errW_some] <;> rfl)) | (simp [*, errW_none, errW_some] <;> rfl), IsS92.T_ HI0 nN, lT HB gN, kT HK gN⟩
            ·rw [if_neg c28] at H
             exact absurd H (by simp)
           ·rw [if_neg c27] at H
            exact absurd H (by simp)
          ·rw [if_neg c26] at H
           exact absurd H (by simp)
         ·rw [if_neg c24] at H
          exact absurd H (by simp)
        ·rw [if_neg c22] at H
         exact absurd H (by simp)
       ·rw [if_neg c21] at H
        exact absurd H (by simp)
      ·rw [if_neg c19] at H
       have c19b0 : decide (0 < (a1.size : Int)) = false := decide_eq_false c19
       have c19b1 : decide (0 < a1.size) = false := decide_eq_false (by omega)
       clear c19
       simp only [Option.some.injEq, Prod.mk.injEq] at H
       obtain ⟨rfl, rfl, rfl⟩ := H
       go_wp2
       go_ret
       exact ⟨ew, IsS92.T_ HI0 nN, lT HB gN, kT HK gN⟩
     ·replace c18 := Bool.eq_false_iff.mpr c18
      subst c18
      have H1 : (some (a1, t304, t305)) = some (r1, r2, r3) := by rw [if_neg (show ¬ (false = true) by decide)] at H; exact H
      clear H
      have H := H1
      clear H1
      simp only [Option.some.injEq, Prod.mk.injEq] at H
      obtain ⟨rfl, rfl, rfl⟩ := H
      go_wp2
      go_ret
      exact ⟨ew, IsS92.T_ HI0 nN, lT HB gN, kT HK gN⟩

/-! ### spec_l01Once: function 79 -/
def spec_l01Once.f (s0_0 : List Int) (s0_1 : Int) (s0_2 : Int) (a1 : Int) : Option (Bool × Int × Int) := (spec_l01Below.f s0_0 s0_1 s0_2 a1).bind fun bt318 => (some ((bt318.1 == 0), bt318.2.1, bt318.2.2))
set_option maxHeartbeats 8000000 in
set_option maxRecDepth 100000 in
theorem spec_l01Once.calls (g : Nat) (s0_0 : List Int) (s0_1 : Int) (s0_2 : Int) (a1 : Int) (r1 : Bool) (r2 : Int) (r3 : Int) (w0 w : World) (hI : IsS92 w0 w g s0_0 s0_1 s0_2) (hB : Below w0.heap.size w0 w) (h : spec_l01Once.f s0_0 s0_1 s0_2 a1 = some (r1, r2, r3)) :
  Calls Try.prog 79 #[.pointer (some ⟨g, 0, none⟩), .int .i64 a1] w fun e w' => e = .returned (.bool r1) ∧ IsS92 w0 w' g s0_0 r2 r3 ∧ Below w0.heap.size w0 w' ∧ KeepBut w w' g none := by
 have HI0 := Aside0.mk hI
 have HK := ak (KeepBut.refl w g none)
 have HL := Aside0.mk hB.size
 clear hI
 have HW0 := Aside0.mk hB.size
 have HB := Aside0.mk hB
 clear hB
 have H : ((spec_l01Below.f s0_0 s0_1 s0_2 a1).bind fun bt318 => (some ((bt318.1 == 0), bt318.2.1, bt318.2.2))) = some (r1, r2, r3) := h
 clear h
 replace H := Option.bind_eq_some_iff.mp H
 obtain ⟨⟨t318, t319, t320⟩, A30, H⟩ := H
 replace H : (some ((t318 == 0), t319, t320)) = some (r1, r2, r3) := H
 have A3 := Aside0.mk A30
 clear A30
 simp only [Option.some.injEq, Prod.mk.injEq] at H
 obtain ⟨rfl, rfl, rfl⟩ := H
 go_enter Try.func79, Try.ntmps79
 go_wp2_with (first | ((with_reducible refine gate_callee (f := 63) rfl ?_); refine gl (some 7) Try.func63 #[.pointer (some ⟨g, 0, none⟩), .int .i64 a1] ?_; (with_reducible refine (spec_l01Below.calls g s0_0 s0_1 s0_2 a1 t318 t319 t320 w0 _ ?side1 ?side2 A3.out).mono ?_); (case side1 => exact IsS92.T_ HI0 nN); (case side2 => exact lT HB gN); rintro e w4 ⟨rfl, hi, hb, hk⟩; refine ⟨_, rfl, ?_⟩; replace HK := ak (KeepBut.trans (kT HK gN) hk (.inl rfl)); replace HB := ak (hb); replace HI0 := ak (hi); (try clear hb); (try clear hk); (try clear hi)))
 go_ret
 exact ⟨ew, IsS92.T_ HI0 nN, lT HB gN, kT HK gN⟩

/-! ### spec_l01Place: function 78 -/
def spec_l01Place.f (s0_0 : List Int) (s0_1 : Int) (s0_2 : Int) (a1 : Int) : Option (Int × Int × Int) := (spec_l01Once.f s0_0 s0_1 s0_2 15).bind fun bt321 => (if bt321.1 = true then ((spec_l01PickInt.f s0_0 bt321.2.1 bt321.2.2 (([(-1), a1, wrap64 (a1 + 1), 9223372036854775807, (-9223372036854775808)] : List Int))).bind fun bt327 => (some (bt327.1, bt327.2.1, bt327.2.2))) else ((spec_l01Below.f s0_0 bt321.2.1 bt321.2.2 a1).bind fun bt330 => (some (bt330.1, bt330.2.1, bt330.2.2))))
set_option maxHeartbeats 8000000 in
set_option maxRecDepth 100000 in
theorem spec_l01Place.calls (g : Nat) (s0_0 : List Int) (s0_1 : Int) (s0_2 : Int) (a1 : Int) (r1 : Int) (r2 : Int) (r3 : Int) (w0 w : World) (hI : IsS92 w0 w g s0_0 s0_1 s0_2) (hB : Below w0.heap.size w0 w) (h : spec_l01Place.f s0_0 s0_1 s0_2 a1 = some (r1, r2, r3)) :
  Calls Try.prog 78 #[.pointer (some ⟨g, 0, none⟩), .int .i64 a1] w fun e w' => e = .returned (.int .i64 r1) ∧ IsS92 w0 w' g s0_0 r2 r3 ∧ Below w0.heap.size w0 w' ∧ KeepBut w w' g none := by
 have HI0 := Aside0.mk hI
 have HK := ak (KeepBut.refl w g none)
 have HL := Aside0.mk hB.size
 clear hI
 have HW0 := Aside0.mk hB.size
 have HB := Aside0.mk hB
 clear hB
 have H : ((spec_l01Once.f s0_0 s0_1 s0_2 15).bind fun bt321 => (if bt321.1 = true then ((spec_l01PickInt.f s0_0 bt321.2.1 bt321.2.2 (([(-1), a1, wrap64 (a1 + 1), 9223372036854775807, (-9223372036854775808)] : List Int))).bind fun bt327 => (some (bt327.1, bt327.2.1, bt327.2.2))) else ((spec_l01Below.f s0_0 bt321.2.1 bt321.2.2 a1).bind fun bt330 => (some (bt330.1, bt330.2.1, bt330.2.2))))) = some (r1, r2, r3) := h
 clear h
 replace H := Option.bind_eq_some_iff.mp H
 obtain ⟨⟨t321, t322, t323⟩, A30, H⟩ := H
 replace H : (if t321 = true then ((spec_l01PickInt.f s0_0 t322 t323 (([(-1), a1, wrap64 (a1 + 1), 9223372036854775807, (-9223372036854775808)] : List Int))).bind fun bt327 => (some (bt327.1, bt327.2.1, bt327.2.2))) else ((spec_l01Below.f s0_0 t322 t323 a1).bind fun bt330 => (some (bt330.1, bt330.2.1, bt330.2.2)))) = some (r1, r2, r3) := H
 have A3 := Aside0.mk A30
 clear A30
 by_cases c4 : t321 = true
 ·subst c4
  have H1 : ((spec_l01PickInt.f s0_0 t322 t323 (([(-1), a1, wrap64 (a1 + 1), 9223372036854775807, (-9223372036854775808)] : List Int))).bind fun bt327 => (some (bt327.1, bt327.2.1, bt327.2.2))) = some (r1, r2, r3) := by rw [if_pos rfl] at H; exact H
  clear H
  have H := H1
  clear H1
  obtain ⟨y324, hy324⟩ : ∃ y_ : List Int, y_ = (([(-1), a1, wrap64 (a1 + 1), 9223372036854775807, (-9223372036854775808)] : List Int)) := ⟨_, rfl⟩
  replace H : ((spec_l01PickInt.f s0_0 t322 t323 y324).bind fun bt327 => (some (bt327.1, bt327.2.1, bt327.2.2))) = some (r1, r2, r3) := by first | (rw [hy324]; with_reducible exact H) | (have H2_ := (Option.bind_some _ _).symm.trans H; rw [hy324]; with_reducible exact H2_) | (have H2_ := (Option.bind_some _ _).symm.trans H; with_reducible exact H2_) | with_reducible exact H | (rw [hy324]; exact H) | exact H
  have Ny324 := Aside0.mk hy324
  clear hy324
  replace H := Option.bind_eq_some_iff.mp H
  obtain ⟨⟨t327, t328, t329⟩, A50, H⟩ := H
  replace H : (some (t327, t328, t329)) = some (r1, r2, r3) := H
  have A5 := Aside0.mk A50
  clear A50
  simp only [Option.some.injEq, Prod.mk.injEq] at H
  obtain ⟨rfl, rfl, rfl⟩ := H
  go_enter Try.func78, Try.ntmps78
  go_wp2_with (first | ((with_reducible refine gate_callee (f := 79) rfl ?_); refine gl (some 6) Try.func79 #[.pointer (some ⟨g, 0, none⟩), .int .i64 15] ?_; (with_reducible refine (spec_l01Once.calls g s0_0 s0_1 s0_2 15 true t322 t323 w0 _ ?side1 ?side2 A3.out).mono ?_); (case side1 => exact IsS92.T_ HI0 nN); (case side2 => exact lT HB gN); rintro e w6 ⟨rfl, hi, hb, hk⟩; refine ⟨_, rfl, ?_⟩; replace HK := ak (KeepBut.trans (kT HK gN) hk (.inl rfl)); replace HB := ak (hb); replace HI0 := ak (hi); (try clear hb); (try clear hk); (try clear hi)) | ((with_reducible refine gate_dst (N := 11) rfl ?_); refine Kd.R_lit (Kd.int .i64) _ 3 ?hg (N := 11) ?hd (xs := ([(-1), a1, wrap64 (a1 + 1), 9223372036854775807, (-9223372036854775808)] : List Int)) (inner := [.int .i64 (-1), .int .i64 a1, .int .i64 (wrap64 (a1 + 1)), .int .i64 9223372036854775807, .int .i64 (-9223372036854775808)]) (ok := fun _ => True) (okp := fun _ => True) ?hr ?hp (fun _ hk => hk) trivial (Below.refl _ _) (Nat.le_refl _) (by simp) ?_; (case hd => rfl); (case hg => rfl); (case hr => first | (go_simp; done) | (go_simp; rfl)); (case hp => exact (Reps.one (show Kd.M (Kd.int .i64) _ _ _ (-1) [.int .i64 (-1)] from rfl) (Reps.one (show Kd.M (Kd.int .i64) _ _ _ a1 [.int .i64 a1] from rfl) (Reps.one (show Kd.M (Kd.int .i64) _ _ _ (wrap64 (a1 + 1)) [.int .i64 (wrap64 (a1 + 1))] from rfl) (Reps.one (show Kd.M (Kd.int .i64) _ _ _ 9223372036854775807 [.int .i64 9223372036854775807] from rfl) (Reps.one (show Kd.M (Kd.int .i64) _ _ _ (-9223372036854775808) [.int .i64 (-9223372036854775808)] from rfl) (Reps.none _ _))))))); intro v325 w7 ho8 hb hg_ hnew_; clear hg_ hnew_; (first | rw [← Ny324.out] at ho8 | (simp only [Int.reduceToNat] at ho8; rw [← Ny324.out] at ho8)); replace HO326 := ak (Kd.R_lower ho8 (keep_size (w := w) (g := g) (row := none) (kT HK gN))); replace HK := ak (KeepBut.trans (kT HK gN) (KeepBut.of_below hb g none) (.inl rfl)); replace HB := ak (below_step (lT HB gN) hb); replace HI0 := ak (IsS92.below (IsS92.T_ HI0 nN) hb); clear hb ho8; obtain ⟨Ao9, co9, eo9⟩ := Kd.R_slice HO326.out; subst eo9) | ((with_reducible refine gate_callee (f := 83) rfl ?_); refine gl (some 12) Try.func83 #[.pointer (some ⟨g, 0, none⟩), .slice Ao9 y324.length co9] ?_; (with_reducible refine (spec_l01PickInt.calls g s0_0 t322 t323 _ _ y324 t327 t328 t329 w0 _ ?side1 ?side2 ?side3 ?side4 ?side5 A5.out).mono ?_); (case side1 => exact IsS92.T_ HI0 nN); (case side2 => exact lT HB gN); (case side3 => exact cG (Kd.R_reads' HO326.out).2.2); (case side4 => exact (Kd.R_reads' HO326.out).2.1); (case side5 => exact far_slice (IsS92.own_ne HI0.out HO326.out (by decide))); rintro e w10 ⟨rfl, hi, hb, hk⟩; refine ⟨_, rfl, ?_⟩; replace HO326 := ak (Kd.R_mono (Kd.R_keep (IsS92.apart (show IsS92 w0 _ g s0_0 t322 t323 from IsS92.T_ HI0 nN) (rG HO326) (by decide)) hk (fun _ h => h.2)) (fun _ h => h.1)); replace HK := ak (KeepBut.trans (kT HK gN) hk (.inl rfl)); replace HB := ak (hb); replace HI0 := ak (hi); (try clear hb); (try clear hk); (try clear hi)))
  go_ret
  exact ⟨ew, IsS92.T_ HI0 nN, lT HB gN, kT HK gN⟩
 ·replace c4 := Bool.eq_false_iff.mpr c4
  subst c4
  have H1 : ((spec_l01Below.f s0_0 t322 t323 a1).bind fun bt330 => (some (bt330.1, bt330.2.1, bt330.2.2))) = some (r1, r2, r3) := by rw [if_neg (show ¬ (false = true) by decide)] at H; exact H
  clear H
  have H := H1
  clear H1
  replace H := Option.bind_eq_some_iff.mp H
  obtain ⟨⟨t330, t331, t332⟩, A110, H⟩ := H
  replace H : (some (t330, t331, t332)) = some (r1, r2, r3) := H
  have A11 := Aside0.mk A110
  clear A110
  simp only [Option.some.injEq, Prod.mk.injEq] at H
  obtain ⟨rfl, rfl, rfl⟩ := H
  go_enter Try.func78, Try.ntmps78
  go_wp2_with (first | ((with_reducible refine gate_callee (f := 79) rfl ?_); refine gl (some 6) Try.func79 #[.pointer (some ⟨g, 0, none⟩), .int .i64 15] ?_; (with_reducible refine (spec_l01Once.calls g s0_0 s0_1 s0_2 15 false t322 t323 w0 _ ?side1 ?side2 A3.out).mono ?_); (case side1 => exact IsS92.T_ HI0 nN); (case side2 => exact lT HB gN); rintro e w12 ⟨rfl, hi, hb, hk⟩; refine ⟨_, rfl, ?_⟩; replace HK := ak (KeepBut.trans (kT HK gN) hk (.inl rfl)); replace HB := ak (hb); replace HI0 := ak (hi); (try clear hb); (try clear hk); (try clear hi)) | ((with_reducible refine gate_callee (f := 63) rfl ?_); refine gl (some 15) Try.func63 #[.pointer (some ⟨g, 0, none⟩), .int .i64 a1] ?_; (with_reducible refine (spec_l01Below.calls g s0_0 t322 t323 a1 t330 t331 t332 w0 _ ?side1 ?side2 A11.out).mono ?_); (case side1 => exact IsS92.T_ HI0 nN); (case side2 => exact lT HB gN); rintro e w13 ⟨rfl, hi, hb, hk⟩; refine ⟨_, rfl, ?_⟩; replace HK := ak (KeepBut.trans (kT HK gN) hk (.inl rfl)); replace HB := ak (hb); replace HI0 := ak (hi); (try clear hb); (try clear hk); (try clear hi)))
  go_ret
  exact ⟨ew, IsS92.T_ HI0 nN, lT HB gN, kT HK gN⟩

end Go.Proofs.Ytneffinmiffhpaa.PFnFramesTurned
