-- printed
import Derived.Test.YtagkjeldheiejaaPFnStatesToldx6
import Derived.Test.YtagkjeldheiejaaPFnStatesToldx22
import Derived.Test.YtagkjeldheiejaaVFnStatesTold1
namespace Go.Proofs.Ytagkjeldheiejaa.PFnStatesTold
open Go.RowKit YtagkjeldheiejaaW.PrintWords YtagkjeldheiejaaW.PrintLast YtagkjeldheiejaaW.PrintMore
set_option linter.unusedVariables false
set_option linter.unusedSimpArgs false
attribute [local go_sem] max2_int min2_int max_two min_two max_three min_three max_four min_four
set_option maxHeartbeats 8000000
set_option maxRecDepth 100000
mutual
def impl_StateOk.l0 : Nat → List (S66) → Int → Int → List (S66) → Option (Bool)
 | 0, _, _, _, _ => none
 | k + 1, a, b, c, d => if c < b then (if 0 ≤ c then (if c < (a.length : Int) then ((impl_in.f ((rd_T66 a c).f0) 1 9999).bind fun t668 => (if t668 = true then ((impl_WordOk.f k ((rd_T66 a c).f1)).bind fun t669 => (if t669 = true then ((impl_WordOk.f k ((rd_T66 a c).f2)).bind fun t670 => (if t670 = true then ((impl_in.f ((rd_T66 a c).f3) 1 10000).bind fun t671 => (if t671 = true then (if c > 0 then (if 0 ≤ (wrap64 (c - 1)) then (if (wrap64 (c - 1)) < (d.length : Int) then (impl_StateOk.j1 k c a b c (decide (((rd_T66 d (wrap64 (c - 1))).f0) ≥ ((rd_T66 a c).f0))) d ((rd_T66 a c).f0) ((rd_T66 a c).f1) ((rd_T66 a c).f2) ((rd_T66 a c).f3) ((rd_T66 a c).f4)) else (none)) else (none)) else (impl_StateOk.j1 k c a b c false d ((rd_T66 a c).f0) ((rd_T66 a c).f1) ((rd_T66 a c).f2) ((rd_T66 a c).f3) ((rd_T66 a c).f4))) else (impl_StateOk.j1 k c a b c true d ((rd_T66 a c).f0) ((rd_T66 a c).f1) ((rd_T66 a c).f2) ((rd_T66 a c).f3) ((rd_T66 a c).f4)))) else (impl_StateOk.j1 k c a b c true d ((rd_T66 a c).f0) ((rd_T66 a c).f1) ((rd_T66 a c).f2) ((rd_T66 a c).f3) ((rd_T66 a c).f4)))) else (impl_StateOk.j1 k c a b c true d ((rd_T66 a c).f0) ((rd_T66 a c).f1) ((rd_T66 a c).f2) ((rd_T66 a c).f3) ((rd_T66 a c).f4)))) else (impl_StateOk.j1 k c a b c true d ((rd_T66 a c).f0) ((rd_T66 a c).f1) ((rd_T66 a c).f2) ((rd_T66 a c).f3) ((rd_T66 a c).f4)))) else (none)) else (none)) else (some true)
def impl_StateOk.j1 : Nat → Int → List (S66) → Int → Int → Bool → List (S66) → Int → ByteArray → ByteArray → Int → List (S68) → Option (Bool)
 | 0, _, _, _, _, _, _, _, _, _, _, _ => none
 | k + 1, a, b, c, d, e, g, h, i, j, l, m => if e = true then (some false) else (if 0 ≤ a then (if a ≤ (g.length : Int) then ((impl_anyBox.f (g.take (a : Int).toNat) i j).bind fun t677 => (if t677 = true then (some false) else (impl_StateOk.l1 k b c d m (m.length : Int) 0 g h i j l m))) else (none)) else (none))
def impl_StateOk.l1 : Nat → List (S66) → Int → Int → List (S68) → Int → Int → List (S66) → Int → ByteArray → ByteArray → Int → List (S68) → Option (Bool)
 | 0, _, _, _, _, _, _, _, _, _, _, _, _ => none
 | k + 1, a, b, c, d, e, g, h, i, j, l, m, n => if g < e then (if 0 ≤ g then (if g < (d.length : Int) then ((impl_in.f ((rd_T68 d g).f0) 1 (wrap64 (m - 1))).bind fun t680 => (if t680 = true then ((impl_in.f ((rd_T68 d g).f1) 0 7).bind fun t681 => (if t681 = true then (if (((rd_T68 d g).f2).size : Int) > 100 then (impl_StateOk.j3 k a b c d e g true h i j l m n) else (if g > 0 then (if 0 ≤ (wrap64 (g - 1)) then (if (wrap64 (g - 1)) < (n.length : Int) then (impl_StateOk.j3 k a b c d e g (decide (((rd_T68 n (wrap64 (g - 1))).f0) ≥ ((rd_T68 d g).f0))) h i j l m n) else (none)) else (none)) else (impl_StateOk.j3 k a b c d e g false h i j l m n))) else (impl_StateOk.j3 k a b c d e g true h i j l m n))) else (impl_StateOk.j3 k a b c d e g true h i j l m n))) else (none)) else (none)) else (impl_StateOk.l0 k a b (wrap64 (c + 1)) h)
def impl_StateOk.j3 : Nat → List (S66) → Int → Int → List (S68) → Int → Int → Bool → List (S66) → Int → ByteArray → ByteArray → Int → List (S68) → Option (Bool)
 | 0, _, _, _, _, _, _, _, _, _, _, _, _, _ => none
 | k + 1, a, b, c, d, e, f, g, h, i, j, l, m, n => if g = true then (some false) else (impl_StateOk.l1 k a b c d e (wrap64 (f + 1)) h i j l m n)
end
def impl_StateOk.f (k : Nat) (l0_0 : List (S66)) : Option (Bool) := impl_StateOk.l0 k l0_0 (l0_0.length : Int) 0 l0_0
theorem impl_StateOk.mono_l : ∀ k, (∀ y0 y1 y2 y3, LeO (impl_StateOk.l0 k y0 y1 y2 y3) (impl_StateOk.l0 (k + 1) y0 y1 y2 y3)) ∧ (∀ y0 y1 y2 y3 y4 y5 y6 y7 y8 y9 y10, LeO (impl_StateOk.j1 k y0 y1 y2 y3 y4 y5 y6 y7 y8 y9 y10) (impl_StateOk.j1 (k + 1) y0 y1 y2 y3 y4 y5 y6 y7 y8 y9 y10)) ∧ (∀ y0 y1 y2 y3 y4 y5 y6 y7 y8 y9 y10 y11, LeO (impl_StateOk.l1 k y0 y1 y2 y3 y4 y5 y6 y7 y8 y9 y10 y11) (impl_StateOk.l1 (k + 1) y0 y1 y2 y3 y4 y5 y6 y7 y8 y9 y10 y11)) ∧ (∀ y0 y1 y2 y3 y4 y5 y6 y7 y8 y9 y10 y11 y12, LeO (impl_StateOk.j3 k y0 y1 y2 y3 y4 y5 y6 y7 y8 y9 y10 y11 y12) (impl_StateOk.j3 (k + 1) y0 y1 y2 y3 y4 y5 y6 y7 y8 y9 y10 y11 y12))
 | 0 => ⟨fun _ _ _ _ r h => by simp [impl_StateOk.l0] at h, fun _ _ _ _ _ _ _ _ _ _ _ r h => by simp [impl_StateOk.j1] at h, fun _ _ _ _ _ _ _ _ _ _ _ _ r h => by simp [impl_StateOk.l1] at h, fun _ _ _ _ _ _ _ _ _ _ _ _ _ r h => by simp [impl_StateOk.j3] at h⟩
 | k + 1 => by
  obtain ⟨ih0, ih1, ih2, ih3⟩ := impl_StateOk.mono_l k
  refine ⟨?_, ?_, ?_, ?_⟩
  intro y0 y1 y2 y3;unfold impl_StateOk.l0;rotate_left
  intro y0 y1 y2 y3 y4 y5 y6 y7 y8 y9 y10;unfold impl_StateOk.j1;rotate_left
  intro y0 y1 y2 y3 y4 y5 y6 y7 y8 y9 y10 y11;unfold impl_StateOk.l1;rotate_left
  intro y0 y1 y2 y3 y4 y5 y6 y7 y8 y9 y10 y11 y12;unfold impl_StateOk.j3;rotate_left
  all_goals repeat' with_reducible first | exact ih0 _ _ _ _ | exact ih1 _ _ _ _ _ _ _ _ _ _ _ | exact ih2 _ _ _ _ _ _ _ _ _ _ _ _ | exact ih3 _ _ _ _ _ _ _ _ _ _ _ _ _ | exact impl_WordOk.mono _ _ | exact LeO.refl _ | exact LeO.none _ | refine LeO.ite ?_ ?_ | refine LeO.bind ?_ (fun _ => ?_)
theorem impl_StateOk.mono : ∀ a0 k, LeO (impl_StateOk.f k a0) (impl_StateOk.f (k + 1) a0) := by
 intro a0 k
 obtain ⟨ih0, ih1, ih2, ih3⟩ := impl_StateOk.mono_l k
 unfold impl_StateOk.f
 repeat' with_reducible first | exact ih0 _ _ _ _ | exact ih1 _ _ _ _ _ _ _ _ _ _ _ | exact ih2 _ _ _ _ _ _ _ _ _ _ _ _ | exact ih3 _ _ _ _ _ _ _ _ _ _ _ _ _ | exact impl_WordOk.mono _ _ | exact LeO.refl _ | exact LeO.none _ | refine LeO.ite ?_ ?_ | refine LeO.bind ?_ (fun _ => ?_)
def impl_StateOk.T4 : Bool × List (List Nat × List Nat) := (true, [([], []), ([0], [0]), ([1], [1]), ([2], [2]), ([3, 2], [3]), ([4], [4]), ([5, 4], [4, 5]), ([6, 4, 4], [4, 6]), ([7, 4], [4, 7]), ([4, 8], [4, 8]), ([9, 7], [9]), ([10], [10]), ([11, 10], [10, 11]), ([12, 10, 10], [10, 12]), ([13, 10], [10, 13]), ([10, 14], [10, 14]), ([15, 13], [15]), ([16], [16]), ([17, 16], [16, 17]), ([18, 16, 16], [16, 18]), ([19, 16], [16, 19]), ([16, 20], [16, 20]), ([21, 19], [21]), ([22], [22]), ([23, 22], [22, 23]), ([24, 22, 22], [22, 24]), ([25], [25]), ([26, 25], [25, 26]), ([25], [25]), ([28, 25], [25, 28]), ([27, 29, 25], [25, 27, 29]), ([30, 25], [25, 30]), ([31, 25], [25, 31]), ([25], [25]), ([33, 25], [25, 33]), ([32, 34, 25], [25, 32, 34]), ([25, 35, 22], [22, 25, 35]), ([22, 36], [22, 36])])
def impl_StateOk.B4 : List Nat := [0, 1, 3, 7, 15, 31, 63, 127, 255, 511, 1023, 2047, 4095, 8191, 16383, 32767, 65535, 131071, 262143, 524287, 1048575, 2097151, 4194303, 8388607, 16777215, 33554431, 67108863, 134217727, 67108863, 335544319, 1073741823, 2147483647, 4294967295, 67108863, 8657043455, 34359738367, 68719476735, 137438953471]
theorem impl_StateOk.tab4 : rtab .any (opsOf Try.f51 4) = impl_StateOk.T4 := by kernel_rfl
theorem impl_StateOk.bits4 : waitsOk impl_StateOk.T4.2 impl_StateOk.B4 = true := by kernel_rfl
def impl_StateOk.T11 : Bool × List (List Nat × List Nat) := (true, [([], []), ([0], [0]), ([], []), ([2], [2]), ([3], [3]), ([1, 4], [1, 4]), ([5], [5]), ([6, 5], [6]), ([7], [7]), ([8, 7], [7, 8]), ([9, 7, 7], [7, 9]), ([10, 7], [7, 10]), ([7, 11], [7, 11]), ([12, 10], [12]), ([13], [13]), ([14, 13], [13, 14]), ([15, 13], [13, 15]), ([16, 13], [13, 16]), ([13, 17], [13, 17]), ([18, 13], [18]), ([19], [19]), ([20, 19], [19, 20]), ([21, 19, 19], [19, 21]), ([22], [22]), ([23, 22], [22, 23]), ([22], [22]), ([25, 22], [22, 25]), ([24, 26, 22], [22, 24, 26]), ([27, 22], [22, 27]), ([28, 22], [22, 28]), ([22], [22]), ([30, 22], [22, 30]), ([29, 31, 22], [22, 29, 31]), ([22, 32, 19], [19, 22, 32]), ([19, 33], [19, 33])])
def impl_StateOk.B11 : List Nat := [0, 1, 0, 4, 12, 31, 63, 127, 255, 511, 1023, 2047, 4095, 8191, 16383, 32767, 65535, 131071, 262143, 524287, 1048575, 2097151, 4194303, 8388607, 16777215, 8388607, 41943039, 134217727, 268435455, 536870911, 8388607, 1082130431, 4294967295, 8589934591, 17179869183]
theorem impl_StateOk.tab11 : rtab .any (opsOf Try.f51 11) = impl_StateOk.T11 := by kernel_rfl
theorem impl_StateOk.bits11 : waitsOk impl_StateOk.T11.2 impl_StateOk.B11 = true := by kernel_rfl
theorem impl_StateOk.calls (k : Nat) (A0_0 : Option Addr) (c0_0 : Nat) (l0_0 : List (S66)) (r : Bool) (w : World) (hr0_0 : Kd.C k66 w A0_0 l0_0.length l0_0) (hc0_0 : l0_0.length ≤ c0_0) (h : impl_StateOk.f k l0_0 = some r) :
  Calls Try.prog 51 #[.agg #[.slice A0_0 l0_0.length c0_0]] w fun e w' => e = .returned (.bool r) ∧ Below w.heap.size w w' := by
 have hu60 := Try.underlying60
 have hu66 := Try.underlying66
 have hmf : ∀ (fn : Fn) (first cap : Array Value) (w : World), (Instr.makeFunc fn first cap).run Try.prog w = .ok (.func fn first cap) w := fun _ _ _ _ => rfl
 have hu68 := Try.underlying68
 have HR0_0 := Aside0.mk hr0_0
 have HC0_0 := Aside0.mk hc0_0
 clear hr0_0 hc0_0
 have HB := ak (Below.refl w.heap.size w)
 have H := h
 clear h
 unfold impl_StateOk.f at H
 have H' := Aside0.mk H
 clear H
 go_enter Try.func51, Try.ntmps51
 go_wp2_with ((with_reducible refine gate_dst (N := 1) rfl ?_); (try (refine gate_guard (by rfl) ?_; dsimp only)); refine bx 1 #[.slice A0_0 l0_0.length c0_0] 60 ?_; intro gb665 hg w2 hbox hb; replace BK665 := ak (hbox); replace GE665 := ak (bz hg (lG HB)); replace HB := lB HB hb; clear hb hbox hg; obtain ⟨hcz3_0, hfz3_0⟩ := bC1 BK665)
 go_loopg [10] k (fun kq v10 w' => ∃ (x10_1 : Int), v10 = .int .i64 x10_1 ∧ Aside0 (impl_StateOk.l0 kq l0_0 (l0_0.length : Int) x10_1 l0_0 = some r) ∧ Aside0 (kq ≤ k) ∧ Aside0 (w'.heap[gb665]? = some (.cells #[(.slice A0_0 l0_0.length c0_0)] 60 (0, 0))) ∧ Aside0 (Below w.heap.size w w'))
 case atStart => exact ⟨_, rr, H', ⟨Nat.le_refl _⟩, ⟨bG BK665⟩, ⟨by exact lT HB (gC GE665 gN)⟩⟩
 case round =>
  skip;{
 clear H'
 try clear hcz3_0 hfz3_0
 obtain ⟨x10_1, rfl, HA, HK1, BK665, HB⟩ := hrel
 cases gk with
 | zero => exact absurd HA.out (by simp [impl_StateOk.l0])
 | succ k1 =>
  skip;{
 have H := HA.out
 clear HA
 simp only [impl_StateOk.l0] at H
 by_cases c4 : x10_1 < (l0_0.length : Int)
 {
 rw [if_pos c4] at H
 have c4b0 := decide_eq_true c4
 clear c4
 by_cases c5 : 0 ≤ x10_1
 {
 rw [if_pos c5] at H
 have c5b0 := decide_eq_true c5
 clear c5
 by_cases c6 : x10_1 < (l0_0.length : Int)
 {
 rw [if_pos c6] at H
 have c6b0 := decide_eq_true c6
 clear c6
 have HC7 := Aside0.mk H
 clear H
 have p666 : 0 ≤ (x10_1 : Int) := oda
 have q666 : x10_1 < (l0_0.length : Int) := oda
 obtain ⟨ad666, A666_4, c666_4, e666, hx666_0, hx666_1, hx666_2, hx666_3, hx666_4, hl666_4, hi666_4⟩ := at_T66 HR0_0.out x10_1 p666 q666
 cases e666
 replace hx666_0 := clB HB hx666_0
 replace hx666_1 := clB HB hx666_1
 replace hx666_2 := clB HB hx666_2
 replace hx666_3 := clB HB hx666_3
 replace hx666_4 := clB HB hx666_4
 have HR666_4 := Aside0.mk hi666_4
 have HC666_4 := Aside0.mk hl666_4
 clear hi666_4 hl666_4
 replace p666 := eq_true p666
 replace q666 := eq_true q666
 go_upto_region 4 with ((with_reducible refine gate_dst (N := 4) rfl ?_); (try (refine gate_guard (by rfl) ?_; dsimp only)); refine bx 4 #[.int .i64 0, .string (⟨#[]⟩ : ByteArray), .string (⟨#[]⟩ : ByteArray), .int .i64 0, .slice none 0 0] 66 ?_; intro gb667 hg w8 hbox hb; replace BK667 := ak (hbox); replace GW667 := ak (bz hg (lT HB (gC GE665 gN))); replace GE667 := ak (bz hg (lT HB (gC GE665 gN))); replace HB := ak (below_step (lT HB (gC GE665 gN)) hb); replace NB665_667 := ak (nl hg (bG BK665)); replace NB667_665 := ak (ng hg (bG BK665)); replace BK665 := bB BK665 hb; clear hb hbox hg; have hnb9 := NB667_665.out; have hnc9 := NB665_667.out; obtain ⟨_, _, _, _, _, _, _, _, _, _⟩ := bC5 BK667)
 (try simp only [Act.put, List.setIfInBounds_toArray, List.set_cons_zero, List.set_cons_succ])
 go_cut [52] (fun v52 wc => ∃ (kq : Nat) (x52_6 : Bool), v52 = .bool x52_6 ∧ Aside0 (impl_StateOk.j1 kq x10_1 l0_0 (l0_0.length : Int) x10_1 x52_6 l0_0 ((rd_T66 l0_0 x10_1).f0) ((rd_T66 l0_0 x10_1).f1) ((rd_T66 l0_0 x10_1).f2) ((rd_T66 l0_0 x10_1).f3) ((rd_T66 l0_0 x10_1).f4) = some r) ∧ Aside0 (kq ≤ k1) ∧ Aside0 (wc.heap[gb665]? = some (.cells #[(.slice (some ad666) l0_0.length c0_0)] 60 (0, 0))) ∧ Aside0 (wc.heap[gb667]? = some (.cells #[.int .i64 ((rd_T66 l0_0 x10_1).f0), .string ((rd_T66 l0_0 x10_1).f1), .string ((rd_T66 l0_0 x10_1).f2), .int .i64 ((rd_T66 l0_0 x10_1).f3), (.slice A666_4 ((rd_T66 l0_0 x10_1).f4).length c666_4)] 66 (0, 0))) ∧ Aside0 (Below w.heap.size w wc))
 case first =>
  skip;{
 have H := HC7.out
 clear HC7
 obtain ⟨t668, A11, H⟩ := eb H
 try dsimp only at H
 by_cases c12 : t668 = true
 {
 subst c12
 rw [if_pos rfl] at H
 obtain ⟨t669, A13, H⟩ := eb H
 try dsimp only at H
 by_cases c14 : t669 = true
 {
 subst c14
 rw [if_pos rfl] at H
 obtain ⟨t670, A15, H⟩ := eb H
 try dsimp only at H
 by_cases c16 : t670 = true
 {
 subst c16
 rw [if_pos rfl] at H
 obtain ⟨t671, A17, H⟩ := eb H
 try dsimp only at H
 by_cases c18 : t671 = true
 {
 subst c18
 rw [if_pos rfl] at H
 by_cases c19 : x10_1 > 0
 {
 rw [if_pos c19] at H
 have c19b0 : decide (0 < x10_1) = true := decide_eq_true c19
 clear c19
 (first | rw [c19b0] | (simp only [i64_w, i32_w]; rw [c19b0]) | skip)
 obtain ⟨ji20, hji20⟩ : ∃ j_ : Int, (wrap64 (x10_1 - 1)) = j_ := ⟨_, rfl⟩
 replace H : (if 0 ≤ (ji20) then (if (ji20) < (l0_0.length : Int) then (impl_StateOk.j1 k1 x10_1 l0_0 (l0_0.length : Int) x10_1 (decide (((rd_T66 l0_0 (ji20)).f0) ≥ ((rd_T66 l0_0 x10_1).f0))) l0_0 ((rd_T66 l0_0 x10_1).f0) ((rd_T66 l0_0 x10_1).f1) ((rd_T66 l0_0 x10_1).f2) ((rd_T66 l0_0 x10_1).f3) ((rd_T66 l0_0 x10_1).f4)) else (none)) else (none)) = some r := by first | (rw [hji20] at H; exact H) | (simp only [hji20] at H ⊢; exact H)
 (try rw [hji20] at A11)
 (try rw [hji20] at A13)
 (try rw [hji20] at A15)
 (try rw [hji20] at A17)
 have hji20w : (IntKind.i64.wrap (x10_1 - 1)) = ji20 := (i64_w _).trans hji20
 by_cases c21 : 0 ≤ (ji20)
 {
 rw [if_pos c21] at H
 have c21b0 := decide_eq_true c21
 clear c21
 by_cases c22 : (ji20) < (l0_0.length : Int)
 {
 rw [if_pos c22] at H
 have c22b0 := decide_eq_true c22
 clear c22
 have H' := Aside0.mk H
 clear H
 try go_wp2
 obtain ⟨w23, eW_⟩ : ∃ w_, w_ = (((((w8.setCell ⟨gb667, 0, none⟩ (.int .i64 ((rd_T66 l0_0 x10_1).f0))).setCell ⟨gb667, 1, none⟩ (.string ((rd_T66 l0_0 x10_1).f1))).setCell ⟨gb667, 2, none⟩ (.string ((rd_T66 l0_0 x10_1).f2))).setCell ⟨gb667, 3, none⟩ (.int .i64 ((rd_T66 l0_0 x10_1).f3))).setCell ⟨gb667, 4, none⟩ (.slice A666_4 ((rd_T66 l0_0 x10_1).f4).length c666_4)) := ⟨_, rfl⟩
 have n0_ : Aside0 (w23.heap[gb665]? = some (.cells #[.slice (some ad666) l0_0.length c0_0] 60 (0, 0))) := by rw [eW_]; exact ⟨bF BK665 (nC NB665_667 nN)⟩
 have n1_ : Aside0 (w23.heap[gb667]? = some (.cells #[.int .i64 ((rd_T66 l0_0 x10_1).f0), .string ((rd_T66 l0_0 x10_1).f1), .string ((rd_T66 l0_0 x10_1).f2), .int .i64 ((rd_T66 l0_0 x10_1).f3), .slice A666_4 ((rd_T66 l0_0 x10_1).f4).length c666_4] 66 (0, 0))) := by rw [eW_]; exact ⟨bW BK667⟩
 have n2_ : Aside0 (Below w.heap.size w w23) := by rw [eW_]; exact ⟨by exact lT HB (gC GE665 (gC GE667 gN))⟩
 try clear BK665 BK667 HB
 rw [← eW_];clear eW_
 have BK665 := n0_
 have BK667 := n1_
 have HB := n2_
 clear n0_ n1_ n2_
 replace BK665 := ak (blk_drew BK665.out)
 replace BK667 := ak (blk_drew BK667.out)
 replace HB := ak (below_drew1 HB.out)
 have p672 : 0 ≤ ((ji20) : Int) := oda
 have q672 : (ji20) < (l0_0.length : Int) := oda
 obtain ⟨ad672, A672_4, c672_4, e672, hx672_0, hx672_1, hx672_2, hx672_3, hx672_4, hl672_4, hi672_4⟩ := at_T66 HR0_0.out (ji20) p672 q672
 have hw672_4 := hx672_4
 have hw672_3 := hx672_3
 have hw672_2 := hx672_2
 have hw672_1 := hx672_1
 have hw672_0 := hx672_0
 obtain rfl : ad666 = ad672 := (by injection e672)
 replace hx672_0 := clB HB hx672_0
 replace hx672_1 := clB HB hx672_1
 replace hx672_2 := clB HB hx672_2
 replace hx672_3 := clB HB hx672_3
 replace hx672_4 := clB HB hx672_4
 have HR672_4 := Aside0.mk hi672_4
 have HC672_4 := Aside0.mk hl672_4
 clear hi672_4 hl672_4
 replace p672 := eq_true p672
 replace q672 := eq_true q672
 refine start_ (n := 38) (S := fun w' => w'.cell? ⟨gb667, 0, none⟩ = some (.int .i64 ((rd_T66 l0_0 x10_1).f0)) ∧ w'.cell? ⟨gb667, 1, none⟩ = some (.string ((rd_T66 l0_0 x10_1).f1)) ∧ w'.cell? ⟨gb667, 2, none⟩ = some (.string ((rd_T66 l0_0 x10_1).f2)) ∧ w'.cell? ⟨gb667, 3, none⟩ = some (.int .i64 ((rd_T66 l0_0 x10_1).f3)) ∧ w'.cell? ⟨gb667, 4, none⟩ = some (.slice A666_4 ((rd_T66 l0_0 x10_1).f4).length c666_4) ∧ w'.cell? ⟨gb665, 0, none⟩ = some (.slice (some ad666) l0_0.length c0_0) ∧ w'.cell? (ad666.add (((ji20)).toNat * 5)) = some (.int .i64 ((rd_T66 l0_0 (ji20)).f0)) ∧ w'.cell? ⟨(ad666.add (((ji20)).toNat * 5)).block, (ad666.add (((ji20)).toNat * 5)).off + 1, none⟩ = some (.string ((rd_T66 l0_0 (ji20)).f1)) ∧ w'.cell? ⟨(ad666.add (((ji20)).toNat * 5)).block, (ad666.add (((ji20)).toNat * 5)).off + 2, none⟩ = some (.string ((rd_T66 l0_0 (ji20)).f2)) ∧ w'.cell? ⟨(ad666.add (((ji20)).toNat * 5)).block, (ad666.add (((ji20)).toNat * 5)).off + 3, none⟩ = some (.int .i64 ((rd_T66 l0_0 (ji20)).f3)) ∧ w'.cell? ⟨(ad666.add (((ji20)).toNat * 5)).block, (ad666.add (((ji20)).toNat * 5)).off + 4, none⟩ = some (.slice A672_4 ((rd_T66 l0_0 (ji20)).f4).length c672_4)) (ds := []) (fb 38 0) (by kernel_rfl) rfl rfl ⟨bc BK667 0, bc BK667 1, bc BK667 2, bc BK667 3, bc BK667 4, bc BK665 0, (clB HB hw672_0 :), (clB HB hw672_1 :), (clB HB hw672_2 :), (clB HB hw672_3 :), (clB HB hw672_4 :)⟩ (fun hHeld => ?_); refine with_tabW impl_StateOk.tab4 impl_StateOk.bits4 (fun HT_ HW_ => ?_)
 generalize w23.drew = w24 at BK665 BK667 HB HR672_4 hx672_0 hx672_1 hx672_2 hx672_3 hx672_4 hHeld ⊢
 refine pu 0 15 (fb 38 1) HT_ ?_
 refine tk 1 16 (fb 38 3) HT_ HW_ hHeld ?_
 refine on 2 (some 17) (fb 38 7) HT_ (fun K hK => ?_)
 refine gs Try.func63 #[.int .i64 ((rd_T66 l0_0 x10_1).f0), .int .i64 1, .int .i64 9999] ?_
 with_reducible refine (impl_in.calls ((rd_T66 l0_0 x10_1).f0) 1 9999 _ _ A11.out).mono ?_
 rintro e w' ⟨rfl, ⟨nd, rfl⟩⟩
 refine ⟨_, rfl, ?_⟩
 refine hK.out _ _ ⟨bc BK667 0, bc BK667 1, bc BK667 2, bc BK667 3, bc BK667 4, bc BK665 0, (clB HB hw672_0 :), (clB HB hw672_1 :), (clB HB hw672_2 :), (clB HB hw672_3 :), (clB HB hw672_4 :)⟩ (fun hHeld => ?_)
 clear hK K
 refine nm ?_
 refine pu 3 18 (fb 38 15) HT_ ?_
 refine pu 4 19 (fb 38 31) HT_ ?_
 refine pu 5 20 (fb 38 63) HT_ ?_
 refine tk 6 21 (fb 38 127) HT_ HW_ hHeld ?_
 refine on 7 (some 22) (fb 38 255) HT_ (fun K hK => ?_)
 refine gs Try.func31 #[.string ((rd_T66 l0_0 x10_1).f1)] ?_
 with_reducible refine (impl_WordOk.calls k1 ((rd_T66 l0_0 x10_1).f1) _ _ A13.out).mono ?_
 rintro e w' ⟨rfl, ⟨nd, rfl⟩⟩
 refine ⟨_, rfl, ?_⟩
 refine hK.out _ _ ⟨bc BK667 0, bc BK667 1, bc BK667 2, bc BK667 3, bc BK667 4, bc BK665 0, (clB HB hw672_0 :), (clB HB hw672_1 :), (clB HB hw672_2 :), (clB HB hw672_3 :), (clB HB hw672_4 :)⟩ (fun hHeld => ?_)
 clear hK K
 refine nm ?_
 refine pu 8 23 (fb 38 511) HT_ ?_
 refine pu 9 24 (fb 38 1023) HT_ ?_
 refine pu 10 25 (fb 38 2047) HT_ ?_
 refine pu 11 26 (fb 38 4095) HT_ ?_
 refine tk 12 27 (fb 38 8191) HT_ HW_ hHeld ?_
 refine on 13 (some 28) (fb 38 16383) HT_ (fun K hK => ?_)
 refine gs Try.func31 #[.string ((rd_T66 l0_0 x10_1).f2)] ?_
 with_reducible refine (impl_WordOk.calls k1 ((rd_T66 l0_0 x10_1).f2) _ _ A15.out).mono ?_
 rintro e w' ⟨rfl, ⟨nd, rfl⟩⟩
 refine ⟨_, rfl, ?_⟩
 refine hK.out _ _ ⟨bc BK667 0, bc BK667 1, bc BK667 2, bc BK667 3, bc BK667 4, bc BK665 0, (clB HB hw672_0 :), (clB HB hw672_1 :), (clB HB hw672_2 :), (clB HB hw672_3 :), (clB HB hw672_4 :)⟩ (fun hHeld => ?_)
 clear hK K
 refine nm ?_
 refine pu 14 29 (fb 38 32767) HT_ ?_
 refine pu 15 30 (fb 38 65535) HT_ ?_
 refine pu 16 31 (fb 38 131071) HT_ ?_
 refine pu 17 32 (fb 38 262143) HT_ ?_
 refine tk 18 33 (fb 38 524287) HT_ HW_ hHeld ?_
 refine on 19 (some 34) (fb 38 1048575) HT_ (fun K hK => ?_)
 refine gs Try.func63 #[.int .i64 ((rd_T66 l0_0 x10_1).f3), .int .i64 1, .int .i64 10000] ?_
 with_reducible refine (impl_in.calls ((rd_T66 l0_0 x10_1).f3) 1 10000 _ _ A17.out).mono ?_
 rintro e w' ⟨rfl, ⟨nd, rfl⟩⟩
 refine ⟨_, rfl, ?_⟩
 refine hK.out _ _ ⟨bc BK667 0, bc BK667 1, bc BK667 2, bc BK667 3, bc BK667 4, bc BK665 0, (clB HB hw672_0 :), (clB HB hw672_1 :), (clB HB hw672_2 :), (clB HB hw672_3 :), (clB HB hw672_4 :)⟩ (fun hHeld => ?_)
 clear hK K
 refine nm ?_
 refine pu 20 35 (fb 38 2097151) HT_ ?_
 refine pu 21 36 (fb 38 4194303) HT_ ?_
 refine pu 22 37 (fb 38 8388607) HT_ ?_
 refine pu 23 38 (fb 38 16777215) HT_ ?_
 refine pu 24 39 (fb 38 33554431) HT_ ?_
 refine pu 25 40 (fb 38 67108863) HT_ ?_
 refine pu 26 41 (fb 38 134217727) HT_ ?_
 refine pu 28 43 (fb 38 402653183) HT_ ?_
 refine pu 29 44 (fb 38 939524095) HT_ ?_
 refine pu 33 48 (fb 38 9529458687) HT_ ?_
 refine tk 27 42 (fb 38 9663676415) HT_ HW_ hHeld ?_
 refine pu 30 45 (fb 38 10737418239) HT_ ?_
 refine pu 31 46 (fb 38 12884901887) HT_ ?_
 refine tk 32 47 (fb 38 17179869183) HT_ HW_ hHeld ?_
 refine tk 34 49 (fb 38 34359738367) HT_ HW_ hHeld ?_
 refine pu 35 50 (fb 38 68719476735) HT_ ?_
 refine pu 36 51 (fb 38 137438953471) HT_ ?_
 refine pu 37 52 (fb 38 274877906943) HT_ ?_
 refine done_ (done_of HT_.out (by kernel_rfl)) ?_
 try go_wp2
 go_meet
 case rel => exact ⟨_, (decide (((rd_T66 l0_0 (ji20)).f0) ≥ ((rd_T66 l0_0 x10_1).f0))), (by first | rfl | (simp; done) | (simp only [← hji20] <;> (first | rfl | simp)) | (simp [*]; done)), H', ⟨by have := HK1.out; first | omega | exact Nat.le_refl _⟩, ⟨bG BK665⟩, ⟨bG BK667⟩, ⟨by exact lT HB (gC GE665 (gC GE667 gN))⟩⟩
 }
 {rw [if_neg c22] at H;exact absurd H (by simp)}
 }
 {rw [if_neg c21] at H;exact absurd H (by simp)}
 }
 {
 rw [if_neg c19] at H
 have c19b0 : decide (0 < x10_1) = false := decide_eq_false c19
 clear c19
 (first | rw [c19b0] | (simp only [i64_w, i32_w]; rw [c19b0]) | skip)
 have H' := Aside0.mk H
 clear H
 try go_wp2
 obtain ⟨w25, eW_⟩ : ∃ w_, w_ = (((((w8.setCell ⟨gb667, 0, none⟩ (.int .i64 ((rd_T66 l0_0 x10_1).f0))).setCell ⟨gb667, 1, none⟩ (.string ((rd_T66 l0_0 x10_1).f1))).setCell ⟨gb667, 2, none⟩ (.string ((rd_T66 l0_0 x10_1).f2))).setCell ⟨gb667, 3, none⟩ (.int .i64 ((rd_T66 l0_0 x10_1).f3))).setCell ⟨gb667, 4, none⟩ (.slice A666_4 ((rd_T66 l0_0 x10_1).f4).length c666_4)) := ⟨_, rfl⟩
 have n0_ : Aside0 (w25.heap[gb665]? = some (.cells #[.slice (some ad666) l0_0.length c0_0] 60 (0, 0))) := by rw [eW_]; exact ⟨bF BK665 (nC NB665_667 nN)⟩
 have n1_ : Aside0 (w25.heap[gb667]? = some (.cells #[.int .i64 ((rd_T66 l0_0 x10_1).f0), .string ((rd_T66 l0_0 x10_1).f1), .string ((rd_T66 l0_0 x10_1).f2), .int .i64 ((rd_T66 l0_0 x10_1).f3), .slice A666_4 ((rd_T66 l0_0 x10_1).f4).length c666_4] 66 (0, 0))) := by rw [eW_]; exact ⟨bW BK667⟩
 have n2_ : Aside0 (Below w.heap.size w w25) := by rw [eW_]; exact ⟨by exact lT HB (gC GE665 (gC GE667 gN))⟩
 try clear BK665 BK667 HB
 rw [← eW_];clear eW_
 have BK665 := n0_
 have BK667 := n1_
 have HB := n2_
 clear n0_ n1_ n2_
 replace BK665 := ak (blk_drew BK665.out)
 replace BK667 := ak (blk_drew BK667.out)
 replace HB := ak (below_drew1 HB.out)
 refine start_ (n := 38) (S := fun w' => w'.cell? ⟨gb667, 0, none⟩ = some (.int .i64 ((rd_T66 l0_0 x10_1).f0)) ∧ w'.cell? ⟨gb667, 1, none⟩ = some (.string ((rd_T66 l0_0 x10_1).f1)) ∧ w'.cell? ⟨gb667, 2, none⟩ = some (.string ((rd_T66 l0_0 x10_1).f2)) ∧ w'.cell? ⟨gb667, 3, none⟩ = some (.int .i64 ((rd_T66 l0_0 x10_1).f3)) ∧ w'.cell? ⟨gb667, 4, none⟩ = some (.slice A666_4 ((rd_T66 l0_0 x10_1).f4).length c666_4)) (ds := []) (fb 38 0) (by kernel_rfl) rfl rfl ⟨bc BK667 0, bc BK667 1, bc BK667 2, bc BK667 3, bc BK667 4⟩ (fun hHeld => ?_); refine with_tabW impl_StateOk.tab4 impl_StateOk.bits4 (fun HT_ HW_ => ?_)
 generalize w25.drew = w26 at BK665 BK667 HB hHeld ⊢
 refine pu 0 15 (fb 38 1) HT_ ?_
 refine tk 1 16 (fb 38 3) HT_ HW_ hHeld ?_
 refine on 2 (some 17) (fb 38 7) HT_ (fun K hK => ?_)
 refine gs Try.func63 #[.int .i64 ((rd_T66 l0_0 x10_1).f0), .int .i64 1, .int .i64 9999] ?_
 with_reducible refine (impl_in.calls ((rd_T66 l0_0 x10_1).f0) 1 9999 _ _ A11.out).mono ?_
 rintro e w' ⟨rfl, ⟨nd, rfl⟩⟩
 refine ⟨_, rfl, ?_⟩
 refine hK.out _ _ ⟨bc BK667 0, bc BK667 1, bc BK667 2, bc BK667 3, bc BK667 4⟩ (fun hHeld => ?_)
 clear hK K
 refine nm ?_
 refine pu 3 18 (fb 38 15) HT_ ?_
 refine pu 4 19 (fb 38 31) HT_ ?_
 refine pu 5 20 (fb 38 63) HT_ ?_
 refine tk 6 21 (fb 38 127) HT_ HW_ hHeld ?_
 refine on 7 (some 22) (fb 38 255) HT_ (fun K hK => ?_)
 refine gs Try.func31 #[.string ((rd_T66 l0_0 x10_1).f1)] ?_
 with_reducible refine (impl_WordOk.calls k1 ((rd_T66 l0_0 x10_1).f1) _ _ A13.out).mono ?_
 rintro e w' ⟨rfl, ⟨nd, rfl⟩⟩
 refine ⟨_, rfl, ?_⟩
 refine hK.out _ _ ⟨bc BK667 0, bc BK667 1, bc BK667 2, bc BK667 3, bc BK667 4⟩ (fun hHeld => ?_)
 clear hK K
 refine nm ?_
 refine pu 8 23 (fb 38 511) HT_ ?_
 refine pu 9 24 (fb 38 1023) HT_ ?_
 refine pu 10 25 (fb 38 2047) HT_ ?_
 refine pu 11 26 (fb 38 4095) HT_ ?_
 refine tk 12 27 (fb 38 8191) HT_ HW_ hHeld ?_
 refine on 13 (some 28) (fb 38 16383) HT_ (fun K hK => ?_)
 refine gs Try.func31 #[.string ((rd_T66 l0_0 x10_1).f2)] ?_
 with_reducible refine (impl_WordOk.calls k1 ((rd_T66 l0_0 x10_1).f2) _ _ A15.out).mono ?_
 rintro e w' ⟨rfl, ⟨nd, rfl⟩⟩
 refine ⟨_, rfl, ?_⟩
 refine hK.out _ _ ⟨bc BK667 0, bc BK667 1, bc BK667 2, bc BK667 3, bc BK667 4⟩ (fun hHeld => ?_)
 clear hK K
 refine nm ?_
 refine pu 14 29 (fb 38 32767) HT_ ?_
 refine pu 15 30 (fb 38 65535) HT_ ?_
 refine pu 16 31 (fb 38 131071) HT_ ?_
 refine pu 17 32 (fb 38 262143) HT_ ?_
 refine tk 18 33 (fb 38 524287) HT_ HW_ hHeld ?_
 refine on 19 (some 34) (fb 38 1048575) HT_ (fun K hK => ?_)
 refine gs Try.func63 #[.int .i64 ((rd_T66 l0_0 x10_1).f3), .int .i64 1, .int .i64 10000] ?_
 with_reducible refine (impl_in.calls ((rd_T66 l0_0 x10_1).f3) 1 10000 _ _ A17.out).mono ?_
 rintro e w' ⟨rfl, ⟨nd, rfl⟩⟩
 refine ⟨_, rfl, ?_⟩
 refine hK.out _ _ ⟨bc BK667 0, bc BK667 1, bc BK667 2, bc BK667 3, bc BK667 4⟩ (fun hHeld => ?_)
 clear hK K
 refine nm ?_
 refine pu 20 35 (fb 38 2097151) HT_ ?_
 refine pu 21 36 (fb 38 4194303) HT_ ?_
 refine pu 22 37 (fb 38 8388607) HT_ ?_
 refine pu 23 38 (fb 38 16777215) HT_ ?_
 refine pu 24 39 (fb 38 33554431) HT_ ?_
 refine pu 25 40 (fb 38 67108863) HT_ ?_
 refine pn 26 41 (fb 38 134217727) HT_ ?_
 refine pn 27 42 (fb 38 268435455) HT_ ?_
 refine pn 28 43 (fb 38 536870911) HT_ ?_
 refine pn 29 44 (fb 38 1073741823) HT_ ?_
 refine pn 30 45 (fb 38 2147483647) HT_ ?_
 refine pn 31 46 (fb 38 4294967295) HT_ ?_
 refine pn 32 47 (fb 38 8589934591) HT_ ?_
 refine pn 33 48 (fb 38 17179869183) HT_ ?_
 refine pn 34 49 (fb 38 34359738367) HT_ ?_
 refine pn 35 50 (fb 38 68719476735) HT_ ?_
 refine pu 36 51 (fb 38 137438953471) HT_ ?_
 refine pu 37 52 (fb 38 274877906943) HT_ ?_
 refine done_ (done_of HT_.out (by kernel_rfl)) ?_
 try go_wp2
 go_meet
 case rel => exact ⟨_, _, rr, H', ⟨by have := HK1.out; first | omega | exact Nat.le_refl _⟩, ⟨bG BK665⟩, ⟨bG BK667⟩, ⟨by exact lT HB (gC GE665 (gC GE667 gN))⟩⟩
 }
 }
 {
 replace c18 := Bool.eq_false_iff.mpr c18
 subst c18
 rw [if_neg (show ¬ (false = true) by decide)] at H
 have H' := Aside0.mk H
 clear H
 try go_wp2
 obtain ⟨w27, eW_⟩ : ∃ w_, w_ = (((((w8.setCell ⟨gb667, 0, none⟩ (.int .i64 ((rd_T66 l0_0 x10_1).f0))).setCell ⟨gb667, 1, none⟩ (.string ((rd_T66 l0_0 x10_1).f1))).setCell ⟨gb667, 2, none⟩ (.string ((rd_T66 l0_0 x10_1).f2))).setCell ⟨gb667, 3, none⟩ (.int .i64 ((rd_T66 l0_0 x10_1).f3))).setCell ⟨gb667, 4, none⟩ (.slice A666_4 ((rd_T66 l0_0 x10_1).f4).length c666_4)) := ⟨_, rfl⟩
 have n0_ : Aside0 (w27.heap[gb665]? = some (.cells #[.slice (some ad666) l0_0.length c0_0] 60 (0, 0))) := by rw [eW_]; exact ⟨bF BK665 (nC NB665_667 nN)⟩
 have n1_ : Aside0 (w27.heap[gb667]? = some (.cells #[.int .i64 ((rd_T66 l0_0 x10_1).f0), .string ((rd_T66 l0_0 x10_1).f1), .string ((rd_T66 l0_0 x10_1).f2), .int .i64 ((rd_T66 l0_0 x10_1).f3), .slice A666_4 ((rd_T66 l0_0 x10_1).f4).length c666_4] 66 (0, 0))) := by rw [eW_]; exact ⟨bW BK667⟩
 have n2_ : Aside0 (Below w.heap.size w w27) := by rw [eW_]; exact ⟨by exact lT HB (gC GE665 (gC GE667 gN))⟩
 try clear BK665 BK667 HB
 rw [← eW_];clear eW_
 have BK665 := n0_
 have BK667 := n1_
 have HB := n2_
 clear n0_ n1_ n2_
 replace BK665 := ak (blk_drew BK665.out)
 replace BK667 := ak (blk_drew BK667.out)
 replace HB := ak (below_drew1 HB.out)
 refine start_ (n := 38) (S := fun w' => w'.cell? ⟨gb667, 0, none⟩ = some (.int .i64 ((rd_T66 l0_0 x10_1).f0)) ∧ w'.cell? ⟨gb667, 1, none⟩ = some (.string ((rd_T66 l0_0 x10_1).f1)) ∧ w'.cell? ⟨gb667, 2, none⟩ = some (.string ((rd_T66 l0_0 x10_1).f2)) ∧ w'.cell? ⟨gb667, 3, none⟩ = some (.int .i64 ((rd_T66 l0_0 x10_1).f3)) ∧ w'.cell? ⟨gb667, 4, none⟩ = some (.slice A666_4 ((rd_T66 l0_0 x10_1).f4).length c666_4)) (ds := []) (fb 38 0) (by kernel_rfl) rfl rfl ⟨bc BK667 0, bc BK667 1, bc BK667 2, bc BK667 3, bc BK667 4⟩ (fun hHeld => ?_); refine with_tabW impl_StateOk.tab4 impl_StateOk.bits4 (fun HT_ HW_ => ?_)
 generalize w27.drew = w28 at BK665 BK667 HB hHeld ⊢
 refine pu 0 15 (fb 38 1) HT_ ?_
 refine tk 1 16 (fb 38 3) HT_ HW_ hHeld ?_
 refine on 2 (some 17) (fb 38 7) HT_ (fun K hK => ?_)
 refine gs Try.func63 #[.int .i64 ((rd_T66 l0_0 x10_1).f0), .int .i64 1, .int .i64 9999] ?_
 with_reducible refine (impl_in.calls ((rd_T66 l0_0 x10_1).f0) 1 9999 _ _ A11.out).mono ?_
 rintro e w' ⟨rfl, ⟨nd, rfl⟩⟩
 refine ⟨_, rfl, ?_⟩
 refine hK.out _ _ ⟨bc BK667 0, bc BK667 1, bc BK667 2, bc BK667 3, bc BK667 4⟩ (fun hHeld => ?_)
 clear hK K
 refine nm ?_
 refine pu 3 18 (fb 38 15) HT_ ?_
 refine pu 4 19 (fb 38 31) HT_ ?_
 refine pu 5 20 (fb 38 63) HT_ ?_
 refine tk 6 21 (fb 38 127) HT_ HW_ hHeld ?_
 refine on 7 (some 22) (fb 38 255) HT_ (fun K hK => ?_)
 refine gs Try.func31 #[.string ((rd_T66 l0_0 x10_1).f1)] ?_
 with_reducible refine (impl_WordOk.calls k1 ((rd_T66 l0_0 x10_1).f1) _ _ A13.out).mono ?_
 rintro e w' ⟨rfl, ⟨nd, rfl⟩⟩
 refine ⟨_, rfl, ?_⟩
 refine hK.out _ _ ⟨bc BK667 0, bc BK667 1, bc BK667 2, bc BK667 3, bc BK667 4⟩ (fun hHeld => ?_)
 clear hK K
 refine nm ?_
 refine pu 8 23 (fb 38 511) HT_ ?_
 refine pu 9 24 (fb 38 1023) HT_ ?_
 refine pu 10 25 (fb 38 2047) HT_ ?_
 refine pu 11 26 (fb 38 4095) HT_ ?_
 refine tk 12 27 (fb 38 8191) HT_ HW_ hHeld ?_
 refine on 13 (some 28) (fb 38 16383) HT_ (fun K hK => ?_)
 refine gs Try.func31 #[.string ((rd_T66 l0_0 x10_1).f2)] ?_
 with_reducible refine (impl_WordOk.calls k1 ((rd_T66 l0_0 x10_1).f2) _ _ A15.out).mono ?_
 rintro e w' ⟨rfl, ⟨nd, rfl⟩⟩
 refine ⟨_, rfl, ?_⟩
 refine hK.out _ _ ⟨bc BK667 0, bc BK667 1, bc BK667 2, bc BK667 3, bc BK667 4⟩ (fun hHeld => ?_)
 clear hK K
 refine nm ?_
 refine pu 14 29 (fb 38 32767) HT_ ?_
 refine pu 15 30 (fb 38 65535) HT_ ?_
 refine pu 16 31 (fb 38 131071) HT_ ?_
 refine pu 17 32 (fb 38 262143) HT_ ?_
 refine tk 18 33 (fb 38 524287) HT_ HW_ hHeld ?_
 refine on 19 (some 34) (fb 38 1048575) HT_ (fun K hK => ?_)
 refine gs Try.func63 #[.int .i64 ((rd_T66 l0_0 x10_1).f3), .int .i64 1, .int .i64 10000] ?_
 with_reducible refine (impl_in.calls ((rd_T66 l0_0 x10_1).f3) 1 10000 _ _ A17.out).mono ?_
 rintro e w' ⟨rfl, ⟨nd, rfl⟩⟩
 refine ⟨_, rfl, ?_⟩
 refine hK.out _ _ ⟨bc BK667 0, bc BK667 1, bc BK667 2, bc BK667 3, bc BK667 4⟩ (fun hHeld => ?_)
 clear hK K
 refine nm ?_
 refine pu 20 35 (fb 38 2097151) HT_ ?_
 refine pu 21 36 (fb 38 4194303) HT_ ?_
 refine pu 22 37 (fb 38 8388607) HT_ ?_
 refine pn 23 38 (fb 38 16777215) HT_ ?_
 refine pn 24 39 (fb 38 33554431) HT_ ?_
 refine pn 25 40 (fb 38 67108863) HT_ ?_
 refine pn 26 41 (fb 38 134217727) HT_ ?_
 refine pn 27 42 (fb 38 268435455) HT_ ?_
 refine pn 28 43 (fb 38 536870911) HT_ ?_
 refine pn 29 44 (fb 38 1073741823) HT_ ?_
 refine pn 30 45 (fb 38 2147483647) HT_ ?_
 refine pn 31 46 (fb 38 4294967295) HT_ ?_
 refine pn 32 47 (fb 38 8589934591) HT_ ?_
 refine pn 33 48 (fb 38 17179869183) HT_ ?_
 refine pn 34 49 (fb 38 34359738367) HT_ ?_
 refine pn 35 50 (fb 38 68719476735) HT_ ?_
 refine pn 36 51 (fb 38 137438953471) HT_ ?_
 refine pu 37 52 (fb 38 274877906943) HT_ ?_
 refine done_ (done_of HT_.out (by kernel_rfl)) ?_
 try go_wp2
 go_meet
 case rel => exact ⟨_, _, rr, H', ⟨by have := HK1.out; first | omega | exact Nat.le_refl _⟩, ⟨bG BK665⟩, ⟨bG BK667⟩, ⟨by exact lT HB (gC GE665 (gC GE667 gN))⟩⟩
 }
 }
 {
 replace c16 := Bool.eq_false_iff.mpr c16
 subst c16
 rw [if_neg (show ¬ (false = true) by decide)] at H
 have H' := Aside0.mk H
 clear H
 try go_wp2
 obtain ⟨w29, eW_⟩ : ∃ w_, w_ = (((((w8.setCell ⟨gb667, 0, none⟩ (.int .i64 ((rd_T66 l0_0 x10_1).f0))).setCell ⟨gb667, 1, none⟩ (.string ((rd_T66 l0_0 x10_1).f1))).setCell ⟨gb667, 2, none⟩ (.string ((rd_T66 l0_0 x10_1).f2))).setCell ⟨gb667, 3, none⟩ (.int .i64 ((rd_T66 l0_0 x10_1).f3))).setCell ⟨gb667, 4, none⟩ (.slice A666_4 ((rd_T66 l0_0 x10_1).f4).length c666_4)) := ⟨_, rfl⟩
 have n0_ : Aside0 (w29.heap[gb665]? = some (.cells #[.slice (some ad666) l0_0.length c0_0] 60 (0, 0))) := by rw [eW_]; exact ⟨bF BK665 (nC NB665_667 nN)⟩
 have n1_ : Aside0 (w29.heap[gb667]? = some (.cells #[.int .i64 ((rd_T66 l0_0 x10_1).f0), .string ((rd_T66 l0_0 x10_1).f1), .string ((rd_T66 l0_0 x10_1).f2), .int .i64 ((rd_T66 l0_0 x10_1).f3), .slice A666_4 ((rd_T66 l0_0 x10_1).f4).length c666_4] 66 (0, 0))) := by rw [eW_]; exact ⟨bW BK667⟩
 have n2_ : Aside0 (Below w.heap.size w w29) := by rw [eW_]; exact ⟨by exact lT HB (gC GE665 (gC GE667 gN))⟩
 try clear BK665 BK667 HB
 rw [← eW_];clear eW_
 have BK665 := n0_
 have BK667 := n1_
 have HB := n2_
 clear n0_ n1_ n2_
 replace BK665 := ak (blk_drew BK665.out)
 replace BK667 := ak (blk_drew BK667.out)
 replace HB := ak (below_drew1 HB.out)
 refine start_ (n := 38) (S := fun w' => w'.cell? ⟨gb667, 0, none⟩ = some (.int .i64 ((rd_T66 l0_0 x10_1).f0)) ∧ w'.cell? ⟨gb667, 1, none⟩ = some (.string ((rd_T66 l0_0 x10_1).f1)) ∧ w'.cell? ⟨gb667, 2, none⟩ = some (.string ((rd_T66 l0_0 x10_1).f2)) ∧ w'.cell? ⟨gb667, 3, none⟩ = some (.int .i64 ((rd_T66 l0_0 x10_1).f3)) ∧ w'.cell? ⟨gb667, 4, none⟩ = some (.slice A666_4 ((rd_T66 l0_0 x10_1).f4).length c666_4)) (ds := []) (fb 38 0) (by kernel_rfl) rfl rfl ⟨bc BK667 0, bc BK667 1, bc BK667 2, bc BK667 3, bc BK667 4⟩ (fun hHeld => ?_); refine with_tabW impl_StateOk.tab4 impl_StateOk.bits4 (fun HT_ HW_ => ?_)
 generalize w29.drew = w30 at BK665 BK667 HB hHeld ⊢
 refine pu 0 15 (fb 38 1) HT_ ?_
 refine tk 1 16 (fb 38 3) HT_ HW_ hHeld ?_
 refine on 2 (some 17) (fb 38 7) HT_ (fun K hK => ?_)
 refine gs Try.func63 #[.int .i64 ((rd_T66 l0_0 x10_1).f0), .int .i64 1, .int .i64 9999] ?_
 with_reducible refine (impl_in.calls ((rd_T66 l0_0 x10_1).f0) 1 9999 _ _ A11.out).mono ?_
 rintro e w' ⟨rfl, ⟨nd, rfl⟩⟩
 refine ⟨_, rfl, ?_⟩
 refine hK.out _ _ ⟨bc BK667 0, bc BK667 1, bc BK667 2, bc BK667 3, bc BK667 4⟩ (fun hHeld => ?_)
 clear hK K
 refine nm ?_
 refine pu 3 18 (fb 38 15) HT_ ?_
 refine pu 4 19 (fb 38 31) HT_ ?_
 refine pu 5 20 (fb 38 63) HT_ ?_
 refine tk 6 21 (fb 38 127) HT_ HW_ hHeld ?_
 refine on 7 (some 22) (fb 38 255) HT_ (fun K hK => ?_)
 refine gs Try.func31 #[.string ((rd_T66 l0_0 x10_1).f1)] ?_
 with_reducible refine (impl_WordOk.calls k1 ((rd_T66 l0_0 x10_1).f1) _ _ A13.out).mono ?_
 rintro e w' ⟨rfl, ⟨nd, rfl⟩⟩
 refine ⟨_, rfl, ?_⟩
 refine hK.out _ _ ⟨bc BK667 0, bc BK667 1, bc BK667 2, bc BK667 3, bc BK667 4⟩ (fun hHeld => ?_)
 clear hK K
 refine nm ?_
 refine pu 8 23 (fb 38 511) HT_ ?_
 refine pu 9 24 (fb 38 1023) HT_ ?_
 refine pu 10 25 (fb 38 2047) HT_ ?_
 refine pu 11 26 (fb 38 4095) HT_ ?_
 refine tk 12 27 (fb 38 8191) HT_ HW_ hHeld ?_
 refine on 13 (some 28) (fb 38 16383) HT_ (fun K hK => ?_)
 refine gs Try.func31 #[.string ((rd_T66 l0_0 x10_1).f2)] ?_
 with_reducible refine (impl_WordOk.calls k1 ((rd_T66 l0_0 x10_1).f2) _ _ A15.out).mono ?_
 rintro e w' ⟨rfl, ⟨nd, rfl⟩⟩
 refine ⟨_, rfl, ?_⟩
 refine hK.out _ _ ⟨bc BK667 0, bc BK667 1, bc BK667 2, bc BK667 3, bc BK667 4⟩ (fun hHeld => ?_)
 clear hK K
 refine nm ?_
 refine pu 14 29 (fb 38 32767) HT_ ?_
 refine pu 15 30 (fb 38 65535) HT_ ?_
 refine pu 16 31 (fb 38 131071) HT_ ?_
 refine pn 17 32 (fb 38 262143) HT_ ?_
 refine pn 18 33 (fb 38 524287) HT_ ?_
 refine pn 19 34 (fb 38 1048575) HT_ ?_
 refine pn 20 35 (fb 38 2097151) HT_ ?_
 refine pu 21 36 (fb 38 4194303) HT_ ?_
 refine pu 22 37 (fb 38 8388607) HT_ ?_
 refine pn 23 38 (fb 38 16777215) HT_ ?_
 refine pn 24 39 (fb 38 33554431) HT_ ?_
 refine pn 25 40 (fb 38 67108863) HT_ ?_
 refine pn 26 41 (fb 38 134217727) HT_ ?_
 refine pn 27 42 (fb 38 268435455) HT_ ?_
 refine pn 28 43 (fb 38 536870911) HT_ ?_
 refine pn 29 44 (fb 38 1073741823) HT_ ?_
 refine pn 30 45 (fb 38 2147483647) HT_ ?_
 refine pn 31 46 (fb 38 4294967295) HT_ ?_
 refine pn 32 47 (fb 38 8589934591) HT_ ?_
 refine pn 33 48 (fb 38 17179869183) HT_ ?_
 refine pn 34 49 (fb 38 34359738367) HT_ ?_
 refine pn 35 50 (fb 38 68719476735) HT_ ?_
 refine pn 36 51 (fb 38 137438953471) HT_ ?_
 refine pu 37 52 (fb 38 274877906943) HT_ ?_
 refine done_ (done_of HT_.out (by kernel_rfl)) ?_
 try go_wp2
 go_meet
 case rel => exact ⟨_, _, rr, H', ⟨by have := HK1.out; first | omega | exact Nat.le_refl _⟩, ⟨bG BK665⟩, ⟨bG BK667⟩, ⟨by exact lT HB (gC GE665 (gC GE667 gN))⟩⟩
 }
 }
 {
 replace c14 := Bool.eq_false_iff.mpr c14
 subst c14
 rw [if_neg (show ¬ (false = true) by decide)] at H
 have H' := Aside0.mk H
 clear H
 try go_wp2
 obtain ⟨w31, eW_⟩ : ∃ w_, w_ = (((((w8.setCell ⟨gb667, 0, none⟩ (.int .i64 ((rd_T66 l0_0 x10_1).f0))).setCell ⟨gb667, 1, none⟩ (.string ((rd_T66 l0_0 x10_1).f1))).setCell ⟨gb667, 2, none⟩ (.string ((rd_T66 l0_0 x10_1).f2))).setCell ⟨gb667, 3, none⟩ (.int .i64 ((rd_T66 l0_0 x10_1).f3))).setCell ⟨gb667, 4, none⟩ (.slice A666_4 ((rd_T66 l0_0 x10_1).f4).length c666_4)) := ⟨_, rfl⟩
 have n0_ : Aside0 (w31.heap[gb665]? = some (.cells #[.slice (some ad666) l0_0.length c0_0] 60 (0, 0))) := by rw [eW_]; exact ⟨bF BK665 (nC NB665_667 nN)⟩
 have n1_ : Aside0 (w31.heap[gb667]? = some (.cells #[.int .i64 ((rd_T66 l0_0 x10_1).f0), .string ((rd_T66 l0_0 x10_1).f1), .string ((rd_T66 l0_0 x10_1).f2), .int .i64 ((rd_T66 l0_0 x10_1).f3), .slice A666_4 ((rd_T66 l0_0 x10_1).f4).length c666_4] 66 (0, 0))) := by rw [eW_]; exact ⟨bW BK667⟩
 have n2_ : Aside0 (Below w.heap.size w w31) := by rw [eW_]; exact ⟨by exact lT HB (gC GE665 (gC GE667 gN))⟩
 try clear BK665 BK667 HB
 rw [← eW_];clear eW_
 have BK665 := n0_
 have BK667 := n1_
 have HB := n2_
 clear n0_ n1_ n2_
 replace BK665 := ak (blk_drew BK665.out)
 replace BK667 := ak (blk_drew BK667.out)
 replace HB := ak (below_drew1 HB.out)
 refine start_ (n := 38) (S := fun w' => w'.cell? ⟨gb667, 0, none⟩ = some (.int .i64 ((rd_T66 l0_0 x10_1).f0)) ∧ w'.cell? ⟨gb667, 1, none⟩ = some (.string ((rd_T66 l0_0 x10_1).f1)) ∧ w'.cell? ⟨gb667, 2, none⟩ = some (.string ((rd_T66 l0_0 x10_1).f2)) ∧ w'.cell? ⟨gb667, 3, none⟩ = some (.int .i64 ((rd_T66 l0_0 x10_1).f3)) ∧ w'.cell? ⟨gb667, 4, none⟩ = some (.slice A666_4 ((rd_T66 l0_0 x10_1).f4).length c666_4)) (ds := []) (fb 38 0) (by kernel_rfl) rfl rfl ⟨bc BK667 0, bc BK667 1, bc BK667 2, bc BK667 3, bc BK667 4⟩ (fun hHeld => ?_); refine with_tabW impl_StateOk.tab4 impl_StateOk.bits4 (fun HT_ HW_ => ?_)
 generalize w31.drew = w32 at BK665 BK667 HB hHeld ⊢
 refine pu 0 15 (fb 38 1) HT_ ?_
 refine tk 1 16 (fb 38 3) HT_ HW_ hHeld ?_
 refine on 2 (some 17) (fb 38 7) HT_ (fun K hK => ?_)
 refine gs Try.func63 #[.int .i64 ((rd_T66 l0_0 x10_1).f0), .int .i64 1, .int .i64 9999] ?_
 with_reducible refine (impl_in.calls ((rd_T66 l0_0 x10_1).f0) 1 9999 _ _ A11.out).mono ?_
 rintro e w' ⟨rfl, ⟨nd, rfl⟩⟩
 refine ⟨_, rfl, ?_⟩
 refine hK.out _ _ ⟨bc BK667 0, bc BK667 1, bc BK667 2, bc BK667 3, bc BK667 4⟩ (fun hHeld => ?_)
 clear hK K
 refine nm ?_
 refine pu 3 18 (fb 38 15) HT_ ?_
 refine pu 4 19 (fb 38 31) HT_ ?_
 refine pu 5 20 (fb 38 63) HT_ ?_
 refine tk 6 21 (fb 38 127) HT_ HW_ hHeld ?_
 refine on 7 (some 22) (fb 38 255) HT_ (fun K hK => ?_)
 refine gs Try.func31 #[.string ((rd_T66 l0_0 x10_1).f1)] ?_
 with_reducible refine (impl_WordOk.calls k1 ((rd_T66 l0_0 x10_1).f1) _ _ A13.out).mono ?_
 rintro e w' ⟨rfl, ⟨nd, rfl⟩⟩
 refine ⟨_, rfl, ?_⟩
 refine hK.out _ _ ⟨bc BK667 0, bc BK667 1, bc BK667 2, bc BK667 3, bc BK667 4⟩ (fun hHeld => ?_)
 clear hK K
 refine nm ?_
 refine pu 8 23 (fb 38 511) HT_ ?_
 refine pu 9 24 (fb 38 1023) HT_ ?_
 refine pu 10 25 (fb 38 2047) HT_ ?_
 refine pn 11 26 (fb 38 4095) HT_ ?_
 refine pn 12 27 (fb 38 8191) HT_ ?_
 refine pn 13 28 (fb 38 16383) HT_ ?_
 refine pn 14 29 (fb 38 32767) HT_ ?_
 refine pu 15 30 (fb 38 65535) HT_ ?_
 refine pu 16 31 (fb 38 131071) HT_ ?_
 refine pn 17 32 (fb 38 262143) HT_ ?_
 refine pn 18 33 (fb 38 524287) HT_ ?_
 refine pn 19 34 (fb 38 1048575) HT_ ?_
 refine pn 20 35 (fb 38 2097151) HT_ ?_
 refine pu 21 36 (fb 38 4194303) HT_ ?_
 refine pu 22 37 (fb 38 8388607) HT_ ?_
 refine pn 23 38 (fb 38 16777215) HT_ ?_
 refine pn 24 39 (fb 38 33554431) HT_ ?_
 refine pn 25 40 (fb 38 67108863) HT_ ?_
 refine pn 26 41 (fb 38 134217727) HT_ ?_
 refine pn 27 42 (fb 38 268435455) HT_ ?_
 refine pn 28 43 (fb 38 536870911) HT_ ?_
 refine pn 29 44 (fb 38 1073741823) HT_ ?_
 refine pn 30 45 (fb 38 2147483647) HT_ ?_
 refine pn 31 46 (fb 38 4294967295) HT_ ?_
 refine pn 32 47 (fb 38 8589934591) HT_ ?_
 refine pn 33 48 (fb 38 17179869183) HT_ ?_
 refine pn 34 49 (fb 38 34359738367) HT_ ?_
 refine pn 35 50 (fb 38 68719476735) HT_ ?_
 refine pn 36 51 (fb 38 137438953471) HT_ ?_
 refine pu 37 52 (fb 38 274877906943) HT_ ?_
 refine done_ (done_of HT_.out (by kernel_rfl)) ?_
 try go_wp2
 go_meet
 case rel => exact ⟨_, _, rr, H', ⟨by have := HK1.out; first | omega | exact Nat.le_refl _⟩, ⟨bG BK665⟩, ⟨bG BK667⟩, ⟨by exact lT HB (gC GE665 (gC GE667 gN))⟩⟩
 }
 }
 {
 replace c12 := Bool.eq_false_iff.mpr c12
 subst c12
 rw [if_neg (show ¬ (false = true) by decide)] at H
 have H' := Aside0.mk H
 clear H
 try go_wp2
 obtain ⟨w33, eW_⟩ : ∃ w_, w_ = (((((w8.setCell ⟨gb667, 0, none⟩ (.int .i64 ((rd_T66 l0_0 x10_1).f0))).setCell ⟨gb667, 1, none⟩ (.string ((rd_T66 l0_0 x10_1).f1))).setCell ⟨gb667, 2, none⟩ (.string ((rd_T66 l0_0 x10_1).f2))).setCell ⟨gb667, 3, none⟩ (.int .i64 ((rd_T66 l0_0 x10_1).f3))).setCell ⟨gb667, 4, none⟩ (.slice A666_4 ((rd_T66 l0_0 x10_1).f4).length c666_4)) := ⟨_, rfl⟩
 have n0_ : Aside0 (w33.heap[gb665]? = some (.cells #[.slice (some ad666) l0_0.length c0_0] 60 (0, 0))) := by rw [eW_]; exact ⟨bF BK665 (nC NB665_667 nN)⟩
 have n1_ : Aside0 (w33.heap[gb667]? = some (.cells #[.int .i64 ((rd_T66 l0_0 x10_1).f0), .string ((rd_T66 l0_0 x10_1).f1), .string ((rd_T66 l0_0 x10_1).f2), .int .i64 ((rd_T66 l0_0 x10_1).f3), .slice A666_4 ((rd_T66 l0_0 x10_1).f4).length c666_4] 66 (0, 0))) := by rw [eW_]; exact ⟨bW BK667⟩
 have n2_ : Aside0 (Below w.heap.size w w33) := by rw [eW_]; exact ⟨by exact lT HB (gC GE665 (gC GE667 gN))⟩
 try clear BK665 BK667 HB
 rw [← eW_];clear eW_
 have BK665 := n0_
 have BK667 := n1_
 have HB := n2_
 clear n0_ n1_ n2_
 replace BK665 := ak (blk_drew BK665.out)
 replace BK667 := ak (blk_drew BK667.out)
 replace HB := ak (below_drew1 HB.out)
 refine start_ (n := 38) (S := fun w' => w'.cell? ⟨gb667, 0, none⟩ = some (.int .i64 ((rd_T66 l0_0 x10_1).f0)) ∧ w'.cell? ⟨gb667, 1, none⟩ = some (.string ((rd_T66 l0_0 x10_1).f1)) ∧ w'.cell? ⟨gb667, 2, none⟩ = some (.string ((rd_T66 l0_0 x10_1).f2)) ∧ w'.cell? ⟨gb667, 3, none⟩ = some (.int .i64 ((rd_T66 l0_0 x10_1).f3)) ∧ w'.cell? ⟨gb667, 4, none⟩ = some (.slice A666_4 ((rd_T66 l0_0 x10_1).f4).length c666_4)) (ds := []) (fb 38 0) (by kernel_rfl) rfl rfl ⟨bc BK667 0, bc BK667 1, bc BK667 2, bc BK667 3, bc BK667 4⟩ (fun hHeld => ?_); refine with_tabW impl_StateOk.tab4 impl_StateOk.bits4 (fun HT_ HW_ => ?_)
 generalize w33.drew = w34 at BK665 BK667 HB hHeld ⊢
 refine pu 0 15 (fb 38 1) HT_ ?_
 refine tk 1 16 (fb 38 3) HT_ HW_ hHeld ?_
 refine on 2 (some 17) (fb 38 7) HT_ (fun K hK => ?_)
 refine gs Try.func63 #[.int .i64 ((rd_T66 l0_0 x10_1).f0), .int .i64 1, .int .i64 9999] ?_
 with_reducible refine (impl_in.calls ((rd_T66 l0_0 x10_1).f0) 1 9999 _ _ A11.out).mono ?_
 rintro e w' ⟨rfl, ⟨nd, rfl⟩⟩
 refine ⟨_, rfl, ?_⟩
 refine hK.out _ _ ⟨bc BK667 0, bc BK667 1, bc BK667 2, bc BK667 3, bc BK667 4⟩ (fun hHeld => ?_)
 clear hK K
 refine nm ?_
 refine pu 3 18 (fb 38 15) HT_ ?_
 refine pu 4 19 (fb 38 31) HT_ ?_
 refine pn 5 20 (fb 38 63) HT_ ?_
 refine pn 6 21 (fb 38 127) HT_ ?_
 refine pn 7 22 (fb 38 255) HT_ ?_
 refine pn 8 23 (fb 38 511) HT_ ?_
 refine pu 9 24 (fb 38 1023) HT_ ?_
 refine pu 10 25 (fb 38 2047) HT_ ?_
 refine pn 11 26 (fb 38 4095) HT_ ?_
 refine pn 12 27 (fb 38 8191) HT_ ?_
 refine pn 13 28 (fb 38 16383) HT_ ?_
 refine pn 14 29 (fb 38 32767) HT_ ?_
 refine pu 15 30 (fb 38 65535) HT_ ?_
 refine pu 16 31 (fb 38 131071) HT_ ?_
 refine pn 17 32 (fb 38 262143) HT_ ?_
 refine pn 18 33 (fb 38 524287) HT_ ?_
 refine pn 19 34 (fb 38 1048575) HT_ ?_
 refine pn 20 35 (fb 38 2097151) HT_ ?_
 refine pu 21 36 (fb 38 4194303) HT_ ?_
 refine pu 22 37 (fb 38 8388607) HT_ ?_
 refine pn 23 38 (fb 38 16777215) HT_ ?_
 refine pn 24 39 (fb 38 33554431) HT_ ?_
 refine pn 25 40 (fb 38 67108863) HT_ ?_
 refine pn 26 41 (fb 38 134217727) HT_ ?_
 refine pn 27 42 (fb 38 268435455) HT_ ?_
 refine pn 28 43 (fb 38 536870911) HT_ ?_
 refine pn 29 44 (fb 38 1073741823) HT_ ?_
 refine pn 30 45 (fb 38 2147483647) HT_ ?_
 refine pn 31 46 (fb 38 4294967295) HT_ ?_
 refine pn 32 47 (fb 38 8589934591) HT_ ?_
 refine pn 33 48 (fb 38 17179869183) HT_ ?_
 refine pn 34 49 (fb 38 34359738367) HT_ ?_
 refine pn 35 50 (fb 38 68719476735) HT_ ?_
 refine pn 36 51 (fb 38 137438953471) HT_ ?_
 refine pu 37 52 (fb 38 274877906943) HT_ ?_
 refine done_ (done_of HT_.out (by kernel_rfl)) ?_
 try go_wp2
 go_meet
 case rel => exact ⟨_, _, rr, H', ⟨by have := HK1.out; first | omega | exact Nat.le_refl _⟩, ⟨bG BK665⟩, ⟨bG BK667⟩, ⟨by exact lT HB (gC GE665 (gC GE667 gN))⟩⟩
 }
 }
 case rest =>
  skip;{
 clear HC7
 try clear c6
 obtain ⟨kq, x52_6, rfl, HA, HJ6, BK665, BK667, HB⟩ := hcut
 cases kq with
 | zero => exact absurd HA.out (by simp [impl_StateOk.j1])
 | succ kj6 =>
  skip;{
 have H := HA.out
 clear HA
 simp only [impl_StateOk.j1] at H
 by_cases c35 : x52_6 = true
 {
 subst c35
 rw [if_pos rfl] at H
 obtain rfl := Option.some.inj H
 go_wp2
 go_ret
 exact ⟨ew, by exact lT HB (gC GE665 (gC GE667 gN))⟩
 }
 {
 replace c35 := Bool.eq_false_iff.mpr c35
 subst c35
 rw [if_neg (show ¬ (false = true) by decide)] at H
 by_cases c36 : 0 ≤ x10_1
 {
 rw [if_pos c36] at H
 have c36b0 := eq_true c36
 have c36b1 := decide_eq_true c36
 clear c36
 by_cases c37 : x10_1 ≤ (l0_0.length : Int)
 {
 rw [if_pos c37] at H
 have c37b0 := eq_true c37
 have c37b1 := decide_eq_true c37
 clear c37
 obtain ⟨y673, hy673⟩ : ∃ y_ : List (S66), y_ = (l0_0.take (x10_1 : Int).toNat) := ⟨_, rfl⟩
 replace H : ((impl_anyBox.f y673 ((rd_T66 l0_0 x10_1).f1) ((rd_T66 l0_0 x10_1).f2)).bind fun t677 => (if t677 = true then (some false) else (impl_StateOk.l1 kj6 l0_0 (l0_0.length : Int) x10_1 ((rd_T66 l0_0 x10_1).f4) (((rd_T66 l0_0 x10_1).f4).length : Int) 0 l0_0 ((rd_T66 l0_0 x10_1).f0) ((rd_T66 l0_0 x10_1).f1) ((rd_T66 l0_0 x10_1).f2) ((rd_T66 l0_0 x10_1).f3) ((rd_T66 l0_0 x10_1).f4)))) = some r := by first | (rw [hy673]; with_reducible exact H) | (have H2_ := (Option.bind_some _ _).symm.trans H; rw [hy673]; with_reducible exact H2_) | (have H2_ := (Option.bind_some _ _).symm.trans H; with_reducible exact H2_) | with_reducible exact H | (rw [hy673]; exact H) | exact H
 have Ny673 := Aside0.mk hy673
 clear hy673
 obtain ⟨t677, A38, H⟩ := eb H
 try dsimp only at H
 by_cases c39 : t677 = true
 {
 subst c39
 rw [if_pos rfl] at H
 obtain rfl := Option.some.inj H
 have hnb40 := NB665_667.out
 have hnc40 := NB667_665.out
 obtain ⟨_, _⟩ := bC1 BK665
 have q42 : (x10_1 : Int) ≤ ((l0_0.length : Int) : Int) := oda
 obtain ⟨i042, hi042, _, hsz42, _⟩ := info_parts info66
 have hroom42 : l0_0.length ≤ c0_0 := HC0_0.out
 have hC42 : Kd.C k66 _ (some ad666) l0_0.length l0_0 := HR0_0.out
 have hcut42 := cut_to (P := Try.prog) 58 66 .i64 Try.underlying58 hi042 (some ad666) l0_0.length c0_0 x10_1 (oda) q42 hroom42
 have hr42 := Kd.C_take (m := (x10_1 : Int).toNat) hC42 (by omega)
 have hy42 : y673.length = (x10_1 : Int).toNat := (by rw [Ny673.out, List.length_take]; omega)
 rw [← Ny673.out] at hr42
 rw [← hy42] at hcut42
 have HR676 := Aside0.mk hr42
 have HC676 := ak (show y673.length ≤ c0_0 from by omega)
 clear hr42 hC42 hroom42 hi042 hsz42
 have KY42 := Aside0.mk hy42
 clear hy42
 replace q42 := eq_true q42
 obtain ⟨_, _, _, _, _, _, _, _, _, _⟩ := bC5 BK667
 go_wp2_with ((with_reducible refine gate_callee (f := 90) rfl ?_); refine gl (some 58) Try.func90 #[.slice (some ad666) y673.length c0_0, .func (.func 91) #[] #[.pointer (some ⟨gb667, 0, none⟩)]] ?_; (with_reducible refine (impl_anyBox.calls gb667 _ _ y673 ((rd_T66 l0_0 x10_1).f1) ((rd_T66 l0_0 x10_1).f2) true _ ?sideV ?side1 ?side2 A38.out).mono ?_); (case sideV => exact ⟨_, _, _, bG BK667⟩); (case side1 => exact cG (Kd.C_below HR676.out HB.out)); (case side2 => exact HC676.out); rintro e w44 ⟨rfl, hb⟩; refine ⟨_, rfl, ?_⟩; replace BK665 := bB BK665 hb; replace BK667 := bB BK667 hb; replace HB := ak (below_step (lT HB (gC GE665 (gC GE667 gN))) hb); (try clear hb); (try clear hk))
 go_ret
 exact ⟨ew, by exact lT HB (gC GE665 (gC GE667 gN))⟩
 }
 {
 replace c39 := Bool.eq_false_iff.mpr c39
 subst c39
 rw [if_neg (show ¬ (false = true) by decide)] at H
 have H' := Aside0.mk H
 clear H
 have hnb45 := NB665_667.out
 have hnc45 := NB667_665.out
 obtain ⟨hcz46_0, hfz46_0⟩ := bC1 BK665
 have q47 : (x10_1 : Int) ≤ ((l0_0.length : Int) : Int) := oda
 obtain ⟨i047, hi047, _, hsz47, _⟩ := info_parts info66
 have hroom47 : l0_0.length ≤ c0_0 := HC0_0.out
 have hC47 : Kd.C k66 _ (some ad666) l0_0.length l0_0 := HR0_0.out
 have hcut47 := cut_to (P := Try.prog) 58 66 .i64 Try.underlying58 hi047 (some ad666) l0_0.length c0_0 x10_1 (oda) q47 hroom47
 have hr47 := Kd.C_take (m := (x10_1 : Int).toNat) hC47 (by omega)
 have hy47 : y673.length = (x10_1 : Int).toNat := (by rw [Ny673.out, List.length_take]; omega)
 rw [← Ny673.out] at hr47
 rw [← hy47] at hcut47
 have HR676 := Aside0.mk hr47
 have HC676 := ak (show y673.length ≤ c0_0 from by omega)
 clear hr47 hC47 hroom47 hi047 hsz47
 have KY47 := Aside0.mk hy47
 clear hy47
 replace q47 := eq_true q47
 obtain ⟨hcz48_0, hcz48_1, hcz48_2, hcz48_3, hcz48_4, hfz48_0, hfz48_1, hfz48_2, hfz48_3, hfz48_4⟩ := bC5 BK667
 go_wp2_with ((with_reducible refine gate_callee (f := 90) rfl ?_); refine gl (some 58) Try.func90 #[.slice (some ad666) y673.length c0_0, .func (.func 91) #[] #[.pointer (some ⟨gb667, 0, none⟩)]] ?_; (with_reducible refine (impl_anyBox.calls gb667 _ _ y673 ((rd_T66 l0_0 x10_1).f1) ((rd_T66 l0_0 x10_1).f2) false _ ?sideV ?side1 ?side2 A38.out).mono ?_); (case sideV => exact ⟨_, _, _, bG BK667⟩); (case side1 => exact cG (Kd.C_below HR676.out HB.out)); (case side2 => exact HC676.out); rintro e w49 ⟨rfl, hb⟩; refine ⟨_, rfl, ?_⟩; replace BK665 := bB BK665 hb; replace BK667 := bB BK667 hb; replace HB := ak (below_step (lT HB (gC GE665 (gC GE667 gN))) hb); (try clear hb); (try clear hk); obtain ⟨hcz50_0, hcz50_1, hcz50_2, hcz50_3, hcz50_4, hfz50_0, hfz50_1, hfz50_2, hfz50_3, hfz50_4⟩ := bC5 BK667)
 go_loopg [62] kj6 (fun kq v62 w' => ∃ (x62_3 : Int), v62 = .int .i64 x62_3 ∧ Aside0 (impl_StateOk.l1 kq l0_0 (l0_0.length : Int) x10_1 ((rd_T66 l0_0 x10_1).f4) (((rd_T66 l0_0 x10_1).f4).length : Int) x62_3 l0_0 ((rd_T66 l0_0 x10_1).f0) ((rd_T66 l0_0 x10_1).f1) ((rd_T66 l0_0 x10_1).f2) ((rd_T66 l0_0 x10_1).f3) ((rd_T66 l0_0 x10_1).f4) = some r) ∧ Aside0 (kq ≤ kj6) ∧ Aside0 (w'.heap[gb665]? = some (.cells #[(.slice (some ad666) l0_0.length c0_0)] 60 (0, 0))) ∧ Aside0 (w'.heap[gb667]? = some (.cells #[.int .i64 ((rd_T66 l0_0 x10_1).f0), .string ((rd_T66 l0_0 x10_1).f1), .string ((rd_T66 l0_0 x10_1).f2), .int .i64 ((rd_T66 l0_0 x10_1).f3), (.slice A666_4 ((rd_T66 l0_0 x10_1).f4).length c666_4)] 66 (0, 0))) ∧ Aside0 (Below w.heap.size w w'))
 case atStart => exact ⟨_, rr, H', ⟨Nat.le_refl _⟩, ⟨bG BK665⟩, ⟨bG BK667⟩, ⟨by exact lT HB (gC GE665 (gC GE667 gN))⟩⟩
 case round =>
  skip;{
 clear H'
 try clear c4 c6 c35 c36 c36b0 c36b1 c37 c37b0 c37b1 c39 q47 hcz46_0 hcz48_0 hcz48_1 hcz48_2 hcz48_3 hcz48_4 hcz50_0 hcz50_1 hcz50_2 hcz50_3 hcz50_4 hfz46_0 hfz48_0 hfz48_1 hfz48_2 hfz48_3 hfz48_4 hfz50_0 hfz50_1 hfz50_2 hfz50_3 hfz50_4 q47
 obtain ⟨x62_3, rfl, HA, HK3, BK665, BK667, HB⟩ := hrel
 cases gk with
 | zero => exact absurd HA.out (by simp [impl_StateOk.l1])
 | succ k3 =>
  skip;{
 have H := HA.out
 clear HA
 simp only [impl_StateOk.l1] at H
 by_cases c51 : x62_3 < (((rd_T66 l0_0 x10_1).f4).length : Int)
 {
 rw [if_pos c51] at H
 have c51b0 := decide_eq_true c51
 clear c51
 by_cases c52 : 0 ≤ x62_3
 {
 rw [if_pos c52] at H
 have c52b0 := decide_eq_true c52
 clear c52
 by_cases c53 : x62_3 < (((rd_T66 l0_0 x10_1).f4).length : Int)
 {
 rw [if_pos c53] at H
 have c53b0 := decide_eq_true c53
 clear c53
 have HC54 := Aside0.mk H
 clear H
 have p678 : 0 ≤ (x62_3 : Int) := oda
 have q678 : x62_3 < (((rd_T66 l0_0 x10_1).f4).length : Int) := oda
 obtain ⟨ad678, e678, hx678_0, hx678_1, hx678_2⟩ := at_T68 HR666_4.out x62_3 p678 q678
 cases e678
 replace hx678_0 := clB HB hx678_0
 replace hx678_1 := clB HB hx678_1
 replace hx678_2 := clB HB hx678_2
 replace p678 := eq_true p678
 replace q678 := eq_true q678
 go_upto_region 11 with ((with_reducible refine gate_dst (N := 6) rfl ?_); (try (refine gate_guard (by rfl) ?_; dsimp only)); refine bx 6 #[.int .i64 0, .int .i64 0, .string (⟨#[]⟩ : ByteArray)] 68 ?_; intro gb679 hg w55 hbox hb; replace BK679 := ak (hbox); replace GW679 := ak (bz hg (lT HB (gC GE665 (gC GE667 gN)))); replace GE679 := ak (bz hg (lT HB (gC GE665 (gC GE667 gN)))); replace HB := ak (below_step (lT HB (gC GE665 (gC GE667 gN))) hb); replace NB665_679 := ak (nl hg (bG BK665)); replace NB679_665 := ak (ng hg (bG BK665)); replace BK665 := bB BK665 hb; replace NB667_679 := ak (nl hg (bG BK667)); replace NB679_667 := ak (ng hg (bG BK667)); replace BK667 := bB BK667 hb; clear hb hbox hg; have hnb56 := NB679_665.out; have hnc56 := NB665_679.out; have hnb57 := NB679_667.out; have hnc57 := NB667_679.out; obtain ⟨_, _, _, _, _, _⟩ := bC3 BK679)
 (try simp only [Act.put, List.setIfInBounds_toArray, List.set_cons_zero, List.set_cons_succ])
 go_cut [101] (fun v101 wc => ∃ (kq : Nat) (x101_53 : Bool), v101 = .bool x101_53 ∧ Aside0 (impl_StateOk.j3 kq l0_0 (l0_0.length : Int) x10_1 ((rd_T66 l0_0 x10_1).f4) (((rd_T66 l0_0 x10_1).f4).length : Int) x62_3 x101_53 l0_0 ((rd_T66 l0_0 x10_1).f0) ((rd_T66 l0_0 x10_1).f1) ((rd_T66 l0_0 x10_1).f2) ((rd_T66 l0_0 x10_1).f3) ((rd_T66 l0_0 x10_1).f4) = some r) ∧ Aside0 (kq ≤ k3) ∧ Aside0 (wc.heap[gb665]? = some (.cells #[(.slice (some ad666) l0_0.length c0_0)] 60 (0, 0))) ∧ Aside0 (wc.heap[gb667]? = some (.cells #[.int .i64 ((rd_T66 l0_0 x10_1).f0), .string ((rd_T66 l0_0 x10_1).f1), .string ((rd_T66 l0_0 x10_1).f2), .int .i64 ((rd_T66 l0_0 x10_1).f3), (.slice (some ad678) ((rd_T66 l0_0 x10_1).f4).length c666_4)] 66 (0, 0))) ∧ Aside0 (wc.heap[gb679]? = some (.cells #[.int .i64 ((rd_T68 ((rd_T66 l0_0 x10_1).f4) x62_3).f0), .int .i64 ((rd_T68 ((rd_T66 l0_0 x10_1).f4) x62_3).f1), .string ((rd_T68 ((rd_T66 l0_0 x10_1).f4) x62_3).f2)] 68 (0, 0))) ∧ Aside0 (Below w.heap.size w wc))
 case first =>
  skip;{
 have H := HC54.out
 clear HC54
 obtain ⟨t680, A59, H⟩ := eb H
 try dsimp only at H
 by_cases c60 : t680 = true
 {
 subst c60
 rw [if_pos rfl] at H
 obtain ⟨t681, A61, H⟩ := eb H
 try dsimp only at H
 by_cases c62 : t681 = true
 {
 subst c62
 rw [if_pos rfl] at H
 by_cases c63 : (((rd_T68 ((rd_T66 l0_0 x10_1).f4) x62_3).f2).size : Int) > 100
 {
 rw [if_pos c63] at H
 have c63b0 : decide (100 < (((rd_T68 ((rd_T66 l0_0 x10_1).f4) x62_3).f2).size : Int)) = true := decide_eq_true c63
 have c63b1 : decide (100 < ((rd_T68 ((rd_T66 l0_0 x10_1).f4) x62_3).f2).size) = true := decide_eq_true (by omega)
 clear c63
 (first | rw [c63b0] | (simp only [i64_w, i32_w]; rw [c63b0]) | skip)
 have H' := Aside0.mk H
 clear H
 try go_wp2
 obtain ⟨w64, eW_⟩ : ∃ w_, w_ = (((w55.setCell ⟨gb679, 0, none⟩ (.int .i64 ((rd_T68 ((rd_T66 l0_0 x10_1).f4) x62_3).f0))).setCell ⟨gb679, 1, none⟩ (.int .i64 ((rd_T68 ((rd_T66 l0_0 x10_1).f4) x62_3).f1))).setCell ⟨gb679, 2, none⟩ (.string ((rd_T68 ((rd_T66 l0_0 x10_1).f4) x62_3).f2))) := ⟨_, rfl⟩
 have n0_ : Aside0 (w64.heap[gb665]? = some (.cells #[.slice (some ad666) l0_0.length c0_0] 60 (0, 0))) := by rw [eW_]; exact ⟨bF BK665 (nC NB665_679 nN)⟩
 have n1_ : Aside0 (w64.heap[gb667]? = some (.cells #[.int .i64 ((rd_T66 l0_0 x10_1).f0), .string ((rd_T66 l0_0 x10_1).f1), .string ((rd_T66 l0_0 x10_1).f2), .int .i64 ((rd_T66 l0_0 x10_1).f3), .slice (some ad678) ((rd_T66 l0_0 x10_1).f4).length c666_4] 66 (0, 0))) := by rw [eW_]; exact ⟨bF BK667 (nC NB667_679 nN)⟩
 have n2_ : Aside0 (w64.heap[gb679]? = some (.cells #[.int .i64 ((rd_T68 ((rd_T66 l0_0 x10_1).f4) x62_3).f0), .int .i64 ((rd_T68 ((rd_T66 l0_0 x10_1).f4) x62_3).f1), .string ((rd_T68 ((rd_T66 l0_0 x10_1).f4) x62_3).f2)] 68 (0, 0))) := by rw [eW_]; exact ⟨bW BK679⟩
 have n3_ : Aside0 (Below w.heap.size w w64) := by rw [eW_]; exact ⟨by exact lT HB (gC GE665 (gC GE667 (gC GE679 gN)))⟩
 try clear BK665 BK667 BK679 HB
 rw [← eW_];clear eW_
 have BK665 := n0_
 have BK667 := n1_
 have BK679 := n2_
 have HB := n3_
 clear n0_ n1_ n2_ n3_
 replace BK665 := ak (blk_drew BK665.out)
 replace BK667 := ak (blk_drew BK667.out)
 replace BK679 := ak (blk_drew BK679.out)
 replace HB := ak (below_drew1 HB.out)
 refine start_ (n := 35) (S := fun w' => w'.cell? ⟨gb679, 0, none⟩ = some (.int .i64 ((rd_T68 ((rd_T66 l0_0 x10_1).f4) x62_3).f0)) ∧ w'.cell? ⟨gb679, 1, none⟩ = some (.int .i64 ((rd_T68 ((rd_T66 l0_0 x10_1).f4) x62_3).f1)) ∧ w'.cell? ⟨gb679, 2, none⟩ = some (.string ((rd_T68 ((rd_T66 l0_0 x10_1).f4) x62_3).f2)) ∧ w'.cell? ⟨gb667, 0, none⟩ = some (.int .i64 ((rd_T66 l0_0 x10_1).f0)) ∧ w'.cell? ⟨gb667, 1, none⟩ = some (.string ((rd_T66 l0_0 x10_1).f1)) ∧ w'.cell? ⟨gb667, 2, none⟩ = some (.string ((rd_T66 l0_0 x10_1).f2)) ∧ w'.cell? ⟨gb667, 3, none⟩ = some (.int .i64 ((rd_T66 l0_0 x10_1).f3)) ∧ w'.cell? ⟨gb667, 4, none⟩ = some (.slice (some ad678) ((rd_T66 l0_0 x10_1).f4).length c666_4)) (ds := []) (fb 35 0) (by kernel_rfl) rfl rfl ⟨bc BK679 0, bc BK679 1, bc BK679 2, bc BK667 0, bc BK667 1, bc BK667 2, bc BK667 3, bc BK667 4⟩ (fun hHeld => ?_); refine with_tabW impl_StateOk.tab11 impl_StateOk.bits11 (fun HT_ HW_ => ?_)
 generalize w64.drew = w65 at BK665 BK667 BK679 HB hHeld ⊢
 refine pu 0 67 (fb 35 1) HT_ ?_
 refine pu 2 69 (fb 35 5) HT_ ?_
 refine tk 1 68 (fb 35 7) HT_ HW_ hHeld ?_
 refine tk 3 70 (fb 35 15) HT_ HW_ hHeld ?_
 refine pu 4 71 (fb 35 31) HT_ ?_
 refine on 5 (some 72) (fb 35 63) HT_ (fun K hK => ?_)
 refine gs Try.func63 #[.int .i64 ((rd_T68 ((rd_T66 l0_0 x10_1).f4) x62_3).f0), .int .i64 1, .int .i64 (wrap64 (((rd_T66 l0_0 x10_1).f3) - 1))] ?_
 with_reducible refine (impl_in.calls ((rd_T68 ((rd_T66 l0_0 x10_1).f4) x62_3).f0) 1 (wrap64 (((rd_T66 l0_0 x10_1).f3) - 1)) _ _ A59.out).mono ?_
 rintro e w' ⟨rfl, ⟨nd, rfl⟩⟩
 refine ⟨_, rfl, ?_⟩
 refine hK.out _ _ ⟨bc BK679 0, bc BK679 1, bc BK679 2, bc BK667 0, bc BK667 1, bc BK667 2, bc BK667 3, bc BK667 4⟩ (fun hHeld => ?_)
 clear hK K
 refine nm ?_
 refine pu 6 73 (fb 35 127) HT_ ?_
 refine pu 7 74 (fb 35 255) HT_ ?_
 refine pu 8 75 (fb 35 511) HT_ ?_
 refine tk 9 76 (fb 35 1023) HT_ HW_ hHeld ?_
 refine on 10 (some 77) (fb 35 2047) HT_ (fun K hK => ?_)
 refine gs Try.func63 #[.int .i64 ((rd_T68 ((rd_T66 l0_0 x10_1).f4) x62_3).f1), .int .i64 0, .int .i64 7] ?_
 with_reducible refine (impl_in.calls ((rd_T68 ((rd_T66 l0_0 x10_1).f4) x62_3).f1) 0 7 _ _ A61.out).mono ?_
 rintro e w' ⟨rfl, ⟨nd, rfl⟩⟩
 refine ⟨_, rfl, ?_⟩
 refine hK.out _ _ ⟨bc BK679 0, bc BK679 1, bc BK679 2, bc BK667 0, bc BK667 1, bc BK667 2, bc BK667 3, bc BK667 4⟩ (fun hHeld => ?_)
 clear hK K
 refine nm ?_
 refine pu 11 78 (fb 35 4095) HT_ ?_
 refine pu 12 79 (fb 35 8191) HT_ ?_
 refine pu 13 80 (fb 35 16383) HT_ ?_
 refine pu 14 81 (fb 35 32767) HT_ ?_
 refine tk 15 82 (fb 35 65535) HT_ HW_ hHeld ?_
 refine pu 16 83 (fb 35 131071) HT_ ?_
 refine pu 17 84 (fb 35 262143) HT_ ?_
 refine pu 18 85 (fb 35 524287) HT_ ?_
 refine pu 19 86 (fb 35 1048575) HT_ ?_
 refine pn 20 87 (fb 35 2097151) HT_ ?_
 refine pn 21 88 (fb 35 4194303) HT_ ?_
 refine pn 22 89 (fb 35 8388607) HT_ ?_
 refine pn 23 90 (fb 35 16777215) HT_ ?_
 refine pn 24 91 (fb 35 33554431) HT_ ?_
 refine pn 25 92 (fb 35 67108863) HT_ ?_
 refine pn 26 93 (fb 35 134217727) HT_ ?_
 refine pn 27 94 (fb 35 268435455) HT_ ?_
 refine pn 28 95 (fb 35 536870911) HT_ ?_
 refine pn 29 96 (fb 35 1073741823) HT_ ?_
 refine pn 30 97 (fb 35 2147483647) HT_ ?_
 refine pn 31 98 (fb 35 4294967295) HT_ ?_
 refine pn 32 99 (fb 35 8589934591) HT_ ?_
 refine pn 33 100 (fb 35 17179869183) HT_ ?_
 refine pu 34 101 (fb 35 34359738367) HT_ ?_
 refine done_ (done_of HT_.out (by kernel_rfl)) ?_
 try go_wp2
 go_meet
 case rel => exact ⟨_, _, rr, H', ⟨by have := HK1.out; have := HJ6.out; have := HK3.out; first | omega | exact Nat.le_refl _⟩, ⟨bG BK665⟩, ⟨bG BK667⟩, ⟨bG BK679⟩, ⟨by exact lT HB (gC GE665 (gC GE667 (gC GE679 gN)))⟩⟩
 }
 {
 rw [if_neg c63] at H
 have c63b0 : decide (100 < (((rd_T68 ((rd_T66 l0_0 x10_1).f4) x62_3).f2).size : Int)) = false := decide_eq_false c63
 have c63b1 : decide (100 < ((rd_T68 ((rd_T66 l0_0 x10_1).f4) x62_3).f2).size) = false := decide_eq_false (by omega)
 clear c63
 (first | rw [c63b0] | (simp only [i64_w, i32_w]; rw [c63b0]) | skip)
 by_cases c66 : x62_3 > 0
 {
 rw [if_pos c66] at H
 have c66b0 : decide (0 < x62_3) = true := decide_eq_true c66
 clear c66
 obtain ⟨ji67, hji67⟩ : ∃ j_ : Int, (wrap64 (x62_3 - 1)) = j_ := ⟨_, rfl⟩
 replace H : (if 0 ≤ (ji67) then (if (ji67) < (((rd_T66 l0_0 x10_1).f4).length : Int) then (impl_StateOk.j3 k3 l0_0 (l0_0.length : Int) x10_1 ((rd_T66 l0_0 x10_1).f4) (((rd_T66 l0_0 x10_1).f4).length : Int) x62_3 (decide (((rd_T68 ((rd_T66 l0_0 x10_1).f4) (ji67)).f0) ≥ ((rd_T68 ((rd_T66 l0_0 x10_1).f4) x62_3).f0))) l0_0 ((rd_T66 l0_0 x10_1).f0) ((rd_T66 l0_0 x10_1).f1) ((rd_T66 l0_0 x10_1).f2) ((rd_T66 l0_0 x10_1).f3) ((rd_T66 l0_0 x10_1).f4)) else (none)) else (none)) = some r := by first | (rw [hji67] at H; exact H) | (simp only [hji67] at H ⊢; exact H)
 (try rw [hji67] at A59)
 (try rw [hji67] at A61)
 have hji67w : (IntKind.i64.wrap (x62_3 - 1)) = ji67 := (i64_w _).trans hji67
 by_cases c68 : 0 ≤ (ji67)
 {
 rw [if_pos c68] at H
 have c68b0 := decide_eq_true c68
 clear c68
 by_cases c69 : (ji67) < (((rd_T66 l0_0 x10_1).f4).length : Int)
 {
 rw [if_pos c69] at H
 have c69b0 := decide_eq_true c69
 clear c69
 have H' := Aside0.mk H
 clear H
 try go_wp2
 obtain ⟨w70, eW_⟩ : ∃ w_, w_ = (((w55.setCell ⟨gb679, 0, none⟩ (.int .i64 ((rd_T68 ((rd_T66 l0_0 x10_1).f4) x62_3).f0))).setCell ⟨gb679, 1, none⟩ (.int .i64 ((rd_T68 ((rd_T66 l0_0 x10_1).f4) x62_3).f1))).setCell ⟨gb679, 2, none⟩ (.string ((rd_T68 ((rd_T66 l0_0 x10_1).f4) x62_3).f2))) := ⟨_, rfl⟩
 have n0_ : Aside0 (w70.heap[gb665]? = some (.cells #[.slice (some ad666) l0_0.length c0_0] 60 (0, 0))) := by rw [eW_]; exact ⟨bF BK665 (nC NB665_679 nN)⟩
 have n1_ : Aside0 (w70.heap[gb667]? = some (.cells #[.int .i64 ((rd_T66 l0_0 x10_1).f0), .string ((rd_T66 l0_0 x10_1).f1), .string ((rd_T66 l0_0 x10_1).f2), .int .i64 ((rd_T66 l0_0 x10_1).f3), .slice (some ad678) ((rd_T66 l0_0 x10_1).f4).length c666_4] 66 (0, 0))) := by rw [eW_]; exact ⟨bF BK667 (nC NB667_679 nN)⟩
 have n2_ : Aside0 (w70.heap[gb679]? = some (.cells #[.int .i64 ((rd_T68 ((rd_T66 l0_0 x10_1).f4) x62_3).f0), .int .i64 ((rd_T68 ((rd_T66 l0_0 x10_1).f4) x62_3).f1), .string ((rd_T68 ((rd_T66 l0_0 x10_1).f4) x62_3).f2)] 68 (0, 0))) := by rw [eW_]; exact ⟨bW BK679⟩
 have n3_ : Aside0 (Below w.heap.size w w70) := by rw [eW_]; exact ⟨by exact lT HB (gC GE665 (gC GE667 (gC GE679 gN)))⟩
 try clear BK665 BK667 BK679 HB
 rw [← eW_];clear eW_
 have BK665 := n0_
 have BK667 := n1_
 have BK679 := n2_
 have HB := n3_
 clear n0_ n1_ n2_ n3_
 replace BK665 := ak (blk_drew BK665.out)
 replace BK667 := ak (blk_drew BK667.out)
 replace BK679 := ak (blk_drew BK679.out)
 replace HB := ak (below_drew1 HB.out)
 have p682 : 0 ≤ ((ji67) : Int) := oda
 have q682 : (ji67) < (((rd_T66 l0_0 x10_1).f4).length : Int) := oda
 obtain ⟨ad682, e682, hx682_0, hx682_1, hx682_2⟩ := at_T68 HR666_4.out (ji67) p682 q682
 have hw682_2 := hx682_2
 have hw682_1 := hx682_1
 have hw682_0 := hx682_0
 obtain rfl : ad678 = ad682 := (by injection e682)
 replace hx682_0 := clB HB hx682_0
 replace hx682_1 := clB HB hx682_1
 replace hx682_2 := clB HB hx682_2
 replace p682 := eq_true p682
 replace q682 := eq_true q682
 refine start_ (n := 35) (S := fun w' => w'.cell? ⟨gb679, 0, none⟩ = some (.int .i64 ((rd_T68 ((rd_T66 l0_0 x10_1).f4) x62_3).f0)) ∧ w'.cell? ⟨gb679, 1, none⟩ = some (.int .i64 ((rd_T68 ((rd_T66 l0_0 x10_1).f4) x62_3).f1)) ∧ w'.cell? ⟨gb679, 2, none⟩ = some (.string ((rd_T68 ((rd_T66 l0_0 x10_1).f4) x62_3).f2)) ∧ w'.cell? ⟨gb667, 0, none⟩ = some (.int .i64 ((rd_T66 l0_0 x10_1).f0)) ∧ w'.cell? ⟨gb667, 1, none⟩ = some (.string ((rd_T66 l0_0 x10_1).f1)) ∧ w'.cell? ⟨gb667, 2, none⟩ = some (.string ((rd_T66 l0_0 x10_1).f2)) ∧ w'.cell? ⟨gb667, 3, none⟩ = some (.int .i64 ((rd_T66 l0_0 x10_1).f3)) ∧ w'.cell? ⟨gb667, 4, none⟩ = some (.slice (some ad678) ((rd_T66 l0_0 x10_1).f4).length c666_4) ∧ w'.cell? (ad678.add (((ji67)).toNat * 3)) = some (.int .i64 ((rd_T68 ((rd_T66 l0_0 x10_1).f4) (ji67)).f0)) ∧ w'.cell? ⟨(ad678.add (((ji67)).toNat * 3)).block, (ad678.add (((ji67)).toNat * 3)).off + 1, none⟩ = some (.int .i64 ((rd_T68 ((rd_T66 l0_0 x10_1).f4) (ji67)).f1)) ∧ w'.cell? ⟨(ad678.add (((ji67)).toNat * 3)).block, (ad678.add (((ji67)).toNat * 3)).off + 2, none⟩ = some (.string ((rd_T68 ((rd_T66 l0_0 x10_1).f4) (ji67)).f2))) (ds := []) (fb 35 0) (by kernel_rfl) rfl rfl ⟨bc BK679 0, bc BK679 1, bc BK679 2, bc BK667 0, bc BK667 1, bc BK667 2, bc BK667 3, bc BK667 4, (clB HB hw682_0 :), (clB HB hw682_1 :), (clB HB hw682_2 :)⟩ (fun hHeld => ?_); refine with_tabW impl_StateOk.tab11 impl_StateOk.bits11 (fun HT_ HW_ => ?_)
 generalize w70.drew = w71 at BK665 BK667 BK679 HB hx682_0 hx682_1 hx682_2 hHeld ⊢
 refine pu 0 67 (fb 35 1) HT_ ?_
 refine pu 2 69 (fb 35 5) HT_ ?_
 refine tk 1 68 (fb 35 7) HT_ HW_ hHeld ?_
 refine tk 3 70 (fb 35 15) HT_ HW_ hHeld ?_
 refine pu 4 71 (fb 35 31) HT_ ?_
 refine on 5 (some 72) (fb 35 63) HT_ (fun K hK => ?_)
 refine gs Try.func63 #[.int .i64 ((rd_T68 ((rd_T66 l0_0 x10_1).f4) x62_3).f0), .int .i64 1, .int .i64 (wrap64 (((rd_T66 l0_0 x10_1).f3) - 1))] ?_
 with_reducible refine (impl_in.calls ((rd_T68 ((rd_T66 l0_0 x10_1).f4) x62_3).f0) 1 (wrap64 (((rd_T66 l0_0 x10_1).f3) - 1)) _ _ A59.out).mono ?_
 rintro e w' ⟨rfl, ⟨nd, rfl⟩⟩
 refine ⟨_, rfl, ?_⟩
 refine hK.out _ _ ⟨bc BK679 0, bc BK679 1, bc BK679 2, bc BK667 0, bc BK667 1, bc BK667 2, bc BK667 3, bc BK667 4, (clB HB hw682_0 :), (clB HB hw682_1 :), (clB HB hw682_2 :)⟩ (fun hHeld => ?_)
 clear hK K
 refine nm ?_
 refine pu 6 73 (fb 35 127) HT_ ?_
 refine pu 7 74 (fb 35 255) HT_ ?_
 refine pu 8 75 (fb 35 511) HT_ ?_
 refine tk 9 76 (fb 35 1023) HT_ HW_ hHeld ?_
 refine on 10 (some 77) (fb 35 2047) HT_ (fun K hK => ?_)
 refine gs Try.func63 #[.int .i64 ((rd_T68 ((rd_T66 l0_0 x10_1).f4) x62_3).f1), .int .i64 0, .int .i64 7] ?_
 with_reducible refine (impl_in.calls ((rd_T68 ((rd_T66 l0_0 x10_1).f4) x62_3).f1) 0 7 _ _ A61.out).mono ?_
 rintro e w' ⟨rfl, ⟨nd, rfl⟩⟩
 refine ⟨_, rfl, ?_⟩
 refine hK.out _ _ ⟨bc BK679 0, bc BK679 1, bc BK679 2, bc BK667 0, bc BK667 1, bc BK667 2, bc BK667 3, bc BK667 4, (clB HB hw682_0 :), (clB HB hw682_1 :), (clB HB hw682_2 :)⟩ (fun hHeld => ?_)
 clear hK K
 refine nm ?_
 refine pu 11 78 (fb 35 4095) HT_ ?_
 refine pu 12 79 (fb 35 8191) HT_ ?_
 refine pu 13 80 (fb 35 16383) HT_ ?_
 refine pu 14 81 (fb 35 32767) HT_ ?_
 refine tk 15 82 (fb 35 65535) HT_ HW_ hHeld ?_
 refine pu 16 83 (fb 35 131071) HT_ ?_
 refine pu 17 84 (fb 35 262143) HT_ ?_
 refine pu 18 85 (fb 35 524287) HT_ ?_
 refine pu 19 86 (fb 35 1048575) HT_ ?_
 refine pu 20 87 (fb 35 2097151) HT_ ?_
 refine pu 21 88 (fb 35 4194303) HT_ ?_
 refine pu 22 89 (fb 35 8388607) HT_ ?_
 refine pu 23 90 (fb 35 16777215) HT_ ?_
 refine pu 25 92 (fb 35 50331647) HT_ ?_
 refine pu 26 93 (fb 35 117440511) HT_ ?_
 refine pu 30 97 (fb 35 1191182335) HT_ ?_
 refine tk 24 91 (fb 35 1207959551) HT_ HW_ hHeld ?_
 refine pu 27 94 (fb 35 1342177279) HT_ ?_
 refine pu 28 95 (fb 35 1610612735) HT_ ?_
 refine tk 29 96 (fb 35 2147483647) HT_ HW_ hHeld ?_
 refine tk 31 98 (fb 35 4294967295) HT_ HW_ hHeld ?_
 refine pu 32 99 (fb 35 8589934591) HT_ ?_
 refine pu 33 100 (fb 35 17179869183) HT_ ?_
 refine pu 34 101 (fb 35 34359738367) HT_ ?_
 refine done_ (done_of HT_.out (by kernel_rfl)) ?_
 try go_wp2
 go_meet
 case rel => exact ⟨_, (decide (((rd_T68 ((rd_T66 l0_0 x10_1).f4) (ji67)).f0) ≥ ((rd_T68 ((rd_T66 l0_0 x10_1).f4) x62_3).f0))), (by first | rfl | (simp; done) | (simp only [← hji67] <;> (first | rfl | simp)) | (simp [*]; done)), H', ⟨by have := HK1.out; have := HJ6.out; have := HK3.out; first | omega | exact Nat.le_refl _⟩, ⟨bG BK665⟩, ⟨bG BK667⟩, ⟨bG BK679⟩, ⟨by exact lT HB (gC GE665 (gC GE667 (gC GE679 gN)))⟩⟩
 }
 {rw [if_neg c69] at H;exact absurd H (by simp)}
 }
 {rw [if_neg c68] at H;exact absurd H (by simp)}
 }
 {
 rw [if_neg c66] at H
 have c66b0 : decide (0 < x62_3) = false := decide_eq_false c66
 clear c66
 have H' := Aside0.mk H
 clear H
 try go_wp2
 obtain ⟨w72, eW_⟩ : ∃ w_, w_ = (((w55.setCell ⟨gb679, 0, none⟩ (.int .i64 ((rd_T68 ((rd_T66 l0_0 x10_1).f4) x62_3).f0))).setCell ⟨gb679, 1, none⟩ (.int .i64 ((rd_T68 ((rd_T66 l0_0 x10_1).f4) x62_3).f1))).setCell ⟨gb679, 2, none⟩ (.string ((rd_T68 ((rd_T66 l0_0 x10_1).f4) x62_3).f2))) := ⟨_, rfl⟩
 have n0_ : Aside0 (w72.heap[gb665]? = some (.cells #[.slice (some ad666) l0_0.length c0_0] 60 (0, 0))) := by rw [eW_]; exact ⟨bF BK665 (nC NB665_679 nN)⟩
 have n1_ : Aside0 (w72.heap[gb667]? = some (.cells #[.int .i64 ((rd_T66 l0_0 x10_1).f0), .string ((rd_T66 l0_0 x10_1).f1), .string ((rd_T66 l0_0 x10_1).f2), .int .i64 ((rd_T66 l0_0 x10_1).f3), .slice (some ad678) ((rd_T66 l0_0 x10_1).f4).length c666_4] 66 (0, 0))) := by rw [eW_]; exact ⟨bF BK667 (nC NB667_679 nN)⟩
 have n2_ : Aside0 (w72.heap[gb679]? = some (.cells #[.int .i64 ((rd_T68 ((rd_T66 l0_0 x10_1).f4) x62_3).f0), .int .i64 ((rd_T68 ((rd_T66 l0_0 x10_1).f4) x62_3).f1), .string ((rd_T68 ((rd_T66 l0_0 x10_1).f4) x62_3).f2)] 68 (0, 0))) := by rw [eW_]; exact ⟨bW BK679⟩
 have n3_ : Aside0 (Below w.heap.size w w72) := by rw [eW_]; exact ⟨by exact lT HB (gC GE665 (gC GE667 (gC GE679 gN)))⟩
 try clear BK665 BK667 BK679 HB
 rw [← eW_];clear eW_
 have BK665 := n0_
 have BK667 := n1_
 have BK679 := n2_
 have HB := n3_
 clear n0_ n1_ n2_ n3_
 replace BK665 := ak (blk_drew BK665.out)
 replace BK667 := ak (blk_drew BK667.out)
 replace BK679 := ak (blk_drew BK679.out)
 replace HB := ak (below_drew1 HB.out)
 refine start_ (n := 35) (S := fun w' => w'.cell? ⟨gb679, 0, none⟩ = some (.int .i64 ((rd_T68 ((rd_T66 l0_0 x10_1).f4) x62_3).f0)) ∧ w'.cell? ⟨gb679, 1, none⟩ = some (.int .i64 ((rd_T68 ((rd_T66 l0_0 x10_1).f4) x62_3).f1)) ∧ w'.cell? ⟨gb679, 2, none⟩ = some (.string ((rd_T68 ((rd_T66 l0_0 x10_1).f4) x62_3).f2)) ∧ w'.cell? ⟨gb667, 0, none⟩ = some (.int .i64 ((rd_T66 l0_0 x10_1).f0)) ∧ w'.cell? ⟨gb667, 1, none⟩ = some (.string ((rd_T66 l0_0 x10_1).f1)) ∧ w'.cell? ⟨gb667, 2, none⟩ = some (.string ((rd_T66 l0_0 x10_1).f2)) ∧ w'.cell? ⟨gb667, 3, none⟩ = some (.int .i64 ((rd_T66 l0_0 x10_1).f3)) ∧ w'.cell? ⟨gb667, 4, none⟩ = some (.slice (some ad678) ((rd_T66 l0_0 x10_1).f4).length c666_4)) (ds := []) (fb 35 0) (by kernel_rfl) rfl rfl ⟨bc BK679 0, bc BK679 1, bc BK679 2, bc BK667 0, bc BK667 1, bc BK667 2, bc BK667 3, bc BK667 4⟩ (fun hHeld => ?_); refine with_tabW impl_StateOk.tab11 impl_StateOk.bits11 (fun HT_ HW_ => ?_)
 generalize w72.drew = w73 at BK665 BK667 BK679 HB hHeld ⊢
 refine pu 0 67 (fb 35 1) HT_ ?_
 refine pu 2 69 (fb 35 5) HT_ ?_
 refine tk 1 68 (fb 35 7) HT_ HW_ hHeld ?_
 refine tk 3 70 (fb 35 15) HT_ HW_ hHeld ?_
 refine pu 4 71 (fb 35 31) HT_ ?_
 refine on 5 (some 72) (fb 35 63) HT_ (fun K hK => ?_)
 refine gs Try.func63 #[.int .i64 ((rd_T68 ((rd_T66 l0_0 x10_1).f4) x62_3).f0), .int .i64 1, .int .i64 (wrap64 (((rd_T66 l0_0 x10_1).f3) - 1))] ?_
 with_reducible refine (impl_in.calls ((rd_T68 ((rd_T66 l0_0 x10_1).f4) x62_3).f0) 1 (wrap64 (((rd_T66 l0_0 x10_1).f3) - 1)) _ _ A59.out).mono ?_
 rintro e w' ⟨rfl, ⟨nd, rfl⟩⟩
 refine ⟨_, rfl, ?_⟩
 refine hK.out _ _ ⟨bc BK679 0, bc BK679 1, bc BK679 2, bc BK667 0, bc BK667 1, bc BK667 2, bc BK667 3, bc BK667 4⟩ (fun hHeld => ?_)
 clear hK K
 refine nm ?_
 refine pu 6 73 (fb 35 127) HT_ ?_
 refine pu 7 74 (fb 35 255) HT_ ?_
 refine pu 8 75 (fb 35 511) HT_ ?_
 refine tk 9 76 (fb 35 1023) HT_ HW_ hHeld ?_
 refine on 10 (some 77) (fb 35 2047) HT_ (fun K hK => ?_)
 refine gs Try.func63 #[.int .i64 ((rd_T68 ((rd_T66 l0_0 x10_1).f4) x62_3).f1), .int .i64 0, .int .i64 7] ?_
 with_reducible refine (impl_in.calls ((rd_T68 ((rd_T66 l0_0 x10_1).f4) x62_3).f1) 0 7 _ _ A61.out).mono ?_
 rintro e w' ⟨rfl, ⟨nd, rfl⟩⟩
 refine ⟨_, rfl, ?_⟩
 refine hK.out _ _ ⟨bc BK679 0, bc BK679 1, bc BK679 2, bc BK667 0, bc BK667 1, bc BK667 2, bc BK667 3, bc BK667 4⟩ (fun hHeld => ?_)
 clear hK K
 refine nm ?_
 refine pu 11 78 (fb 35 4095) HT_ ?_
 refine pu 12 79 (fb 35 8191) HT_ ?_
 refine pu 13 80 (fb 35 16383) HT_ ?_
 refine pu 14 81 (fb 35 32767) HT_ ?_
 refine tk 15 82 (fb 35 65535) HT_ HW_ hHeld ?_
 refine pu 16 83 (fb 35 131071) HT_ ?_
 refine pu 17 84 (fb 35 262143) HT_ ?_
 refine pu 18 85 (fb 35 524287) HT_ ?_
 refine pu 19 86 (fb 35 1048575) HT_ ?_
 refine pu 20 87 (fb 35 2097151) HT_ ?_
 refine pu 21 88 (fb 35 4194303) HT_ ?_
 refine pu 22 89 (fb 35 8388607) HT_ ?_
 refine pn 23 90 (fb 35 16777215) HT_ ?_
 refine pn 24 91 (fb 35 33554431) HT_ ?_
 refine pn 25 92 (fb 35 67108863) HT_ ?_
 refine pn 26 93 (fb 35 134217727) HT_ ?_
 refine pn 27 94 (fb 35 268435455) HT_ ?_
 refine pn 28 95 (fb 35 536870911) HT_ ?_
 refine pn 29 96 (fb 35 1073741823) HT_ ?_
 refine pn 30 97 (fb 35 2147483647) HT_ ?_
 refine pn 31 98 (fb 35 4294967295) HT_ ?_
 refine pn 32 99 (fb 35 8589934591) HT_ ?_
 refine pu 33 100 (fb 35 17179869183) HT_ ?_
 refine pu 34 101 (fb 35 34359738367) HT_ ?_
 refine done_ (done_of HT_.out (by kernel_rfl)) ?_
 try go_wp2
 go_meet
 case rel => exact ⟨_, _, rr, H', ⟨by have := HK1.out; have := HJ6.out; have := HK3.out; first | omega | exact Nat.le_refl _⟩, ⟨bG BK665⟩, ⟨bG BK667⟩, ⟨bG BK679⟩, ⟨by exact lT HB (gC GE665 (gC GE667 (gC GE679 gN)))⟩⟩
 }
 }
 }
 {
 replace c62 := Bool.eq_false_iff.mpr c62
 subst c62
 rw [if_neg (show ¬ (false = true) by decide)] at H
 have H' := Aside0.mk H
 clear H
 try go_wp2
 obtain ⟨w74, eW_⟩ : ∃ w_, w_ = (((w55.setCell ⟨gb679, 0, none⟩ (.int .i64 ((rd_T68 ((rd_T66 l0_0 x10_1).f4) x62_3).f0))).setCell ⟨gb679, 1, none⟩ (.int .i64 ((rd_T68 ((rd_T66 l0_0 x10_1).f4) x62_3).f1))).setCell ⟨gb679, 2, none⟩ (.string ((rd_T68 ((rd_T66 l0_0 x10_1).f4) x62_3).f2))) := ⟨_, rfl⟩
 have n0_ : Aside0 (w74.heap[gb665]? = some (.cells #[.slice (some ad666) l0_0.length c0_0] 60 (0, 0))) := by rw [eW_]; exact ⟨bF BK665 (nC NB665_679 nN)⟩
 have n1_ : Aside0 (w74.heap[gb667]? = some (.cells #[.int .i64 ((rd_T66 l0_0 x10_1).f0), .string ((rd_T66 l0_0 x10_1).f1), .string ((rd_T66 l0_0 x10_1).f2), .int .i64 ((rd_T66 l0_0 x10_1).f3), .slice (some ad678) ((rd_T66 l0_0 x10_1).f4).length c666_4] 66 (0, 0))) := by rw [eW_]; exact ⟨bF BK667 (nC NB667_679 nN)⟩
 have n2_ : Aside0 (w74.heap[gb679]? = some (.cells #[.int .i64 ((rd_T68 ((rd_T66 l0_0 x10_1).f4) x62_3).f0), .int .i64 ((rd_T68 ((rd_T66 l0_0 x10_1).f4) x62_3).f1), .string ((rd_T68 ((rd_T66 l0_0 x10_1).f4) x62_3).f2)] 68 (0, 0))) := by rw [eW_]; exact ⟨bW BK679⟩
 have n3_ : Aside0 (Below w.heap.size w w74) := by rw [eW_]; exact ⟨by exact lT HB (gC GE665 (gC GE667 (gC GE679 gN)))⟩
 try clear BK665 BK667 BK679 HB
 rw [← eW_];clear eW_
 have BK665 := n0_
 have BK667 := n1_
 have BK679 := n2_
 have HB := n3_
 clear n0_ n1_ n2_ n3_
 replace BK665 := ak (blk_drew BK665.out)
 replace BK667 := ak (blk_drew BK667.out)
 replace BK679 := ak (blk_drew BK679.out)
 replace HB := ak (below_drew1 HB.out)
 refine start_ (n := 35) (S := fun w' => w'.cell? ⟨gb679, 0, none⟩ = some (.int .i64 ((rd_T68 ((rd_T66 l0_0 x10_1).f4) x62_3).f0)) ∧ w'.cell? ⟨gb679, 1, none⟩ = some (.int .i64 ((rd_T68 ((rd_T66 l0_0 x10_1).f4) x62_3).f1)) ∧ w'.cell? ⟨gb679, 2, none⟩ = some (.string ((rd_T68 ((rd_T66 l0_0 x10_1).f4) x62_3).f2)) ∧ w'.cell? ⟨gb667, 0, none⟩ = some (.int .i64 ((rd_T66 l0_0 x10_1).f0)) ∧ w'.cell? ⟨gb667, 1, none⟩ = some (.string ((rd_T66 l0_0 x10_1).f1)) ∧ w'.cell? ⟨gb667, 2, none⟩ = some (.string ((rd_T66 l0_0 x10_1).f2)) ∧ w'.cell? ⟨gb667, 3, none⟩ = some (.int .i64 ((rd_T66 l0_0 x10_1).f3)) ∧ w'.cell? ⟨gb667, 4, none⟩ = some (.slice (some ad678) ((rd_T66 l0_0 x10_1).f4).length c666_4)) (ds := []) (fb 35 0) (by kernel_rfl) rfl rfl ⟨bc BK679 0, bc BK679 1, bc BK679 2, bc BK667 0, bc BK667 1, bc BK667 2, bc BK667 3, bc BK667 4⟩ (fun hHeld => ?_); refine with_tabW impl_StateOk.tab11 impl_StateOk.bits11 (fun HT_ HW_ => ?_)
 generalize w74.drew = w75 at BK665 BK667 BK679 HB hHeld ⊢
 refine pu 0 67 (fb 35 1) HT_ ?_
 refine pu 2 69 (fb 35 5) HT_ ?_
 refine tk 1 68 (fb 35 7) HT_ HW_ hHeld ?_
 refine tk 3 70 (fb 35 15) HT_ HW_ hHeld ?_
 refine pu 4 71 (fb 35 31) HT_ ?_
 refine on 5 (some 72) (fb 35 63) HT_ (fun K hK => ?_)
 refine gs Try.func63 #[.int .i64 ((rd_T68 ((rd_T66 l0_0 x10_1).f4) x62_3).f0), .int .i64 1, .int .i64 (wrap64 (((rd_T66 l0_0 x10_1).f3) - 1))] ?_
 with_reducible refine (impl_in.calls ((rd_T68 ((rd_T66 l0_0 x10_1).f4) x62_3).f0) 1 (wrap64 (((rd_T66 l0_0 x10_1).f3) - 1)) _ _ A59.out).mono ?_
 rintro e w' ⟨rfl, ⟨nd, rfl⟩⟩
 refine ⟨_, rfl, ?_⟩
 refine hK.out _ _ ⟨bc BK679 0, bc BK679 1, bc BK679 2, bc BK667 0, bc BK667 1, bc BK667 2, bc BK667 3, bc BK667 4⟩ (fun hHeld => ?_)
 clear hK K
 refine nm ?_
 refine pu 6 73 (fb 35 127) HT_ ?_
 refine pu 7 74 (fb 35 255) HT_ ?_
 refine pu 8 75 (fb 35 511) HT_ ?_
 refine tk 9 76 (fb 35 1023) HT_ HW_ hHeld ?_
 refine on 10 (some 77) (fb 35 2047) HT_ (fun K hK => ?_)
 refine gs Try.func63 #[.int .i64 ((rd_T68 ((rd_T66 l0_0 x10_1).f4) x62_3).f1), .int .i64 0, .int .i64 7] ?_
 with_reducible refine (impl_in.calls ((rd_T68 ((rd_T66 l0_0 x10_1).f4) x62_3).f1) 0 7 _ _ A61.out).mono ?_
 rintro e w' ⟨rfl, ⟨nd, rfl⟩⟩
 refine ⟨_, rfl, ?_⟩
 refine hK.out _ _ ⟨bc BK679 0, bc BK679 1, bc BK679 2, bc BK667 0, bc BK667 1, bc BK667 2, bc BK667 3, bc BK667 4⟩ (fun hHeld => ?_)
 clear hK K
 refine nm ?_
 refine pu 11 78 (fb 35 4095) HT_ ?_
 refine pu 12 79 (fb 35 8191) HT_ ?_
 refine pu 13 80 (fb 35 16383) HT_ ?_
 refine pn 14 81 (fb 35 32767) HT_ ?_
 refine pn 15 82 (fb 35 65535) HT_ ?_
 refine pn 16 83 (fb 35 131071) HT_ ?_
 refine pn 17 84 (fb 35 262143) HT_ ?_
 refine pu 18 85 (fb 35 524287) HT_ ?_
 refine pu 19 86 (fb 35 1048575) HT_ ?_
 refine pn 20 87 (fb 35 2097151) HT_ ?_
 refine pn 21 88 (fb 35 4194303) HT_ ?_
 refine pn 22 89 (fb 35 8388607) HT_ ?_
 refine pn 23 90 (fb 35 16777215) HT_ ?_
 refine pn 24 91 (fb 35 33554431) HT_ ?_
 refine pn 25 92 (fb 35 67108863) HT_ ?_
 refine pn 26 93 (fb 35 134217727) HT_ ?_
 refine pn 27 94 (fb 35 268435455) HT_ ?_
 refine pn 28 95 (fb 35 536870911) HT_ ?_
 refine pn 29 96 (fb 35 1073741823) HT_ ?_
 refine pn 30 97 (fb 35 2147483647) HT_ ?_
 refine pn 31 98 (fb 35 4294967295) HT_ ?_
 refine pn 32 99 (fb 35 8589934591) HT_ ?_
 refine pn 33 100 (fb 35 17179869183) HT_ ?_
 refine pu 34 101 (fb 35 34359738367) HT_ ?_
 refine done_ (done_of HT_.out (by kernel_rfl)) ?_
 try go_wp2
 go_meet
 case rel => exact ⟨_, _, rr, H', ⟨by have := HK1.out; have := HJ6.out; have := HK3.out; first | omega | exact Nat.le_refl _⟩, ⟨bG BK665⟩, ⟨bG BK667⟩, ⟨bG BK679⟩, ⟨by exact lT HB (gC GE665 (gC GE667 (gC GE679 gN)))⟩⟩
 }
 }
 {
 replace c60 := Bool.eq_false_iff.mpr c60
 subst c60
 rw [if_neg (show ¬ (false = true) by decide)] at H
 have H' := Aside0.mk H
 clear H
 try go_wp2
 obtain ⟨w76, eW_⟩ : ∃ w_, w_ = (((w55.setCell ⟨gb679, 0, none⟩ (.int .i64 ((rd_T68 ((rd_T66 l0_0 x10_1).f4) x62_3).f0))).setCell ⟨gb679, 1, none⟩ (.int .i64 ((rd_T68 ((rd_T66 l0_0 x10_1).f4) x62_3).f1))).setCell ⟨gb679, 2, none⟩ (.string ((rd_T68 ((rd_T66 l0_0 x10_1).f4) x62_3).f2))) := ⟨_, rfl⟩
 have n0_ : Aside0 (w76.heap[gb665]? = some (.cells #[.slice (some ad666) l0_0.length c0_0] 60 (0, 0))) := by rw [eW_]; exact ⟨bF BK665 (nC NB665_679 nN)⟩
 have n1_ : Aside0 (w76.heap[gb667]? = some (.cells #[.int .i64 ((rd_T66 l0_0 x10_1).f0), .string ((rd_T66 l0_0 x10_1).f1), .string ((rd_T66 l0_0 x10_1).f2), .int .i64 ((rd_T66 l0_0 x10_1).f3), .slice (some ad678) ((rd_T66 l0_0 x10_1).f4).length c666_4] 66 (0, 0))) := by rw [eW_]; exact ⟨bF BK667 (nC NB667_679 nN)⟩
 have n2_ : Aside0 (w76.heap[gb679]? = some (.cells #[.int .i64 ((rd_T68 ((rd_T66 l0_0 x10_1).f4) x62_3).f0), .int .i64 ((rd_T68 ((rd_T66 l0_0 x10_1).f4) x62_3).f1), .string ((rd_T68 ((rd_T66 l0_0 x10_1).f4) x62_3).f2)] 68 (0, 0))) := by rw [eW_]; exact ⟨bW BK679⟩
 have n3_ : Aside0 (Below w.heap.size w w76) := by rw [eW_]; exact ⟨by exact lT HB (gC GE665 (gC GE667 (gC GE679 gN)))⟩
 try clear BK665 BK667 BK679 HB
 rw [← eW_];clear eW_
 have BK665 := n0_
 have BK667 := n1_
 have BK679 := n2_
 have HB := n3_
 clear n0_ n1_ n2_ n3_
 replace BK665 := ak (blk_drew BK665.out)
 replace BK667 := ak (blk_drew BK667.out)
 replace BK679 := ak (blk_drew BK679.out)
 replace HB := ak (below_drew1 HB.out)
 refine start_ (n := 35) (S := fun w' => w'.cell? ⟨gb679, 0, none⟩ = some (.int .i64 ((rd_T68 ((rd_T66 l0_0 x10_1).f4) x62_3).f0)) ∧ w'.cell? ⟨gb679, 1, none⟩ = some (.int .i64 ((rd_T68 ((rd_T66 l0_0 x10_1).f4) x62_3).f1)) ∧ w'.cell? ⟨gb679, 2, none⟩ = some (.string ((rd_T68 ((rd_T66 l0_0 x10_1).f4) x62_3).f2)) ∧ w'.cell? ⟨gb667, 0, none⟩ = some (.int .i64 ((rd_T66 l0_0 x10_1).f0)) ∧ w'.cell? ⟨gb667, 1, none⟩ = some (.string ((rd_T66 l0_0 x10_1).f1)) ∧ w'.cell? ⟨gb667, 2, none⟩ = some (.string ((rd_T66 l0_0 x10_1).f2)) ∧ w'.cell? ⟨gb667, 3, none⟩ = some (.int .i64 ((rd_T66 l0_0 x10_1).f3)) ∧ w'.cell? ⟨gb667, 4, none⟩ = some (.slice (some ad678) ((rd_T66 l0_0 x10_1).f4).length c666_4)) (ds := []) (fb 35 0) (by kernel_rfl) rfl rfl ⟨bc BK679 0, bc BK679 1, bc BK679 2, bc BK667 0, bc BK667 1, bc BK667 2, bc BK667 3, bc BK667 4⟩ (fun hHeld => ?_); refine with_tabW impl_StateOk.tab11 impl_StateOk.bits11 (fun HT_ HW_ => ?_)
 generalize w76.drew = w77 at BK665 BK667 BK679 HB hHeld ⊢
 refine pu 0 67 (fb 35 1) HT_ ?_
 refine pu 2 69 (fb 35 5) HT_ ?_
 refine tk 1 68 (fb 35 7) HT_ HW_ hHeld ?_
 refine tk 3 70 (fb 35 15) HT_ HW_ hHeld ?_
 refine pu 4 71 (fb 35 31) HT_ ?_
 refine on 5 (some 72) (fb 35 63) HT_ (fun K hK => ?_)
 refine gs Try.func63 #[.int .i64 ((rd_T68 ((rd_T66 l0_0 x10_1).f4) x62_3).f0), .int .i64 1, .int .i64 (wrap64 (((rd_T66 l0_0 x10_1).f3) - 1))] ?_
 with_reducible refine (impl_in.calls ((rd_T68 ((rd_T66 l0_0 x10_1).f4) x62_3).f0) 1 (wrap64 (((rd_T66 l0_0 x10_1).f3) - 1)) _ _ A59.out).mono ?_
 rintro e w' ⟨rfl, ⟨nd, rfl⟩⟩
 refine ⟨_, rfl, ?_⟩
 refine hK.out _ _ ⟨bc BK679 0, bc BK679 1, bc BK679 2, bc BK667 0, bc BK667 1, bc BK667 2, bc BK667 3, bc BK667 4⟩ (fun hHeld => ?_)
 clear hK K
 refine nm ?_
 refine pu 6 73 (fb 35 127) HT_ ?_
 refine pu 7 74 (fb 35 255) HT_ ?_
 refine pn 8 75 (fb 35 511) HT_ ?_
 refine pn 9 76 (fb 35 1023) HT_ ?_
 refine pn 10 77 (fb 35 2047) HT_ ?_
 refine pn 11 78 (fb 35 4095) HT_ ?_
 refine pu 12 79 (fb 35 8191) HT_ ?_
 refine pu 13 80 (fb 35 16383) HT_ ?_
 refine pn 14 81 (fb 35 32767) HT_ ?_
 refine pn 15 82 (fb 35 65535) HT_ ?_
 refine pn 16 83 (fb 35 131071) HT_ ?_
 refine pn 17 84 (fb 35 262143) HT_ ?_
 refine pu 18 85 (fb 35 524287) HT_ ?_
 refine pu 19 86 (fb 35 1048575) HT_ ?_
 refine pn 20 87 (fb 35 2097151) HT_ ?_
 refine pn 21 88 (fb 35 4194303) HT_ ?_
 refine pn 22 89 (fb 35 8388607) HT_ ?_
 refine pn 23 90 (fb 35 16777215) HT_ ?_
 refine pn 24 91 (fb 35 33554431) HT_ ?_
 refine pn 25 92 (fb 35 67108863) HT_ ?_
 refine pn 26 93 (fb 35 134217727) HT_ ?_
 refine pn 27 94 (fb 35 268435455) HT_ ?_
 refine pn 28 95 (fb 35 536870911) HT_ ?_
 refine pn 29 96 (fb 35 1073741823) HT_ ?_
 refine pn 30 97 (fb 35 2147483647) HT_ ?_
 refine pn 31 98 (fb 35 4294967295) HT_ ?_
 refine pn 32 99 (fb 35 8589934591) HT_ ?_
 refine pn 33 100 (fb 35 17179869183) HT_ ?_
 refine pu 34 101 (fb 35 34359738367) HT_ ?_
 refine done_ (done_of HT_.out (by kernel_rfl)) ?_
 try go_wp2
 go_meet
 case rel => exact ⟨_, _, rr, H', ⟨by have := HK1.out; have := HJ6.out; have := HK3.out; first | omega | exact Nat.le_refl _⟩, ⟨bG BK665⟩, ⟨bG BK667⟩, ⟨bG BK679⟩, ⟨by exact lT HB (gC GE665 (gC GE667 (gC GE679 gN)))⟩⟩
 }
 }
 case rest =>
  skip;{
 clear HC54
 try clear c6
 obtain ⟨kq, x101_53, rfl, HA, HJ53, BK665, BK667, BK679, HB⟩ := hcut
 cases kq with
 | zero => exact absurd HA.out (by simp [impl_StateOk.j3])
 | succ kj53 =>
  skip;{
 have H := HA.out
 clear HA
 simp only [impl_StateOk.j3] at H
 by_cases c78 : x101_53 = true
 {
 subst c78
 rw [if_pos rfl] at H
 obtain rfl := Option.some.inj H
 go_wp2
 go_ret
 exact ⟨ew, by exact lT HB (gC GE665 (gC GE667 (gC GE679 gN)))⟩
 }
 {
 replace c78 := Bool.eq_false_iff.mpr c78
 subst c78
 rw [if_neg (show ¬ (false = true) by decide)] at H
 have H' := Aside0.mk H
 clear H
 go_wp2
 go_roundg kj53
 case measure => have := HK1.out; have := HJ6.out; have := HK3.out; have := HJ53.out; omega
 case rel => exact ⟨_, rr, H', ⟨by have := HK1.out; have := HJ6.out; have := HK3.out; have := HJ53.out; omega⟩, ⟨bG BK665⟩, ⟨bG BK667⟩, ⟨by exact lT HB (gC GE665 (gC GE667 (gC GE679 gN)))⟩⟩
 }
 }
 }
 }
 {rw [if_neg c53] at H;exact absurd H (by simp)}
 }
 {rw [if_neg c52] at H;exact absurd H (by simp)}
 }
 {
 rw [if_neg c51] at H
 have c51b0 := decide_eq_false c51
 clear c51
 have H' := Aside0.mk H
 clear H
 go_wp2
 go_roundg k3
 case measure => have := HK1.out; have := HJ6.out; have := HK3.out; omega
 case rel => exact ⟨_, rr, H', ⟨by have := HK1.out; have := HJ6.out; have := HK3.out; omega⟩, ⟨bG BK665⟩, ⟨by exact lT HB (gC GE665 (gC GE667 gN))⟩⟩
 }
 }
 }
 }
 }
 {rw [if_neg c37] at H;exact absurd H (by simp)}
 }
 {rw [if_neg c36] at H;exact absurd H (by simp)}
 }
 }
 }
 }
 {rw [if_neg c6] at H;exact absurd H (by simp)}
 }
 {rw [if_neg c5] at H;exact absurd H (by simp)}
 }
 {
 rw [if_neg c4] at H
 have c4b0 := decide_eq_false c4
 clear c4
 obtain rfl := Option.some.inj H
 go_wp2
 go_ret
 exact ⟨ew, by exact lT HB (gC GE665 gN)⟩
 }
 }
 }
end Go.Proofs.Ytagkjeldheiejaa.PFnStatesTold
