-- printed
import Derived.Test.YtagkjeldheiejaaPFnStatesToldx4
import Derived.Test.YtagkjeldheiejaaVFnStatesTold1
namespace Go.Proofs.Ytagkjeldheiejaa.PFnStatesTold
open Go.RowKit YtagkjeldheiejaaW.PrintWords YtagkjeldheiejaaW.PrintLast YtagkjeldheiejaaW.PrintMore
set_option linter.unusedVariables false
set_option linter.unusedSimpArgs false
attribute [local go_sem] max2_int min2_int max_two min_two max_three min_three max_four min_four
set_option maxHeartbeats 8000000
set_option maxRecDepth 100000
mutual
def spec_StateOk.l0 : Nat → Int → List (S66) → Option (Bool)
 | 0, _, _ => none
 | k + 1, a, b => if a < (b.length : Int) then (if 0 ≤ a then ((spec_l01In.f ((rd_T66 b a).f0) 1 9999).bind fun t686 => (if t686 = true then (if a > 0 then (if 0 ≤ (wrap64 (a - 1)) then (if (wrap64 (a - 1)) < (b.length : Int) then (if ((rd_T66 b (wrap64 (a - 1))).f0) ≥ ((rd_T66 b a).f0) then (spec_StateOk.j1 k a true b ((rd_T66 b a).f0) ((rd_T66 b a).f1) ((rd_T66 b a).f2) ((rd_T66 b a).f3) ((rd_T66 b a).f4)) else ((spec_WordOk.f k ((rd_T66 b a).f1)).bind fun t688 => (if t688 = true then ((spec_WordOk.f k ((rd_T66 b a).f2)).bind fun t689 => (if t689 = true then ((spec_l01In.f ((rd_T66 b a).f3) 1 10000).bind fun t690 => (spec_StateOk.j1 k a (!t690) b ((rd_T66 b a).f0) ((rd_T66 b a).f1) ((rd_T66 b a).f2) ((rd_T66 b a).f3) ((rd_T66 b a).f4))) else (spec_StateOk.j1 k a true b ((rd_T66 b a).f0) ((rd_T66 b a).f1) ((rd_T66 b a).f2) ((rd_T66 b a).f3) ((rd_T66 b a).f4)))) else (spec_StateOk.j1 k a true b ((rd_T66 b a).f0) ((rd_T66 b a).f1) ((rd_T66 b a).f2) ((rd_T66 b a).f3) ((rd_T66 b a).f4))))) else (none)) else (none)) else ((spec_WordOk.f k ((rd_T66 b a).f1)).bind fun t691 => (if t691 = true then ((spec_WordOk.f k ((rd_T66 b a).f2)).bind fun t692 => (if t692 = true then ((spec_l01In.f ((rd_T66 b a).f3) 1 10000).bind fun t693 => (spec_StateOk.j1 k a (!t693) b ((rd_T66 b a).f0) ((rd_T66 b a).f1) ((rd_T66 b a).f2) ((rd_T66 b a).f3) ((rd_T66 b a).f4))) else (spec_StateOk.j1 k a true b ((rd_T66 b a).f0) ((rd_T66 b a).f1) ((rd_T66 b a).f2) ((rd_T66 b a).f3) ((rd_T66 b a).f4)))) else (spec_StateOk.j1 k a true b ((rd_T66 b a).f0) ((rd_T66 b a).f1) ((rd_T66 b a).f2) ((rd_T66 b a).f3) ((rd_T66 b a).f4))))) else (spec_StateOk.j1 k a true b ((rd_T66 b a).f0) ((rd_T66 b a).f1) ((rd_T66 b a).f2) ((rd_T66 b a).f3) ((rd_T66 b a).f4)))) else (none)) else (some true)
def spec_StateOk.j1 : Nat → Int → Bool → List (S66) → Int → ByteArray → ByteArray → Int → List (S68) → Option (Bool)
 | 0, _, _, _, _, _, _, _, _ => none
 | k + 1, a, b, c, d, e, f, g, h => if b = true then (some false) else (spec_StateOk.l1 k a 0 c d e f g h)
def spec_StateOk.l1 : Nat → Int → Int → List (S66) → Int → ByteArray → ByteArray → Int → List (S68) → Option (Bool)
 | 0, _, _, _, _, _, _, _, _ => none
 | k + 1, a, b, c, d, e, f, g, h => if b < a then (if 0 ≤ b then (if b < (c.length : Int) then (if ((rd_T66 c b).f1).toList = e.toList then (if ((rd_T66 c b).f2).toList = f.toList then (some false) else (spec_StateOk.l1 k a (wrap64 (b + 1)) c d e f g h)) else (spec_StateOk.l1 k a (wrap64 (b + 1)) c d e f g h)) else (none)) else (none)) else (spec_StateOk.l2 k a 0 c d e f g h)
def spec_StateOk.l2 : Nat → Int → Int → List (S66) → Int → ByteArray → ByteArray → Int → List (S68) → Option (Bool)
 | 0, _, _, _, _, _, _, _, _ => none
 | k + 1, a, b, c, d, e, g, h, i => if b < (i.length : Int) then (if 0 ≤ b then ((spec_l01In.f ((rd_T68 i b).f0) 1 (wrap64 (h - 1))).bind fun t698 => (if t698 = true then (if b > 0 then (if 0 ≤ (wrap64 (b - 1)) then (if (wrap64 (b - 1)) < (i.length : Int) then (if ((rd_T68 i (wrap64 (b - 1))).f0) ≥ ((rd_T68 i b).f0) then (spec_StateOk.j4 k a b true c d e g h i) else ((spec_l01In.f ((rd_T68 i b).f1) 0 7).bind fun t700 => (if t700 = true then (spec_StateOk.j4 k a b (decide ((((rd_T68 i b).f2).size : Int) > 100)) c d e g h i) else (spec_StateOk.j4 k a b true c d e g h i)))) else (none)) else (none)) else ((spec_l01In.f ((rd_T68 i b).f1) 0 7).bind fun t701 => (if t701 = true then (spec_StateOk.j4 k a b (decide ((((rd_T68 i b).f2).size : Int) > 100)) c d e g h i) else (spec_StateOk.j4 k a b true c d e g h i)))) else (spec_StateOk.j4 k a b true c d e g h i))) else (none)) else (spec_StateOk.l0 k (wrap64 (a + 1)) c)
def spec_StateOk.j4 : Nat → Int → Int → Bool → List (S66) → Int → ByteArray → ByteArray → Int → List (S68) → Option (Bool)
 | 0, _, _, _, _, _, _, _, _, _ => none
 | k + 1, a, b, c, d, e, f, g, h, i => if c = true then (some false) else (spec_StateOk.l2 k a (wrap64 (b + 1)) d e f g h i)
end
def spec_StateOk.f (k : Nat) (l0_0 : List (S66)) : Option (Bool) := spec_StateOk.l0 k 0 l0_0
theorem spec_StateOk.mono_l : ∀ k, (∀ y0 y1, LeO (spec_StateOk.l0 k y0 y1) (spec_StateOk.l0 (k + 1) y0 y1)) ∧ (∀ y0 y1 y2 y3 y4 y5 y6 y7, LeO (spec_StateOk.j1 k y0 y1 y2 y3 y4 y5 y6 y7) (spec_StateOk.j1 (k + 1) y0 y1 y2 y3 y4 y5 y6 y7)) ∧ (∀ y0 y1 y2 y3 y4 y5 y6 y7, LeO (spec_StateOk.l1 k y0 y1 y2 y3 y4 y5 y6 y7) (spec_StateOk.l1 (k + 1) y0 y1 y2 y3 y4 y5 y6 y7)) ∧ (∀ y0 y1 y2 y3 y4 y5 y6 y7, LeO (spec_StateOk.l2 k y0 y1 y2 y3 y4 y5 y6 y7) (spec_StateOk.l2 (k + 1) y0 y1 y2 y3 y4 y5 y6 y7)) ∧ (∀ y0 y1 y2 y3 y4 y5 y6 y7 y8, LeO (spec_StateOk.j4 k y0 y1 y2 y3 y4 y5 y6 y7 y8) (spec_StateOk.j4 (k + 1) y0 y1 y2 y3 y4 y5 y6 y7 y8))
 | 0 => ⟨fun _ _ r h => by simp [spec_StateOk.l0] at h, fun _ _ _ _ _ _ _ _ r h => by simp [spec_StateOk.j1] at h, fun _ _ _ _ _ _ _ _ r h => by simp [spec_StateOk.l1] at h, fun _ _ _ _ _ _ _ _ r h => by simp [spec_StateOk.l2] at h, fun _ _ _ _ _ _ _ _ _ r h => by simp [spec_StateOk.j4] at h⟩
 | k + 1 => by
  obtain ⟨ih0, ih1, ih2, ih3, ih4⟩ := spec_StateOk.mono_l k
  refine ⟨?_, ?_, ?_, ?_, ?_⟩
  intro y0 y1;unfold spec_StateOk.l0;rotate_left
  intro y0 y1 y2 y3 y4 y5 y6 y7;unfold spec_StateOk.j1;rotate_left
  intro y0 y1 y2 y3 y4 y5 y6 y7;unfold spec_StateOk.l1;rotate_left
  intro y0 y1 y2 y3 y4 y5 y6 y7;unfold spec_StateOk.l2;rotate_left
  intro y0 y1 y2 y3 y4 y5 y6 y7 y8;unfold spec_StateOk.j4;rotate_left
  all_goals repeat' with_reducible first | exact ih0 _ _ | exact ih1 _ _ _ _ _ _ _ _ | exact ih2 _ _ _ _ _ _ _ _ | exact ih3 _ _ _ _ _ _ _ _ | exact ih4 _ _ _ _ _ _ _ _ _ | exact spec_WordOk.mono _ _ | exact LeO.refl _ | exact LeO.none _ | refine LeO.ite ?_ ?_ | refine LeO.bind ?_ (fun _ => ?_)
theorem spec_StateOk.mono : ∀ a0 k, LeO (spec_StateOk.f k a0) (spec_StateOk.f (k + 1) a0) := by
 intro a0 k
 obtain ⟨ih0, ih1, ih2, ih3, ih4⟩ := spec_StateOk.mono_l k
 unfold spec_StateOk.f
 repeat' with_reducible first | exact ih0 _ _ | exact ih1 _ _ _ _ _ _ _ _ | exact ih2 _ _ _ _ _ _ _ _ | exact ih3 _ _ _ _ _ _ _ _ | exact ih4 _ _ _ _ _ _ _ _ _ | exact spec_WordOk.mono _ _ | exact LeO.refl _ | exact LeO.none _ | refine LeO.ite ?_ ?_ | refine LeO.bind ?_ (fun _ => ?_)
def spec_StateOk.T5 : Bool × List (List Nat × List Nat) := (true, [([], []), ([0], [0]), ([1], [1]), ([2], [2]), ([3, 2], [3]), ([4], [4]), ([5, 4], [4, 5]), ([6, 4, 4], [4, 6]), ([7], [7]), ([8, 7], [7, 8]), ([7], [7]), ([10, 7], [7, 10]), ([9, 11, 7], [7, 9, 11]), ([12, 7], [7, 12]), ([13, 7], [7, 13]), ([7], [7]), ([15, 7], [7, 15]), ([14, 16, 7], [7, 14, 16]), ([7, 17, 4], [4, 7, 17]), ([4, 18], [4, 18]), ([19, 7], [19]), ([20], [20]), ([21, 20], [20, 21]), ([22, 20, 20], [20, 22]), ([23, 20], [20, 23]), ([20, 24], [20, 24]), ([25, 23], [25]), ([26], [26]), ([27, 26], [26, 27]), ([28, 26, 26], [26, 28]), ([29, 26], [26, 29]), ([26, 30], [26, 30]), ([31, 29], [31]), ([32], [32]), ([33, 32], [32, 33]), ([34, 32, 32], [32, 34]), ([35, 32], [32, 35]), ([32, 36], [32, 36])])
def spec_StateOk.B5 : List Nat := [0, 1, 3, 7, 15, 31, 63, 127, 255, 511, 255, 1279, 4095, 8191, 16383, 255, 33023, 131071, 262143, 524287, 1048575, 2097151, 4194303, 8388607, 16777215, 33554431, 67108863, 134217727, 268435455, 536870911, 1073741823, 2147483647, 4294967295, 8589934591, 17179869183, 34359738367, 68719476735, 137438953471]
theorem spec_StateOk.tab5 : rtab .any (opsOf Try.f52 5) = spec_StateOk.T5 := by kernel_rfl
theorem spec_StateOk.bits5 : waitsOk spec_StateOk.T5.2 spec_StateOk.B5 = true := by kernel_rfl
def spec_StateOk.T10 : Bool × List (List Nat × List Nat) := (true, [([], []), ([0], [0]), ([], []), ([1, 2], [1, 2]), ([3], [3]), ([4], [4]), ([], []), ([6], [6]), ([5, 7], [5, 7]), ([8], [8]), ([9], [9]), ([10, 9], [9, 10]), ([9], [9]), ([11, 12, 9], [9, 11, 12]), ([13, 9], [9, 13]), ([14, 9], [9, 14]), ([9], [9]), ([16, 9], [9, 16]), ([15, 17, 9], [9, 15, 17]), ([9, 18], [9, 18])])
def spec_StateOk.B10 : List Nat := [0, 1, 0, 7, 15, 31, 0, 64, 255, 511, 1023, 2047, 1023, 8191, 16383, 32767, 1023, 66559, 262143, 524287]
theorem spec_StateOk.tab10 : rtab .any (opsOf Try.f52 10) = spec_StateOk.T10 := by kernel_rfl
theorem spec_StateOk.bits10 : waitsOk spec_StateOk.T10.2 spec_StateOk.B10 = true := by kernel_rfl
def spec_StateOk.T16 : Bool × List (List Nat × List Nat) := (true, [([], []), ([0], [0]), ([], []), ([2], [2]), ([3], [3]), ([1, 4], [1, 4]), ([5], [5]), ([6, 5], [6]), ([7], [7]), ([8, 7], [7, 8]), ([9, 7, 7], [7, 9]), ([10], [10]), ([11, 10], [10, 11]), ([10], [10]), ([13, 10], [10, 13]), ([12, 14, 10], [10, 12, 14]), ([15, 10], [10, 15]), ([16, 10], [10, 16]), ([10], [10]), ([18, 10], [10, 18]), ([17, 19, 10], [10, 17, 19]), ([10, 20, 7], [7, 10, 20]), ([7, 21], [7, 21]), ([22, 10], [22]), ([23], [23]), ([24, 23], [23, 24]), ([25, 23, 23], [23, 25]), ([26, 23], [23, 26]), ([23, 27], [23, 27]), ([28, 26], [28]), ([29], [29]), ([30, 29], [29, 30]), ([31, 29], [29, 31]), ([32, 29], [29, 32]), ([29, 33], [29, 33])])
def spec_StateOk.B16 : List Nat := [0, 1, 0, 4, 12, 31, 63, 127, 255, 511, 1023, 2047, 4095, 2047, 10239, 32767, 65535, 131071, 2047, 264191, 1048575, 2097151, 4194303, 8388607, 16777215, 33554431, 67108863, 134217727, 268435455, 536870911, 1073741823, 2147483647, 4294967295, 8589934591, 17179869183]
theorem spec_StateOk.tab16 : rtab .any (opsOf Try.f52 16) = spec_StateOk.T16 := by kernel_rfl
theorem spec_StateOk.bits16 : waitsOk spec_StateOk.T16.2 spec_StateOk.B16 = true := by kernel_rfl
theorem spec_StateOk.calls (k : Nat) (A0_0 : Option Addr) (c0_0 : Nat) (l0_0 : List (S66)) (r : Bool) (w : World) (hr0_0 : Kd.C k66 w A0_0 l0_0.length l0_0) (hc0_0 : l0_0.length ≤ c0_0) (h : spec_StateOk.f k l0_0 = some r) :
  Calls Try.prog 52 #[.agg #[.slice A0_0 l0_0.length c0_0]] w fun e w' => e = .returned (.bool r) ∧ Below w.heap.size w w' := by
 have hu60 := Try.underlying60
 have hu66 := Try.underlying66
 have hu68 := Try.underlying68
 have HR0_0 := Aside0.mk hr0_0
 have HC0_0 := Aside0.mk hc0_0
 clear hr0_0 hc0_0
 have HB := ak (Below.refl w.heap.size w)
 have H := h
 clear h
 unfold spec_StateOk.f at H
 have H' := Aside0.mk H
 clear H
 go_enter Try.func52, Try.ntmps52
 go_wp2_with ((with_reducible refine gate_dst (N := 1) rfl ?_); (try (refine gate_guard (by rfl) ?_; dsimp only)); refine bx 1 #[.slice A0_0 l0_0.length c0_0] 60 ?_; intro gb683 hg w2 hbox hb; replace BK683 := ak (hbox); replace GE683 := ak (bz hg (lG HB)); replace HB := lB HB hb; clear hb hbox hg)
 go_loopg [3] k (fun kq v3 w' => ∃ (x3_1 : Int), v3 = .int .i64 x3_1 ∧ Aside0 (spec_StateOk.l0 kq x3_1 l0_0 = some r) ∧ Aside0 (kq ≤ k) ∧ Aside0 (w'.heap[gb683]? = some (.cells #[(.slice A0_0 l0_0.length c0_0)] 60 (0, 0))) ∧ Aside0 (Below w.heap.size w w'))
 case atStart => exact ⟨_, rr, H', ⟨Nat.le_refl _⟩, ⟨bG BK683⟩, ⟨by exact lT HB (gC GE683 gN)⟩⟩
 case round =>
  skip;{
 clear H'
 obtain ⟨x3_1, rfl, HA, HK1, BK683, HB⟩ := hrel
 cases gk with
 | zero => exact absurd HA.out (by simp [spec_StateOk.l0])
 | succ k1 =>
  skip;{
 have H := HA.out
 clear HA
 simp only [spec_StateOk.l0] at H
 by_cases c3 : x3_1 < (l0_0.length : Int)
 {
 rw [if_pos c3] at H
 have c3b0 := decide_eq_true c3
 clear c3
 by_cases c4 : 0 ≤ x3_1
 {
 rw [if_pos c4] at H
 have c4b0 := decide_eq_true c4
 clear c4
 have HC5 := Aside0.mk H
 clear H
 obtain ⟨_, _⟩ := bC1 BK683
 have p684 : 0 ≤ (x3_1 : Int) := oda
 have q684 : x3_1 < (l0_0.length : Int) := oda
 obtain ⟨ad684, A684_4, c684_4, e684, hx684_0, hx684_1, hx684_2, hx684_3, hx684_4, hl684_4, hi684_4⟩ := at_T66 HR0_0.out x3_1 p684 q684
 cases e684
 replace hx684_0 := clB HB hx684_0
 replace hx684_1 := clB HB hx684_1
 replace hx684_2 := clB HB hx684_2
 replace hx684_3 := clB HB hx684_3
 replace hx684_4 := clB HB hx684_4
 have HR684_4 := Aside0.mk hi684_4
 have HC684_4 := Aside0.mk hl684_4
 clear hi684_4 hl684_4
 replace p684 := eq_true p684
 replace q684 := eq_true q684
 go_upto_region 5 with ((with_reducible refine gate_dst (N := 4) rfl ?_); (try (refine gate_guard (by rfl) ?_; dsimp only)); refine bx 4 #[.int .i64 0, .string (⟨#[]⟩ : ByteArray), .string (⟨#[]⟩ : ByteArray), .int .i64 0, .slice none 0 0] 66 ?_; intro gb685 hg w7 hbox hb; replace BK685 := ak (hbox); replace GW685 := ak (bz hg (lT HB (gC GE683 gN))); replace GE685 := ak (bz hg (lT HB (gC GE683 gN))); replace HB := ak (below_step (lT HB (gC GE683 gN)) hb); replace NB683_685 := ak (nl hg (bG BK683)); replace NB685_683 := ak (ng hg (bG BK683)); replace BK683 := bB BK683 hb; clear hb hbox hg; have hnb8 := NB685_683.out; have hnc8 := NB683_685.out; obtain ⟨_, _, _, _, _, _, _, _, _, _⟩ := bC5 BK685)
 (try simp only [Act.put, List.setIfInBounds_toArray, List.set_cons_zero, List.set_cons_succ])
 go_cut [57] (fun v57 wc => ∃ (kq : Nat) (x57_4 : Bool), v57 = .bool x57_4 ∧ Aside0 (spec_StateOk.j1 kq x3_1 x57_4 l0_0 ((rd_T66 l0_0 x3_1).f0) ((rd_T66 l0_0 x3_1).f1) ((rd_T66 l0_0 x3_1).f2) ((rd_T66 l0_0 x3_1).f3) ((rd_T66 l0_0 x3_1).f4) = some r) ∧ Aside0 (kq ≤ k1) ∧ Aside0 (wc.heap[gb683]? = some (.cells #[(.slice (some ad684) l0_0.length c0_0)] 60 (0, 0))) ∧ Aside0 (wc.heap[gb685]? = some (.cells #[.int .i64 ((rd_T66 l0_0 x3_1).f0), .string ((rd_T66 l0_0 x3_1).f1), .string ((rd_T66 l0_0 x3_1).f2), .int .i64 ((rd_T66 l0_0 x3_1).f3), (.slice A684_4 ((rd_T66 l0_0 x3_1).f4).length c684_4)] 66 (0, 0))) ∧ Aside0 (Below w.heap.size w wc))
 case first =>
  skip;{
 have H := HC5.out
 clear HC5
 obtain ⟨t686, A10, H⟩ := eb H
 try dsimp only at H
 by_cases c11 : t686 = true
 {
 subst c11
 rw [if_pos rfl] at H
 by_cases c12 : x3_1 > 0
 {
 rw [if_pos c12] at H
 have c12b0 : decide (0 < x3_1) = true := decide_eq_true c12
 clear c12
 (first | rw [c12b0] | (simp only [i64_w, i32_w]; rw [c12b0]) | skip)
 obtain ⟨ji13, hji13⟩ : ∃ j_ : Int, (wrap64 (x3_1 - 1)) = j_ := ⟨_, rfl⟩
 replace H : (if 0 ≤ (ji13) then (if (ji13) < (l0_0.length : Int) then (if ((rd_T66 l0_0 (ji13)).f0) ≥ ((rd_T66 l0_0 x3_1).f0) then (spec_StateOk.j1 k1 x3_1 true l0_0 ((rd_T66 l0_0 x3_1).f0) ((rd_T66 l0_0 x3_1).f1) ((rd_T66 l0_0 x3_1).f2) ((rd_T66 l0_0 x3_1).f3) ((rd_T66 l0_0 x3_1).f4)) else ((spec_WordOk.f k1 ((rd_T66 l0_0 x3_1).f1)).bind fun t688 => (if t688 = true then ((spec_WordOk.f k1 ((rd_T66 l0_0 x3_1).f2)).bind fun t689 => (if t689 = true then ((spec_l01In.f ((rd_T66 l0_0 x3_1).f3) 1 10000).bind fun t690 => (spec_StateOk.j1 k1 x3_1 (!t690) l0_0 ((rd_T66 l0_0 x3_1).f0) ((rd_T66 l0_0 x3_1).f1) ((rd_T66 l0_0 x3_1).f2) ((rd_T66 l0_0 x3_1).f3) ((rd_T66 l0_0 x3_1).f4))) else (spec_StateOk.j1 k1 x3_1 true l0_0 ((rd_T66 l0_0 x3_1).f0) ((rd_T66 l0_0 x3_1).f1) ((rd_T66 l0_0 x3_1).f2) ((rd_T66 l0_0 x3_1).f3) ((rd_T66 l0_0 x3_1).f4)))) else (spec_StateOk.j1 k1 x3_1 true l0_0 ((rd_T66 l0_0 x3_1).f0) ((rd_T66 l0_0 x3_1).f1) ((rd_T66 l0_0 x3_1).f2) ((rd_T66 l0_0 x3_1).f3) ((rd_T66 l0_0 x3_1).f4))))) else (none)) else (none)) = some r := by first | (rw [hji13] at H; exact H) | (simp only [hji13] at H ⊢; exact H)
 (try rw [hji13] at A10)
 have hji13w : (IntKind.i64.wrap (x3_1 - 1)) = ji13 := (i64_w _).trans hji13
 by_cases c14 : 0 ≤ (ji13)
 {
 rw [if_pos c14] at H
 have c14b0 := decide_eq_true c14
 clear c14
 by_cases c15 : (ji13) < (l0_0.length : Int)
 {
 rw [if_pos c15] at H
 have c15b0 := decide_eq_true c15
 clear c15
 have HS_ := Aside0.mk H
 clear H
 try go_wp2
 obtain ⟨w17, eW_⟩ : ∃ w_, w_ = (((((w7.setCell ⟨gb685, 0, none⟩ (.int .i64 ((rd_T66 l0_0 x3_1).f0))).setCell ⟨gb685, 1, none⟩ (.string ((rd_T66 l0_0 x3_1).f1))).setCell ⟨gb685, 2, none⟩ (.string ((rd_T66 l0_0 x3_1).f2))).setCell ⟨gb685, 3, none⟩ (.int .i64 ((rd_T66 l0_0 x3_1).f3))).setCell ⟨gb685, 4, none⟩ (.slice A684_4 ((rd_T66 l0_0 x3_1).f4).length c684_4)) := ⟨_, rfl⟩
 have n0_ : Aside0 (w17.heap[gb683]? = some (.cells #[.slice (some ad684) l0_0.length c0_0] 60 (0, 0))) := by rw [eW_]; exact ⟨bF BK683 (nC NB683_685 nN)⟩
 have n1_ : Aside0 (w17.heap[gb685]? = some (.cells #[.int .i64 ((rd_T66 l0_0 x3_1).f0), .string ((rd_T66 l0_0 x3_1).f1), .string ((rd_T66 l0_0 x3_1).f2), .int .i64 ((rd_T66 l0_0 x3_1).f3), .slice A684_4 ((rd_T66 l0_0 x3_1).f4).length c684_4] 66 (0, 0))) := by rw [eW_]; exact ⟨bW BK685⟩
 have n2_ : Aside0 (Below w.heap.size w w17) := by rw [eW_]; exact ⟨by exact lT HB (gC GE683 (gC GE685 gN))⟩
 try clear BK683 BK685 HB
 rw [← eW_];clear eW_
 have BK683 := n0_
 have BK685 := n1_
 have HB := n2_
 clear n0_ n1_ n2_
 replace BK683 := ak (blk_drew BK683.out)
 replace BK685 := ak (blk_drew BK685.out)
 replace HB := ak (below_drew1 HB.out)
 have p687 : 0 ≤ ((ji13) : Int) := oda
 have q687 : (ji13) < (l0_0.length : Int) := oda
 obtain ⟨ad687, A687_4, c687_4, e687, hx687_0, hx687_1, hx687_2, hx687_3, hx687_4, hl687_4, hi687_4⟩ := at_T66 HR0_0.out (ji13) p687 q687
 have hw687_4 := hx687_4
 have hw687_3 := hx687_3
 have hw687_2 := hx687_2
 have hw687_1 := hx687_1
 have hw687_0 := hx687_0
 obtain rfl : ad684 = ad687 := (by injection e687)
 replace hx687_0 := clB HB hx687_0
 replace hx687_1 := clB HB hx687_1
 replace hx687_2 := clB HB hx687_2
 replace hx687_3 := clB HB hx687_3
 replace hx687_4 := clB HB hx687_4
 have HR687_4 := Aside0.mk hi687_4
 have HC687_4 := Aside0.mk hl687_4
 clear hi687_4 hl687_4
 replace p687 := eq_true p687
 replace q687 := eq_true q687
 refine start_ (n := 38) (S := fun w' => w'.cell? ⟨gb685, 0, none⟩ = some (.int .i64 ((rd_T66 l0_0 x3_1).f0)) ∧ w'.cell? ⟨gb685, 1, none⟩ = some (.string ((rd_T66 l0_0 x3_1).f1)) ∧ w'.cell? ⟨gb685, 2, none⟩ = some (.string ((rd_T66 l0_0 x3_1).f2)) ∧ w'.cell? ⟨gb685, 3, none⟩ = some (.int .i64 ((rd_T66 l0_0 x3_1).f3)) ∧ w'.cell? ⟨gb685, 4, none⟩ = some (.slice A684_4 ((rd_T66 l0_0 x3_1).f4).length c684_4) ∧ w'.cell? ⟨gb683, 0, none⟩ = some (.slice (some ad684) l0_0.length c0_0) ∧ w'.cell? (ad684.add (((ji13)).toNat * 5)) = some (.int .i64 ((rd_T66 l0_0 (ji13)).f0)) ∧ w'.cell? ⟨(ad684.add (((ji13)).toNat * 5)).block, (ad684.add (((ji13)).toNat * 5)).off + 1, none⟩ = some (.string ((rd_T66 l0_0 (ji13)).f1)) ∧ w'.cell? ⟨(ad684.add (((ji13)).toNat * 5)).block, (ad684.add (((ji13)).toNat * 5)).off + 2, none⟩ = some (.string ((rd_T66 l0_0 (ji13)).f2)) ∧ w'.cell? ⟨(ad684.add (((ji13)).toNat * 5)).block, (ad684.add (((ji13)).toNat * 5)).off + 3, none⟩ = some (.int .i64 ((rd_T66 l0_0 (ji13)).f3)) ∧ w'.cell? ⟨(ad684.add (((ji13)).toNat * 5)).block, (ad684.add (((ji13)).toNat * 5)).off + 4, none⟩ = some (.slice A687_4 ((rd_T66 l0_0 (ji13)).f4).length c687_4)) (ds := []) (fb 38 0) (by kernel_rfl) rfl rfl ⟨bc BK685 0, bc BK685 1, bc BK685 2, bc BK685 3, bc BK685 4, bc BK683 0, (clB HB hw687_0 :), (clB HB hw687_1 :), (clB HB hw687_2 :), (clB HB hw687_3 :), (clB HB hw687_4 :)⟩ (fun hHeld => ?_); refine with_tabW spec_StateOk.tab5 spec_StateOk.bits5 (fun HT_ HW_ => ?_)
 generalize w17.drew = w18 at BK683 BK685 HB HR687_4 hx687_0 hx687_1 hx687_2 hx687_3 hx687_4 hHeld ⊢
 refine pu 0 20 (fb 38 1) HT_ ?_
 refine tk 1 21 (fb 38 3) HT_ HW_ hHeld ?_
 refine on 2 (some 22) (fb 38 7) HT_ (fun K hK => ?_)
 refine gs Try.func61 #[.int .i64 ((rd_T66 l0_0 x3_1).f0), .int .i64 1, .int .i64 9999] ?_
 with_reducible refine (spec_l01In.calls ((rd_T66 l0_0 x3_1).f0) 1 9999 _ _ A10.out).mono ?_
 rintro e w' ⟨rfl, ⟨nd, rfl⟩⟩
 refine ⟨_, rfl, ?_⟩
 refine hK.out _ _ ⟨bc BK685 0, bc BK685 1, bc BK685 2, bc BK685 3, bc BK685 4, bc BK683 0, (clB HB hw687_0 :), (clB HB hw687_1 :), (clB HB hw687_2 :), (clB HB hw687_3 :), (clB HB hw687_4 :)⟩ (fun hHeld => ?_)
 clear hK K
 refine nm ?_
 have H := HS_.out
 clear HS_
 by_cases c16 : ((rd_T66 l0_0 (ji13)).f0) ≥ ((rd_T66 l0_0 x3_1).f0)
 {
 rw [if_pos c16] at H
 have c16b0 : decide (((rd_T66 l0_0 x3_1).f0) ≤ ((rd_T66 l0_0 (ji13)).f0)) = true := decide_eq_true c16
 clear c16
 have H' := Aside0.mk H
 clear H
 refine pu 3 23 (fb 38 15) HT_ ?_
 refine pu 4 24 (fb 38 31) HT_ ?_
 refine pu 5 25 (fb 38 63) HT_ ?_
 refine pu 6 26 (fb 38 127) HT_ ?_
 refine pu 7 27 (fb 38 255) HT_ ?_
 refine pu 8 28 (fb 38 511) HT_ ?_
 refine pu 10 30 (fb 38 1535) HT_ ?_
 refine pu 11 31 (fb 38 3583) HT_ ?_
 refine pu 15 35 (fb 38 36351) HT_ ?_
 refine tk 9 29 (fb 38 36863) HT_ HW_ hHeld ?_
 refine pu 12 32 (fb 38 40959) HT_ ?_
 refine pu 13 33 (fb 38 49151) HT_ ?_
 refine tk 14 34 (fb 38 65535) HT_ HW_ hHeld ?_
 refine tk 16 36 (fb 38 131071) HT_ HW_ hHeld ?_
 refine pu 17 37 (fb 38 262143) HT_ ?_
 refine pu 18 38 (fb 38 524287) HT_ ?_
 refine pu 19 39 (fb 38 1048575) HT_ ?_
 refine pu 20 40 (fb 38 2097151) HT_ ?_
 refine pn 21 41 (fb 38 4194303) HT_ ?_
 refine pn 22 42 (fb 38 8388607) HT_ ?_
 refine pn 23 43 (fb 38 16777215) HT_ ?_
 refine pn 24 44 (fb 38 33554431) HT_ ?_
 refine pu 25 45 (fb 38 67108863) HT_ ?_
 refine pu 26 46 (fb 38 134217727) HT_ ?_
 refine pn 27 47 (fb 38 268435455) HT_ ?_
 refine pn 28 48 (fb 38 536870911) HT_ ?_
 refine pn 29 49 (fb 38 1073741823) HT_ ?_
 refine pn 30 50 (fb 38 2147483647) HT_ ?_
 refine pu 31 51 (fb 38 4294967295) HT_ ?_
 refine pu 32 52 (fb 38 8589934591) HT_ ?_
 refine pn 33 53 (fb 38 17179869183) HT_ ?_
 refine pn 34 54 (fb 38 34359738367) HT_ ?_
 refine pn 35 55 (fb 38 68719476735) HT_ ?_
 refine pn 36 56 (fb 38 137438953471) HT_ ?_
 refine pu 37 57 (fb 38 274877906943) HT_ ?_
 refine done_ (done_of HT_.out (by kernel_rfl)) ?_
 try go_wp2
 go_meet
 case rel => exact ⟨_, _, rr, H', ⟨by have := HK1.out; first | omega | exact Nat.le_refl _⟩, ⟨bG BK683⟩, ⟨bG BK685⟩, ⟨by exact lT HB (gC GE683 (gC GE685 gN))⟩⟩
 }
 {
 rw [if_neg c16] at H
 have c16b0 : decide (((rd_T66 l0_0 x3_1).f0) ≤ ((rd_T66 l0_0 (ji13)).f0)) = false := decide_eq_false c16
 clear c16
 obtain ⟨t688, A19, H⟩ := eb H
 try dsimp only at H
 have HS_ := Aside0.mk H
 clear H
 refine pu 3 23 (fb 38 15) HT_ ?_
 refine pu 4 24 (fb 38 31) HT_ ?_
 refine pu 5 25 (fb 38 63) HT_ ?_
 refine pu 6 26 (fb 38 127) HT_ ?_
 refine pu 7 27 (fb 38 255) HT_ ?_
 refine pu 8 28 (fb 38 511) HT_ ?_
 refine pu 10 30 (fb 38 1535) HT_ ?_
 refine pu 11 31 (fb 38 3583) HT_ ?_
 refine pu 15 35 (fb 38 36351) HT_ ?_
 refine tk 9 29 (fb 38 36863) HT_ HW_ hHeld ?_
 refine pu 12 32 (fb 38 40959) HT_ ?_
 refine pu 13 33 (fb 38 49151) HT_ ?_
 refine tk 14 34 (fb 38 65535) HT_ HW_ hHeld ?_
 refine tk 16 36 (fb 38 131071) HT_ HW_ hHeld ?_
 refine pu 17 37 (fb 38 262143) HT_ ?_
 refine pu 18 38 (fb 38 524287) HT_ ?_
 refine pu 19 39 (fb 38 1048575) HT_ ?_
 refine pu 20 40 (fb 38 2097151) HT_ ?_
 refine pu 21 41 (fb 38 4194303) HT_ ?_
 refine tk 22 42 (fb 38 8388607) HT_ HW_ hHeld ?_
 refine on 23 (some 43) (fb 38 16777215) HT_ (fun K hK => ?_)
 refine gs Try.func32 #[.string ((rd_T66 l0_0 x3_1).f1)] ?_
 with_reducible refine (spec_WordOk.calls k1 ((rd_T66 l0_0 x3_1).f1) _ _ A19.out).mono ?_
 rintro e w' ⟨rfl, ⟨nd, rfl⟩⟩
 refine ⟨_, rfl, ?_⟩
 refine hK.out _ _ ⟨bc BK685 0, bc BK685 1, bc BK685 2, bc BK685 3, bc BK685 4, bc BK683 0, (clB HB hw687_0 :), (clB HB hw687_1 :), (clB HB hw687_2 :), (clB HB hw687_3 :), (clB HB hw687_4 :)⟩ (fun hHeld => ?_)
 clear hK K
 refine nm ?_
 have H := HS_.out
 clear HS_
 by_cases c20 : t688 = true
 {
 subst c20
 rw [if_pos rfl] at H
 obtain ⟨t689, A21, H⟩ := eb H
 try dsimp only at H
 have HS_ := Aside0.mk H
 clear H
 refine pu 24 44 (fb 38 33554431) HT_ ?_
 refine pu 25 45 (fb 38 67108863) HT_ ?_
 refine pu 26 46 (fb 38 134217727) HT_ ?_
 refine pu 27 47 (fb 38 268435455) HT_ ?_
 refine tk 28 48 (fb 38 536870911) HT_ HW_ hHeld ?_
 refine on 29 (some 49) (fb 38 1073741823) HT_ (fun K hK => ?_)
 refine gs Try.func32 #[.string ((rd_T66 l0_0 x3_1).f2)] ?_
 with_reducible refine (spec_WordOk.calls k1 ((rd_T66 l0_0 x3_1).f2) _ _ A21.out).mono ?_
 rintro e w' ⟨rfl, ⟨nd, rfl⟩⟩
 refine ⟨_, rfl, ?_⟩
 refine hK.out _ _ ⟨bc BK685 0, bc BK685 1, bc BK685 2, bc BK685 3, bc BK685 4, bc BK683 0, (clB HB hw687_0 :), (clB HB hw687_1 :), (clB HB hw687_2 :), (clB HB hw687_3 :), (clB HB hw687_4 :)⟩ (fun hHeld => ?_)
 clear hK K
 refine nm ?_
 have H := HS_.out
 clear HS_
 by_cases c22 : t689 = true
 {
 subst c22
 rw [if_pos rfl] at H
 obtain ⟨t690, A23, H⟩ := eb H
 try dsimp only at H
 have H' := Aside0.mk H
 clear H
 refine pu 30 50 (fb 38 2147483647) HT_ ?_
 refine pu 31 51 (fb 38 4294967295) HT_ ?_
 refine pu 32 52 (fb 38 8589934591) HT_ ?_
 refine pu 33 53 (fb 38 17179869183) HT_ ?_
 refine tk 34 54 (fb 38 34359738367) HT_ HW_ hHeld ?_
 refine on 35 (some 55) (fb 38 68719476735) HT_ (fun K hK => ?_)
 refine gs Try.func61 #[.int .i64 ((rd_T66 l0_0 x3_1).f3), .int .i64 1, .int .i64 10000] ?_
 with_reducible refine (spec_l01In.calls ((rd_T66 l0_0 x3_1).f3) 1 10000 t690 _ A23.out).mono ?_
 rintro e w' ⟨rfl, ⟨nd, rfl⟩⟩
 refine ⟨_, rfl, ?_⟩
 refine hK.out _ _ ⟨bc BK685 0, bc BK685 1, bc BK685 2, bc BK685 3, bc BK685 4, bc BK683 0, (clB HB hw687_0 :), (clB HB hw687_1 :), (clB HB hw687_2 :), (clB HB hw687_3 :), (clB HB hw687_4 :)⟩ (fun hHeld => ?_)
 clear hK K
 refine nm ?_
 refine pu 36 56 (fb 38 137438953471) HT_ ?_
 refine pu 37 57 (fb 38 274877906943) HT_ ?_
 refine done_ (done_of HT_.out (by kernel_rfl)) ?_
 try go_wp2
 go_meet
 case rel => exact ⟨_, _, rr, H', ⟨by have := HK1.out; first | omega | exact Nat.le_refl _⟩, ⟨bG BK683⟩, ⟨bG BK685⟩, ⟨by exact lT HB (gC GE683 (gC GE685 gN))⟩⟩
 }
 {
 replace c22 := Bool.eq_false_iff.mpr c22
 subst c22
 rw [if_neg (show ¬ (false = true) by decide)] at H
 have H' := Aside0.mk H
 clear H
 refine pu 30 50 (fb 38 2147483647) HT_ ?_
 refine pu 31 51 (fb 38 4294967295) HT_ ?_
 refine pu 32 52 (fb 38 8589934591) HT_ ?_
 refine pn 33 53 (fb 38 17179869183) HT_ ?_
 refine pn 34 54 (fb 38 34359738367) HT_ ?_
 refine pn 35 55 (fb 38 68719476735) HT_ ?_
 refine pn 36 56 (fb 38 137438953471) HT_ ?_
 refine pu 37 57 (fb 38 274877906943) HT_ ?_
 refine done_ (done_of HT_.out (by kernel_rfl)) ?_
 try go_wp2
 go_meet
 case rel => exact ⟨_, _, rr, H', ⟨by have := HK1.out; first | omega | exact Nat.le_refl _⟩, ⟨bG BK683⟩, ⟨bG BK685⟩, ⟨by exact lT HB (gC GE683 (gC GE685 gN))⟩⟩
 }
 }
 {
 replace c20 := Bool.eq_false_iff.mpr c20
 subst c20
 rw [if_neg (show ¬ (false = true) by decide)] at H
 have H' := Aside0.mk H
 clear H
 refine pu 24 44 (fb 38 33554431) HT_ ?_
 refine pu 25 45 (fb 38 67108863) HT_ ?_
 refine pu 26 46 (fb 38 134217727) HT_ ?_
 refine pn 27 47 (fb 38 268435455) HT_ ?_
 refine pn 28 48 (fb 38 536870911) HT_ ?_
 refine pn 29 49 (fb 38 1073741823) HT_ ?_
 refine pn 30 50 (fb 38 2147483647) HT_ ?_
 refine pu 31 51 (fb 38 4294967295) HT_ ?_
 refine pu 32 52 (fb 38 8589934591) HT_ ?_
 refine pn 33 53 (fb 38 17179869183) HT_ ?_
 refine pn 34 54 (fb 38 34359738367) HT_ ?_
 refine pn 35 55 (fb 38 68719476735) HT_ ?_
 refine pn 36 56 (fb 38 137438953471) HT_ ?_
 refine pu 37 57 (fb 38 274877906943) HT_ ?_
 refine done_ (done_of HT_.out (by kernel_rfl)) ?_
 try go_wp2
 go_meet
 case rel => exact ⟨_, _, rr, H', ⟨by have := HK1.out; first | omega | exact Nat.le_refl _⟩, ⟨bG BK683⟩, ⟨bG BK685⟩, ⟨by exact lT HB (gC GE683 (gC GE685 gN))⟩⟩
 }
 }
 }
 {rw [if_neg c15] at H;exact absurd H (by simp)}
 }
 {rw [if_neg c14] at H;exact absurd H (by simp)}
 }
 {
 rw [if_neg c12] at H
 have c12b0 : decide (0 < x3_1) = false := decide_eq_false c12
 clear c12
 (first | rw [c12b0] | (simp only [i64_w, i32_w]; rw [c12b0]) | skip)
 obtain ⟨t691, A30, H⟩ := eb H
 try dsimp only at H
 have HS_ := Aside0.mk H
 clear H
 try go_wp2
 obtain ⟨w35, eW_⟩ : ∃ w_, w_ = (((((w7.setCell ⟨gb685, 0, none⟩ (.int .i64 ((rd_T66 l0_0 x3_1).f0))).setCell ⟨gb685, 1, none⟩ (.string ((rd_T66 l0_0 x3_1).f1))).setCell ⟨gb685, 2, none⟩ (.string ((rd_T66 l0_0 x3_1).f2))).setCell ⟨gb685, 3, none⟩ (.int .i64 ((rd_T66 l0_0 x3_1).f3))).setCell ⟨gb685, 4, none⟩ (.slice A684_4 ((rd_T66 l0_0 x3_1).f4).length c684_4)) := ⟨_, rfl⟩
 have n0_ : Aside0 (w35.heap[gb683]? = some (.cells #[.slice (some ad684) l0_0.length c0_0] 60 (0, 0))) := by rw [eW_]; exact ⟨bF BK683 (nC NB683_685 nN)⟩
 have n1_ : Aside0 (w35.heap[gb685]? = some (.cells #[.int .i64 ((rd_T66 l0_0 x3_1).f0), .string ((rd_T66 l0_0 x3_1).f1), .string ((rd_T66 l0_0 x3_1).f2), .int .i64 ((rd_T66 l0_0 x3_1).f3), .slice A684_4 ((rd_T66 l0_0 x3_1).f4).length c684_4] 66 (0, 0))) := by rw [eW_]; exact ⟨bW BK685⟩
 have n2_ : Aside0 (Below w.heap.size w w35) := by rw [eW_]; exact ⟨by exact lT HB (gC GE683 (gC GE685 gN))⟩
 try clear BK683 BK685 HB
 rw [← eW_];clear eW_
 have BK683 := n0_
 have BK685 := n1_
 have HB := n2_
 clear n0_ n1_ n2_
 replace BK683 := ak (blk_drew BK683.out)
 replace BK685 := ak (blk_drew BK685.out)
 replace HB := ak (below_drew1 HB.out)
 refine start_ (n := 38) (S := fun w' => w'.cell? ⟨gb685, 0, none⟩ = some (.int .i64 ((rd_T66 l0_0 x3_1).f0)) ∧ w'.cell? ⟨gb685, 1, none⟩ = some (.string ((rd_T66 l0_0 x3_1).f1)) ∧ w'.cell? ⟨gb685, 2, none⟩ = some (.string ((rd_T66 l0_0 x3_1).f2)) ∧ w'.cell? ⟨gb685, 3, none⟩ = some (.int .i64 ((rd_T66 l0_0 x3_1).f3)) ∧ w'.cell? ⟨gb685, 4, none⟩ = some (.slice A684_4 ((rd_T66 l0_0 x3_1).f4).length c684_4)) (ds := []) (fb 38 0) (by kernel_rfl) rfl rfl ⟨bc BK685 0, bc BK685 1, bc BK685 2, bc BK685 3, bc BK685 4⟩ (fun hHeld => ?_); refine with_tabW spec_StateOk.tab5 spec_StateOk.bits5 (fun HT_ HW_ => ?_)
 generalize w35.drew = w36 at BK683 BK685 HB hHeld ⊢
 refine pu 0 20 (fb 38 1) HT_ ?_
 refine tk 1 21 (fb 38 3) HT_ HW_ hHeld ?_
 refine on 2 (some 22) (fb 38 7) HT_ (fun K hK => ?_)
 refine gs Try.func61 #[.int .i64 ((rd_T66 l0_0 x3_1).f0), .int .i64 1, .int .i64 9999] ?_
 with_reducible refine (spec_l01In.calls ((rd_T66 l0_0 x3_1).f0) 1 9999 _ _ A10.out).mono ?_
 rintro e w' ⟨rfl, ⟨nd, rfl⟩⟩
 refine ⟨_, rfl, ?_⟩
 refine hK.out _ _ ⟨bc BK685 0, bc BK685 1, bc BK685 2, bc BK685 3, bc BK685 4⟩ (fun hHeld => ?_)
 clear hK K
 refine nm ?_
 refine pu 3 23 (fb 38 15) HT_ ?_
 refine pu 4 24 (fb 38 31) HT_ ?_
 refine pu 5 25 (fb 38 63) HT_ ?_
 refine pu 6 26 (fb 38 127) HT_ ?_
 refine pu 7 27 (fb 38 255) HT_ ?_
 refine pn 8 28 (fb 38 511) HT_ ?_
 refine pn 9 29 (fb 38 1023) HT_ ?_
 refine pn 10 30 (fb 38 2047) HT_ ?_
 refine pn 11 31 (fb 38 4095) HT_ ?_
 refine pn 12 32 (fb 38 8191) HT_ ?_
 refine pn 13 33 (fb 38 16383) HT_ ?_
 refine pn 14 34 (fb 38 32767) HT_ ?_
 refine pn 15 35 (fb 38 65535) HT_ ?_
 refine pn 16 36 (fb 38 131071) HT_ ?_
 refine pn 17 37 (fb 38 262143) HT_ ?_
 refine pu 18 38 (fb 38 524287) HT_ ?_
 refine pu 19 39 (fb 38 1048575) HT_ ?_
 refine pu 20 40 (fb 38 2097151) HT_ ?_
 refine pu 21 41 (fb 38 4194303) HT_ ?_
 refine tk 22 42 (fb 38 8388607) HT_ HW_ hHeld ?_
 refine on 23 (some 43) (fb 38 16777215) HT_ (fun K hK => ?_)
 refine gs Try.func32 #[.string ((rd_T66 l0_0 x3_1).f1)] ?_
 with_reducible refine (spec_WordOk.calls k1 ((rd_T66 l0_0 x3_1).f1) _ _ A30.out).mono ?_
 rintro e w' ⟨rfl, ⟨nd, rfl⟩⟩
 refine ⟨_, rfl, ?_⟩
 refine hK.out _ _ ⟨bc BK685 0, bc BK685 1, bc BK685 2, bc BK685 3, bc BK685 4⟩ (fun hHeld => ?_)
 clear hK K
 refine nm ?_
 have H := HS_.out
 clear HS_
 by_cases c31 : t691 = true
 {
 subst c31
 rw [if_pos rfl] at H
 obtain ⟨t692, A32, H⟩ := eb H
 try dsimp only at H
 have HS_ := Aside0.mk H
 clear H
 refine pu 24 44 (fb 38 33554431) HT_ ?_
 refine pu 25 45 (fb 38 67108863) HT_ ?_
 refine pu 26 46 (fb 38 134217727) HT_ ?_
 refine pu 27 47 (fb 38 268435455) HT_ ?_
 refine tk 28 48 (fb 38 536870911) HT_ HW_ hHeld ?_
 refine on 29 (some 49) (fb 38 1073741823) HT_ (fun K hK => ?_)
 refine gs Try.func32 #[.string ((rd_T66 l0_0 x3_1).f2)] ?_
 with_reducible refine (spec_WordOk.calls k1 ((rd_T66 l0_0 x3_1).f2) _ _ A32.out).mono ?_
 rintro e w' ⟨rfl, ⟨nd, rfl⟩⟩
 refine ⟨_, rfl, ?_⟩
 refine hK.out _ _ ⟨bc BK685 0, bc BK685 1, bc BK685 2, bc BK685 3, bc BK685 4⟩ (fun hHeld => ?_)
 clear hK K
 refine nm ?_
 have H := HS_.out
 clear HS_
 by_cases c33 : t692 = true
 {
 subst c33
 rw [if_pos rfl] at H
 obtain ⟨t693, A34, H⟩ := eb H
 try dsimp only at H
 have H' := Aside0.mk H
 clear H
 refine pu 30 50 (fb 38 2147483647) HT_ ?_
 refine pu 31 51 (fb 38 4294967295) HT_ ?_
 refine pu 32 52 (fb 38 8589934591) HT_ ?_
 refine pu 33 53 (fb 38 17179869183) HT_ ?_
 refine tk 34 54 (fb 38 34359738367) HT_ HW_ hHeld ?_
 refine on 35 (some 55) (fb 38 68719476735) HT_ (fun K hK => ?_)
 refine gs Try.func61 #[.int .i64 ((rd_T66 l0_0 x3_1).f3), .int .i64 1, .int .i64 10000] ?_
 with_reducible refine (spec_l01In.calls ((rd_T66 l0_0 x3_1).f3) 1 10000 t693 _ A34.out).mono ?_
 rintro e w' ⟨rfl, ⟨nd, rfl⟩⟩
 refine ⟨_, rfl, ?_⟩
 refine hK.out _ _ ⟨bc BK685 0, bc BK685 1, bc BK685 2, bc BK685 3, bc BK685 4⟩ (fun hHeld => ?_)
 clear hK K
 refine nm ?_
 refine pu 36 56 (fb 38 137438953471) HT_ ?_
 refine pu 37 57 (fb 38 274877906943) HT_ ?_
 refine done_ (done_of HT_.out (by kernel_rfl)) ?_
 try go_wp2
 go_meet
 case rel => exact ⟨_, _, rr, H', ⟨by have := HK1.out; first | omega | exact Nat.le_refl _⟩, ⟨bG BK683⟩, ⟨bG BK685⟩, ⟨by exact lT HB (gC GE683 (gC GE685 gN))⟩⟩
 }
 {
 replace c33 := Bool.eq_false_iff.mpr c33
 subst c33
 rw [if_neg (show ¬ (false = true) by decide)] at H
 have H' := Aside0.mk H
 clear H
 refine pu 30 50 (fb 38 2147483647) HT_ ?_
 refine pu 31 51 (fb 38 4294967295) HT_ ?_
 refine pu 32 52 (fb 38 8589934591) HT_ ?_
 refine pn 33 53 (fb 38 17179869183) HT_ ?_
 refine pn 34 54 (fb 38 34359738367) HT_ ?_
 refine pn 35 55 (fb 38 68719476735) HT_ ?_
 refine pn 36 56 (fb 38 137438953471) HT_ ?_
 refine pu 37 57 (fb 38 274877906943) HT_ ?_
 refine done_ (done_of HT_.out (by kernel_rfl)) ?_
 try go_wp2
 go_meet
 case rel => exact ⟨_, _, rr, H', ⟨by have := HK1.out; first | omega | exact Nat.le_refl _⟩, ⟨bG BK683⟩, ⟨bG BK685⟩, ⟨by exact lT HB (gC GE683 (gC GE685 gN))⟩⟩
 }
 }
 {
 replace c31 := Bool.eq_false_iff.mpr c31
 subst c31
 rw [if_neg (show ¬ (false = true) by decide)] at H
 have H' := Aside0.mk H
 clear H
 refine pu 24 44 (fb 38 33554431) HT_ ?_
 refine pu 25 45 (fb 38 67108863) HT_ ?_
 refine pu 26 46 (fb 38 134217727) HT_ ?_
 refine pn 27 47 (fb 38 268435455) HT_ ?_
 refine pn 28 48 (fb 38 536870911) HT_ ?_
 refine pn 29 49 (fb 38 1073741823) HT_ ?_
 refine pn 30 50 (fb 38 2147483647) HT_ ?_
 refine pu 31 51 (fb 38 4294967295) HT_ ?_
 refine pu 32 52 (fb 38 8589934591) HT_ ?_
 refine pn 33 53 (fb 38 17179869183) HT_ ?_
 refine pn 34 54 (fb 38 34359738367) HT_ ?_
 refine pn 35 55 (fb 38 68719476735) HT_ ?_
 refine pn 36 56 (fb 38 137438953471) HT_ ?_
 refine pu 37 57 (fb 38 274877906943) HT_ ?_
 refine done_ (done_of HT_.out (by kernel_rfl)) ?_
 try go_wp2
 go_meet
 case rel => exact ⟨_, _, rr, H', ⟨by have := HK1.out; first | omega | exact Nat.le_refl _⟩, ⟨bG BK683⟩, ⟨bG BK685⟩, ⟨by exact lT HB (gC GE683 (gC GE685 gN))⟩⟩
 }
 }
 }
 {
 replace c11 := Bool.eq_false_iff.mpr c11
 subst c11
 rw [if_neg (show ¬ (false = true) by decide)] at H
 have H' := Aside0.mk H
 clear H
 try go_wp2
 obtain ⟨w41, eW_⟩ : ∃ w_, w_ = (((((w7.setCell ⟨gb685, 0, none⟩ (.int .i64 ((rd_T66 l0_0 x3_1).f0))).setCell ⟨gb685, 1, none⟩ (.string ((rd_T66 l0_0 x3_1).f1))).setCell ⟨gb685, 2, none⟩ (.string ((rd_T66 l0_0 x3_1).f2))).setCell ⟨gb685, 3, none⟩ (.int .i64 ((rd_T66 l0_0 x3_1).f3))).setCell ⟨gb685, 4, none⟩ (.slice A684_4 ((rd_T66 l0_0 x3_1).f4).length c684_4)) := ⟨_, rfl⟩
 have n0_ : Aside0 (w41.heap[gb683]? = some (.cells #[.slice (some ad684) l0_0.length c0_0] 60 (0, 0))) := by rw [eW_]; exact ⟨bF BK683 (nC NB683_685 nN)⟩
 have n1_ : Aside0 (w41.heap[gb685]? = some (.cells #[.int .i64 ((rd_T66 l0_0 x3_1).f0), .string ((rd_T66 l0_0 x3_1).f1), .string ((rd_T66 l0_0 x3_1).f2), .int .i64 ((rd_T66 l0_0 x3_1).f3), .slice A684_4 ((rd_T66 l0_0 x3_1).f4).length c684_4] 66 (0, 0))) := by rw [eW_]; exact ⟨bW BK685⟩
 have n2_ : Aside0 (Below w.heap.size w w41) := by rw [eW_]; exact ⟨by exact lT HB (gC GE683 (gC GE685 gN))⟩
 try clear BK683 BK685 HB
 rw [← eW_];clear eW_
 have BK683 := n0_
 have BK685 := n1_
 have HB := n2_
 clear n0_ n1_ n2_
 replace BK683 := ak (blk_drew BK683.out)
 replace BK685 := ak (blk_drew BK685.out)
 replace HB := ak (below_drew1 HB.out)
 refine start_ (n := 38) (S := fun w' => w'.cell? ⟨gb685, 0, none⟩ = some (.int .i64 ((rd_T66 l0_0 x3_1).f0)) ∧ w'.cell? ⟨gb685, 1, none⟩ = some (.string ((rd_T66 l0_0 x3_1).f1)) ∧ w'.cell? ⟨gb685, 2, none⟩ = some (.string ((rd_T66 l0_0 x3_1).f2)) ∧ w'.cell? ⟨gb685, 3, none⟩ = some (.int .i64 ((rd_T66 l0_0 x3_1).f3)) ∧ w'.cell? ⟨gb685, 4, none⟩ = some (.slice A684_4 ((rd_T66 l0_0 x3_1).f4).length c684_4)) (ds := []) (fb 38 0) (by kernel_rfl) rfl rfl ⟨bc BK685 0, bc BK685 1, bc BK685 2, bc BK685 3, bc BK685 4⟩ (fun hHeld => ?_); refine with_tabW spec_StateOk.tab5 spec_StateOk.bits5 (fun HT_ HW_ => ?_)
 generalize w41.drew = w42 at BK683 BK685 HB hHeld ⊢
 refine pu 0 20 (fb 38 1) HT_ ?_
 refine tk 1 21 (fb 38 3) HT_ HW_ hHeld ?_
 refine on 2 (some 22) (fb 38 7) HT_ (fun K hK => ?_)
 refine gs Try.func61 #[.int .i64 ((rd_T66 l0_0 x3_1).f0), .int .i64 1, .int .i64 9999] ?_
 with_reducible refine (spec_l01In.calls ((rd_T66 l0_0 x3_1).f0) 1 9999 _ _ A10.out).mono ?_
 rintro e w' ⟨rfl, ⟨nd, rfl⟩⟩
 refine ⟨_, rfl, ?_⟩
 refine hK.out _ _ ⟨bc BK685 0, bc BK685 1, bc BK685 2, bc BK685 3, bc BK685 4⟩ (fun hHeld => ?_)
 clear hK K
 refine nm ?_
 refine pu 3 23 (fb 38 15) HT_ ?_
 refine pu 4 24 (fb 38 31) HT_ ?_
 refine pn 5 25 (fb 38 63) HT_ ?_
 refine pn 6 26 (fb 38 127) HT_ ?_
 refine pn 7 27 (fb 38 255) HT_ ?_
 refine pn 8 28 (fb 38 511) HT_ ?_
 refine pn 9 29 (fb 38 1023) HT_ ?_
 refine pn 10 30 (fb 38 2047) HT_ ?_
 refine pn 11 31 (fb 38 4095) HT_ ?_
 refine pn 12 32 (fb 38 8191) HT_ ?_
 refine pn 13 33 (fb 38 16383) HT_ ?_
 refine pn 14 34 (fb 38 32767) HT_ ?_
 refine pn 15 35 (fb 38 65535) HT_ ?_
 refine pn 16 36 (fb 38 131071) HT_ ?_
 refine pn 17 37 (fb 38 262143) HT_ ?_
 refine pn 18 38 (fb 38 524287) HT_ ?_
 refine pu 19 39 (fb 38 1048575) HT_ ?_
 refine pu 20 40 (fb 38 2097151) HT_ ?_
 refine pn 21 41 (fb 38 4194303) HT_ ?_
 refine pn 22 42 (fb 38 8388607) HT_ ?_
 refine pn 23 43 (fb 38 16777215) HT_ ?_
 refine pn 24 44 (fb 38 33554431) HT_ ?_
 refine pu 25 45 (fb 38 67108863) HT_ ?_
 refine pu 26 46 (fb 38 134217727) HT_ ?_
 refine pn 27 47 (fb 38 268435455) HT_ ?_
 refine pn 28 48 (fb 38 536870911) HT_ ?_
 refine pn 29 49 (fb 38 1073741823) HT_ ?_
 refine pn 30 50 (fb 38 2147483647) HT_ ?_
 refine pu 31 51 (fb 38 4294967295) HT_ ?_
 refine pu 32 52 (fb 38 8589934591) HT_ ?_
 refine pn 33 53 (fb 38 17179869183) HT_ ?_
 refine pn 34 54 (fb 38 34359738367) HT_ ?_
 refine pn 35 55 (fb 38 68719476735) HT_ ?_
 refine pn 36 56 (fb 38 137438953471) HT_ ?_
 refine pu 37 57 (fb 38 274877906943) HT_ ?_
 refine done_ (done_of HT_.out (by kernel_rfl)) ?_
 try go_wp2
 go_meet
 case rel => exact ⟨_, _, rr, H', ⟨by have := HK1.out; first | omega | exact Nat.le_refl _⟩, ⟨bG BK683⟩, ⟨bG BK685⟩, ⟨by exact lT HB (gC GE683 (gC GE685 gN))⟩⟩
 }
 }
 case rest =>
  skip;{
 clear HC5
 try clear c3
 obtain ⟨kq, x57_4, rfl, HA, HJ4, BK683, BK685, HB⟩ := hcut
 cases kq with
 | zero => exact absurd HA.out (by simp [spec_StateOk.j1])
 | succ kj4 =>
  skip;{
 have H := HA.out
 clear HA
 simp only [spec_StateOk.j1] at H
 by_cases c43 : x57_4 = true
 {
 subst c43
 rw [if_pos rfl] at H
 obtain rfl := Option.some.inj H
 go_wp2
 go_ret
 exact ⟨ew, by exact lT HB (gC GE683 (gC GE685 gN))⟩
 }
 {
 replace c43 := Bool.eq_false_iff.mpr c43
 subst c43
 rw [if_neg (show ¬ (false = true) by decide)] at H
 have H' := Aside0.mk H
 clear H
 go_wp2
 go_loopg [5] kj4 (fun kq v5 w' => ∃ (x5_3 : Int), v5 = .int .i64 x5_3 ∧ Aside0 (spec_StateOk.l1 kq x3_1 x5_3 l0_0 ((rd_T66 l0_0 x3_1).f0) ((rd_T66 l0_0 x3_1).f1) ((rd_T66 l0_0 x3_1).f2) ((rd_T66 l0_0 x3_1).f3) ((rd_T66 l0_0 x3_1).f4) = some r) ∧ Aside0 (kq ≤ kj4) ∧ Aside0 (w'.heap[gb683]? = some (.cells #[(.slice (some ad684) l0_0.length c0_0)] 60 (0, 0))) ∧ Aside0 (w'.heap[gb685]? = some (.cells #[.int .i64 ((rd_T66 l0_0 x3_1).f0), .string ((rd_T66 l0_0 x3_1).f1), .string ((rd_T66 l0_0 x3_1).f2), .int .i64 ((rd_T66 l0_0 x3_1).f3), (.slice A684_4 ((rd_T66 l0_0 x3_1).f4).length c684_4)] 66 (0, 0))) ∧ Aside0 (Below w.heap.size w w'))
 case atStart => exact ⟨_, rr, H', ⟨Nat.le_refl _⟩, ⟨bG BK683⟩, ⟨bG BK685⟩, ⟨by exact lT HB (gC GE683 (gC GE685 gN))⟩⟩
 case round =>
  skip;{
 clear H'
 try clear c3 c4 c43
 obtain ⟨x5_3, rfl, HA, HK3, BK683, BK685, HB⟩ := hrel
 cases gk with
 | zero => exact absurd HA.out (by simp [spec_StateOk.l1])
 | succ k3 =>
  skip;{
 have H := HA.out
 clear HA
 simp only [spec_StateOk.l1] at H
 by_cases c44 : x5_3 < x3_1
 {
 rw [if_pos c44] at H
 have c44b0 := decide_eq_true c44
 clear c44
 by_cases c45 : 0 ≤ x5_3
 {
 rw [if_pos c45] at H
 have c45b0 := decide_eq_true c45
 clear c45
 by_cases c46 : x5_3 < (l0_0.length : Int)
 {
 rw [if_pos c46] at H
 have c46b0 := decide_eq_true c46
 clear c46
 by_cases c47 : ((rd_T66 l0_0 x5_3).f1).toList = ((rd_T66 l0_0 x3_1).f1).toList
 {
 rw [if_pos c47] at H
 have c47b0 := beq_iff_eq.mpr c47
 have c47b1 := bne_eq_false_iff_eq.mpr c47
 clear c47
 by_cases c48 : ((rd_T66 l0_0 x5_3).f2).toList = ((rd_T66 l0_0 x3_1).f2).toList
 {
 rw [if_pos c48] at H
 have c48b0 := beq_iff_eq.mpr c48
 have c48b1 := bne_eq_false_iff_eq.mpr c48
 clear c48
 obtain rfl := Option.some.inj H
 try go_wp2
 replace BK683 := ak (blk_drew BK683.out)
 replace BK685 := ak (blk_drew BK685.out)
 replace HB := ak (below_drew1 HB.out)
 have p694 : 0 ≤ (x5_3 : Int) := oda
 have q694 : x5_3 < (l0_0.length : Int) := oda
 obtain ⟨ad694, A694_4, c694_4, e694, hx694_0, hx694_1, hx694_2, hx694_3, hx694_4, hl694_4, hi694_4⟩ := at_T66 HR0_0.out x5_3 p694 q694
 have hw694_4 := hx694_4
 have hw694_3 := hx694_3
 have hw694_2 := hx694_2
 have hw694_1 := hx694_1
 have hw694_0 := hx694_0
 obtain rfl : ad684 = ad694 := (by injection e694)
 replace hx694_0 := clB HB hx694_0
 replace hx694_1 := clB HB hx694_1
 replace hx694_2 := clB HB hx694_2
 replace hx694_3 := clB HB hx694_3
 replace hx694_4 := clB HB hx694_4
 have HR694_4 := Aside0.mk hi694_4
 have HC694_4 := Aside0.mk hl694_4
 clear hi694_4 hl694_4
 replace p694 := eq_true p694
 replace q694 := eq_true q694
 have p695 : 0 ≤ (x5_3 : Int) := oda
 have q695 : x5_3 < (l0_0.length : Int) := oda
 obtain ⟨ad695, A695_4, c695_4, e695, hx695_0, hx695_1, hx695_2, hx695_3, hx695_4, hl695_4, hi695_4⟩ := at_T66 HR0_0.out x5_3 p695 q695
 have hw695_4 := hx695_4
 have hw695_3 := hx695_3
 have hw695_2 := hx695_2
 have hw695_1 := hx695_1
 have hw695_0 := hx695_0
 obtain rfl : ad684 = ad695 := (by injection e695)
 replace hx695_0 := clB HB hx695_0
 replace hx695_1 := clB HB hx695_1
 replace hx695_2 := clB HB hx695_2
 replace hx695_3 := clB HB hx695_3
 replace hx695_4 := clB HB hx695_4
 have HR695_4 := Aside0.mk hi695_4
 have HC695_4 := Aside0.mk hl695_4
 clear hi695_4 hl695_4
 replace p695 := eq_true p695
 replace q695 := eq_true q695
 have ea_ := Option.some.inj (hx694_4.symm.trans hx695_4)
 injection ea_ with ea_ en_ ec_
 subst ea_
 subst ec_
 clear en_
 refine start_ (n := 20) (S := fun w' => w'.cell? ⟨gb683, 0, none⟩ = some (.slice (some ad684) l0_0.length c0_0) ∧ w'.cell? ⟨gb685, 0, none⟩ = some (.int .i64 ((rd_T66 l0_0 x3_1).f0)) ∧ w'.cell? ⟨gb685, 1, none⟩ = some (.string ((rd_T66 l0_0 x3_1).f1)) ∧ w'.cell? ⟨gb685, 2, none⟩ = some (.string ((rd_T66 l0_0 x3_1).f2)) ∧ w'.cell? ⟨gb685, 3, none⟩ = some (.int .i64 ((rd_T66 l0_0 x3_1).f3)) ∧ w'.cell? ⟨gb685, 4, none⟩ = some (.slice A684_4 ((rd_T66 l0_0 x3_1).f4).length c684_4) ∧ w'.cell? (ad684.add ((x5_3).toNat * 5)) = some (.int .i64 ((rd_T66 l0_0 x5_3).f0)) ∧ w'.cell? ⟨(ad684.add ((x5_3).toNat * 5)).block, (ad684.add ((x5_3).toNat * 5)).off + 1, none⟩ = some (.string ((rd_T66 l0_0 x5_3).f1)) ∧ w'.cell? ⟨(ad684.add ((x5_3).toNat * 5)).block, (ad684.add ((x5_3).toNat * 5)).off + 2, none⟩ = some (.string ((rd_T66 l0_0 x5_3).f2)) ∧ w'.cell? ⟨(ad684.add ((x5_3).toNat * 5)).block, (ad684.add ((x5_3).toNat * 5)).off + 3, none⟩ = some (.int .i64 ((rd_T66 l0_0 x5_3).f3)) ∧ w'.cell? ⟨(ad684.add ((x5_3).toNat * 5)).block, (ad684.add ((x5_3).toNat * 5)).off + 4, none⟩ = some (.slice A694_4 ((rd_T66 l0_0 x5_3).f4).length c694_4) ∧ w'.cell? (ad684.add ((x5_3).toNat * 5)) = some (.int .i64 ((rd_T66 l0_0 x5_3).f0)) ∧ w'.cell? ⟨(ad684.add ((x5_3).toNat * 5)).block, (ad684.add ((x5_3).toNat * 5)).off + 1, none⟩ = some (.string ((rd_T66 l0_0 x5_3).f1)) ∧ w'.cell? ⟨(ad684.add ((x5_3).toNat * 5)).block, (ad684.add ((x5_3).toNat * 5)).off + 2, none⟩ = some (.string ((rd_T66 l0_0 x5_3).f2)) ∧ w'.cell? ⟨(ad684.add ((x5_3).toNat * 5)).block, (ad684.add ((x5_3).toNat * 5)).off + 3, none⟩ = some (.int .i64 ((rd_T66 l0_0 x5_3).f3)) ∧ w'.cell? ⟨(ad684.add ((x5_3).toNat * 5)).block, (ad684.add ((x5_3).toNat * 5)).off + 4, none⟩ = some (.slice A694_4 ((rd_T66 l0_0 x5_3).f4).length c694_4)) (ds := []) (fb 20 0) (by kernel_rfl) rfl rfl ⟨bc BK683 0, bc BK685 0, bc BK685 1, bc BK685 2, bc BK685 3, bc BK685 4, (clB HB hw694_0 :), (clB HB hw694_1 :), (clB HB hw694_2 :), (clB HB hw694_3 :), (clB HB hw694_4 :), (clB HB hw695_0 :), (clB HB hw695_1 :), (clB HB hw695_2 :), (clB HB hw695_3 :), (clB HB hw695_4 :)⟩ (fun hHeld => ?_); refine with_tabW spec_StateOk.tab10 spec_StateOk.bits10 (fun HT_ HW_ => ?_)
 generalize wr.drew = w49 at BK683 BK685 HB HR694_4 HR695_4 hx694_0 hx694_1 hx694_2 hx694_3 hx694_4 hx695_0 hx695_1 hx695_2 hx695_3 hx695_4 hHeld ⊢
 refine pu 0 63 (fb 20 1) HT_ ?_
 refine pu 2 65 (fb 20 5) HT_ ?_
 refine pu 6 69 (fb 20 69) HT_ ?_
 refine tk 1 64 (fb 20 71) HT_ HW_ hHeld ?_
 refine pu 3 66 (fb 20 79) HT_ ?_
 refine pu 4 67 (fb 20 95) HT_ ?_
 refine tk 5 68 (fb 20 127) HT_ HW_ hHeld ?_
 refine tk 7 70 (fb 20 255) HT_ HW_ hHeld ?_
 refine pu 8 71 (fb 20 511) HT_ ?_
 refine pu 9 72 (fb 20 1023) HT_ ?_
 refine pu 10 73 (fb 20 2047) HT_ ?_
 refine pu 12 75 (fb 20 6143) HT_ ?_
 refine pu 16 79 (fb 20 71679) HT_ ?_
 refine tk 11 74 (fb 20 73727) HT_ HW_ hHeld ?_
 refine pu 13 76 (fb 20 81919) HT_ ?_
 refine pu 14 77 (fb 20 98303) HT_ ?_
 refine tk 15 78 (fb 20 131071) HT_ HW_ hHeld ?_
 refine tk 17 80 (fb 20 262143) HT_ HW_ hHeld ?_
 refine pu 18 81 (fb 20 524287) HT_ ?_
 refine pu 19 82 (fb 20 1048575) HT_ ?_
 refine done_ (done_of HT_.out (by kernel_rfl)) ?_
 try go_wp2
 go_ret
 exact ⟨ew, by exact lT HB (gC GE683 (gC GE685 gN))⟩
 }
 {
 rw [if_neg c48] at H
 have c48b0 := beq_eq_false_iff_ne.mpr c48
 have c48b1 := bne_iff_ne.mpr c48
 have H' := Aside0.mk H
 clear H
 try go_wp2
 replace BK683 := ak (blk_drew BK683.out)
 replace BK685 := ak (blk_drew BK685.out)
 replace HB := ak (below_drew1 HB.out)
 have p694 : 0 ≤ (x5_3 : Int) := oda
 have q694 : x5_3 < (l0_0.length : Int) := oda
 obtain ⟨ad694, A694_4, c694_4, e694, hx694_0, hx694_1, hx694_2, hx694_3, hx694_4, hl694_4, hi694_4⟩ := at_T66 HR0_0.out x5_3 p694 q694
 have hw694_4 := hx694_4
 have hw694_3 := hx694_3
 have hw694_2 := hx694_2
 have hw694_1 := hx694_1
 have hw694_0 := hx694_0
 obtain rfl : ad684 = ad694 := (by injection e694)
 replace hx694_0 := clB HB hx694_0
 replace hx694_1 := clB HB hx694_1
 replace hx694_2 := clB HB hx694_2
 replace hx694_3 := clB HB hx694_3
 replace hx694_4 := clB HB hx694_4
 have HR694_4 := Aside0.mk hi694_4
 have HC694_4 := Aside0.mk hl694_4
 clear hi694_4 hl694_4
 replace p694 := eq_true p694
 replace q694 := eq_true q694
 have p695 : 0 ≤ (x5_3 : Int) := oda
 have q695 : x5_3 < (l0_0.length : Int) := oda
 obtain ⟨ad695, A695_4, c695_4, e695, hx695_0, hx695_1, hx695_2, hx695_3, hx695_4, hl695_4, hi695_4⟩ := at_T66 HR0_0.out x5_3 p695 q695
 have hw695_4 := hx695_4
 have hw695_3 := hx695_3
 have hw695_2 := hx695_2
 have hw695_1 := hx695_1
 have hw695_0 := hx695_0
 obtain rfl : ad684 = ad695 := (by injection e695)
 replace hx695_0 := clB HB hx695_0
 replace hx695_1 := clB HB hx695_1
 replace hx695_2 := clB HB hx695_2
 replace hx695_3 := clB HB hx695_3
 replace hx695_4 := clB HB hx695_4
 have HR695_4 := Aside0.mk hi695_4
 have HC695_4 := Aside0.mk hl695_4
 clear hi695_4 hl695_4
 replace p695 := eq_true p695
 replace q695 := eq_true q695
 have ea_ := Option.some.inj (hx694_4.symm.trans hx695_4)
 injection ea_ with ea_ en_ ec_
 subst ea_
 subst ec_
 clear en_
 refine start_ (n := 20) (S := fun w' => w'.cell? ⟨gb683, 0, none⟩ = some (.slice (some ad684) l0_0.length c0_0) ∧ w'.cell? ⟨gb685, 0, none⟩ = some (.int .i64 ((rd_T66 l0_0 x3_1).f0)) ∧ w'.cell? ⟨gb685, 1, none⟩ = some (.string ((rd_T66 l0_0 x3_1).f1)) ∧ w'.cell? ⟨gb685, 2, none⟩ = some (.string ((rd_T66 l0_0 x3_1).f2)) ∧ w'.cell? ⟨gb685, 3, none⟩ = some (.int .i64 ((rd_T66 l0_0 x3_1).f3)) ∧ w'.cell? ⟨gb685, 4, none⟩ = some (.slice A684_4 ((rd_T66 l0_0 x3_1).f4).length c684_4) ∧ w'.cell? (ad684.add ((x5_3).toNat * 5)) = some (.int .i64 ((rd_T66 l0_0 x5_3).f0)) ∧ w'.cell? ⟨(ad684.add ((x5_3).toNat * 5)).block, (ad684.add ((x5_3).toNat * 5)).off + 1, none⟩ = some (.string ((rd_T66 l0_0 x5_3).f1)) ∧ w'.cell? ⟨(ad684.add ((x5_3).toNat * 5)).block, (ad684.add ((x5_3).toNat * 5)).off + 2, none⟩ = some (.string ((rd_T66 l0_0 x5_3).f2)) ∧ w'.cell? ⟨(ad684.add ((x5_3).toNat * 5)).block, (ad684.add ((x5_3).toNat * 5)).off + 3, none⟩ = some (.int .i64 ((rd_T66 l0_0 x5_3).f3)) ∧ w'.cell? ⟨(ad684.add ((x5_3).toNat * 5)).block, (ad684.add ((x5_3).toNat * 5)).off + 4, none⟩ = some (.slice A694_4 ((rd_T66 l0_0 x5_3).f4).length c694_4) ∧ w'.cell? (ad684.add ((x5_3).toNat * 5)) = some (.int .i64 ((rd_T66 l0_0 x5_3).f0)) ∧ w'.cell? ⟨(ad684.add ((x5_3).toNat * 5)).block, (ad684.add ((x5_3).toNat * 5)).off + 1, none⟩ = some (.string ((rd_T66 l0_0 x5_3).f1)) ∧ w'.cell? ⟨(ad684.add ((x5_3).toNat * 5)).block, (ad684.add ((x5_3).toNat * 5)).off + 2, none⟩ = some (.string ((rd_T66 l0_0 x5_3).f2)) ∧ w'.cell? ⟨(ad684.add ((x5_3).toNat * 5)).block, (ad684.add ((x5_3).toNat * 5)).off + 3, none⟩ = some (.int .i64 ((rd_T66 l0_0 x5_3).f3)) ∧ w'.cell? ⟨(ad684.add ((x5_3).toNat * 5)).block, (ad684.add ((x5_3).toNat * 5)).off + 4, none⟩ = some (.slice A694_4 ((rd_T66 l0_0 x5_3).f4).length c694_4)) (ds := []) (fb 20 0) (by kernel_rfl) rfl rfl ⟨bc BK683 0, bc BK685 0, bc BK685 1, bc BK685 2, bc BK685 3, bc BK685 4, (clB HB hw694_0 :), (clB HB hw694_1 :), (clB HB hw694_2 :), (clB HB hw694_3 :), (clB HB hw694_4 :), (clB HB hw695_0 :), (clB HB hw695_1 :), (clB HB hw695_2 :), (clB HB hw695_3 :), (clB HB hw695_4 :)⟩ (fun hHeld => ?_); refine with_tabW spec_StateOk.tab10 spec_StateOk.bits10 (fun HT_ HW_ => ?_)
 generalize wr.drew = w50 at BK683 BK685 HB HR694_4 HR695_4 hx694_0 hx694_1 hx694_2 hx694_3 hx694_4 hx695_0 hx695_1 hx695_2 hx695_3 hx695_4 hHeld ⊢
 refine pu 0 63 (fb 20 1) HT_ ?_
 refine pu 2 65 (fb 20 5) HT_ ?_
 refine pu 6 69 (fb 20 69) HT_ ?_
 refine tk 1 64 (fb 20 71) HT_ HW_ hHeld ?_
 refine pu 3 66 (fb 20 79) HT_ ?_
 refine pu 4 67 (fb 20 95) HT_ ?_
 refine tk 5 68 (fb 20 127) HT_ HW_ hHeld ?_
 refine tk 7 70 (fb 20 255) HT_ HW_ hHeld ?_
 refine pu 8 71 (fb 20 511) HT_ ?_
 refine pu 9 72 (fb 20 1023) HT_ ?_
 refine pu 10 73 (fb 20 2047) HT_ ?_
 refine pu 12 75 (fb 20 6143) HT_ ?_
 refine pu 16 79 (fb 20 71679) HT_ ?_
 refine tk 11 74 (fb 20 73727) HT_ HW_ hHeld ?_
 refine pu 13 76 (fb 20 81919) HT_ ?_
 refine pu 14 77 (fb 20 98303) HT_ ?_
 refine tk 15 78 (fb 20 131071) HT_ HW_ hHeld ?_
 refine tk 17 80 (fb 20 262143) HT_ HW_ hHeld ?_
 refine pu 18 81 (fb 20 524287) HT_ ?_
 refine pu 19 82 (fb 20 1048575) HT_ ?_
 refine done_ (done_of HT_.out (by kernel_rfl)) ?_
 try go_wp2
 go_roundg k3
 case measure => have := HK1.out; have := HJ4.out; have := HK3.out; omega
 case rel => exact ⟨_, rr, H', ⟨by have := HK1.out; have := HJ4.out; have := HK3.out; omega⟩, ⟨bG BK683⟩, ⟨bG BK685⟩, ⟨by exact lT HB (gC GE683 (gC GE685 gN))⟩⟩
 }
 }
 {
 rw [if_neg c47] at H
 have c47b0 := beq_eq_false_iff_ne.mpr c47
 have c47b1 := bne_iff_ne.mpr c47
 have H' := Aside0.mk H
 clear H
 try go_wp2
 replace BK683 := ak (blk_drew BK683.out)
 replace BK685 := ak (blk_drew BK685.out)
 replace HB := ak (below_drew1 HB.out)
 have p694 : 0 ≤ (x5_3 : Int) := oda
 have q694 : x5_3 < (l0_0.length : Int) := oda
 obtain ⟨ad694, A694_4, c694_4, e694, hx694_0, hx694_1, hx694_2, hx694_3, hx694_4, hl694_4, hi694_4⟩ := at_T66 HR0_0.out x5_3 p694 q694
 have hw694_4 := hx694_4
 have hw694_3 := hx694_3
 have hw694_2 := hx694_2
 have hw694_1 := hx694_1
 have hw694_0 := hx694_0
 obtain rfl : ad684 = ad694 := (by injection e694)
 replace hx694_0 := clB HB hx694_0
 replace hx694_1 := clB HB hx694_1
 replace hx694_2 := clB HB hx694_2
 replace hx694_3 := clB HB hx694_3
 replace hx694_4 := clB HB hx694_4
 have HR694_4 := Aside0.mk hi694_4
 have HC694_4 := Aside0.mk hl694_4
 clear hi694_4 hl694_4
 replace p694 := eq_true p694
 replace q694 := eq_true q694
 refine start_ (n := 20) (S := fun w' => w'.cell? ⟨gb683, 0, none⟩ = some (.slice (some ad684) l0_0.length c0_0) ∧ w'.cell? ⟨gb685, 0, none⟩ = some (.int .i64 ((rd_T66 l0_0 x3_1).f0)) ∧ w'.cell? ⟨gb685, 1, none⟩ = some (.string ((rd_T66 l0_0 x3_1).f1)) ∧ w'.cell? ⟨gb685, 2, none⟩ = some (.string ((rd_T66 l0_0 x3_1).f2)) ∧ w'.cell? ⟨gb685, 3, none⟩ = some (.int .i64 ((rd_T66 l0_0 x3_1).f3)) ∧ w'.cell? ⟨gb685, 4, none⟩ = some (.slice A684_4 ((rd_T66 l0_0 x3_1).f4).length c684_4) ∧ w'.cell? (ad684.add ((x5_3).toNat * 5)) = some (.int .i64 ((rd_T66 l0_0 x5_3).f0)) ∧ w'.cell? ⟨(ad684.add ((x5_3).toNat * 5)).block, (ad684.add ((x5_3).toNat * 5)).off + 1, none⟩ = some (.string ((rd_T66 l0_0 x5_3).f1)) ∧ w'.cell? ⟨(ad684.add ((x5_3).toNat * 5)).block, (ad684.add ((x5_3).toNat * 5)).off + 2, none⟩ = some (.string ((rd_T66 l0_0 x5_3).f2)) ∧ w'.cell? ⟨(ad684.add ((x5_3).toNat * 5)).block, (ad684.add ((x5_3).toNat * 5)).off + 3, none⟩ = some (.int .i64 ((rd_T66 l0_0 x5_3).f3)) ∧ w'.cell? ⟨(ad684.add ((x5_3).toNat * 5)).block, (ad684.add ((x5_3).toNat * 5)).off + 4, none⟩ = some (.slice A694_4 ((rd_T66 l0_0 x5_3).f4).length c694_4)) (ds := []) (fb 20 0) (by kernel_rfl) rfl rfl ⟨bc BK683 0, bc BK685 0, bc BK685 1, bc BK685 2, bc BK685 3, bc BK685 4, (clB HB hw694_0 :), (clB HB hw694_1 :), (clB HB hw694_2 :), (clB HB hw694_3 :), (clB HB hw694_4 :)⟩ (fun hHeld => ?_); refine with_tabW spec_StateOk.tab10 spec_StateOk.bits10 (fun HT_ HW_ => ?_)
 generalize wr.drew = w51 at BK683 BK685 HB HR694_4 hx694_0 hx694_1 hx694_2 hx694_3 hx694_4 hHeld ⊢
 refine pu 0 63 (fb 20 1) HT_ ?_
 refine pu 2 65 (fb 20 5) HT_ ?_
 refine pu 6 69 (fb 20 69) HT_ ?_
 refine tk 1 64 (fb 20 71) HT_ HW_ hHeld ?_
 refine pu 3 66 (fb 20 79) HT_ ?_
 refine pu 4 67 (fb 20 95) HT_ ?_
 refine tk 5 68 (fb 20 127) HT_ HW_ hHeld ?_
 refine tk 7 70 (fb 20 255) HT_ HW_ hHeld ?_
 refine pu 8 71 (fb 20 511) HT_ ?_
 refine pu 9 72 (fb 20 1023) HT_ ?_
 refine pn 10 73 (fb 20 2047) HT_ ?_
 refine pn 11 74 (fb 20 4095) HT_ ?_
 refine pn 12 75 (fb 20 8191) HT_ ?_
 refine pn 13 76 (fb 20 16383) HT_ ?_
 refine pn 14 77 (fb 20 32767) HT_ ?_
 refine pn 15 78 (fb 20 65535) HT_ ?_
 refine pn 16 79 (fb 20 131071) HT_ ?_
 refine pn 17 80 (fb 20 262143) HT_ ?_
 refine pn 18 81 (fb 20 524287) HT_ ?_
 refine pu 19 82 (fb 20 1048575) HT_ ?_
 refine done_ (done_of HT_.out (by kernel_rfl)) ?_
 try go_wp2
 go_roundg k3
 case measure => have := HK1.out; have := HJ4.out; have := HK3.out; omega
 case rel => exact ⟨_, rr, H', ⟨by have := HK1.out; have := HJ4.out; have := HK3.out; omega⟩, ⟨bG BK683⟩, ⟨bG BK685⟩, ⟨by exact lT HB (gC GE683 (gC GE685 gN))⟩⟩
 }
 }
 {rw [if_neg c46] at H;exact absurd H (by simp)}
 }
 {rw [if_neg c45] at H;exact absurd H (by simp)}
 }
 {
 rw [if_neg c44] at H
 have c44b0 := decide_eq_false c44
 clear c44
 have H' := Aside0.mk H
 clear H
 go_wp2
 go_loopg [6] k3 (fun kq v6 w' => ∃ (x6_4 : Int), v6 = .int .i64 x6_4 ∧ Aside0 (spec_StateOk.l2 kq x3_1 x6_4 l0_0 ((rd_T66 l0_0 x3_1).f0) ((rd_T66 l0_0 x3_1).f1) ((rd_T66 l0_0 x3_1).f2) ((rd_T66 l0_0 x3_1).f3) ((rd_T66 l0_0 x3_1).f4) = some r) ∧ Aside0 (kq ≤ k3) ∧ Aside0 (w'.heap[gb683]? = some (.cells #[(.slice (some ad684) l0_0.length c0_0)] 60 (0, 0))) ∧ Aside0 (w'.heap[gb685]? = some (.cells #[.int .i64 ((rd_T66 l0_0 x3_1).f0), .string ((rd_T66 l0_0 x3_1).f1), .string ((rd_T66 l0_0 x3_1).f2), .int .i64 ((rd_T66 l0_0 x3_1).f3), (.slice A684_4 ((rd_T66 l0_0 x3_1).f4).length c684_4)] 66 (0, 0))) ∧ Aside0 (Below w.heap.size w w'))
 case atStart => exact ⟨_, rr, H', ⟨Nat.le_refl _⟩, ⟨bG BK683⟩, ⟨bG BK685⟩, ⟨by exact lT HB (gC GE683 (gC GE685 gN))⟩⟩
 case round =>
  skip;{
 clear H'
 try clear c4 c44 c44b0
 obtain ⟨x6_4, rfl, HA, HK4, BK683, BK685, HB⟩ := hrel
 cases gk with
 | zero => exact absurd HA.out (by simp [spec_StateOk.l2])
 | succ k4 =>
  skip;{
 have H := HA.out
 clear HA
 simp only [spec_StateOk.l2] at H
 by_cases c52 : x6_4 < (((rd_T66 l0_0 x3_1).f4).length : Int)
 {
 rw [if_pos c52] at H
 have c52b0 := decide_eq_true c52
 clear c52
 by_cases c53 : 0 ≤ x6_4
 {
 rw [if_pos c53] at H
 have c53b0 := decide_eq_true c53
 clear c53
 have HC54 := Aside0.mk H
 clear H
 have hnb55 := NB685_683.out
 have hnc55 := NB683_685.out
 obtain ⟨_, _, _, _, _, _, _, _, _, _⟩ := bC5 BK685
 have p696 : 0 ≤ (x6_4 : Int) := oda
 have q696 : x6_4 < (((rd_T66 l0_0 x3_1).f4).length : Int) := oda
 obtain ⟨ad696, e696, hx696_0, hx696_1, hx696_2⟩ := at_T68 HR684_4.out x6_4 p696 q696
 cases e696
 replace hx696_0 := clB HB hx696_0
 replace hx696_1 := clB HB hx696_1
 replace hx696_2 := clB HB hx696_2
 replace p696 := eq_true p696
 replace q696 := eq_true q696
 go_upto_region 16 with ((with_reducible refine gate_dst (N := 7) rfl ?_); (try (refine gate_guard (by rfl) ?_; dsimp only)); refine bx 7 #[.int .i64 0, .int .i64 0, .string (⟨#[]⟩ : ByteArray)] 68 ?_; intro gb697 hg w57 hbox hb; replace BK697 := ak (hbox); replace GW697 := ak (bz hg (lT HB (gC GE683 (gC GE685 gN)))); replace GE697 := ak (bz hg (lT HB (gC GE683 (gC GE685 gN)))); replace HB := ak (below_step (lT HB (gC GE683 (gC GE685 gN))) hb); replace NB683_697 := ak (nl hg (bG BK683)); replace NB697_683 := ak (ng hg (bG BK683)); replace BK683 := bB BK683 hb; replace NB685_697 := ak (nl hg (bG BK685)); replace NB697_685 := ak (ng hg (bG BK685)); replace BK685 := bB BK685 hb; clear hb hbox hg; have hnb58 := NB697_683.out; have hnc58 := NB683_697.out; have hnb59 := NB697_685.out; have hnc59 := NB685_697.out; obtain ⟨_, _, _, _, _, _⟩ := bC3 BK697)
 (try simp only [Act.put, List.setIfInBounds_toArray, List.set_cons_zero, List.set_cons_succ])
 go_cut [129] (fun v129 wc => ∃ (kq : Nat) (x129_53 : Bool), v129 = .bool x129_53 ∧ Aside0 (spec_StateOk.j4 kq x3_1 x6_4 x129_53 l0_0 ((rd_T66 l0_0 x3_1).f0) ((rd_T66 l0_0 x3_1).f1) ((rd_T66 l0_0 x3_1).f2) ((rd_T66 l0_0 x3_1).f3) ((rd_T66 l0_0 x3_1).f4) = some r) ∧ Aside0 (kq ≤ k4) ∧ Aside0 (wc.heap[gb683]? = some (.cells #[(.slice (some ad684) l0_0.length c0_0)] 60 (0, 0))) ∧ Aside0 (wc.heap[gb685]? = some (.cells #[.int .i64 ((rd_T66 l0_0 x3_1).f0), .string ((rd_T66 l0_0 x3_1).f1), .string ((rd_T66 l0_0 x3_1).f2), .int .i64 ((rd_T66 l0_0 x3_1).f3), (.slice (some ad696) ((rd_T66 l0_0 x3_1).f4).length c684_4)] 66 (0, 0))) ∧ Aside0 (wc.heap[gb697]? = some (.cells #[.int .i64 ((rd_T68 ((rd_T66 l0_0 x3_1).f4) x6_4).f0), .int .i64 ((rd_T68 ((rd_T66 l0_0 x3_1).f4) x6_4).f1), .string ((rd_T68 ((rd_T66 l0_0 x3_1).f4) x6_4).f2)] 68 (0, 0))) ∧ Aside0 (Below w.heap.size w wc))
 case first =>
  skip;{
 have H := HC54.out
 clear HC54
 obtain ⟨t698, A61, H⟩ := eb H
 try dsimp only at H
 by_cases c62 : t698 = true
 {
 subst c62
 rw [if_pos rfl] at H
 by_cases c63 : x6_4 > 0
 {
 rw [if_pos c63] at H
 have c63b0 : decide (0 < x6_4) = true := decide_eq_true c63
 clear c63
 (first | rw [c63b0] | (simp only [i64_w, i32_w]; rw [c63b0]) | skip)
 obtain ⟨ji64, hji64⟩ : ∃ j_ : Int, (wrap64 (x6_4 - 1)) = j_ := ⟨_, rfl⟩
 replace H : (if 0 ≤ (ji64) then (if (ji64) < (((rd_T66 l0_0 x3_1).f4).length : Int) then (if ((rd_T68 ((rd_T66 l0_0 x3_1).f4) (ji64)).f0) ≥ ((rd_T68 ((rd_T66 l0_0 x3_1).f4) x6_4).f0) then (spec_StateOk.j4 k4 x3_1 x6_4 true l0_0 ((rd_T66 l0_0 x3_1).f0) ((rd_T66 l0_0 x3_1).f1) ((rd_T66 l0_0 x3_1).f2) ((rd_T66 l0_0 x3_1).f3) ((rd_T66 l0_0 x3_1).f4)) else ((spec_l01In.f ((rd_T68 ((rd_T66 l0_0 x3_1).f4) x6_4).f1) 0 7).bind fun t700 => (if t700 = true then (spec_StateOk.j4 k4 x3_1 x6_4 (decide ((((rd_T68 ((rd_T66 l0_0 x3_1).f4) x6_4).f2).size : Int) > 100)) l0_0 ((rd_T66 l0_0 x3_1).f0) ((rd_T66 l0_0 x3_1).f1) ((rd_T66 l0_0 x3_1).f2) ((rd_T66 l0_0 x3_1).f3) ((rd_T66 l0_0 x3_1).f4)) else (spec_StateOk.j4 k4 x3_1 x6_4 true l0_0 ((rd_T66 l0_0 x3_1).f0) ((rd_T66 l0_0 x3_1).f1) ((rd_T66 l0_0 x3_1).f2) ((rd_T66 l0_0 x3_1).f3) ((rd_T66 l0_0 x3_1).f4))))) else (none)) else (none)) = some r := by first | (rw [hji64] at H; exact H) | (simp only [hji64] at H ⊢; exact H)
 (try rw [hji64] at A61)
 have hji64w : (IntKind.i64.wrap (x6_4 - 1)) = ji64 := (i64_w _).trans hji64
 by_cases c65 : 0 ≤ (ji64)
 {
 rw [if_pos c65] at H
 have c65b0 := decide_eq_true c65
 clear c65
 by_cases c66 : (ji64) < (((rd_T66 l0_0 x3_1).f4).length : Int)
 {
 rw [if_pos c66] at H
 have c66b0 := decide_eq_true c66
 clear c66
 have HS_ := Aside0.mk H
 clear H
 try go_wp2
 obtain ⟨w68, eW_⟩ : ∃ w_, w_ = (((w57.setCell ⟨gb697, 0, none⟩ (.int .i64 ((rd_T68 ((rd_T66 l0_0 x3_1).f4) x6_4).f0))).setCell ⟨gb697, 1, none⟩ (.int .i64 ((rd_T68 ((rd_T66 l0_0 x3_1).f4) x6_4).f1))).setCell ⟨gb697, 2, none⟩ (.string ((rd_T68 ((rd_T66 l0_0 x3_1).f4) x6_4).f2))) := ⟨_, rfl⟩
 have n0_ : Aside0 (w68.heap[gb683]? = some (.cells #[.slice (some ad684) l0_0.length c0_0] 60 (0, 0))) := by rw [eW_]; exact ⟨bF BK683 (nC NB683_697 nN)⟩
 have n1_ : Aside0 (w68.heap[gb685]? = some (.cells #[.int .i64 ((rd_T66 l0_0 x3_1).f0), .string ((rd_T66 l0_0 x3_1).f1), .string ((rd_T66 l0_0 x3_1).f2), .int .i64 ((rd_T66 l0_0 x3_1).f3), .slice (some ad696) ((rd_T66 l0_0 x3_1).f4).length c684_4] 66 (0, 0))) := by rw [eW_]; exact ⟨bF BK685 (nC NB685_697 nN)⟩
 have n2_ : Aside0 (w68.heap[gb697]? = some (.cells #[.int .i64 ((rd_T68 ((rd_T66 l0_0 x3_1).f4) x6_4).f0), .int .i64 ((rd_T68 ((rd_T66 l0_0 x3_1).f4) x6_4).f1), .string ((rd_T68 ((rd_T66 l0_0 x3_1).f4) x6_4).f2)] 68 (0, 0))) := by rw [eW_]; exact ⟨bW BK697⟩
 have n3_ : Aside0 (Below w.heap.size w w68) := by rw [eW_]; exact ⟨by exact lT HB (gC GE683 (gC GE685 (gC GE697 gN)))⟩
 try clear BK683 BK685 BK697 HB
 rw [← eW_];clear eW_
 have BK683 := n0_
 have BK685 := n1_
 have BK697 := n2_
 have HB := n3_
 clear n0_ n1_ n2_ n3_
 replace BK683 := ak (blk_drew BK683.out)
 replace BK685 := ak (blk_drew BK685.out)
 replace BK697 := ak (blk_drew BK697.out)
 replace HB := ak (below_drew1 HB.out)
 have p699 : 0 ≤ ((ji64) : Int) := oda
 have q699 : (ji64) < (((rd_T66 l0_0 x3_1).f4).length : Int) := oda
 obtain ⟨ad699, e699, hx699_0, hx699_1, hx699_2⟩ := at_T68 HR684_4.out (ji64) p699 q699
 have hw699_2 := hx699_2
 have hw699_1 := hx699_1
 have hw699_0 := hx699_0
 obtain rfl : ad696 = ad699 := (by injection e699)
 replace hx699_0 := clB HB hx699_0
 replace hx699_1 := clB HB hx699_1
 replace hx699_2 := clB HB hx699_2
 replace p699 := eq_true p699
 replace q699 := eq_true q699
 refine start_ (n := 35) (S := fun w' => w'.cell? ⟨gb697, 0, none⟩ = some (.int .i64 ((rd_T68 ((rd_T66 l0_0 x3_1).f4) x6_4).f0)) ∧ w'.cell? ⟨gb697, 1, none⟩ = some (.int .i64 ((rd_T68 ((rd_T66 l0_0 x3_1).f4) x6_4).f1)) ∧ w'.cell? ⟨gb697, 2, none⟩ = some (.string ((rd_T68 ((rd_T66 l0_0 x3_1).f4) x6_4).f2)) ∧ w'.cell? ⟨gb685, 0, none⟩ = some (.int .i64 ((rd_T66 l0_0 x3_1).f0)) ∧ w'.cell? ⟨gb685, 1, none⟩ = some (.string ((rd_T66 l0_0 x3_1).f1)) ∧ w'.cell? ⟨gb685, 2, none⟩ = some (.string ((rd_T66 l0_0 x3_1).f2)) ∧ w'.cell? ⟨gb685, 3, none⟩ = some (.int .i64 ((rd_T66 l0_0 x3_1).f3)) ∧ w'.cell? ⟨gb685, 4, none⟩ = some (.slice (some ad696) ((rd_T66 l0_0 x3_1).f4).length c684_4) ∧ w'.cell? (ad696.add (((ji64)).toNat * 3)) = some (.int .i64 ((rd_T68 ((rd_T66 l0_0 x3_1).f4) (ji64)).f0)) ∧ w'.cell? ⟨(ad696.add (((ji64)).toNat * 3)).block, (ad696.add (((ji64)).toNat * 3)).off + 1, none⟩ = some (.int .i64 ((rd_T68 ((rd_T66 l0_0 x3_1).f4) (ji64)).f1)) ∧ w'.cell? ⟨(ad696.add (((ji64)).toNat * 3)).block, (ad696.add (((ji64)).toNat * 3)).off + 2, none⟩ = some (.string ((rd_T68 ((rd_T66 l0_0 x3_1).f4) (ji64)).f2))) (ds := []) (fb 35 0) (by kernel_rfl) rfl rfl ⟨bc BK697 0, bc BK697 1, bc BK697 2, bc BK685 0, bc BK685 1, bc BK685 2, bc BK685 3, bc BK685 4, (clB HB hw699_0 :), (clB HB hw699_1 :), (clB HB hw699_2 :)⟩ (fun hHeld => ?_); refine with_tabW spec_StateOk.tab16 spec_StateOk.bits16 (fun HT_ HW_ => ?_)
 generalize w68.drew = w69 at BK683 BK685 BK697 HB hx699_0 hx699_1 hx699_2 hHeld ⊢
 refine pu 0 95 (fb 35 1) HT_ ?_
 refine pu 2 97 (fb 35 5) HT_ ?_
 refine tk 1 96 (fb 35 7) HT_ HW_ hHeld ?_
 refine tk 3 98 (fb 35 15) HT_ HW_ hHeld ?_
 refine pu 4 99 (fb 35 31) HT_ ?_
 refine on 5 (some 100) (fb 35 63) HT_ (fun K hK => ?_)
 refine gs Try.func61 #[.int .i64 ((rd_T68 ((rd_T66 l0_0 x3_1).f4) x6_4).f0), .int .i64 1, .int .i64 (wrap64 (((rd_T66 l0_0 x3_1).f3) - 1))] ?_
 with_reducible refine (spec_l01In.calls ((rd_T68 ((rd_T66 l0_0 x3_1).f4) x6_4).f0) 1 (wrap64 (((rd_T66 l0_0 x3_1).f3) - 1)) _ _ A61.out).mono ?_
 rintro e w' ⟨rfl, ⟨nd, rfl⟩⟩
 refine ⟨_, rfl, ?_⟩
 refine hK.out _ _ ⟨bc BK697 0, bc BK697 1, bc BK697 2, bc BK685 0, bc BK685 1, bc BK685 2, bc BK685 3, bc BK685 4, (clB HB hw699_0 :), (clB HB hw699_1 :), (clB HB hw699_2 :)⟩ (fun hHeld => ?_)
 clear hK K
 refine nm ?_
 have H := HS_.out
 clear HS_
 by_cases c67 : ((rd_T68 ((rd_T66 l0_0 x3_1).f4) (ji64)).f0) ≥ ((rd_T68 ((rd_T66 l0_0 x3_1).f4) x6_4).f0)
 {
 rw [if_pos c67] at H
 have c67b0 : decide (((rd_T68 ((rd_T66 l0_0 x3_1).f4) x6_4).f0) ≤ ((rd_T68 ((rd_T66 l0_0 x3_1).f4) (ji64)).f0)) = true := decide_eq_true c67
 clear c67
 have H' := Aside0.mk H
 clear H
 refine pu 6 101 (fb 35 127) HT_ ?_
 refine pu 7 102 (fb 35 255) HT_ ?_
 refine pu 8 103 (fb 35 511) HT_ ?_
 refine pu 9 104 (fb 35 1023) HT_ ?_
 refine pu 10 105 (fb 35 2047) HT_ ?_
 refine pu 11 106 (fb 35 4095) HT_ ?_
 refine pu 13 108 (fb 35 12287) HT_ ?_
 refine pu 14 109 (fb 35 28671) HT_ ?_
 refine pu 18 113 (fb 35 290815) HT_ ?_
 refine tk 12 107 (fb 35 294911) HT_ HW_ hHeld ?_
 refine pu 15 110 (fb 35 327679) HT_ ?_
 refine pu 16 111 (fb 35 393215) HT_ ?_
 refine tk 17 112 (fb 35 524287) HT_ HW_ hHeld ?_
 refine tk 19 114 (fb 35 1048575) HT_ HW_ hHeld ?_
 refine pu 20 115 (fb 35 2097151) HT_ ?_
 refine pu 21 116 (fb 35 4194303) HT_ ?_
 refine pu 22 117 (fb 35 8388607) HT_ ?_
 refine pu 23 118 (fb 35 16777215) HT_ ?_
 refine pn 24 119 (fb 35 33554431) HT_ ?_
 refine pn 25 120 (fb 35 67108863) HT_ ?_
 refine pn 26 121 (fb 35 134217727) HT_ ?_
 refine pn 27 122 (fb 35 268435455) HT_ ?_
 refine pu 28 123 (fb 35 536870911) HT_ ?_
 refine pu 29 124 (fb 35 1073741823) HT_ ?_
 refine pn 30 125 (fb 35 2147483647) HT_ ?_
 refine pn 31 126 (fb 35 4294967295) HT_ ?_
 refine pn 32 127 (fb 35 8589934591) HT_ ?_
 refine pn 33 128 (fb 35 17179869183) HT_ ?_
 refine pu 34 129 (fb 35 34359738367) HT_ ?_
 refine done_ (done_of HT_.out (by kernel_rfl)) ?_
 try go_wp2
 go_meet
 case rel => exact ⟨_, _, rr, H', ⟨by have := HK1.out; have := HJ4.out; have := HK3.out; have := HK4.out; first | omega | exact Nat.le_refl _⟩, ⟨bG BK683⟩, ⟨bG BK685⟩, ⟨bG BK697⟩, ⟨by exact lT HB (gC GE683 (gC GE685 (gC GE697 gN)))⟩⟩
 }
 {
 rw [if_neg c67] at H
 have c67b0 : decide (((rd_T68 ((rd_T66 l0_0 x3_1).f4) x6_4).f0) ≤ ((rd_T68 ((rd_T66 l0_0 x3_1).f4) (ji64)).f0)) = false := decide_eq_false c67
 clear c67
 obtain ⟨t700, A70, H⟩ := eb H
 try dsimp only at H
 have HS_ := Aside0.mk H
 clear H
 refine pu 6 101 (fb 35 127) HT_ ?_
 refine pu 7 102 (fb 35 255) HT_ ?_
 refine pu 8 103 (fb 35 511) HT_ ?_
 refine pu 9 104 (fb 35 1023) HT_ ?_
 refine pu 10 105 (fb 35 2047) HT_ ?_
 refine pu 11 106 (fb 35 4095) HT_ ?_
 refine pu 13 108 (fb 35 12287) HT_ ?_
 refine pu 14 109 (fb 35 28671) HT_ ?_
 refine pu 18 113 (fb 35 290815) HT_ ?_
 refine tk 12 107 (fb 35 294911) HT_ HW_ hHeld ?_
 refine pu 15 110 (fb 35 327679) HT_ ?_
 refine pu 16 111 (fb 35 393215) HT_ ?_
 refine tk 17 112 (fb 35 524287) HT_ HW_ hHeld ?_
 refine tk 19 114 (fb 35 1048575) HT_ HW_ hHeld ?_
 refine pu 20 115 (fb 35 2097151) HT_ ?_
 refine pu 21 116 (fb 35 4194303) HT_ ?_
 refine pu 22 117 (fb 35 8388607) HT_ ?_
 refine pu 23 118 (fb 35 16777215) HT_ ?_
 refine pu 24 119 (fb 35 33554431) HT_ ?_
 refine tk 25 120 (fb 35 67108863) HT_ HW_ hHeld ?_
 refine on 26 (some 121) (fb 35 134217727) HT_ (fun K hK => ?_)
 refine gs Try.func61 #[.int .i64 ((rd_T68 ((rd_T66 l0_0 x3_1).f4) x6_4).f1), .int .i64 0, .int .i64 7] ?_
 with_reducible refine (spec_l01In.calls ((rd_T68 ((rd_T66 l0_0 x3_1).f4) x6_4).f1) 0 7 _ _ A70.out).mono ?_
 rintro e w' ⟨rfl, ⟨nd, rfl⟩⟩
 refine ⟨_, rfl, ?_⟩
 refine hK.out _ _ ⟨bc BK697 0, bc BK697 1, bc BK697 2, bc BK685 0, bc BK685 1, bc BK685 2, bc BK685 3, bc BK685 4, (clB HB hw699_0 :), (clB HB hw699_1 :), (clB HB hw699_2 :)⟩ (fun hHeld => ?_)
 clear hK K
 refine nm ?_
 have H := HS_.out
 clear HS_
 by_cases c71 : t700 = true
 {
 subst c71
 rw [if_pos rfl] at H
 have H' := Aside0.mk H
 clear H
 refine pu 27 122 (fb 35 268435455) HT_ ?_
 refine pu 28 123 (fb 35 536870911) HT_ ?_
 refine pu 29 124 (fb 35 1073741823) HT_ ?_
 refine pu 30 125 (fb 35 2147483647) HT_ ?_
 refine tk 31 126 (fb 35 4294967295) HT_ HW_ hHeld ?_
 refine pu 32 127 (fb 35 8589934591) HT_ ?_
 refine pu 33 128 (fb 35 17179869183) HT_ ?_
 refine pu 34 129 (fb 35 34359738367) HT_ ?_
 refine done_ (done_of HT_.out (by kernel_rfl)) ?_
 try go_wp2
 go_meet
 case rel => exact ⟨_, _, rr, H', ⟨by have := HK1.out; have := HJ4.out; have := HK3.out; have := HK4.out; first | omega | exact Nat.le_refl _⟩, ⟨bG BK683⟩, ⟨bG BK685⟩, ⟨bG BK697⟩, ⟨by exact lT HB (gC GE683 (gC GE685 (gC GE697 gN)))⟩⟩
 }
 {
 replace c71 := Bool.eq_false_iff.mpr c71
 subst c71
 rw [if_neg (show ¬ (false = true) by decide)] at H
 have H' := Aside0.mk H
 clear H
 refine pu 27 122 (fb 35 268435455) HT_ ?_
 refine pu 28 123 (fb 35 536870911) HT_ ?_
 refine pu 29 124 (fb 35 1073741823) HT_ ?_
 refine pn 30 125 (fb 35 2147483647) HT_ ?_
 refine pn 31 126 (fb 35 4294967295) HT_ ?_
 refine pn 32 127 (fb 35 8589934591) HT_ ?_
 refine pn 33 128 (fb 35 17179869183) HT_ ?_
 refine pu 34 129 (fb 35 34359738367) HT_ ?_
 refine done_ (done_of HT_.out (by kernel_rfl)) ?_
 try go_wp2
 go_meet
 case rel => exact ⟨_, _, rr, H', ⟨by have := HK1.out; have := HJ4.out; have := HK3.out; have := HK4.out; first | omega | exact Nat.le_refl _⟩, ⟨bG BK683⟩, ⟨bG BK685⟩, ⟨bG BK697⟩, ⟨by exact lT HB (gC GE683 (gC GE685 (gC GE697 gN)))⟩⟩
 }
 }
 }
 {rw [if_neg c66] at H;exact absurd H (by simp)}
 }
 {rw [if_neg c65] at H;exact absurd H (by simp)}
 }
 {
 rw [if_neg c63] at H
 have c63b0 : decide (0 < x6_4) = false := decide_eq_false c63
 clear c63
 (first | rw [c63b0] | (simp only [i64_w, i32_w]; rw [c63b0]) | skip)
 obtain ⟨t701, A76, H⟩ := eb H
 try dsimp only at H
 have HS_ := Aside0.mk H
 clear H
 try go_wp2
 obtain ⟨w78, eW_⟩ : ∃ w_, w_ = (((w57.setCell ⟨gb697, 0, none⟩ (.int .i64 ((rd_T68 ((rd_T66 l0_0 x3_1).f4) x6_4).f0))).setCell ⟨gb697, 1, none⟩ (.int .i64 ((rd_T68 ((rd_T66 l0_0 x3_1).f4) x6_4).f1))).setCell ⟨gb697, 2, none⟩ (.string ((rd_T68 ((rd_T66 l0_0 x3_1).f4) x6_4).f2))) := ⟨_, rfl⟩
 have n0_ : Aside0 (w78.heap[gb683]? = some (.cells #[.slice (some ad684) l0_0.length c0_0] 60 (0, 0))) := by rw [eW_]; exact ⟨bF BK683 (nC NB683_697 nN)⟩
 have n1_ : Aside0 (w78.heap[gb685]? = some (.cells #[.int .i64 ((rd_T66 l0_0 x3_1).f0), .string ((rd_T66 l0_0 x3_1).f1), .string ((rd_T66 l0_0 x3_1).f2), .int .i64 ((rd_T66 l0_0 x3_1).f3), .slice (some ad696) ((rd_T66 l0_0 x3_1).f4).length c684_4] 66 (0, 0))) := by rw [eW_]; exact ⟨bF BK685 (nC NB685_697 nN)⟩
 have n2_ : Aside0 (w78.heap[gb697]? = some (.cells #[.int .i64 ((rd_T68 ((rd_T66 l0_0 x3_1).f4) x6_4).f0), .int .i64 ((rd_T68 ((rd_T66 l0_0 x3_1).f4) x6_4).f1), .string ((rd_T68 ((rd_T66 l0_0 x3_1).f4) x6_4).f2)] 68 (0, 0))) := by rw [eW_]; exact ⟨bW BK697⟩
 have n3_ : Aside0 (Below w.heap.size w w78) := by rw [eW_]; exact ⟨by exact lT HB (gC GE683 (gC GE685 (gC GE697 gN)))⟩
 try clear BK683 BK685 BK697 HB
 rw [← eW_];clear eW_
 have BK683 := n0_
 have BK685 := n1_
 have BK697 := n2_
 have HB := n3_
 clear n0_ n1_ n2_ n3_
 replace BK683 := ak (blk_drew BK683.out)
 replace BK685 := ak (blk_drew BK685.out)
 replace BK697 := ak (blk_drew BK697.out)
 replace HB := ak (below_drew1 HB.out)
 refine start_ (n := 35) (S := fun w' => w'.cell? ⟨gb697, 0, none⟩ = some (.int .i64 ((rd_T68 ((rd_T66 l0_0 x3_1).f4) x6_4).f0)) ∧ w'.cell? ⟨gb697, 1, none⟩ = some (.int .i64 ((rd_T68 ((rd_T66 l0_0 x3_1).f4) x6_4).f1)) ∧ w'.cell? ⟨gb697, 2, none⟩ = some (.string ((rd_T68 ((rd_T66 l0_0 x3_1).f4) x6_4).f2)) ∧ w'.cell? ⟨gb685, 0, none⟩ = some (.int .i64 ((rd_T66 l0_0 x3_1).f0)) ∧ w'.cell? ⟨gb685, 1, none⟩ = some (.string ((rd_T66 l0_0 x3_1).f1)) ∧ w'.cell? ⟨gb685, 2, none⟩ = some (.string ((rd_T66 l0_0 x3_1).f2)) ∧ w'.cell? ⟨gb685, 3, none⟩ = some (.int .i64 ((rd_T66 l0_0 x3_1).f3)) ∧ w'.cell? ⟨gb685, 4, none⟩ = some (.slice (some ad696) ((rd_T66 l0_0 x3_1).f4).length c684_4)) (ds := []) (fb 35 0) (by kernel_rfl) rfl rfl ⟨bc BK697 0, bc BK697 1, bc BK697 2, bc BK685 0, bc BK685 1, bc BK685 2, bc BK685 3, bc BK685 4⟩ (fun hHeld => ?_); refine with_tabW spec_StateOk.tab16 spec_StateOk.bits16 (fun HT_ HW_ => ?_)
 generalize w78.drew = w79 at BK683 BK685 BK697 HB hHeld ⊢
 refine pu 0 95 (fb 35 1) HT_ ?_
 refine pu 2 97 (fb 35 5) HT_ ?_
 refine tk 1 96 (fb 35 7) HT_ HW_ hHeld ?_
 refine tk 3 98 (fb 35 15) HT_ HW_ hHeld ?_
 refine pu 4 99 (fb 35 31) HT_ ?_
 refine on 5 (some 100) (fb 35 63) HT_ (fun K hK => ?_)
 refine gs Try.func61 #[.int .i64 ((rd_T68 ((rd_T66 l0_0 x3_1).f4) x6_4).f0), .int .i64 1, .int .i64 (wrap64 (((rd_T66 l0_0 x3_1).f3) - 1))] ?_
 with_reducible refine (spec_l01In.calls ((rd_T68 ((rd_T66 l0_0 x3_1).f4) x6_4).f0) 1 (wrap64 (((rd_T66 l0_0 x3_1).f3) - 1)) _ _ A61.out).mono ?_
 rintro e w' ⟨rfl, ⟨nd, rfl⟩⟩
 refine ⟨_, rfl, ?_⟩
 refine hK.out _ _ ⟨bc BK697 0, bc BK697 1, bc BK697 2, bc BK685 0, bc BK685 1, bc BK685 2, bc BK685 3, bc BK685 4⟩ (fun hHeld => ?_)
 clear hK K
 refine nm ?_
 refine pu 6 101 (fb 35 127) HT_ ?_
 refine pu 7 102 (fb 35 255) HT_ ?_
 refine pu 8 103 (fb 35 511) HT_ ?_
 refine pu 9 104 (fb 35 1023) HT_ ?_
 refine pu 10 105 (fb 35 2047) HT_ ?_
 refine pn 11 106 (fb 35 4095) HT_ ?_
 refine pn 12 107 (fb 35 8191) HT_ ?_
 refine pn 13 108 (fb 35 16383) HT_ ?_
 refine pn 14 109 (fb 35 32767) HT_ ?_
 refine pn 15 110 (fb 35 65535) HT_ ?_
 refine pn 16 111 (fb 35 131071) HT_ ?_
 refine pn 17 112 (fb 35 262143) HT_ ?_
 refine pn 18 113 (fb 35 524287) HT_ ?_
 refine pn 19 114 (fb 35 1048575) HT_ ?_
 refine pn 20 115 (fb 35 2097151) HT_ ?_
 refine pu 21 116 (fb 35 4194303) HT_ ?_
 refine pu 22 117 (fb 35 8388607) HT_ ?_
 refine pu 23 118 (fb 35 16777215) HT_ ?_
 refine pu 24 119 (fb 35 33554431) HT_ ?_
 refine tk 25 120 (fb 35 67108863) HT_ HW_ hHeld ?_
 refine on 26 (some 121) (fb 35 134217727) HT_ (fun K hK => ?_)
 refine gs Try.func61 #[.int .i64 ((rd_T68 ((rd_T66 l0_0 x3_1).f4) x6_4).f1), .int .i64 0, .int .i64 7] ?_
 with_reducible refine (spec_l01In.calls ((rd_T68 ((rd_T66 l0_0 x3_1).f4) x6_4).f1) 0 7 _ _ A76.out).mono ?_
 rintro e w' ⟨rfl, ⟨nd, rfl⟩⟩
 refine ⟨_, rfl, ?_⟩
 refine hK.out _ _ ⟨bc BK697 0, bc BK697 1, bc BK697 2, bc BK685 0, bc BK685 1, bc BK685 2, bc BK685 3, bc BK685 4⟩ (fun hHeld => ?_)
 clear hK K
 refine nm ?_
 have H := HS_.out
 clear HS_
 by_cases c77 : t701 = true
 {
 subst c77
 rw [if_pos rfl] at H
 have H' := Aside0.mk H
 clear H
 refine pu 27 122 (fb 35 268435455) HT_ ?_
 refine pu 28 123 (fb 35 536870911) HT_ ?_
 refine pu 29 124 (fb 35 1073741823) HT_ ?_
 refine pu 30 125 (fb 35 2147483647) HT_ ?_
 refine tk 31 126 (fb 35 4294967295) HT_ HW_ hHeld ?_
 refine pu 32 127 (fb 35 8589934591) HT_ ?_
 refine pu 33 128 (fb 35 17179869183) HT_ ?_
 refine pu 34 129 (fb 35 34359738367) HT_ ?_
 refine done_ (done_of HT_.out (by kernel_rfl)) ?_
 try go_wp2
 go_meet
 case rel => exact ⟨_, _, rr, H', ⟨by have := HK1.out; have := HJ4.out; have := HK3.out; have := HK4.out; first | omega | exact Nat.le_refl _⟩, ⟨bG BK683⟩, ⟨bG BK685⟩, ⟨bG BK697⟩, ⟨by exact lT HB (gC GE683 (gC GE685 (gC GE697 gN)))⟩⟩
 }
 {
 replace c77 := Bool.eq_false_iff.mpr c77
 subst c77
 rw [if_neg (show ¬ (false = true) by decide)] at H
 have H' := Aside0.mk H
 clear H
 refine pu 27 122 (fb 35 268435455) HT_ ?_
 refine pu 28 123 (fb 35 536870911) HT_ ?_
 refine pu 29 124 (fb 35 1073741823) HT_ ?_
 refine pn 30 125 (fb 35 2147483647) HT_ ?_
 refine pn 31 126 (fb 35 4294967295) HT_ ?_
 refine pn 32 127 (fb 35 8589934591) HT_ ?_
 refine pn 33 128 (fb 35 17179869183) HT_ ?_
 refine pu 34 129 (fb 35 34359738367) HT_ ?_
 refine done_ (done_of HT_.out (by kernel_rfl)) ?_
 try go_wp2
 go_meet
 case rel => exact ⟨_, _, rr, H', ⟨by have := HK1.out; have := HJ4.out; have := HK3.out; have := HK4.out; first | omega | exact Nat.le_refl _⟩, ⟨bG BK683⟩, ⟨bG BK685⟩, ⟨bG BK697⟩, ⟨by exact lT HB (gC GE683 (gC GE685 (gC GE697 gN)))⟩⟩
 }
 }
 }
 {
 replace c62 := Bool.eq_false_iff.mpr c62
 subst c62
 rw [if_neg (show ¬ (false = true) by decide)] at H
 have H' := Aside0.mk H
 clear H
 try go_wp2
 obtain ⟨w82, eW_⟩ : ∃ w_, w_ = (((w57.setCell ⟨gb697, 0, none⟩ (.int .i64 ((rd_T68 ((rd_T66 l0_0 x3_1).f4) x6_4).f0))).setCell ⟨gb697, 1, none⟩ (.int .i64 ((rd_T68 ((rd_T66 l0_0 x3_1).f4) x6_4).f1))).setCell ⟨gb697, 2, none⟩ (.string ((rd_T68 ((rd_T66 l0_0 x3_1).f4) x6_4).f2))) := ⟨_, rfl⟩
 have n0_ : Aside0 (w82.heap[gb683]? = some (.cells #[.slice (some ad684) l0_0.length c0_0] 60 (0, 0))) := by rw [eW_]; exact ⟨bF BK683 (nC NB683_697 nN)⟩
 have n1_ : Aside0 (w82.heap[gb685]? = some (.cells #[.int .i64 ((rd_T66 l0_0 x3_1).f0), .string ((rd_T66 l0_0 x3_1).f1), .string ((rd_T66 l0_0 x3_1).f2), .int .i64 ((rd_T66 l0_0 x3_1).f3), .slice (some ad696) ((rd_T66 l0_0 x3_1).f4).length c684_4] 66 (0, 0))) := by rw [eW_]; exact ⟨bF BK685 (nC NB685_697 nN)⟩
 have n2_ : Aside0 (w82.heap[gb697]? = some (.cells #[.int .i64 ((rd_T68 ((rd_T66 l0_0 x3_1).f4) x6_4).f0), .int .i64 ((rd_T68 ((rd_T66 l0_0 x3_1).f4) x6_4).f1), .string ((rd_T68 ((rd_T66 l0_0 x3_1).f4) x6_4).f2)] 68 (0, 0))) := by rw [eW_]; exact ⟨bW BK697⟩
 have n3_ : Aside0 (Below w.heap.size w w82) := by rw [eW_]; exact ⟨by exact lT HB (gC GE683 (gC GE685 (gC GE697 gN)))⟩
 try clear BK683 BK685 BK697 HB
 rw [← eW_];clear eW_
 have BK683 := n0_
 have BK685 := n1_
 have BK697 := n2_
 have HB := n3_
 clear n0_ n1_ n2_ n3_
 replace BK683 := ak (blk_drew BK683.out)
 replace BK685 := ak (blk_drew BK685.out)
 replace BK697 := ak (blk_drew BK697.out)
 replace HB := ak (below_drew1 HB.out)
 refine start_ (n := 35) (S := fun w' => w'.cell? ⟨gb697, 0, none⟩ = some (.int .i64 ((rd_T68 ((rd_T66 l0_0 x3_1).f4) x6_4).f0)) ∧ w'.cell? ⟨gb697, 1, none⟩ = some (.int .i64 ((rd_T68 ((rd_T66 l0_0 x3_1).f4) x6_4).f1)) ∧ w'.cell? ⟨gb697, 2, none⟩ = some (.string ((rd_T68 ((rd_T66 l0_0 x3_1).f4) x6_4).f2)) ∧ w'.cell? ⟨gb685, 0, none⟩ = some (.int .i64 ((rd_T66 l0_0 x3_1).f0)) ∧ w'.cell? ⟨gb685, 1, none⟩ = some (.string ((rd_T66 l0_0 x3_1).f1)) ∧ w'.cell? ⟨gb685, 2, none⟩ = some (.string ((rd_T66 l0_0 x3_1).f2)) ∧ w'.cell? ⟨gb685, 3, none⟩ = some (.int .i64 ((rd_T66 l0_0 x3_1).f3)) ∧ w'.cell? ⟨gb685, 4, none⟩ = some (.slice (some ad696) ((rd_T66 l0_0 x3_1).f4).length c684_4)) (ds := []) (fb 35 0) (by kernel_rfl) rfl rfl ⟨bc BK697 0, bc BK697 1, bc BK697 2, bc BK685 0, bc BK685 1, bc BK685 2, bc BK685 3, bc BK685 4⟩ (fun hHeld => ?_); refine with_tabW spec_StateOk.tab16 spec_StateOk.bits16 (fun HT_ HW_ => ?_)
 generalize w82.drew = w83 at BK683 BK685 BK697 HB hHeld ⊢
 refine pu 0 95 (fb 35 1) HT_ ?_
 refine pu 2 97 (fb 35 5) HT_ ?_
 refine tk 1 96 (fb 35 7) HT_ HW_ hHeld ?_
 refine tk 3 98 (fb 35 15) HT_ HW_ hHeld ?_
 refine pu 4 99 (fb 35 31) HT_ ?_
 refine on 5 (some 100) (fb 35 63) HT_ (fun K hK => ?_)
 refine gs Try.func61 #[.int .i64 ((rd_T68 ((rd_T66 l0_0 x3_1).f4) x6_4).f0), .int .i64 1, .int .i64 (wrap64 (((rd_T66 l0_0 x3_1).f3) - 1))] ?_
 with_reducible refine (spec_l01In.calls ((rd_T68 ((rd_T66 l0_0 x3_1).f4) x6_4).f0) 1 (wrap64 (((rd_T66 l0_0 x3_1).f3) - 1)) _ _ A61.out).mono ?_
 rintro e w' ⟨rfl, ⟨nd, rfl⟩⟩
 refine ⟨_, rfl, ?_⟩
 refine hK.out _ _ ⟨bc BK697 0, bc BK697 1, bc BK697 2, bc BK685 0, bc BK685 1, bc BK685 2, bc BK685 3, bc BK685 4⟩ (fun hHeld => ?_)
 clear hK K
 refine nm ?_
 refine pu 6 101 (fb 35 127) HT_ ?_
 refine pu 7 102 (fb 35 255) HT_ ?_
 refine pn 8 103 (fb 35 511) HT_ ?_
 refine pn 9 104 (fb 35 1023) HT_ ?_
 refine pn 10 105 (fb 35 2047) HT_ ?_
 refine pn 11 106 (fb 35 4095) HT_ ?_
 refine pn 12 107 (fb 35 8191) HT_ ?_
 refine pn 13 108 (fb 35 16383) HT_ ?_
 refine pn 14 109 (fb 35 32767) HT_ ?_
 refine pn 15 110 (fb 35 65535) HT_ ?_
 refine pn 16 111 (fb 35 131071) HT_ ?_
 refine pn 17 112 (fb 35 262143) HT_ ?_
 refine pn 18 113 (fb 35 524287) HT_ ?_
 refine pn 19 114 (fb 35 1048575) HT_ ?_
 refine pn 20 115 (fb 35 2097151) HT_ ?_
 refine pn 21 116 (fb 35 4194303) HT_ ?_
 refine pu 22 117 (fb 35 8388607) HT_ ?_
 refine pu 23 118 (fb 35 16777215) HT_ ?_
 refine pn 24 119 (fb 35 33554431) HT_ ?_
 refine pn 25 120 (fb 35 67108863) HT_ ?_
 refine pn 26 121 (fb 35 134217727) HT_ ?_
 refine pn 27 122 (fb 35 268435455) HT_ ?_
 refine pu 28 123 (fb 35 536870911) HT_ ?_
 refine pu 29 124 (fb 35 1073741823) HT_ ?_
 refine pn 30 125 (fb 35 2147483647) HT_ ?_
 refine pn 31 126 (fb 35 4294967295) HT_ ?_
 refine pn 32 127 (fb 35 8589934591) HT_ ?_
 refine pn 33 128 (fb 35 17179869183) HT_ ?_
 refine pu 34 129 (fb 35 34359738367) HT_ ?_
 refine done_ (done_of HT_.out (by kernel_rfl)) ?_
 try go_wp2
 go_meet
 case rel => exact ⟨_, _, rr, H', ⟨by have := HK1.out; have := HJ4.out; have := HK3.out; have := HK4.out; first | omega | exact Nat.le_refl _⟩, ⟨bG BK683⟩, ⟨bG BK685⟩, ⟨bG BK697⟩, ⟨by exact lT HB (gC GE683 (gC GE685 (gC GE697 gN)))⟩⟩
 }
 }
 case rest =>
  skip;{
 clear HC54
 obtain ⟨kq, x129_53, rfl, HA, HJ53, BK683, BK685, BK697, HB⟩ := hcut
 cases kq with
 | zero => exact absurd HA.out (by simp [spec_StateOk.j4])
 | succ kj53 =>
  skip;{
 have H := HA.out
 clear HA
 simp only [spec_StateOk.j4] at H
 by_cases c84 : x129_53 = true
 {
 subst c84
 rw [if_pos rfl] at H
 obtain rfl := Option.some.inj H
 go_wp2
 go_ret
 exact ⟨ew, by exact lT HB (gC GE683 (gC GE685 (gC GE697 gN)))⟩
 }
 {
 replace c84 := Bool.eq_false_iff.mpr c84
 subst c84
 rw [if_neg (show ¬ (false = true) by decide)] at H
 have H' := Aside0.mk H
 clear H
 go_wp2
 go_roundg kj53
 case measure => have := HK1.out; have := HJ4.out; have := HK3.out; have := HK4.out; have := HJ53.out; omega
 case rel => exact ⟨_, rr, H', ⟨by have := HK1.out; have := HJ4.out; have := HK3.out; have := HK4.out; have := HJ53.out; omega⟩, ⟨bG BK683⟩, ⟨bG BK685⟩, ⟨by exact lT HB (gC GE683 (gC GE685 (gC GE697 gN)))⟩⟩
 }
 }
 }
 }
 {rw [if_neg c53] at H;exact absurd H (by simp)}
 }
 {
 rw [if_neg c52] at H
 have c52b0 := decide_eq_false c52
 clear c52
 have H' := Aside0.mk H
 clear H
 have hnb85 := NB685_683.out
 have hnc85 := NB683_685.out
 obtain ⟨_, _, _, _, _, _, _, _, _, _⟩ := bC5 BK685
 go_wp2
 go_roundg k4
 case measure => have := HK1.out; have := HJ4.out; have := HK3.out; have := HK4.out; omega
 case rel => exact ⟨_, rr, H', ⟨by have := HK1.out; have := HJ4.out; have := HK3.out; have := HK4.out; omega⟩, ⟨bG BK683⟩, ⟨by exact lT HB (gC GE683 (gC GE685 gN))⟩⟩
 }
 }
 }
 }
 }
 }
 }
 }
 }
 }
 {rw [if_neg c4] at H;exact absurd H (by simp)}
 }
 {
 rw [if_neg c3] at H
 have c3b0 := decide_eq_false c3
 clear c3
 obtain rfl := Option.some.inj H
 obtain ⟨_, _⟩ := bC1 BK683
 go_wp2
 go_ret
 exact ⟨ew, by exact lT HB (gC GE683 gN)⟩
 }
 }
 }
end Go.Proofs.Ytagkjeldheiejaa.PFnStatesTold
