-- printed
import Derived.Test.YtagkjeldheiejaaPFnStatesToldx3
import Derived.Test.YtagkjeldheiejaaVFnStatesTold1
namespace Go.Proofs.Ytagkjeldheiejaa.PFnStatesTold
open Go.RowKit YtagkjeldheiejaaW.PrintWords YtagkjeldheiejaaW.PrintLast YtagkjeldheiejaaW.PrintMore
set_option linter.unusedVariables false
set_option linter.unusedSimpArgs false
attribute [local go_sem] max2_int min2_int max_two min_two max_three min_three max_four min_four
set_option maxHeartbeats 8000000
set_option maxRecDepth 100000
attribute [local go_sem high] eqA68
mutual
def spec_SameState.l0 : Nat → Int → List (S66) → List (S66) → Option (Bool)
 | 0, _, _, _ => none
 | k + 1, a, b, c => if a < (b.length : Int) then (if 0 ≤ a then (if a < (c.length : Int) then (if ((rd_T66 b a).f0) = ((rd_T66 c a).f0) then (if ((rd_T66 b a).f1).toList = ((rd_T66 c a).f1).toList then (if ((rd_T66 b a).f2).toList = ((rd_T66 c a).f2).toList then (if ((rd_T66 b a).f3) = ((rd_T66 c a).f3) then (spec_SameState.j1 k a ((((rd_T66 b a).f4).length : Int) != (((rd_T66 c a).f4).length : Int)) b c ((rd_T66 b a).f0) ((rd_T66 b a).f1) ((rd_T66 b a).f2) ((rd_T66 b a).f3) ((rd_T66 b a).f4) ((rd_T66 c a).f0) ((rd_T66 c a).f1) ((rd_T66 c a).f2) ((rd_T66 c a).f3) ((rd_T66 c a).f4)) else (spec_SameState.j1 k a true b c ((rd_T66 b a).f0) ((rd_T66 b a).f1) ((rd_T66 b a).f2) ((rd_T66 b a).f3) ((rd_T66 b a).f4) ((rd_T66 c a).f0) ((rd_T66 c a).f1) ((rd_T66 c a).f2) ((rd_T66 c a).f3) ((rd_T66 c a).f4))) else (spec_SameState.j1 k a true b c ((rd_T66 b a).f0) ((rd_T66 b a).f1) ((rd_T66 b a).f2) ((rd_T66 b a).f3) ((rd_T66 b a).f4) ((rd_T66 c a).f0) ((rd_T66 c a).f1) ((rd_T66 c a).f2) ((rd_T66 c a).f3) ((rd_T66 c a).f4))) else (spec_SameState.j1 k a true b c ((rd_T66 b a).f0) ((rd_T66 b a).f1) ((rd_T66 b a).f2) ((rd_T66 b a).f3) ((rd_T66 b a).f4) ((rd_T66 c a).f0) ((rd_T66 c a).f1) ((rd_T66 c a).f2) ((rd_T66 c a).f3) ((rd_T66 c a).f4))) else (spec_SameState.j1 k a true b c ((rd_T66 b a).f0) ((rd_T66 b a).f1) ((rd_T66 b a).f2) ((rd_T66 b a).f3) ((rd_T66 b a).f4) ((rd_T66 c a).f0) ((rd_T66 c a).f1) ((rd_T66 c a).f2) ((rd_T66 c a).f3) ((rd_T66 c a).f4))) else (none)) else (none)) else (some true)
def spec_SameState.j1 : Nat → Int → Bool → List (S66) → List (S66) → Int → ByteArray → ByteArray → Int → List (S68) → Int → ByteArray → ByteArray → Int → List (S68) → Option (Bool)
 | 0, _, _, _, _, _, _, _, _, _, _, _, _, _, _ => none
 | k + 1, a, b, c, d, e, f, g, h, i, j, l, m, n, o => if b = true then (some false) else (spec_SameState.l1 k a 0 c d e f g h i j l m n o)
def spec_SameState.l1 : Nat → Int → Int → List (S66) → List (S66) → Int → ByteArray → ByteArray → Int → List (S68) → Int → ByteArray → ByteArray → Int → List (S68) → Option (Bool)
 | 0, _, _, _, _, _, _, _, _, _, _, _, _, _, _ => none
 | k + 1, a, b, c, d, e, f, g, h, i, j, l, m, n, o => if b < (i.length : Int) then (if 0 ≤ b then (if b < (o.length : Int) then (if (!(((rd_T68 i b).f0) == ((rd_T68 o b).f0)) || (!(((rd_T68 i b).f1) == ((rd_T68 o b).f1)) || (!((((rd_T68 i b).f2).toList) == (((rd_T68 o b).f2).toList))))) = true then (some false) else (spec_SameState.l1 k a (wrap64 (b + 1)) c d e f g h i j l m n o)) else (none)) else (none)) else (spec_SameState.l0 k (wrap64 (a + 1)) c d)
end
def spec_SameState.f (k : Nat) (l0_0 : List (S66)) (l1_0 : List (S66)) : Option (Bool) := if (l0_0.length : Int) = (l1_0.length : Int) then (spec_SameState.l0 k 0 l0_0 l1_0) else (some false)
theorem spec_SameState.mono_l : ∀ k, (∀ y0 y1 y2, LeO (spec_SameState.l0 k y0 y1 y2) (spec_SameState.l0 (k + 1) y0 y1 y2)) ∧ (∀ y0 y1 y2 y3 y4 y5 y6 y7 y8 y9 y10 y11 y12 y13, LeO (spec_SameState.j1 k y0 y1 y2 y3 y4 y5 y6 y7 y8 y9 y10 y11 y12 y13) (spec_SameState.j1 (k + 1) y0 y1 y2 y3 y4 y5 y6 y7 y8 y9 y10 y11 y12 y13)) ∧ (∀ y0 y1 y2 y3 y4 y5 y6 y7 y8 y9 y10 y11 y12 y13, LeO (spec_SameState.l1 k y0 y1 y2 y3 y4 y5 y6 y7 y8 y9 y10 y11 y12 y13) (spec_SameState.l1 (k + 1) y0 y1 y2 y3 y4 y5 y6 y7 y8 y9 y10 y11 y12 y13))
 | 0 => ⟨fun _ _ _ r h => by simp [spec_SameState.l0] at h, fun _ _ _ _ _ _ _ _ _ _ _ _ _ _ r h => by simp [spec_SameState.j1] at h, fun _ _ _ _ _ _ _ _ _ _ _ _ _ _ r h => by simp [spec_SameState.l1] at h⟩
 | k + 1 => by
  obtain ⟨ih0, ih1, ih2⟩ := spec_SameState.mono_l k
  refine ⟨?_, ?_, ?_⟩
  intro y0 y1 y2;unfold spec_SameState.l0;rotate_left
  intro y0 y1 y2 y3 y4 y5 y6 y7 y8 y9 y10 y11 y12 y13;unfold spec_SameState.j1;rotate_left
  intro y0 y1 y2 y3 y4 y5 y6 y7 y8 y9 y10 y11 y12 y13;unfold spec_SameState.l1;rotate_left
  all_goals repeat' with_reducible first | exact ih0 _ _ _ | exact ih1 _ _ _ _ _ _ _ _ _ _ _ _ _ _ | exact ih2 _ _ _ _ _ _ _ _ _ _ _ _ _ _ | exact LeO.refl _ | exact LeO.none _ | refine LeO.ite ?_ ?_ | refine LeO.bind ?_ (fun _ => ?_)
theorem spec_SameState.mono : ∀ a0 a1 k, LeO (spec_SameState.f k a0 a1) (spec_SameState.f (k + 1) a0 a1) := by
 intro a0 a1 k
 obtain ⟨ih0, ih1, ih2⟩ := spec_SameState.mono_l k
 unfold spec_SameState.f
 repeat' with_reducible first | exact ih0 _ _ _ | exact ih1 _ _ _ _ _ _ _ _ _ _ _ _ _ _ | exact ih2 _ _ _ _ _ _ _ _ _ _ _ _ _ _ | exact LeO.refl _ | exact LeO.none _ | refine LeO.ite ?_ ?_ | refine LeO.bind ?_ (fun _ => ?_)
theorem spec_SameState.calls (k : Nat) (A0_0 : Option Addr) (c0_0 : Nat) (l0_0 : List (S66)) (A1_0 : Option Addr) (c1_0 : Nat) (l1_0 : List (S66)) (r : Bool) (w : World) (hr0_0 : Kd.C k66 w A0_0 l0_0.length l0_0) (hc0_0 : l0_0.length ≤ c0_0) (hr1_0 : Kd.C k66 w A1_0 l1_0.length l1_0) (hc1_0 : l1_0.length ≤ c1_0) (h : spec_SameState.f k l0_0 l1_0 = some r) :
  Calls Try.prog 50 #[.agg #[.slice A0_0 l0_0.length c0_0], .agg #[.slice A1_0 l1_0.length c1_0]] w fun e w' => e = .returned (.bool r) ∧ Below w.heap.size w w' := by
 have hu60 := Try.underlying60
 have hu66 := Try.underlying66
 have hu68 := Try.underlying68
 have HR0_0 := Aside0.mk hr0_0
 have HC0_0 := Aside0.mk hc0_0
 clear hr0_0 hc0_0
 have HR1_0 := Aside0.mk hr1_0
 have HC1_0 := Aside0.mk hc1_0
 clear hr1_0 hc1_0
 have HB := ak (Below.refl w.heap.size w)
 have H := h
 clear h
 unfold spec_SameState.f at H
 by_cases c3 : (l0_0.length : Int) = (l1_0.length : Int)
 {
 rw [if_pos c3] at H
 have c3b0 := beq_iff_eq.mpr c3
 have c3b1 := bne_eq_false_iff_eq.mpr c3
 have c3b2 : (l0_0.length == l1_0.length) = true := by first | simpa using c3 | (simp at c3 ⊢; omega)
 clear c3
 have H' := Aside0.mk H
 clear H
 go_enter Try.func50, Try.ntmps50
 go_wp2_with (first | ((with_reducible refine gate_dst (N := 2) rfl ?_); (try (refine gate_guard (by rfl) ?_; dsimp only)); refine bx 2 #[.slice A0_0 l0_0.length c0_0] 60 ?_; intro gb657 hg w4 hbox hb; replace BK657 := ak (hbox); replace GE657 := ak (bz hg (lG HB)); replace HB := lB HB hb; clear hb hbox hg) | ((with_reducible refine gate_dst (N := 3) rfl ?_); (try (refine gate_guard (by rfl) ?_; dsimp only)); refine bx 3 #[.slice A1_0 l1_0.length c1_0] 60 ?_; intro gb658 hg w5 hbox hb; replace BK658 := ak (hbox); replace GW658 := ak (bz hg (lT HB (gC GE657 gN))); replace GE658 := ak (bz hg (lT HB (gC GE657 gN))); replace HB := ak (below_step (lT HB (gC GE657 gN)) hb); replace NB657_658 := ak (nl hg (bG BK657)); replace NB658_657 := ak (ng hg (bG BK657)); replace BK657 := bB BK657 hb; clear hb hbox hg; have hnb6 := NB657_658.out; have hnc6 := NB658_657.out; obtain ⟨hcz7_0, hfz7_0⟩ := bC1 BK657; obtain ⟨hcz8_0, hfz8_0⟩ := bC1 BK658))
 repeat (go_quiet (first | ((with_reducible refine gate_dst (N := 2) rfl ?_); (try (refine gate_guard (by rfl) ?_; dsimp only)); refine bx 2 #[.slice A0_0 l0_0.length c0_0] 60 ?_; intro gb657 hg w4 hbox hb; replace BK657 := ak (hbox); replace GE657 := ak (bz hg (lG HB)); replace HB := lB HB hb; clear hb hbox hg) | ((with_reducible refine gate_dst (N := 3) rfl ?_); (try (refine gate_guard (by rfl) ?_; dsimp only)); refine bx 3 #[.slice A1_0 l1_0.length c1_0] 60 ?_; intro gb658 hg w5 hbox hb; replace BK658 := ak (hbox); replace GW658 := ak (bz hg (lT HB (gC GE657 gN))); replace GE658 := ak (bz hg (lT HB (gC GE657 gN))); replace HB := ak (below_step (lT HB (gC GE657 gN)) hb); replace NB657_658 := ak (nl hg (bG BK657)); replace NB658_657 := ak (ng hg (bG BK657)); replace BK657 := bB BK657 hb; clear hb hbox hg; have hnb6 := NB657_658.out; have hnc6 := NB658_657.out; obtain ⟨hcz7_0, hfz7_0⟩ := bC1 BK657; obtain ⟨hcz8_0, hfz8_0⟩ := bC1 BK658)); try go_wp2_with (first | ((with_reducible refine gate_dst (N := 2) rfl ?_); (try (refine gate_guard (by rfl) ?_; dsimp only)); refine bx 2 #[.slice A0_0 l0_0.length c0_0] 60 ?_; intro gb657 hg w4 hbox hb; replace BK657 := ak (hbox); replace GE657 := ak (bz hg (lG HB)); replace HB := lB HB hb; clear hb hbox hg) | ((with_reducible refine gate_dst (N := 3) rfl ?_); (try (refine gate_guard (by rfl) ?_; dsimp only)); refine bx 3 #[.slice A1_0 l1_0.length c1_0] 60 ?_; intro gb658 hg w5 hbox hb; replace BK658 := ak (hbox); replace GW658 := ak (bz hg (lT HB (gC GE657 gN))); replace GE658 := ak (bz hg (lT HB (gC GE657 gN))); replace HB := ak (below_step (lT HB (gC GE657 gN)) hb); replace NB657_658 := ak (nl hg (bG BK657)); replace NB658_657 := ak (ng hg (bG BK657)); replace BK657 := bB BK657 hb; clear hb hbox hg; have hnb6 := NB657_658.out; have hnc6 := NB658_657.out; obtain ⟨hcz7_0, hfz7_0⟩ := bC1 BK657; obtain ⟨hcz8_0, hfz8_0⟩ := bC1 BK658)))
 go_loopg [5] k (fun kq v5 w' => ∃ (x5_1 : Int), v5 = .int .i64 x5_1 ∧ Aside0 (spec_SameState.l0 kq x5_1 l0_0 l1_0 = some r) ∧ Aside0 (kq ≤ k) ∧ Aside0 (w'.heap[gb657]? = some (.cells #[(.slice A0_0 l0_0.length c0_0)] 60 (0, 0))) ∧ Aside0 (w'.heap[gb658]? = some (.cells #[(.slice A1_0 l1_0.length c1_0)] 60 (0, 0))) ∧ Aside0 (Below w.heap.size w w'))
 case atStart => exact ⟨_, rr, H', ⟨Nat.le_refl _⟩, ⟨bG BK657⟩, ⟨bG BK658⟩, ⟨by exact lT HB (gC GE657 (gC GE658 gN))⟩⟩
 case round =>
  skip;{
 clear H'
 try clear c3 c3b0 c3b1 c3b2 hcz7_0 hcz8_0 hfz7_0 hfz8_0
 obtain ⟨x5_1, rfl, HA, HK1, BK657, BK658, HB⟩ := hrel
 cases gk with
 | zero => exact absurd HA.out (by simp [spec_SameState.l0])
 | succ k1 =>
  skip;{
 have H := HA.out
 clear HA
 simp only [spec_SameState.l0] at H
 by_cases c9 : x5_1 < (l0_0.length : Int)
 {
 rw [if_pos c9] at H
 have c9b0 := decide_eq_true c9
 clear c9
 by_cases c10 : 0 ≤ x5_1
 {
 rw [if_pos c10] at H
 have c10b0 := decide_eq_true c10
 clear c10
 by_cases c11 : x5_1 < (l1_0.length : Int)
 {
 rw [if_pos c11] at H
 have c11b0 := decide_eq_true c11
 clear c11
 have HC12 := Aside0.mk H
 clear H
 have hnb13 := NB657_658.out
 have hnc13 := NB658_657.out
 obtain ⟨hcz14_0, hfz14_0⟩ := bC1 BK657
 have p659 : 0 ≤ (x5_1 : Int) := oda
 have q659 : x5_1 < (l0_0.length : Int) := oda
 obtain ⟨ad659, A659_4, c659_4, e659, hx659_0, hx659_1, hx659_2, hx659_3, hx659_4, hl659_4, hi659_4⟩ := at_T66 HR0_0.out x5_1 p659 q659
 cases e659
 replace hx659_0 := clB HB hx659_0
 replace hx659_1 := clB HB hx659_1
 replace hx659_2 := clB HB hx659_2
 replace hx659_3 := clB HB hx659_3
 replace hx659_4 := clB HB hx659_4
 have HR659_4 := Aside0.mk hi659_4
 have HC659_4 := Aside0.mk hl659_4
 clear hi659_4 hl659_4
 replace p659 := eq_true p659
 replace q659 := eq_true q659
 go_upto_region 8 with (first | ((with_reducible refine gate_dst (N := 6) rfl ?_); (try (refine gate_guard (by rfl) ?_; dsimp only)); refine bx 6 #[.int .i64 0, .string (⟨#[]⟩ : ByteArray), .string (⟨#[]⟩ : ByteArray), .int .i64 0, .slice none 0 0] 66 ?_; intro gb660 hg w15 hbox hb; replace BK660 := ak (hbox); replace GW660 := ak (bz hg (lT HB (gC GE657 (gC GE658 gN)))); replace GE660 := ak (bz hg (lT HB (gC GE657 (gC GE658 gN)))); replace HB := ak (below_step (lT HB (gC GE657 (gC GE658 gN))) hb); replace NB657_660 := ak (nl hg (bG BK657)); replace NB660_657 := ak (ng hg (bG BK657)); replace BK657 := bB BK657 hb; replace NB658_660 := ak (nl hg (bG BK658)); replace NB660_658 := ak (ng hg (bG BK658)); replace BK658 := bB BK658 hb; clear hb hbox hg; have hnb16 := NB660_657.out; have hnc16 := NB657_660.out; have hnb17 := NB660_658.out; have hnc17 := NB658_660.out; obtain ⟨hcz18_0, hcz18_1, hcz18_2, hcz18_3, hcz18_4, hfz18_0, hfz18_1, hfz18_2, hfz18_3, hfz18_4⟩ := bC5 BK660; obtain ⟨hcz19_0, hfz19_0⟩ := bC1 BK658; have p661 : 0 ≤ (x5_1 : Int) := oda; have q661 : x5_1 < (l1_0.length : Int) := oda; obtain ⟨ad661, A661_4, c661_4, e661, hx661_0, hx661_1, hx661_2, hx661_3, hx661_4, hl661_4, hi661_4⟩ := at_T66 HR1_0.out x5_1 p661 q661; cases e661; have hn661_0 : ad661.block ≠ gb660 := Nat.ne_of_lt (Nat.lt_of_lt_of_le (by have := World.block_lt_of_cell? _ _ hx661_0; first | rwa [add_block] at this | exact this) GW660.out); have hn661_1 : ad661.block ≠ gb660 := Nat.ne_of_lt (Nat.lt_of_lt_of_le (by have := World.block_lt_of_cell? _ _ hx661_0; first | rwa [add_block] at this | exact this) GW660.out); have hn661_2 : ad661.block ≠ gb660 := Nat.ne_of_lt (Nat.lt_of_lt_of_le (by have := World.block_lt_of_cell? _ _ hx661_0; first | rwa [add_block] at this | exact this) GW660.out); have hn661_3 : ad661.block ≠ gb660 := Nat.ne_of_lt (Nat.lt_of_lt_of_le (by have := World.block_lt_of_cell? _ _ hx661_0; first | rwa [add_block] at this | exact this) GW660.out); have hn661_4 : ad661.block ≠ gb660 := Nat.ne_of_lt (Nat.lt_of_lt_of_le (by have := World.block_lt_of_cell? _ _ hx661_0; first | rwa [add_block] at this | exact this) GW660.out); replace hx661_0 := clB HB hx661_0; replace hx661_1 := clB HB hx661_1; replace hx661_2 := clB HB hx661_2; replace hx661_3 := clB HB hx661_3; replace hx661_4 := clB HB hx661_4; have HR661_4 := Aside0.mk hi661_4; have HC661_4 := Aside0.mk hl661_4; clear hi661_4 hl661_4; replace hx661_0 := cF hx661_0 ⟨gb660, 0, none⟩ (.int .i64 ((rd_T66 l0_0 x5_1).f0)) (aF hn661_0); replace hx661_1 := cF hx661_1 ⟨gb660, 0, none⟩ (.int .i64 ((rd_T66 l0_0 x5_1).f0)) (aF hn661_0); replace hx661_2 := cF hx661_2 ⟨gb660, 0, none⟩ (.int .i64 ((rd_T66 l0_0 x5_1).f0)) (aF hn661_0); replace hx661_3 := cF hx661_3 ⟨gb660, 0, none⟩ (.int .i64 ((rd_T66 l0_0 x5_1).f0)) (aF hn661_0); replace hx661_4 := cF hx661_4 ⟨gb660, 0, none⟩ (.int .i64 ((rd_T66 l0_0 x5_1).f0)) (aF hn661_0); replace hx661_0 := cF hx661_0 ⟨gb660, 1, none⟩ (.string ((rd_T66 l0_0 x5_1).f1)) (aF hn661_0); replace hx661_1 := cF hx661_1 ⟨gb660, 1, none⟩ (.string ((rd_T66 l0_0 x5_1).f1)) (aF hn661_0); replace hx661_2 := cF hx661_2 ⟨gb660, 1, none⟩ (.string ((rd_T66 l0_0 x5_1).f1)) (aF hn661_0); replace hx661_3 := cF hx661_3 ⟨gb660, 1, none⟩ (.string ((rd_T66 l0_0 x5_1).f1)) (aF hn661_0); replace hx661_4 := cF hx661_4 ⟨gb660, 1, none⟩ (.string ((rd_T66 l0_0 x5_1).f1)) (aF hn661_0); replace hx661_0 := cF hx661_0 ⟨gb660, 2, none⟩ (.string ((rd_T66 l0_0 x5_1).f2)) (aF hn661_0); replace hx661_1 := cF hx661_1 ⟨gb660, 2, none⟩ (.string ((rd_T66 l0_0 x5_1).f2)) (aF hn661_0); replace hx661_2 := cF hx661_2 ⟨gb660, 2, none⟩ (.string ((rd_T66 l0_0 x5_1).f2)) (aF hn661_0); replace hx661_3 := cF hx661_3 ⟨gb660, 2, none⟩ (.string ((rd_T66 l0_0 x5_1).f2)) (aF hn661_0); replace hx661_4 := cF hx661_4 ⟨gb660, 2, none⟩ (.string ((rd_T66 l0_0 x5_1).f2)) (aF hn661_0); replace hx661_0 := cF hx661_0 ⟨gb660, 3, none⟩ (.int .i64 ((rd_T66 l0_0 x5_1).f3)) (aF hn661_0); replace hx661_1 := cF hx661_1 ⟨gb660, 3, none⟩ (.int .i64 ((rd_T66 l0_0 x5_1).f3)) (aF hn661_0); replace hx661_2 := cF hx661_2 ⟨gb660, 3, none⟩ (.int .i64 ((rd_T66 l0_0 x5_1).f3)) (aF hn661_0); replace hx661_3 := cF hx661_3 ⟨gb660, 3, none⟩ (.int .i64 ((rd_T66 l0_0 x5_1).f3)) (aF hn661_0); replace hx661_4 := cF hx661_4 ⟨gb660, 3, none⟩ (.int .i64 ((rd_T66 l0_0 x5_1).f3)) (aF hn661_0); replace hx661_0 := cF hx661_0 ⟨gb660, 4, none⟩ (.slice A659_4 ((rd_T66 l0_0 x5_1).f4).length c659_4) (aF hn661_0); replace hx661_1 := cF hx661_1 ⟨gb660, 4, none⟩ (.slice A659_4 ((rd_T66 l0_0 x5_1).f4).length c659_4) (aF hn661_0); replace hx661_2 := cF hx661_2 ⟨gb660, 4, none⟩ (.slice A659_4 ((rd_T66 l0_0 x5_1).f4).length c659_4) (aF hn661_0); replace hx661_3 := cF hx661_3 ⟨gb660, 4, none⟩ (.slice A659_4 ((rd_T66 l0_0 x5_1).f4).length c659_4) (aF hn661_0); replace hx661_4 := cF hx661_4 ⟨gb660, 4, none⟩ (.slice A659_4 ((rd_T66 l0_0 x5_1).f4).length c659_4) (aF hn661_0); (try have hy661_0 := fun (n_ : Nat) => (show (((((((w15.drewN n_).setCell ⟨gb660, 0, none⟩ (.int .i64 ((rd_T66 l0_0 x5_1).f0))).setCell ⟨gb660, 1, none⟩ (.string ((rd_T66 l0_0 x5_1).f1))).setCell ⟨gb660, 2, none⟩ (.string ((rd_T66 l0_0 x5_1).f2))).setCell ⟨gb660, 3, none⟩ (.int .i64 ((rd_T66 l0_0 x5_1).f3))).setCell ⟨gb660, 4, none⟩ (.slice A659_4 ((rd_T66 l0_0 x5_1).f4).length c659_4))).cell? _ = some _ from hx661_0)); (try have hy661_1 := fun (n_ : Nat) => (show (((((((w15.drewN n_).setCell ⟨gb660, 0, none⟩ (.int .i64 ((rd_T66 l0_0 x5_1).f0))).setCell ⟨gb660, 1, none⟩ (.string ((rd_T66 l0_0 x5_1).f1))).setCell ⟨gb660, 2, none⟩ (.string ((rd_T66 l0_0 x5_1).f2))).setCell ⟨gb660, 3, none⟩ (.int .i64 ((rd_T66 l0_0 x5_1).f3))).setCell ⟨gb660, 4, none⟩ (.slice A659_4 ((rd_T66 l0_0 x5_1).f4).length c659_4))).cell? _ = some _ from hx661_1)); (try have hy661_2 := fun (n_ : Nat) => (show (((((((w15.drewN n_).setCell ⟨gb660, 0, none⟩ (.int .i64 ((rd_T66 l0_0 x5_1).f0))).setCell ⟨gb660, 1, none⟩ (.string ((rd_T66 l0_0 x5_1).f1))).setCell ⟨gb660, 2, none⟩ (.string ((rd_T66 l0_0 x5_1).f2))).setCell ⟨gb660, 3, none⟩ (.int .i64 ((rd_T66 l0_0 x5_1).f3))).setCell ⟨gb660, 4, none⟩ (.slice A659_4 ((rd_T66 l0_0 x5_1).f4).length c659_4))).cell? _ = some _ from hx661_2)); (try have hy661_3 := fun (n_ : Nat) => (show (((((((w15.drewN n_).setCell ⟨gb660, 0, none⟩ (.int .i64 ((rd_T66 l0_0 x5_1).f0))).setCell ⟨gb660, 1, none⟩ (.string ((rd_T66 l0_0 x5_1).f1))).setCell ⟨gb660, 2, none⟩ (.string ((rd_T66 l0_0 x5_1).f2))).setCell ⟨gb660, 3, none⟩ (.int .i64 ((rd_T66 l0_0 x5_1).f3))).setCell ⟨gb660, 4, none⟩ (.slice A659_4 ((rd_T66 l0_0 x5_1).f4).length c659_4))).cell? _ = some _ from hx661_3)); (try have hy661_4 := fun (n_ : Nat) => (show (((((((w15.drewN n_).setCell ⟨gb660, 0, none⟩ (.int .i64 ((rd_T66 l0_0 x5_1).f0))).setCell ⟨gb660, 1, none⟩ (.string ((rd_T66 l0_0 x5_1).f1))).setCell ⟨gb660, 2, none⟩ (.string ((rd_T66 l0_0 x5_1).f2))).setCell ⟨gb660, 3, none⟩ (.int .i64 ((rd_T66 l0_0 x5_1).f3))).setCell ⟨gb660, 4, none⟩ (.slice A659_4 ((rd_T66 l0_0 x5_1).f4).length c659_4))).cell? _ = some _ from hx661_4)); clear hn661_0; clear hn661_1; clear hn661_2; clear hn661_3; clear hn661_4; replace p661 := eq_true p661; replace q661 := eq_true q661) | ((with_reducible refine gate_dst (N := 7) rfl ?_); (try (refine gate_guard (by rfl) ?_; dsimp only)); refine bx 7 #[.int .i64 0, .string (⟨#[]⟩ : ByteArray), .string (⟨#[]⟩ : ByteArray), .int .i64 0, .slice none 0 0] 66 ?_; intro gb662 hg w20 hbox hb; replace BK662 := ak (hbox); replace GW662 := ak (bz hg (lT HB (gC GE657 (gC GE658 (gC GE660 gN))))); replace GE662 := ak (bz hg (lT HB (gC GE657 (gC GE658 (gC GE660 gN))))); replace HB := ak (below_step (lT HB (gC GE657 (gC GE658 (gC GE660 gN)))) hb); replace NB657_662 := ak (nl hg (bT BK657 (nC NB657_660 nN))); replace NB662_657 := ak (ng hg (bT BK657 (nC NB657_660 nN))); replace BK657 := ak (blk_below (bT BK657 (nC NB657_660 nN)) hb); replace NB658_662 := ak (nl hg (bT BK658 (nC NB658_660 nN))); replace NB662_658 := ak (ng hg (bT BK658 (nC NB658_660 nN))); replace BK658 := ak (blk_below (bT BK658 (nC NB658_660 nN)) hb); replace NB660_662 := ak ((by rw [hg]; exact Nat.ne_of_lt (blk_lt (g := gb660) (o := .cells #[.int .i64 ((rd_T66 l0_0 x5_1).f0), .string ((rd_T66 l0_0 x5_1).f1), .string ((rd_T66 l0_0 x5_1).f2), .int .i64 ((rd_T66 l0_0 x5_1).f3), .slice A659_4 ((rd_T66 l0_0 x5_1).f4).length c659_4] 66 (0, 0)) (bW BK660)) : gb660 ≠ gb662)); replace NB662_660 := ak ((by rw [hg]; exact Nat.ne_of_gt (blk_lt (g := gb660) (o := .cells #[.int .i64 ((rd_T66 l0_0 x5_1).f0), .string ((rd_T66 l0_0 x5_1).f1), .string ((rd_T66 l0_0 x5_1).f2), .int .i64 ((rd_T66 l0_0 x5_1).f3), .slice A659_4 ((rd_T66 l0_0 x5_1).f4).length c659_4] 66 (0, 0)) (bW BK660)) : gb662 ≠ gb660)); replace BK660 := ak (blk_below (g := gb660) (o := .cells #[.int .i64 ((rd_T66 l0_0 x5_1).f0), .string ((rd_T66 l0_0 x5_1).f1), .string ((rd_T66 l0_0 x5_1).f2), .int .i64 ((rd_T66 l0_0 x5_1).f3), .slice A659_4 ((rd_T66 l0_0 x5_1).f4).length c659_4] 66 (0, 0)) (bW BK660) hb); clear hb hbox hg; have hnb21 := NB662_657.out; have hnc21 := NB657_662.out; have hnb22 := NB662_658.out; have hnc22 := NB658_662.out; have hnb23 := NB662_660.out; have hnc23 := NB660_662.out; obtain ⟨hcz24_0, hcz24_1, hcz24_2, hcz24_3, hcz24_4, hfz24_0, hfz24_1, hfz24_2, hfz24_3, hfz24_4⟩ := bC5 BK662))
 repeat (go_quiet (fail); go_upto_region 8 with (first | ((with_reducible refine gate_dst (N := 6) rfl ?_); (try (refine gate_guard (by rfl) ?_; dsimp only)); refine bx 6 #[.int .i64 0, .string (⟨#[]⟩ : ByteArray), .string (⟨#[]⟩ : ByteArray), .int .i64 0, .slice none 0 0] 66 ?_; intro gb660 hg w15 hbox hb; replace BK660 := ak (hbox); replace GW660 := ak (bz hg (lT HB (gC GE657 (gC GE658 gN)))); replace GE660 := ak (bz hg (lT HB (gC GE657 (gC GE658 gN)))); replace HB := ak (below_step (lT HB (gC GE657 (gC GE658 gN))) hb); replace NB657_660 := ak (nl hg (bG BK657)); replace NB660_657 := ak (ng hg (bG BK657)); replace BK657 := bB BK657 hb; replace NB658_660 := ak (nl hg (bG BK658)); replace NB660_658 := ak (ng hg (bG BK658)); replace BK658 := bB BK658 hb; clear hb hbox hg; have hnb16 := NB660_657.out; have hnc16 := NB657_660.out; have hnb17 := NB660_658.out; have hnc17 := NB658_660.out; obtain ⟨hcz18_0, hcz18_1, hcz18_2, hcz18_3, hcz18_4, hfz18_0, hfz18_1, hfz18_2, hfz18_3, hfz18_4⟩ := bC5 BK660; obtain ⟨hcz19_0, hfz19_0⟩ := bC1 BK658; have p661 : 0 ≤ (x5_1 : Int) := oda; have q661 : x5_1 < (l1_0.length : Int) := oda; obtain ⟨ad661, A661_4, c661_4, e661, hx661_0, hx661_1, hx661_2, hx661_3, hx661_4, hl661_4, hi661_4⟩ := at_T66 HR1_0.out x5_1 p661 q661; cases e661; have hn661_0 : ad661.block ≠ gb660 := Nat.ne_of_lt (Nat.lt_of_lt_of_le (by have := World.block_lt_of_cell? _ _ hx661_0; first | rwa [add_block] at this | exact this) GW660.out); have hn661_1 : ad661.block ≠ gb660 := Nat.ne_of_lt (Nat.lt_of_lt_of_le (by have := World.block_lt_of_cell? _ _ hx661_0; first | rwa [add_block] at this | exact this) GW660.out); have hn661_2 : ad661.block ≠ gb660 := Nat.ne_of_lt (Nat.lt_of_lt_of_le (by have := World.block_lt_of_cell? _ _ hx661_0; first | rwa [add_block] at this | exact this) GW660.out); have hn661_3 : ad661.block ≠ gb660 := Nat.ne_of_lt (Nat.lt_of_lt_of_le (by have := World.block_lt_of_cell? _ _ hx661_0; first | rwa [add_block] at this | exact this) GW660.out); have hn661_4 : ad661.block ≠ gb660 := Nat.ne_of_lt (Nat.lt_of_lt_of_le (by have := World.block_lt_of_cell? _ _ hx661_0; first | rwa [add_block] at this | exact this) GW660.out); replace hx661_0 := clB HB hx661_0; replace hx661_1 := clB HB hx661_1; replace hx661_2 := clB HB hx661_2; replace hx661_3 := clB HB hx661_3; replace hx661_4 := clB HB hx661_4; have HR661_4 := Aside0.mk hi661_4; have HC661_4 := Aside0.mk hl661_4; clear hi661_4 hl661_4; replace hx661_0 := cF hx661_0 ⟨gb660, 0, none⟩ (.int .i64 ((rd_T66 l0_0 x5_1).f0)) (aF hn661_0); replace hx661_1 := cF hx661_1 ⟨gb660, 0, none⟩ (.int .i64 ((rd_T66 l0_0 x5_1).f0)) (aF hn661_0); replace hx661_2 := cF hx661_2 ⟨gb660, 0, none⟩ (.int .i64 ((rd_T66 l0_0 x5_1).f0)) (aF hn661_0); replace hx661_3 := cF hx661_3 ⟨gb660, 0, none⟩ (.int .i64 ((rd_T66 l0_0 x5_1).f0)) (aF hn661_0); replace hx661_4 := cF hx661_4 ⟨gb660, 0, none⟩ (.int .i64 ((rd_T66 l0_0 x5_1).f0)) (aF hn661_0); replace hx661_0 := cF hx661_0 ⟨gb660, 1, none⟩ (.string ((rd_T66 l0_0 x5_1).f1)) (aF hn661_0); replace hx661_1 := cF hx661_1 ⟨gb660, 1, none⟩ (.string ((rd_T66 l0_0 x5_1).f1)) (aF hn661_0); replace hx661_2 := cF hx661_2 ⟨gb660, 1, none⟩ (.string ((rd_T66 l0_0 x5_1).f1)) (aF hn661_0); replace hx661_3 := cF hx661_3 ⟨gb660, 1, none⟩ (.string ((rd_T66 l0_0 x5_1).f1)) (aF hn661_0); replace hx661_4 := cF hx661_4 ⟨gb660, 1, none⟩ (.string ((rd_T66 l0_0 x5_1).f1)) (aF hn661_0); replace hx661_0 := cF hx661_0 ⟨gb660, 2, none⟩ (.string ((rd_T66 l0_0 x5_1).f2)) (aF hn661_0); replace hx661_1 := cF hx661_1 ⟨gb660, 2, none⟩ (.string ((rd_T66 l0_0 x5_1).f2)) (aF hn661_0); replace hx661_2 := cF hx661_2 ⟨gb660, 2, none⟩ (.string ((rd_T66 l0_0 x5_1).f2)) (aF hn661_0); replace hx661_3 := cF hx661_3 ⟨gb660, 2, none⟩ (.string ((rd_T66 l0_0 x5_1).f2)) (aF hn661_0); replace hx661_4 := cF hx661_4 ⟨gb660, 2, none⟩ (.string ((rd_T66 l0_0 x5_1).f2)) (aF hn661_0); replace hx661_0 := cF hx661_0 ⟨gb660, 3, none⟩ (.int .i64 ((rd_T66 l0_0 x5_1).f3)) (aF hn661_0); replace hx661_1 := cF hx661_1 ⟨gb660, 3, none⟩ (.int .i64 ((rd_T66 l0_0 x5_1).f3)) (aF hn661_0); replace hx661_2 := cF hx661_2 ⟨gb660, 3, none⟩ (.int .i64 ((rd_T66 l0_0 x5_1).f3)) (aF hn661_0); replace hx661_3 := cF hx661_3 ⟨gb660, 3, none⟩ (.int .i64 ((rd_T66 l0_0 x5_1).f3)) (aF hn661_0); replace hx661_4 := cF hx661_4 ⟨gb660, 3, none⟩ (.int .i64 ((rd_T66 l0_0 x5_1).f3)) (aF hn661_0); replace hx661_0 := cF hx661_0 ⟨gb660, 4, none⟩ (.slice A659_4 ((rd_T66 l0_0 x5_1).f4).length c659_4) (aF hn661_0); replace hx661_1 := cF hx661_1 ⟨gb660, 4, none⟩ (.slice A659_4 ((rd_T66 l0_0 x5_1).f4).length c659_4) (aF hn661_0); replace hx661_2 := cF hx661_2 ⟨gb660, 4, none⟩ (.slice A659_4 ((rd_T66 l0_0 x5_1).f4).length c659_4) (aF hn661_0); replace hx661_3 := cF hx661_3 ⟨gb660, 4, none⟩ (.slice A659_4 ((rd_T66 l0_0 x5_1).f4).length c659_4) (aF hn661_0); replace hx661_4 := cF hx661_4 ⟨gb660, 4, none⟩ (.slice A659_4 ((rd_T66 l0_0 x5_1).f4).length c659_4) (aF hn661_0); (try have hy661_0 := fun (n_ : Nat) => (show (((((((w15.drewN n_).setCell ⟨gb660, 0, none⟩ (.int .i64 ((rd_T66 l0_0 x5_1).f0))).setCell ⟨gb660, 1, none⟩ (.string ((rd_T66 l0_0 x5_1).f1))).setCell ⟨gb660, 2, none⟩ (.string ((rd_T66 l0_0 x5_1).f2))).setCell ⟨gb660, 3, none⟩ (.int .i64 ((rd_T66 l0_0 x5_1).f3))).setCell ⟨gb660, 4, none⟩ (.slice A659_4 ((rd_T66 l0_0 x5_1).f4).length c659_4))).cell? _ = some _ from hx661_0)); (try have hy661_1 := fun (n_ : Nat) => (show (((((((w15.drewN n_).setCell ⟨gb660, 0, none⟩ (.int .i64 ((rd_T66 l0_0 x5_1).f0))).setCell ⟨gb660, 1, none⟩ (.string ((rd_T66 l0_0 x5_1).f1))).setCell ⟨gb660, 2, none⟩ (.string ((rd_T66 l0_0 x5_1).f2))).setCell ⟨gb660, 3, none⟩ (.int .i64 ((rd_T66 l0_0 x5_1).f3))).setCell ⟨gb660, 4, none⟩ (.slice A659_4 ((rd_T66 l0_0 x5_1).f4).length c659_4))).cell? _ = some _ from hx661_1)); (try have hy661_2 := fun (n_ : Nat) => (show (((((((w15.drewN n_).setCell ⟨gb660, 0, none⟩ (.int .i64 ((rd_T66 l0_0 x5_1).f0))).setCell ⟨gb660, 1, none⟩ (.string ((rd_T66 l0_0 x5_1).f1))).setCell ⟨gb660, 2, none⟩ (.string ((rd_T66 l0_0 x5_1).f2))).setCell ⟨gb660, 3, none⟩ (.int .i64 ((rd_T66 l0_0 x5_1).f3))).setCell ⟨gb660, 4, none⟩ (.slice A659_4 ((rd_T66 l0_0 x5_1).f4).length c659_4))).cell? _ = some _ from hx661_2)); (try have hy661_3 := fun (n_ : Nat) => (show (((((((w15.drewN n_).setCell ⟨gb660, 0, none⟩ (.int .i64 ((rd_T66 l0_0 x5_1).f0))).setCell ⟨gb660, 1, none⟩ (.string ((rd_T66 l0_0 x5_1).f1))).setCell ⟨gb660, 2, none⟩ (.string ((rd_T66 l0_0 x5_1).f2))).setCell ⟨gb660, 3, none⟩ (.int .i64 ((rd_T66 l0_0 x5_1).f3))).setCell ⟨gb660, 4, none⟩ (.slice A659_4 ((rd_T66 l0_0 x5_1).f4).length c659_4))).cell? _ = some _ from hx661_3)); (try have hy661_4 := fun (n_ : Nat) => (show (((((((w15.drewN n_).setCell ⟨gb660, 0, none⟩ (.int .i64 ((rd_T66 l0_0 x5_1).f0))).setCell ⟨gb660, 1, none⟩ (.string ((rd_T66 l0_0 x5_1).f1))).setCell ⟨gb660, 2, none⟩ (.string ((rd_T66 l0_0 x5_1).f2))).setCell ⟨gb660, 3, none⟩ (.int .i64 ((rd_T66 l0_0 x5_1).f3))).setCell ⟨gb660, 4, none⟩ (.slice A659_4 ((rd_T66 l0_0 x5_1).f4).length c659_4))).cell? _ = some _ from hx661_4)); clear hn661_0; clear hn661_1; clear hn661_2; clear hn661_3; clear hn661_4; replace p661 := eq_true p661; replace q661 := eq_true q661) | ((with_reducible refine gate_dst (N := 7) rfl ?_); (try (refine gate_guard (by rfl) ?_; dsimp only)); refine bx 7 #[.int .i64 0, .string (⟨#[]⟩ : ByteArray), .string (⟨#[]⟩ : ByteArray), .int .i64 0, .slice none 0 0] 66 ?_; intro gb662 hg w20 hbox hb; replace BK662 := ak (hbox); replace GW662 := ak (bz hg (lT HB (gC GE657 (gC GE658 (gC GE660 gN))))); replace GE662 := ak (bz hg (lT HB (gC GE657 (gC GE658 (gC GE660 gN))))); replace HB := ak (below_step (lT HB (gC GE657 (gC GE658 (gC GE660 gN)))) hb); replace NB657_662 := ak (nl hg (bT BK657 (nC NB657_660 nN))); replace NB662_657 := ak (ng hg (bT BK657 (nC NB657_660 nN))); replace BK657 := ak (blk_below (bT BK657 (nC NB657_660 nN)) hb); replace NB658_662 := ak (nl hg (bT BK658 (nC NB658_660 nN))); replace NB662_658 := ak (ng hg (bT BK658 (nC NB658_660 nN))); replace BK658 := ak (blk_below (bT BK658 (nC NB658_660 nN)) hb); replace NB660_662 := ak ((by rw [hg]; exact Nat.ne_of_lt (blk_lt (g := gb660) (o := .cells #[.int .i64 ((rd_T66 l0_0 x5_1).f0), .string ((rd_T66 l0_0 x5_1).f1), .string ((rd_T66 l0_0 x5_1).f2), .int .i64 ((rd_T66 l0_0 x5_1).f3), .slice A659_4 ((rd_T66 l0_0 x5_1).f4).length c659_4] 66 (0, 0)) (bW BK660)) : gb660 ≠ gb662)); replace NB662_660 := ak ((by rw [hg]; exact Nat.ne_of_gt (blk_lt (g := gb660) (o := .cells #[.int .i64 ((rd_T66 l0_0 x5_1).f0), .string ((rd_T66 l0_0 x5_1).f1), .string ((rd_T66 l0_0 x5_1).f2), .int .i64 ((rd_T66 l0_0 x5_1).f3), .slice A659_4 ((rd_T66 l0_0 x5_1).f4).length c659_4] 66 (0, 0)) (bW BK660)) : gb662 ≠ gb660)); replace BK660 := ak (blk_below (g := gb660) (o := .cells #[.int .i64 ((rd_T66 l0_0 x5_1).f0), .string ((rd_T66 l0_0 x5_1).f1), .string ((rd_T66 l0_0 x5_1).f2), .int .i64 ((rd_T66 l0_0 x5_1).f3), .slice A659_4 ((rd_T66 l0_0 x5_1).f4).length c659_4] 66 (0, 0)) (bW BK660) hb); clear hb hbox hg; have hnb21 := NB662_657.out; have hnc21 := NB657_662.out; have hnb22 := NB662_658.out; have hnc22 := NB658_662.out; have hnb23 := NB662_660.out; have hnc23 := NB660_662.out; obtain ⟨hcz24_0, hcz24_1, hcz24_2, hcz24_3, hcz24_4, hfz24_0, hfz24_1, hfz24_2, hfz24_3, hfz24_4⟩ := bC5 BK662)))
 (try simp only [Act.put, List.setIfInBounds_toArray, List.set_cons_zero, List.set_cons_succ])
 go_cut [67] (fun v67 wc => ∃ (kq : Nat) (x67_11 : Bool), v67 = .bool x67_11 ∧ Aside0 (spec_SameState.j1 kq x5_1 x67_11 l0_0 l1_0 ((rd_T66 l0_0 x5_1).f0) ((rd_T66 l0_0 x5_1).f1) ((rd_T66 l0_0 x5_1).f2) ((rd_T66 l0_0 x5_1).f3) ((rd_T66 l0_0 x5_1).f4) ((rd_T66 l1_0 x5_1).f0) ((rd_T66 l1_0 x5_1).f1) ((rd_T66 l1_0 x5_1).f2) ((rd_T66 l1_0 x5_1).f3) ((rd_T66 l1_0 x5_1).f4) = some r) ∧ Aside0 (kq ≤ k1) ∧ Aside0 (wc.heap[gb657]? = some (.cells #[(.slice (some ad659) l0_0.length c0_0)] 60 (0, 0))) ∧ Aside0 (wc.heap[gb658]? = some (.cells #[(.slice (some ad661) l1_0.length c1_0)] 60 (0, 0))) ∧ Aside0 (wc.heap[gb660]? = some (.cells #[.int .i64 ((rd_T66 l0_0 x5_1).f0), .string ((rd_T66 l0_0 x5_1).f1), .string ((rd_T66 l0_0 x5_1).f2), .int .i64 ((rd_T66 l0_0 x5_1).f3), (.slice A659_4 ((rd_T66 l0_0 x5_1).f4).length c659_4)] 66 (0, 0))) ∧ Aside0 (wc.heap[gb662]? = some (.cells #[.int .i64 ((rd_T66 l1_0 x5_1).f0), .string ((rd_T66 l1_0 x5_1).f1), .string ((rd_T66 l1_0 x5_1).f2), .int .i64 ((rd_T66 l1_0 x5_1).f3), (.slice A661_4 ((rd_T66 l1_0 x5_1).f4).length c661_4)] 66 (0, 0))) ∧ Aside0 (Below w.heap.size w wc))
 case first =>
  skip;{
 have H := HC12.out
 clear HC12
 by_cases c25 : ((rd_T66 l0_0 x5_1).f0) = ((rd_T66 l1_0 x5_1).f0)
 {
 rw [if_pos c25] at H
 have c25b0 := beq_iff_eq.mpr c25
 have c25b1 := bne_eq_false_iff_eq.mpr c25
 clear c25
 (first | rw [c25b0] | (simp only [i64_w, i32_w]; rw [c25b0]) | skip)
 by_cases c26 : ((rd_T66 l0_0 x5_1).f1).toList = ((rd_T66 l1_0 x5_1).f1).toList
 {
 rw [if_pos c26] at H
 have c26b0 := beq_iff_eq.mpr c26
 have c26b1 := bne_eq_false_iff_eq.mpr c26
 clear c26
 by_cases c27 : ((rd_T66 l0_0 x5_1).f2).toList = ((rd_T66 l1_0 x5_1).f2).toList
 {
 rw [if_pos c27] at H
 have c27b0 := beq_iff_eq.mpr c27
 have c27b1 := bne_eq_false_iff_eq.mpr c27
 clear c27
 by_cases c28 : ((rd_T66 l0_0 x5_1).f3) = ((rd_T66 l1_0 x5_1).f3)
 {
 rw [if_pos c28] at H
 have c28b0 := beq_iff_eq.mpr c28
 have c28b1 := bne_eq_false_iff_eq.mpr c28
 clear c28
 have H' := Aside0.mk H
 clear H
 have hnb29 := NB660_657.out
 have hnc29 := NB657_660.out
 have hnb30 := NB660_658.out
 have hnc30 := NB658_660.out
 have hnb31 := NB660_662.out
 have hnc31 := NB662_660.out
 obtain ⟨_, _, _, _, _, _, _, _, _, _⟩ := bC5 BK660
 have hnb33 := NB662_657.out
 have hnc33 := NB657_662.out
 have hnb34 := NB662_658.out
 have hnc34 := NB658_662.out
 obtain ⟨_, _, _, _, _, _, _, _, _, _⟩ := bC5 BK662
 go_wp2
 repeat (go_quiet (fail); try go_wp2)
 go_meet
 case rel => exact ⟨_, _, rr, H', ⟨by have := HK1.out; first | omega | exact Nat.le_refl _⟩, ⟨bF BK657 (nC NB657_662 nN)⟩, ⟨bF BK658 (nC NB658_662 nN)⟩, ⟨bF BK660 (nC NB660_662 nN)⟩, ⟨bW BK662⟩, ⟨by exact lT HB (gC GE657 (gC GE658 (gC GE660 (gC GE662 gN))))⟩⟩
 }
 {
 rw [if_neg c28] at H
 have c28b0 := beq_eq_false_iff_ne.mpr c28
 have c28b1 := bne_iff_ne.mpr c28
 have H' := Aside0.mk H
 clear H
 have hnb36 := NB660_657.out
 have hnc36 := NB657_660.out
 have hnb37 := NB660_658.out
 have hnc37 := NB658_660.out
 have hnb38 := NB660_662.out
 have hnc38 := NB662_660.out
 obtain ⟨_, _, _, _, _, _, _, _, _, _⟩ := bC5 BK660
 have hnb40 := NB662_657.out
 have hnc40 := NB657_662.out
 have hnb41 := NB662_658.out
 have hnc41 := NB658_662.out
 obtain ⟨_, _, _, _, _, _, _, _, _, _⟩ := bC5 BK662
 go_wp2
 repeat (go_quiet (fail); try go_wp2)
 go_meet
 case rel => exact ⟨_, _, rr, H', ⟨by have := HK1.out; first | omega | exact Nat.le_refl _⟩, ⟨bF BK657 (nC NB657_662 nN)⟩, ⟨bF BK658 (nC NB658_662 nN)⟩, ⟨bF BK660 (nC NB660_662 nN)⟩, ⟨bW BK662⟩, ⟨by exact lT HB (gC GE657 (gC GE658 (gC GE660 (gC GE662 gN))))⟩⟩
 }
 }
 {
 rw [if_neg c27] at H
 have c27b0 := beq_eq_false_iff_ne.mpr c27
 have c27b1 := bne_iff_ne.mpr c27
 have H' := Aside0.mk H
 clear H
 have hnb43 := NB660_657.out
 have hnc43 := NB657_660.out
 have hnb44 := NB660_658.out
 have hnc44 := NB658_660.out
 have hnb45 := NB660_662.out
 have hnc45 := NB662_660.out
 obtain ⟨_, _, _, _, _, _, _, _, _, _⟩ := bC5 BK660
 have hnb47 := NB662_657.out
 have hnc47 := NB657_662.out
 have hnb48 := NB662_658.out
 have hnc48 := NB658_662.out
 obtain ⟨_, _, _, _, _, _, _, _, _, _⟩ := bC5 BK662
 go_wp2
 repeat (go_quiet (fail); try go_wp2)
 go_meet
 case rel => exact ⟨_, _, rr, H', ⟨by have := HK1.out; first | omega | exact Nat.le_refl _⟩, ⟨bF BK657 (nC NB657_662 nN)⟩, ⟨bF BK658 (nC NB658_662 nN)⟩, ⟨bF BK660 (nC NB660_662 nN)⟩, ⟨bW BK662⟩, ⟨by exact lT HB (gC GE657 (gC GE658 (gC GE660 (gC GE662 gN))))⟩⟩
 }
 }
 {
 rw [if_neg c26] at H
 have c26b0 := beq_eq_false_iff_ne.mpr c26
 have c26b1 := bne_iff_ne.mpr c26
 have H' := Aside0.mk H
 clear H
 have hnb50 := NB660_657.out
 have hnc50 := NB657_660.out
 have hnb51 := NB660_658.out
 have hnc51 := NB658_660.out
 have hnb52 := NB660_662.out
 have hnc52 := NB662_660.out
 obtain ⟨_, _, _, _, _, _, _, _, _, _⟩ := bC5 BK660
 have hnb54 := NB662_657.out
 have hnc54 := NB657_662.out
 have hnb55 := NB662_658.out
 have hnc55 := NB658_662.out
 obtain ⟨_, _, _, _, _, _, _, _, _, _⟩ := bC5 BK662
 go_wp2
 repeat (go_quiet (fail); try go_wp2)
 go_meet
 case rel => exact ⟨_, _, rr, H', ⟨by have := HK1.out; first | omega | exact Nat.le_refl _⟩, ⟨bF BK657 (nC NB657_662 nN)⟩, ⟨bF BK658 (nC NB658_662 nN)⟩, ⟨bF BK660 (nC NB660_662 nN)⟩, ⟨bW BK662⟩, ⟨by exact lT HB (gC GE657 (gC GE658 (gC GE660 (gC GE662 gN))))⟩⟩
 }
 }
 {
 rw [if_neg c25] at H
 have c25b0 := beq_eq_false_iff_ne.mpr c25
 have c25b1 := bne_iff_ne.mpr c25
 (first | rw [c25b0] | (simp only [i64_w, i32_w]; rw [c25b0]) | skip)
 have H' := Aside0.mk H
 clear H
 have hnb57 := NB660_657.out
 have hnc57 := NB657_660.out
 have hnb58 := NB660_658.out
 have hnc58 := NB658_660.out
 have hnb59 := NB660_662.out
 have hnc59 := NB662_660.out
 obtain ⟨_, _, _, _, _, _, _, _, _, _⟩ := bC5 BK660
 have hnb61 := NB662_657.out
 have hnc61 := NB657_662.out
 have hnb62 := NB662_658.out
 have hnc62 := NB658_662.out
 obtain ⟨_, _, _, _, _, _, _, _, _, _⟩ := bC5 BK662
 go_wp2
 repeat (go_quiet (fail); try go_wp2)
 go_meet
 case rel => exact ⟨_, _, rr, H', ⟨by have := HK1.out; first | omega | exact Nat.le_refl _⟩, ⟨bF BK657 (nC NB657_662 nN)⟩, ⟨bF BK658 (nC NB658_662 nN)⟩, ⟨bF BK660 (nC NB660_662 nN)⟩, ⟨bW BK662⟩, ⟨by exact lT HB (gC GE657 (gC GE658 (gC GE660 (gC GE662 gN))))⟩⟩
 }
 }
 case rest =>
  skip;{
 clear HC12
 try clear c3 c3b0 c3b1 c3b2 c9 c9b0 c10 c10b0 c11 c11b0 hcz14_0 hcz18_0 hcz18_1 hcz18_2 hcz18_3 hcz18_4 hcz19_0 hcz24_0 hcz24_1 hcz24_2 hcz24_3 hcz24_4 hcz7_0 hcz8_0 hfz14_0 hfz18_0 hfz18_1 hfz18_2 hfz18_3 hfz18_4 hfz19_0 hfz24_0 hfz24_1 hfz24_2 hfz24_3 hfz24_4 hfz7_0 hfz8_0 hx659_0 hx659_1 hx659_2 hx659_3 hx659_4 hx661_0 hx661_1 hx661_2 hx661_3 hx661_4 p659 p661 q659 q661
 obtain ⟨kq, x67_11, rfl, HA, HJ11, BK657, BK658, BK660, BK662, HB⟩ := hcut
 cases kq with
 | zero => exact absurd HA.out (by simp [spec_SameState.j1])
 | succ kj11 =>
  skip;{
 have H := HA.out
 clear HA
 simp only [spec_SameState.j1] at H
 by_cases c64 : x67_11 = true
 {
 subst c64
 rw [if_pos rfl] at H
 obtain rfl := Option.some.inj H
 go_wp2
 repeat (go_quiet (fail); try go_wp2)
 go_ret
 exact ⟨ew, by exact lT HB (gC GE657 (gC GE658 (gC GE660 (gC GE662 gN))))⟩
 }
 {
 replace c64 := Bool.eq_false_iff.mpr c64
 subst c64
 rw [if_neg (show ¬ (false = true) by decide)] at H
 have H' := Aside0.mk H
 clear H
 go_wp2
 repeat (go_quiet (fail); try go_wp2)
 go_loopg [8] kj11 (fun kq v8 w' => ∃ (x8_3 : Int), v8 = .int .i64 x8_3 ∧ Aside0 (spec_SameState.l1 kq x5_1 x8_3 l0_0 l1_0 ((rd_T66 l0_0 x5_1).f0) ((rd_T66 l0_0 x5_1).f1) ((rd_T66 l0_0 x5_1).f2) ((rd_T66 l0_0 x5_1).f3) ((rd_T66 l0_0 x5_1).f4) ((rd_T66 l1_0 x5_1).f0) ((rd_T66 l1_0 x5_1).f1) ((rd_T66 l1_0 x5_1).f2) ((rd_T66 l1_0 x5_1).f3) ((rd_T66 l1_0 x5_1).f4) = some r) ∧ Aside0 (kq ≤ kj11) ∧ Aside0 (w'.heap[gb657]? = some (.cells #[(.slice (some ad659) l0_0.length c0_0)] 60 (0, 0))) ∧ Aside0 (w'.heap[gb658]? = some (.cells #[(.slice (some ad661) l1_0.length c1_0)] 60 (0, 0))) ∧ Aside0 (w'.heap[gb660]? = some (.cells #[.int .i64 ((rd_T66 l0_0 x5_1).f0), .string ((rd_T66 l0_0 x5_1).f1), .string ((rd_T66 l0_0 x5_1).f2), .int .i64 ((rd_T66 l0_0 x5_1).f3), (.slice A659_4 ((rd_T66 l0_0 x5_1).f4).length c659_4)] 66 (0, 0))) ∧ Aside0 (w'.heap[gb662]? = some (.cells #[.int .i64 ((rd_T66 l1_0 x5_1).f0), .string ((rd_T66 l1_0 x5_1).f1), .string ((rd_T66 l1_0 x5_1).f2), .int .i64 ((rd_T66 l1_0 x5_1).f3), (.slice A661_4 ((rd_T66 l1_0 x5_1).f4).length c661_4)] 66 (0, 0))) ∧ Aside0 (Below w.heap.size w w'))
 case atStart => exact ⟨_, rr, H', ⟨Nat.le_refl _⟩, ⟨bG BK657⟩, ⟨bG BK658⟩, ⟨bG BK660⟩, ⟨bG BK662⟩, ⟨by exact lT HB (gC GE657 (gC GE658 (gC GE660 (gC GE662 gN))))⟩⟩
 case round =>
  skip;{
 clear H'
 try clear c3 c3b0 c3b1 c3b2 c9 c9b0 c10 c10b0 c11 c11b0 c64 hcz14_0 hcz18_0 hcz18_1 hcz18_2 hcz18_3 hcz18_4 hcz19_0 hcz24_0 hcz24_1 hcz24_2 hcz24_3 hcz24_4 hcz7_0 hcz8_0 hfz14_0 hfz18_0 hfz18_1 hfz18_2 hfz18_3 hfz18_4 hfz19_0 hfz24_0 hfz24_1 hfz24_2 hfz24_3 hfz24_4 hfz7_0 hfz8_0 hx659_0 hx659_1 hx659_2 hx659_3 hx659_4 hx661_0 hx661_1 hx661_2 hx661_3 hx661_4 p659 p661 q659 q661
 obtain ⟨x8_3, rfl, HA, HK3, BK657, BK658, BK660, BK662, HB⟩ := hrel
 cases gk with
 | zero => exact absurd HA.out (by simp [spec_SameState.l1])
 | succ k3 =>
  skip;{
 have H := HA.out
 clear HA
 simp only [spec_SameState.l1] at H
 by_cases c65 : x8_3 < (((rd_T66 l0_0 x5_1).f4).length : Int)
 {
 rw [if_pos c65] at H
 have c65b0 := decide_eq_true c65
 clear c65
 by_cases c66 : 0 ≤ x8_3
 {
 rw [if_pos c66] at H
 have c66b0 := decide_eq_true c66
 clear c66
 by_cases c67 : x8_3 < (((rd_T66 l1_0 x5_1).f4).length : Int)
 {
 rw [if_pos c67] at H
 have c67b0 := decide_eq_true c67
 clear c67
 by_cases c68 : (!(((rd_T68 ((rd_T66 l0_0 x5_1).f4) x8_3).f0) == ((rd_T68 ((rd_T66 l1_0 x5_1).f4) x8_3).f0)) || (!(((rd_T68 ((rd_T66 l0_0 x5_1).f4) x8_3).f1) == ((rd_T68 ((rd_T66 l1_0 x5_1).f4) x8_3).f1)) || (!((((rd_T68 ((rd_T66 l0_0 x5_1).f4) x8_3).f2).toList) == (((rd_T68 ((rd_T66 l1_0 x5_1).f4) x8_3).f2).toList))))) = true
 {
 rw [if_pos c68] at H
 have c68b0 : (!(((rd_T68 ((rd_T66 l0_0 x5_1).f4) x8_3).f0) == ((rd_T68 ((rd_T66 l1_0 x5_1).f4) x8_3).f0)) || (!(((rd_T68 ((rd_T66 l0_0 x5_1).f4) x8_3).f1) == ((rd_T68 ((rd_T66 l1_0 x5_1).f4) x8_3).f1)) || (!((((rd_T68 ((rd_T66 l0_0 x5_1).f4) x8_3).f2).toList) == (((rd_T68 ((rd_T66 l1_0 x5_1).f4) x8_3).f2).toList))))) = true := c68
 clear c68
 obtain rfl := Option.some.inj H
 have hnb69 := NB660_657.out
 have hnc69 := NB657_660.out
 have hnb70 := NB660_658.out
 have hnc70 := NB658_660.out
 have hnb71 := NB660_662.out
 have hnc71 := NB662_660.out
 obtain ⟨_, _, _, _, _, _, _, _, _, _⟩ := bC5 BK660
 have p663 : 0 ≤ (x8_3 : Int) := oda
 have q663 : x8_3 < (((rd_T66 l0_0 x5_1).f4).length : Int) := oda
 obtain ⟨ad663, e663, hx663_0, hx663_1, hx663_2⟩ := at_T68 HR659_4.out x8_3 p663 q663
 cases e663
 replace hx663_0 := clB HB hx663_0
 replace hx663_1 := clB HB hx663_1
 replace hx663_2 := clB HB hx663_2
 replace p663 := eq_true p663
 replace q663 := eq_true q663
 have hnb73 := NB662_657.out
 have hnc73 := NB657_662.out
 have hnb74 := NB662_658.out
 have hnc74 := NB658_662.out
 obtain ⟨_, _, _, _, _, _, _, _, _, _⟩ := bC5 BK662
 have p664 : 0 ≤ (x8_3 : Int) := oda
 have q664 : x8_3 < (((rd_T66 l1_0 x5_1).f4).length : Int) := oda
 obtain ⟨ad664, e664, hx664_0, hx664_1, hx664_2⟩ := at_T68 HR661_4.out x8_3 p664 q664
 cases e664
 replace hx664_0 := clB HB hx664_0
 replace hx664_1 := clB HB hx664_1
 replace hx664_2 := clB HB hx664_2
 replace p664 := eq_true p664
 replace q664 := eq_true q664
 go_wp2
 repeat (go_quiet (fail); try go_wp2)
 go_ret
 exact ⟨ew, by exact lT HB (gC GE657 (gC GE658 (gC GE660 (gC GE662 gN))))⟩
 }
 {
 rw [if_neg c68] at H
 have c68b0 : (!(((rd_T68 ((rd_T66 l0_0 x5_1).f4) x8_3).f0) == ((rd_T68 ((rd_T66 l1_0 x5_1).f4) x8_3).f0)) || (!(((rd_T68 ((rd_T66 l0_0 x5_1).f4) x8_3).f1) == ((rd_T68 ((rd_T66 l1_0 x5_1).f4) x8_3).f1)) || (!((((rd_T68 ((rd_T66 l0_0 x5_1).f4) x8_3).f2).toList) == (((rd_T68 ((rd_T66 l1_0 x5_1).f4) x8_3).f2).toList))))) = false := by simpa using c68
 clear c68
 have H' := Aside0.mk H
 clear H
 have hnb76 := NB660_657.out
 have hnc76 := NB657_660.out
 have hnb77 := NB660_658.out
 have hnc77 := NB658_660.out
 have hnb78 := NB660_662.out
 have hnc78 := NB662_660.out
 obtain ⟨_, _, _, _, _, _, _, _, _, _⟩ := bC5 BK660
 have p663 : 0 ≤ (x8_3 : Int) := oda
 have q663 : x8_3 < (((rd_T66 l0_0 x5_1).f4).length : Int) := oda
 obtain ⟨ad663, e663, hx663_0, hx663_1, hx663_2⟩ := at_T68 HR659_4.out x8_3 p663 q663
 cases e663
 replace hx663_0 := clB HB hx663_0
 replace hx663_1 := clB HB hx663_1
 replace hx663_2 := clB HB hx663_2
 replace p663 := eq_true p663
 replace q663 := eq_true q663
 have hnb80 := NB662_657.out
 have hnc80 := NB657_662.out
 have hnb81 := NB662_658.out
 have hnc81 := NB658_662.out
 obtain ⟨_, _, _, _, _, _, _, _, _, _⟩ := bC5 BK662
 have p664 : 0 ≤ (x8_3 : Int) := oda
 have q664 : x8_3 < (((rd_T66 l1_0 x5_1).f4).length : Int) := oda
 obtain ⟨ad664, e664, hx664_0, hx664_1, hx664_2⟩ := at_T68 HR661_4.out x8_3 p664 q664
 cases e664
 replace hx664_0 := clB HB hx664_0
 replace hx664_1 := clB HB hx664_1
 replace hx664_2 := clB HB hx664_2
 replace p664 := eq_true p664
 replace q664 := eq_true q664
 go_wp2
 repeat (go_quiet (fail); try go_wp2)
 go_roundg k3
 case measure => have := HK1.out; have := HJ11.out; have := HK3.out; omega
 case rel => exact ⟨_, rr, H', ⟨by have := HK1.out; have := HJ11.out; have := HK3.out; omega⟩, ⟨bG BK657⟩, ⟨bG BK658⟩, ⟨bG BK660⟩, ⟨bG BK662⟩, ⟨by exact lT HB (gC GE657 (gC GE658 (gC GE660 (gC GE662 gN))))⟩⟩
 }
 }
 {rw [if_neg c67] at H;exact absurd H (by simp)}
 }
 {rw [if_neg c66] at H;exact absurd H (by simp)}
 }
 {
 rw [if_neg c65] at H
 have c65b0 := decide_eq_false c65
 clear c65
 have H' := Aside0.mk H
 clear H
 have hnb83 := NB660_657.out
 have hnc83 := NB657_660.out
 have hnb84 := NB660_658.out
 have hnc84 := NB658_660.out
 have hnb85 := NB660_662.out
 have hnc85 := NB662_660.out
 obtain ⟨_, _, _, _, _, _, _, _, _, _⟩ := bC5 BK660
 go_wp2
 repeat (go_quiet (fail); try go_wp2)
 go_roundg k3
 case measure => have := HK1.out; have := HJ11.out; have := HK3.out; omega
 case rel => exact ⟨_, rr, H', ⟨by have := HK1.out; have := HJ11.out; have := HK3.out; omega⟩, ⟨bG BK657⟩, ⟨bG BK658⟩, ⟨by exact lT HB (gC GE657 (gC GE658 (gC GE660 (gC GE662 gN))))⟩⟩
 }
 }
 }
 }
 }
 }
 }
 {rw [if_neg c11] at H;exact absurd H (by simp)}
 }
 {rw [if_neg c10] at H;exact absurd H (by simp)}
 }
 {
 rw [if_neg c9] at H
 have c9b0 := decide_eq_false c9
 clear c9
 obtain rfl := Option.some.inj H
 have hnb87 := NB657_658.out
 have hnc87 := NB658_657.out
 obtain ⟨_, _⟩ := bC1 BK657
 go_wp2
 repeat (go_quiet (fail); try go_wp2)
 go_ret
 exact ⟨ew, by exact lT HB (gC GE657 (gC GE658 gN))⟩
 }
 }
 }
 }
 {
 rw [if_neg c3] at H
 have c3b0 := beq_eq_false_iff_ne.mpr c3
 have c3b1 := bne_iff_ne.mpr c3
 have c3b2 : (l0_0.length == l1_0.length) = false := by first | simpa using c3 | (simp at c3 ⊢; omega)
 obtain rfl := Option.some.inj H
 go_enter Try.func50, Try.ntmps50
 go_wp2_with (first | ((with_reducible refine gate_dst (N := 2) rfl ?_); (try (refine gate_guard (by rfl) ?_; dsimp only)); refine bx 2 #[.slice A0_0 l0_0.length c0_0] 60 ?_; intro gb657 hg w89 hbox hb; replace BK657 := ak (hbox); replace GE657 := ak (bz hg (lG HB)); replace HB := lB HB hb; clear hb hbox hg) | ((with_reducible refine gate_dst (N := 3) rfl ?_); (try (refine gate_guard (by rfl) ?_; dsimp only)); refine bx 3 #[.slice A1_0 l1_0.length c1_0] 60 ?_; intro gb658 hg w90 hbox hb; replace BK658 := ak (hbox); replace GW658 := ak (bz hg (lT HB (gC GE657 gN))); replace GE658 := ak (bz hg (lT HB (gC GE657 gN))); replace HB := ak (below_step (lT HB (gC GE657 gN)) hb); replace NB657_658 := ak (nl hg (bG BK657)); replace NB658_657 := ak (ng hg (bG BK657)); replace BK657 := bB BK657 hb; clear hb hbox hg; have hnb91 := NB657_658.out; have hnc91 := NB658_657.out; obtain ⟨hcz92_0, hfz92_0⟩ := bC1 BK657; obtain ⟨hcz93_0, hfz93_0⟩ := bC1 BK658))
 repeat (go_quiet (first | ((with_reducible refine gate_dst (N := 2) rfl ?_); (try (refine gate_guard (by rfl) ?_; dsimp only)); refine bx 2 #[.slice A0_0 l0_0.length c0_0] 60 ?_; intro gb657 hg w89 hbox hb; replace BK657 := ak (hbox); replace GE657 := ak (bz hg (lG HB)); replace HB := lB HB hb; clear hb hbox hg) | ((with_reducible refine gate_dst (N := 3) rfl ?_); (try (refine gate_guard (by rfl) ?_; dsimp only)); refine bx 3 #[.slice A1_0 l1_0.length c1_0] 60 ?_; intro gb658 hg w90 hbox hb; replace BK658 := ak (hbox); replace GW658 := ak (bz hg (lT HB (gC GE657 gN))); replace GE658 := ak (bz hg (lT HB (gC GE657 gN))); replace HB := ak (below_step (lT HB (gC GE657 gN)) hb); replace NB657_658 := ak (nl hg (bG BK657)); replace NB658_657 := ak (ng hg (bG BK657)); replace BK657 := bB BK657 hb; clear hb hbox hg; have hnb91 := NB657_658.out; have hnc91 := NB658_657.out; obtain ⟨hcz92_0, hfz92_0⟩ := bC1 BK657; obtain ⟨hcz93_0, hfz93_0⟩ := bC1 BK658)); try go_wp2_with (first | ((with_reducible refine gate_dst (N := 2) rfl ?_); (try (refine gate_guard (by rfl) ?_; dsimp only)); refine bx 2 #[.slice A0_0 l0_0.length c0_0] 60 ?_; intro gb657 hg w89 hbox hb; replace BK657 := ak (hbox); replace GE657 := ak (bz hg (lG HB)); replace HB := lB HB hb; clear hb hbox hg) | ((with_reducible refine gate_dst (N := 3) rfl ?_); (try (refine gate_guard (by rfl) ?_; dsimp only)); refine bx 3 #[.slice A1_0 l1_0.length c1_0] 60 ?_; intro gb658 hg w90 hbox hb; replace BK658 := ak (hbox); replace GW658 := ak (bz hg (lT HB (gC GE657 gN))); replace GE658 := ak (bz hg (lT HB (gC GE657 gN))); replace HB := ak (below_step (lT HB (gC GE657 gN)) hb); replace NB657_658 := ak (nl hg (bG BK657)); replace NB658_657 := ak (ng hg (bG BK657)); replace BK657 := bB BK657 hb; clear hb hbox hg; have hnb91 := NB657_658.out; have hnc91 := NB658_657.out; obtain ⟨hcz92_0, hfz92_0⟩ := bC1 BK657; obtain ⟨hcz93_0, hfz93_0⟩ := bC1 BK658)))
 go_ret
 exact ⟨ew, by exact lT HB (gC GE657 (gC GE658 gN))⟩
 }
end Go.Proofs.Ytagkjeldheiejaa.PFnStatesTold
