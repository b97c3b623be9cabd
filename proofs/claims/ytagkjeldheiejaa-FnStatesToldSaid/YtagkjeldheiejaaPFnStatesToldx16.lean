-- printed
import Derived.Test.YtagkjeldheiejaaPFnStatesToldx6
import Derived.Test.YtagkjeldheiejaaPFnStatesToldx13
import Derived.Test.YtagkjeldheiejaaPFnStatesToldx14
import Derived.Test.YtagkjeldheiejaaPFnStatesToldx15
import Derived.Test.YtagkjeldheiejaaVFnStatesTold1
namespace Go.Proofs.Ytagkjeldheiejaa.PFnStatesTold
open Go.RowKit YtagkjeldheiejaaW.PrintWords YtagkjeldheiejaaW.PrintLast YtagkjeldheiejaaW.PrintMore
set_option linter.unusedVariables false
set_option linter.unusedSimpArgs false
attribute [local go_sem] max2_int min2_int max_two min_two max_three min_three max_four min_four
set_option maxHeartbeats 8000000
set_option maxRecDepth 100000
mutual
def spec_StateOf.l0 : Nat → List (S32) → List Int → Int → Option ((List (S66)))
 | 0, _, _, _ => none
 | k + 1, a, b, c => if c < (a.length : Int) then (if 0 ≤ c then ((spec_l07Best.f k a 2 ((rd_T32 a c).f1.f1) 0).bind fun bt344 => (if ((rd_T32 a c).f1.f0) = 1 then (if bt344.2.2.2.2.2.2.2.2.2 = true then (spec_StateOf.l0 k a b (wrap64 (c + 1))) else ((spec_l07Sorted.f k b ((rd_T32 a c).f1.f1)).bind fun t355 => (spec_StateOf.l0 k a t355 (wrap64 (c + 1))))) else (spec_StateOf.l0 k a b (wrap64 (c + 1))))) else (none)) else (spec_StateOf.l1 k a b 0 ([] : List (S66)))
def spec_StateOf.l1 : Nat → List (S32) → List Int → Int → List (S66) → Option ((List (S66)))
 | 0, _, _, _, _ => none
 | k + 1, a, b, c, d => if c < (b.length : Int) then (if 0 ≤ c then ((spec_l07Tell.f k a (rd b c)).bind fun bt359 => ((spec_l07Next.f k a (rd b c)).bind fun t371 => ((spec_l07Mails.f k a (rd b c)).bind fun t373 => (if d.length < 1954687338268 then (spec_StateOf.l1 k a b (wrap64 (c + 1)) (d ++ [(⟨rd b c, bt359.2.2.2.2.2.2.1, bt359.2.2.2.2.2.2.2.1, t371, t373⟩ : S66)])) else (none))))) else (none)) else (some d)
end
def spec_StateOf.f (k : Nat) (l0 : List (S32)) : Option ((List (S66))) := (spec_ItemsOk.f k l0).bind fun t338 => (if t338 = true then (spec_StateOf.l0 k l0 (([] : List Int)) 0) else (some ([] : List (S66))))
theorem spec_StateOf.mono_l : ∀ k, (∀ y0 y1 y2, LeO (spec_StateOf.l0 k y0 y1 y2) (spec_StateOf.l0 (k + 1) y0 y1 y2)) ∧ (∀ y0 y1 y2 y3, LeO (spec_StateOf.l1 k y0 y1 y2 y3) (spec_StateOf.l1 (k + 1) y0 y1 y2 y3))
 | 0 => ⟨fun _ _ _ r h => by simp [spec_StateOf.l0] at h, fun _ _ _ _ r h => by simp [spec_StateOf.l1] at h⟩
 | k + 1 => by
  obtain ⟨ih0, ih1⟩ := spec_StateOf.mono_l k
  refine ⟨?_, ?_⟩
  intro y0 y1 y2;unfold spec_StateOf.l0;rotate_left
  intro y0 y1 y2 y3;unfold spec_StateOf.l1;rotate_left
  all_goals repeat' with_reducible first | exact ih0 _ _ _ | exact ih1 _ _ _ _ | exact spec_ItemsOk.mono _ _ | exact spec_l07Best.mono _ _ _ _ _ | exact spec_l07Mails.mono _ _ _ | exact spec_l07Next.mono _ _ _ | exact spec_l07Sorted.mono _ _ _ | exact spec_l07Tell.mono _ _ _ | exact LeO.refl _ | exact LeO.none _ | refine LeO.ite ?_ ?_ | refine LeO.bind ?_ (fun _ => ?_)
theorem spec_StateOf.mono : ∀ a0 k, LeO (spec_StateOf.f k a0) (spec_StateOf.f (k + 1) a0) := by
 intro a0 k
 obtain ⟨ih0, ih1⟩ := spec_StateOf.mono_l k
 unfold spec_StateOf.f
 repeat' with_reducible first | exact ih0 _ _ _ | exact ih1 _ _ _ _ | exact spec_ItemsOk.mono _ _ | exact spec_l07Best.mono _ _ _ _ _ | exact spec_l07Mails.mono _ _ _ | exact spec_l07Next.mono _ _ _ | exact spec_l07Sorted.mono _ _ _ | exact spec_l07Tell.mono _ _ _ | exact LeO.refl _ | exact LeO.none _ | refine LeO.ite ?_ ?_ | refine LeO.bind ?_ (fun _ => ?_)
def spec_StateOf.T16 : Bool × List (List Nat × List Nat) := (true, [([], []), ([0], [0]), ([], []), ([], []), ([2, 3], [2, 3]), ([4], [4]), ([], []), ([6], [6]), ([7], [7]), ([], []), ([9], [9]), ([10], [10]), ([], []), ([], []), ([], []), ([13, 14], [13, 14]), ([15], [15]), ([12, 16], [12, 16]), ([], []), ([], []), ([], []), ([19, 20], [19, 20]), ([21], [21]), ([18, 22, 17], [18, 22]), ([5, 8, 11, 17, 23], [5, 8, 11, 17, 23]), ([24], [24]), ([1, 25, 23], [1, 25]), ([0, 1, 2, 3, 4, 5, 6, 7, 8, 9, 10, 11, 12, 13, 14, 15, 16, 17, 18, 19, 20, 21, 22, 23, 24, 25, 26], []), ([27, 26, 26, 0, 1, 2, 3, 4, 5, 6, 7, 8, 9, 10, 11, 12, 13, 14, 15, 16, 17, 18, 19, 20, 21, 22, 23, 24, 25, 26], [26, 27])])
def spec_StateOf.B16 : List Nat := [0, 1, 0, 0, 12, 28, 0, 64, 192, 0, 512, 1536, 0, 0, 0, 24576, 57344, 126976, 0, 0, 0, 1572864, 3670016, 8384512, 16777212, 33554428, 67108863, 134217727, 268435455]
theorem spec_StateOf.tab16 : rtab .any (opsOf Try.f38 16) = spec_StateOf.T16 := by kernel_rfl
theorem spec_StateOf.bits16 : waitsOk spec_StateOf.T16.2 spec_StateOf.B16 = true := by kernel_rfl
theorem spec_StateOf.calls (k : Nat) (A0 : Option Addr) (c0 : Nat) (l0 : List (S32)) (r : List (S66)) (w : World) (hr0 : Kd.C k32 w A0 l0.length l0) (hc0 : l0.length ≤ c0) (h : spec_StateOf.f k l0 = some r) :
  Calls Try.prog 38 #[.slice A0 l0.length c0] w fun e w' => ∃ v0_ : Value, e = .returned (.agg #[v0_]) ∧ Kd.S k66 66 w' w.heap.size (fun _ => True) v0_ r ∧ Below w.heap.size w w' := by
 have hu60 := Try.underlying60
 have hu23 := Try.underlying23
 have hu32 := Try.underlying32
 have hu66 := Try.underlying66
 have HR0 := Aside0.mk hr0
 have HC0 := Aside0.mk hc0
 clear hr0 hc0
 have HB := ak (Below.refl w.heap.size w)
 have H := h
 clear h
 unfold spec_StateOf.f at H
 obtain ⟨t338, A2, H⟩ := eb H
 try dsimp only at H
 by_cases c3 : t338 = true
 {
 subst c3
 rw [if_pos rfl] at H
 obtain ⟨y339, hy339⟩ : ∃ y_ : List Int, y_ = (([] : List Int)) := ⟨_, rfl⟩
 replace H : (spec_StateOf.l0 k l0 y339 0) = some r := by first | (rw [hy339]; with_reducible exact H) | (have H2_ := (Option.bind_some _ _).symm.trans H; rw [hy339]; with_reducible exact H2_) | (have H2_ := (Option.bind_some _ _).symm.trans H; with_reducible exact H2_) | with_reducible exact H | (rw [hy339]; exact H) | exact H
 have Ny339 := Aside0.mk hy339
 clear hy339
 have H' := Aside0.mk H
 clear H
 go_enter Try.func38, Try.ntmps38
 go_wp2_with (first | ((with_reducible refine gate_dst (N := 2) rfl ?_); refine bx 2 #[.slice none 0 0] 60 ?_; intro gb336 hg w4 hbox hb; replace BK336 := ak (hbox); replace GE336 := ak (bz hg (lG HB)); replace HB := lB HB hb; clear hb hbox hg) | ((with_reducible refine gate_dst (N := 3) rfl ?_); refine bx 3 #[.slice none 0 0] 60 ?_; intro gb337 hg w5 hbox hb; replace BK337 := ak (hbox); replace GW337 := ak (bz hg (lT HB (gC GE336 gN))); replace GE337 := ak (bz hg (lT HB (gC GE336 gN))); replace HB := ak (below_step (lT HB (gC GE336 gN)) hb); replace NB336_337 := ak (nl hg (bG BK336)); replace NB337_336 := ak (ng hg (bG BK336)); replace BK336 := bB BK336 hb; clear hb hbox hg; have hnb6 := NB337_336.out; have hnc6 := NB336_337.out; obtain ⟨hcz7_0, hfz7_0⟩ := bC1 BK337) | ((with_reducible refine gate_callee (f := 19) rfl ?_); refine gl (some 13) Try.func19 #[.slice A0 l0.length c0] ?_; (with_reducible refine (spec_ItemsOk.calls k _ _ l0 _ _ ?side1 ?side2 A2.out).mono ?_); (case side1 => exact Kd.C_below HR0.out (lT HB (gC GE336 (gC GE337 gN)))); (case side2 => exact HC0.out); rintro e w8 ⟨rfl, hb⟩; refine ⟨_, rfl, ?_⟩; replace BK336 := ak (blk_below (bT BK336 (nC NB336_337 nN)) hb); replace BK337 := ak (blk_below (g := gb337) (o := .cells #[.slice none 0 0] 60 (0, 0)) (bW BK337) hb); replace HB := ak (below_step (lT HB (gC GE336 (gC GE337 gN))) hb); (try clear hb); (try clear hk)) | ((with_reducible refine gate_dst (N := 16) rfl ?_); refine Kd.R_lit (Kd.int .i64) _ 3 ?hg (N := 16) ?hd (xs := ([] : List Int)) (inner := []) (ok := fun _ => True) (okp := fun _ => True) ?hr ?hp (fun _ hk => hk) trivial (Below.refl _ _) (Nat.le_refl _) (by simp) ?_; (case hd => rfl); (case hg => rfl); (case hr => first | (go_simp; done) | (go_simp; rfl)); (case hp => exact (Reps.none _ _)); intro v340 w9 ho10 hb hg_ hnew_; clear hg_ hnew_; (first | rw [← Ny339.out] at ho10 | (simp only [Int.reduceToNat] at ho10; rw [← Ny339.out] at ho10)); replace HO341 := ak (Kd.R_lower ho10 (below_size (lT HB (gC GE336 (gC GE337 gN))))); replace BK336 := bB BK336 hb; replace BK337 := bB BK337 hb; replace HB := ak (below_step (lT HB (gC GE336 (gC GE337 gN))) hb); clear hb ho10))
 go_loopg [4, 5] k (fun kq v4 v5 w' => ∃ (x4_1 : List Int) (x5_1 : Int), v5 = .int .i64 x5_1 ∧ Aside0 (spec_StateOf.l0 kq l0 x4_1 x5_1 = some r) ∧ Aside0 (kq ≤ k) ∧ Aside0 (Kd.R (Kd.int .i64) 3 w' w.heap.size (fun _ => True) v4 x4_1) ∧ Aside0 (w'.heap[gb336]? = some (.cells #[(.slice none 0 0)] 60 (0, 0))) ∧ Aside0 (w'.heap[gb337]? = some (.cells #[(.slice none 0 0)] 60 (0, 0))) ∧ Aside0 (Below w.heap.size w w'))
 case atStart => exact ⟨_, _, rr, H', ⟨Nat.le_refl _⟩, ⟨by (with_reducible repeat (first | apply Kd.R_alloc | apply Kd.R_drewN | apply Kd.R_drew)); exact HO341.out⟩, ⟨bG BK336⟩, ⟨bG BK337⟩, ⟨by exact lT HB (gC GE336 (gC GE337 gN))⟩⟩
 case round =>
  skip;{
 clear H'
 try clear c3 hcz7_0 hfz7_0
 obtain ⟨x4_1, x5_1, rfl, HA, HK1, HO_4, BK336, BK337, HB⟩ := hrel
 cases gk with
 | zero => exact absurd HA.out (by simp [spec_StateOf.l0])
 | succ k1 =>
  skip;{
 have H := HA.out
 clear HA
 simp only [spec_StateOf.l0] at H
 by_cases c11 : x5_1 < (l0.length : Int)
 {
 rw [if_pos c11] at H
 have c11b0 := decide_eq_true c11
 clear c11
 by_cases c12 : 0 ≤ x5_1
 {
 rw [if_pos c12] at H
 have c12b0 := decide_eq_true c12
 clear c12
 obtain ⟨⟨t344, t345, t346, t347, t348, t349, t350, t351, t352, t353⟩, A13, H⟩ := eb H
 try dsimp only at H
 have HS_ := Aside0.mk H
 clear H
 have p342 : 0 ≤ (x5_1 : Int) := oda
 have q342 : x5_1 < (l0.length : Int) := oda
 obtain ⟨ad342, e342, hx342_0, hx342_1, hx342_2, hx342_3, hx342_4, hx342_5, hx342_6, hx342_7, hx342_8⟩ := at_T32 HR0.out x5_1 p342 q342
 cases e342
 replace hx342_0 := clB HB hx342_0
 replace hx342_1 := clB HB hx342_1
 replace hx342_2 := clB HB hx342_2
 replace hx342_3 := clB HB hx342_3
 replace hx342_4 := clB HB hx342_4
 replace hx342_5 := clB HB hx342_5
 replace hx342_6 := clB HB hx342_6
 replace hx342_7 := clB HB hx342_7
 replace hx342_8 := clB HB hx342_8
 replace p342 := eq_true p342
 replace q342 := eq_true q342
 go_wp2_with (first | ((with_reducible refine gate_dst (N := 6) rfl ?_); refine b8 6 ?_; intro gb343 hg w16 hbox hb; replace HO_4 := rB HO_4 hb; replace BK343 := ak (hbox); replace GW343 := ak (bz hg (lT HB (gC GE336 (gC GE337 gN)))); replace GE343 := ak (bz hg (lT HB (gC GE336 (gC GE337 gN)))); replace HB := ak (below_step (lT HB (gC GE336 (gC GE337 gN))) hb); replace NB336_343 := ak (nl hg (bG BK336)); replace NB343_336 := ak (ng hg (bG BK336)); replace BK336 := bB BK336 hb; replace NB337_343 := ak (nl hg (bG BK337)); replace NB343_337 := ak (ng hg (bG BK337)); replace BK337 := bB BK337 hb; clear hb hbox hg; have hnb17 := NB343_336.out; have hnc17 := NB336_343.out; have hnb18 := NB343_337.out; have hnc18 := NB337_343.out; obtain ⟨_, _, _, _, _, _, _, _, _, _, _, _, _, _, _, _⟩ := bC8 BK343) | ((with_reducible refine gate_callee (f := 80) rfl ?_); refine gl (some 32) Try.func80 #[.slice (some ad342) l0.length c0, .int .i64 2, .int .i64 ((rd_T32 l0 x5_1).f1.f1), .int .i64 0] ?_; (with_reducible refine (spec_l07Best.calls k1 _ _ l0 2 ((rd_T32 l0 x5_1).f1.f1) 0 _ _ _ _ _ _ _ _ _ _ _ ?side1 ?side2 A13.out).mono ?_); (case side1 => exact Kd.C_below HR0.out (lT HB (gC GE336 (gC GE337 (gC GE343 gN))))); (case side2 => exact HC0.out); rintro e w20 ⟨rfl, hb⟩; refine ⟨_, rfl, ?_⟩; replace HO_4 := ak (Kd.R_below (rT HO_4 BK343 (by decide)) hb); replace BK336 := ak (blk_below (bT BK336 (nC NB336_343 nN)) hb); replace BK337 := ak (blk_below (bT BK337 (nC NB337_343 nN)) hb); replace BK343 := ak (blk_below (g := gb343) (o := .cells #[.int .i64 ((rd_T32 l0 x5_1).f1.f0), .int .i64 ((rd_T32 l0 x5_1).f1.f1), .int .i64 ((rd_T32 l0 x5_1).f1.f2), .int .i64 ((rd_T32 l0 x5_1).f1.f3), .int .i64 ((rd_T32 l0 x5_1).f1.f4), .string ((rd_T32 l0 x5_1).f1.f5), .string ((rd_T32 l0 x5_1).f1.f6), .string ((rd_T32 l0 x5_1).f1.f7)] 23 (0, 0)) (bW BK343) hb); replace HB := ak (below_step (lT HB (gC GE336 (gC GE337 (gC GE343 gN)))) hb); (try clear hb); (try clear hk); refine Stop.out ?_))
 have H := HS_.out
 clear HS_
 by_cases c14 : ((rd_T32 l0 x5_1).f1.f0) = 1
 {
 rw [if_pos c14] at H
 have c14b0 := beq_iff_eq.mpr c14
 have c14b1 := bne_eq_false_iff_eq.mpr c14
 clear c14
 by_cases c15 : t353 = true
 {
 subst c15
 rw [if_pos rfl] at H
 have H' := Aside0.mk H
 clear H
 refine ⟨?_⟩
 go_wp2_with ((with_reducible refine gate_dst (N := 7) rfl ?_); refine b9 7 ?_; intro gb354 hg w21 hbox hb; replace HO_4 := rB HO_4 hb; replace BK354 := ak (hbox); replace GW354 := ak (bz hg (lT HB (gC GE336 (gC GE337 (gC GE343 gN))))); replace GE354 := ak (bz hg (lT HB (gC GE336 (gC GE337 (gC GE343 gN))))); replace HB := ak (below_step (lT HB (gC GE336 (gC GE337 (gC GE343 gN)))) hb); replace NB336_354 := ak (nl hg (bG BK336)); replace NB354_336 := ak (ng hg (bG BK336)); replace BK336 := bB BK336 hb; replace NB337_354 := ak (nl hg (bG BK337)); replace NB354_337 := ak (ng hg (bG BK337)); replace BK337 := bB BK337 hb; replace NB343_354 := ak (nl hg (bG BK343)); replace NB354_343 := ak (ng hg (bG BK343)); replace BK343 := bB BK343 hb; clear hb hbox hg; have hnb22 := NB354_336.out; have hnc22 := NB336_354.out; have hnb23 := NB354_337.out; have hnc23 := NB337_354.out; have hnb24 := NB354_343.out; have hnc24 := NB343_354.out; obtain ⟨_, _, _, _, _, _, _, _, _, _, _, _, _, _, _, _, _, _⟩ := bC9 BK354; obtain ⟨_, _, _, _, _, _, _, _, _, _, _, _, _, _, _, _⟩ := bC8 BK343)
 go_roundg k1
 case measure => have := HK1.out; omega
 case rel => exact ⟨_, _, rr, H', ⟨by have := HK1.out; omega⟩, ⟨by exact Kd.R_mono (rT HO_4 BK354 (by decide)) (fun _ hk => trivial)⟩, ⟨bF BK336 (nC NB336_354 nN)⟩, ⟨bF BK337 (nC NB337_354 nN)⟩, ⟨by exact lT HB (gC GE336 (gC GE337 (gC GE343 (gC GE354 gN))))⟩⟩
 }
 {
 replace c15 := Bool.eq_false_iff.mpr c15
 subst c15
 rw [if_neg (show ¬ (false = true) by decide)] at H
 obtain ⟨t355, A27, H⟩ := eb H
 try dsimp only at H
 have H' := Aside0.mk H
 clear H
 refine ⟨?_⟩
 go_wp2_with (first | ((with_reducible refine gate_dst (N := 7) rfl ?_); refine b9 7 ?_; intro gb354 hg w33 hbox hb; replace HO_4 := rB HO_4 hb; replace BK354 := ak (hbox); replace GW354 := ak (bz hg (lT HB (gC GE336 (gC GE337 (gC GE343 gN))))); replace GE354 := ak (bz hg (lT HB (gC GE336 (gC GE337 (gC GE343 gN))))); replace HB := ak (below_step (lT HB (gC GE336 (gC GE337 (gC GE343 gN)))) hb); replace NB336_354 := ak (nl hg (bG BK336)); replace NB354_336 := ak (ng hg (bG BK336)); replace BK336 := bB BK336 hb; replace NB337_354 := ak (nl hg (bG BK337)); replace NB354_337 := ak (ng hg (bG BK337)); replace BK337 := bB BK337 hb; replace NB343_354 := ak (nl hg (bG BK343)); replace NB354_343 := ak (ng hg (bG BK343)); replace BK343 := bB BK343 hb; clear hb hbox hg; have hnb34 := NB354_336.out; have hnc34 := NB336_354.out; have hnb35 := NB354_337.out; have hnc35 := NB337_354.out; have hnb36 := NB354_343.out; have hnc36 := NB343_354.out; obtain ⟨_, _, _, _, _, _, _, _, _, _, _, _, _, _, _, _, _, _⟩ := bC9 BK354; obtain ⟨_, _, _, _, _, _, _, _, _, _, _, _, _, _, _, _⟩ := bC8 BK343; obtain ⟨Ao39, co39, eo39⟩ := Kd.R_slice HO_4.out; subst eo39) | ((with_reducible refine gate_callee (f := 81) rfl ?_); refine gl (some 45) Try.func81 #[.slice Ao39 x4_1.length co39, .int .i64 ((rd_T32 l0 x5_1).f1.f1)] ?_; (with_reducible refine (spec_l07Sorted.calls k1 _ _ x4_1 ((rd_T32 l0 x5_1).f1.f1) t355 _ ?side1 ?side2 A27.out).mono ?_); (case side1 => exact (Kd.R_reads' (rT HO_4 BK354 (by decide))).2.2); (case side2 => exact (Kd.R_reads' HO_4.out).2.1); rintro e w40 ⟨v356, rfl, ho0, hb⟩; refine ⟨_, rfl, ?_⟩; replace HO357 := ak (Kd.R_lower (Kd.R_new' ho0 (Kd.R_lt (rT HO_4 BK354 (by decide)))) (below_size (lT HB (gC GE336 (gC GE337 (gC GE343 (gC GE354 gN))))))); replace HO_4 := ak (Kd.R_elder' (rT HO_4 BK354 (by decide)) (Kd.R_base ho0) hb); replace BK336 := ak (blk_below (bT BK336 (nC NB336_354 nN)) hb); replace BK337 := ak (blk_below (bT BK337 (nC NB337_354 nN)) hb); replace BK343 := ak (blk_below (bT BK343 (nC NB343_354 nN)) hb); replace BK354 := ak (blk_below (g := gb354) (o := .cells #[.int .i64 t344, .int .i64 t345, .int .i64 t346, .int .i64 t347, .int .i64 t348, .int .i64 t349, .string t350, .string t351, .string t352] 32 (0, 0)) (bW BK354) hb); replace HB := ak (below_step (lT HB (gC GE336 (gC GE337 (gC GE343 (gC GE354 gN))))) hb); (try clear hb); (try clear hk); (try clear ho0)))
 go_roundg k1
 case measure => have := HK1.out; omega
 case rel => exact ⟨_, _, rr, H', ⟨by have := HK1.out; omega⟩, ⟨by (with_reducible repeat (first | apply Kd.R_alloc | apply Kd.R_drewN | apply Kd.R_drew)); exact Kd.R_mono HO357.out (fun _ hk => trivial)⟩, ⟨bG BK336⟩, ⟨bG BK337⟩, ⟨by exact lT HB (gC GE336 (gC GE337 (gC GE343 (gC GE354 gN))))⟩⟩
 }
 }
 {
 rw [if_neg c14] at H
 have c14b0 := beq_eq_false_iff_ne.mpr c14
 have c14b1 := bne_iff_ne.mpr c14
 have H' := Aside0.mk H
 clear H
 refine ⟨?_⟩
 go_wp2_with ((with_reducible refine gate_dst (N := 7) rfl ?_); refine b9 7 ?_; intro gb354 hg w46 hbox hb; replace HO_4 := rB HO_4 hb; replace BK354 := ak (hbox); replace GW354 := ak (bz hg (lT HB (gC GE336 (gC GE337 (gC GE343 gN))))); replace GE354 := ak (bz hg (lT HB (gC GE336 (gC GE337 (gC GE343 gN))))); replace HB := ak (below_step (lT HB (gC GE336 (gC GE337 (gC GE343 gN)))) hb); replace NB336_354 := ak (nl hg (bG BK336)); replace NB354_336 := ak (ng hg (bG BK336)); replace BK336 := bB BK336 hb; replace NB337_354 := ak (nl hg (bG BK337)); replace NB354_337 := ak (ng hg (bG BK337)); replace BK337 := bB BK337 hb; replace NB343_354 := ak (nl hg (bG BK343)); replace NB354_343 := ak (ng hg (bG BK343)); replace BK343 := bB BK343 hb; clear hb hbox hg; have hnb47 := NB354_336.out; have hnc47 := NB336_354.out; have hnb48 := NB354_337.out; have hnc48 := NB337_354.out; have hnb49 := NB354_343.out; have hnc49 := NB343_354.out; obtain ⟨_, _, _, _, _, _, _, _, _, _, _, _, _, _, _, _, _, _⟩ := bC9 BK354; obtain ⟨_, _, _, _, _, _, _, _, _, _, _, _, _, _, _, _⟩ := bC8 BK343)
 go_roundg k1
 case measure => have := HK1.out; omega
 case rel => exact ⟨_, _, rr, H', ⟨by have := HK1.out; omega⟩, ⟨by exact Kd.R_mono (rT HO_4 BK354 (by decide)) (fun _ hk => trivial)⟩, ⟨bF BK336 (nC NB336_354 nN)⟩, ⟨bF BK337 (nC NB337_354 nN)⟩, ⟨by exact lT HB (gC GE336 (gC GE337 (gC GE343 (gC GE354 gN))))⟩⟩
 }
 }
 {rw [if_neg c12] at H;exact absurd H (by simp)}
 }
 {
 rw [if_neg c11] at H
 have c11b0 := decide_eq_false c11
 clear c11
 have H' := Aside0.mk H
 clear H
 go_wp2
 go_loopg [9] k1 (fun kq v9 w' => ∃ (x9_2 : Int) (x338000_2 : List (S66)) (u338000 : Value), v9 = .int .i64 x9_2 ∧ Aside0 (spec_StateOf.l1 kq l0 x4_1 x9_2 x338000_2 = some r) ∧ Aside0 (kq ≤ k1) ∧ Aside0 (Kd.R (Kd.int .i64) 3 w' w.heap.size (fun _ => True) u4 x4_1) ∧ Aside0 (Kd.S k66 66 w' w.heap.size (fun _ => True) u338000 x338000_2) ∧ Aside0 (w'.heap[gb336]? = some (.cells #[(.slice none 0 0)] 60 (0, 0))) ∧ Aside0 (w'.heap[gb337]? = some (.cells #[u338000] 60 (0, 0))) ∧ Aside0 (Below w.heap.size w w'))
 case atStart => exact ⟨_, _, (.slice none 0 0), rr, H', ⟨Nat.le_refl _⟩, ⟨by (with_reducible repeat (first | apply Kd.R_alloc | apply Kd.R_drewN | apply Kd.R_drew)); exact HO_4.out⟩, ⟨by first | exact Kd.S_nil _ _ _ _ _ | exact Kd.N_nil _ _ _ _ _ | exact Kd.V_nil _ _ _ _ _ | exact Kd.Q_nil _ _ _ _ _ | exact Kd.R_nil _ _ _ _ _⟩, ⟨bG BK336⟩, ⟨bG BK337⟩, ⟨by exact lT HB (gC GE336 (gC GE337 gN))⟩⟩
 case round =>
  skip;{
 clear H'
 try clear c3 c11 c11b0 hcz7_0 hfz7_0
 obtain ⟨x9_2, x338000_2, u338000, rfl, HA, HK2, HO_4, HO_338000, BK336, BK337, HB⟩ := hrel
 cases gk with
 | zero => exact absurd HA.out (by simp [spec_StateOf.l1])
 | succ k2 =>
  skip;{
 have H := HA.out
 clear HA
 simp only [spec_StateOf.l1] at H
 by_cases c52 : x9_2 < (x4_1.length : Int)
 {
 rw [if_pos c52] at H
 have c52b0 := decide_eq_true c52
 clear c52
 by_cases c53 : 0 ≤ x9_2
 {
 rw [if_pos c53] at H
 have c53b0 := decide_eq_true c53
 clear c53
 obtain ⟨⟨t359, t360, t361, t362, t363, t364, t365, t366, t367⟩, A54, H⟩ := eb H
 try dsimp only at H
 obtain ⟨t371, A55, H⟩ := eb H
 try dsimp only at H
 obtain ⟨t373, A56, H⟩ := eb H
 try dsimp only at H
 by_cases c57 : x338000_2.length < 1954687338268
 {
 rw [if_pos c57] at H
 have LMc57 := Aside0.mk c57
 clear c57
 obtain ⟨y376, hy376⟩ : ∃ y_ : List (S66), y_ = (x338000_2 ++ [(⟨rd x4_1 x9_2, t365, t366, t371, t373⟩ : S66)]) := ⟨_, rfl⟩
 replace H : (spec_StateOf.l1 k2 l0 x4_1 (wrap64 (x9_2 + 1)) y376) = some r := by first | (rw [hy376]; with_reducible exact H) | (have H2_ := (Option.bind_some _ _).symm.trans H; rw [hy376]; with_reducible exact H2_) | (have H2_ := (Option.bind_some _ _).symm.trans H; with_reducible exact H2_) | with_reducible exact H | (rw [hy376]; exact H) | exact H
 have Ny376 := Aside0.mk hy376
 clear hy376
 have H' := Aside0.mk H
 clear H
 obtain ⟨Ao58, co58, eo58⟩ := Kd.R_slice HO_4.out
 subst eo58
 have p358 : 0 ≤ (x9_2 : Int) := oda
 have q358 : x9_2 < (x4_1.length : Int) := oda
 obtain ⟨ad358, e358, hx358_0⟩ := Kd.at_int (Kd.R_reads' HO_4.out).2.2 x9_2 p358 q358
 cases e358
 replace p358 := eq_true p358
 replace q358 := eq_true q358
 try go_wp2_with (first | ((with_reducible refine gate_callee (f := 82) rfl ?_); refine gl (some 57) Try.func82 #[.slice A0 l0.length c0, .int .i64 (rd x4_1 x9_2)] ?_; (with_reducible refine (spec_l07Tell.calls k2 _ _ l0 (rd x4_1 x9_2) t359 t360 t361 t362 t363 t364 t365 t366 t367 _ ?side1 ?side2 A54.out).mono ?_); (case side1 => exact cG (Kd.C_below HR0.out HB.out)); (case side2 => exact HC0.out); rintro e w59 ⟨rfl, hb⟩; refine ⟨_, rfl, ?_⟩; replace HO_4 := rB HO_4 hb; replace HO_338000 := sB HO_338000 hb; replace BK336 := bB BK336 hb; replace BK337 := bB BK337 hb; replace HB := ak (below_step (lT HB (gC GE336 (gC GE337 gN))) hb); (try clear hb); (try clear hk)) | ((with_reducible refine gate_dst (N := 10) rfl ?_); refine b9 10 ?_; intro gb368 hg w60 hbox hb; replace HO_4 := rB HO_4 hb; replace HO_338000 := sB HO_338000 hb; replace BK368 := ak (hbox); replace GW368 := ak (bz hg (lT HB (gC GE336 (gC GE337 gN)))); replace GE368 := ak (bz hg (lT HB (gC GE336 (gC GE337 gN)))); replace HB := ak (below_step (lT HB (gC GE336 (gC GE337 gN))) hb); replace NB336_368 := ak (nl hg (bG BK336)); replace NB368_336 := ak (ng hg (bG BK336)); replace BK336 := bB BK336 hb; replace NB337_368 := ak (nl hg (bG BK337)); replace NB368_337 := ak (ng hg (bG BK337)); replace BK337 := bB BK337 hb; clear hb hbox hg; have hnb61 := NB368_336.out; have hnc61 := NB336_368.out; have hnb62 := NB368_337.out; have hnc62 := NB337_368.out; obtain ⟨_, _, _, _, _, _, _, _, _, _, _, _, _, _, _, _, _, _⟩ := bC9 BK368))
 obtain ⟨w64, eW_⟩ : ∃ w_, w_ = (((((((((w60.setCell ⟨gb368, 0, none⟩ (.int .i64 t359)).setCell ⟨gb368, 1, none⟩ (.int .i64 t360)).setCell ⟨gb368, 2, none⟩ (.int .i64 t361)).setCell ⟨gb368, 3, none⟩ (.int .i64 t362)).setCell ⟨gb368, 4, none⟩ (.int .i64 t363)).setCell ⟨gb368, 5, none⟩ (.int .i64 t364)).setCell ⟨gb368, 6, none⟩ (.string t365)).setCell ⟨gb368, 7, none⟩ (.string t366)).setCell ⟨gb368, 8, none⟩ (.string t367)) := ⟨_, rfl⟩
 have n0_ : Aside0 (Kd.R (Kd.int .i64) 3 w64 w.heap.size (fun _ => True) (.slice (some ad358) x4_1.length co58) x4_1) := by rw [eW_]; exact ⟨by exact Kd.R_mono (rT HO_4 BK368 (by decide)) (fun _ hk => trivial)⟩
 have n1_ : Aside0 (Kd.S k66 66 w64 w.heap.size (fun _ => True) u338000 x338000_2) := by rw [eW_]; exact ⟨by (with_reducible repeat (first | apply Kd.S_alloc | apply Kd.S_drewN | apply Kd.S_drew)); exact Kd.S_mono (Kd.S_far (p := ⟨gb368, 8, none⟩) (Kd.S_far (p := ⟨gb368, 7, none⟩) (Kd.S_far (p := ⟨gb368, 6, none⟩) (Kd.S_far (p := ⟨gb368, 5, none⟩) (Kd.S_far (p := ⟨gb368, 4, none⟩) (Kd.S_far (p := ⟨gb368, 3, none⟩) (Kd.S_far (p := ⟨gb368, 2, none⟩) (Kd.S_far (p := ⟨gb368, 1, none⟩) (Kd.S_far (p := ⟨gb368, 0, none⟩) (Kd.S_types HO_338000.out BK368.out (by decide)) (fun _ hk => hk.2) (.int .i64 t359)) (fun _ hk => hk.2) (.int .i64 t360)) (fun _ hk => hk.2) (.int .i64 t361)) (fun _ hk => hk.2) (.int .i64 t362)) (fun _ hk => hk.2) (.int .i64 t363)) (fun _ hk => hk.2) (.int .i64 t364)) (fun _ hk => hk.2) (.string t365)) (fun _ hk => hk.2) (.string t366)) (fun _ hk => hk.2) (.string t367)) (fun _ hk => trivial)⟩
 have n2_ : Aside0 (w64.heap[gb336]? = some (.cells #[.slice none 0 0] 60 (0, 0))) := by rw [eW_]; exact ⟨bF BK336 (nC NB336_368 nN)⟩
 have n3_ : Aside0 (w64.heap[gb337]? = some (.cells #[u338000] 60 (0, 0))) := by rw [eW_]; exact ⟨bF BK337 (nC NB337_368 nN)⟩
 have n4_ : Aside0 (w64.heap[gb368]? = some (.cells #[.int .i64 t359, .int .i64 t360, .int .i64 t361, .int .i64 t362, .int .i64 t363, .int .i64 t364, .string t365, .string t366, .string t367] 32 (0, 0))) := by rw [eW_]; exact ⟨bW BK368⟩
 have n5_ : Aside0 (Below w.heap.size w w64) := by rw [eW_]; exact ⟨by exact lT HB (gC GE336 (gC GE337 (gC GE368 gN)))⟩
 try clear HO_4 HO_338000 BK336 BK337 BK368 HB
 rw [← eW_];clear eW_
 have HO_4 := n0_
 have HO_338000 := n1_
 have BK336 := n2_
 have BK337 := n3_
 have BK368 := n4_
 have HB := n5_
 clear n0_ n1_ n2_ n3_ n4_ n5_
 replace HO_4 := ak (Kd.R_drew HO_4.out)
 replace HO_338000 := ak (Kd.S_drew HO_338000.out)
 replace BK336 := ak (blk_drew BK336.out)
 replace BK337 := ak (blk_drew BK337.out)
 replace BK368 := ak (blk_drew BK368.out)
 replace HB := ak (below_drew1 HB.out)
 have p369 : 0 ≤ (x9_2 : Int) := oda
 have q369 : x9_2 < (x4_1.length : Int) := oda
 obtain ⟨ad369, e369, hx369_0⟩ := Kd.at_int (Kd.R_reads' HO_4.out).2.2 x9_2 p369 q369
 obtain rfl : ad358 = ad369 := (by injection e369)
 replace p369 := eq_true p369
 replace q369 := eq_true q369
 have p370 : 0 ≤ (x9_2 : Int) := oda
 have q370 : x9_2 < (x4_1.length : Int) := oda
 obtain ⟨ad370, e370, hx370_0⟩ := Kd.at_int (Kd.R_reads' HO_4.out).2.2 x9_2 p370 q370
 obtain rfl : ad358 = ad370 := (by injection e370)
 replace p370 := eq_true p370
 replace q370 := eq_true q370
 have p372 : 0 ≤ (x9_2 : Int) := oda
 have q372 : x9_2 < (x4_1.length : Int) := oda
 obtain ⟨ad372, e372, hx372_0⟩ := Kd.at_int (Kd.R_reads' HO_4.out).2.2 x9_2 p372 q372
 obtain rfl : ad358 = ad372 := (by injection e372)
 replace p372 := eq_true p372
 replace q372 := eq_true q372
 refine start_ (n := 29) (S := fun w' => w'.cell? ⟨gb337, 0, none⟩ = some (u338000) ∧ w'.cell? ⟨gb368, 0, none⟩ = some (.int .i64 t359) ∧ w'.cell? ⟨gb368, 1, none⟩ = some (.int .i64 t360) ∧ w'.cell? ⟨gb368, 2, none⟩ = some (.int .i64 t361) ∧ w'.cell? ⟨gb368, 3, none⟩ = some (.int .i64 t362) ∧ w'.cell? ⟨gb368, 4, none⟩ = some (.int .i64 t363) ∧ w'.cell? ⟨gb368, 5, none⟩ = some (.int .i64 t364) ∧ w'.cell? ⟨gb368, 6, none⟩ = some (.string t365) ∧ w'.cell? ⟨gb368, 7, none⟩ = some (.string t366) ∧ w'.cell? ⟨gb368, 8, none⟩ = some (.string t367) ∧ w'.cell? (ad358.add (x9_2).toNat) = some (.int .i64 (rd x4_1 x9_2)) ∧ w'.cell? (ad358.add (x9_2).toNat) = some (.int .i64 (rd x4_1 x9_2)) ∧ w'.cell? (ad358.add (x9_2).toNat) = some (.int .i64 (rd x4_1 x9_2))) (ds := [26, 28]) (fb 29 0) (by kernel_rfl) rfl rfl ⟨bc BK337 0, bc BK368 0, bc BK368 1, bc BK368 2, bc BK368 3, bc BK368 4, bc BK368 5, bc BK368 6, bc BK368 7, bc BK368 8, hx369_0, hx370_0, hx372_0⟩ (fun hHeld => ?_); refine with_tabW spec_StateOf.tab16 spec_StateOf.bits16 (fun HT_ HW_ => ?_)
 generalize w64.drew = w65 at HO_4 HO_338000 BK336 BK337 BK368 HB hx369_0 hx370_0 hx372_0 hHeld ⊢
 refine pu 0 58 (fb 29 1) HT_ ?_
 refine pu 2 60 (fb 29 5) HT_ ?_
 refine pu 3 61 (fb 29 13) HT_ ?_
 refine pu 4 62 (fb 29 29) HT_ ?_
 refine pu 6 64 (fb 29 93) HT_ ?_
 refine pu 7 65 (fb 29 221) HT_ ?_
 refine pu 9 67 (fb 29 733) HT_ ?_
 refine pu 10 68 (fb 29 1757) HT_ ?_
 refine pu 12 70 (fb 29 5853) HT_ ?_
 refine pu 13 71 (fb 29 14045) HT_ ?_
 refine pu 14 72 (fb 29 30429) HT_ ?_
 refine pu 15 73 (fb 29 63197) HT_ ?_
 refine pu 18 76 (fb 29 325341) HT_ ?_
 refine pu 19 77 (fb 29 849629) HT_ ?_
 refine pu 20 78 (fb 29 1898205) HT_ ?_
 refine pu 21 79 (fb 29 3995357) HT_ ?_
 refine tk 1 59 (fb 29 3995359) HT_ HW_ hHeld ?_
 refine tk 5 63 (fb 29 3995391) HT_ HW_ hHeld ?_
 refine tk 8 66 (fb 29 3995647) HT_ HW_ hHeld ?_
 refine tk 11 69 (fb 29 3997695) HT_ HW_ hHeld ?_
 refine tk 16 74 (fb 29 4063231) HT_ HW_ hHeld ?_
 refine tk 22 80 (fb 29 8257535) HT_ HW_ hHeld ?_
 refine on 17 (some 75) (fb 29 8388607) HT_ (fun K hK => ?_)
 refine gs Try.func83 #[.slice A0 l0.length c0, .int .i64 (rd x4_1 x9_2)] ?_
 with_reducible refine (spec_l07Next.calls k2 _ _ l0 (rd x4_1 x9_2) t371 _ ?side1 ?side2 A55.out).mono ?_
 (case side1 => exact cG (Kd.C_below HR0.out HB.out))
 (case side2 => exact HC0.out)
 rintro e w66 ⟨rfl, hb⟩
 have HS10_ := (hb.cell (World.block_lt_of_cell? _ _ (hHeld.2.2.2.2.2.2.2.2.2.2.1))).trans (hHeld.2.2.2.2.2.2.2.2.2.2.1)
 have HS11_ := (hb.cell (World.block_lt_of_cell? _ _ (hHeld.2.2.2.2.2.2.2.2.2.2.2.1))).trans (hHeld.2.2.2.2.2.2.2.2.2.2.2.1)
 have HS12_ := (hb.cell (World.block_lt_of_cell? _ _ (hHeld.2.2.2.2.2.2.2.2.2.2.2.2))).trans (hHeld.2.2.2.2.2.2.2.2.2.2.2.2)
 refine ⟨_, rfl, ?_⟩
 replace HO_4 := rB HO_4 hb
 replace HO_338000 := sB HO_338000 hb
 replace BK336 := bB BK336 hb
 replace BK337 := bB BK337 hb
 replace BK368 := bB BK368 hb
 replace HB := ak (below_step (lT HB (gC GE336 (gC GE337 (gC GE368 gN)))) hb)
 try clear hb hk
 refine hK.out _ _ ⟨bc BK337 0, bc BK368 0, bc BK368 1, bc BK368 2, bc BK368 3, bc BK368 4, bc BK368 5, bc BK368 6, bc BK368 7, bc BK368 8, HS10_, HS11_, HS12_⟩ (fun hHeld => ?_)
 clear hK K
 refine nm ?_
 refine on 23 (some 81) (fb 29 16777215) HT_ (fun K hK => ?_)
 refine gs Try.func84 #[.slice A0 l0.length c0, .int .i64 (rd x4_1 x9_2)] ?_
 with_reducible refine (spec_l07Mails.calls k2 _ _ l0 (rd x4_1 x9_2) t373 _ ?side1 ?side2 A56.out).mono ?_
 (case side1 => exact cG (Kd.C_below HR0.out HB.out))
 (case side2 => exact HC0.out)
 rintro e w67 ⟨v374, rfl, ho0, hb⟩
 have HS10_ := (hb.cell (World.block_lt_of_cell? _ _ (hHeld.2.2.2.2.2.2.2.2.2.2.1))).trans (hHeld.2.2.2.2.2.2.2.2.2.2.1)
 have HS11_ := (hb.cell (World.block_lt_of_cell? _ _ (hHeld.2.2.2.2.2.2.2.2.2.2.2.1))).trans (hHeld.2.2.2.2.2.2.2.2.2.2.2.1)
 have HS12_ := (hb.cell (World.block_lt_of_cell? _ _ (hHeld.2.2.2.2.2.2.2.2.2.2.2.2))).trans (hHeld.2.2.2.2.2.2.2.2.2.2.2.2)
 refine ⟨_, rfl, ?_⟩
 replace HO_4 := rB HO_4 hb
 replace HO_338000 := ak (Kd.S_elder' (sG HO_338000) (Kd.R_base ho0) hb)
 replace HO375 := ak (Kd.R_lower ho0 (below_size (lT HB (gC GE336 (gC GE337 (gC GE368 gN))))))
 replace BK336 := bB BK336 hb
 replace BK337 := bB BK337 hb
 replace BK368 := bB BK368 hb
 replace HB := ak (below_step (lT HB (gC GE336 (gC GE337 (gC GE368 gN)))) hb)
 try clear hb hk ho0
 obtain ⟨Ao68, co68, eo68⟩ := Kd.R_slice HO375.out
 (first | subst eo68 | (injection eo68 with f1_ f2_ f3_; have f4_ := f1_.symm; have f5_ := f3_.symm; clear f1_ f2_ f3_; subst f4_; subst f5_))
 refine hK.out _ _ ⟨bc BK337 0, bc BK368 0, bc BK368 1, bc BK368 2, bc BK368 3, bc BK368 4, bc BK368 5, bc BK368 6, bc BK368 7, bc BK368 8, HS10_, HS11_, HS12_⟩ (fun hHeld => ?_)
 clear hK K
 refine nm ?_
 refine pu 24 82 (fb 29 33554431) HT_ ?_
 refine on 25 (some 83) (fb 29 67108863) HT_ (fun K hK => ?_)
 refine value_ (w1 := ?_) (v := ?_) (by rfl) rfl ?_ ?_
 rotate_left 2
 {
 go_simp
 constructor
 {
 rfl
 }
 {
 rfl
 }
 }
 refine hK.out _ _ ⟨(blk_cell (blk_alloc BK337.out _) 0).trans rfl, (blk_cell (blk_alloc BK368.out _) 0).trans rfl, (blk_cell (blk_alloc BK368.out _) 1).trans rfl, (blk_cell (blk_alloc BK368.out _) 2).trans rfl, (blk_cell (blk_alloc BK368.out _) 3).trans rfl, (blk_cell (blk_alloc BK368.out _) 4).trans rfl, (blk_cell (blk_alloc BK368.out _) 5).trans rfl, (blk_cell (blk_alloc BK368.out _) 6).trans rfl, (blk_cell (blk_alloc BK368.out _) 7).trans rfl, (blk_cell (blk_alloc BK368.out _) 8).trans rfl, (World.cell?_alloc_lt _ _ _ (World.block_lt_of_cell? _ _ (hHeld.2.2.2.2.2.2.2.2.2.2.1))).trans (hHeld.2.2.2.2.2.2.2.2.2.2.1), (World.cell?_alloc_lt _ _ _ (World.block_lt_of_cell? _ _ (hHeld.2.2.2.2.2.2.2.2.2.2.2.1))).trans (hHeld.2.2.2.2.2.2.2.2.2.2.2.1), (World.cell?_alloc_lt _ _ _ (World.block_lt_of_cell? _ _ (hHeld.2.2.2.2.2.2.2.2.2.2.2.2))).trans (hHeld.2.2.2.2.2.2.2.2.2.2.2.2)⟩ (fun hHeld => ?_)
 clear hK K
 refine nm ?_
 refine last_ (i := 26) (N := some 84) #[t_,t_,t_,t_,t_,t_,t_,t_,t_,t_,t_,t_,t_,t_,t_,t_,t_,t_,t_,t_,t_,t_,t_,t_,t_,t_,t_,f_,f_] rfl rfl (one_of HT_.out (by kernel_rfl)) (by decide) (fun K hK => ?_)
 refine Kd.S_append_step k66 (w0 := w) w.heap.size (by rfl) (.tmp 59) (.tmp 83) 58 66 (.agg #[(.int .i64 0), (.string ⟨#[]⟩), (.string ⟨#[]⟩), (.int .i64 0), (.slice none 0 0)]) 72 rfl Try.underlying58 info66 rfl (by decide) (by omega) u338000 x338000_2 (⟨rd x4_1 x9_2, t365, t366, t371, t373⟩ : S66) [.int .i64 (rd x4_1 x9_2), .string t365, .string t366, .int .i64 t371, .slice Ao68 t373.length co68] (fun _ => True) (fun k_ => some k_ = (.slice Ao68 t373.length co68 : Value).ownBlock) rfl rfl ?aP (fun k_ hk_ => ((Kd.R_mono (ok' := fun k_ => ((fun _ => True)) k_ ∧ some k_ ≠ (u338000 : Value).ownBlock) (Kd.R_apart' (HO375.out) (Kd.S_typed HO_338000.out) (by decide)) (fun k_ hk => ⟨trivial, hk.2⟩))).1 k_ hk_.symm) ?aF ?aO ?aB ?aS ?aL ?_
 (case aP => exact k66_mkM _ _ _ (⟨rd x4_1 x9_2, t365, t366, t371, t373⟩ : S66) (Kd.R_mono (Kd.R_tight rfl (Kd.R_mono (ok' := fun k_ => ((fun _ => True)) k_ ∧ some k_ ≠ (u338000 : Value).ownBlock) (Kd.R_apart' (HO375.out) (Kd.S_typed HO_338000.out) (by decide)) (fun k_ hk => ⟨trivial, hk.2⟩))) (fun _ h_ => h_)))
 (case aB => exact (lT HB (gC GE336 (gC GE337 (gC GE368 gN)))))
 (case aF => exact (fun _ _ => trivial))
 (case aO => exact (by (with_reducible repeat (first | apply Kd.S_alloc | apply Kd.S_drewN | apply Kd.S_drew)); exact Kd.S_mono HO_338000.out (fun k_ hk => ⟨trivial, fun e_ => hk.2 e_⟩)))
 (case aS => exact (below_size (lT HB (gC GE336 (gC GE337 (gC GE368 gN))))))
 (case aL => have := LMc57.out; omega)
 intro v377 w69 ho hb hg hat
 rw [← Ny376.out] at ho
 have n0_ := ak (Kd.R_over' (rG HO_4) (Kd.S_typed (sG HO_338000)) (by decide) hg)
 have n1_ := ak (blk_grown (g := gb336) (o := .cells #[.slice none 0 0] 60 (0, 0)) (bG BK336) hg (Kd.S_ne HO_338000.out BK336.out (by decide)))
 have n2_ := ak (blk_grown (g := gb337) (o := .cells #[u338000] 60 (0, 0)) (bG BK337) hg (Kd.S_ne HO_338000.out BK337.out (by decide)))
 have n3_ := ak (blk_grown (g := gb368) (o := .cells #[.int .i64 t359, .int .i64 t360, .int .i64 t361, .int .i64 t362, .int .i64 t363, .int .i64 t364, .string t365, .string t366, .string t367] 32 (0, 0)) (bG BK368) hg (Kd.S_ne HO_338000.out BK368.out (by decide)))
 have n4_ := ak (hb)
 have n5_ := ak (ho)
 clear HO_4
 clear BK336
 clear BK337
 clear BK368
 clear HB
 clear HO_338000
 clear HO375
 have HO_4 := n0_
 have BK336 := n1_
 have BK337 := n2_
 have BK368 := n3_
 have HB := n4_
 have HO378 := n5_
 clear n0_ n1_ n2_ n3_ n4_ n5_
 clear ho hb hg hat
 obtain ⟨Ao70, co70, eo70⟩ := Kd.S_slice HO378.out
 (first | subst eo70 | (injection eo70 with f1_ f2_ f3_; have f4_ := f1_.symm; have f5_ := f3_.symm; clear f1_ f2_ f3_; subst f4_; subst f5_))
 refine hK.out _ _ ?_
 clear hK K
 refine nm ?_
 refine pu 27 85 (fb 29 268435455) HT_ ?_
 refine last_ (i := 28) (N := none) #[t_,t_,t_,t_,t_,t_,t_,t_,t_,t_,t_,t_,t_,t_,t_,t_,t_,t_,t_,t_,t_,t_,t_,t_,t_,t_,t_,t_,t_] rfl rfl (one_of HT_.out (by kernel_rfl)) (by decide) (fun K hK => ?_)
 have hs71 : w69.cell? ⟨gb337, 0, none⟩ = some (u338000) := bc BK337 0
 have hfs71 := blk_frozen BK337.out 0
 have hns71_0 := NB336_337.out
 have hns71_2 := NB368_337.out
 have hms71_0 := NB337_336.out
 have hms71_2 := NB337_368.out
 refine skip_ (w1 := ?_) (by rfl) rfl ?_ ?_
 rotate_left
 {
 go_simp
 rfl
 }
 refine hK.out _ _ ?_
 clear hK K
 refine done_ (done_of HT_.out (by kernel_rfl)) ?_
 try go_wp2
 go_roundg k2
 case measure => have := HK1.out; have := HK2.out; omega
 case rel => exact ⟨_, _, (.slice Ao70 y376.length co70), rr, H', ⟨by have := HK1.out; have := HK2.out; omega⟩, ⟨by exact Kd.R_mono (rT HO_4 BK337 (by decide)) (fun _ hk => trivial)⟩, ⟨by (with_reducible repeat (first | apply Kd.S_alloc | apply Kd.S_drewN | apply Kd.S_drew)); exact Kd.S_mono (Kd.S_far (p := ⟨gb337, 0, none⟩) (Kd.S_types HO378.out BK337.out (by decide)) (fun _ hk => hk.2) (.slice Ao70 y376.length co70)) (fun _ hk => trivial)⟩, ⟨bF BK336 (nC NB336_337 nN)⟩, ⟨bW BK337⟩, ⟨by exact lT HB (gC GE336 (gC GE337 (gC GE368 gN)))⟩⟩
 }
 {rw [if_neg c57] at H;exact absurd H (by simp)}
 }
 {rw [if_neg c53] at H;exact absurd H (by simp)}
 }
 {
 rw [if_neg c52] at H
 have c52b0 := decide_eq_false c52
 clear c52
 obtain rfl := Option.some.inj H
 obtain ⟨Ao72, co72, eo72⟩ := Kd.R_slice HO_4.out
 subst eo72
 have hnb73 := NB337_336.out
 have hnc73 := NB336_337.out
 obtain ⟨_, _⟩ := bC1 BK337
 obtain ⟨Ao75, co75, eo75⟩ := Kd.S_slice HO_338000.out
 subst eo75
 obtain ⟨_, _⟩ := bC1 BK336
 go_wp2
 refine bodyPost_ret (results_cell_row rfl _ _ gb336 60 #[.slice Ao75 x338000_2.length co75] (0, 0) _ rfl (bW BK336) Try.underlying60 rfl (by kernel_rfl)) rfl ?_
 exact ⟨_, ew, by (with_reducible repeat (first | apply Kd.S_alloc | apply Kd.S_drewN | apply Kd.S_drew)); exact Kd.S_mono (Kd.S_far (p := ⟨gb336, 0, none⟩) (Kd.S_types HO_338000.out BK336.out (by decide)) (fun _ hk => hk.2) (.slice Ao75 x338000_2.length co75)) (fun _ hk => trivial), by exact lT HB (gC GE336 (gC GE337 gN))⟩
 }
 }
 }
 }
 }
 }
 }
 {
 replace c3 := Bool.eq_false_iff.mpr c3
 subst c3
 rw [if_neg (show ¬ (false = true) by decide)] at H
 obtain rfl := Option.some.inj H
 go_enter Try.func38, Try.ntmps38
 go_wp2_with (first | ((with_reducible refine gate_dst (N := 2) rfl ?_); refine bx 2 #[.slice none 0 0] 60 ?_; intro gb336 hg w77 hbox hb; replace BK336 := ak (hbox); replace GE336 := ak (bz hg (lG HB)); replace HB := lB HB hb; clear hb hbox hg) | ((with_reducible refine gate_dst (N := 3) rfl ?_); refine bx 3 #[.slice none 0 0] 60 ?_; intro gb337 hg w78 hbox hb; replace BK337 := ak (hbox); replace GW337 := ak (bz hg (lT HB (gC GE336 gN))); replace GE337 := ak (bz hg (lT HB (gC GE336 gN))); replace HB := ak (below_step (lT HB (gC GE336 gN)) hb); replace NB336_337 := ak (nl hg (bG BK336)); replace NB337_336 := ak (ng hg (bG BK336)); replace BK336 := bB BK336 hb; clear hb hbox hg; have hnb79 := NB337_336.out; have hnc79 := NB336_337.out; obtain ⟨_, _⟩ := bC1 BK337) | ((with_reducible refine gate_callee (f := 19) rfl ?_); refine gl (some 13) Try.func19 #[.slice A0 l0.length c0] ?_; (with_reducible refine (spec_ItemsOk.calls k _ _ l0 _ _ ?side1 ?side2 A2.out).mono ?_); (case side1 => exact Kd.C_below HR0.out (lT HB (gC GE336 (gC GE337 gN)))); (case side2 => exact HC0.out); rintro e w81 ⟨rfl, hb⟩; refine ⟨_, rfl, ?_⟩; replace BK336 := ak (blk_below (bT BK336 (nC NB336_337 nN)) hb); replace BK337 := ak (blk_below (g := gb337) (o := .cells #[.slice none 0 0] 60 (0, 0)) (bW BK337) hb); replace HB := ak (below_step (lT HB (gC GE336 (gC GE337 gN))) hb); (try clear hb); (try clear hk); obtain ⟨_, _⟩ := bC1 BK337; obtain ⟨_, _⟩ := bC1 BK336))
 refine bodyPost_ret (results_cell_row rfl _ _ gb336 60 #[.slice none 0 0] (0, 0) _ rfl (bW BK336) Try.underlying60 rfl (by kernel_rfl)) rfl ?_
 exact ⟨_, ew, by first | exact Kd.S_nil _ _ _ _ _ | exact Kd.N_nil _ _ _ _ _ | exact Kd.V_nil _ _ _ _ _ | exact Kd.Q_nil _ _ _ _ _ | exact Kd.R_nil _ _ _ _ _, by exact lT HB (gC GE336 (gC GE337 gN))⟩
 }
end Go.Proofs.Ytagkjeldheiejaa.PFnStatesTold
