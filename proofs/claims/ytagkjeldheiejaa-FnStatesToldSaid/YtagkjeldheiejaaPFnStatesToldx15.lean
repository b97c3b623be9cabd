-- printed
import Derived.Test.YtagkjeldheiejaaPFnStatesToldx12
import Derived.Test.YtagkjeldheiejaaVFnStatesTold1
namespace Go.Proofs.Ytagkjeldheiejaa.PFnStatesTold
open Go.RowKit YtagkjeldheiejaaW.PrintWords YtagkjeldheiejaaW.PrintLast YtagkjeldheiejaaW.PrintMore
set_option linter.unusedVariables false
set_option linter.unusedSimpArgs false
attribute [local go_sem] max2_int min2_int max_two min_two max_three min_three max_four min_four
set_option maxHeartbeats 8000000
set_option maxRecDepth 100000
mutual
def spec_l07Mails.l0 : Nat → List (S32) → Int → List Int → Int → Option ((List (S68)))
 | 0, _, _, _, _ => none
 | k + 1, a, b, c, d => if d < (a.length : Int) then (if 0 ≤ d then ((spec_l07Best.f k a 5 b ((rd_T32 a d).f1.f2)).bind fun bt287 => (if ((rd_T32 a d).f1.f0) = 3 then (if ((rd_T32 a d).f1.f1) = b then (if bt287.2.2.2.2.2.2.2.2.2 = true then (spec_l07Mails.l0 k a b c (wrap64 (d + 1))) else ((spec_l07Sorted.f k c ((rd_T32 a d).f1.f2)).bind fun t298 => (spec_l07Mails.l0 k a b t298 (wrap64 (d + 1))))) else (spec_l07Mails.l0 k a b c (wrap64 (d + 1)))) else (spec_l07Mails.l0 k a b c (wrap64 (d + 1))))) else (none)) else (spec_l07Mails.l1 k a b c (([] : List (S68))) 0)
def spec_l07Mails.l1 : Nat → List (S32) → Int → List Int → List (S68) → Int → Option ((List (S68)))
 | 0, _, _, _, _, _ => none
 | k + 1, a, b, c, d, e => if e < (c.length : Int) then (if 0 ≤ e then ((spec_l07Best.f k a 3 b (rd c e)).bind fun bt305 => ((spec_l07Best.f k a 4 b (rd c e)).bind fun bt319 => (if bt319.2.2.2.2.2.2.2.2.2 = true then (if d.length < 4398046511104 then (spec_l07Mails.l1 k a b c (d ++ [(⟨rd c e, bt319.2.2.2.2.2.1, bt305.2.2.2.2.2.2.2.2.1⟩ : S68)]) (wrap64 (e + 1))) else (none)) else (if d.length < 4398046511104 then (spec_l07Mails.l1 k a b c (d ++ [(⟨rd c e, bt305.2.2.2.2.2.1, bt305.2.2.2.2.2.2.2.2.1⟩ : S68)]) (wrap64 (e + 1))) else (none))))) else (none)) else (some d)
end
def spec_l07Mails.f (k : Nat) (l0 : List (S32)) (a1 : Int) : Option ((List (S68))) := spec_l07Mails.l0 k l0 a1 (([] : List Int)) 0
theorem spec_l07Mails.mono_l : ∀ k, (∀ y0 y1 y2 y3, LeO (spec_l07Mails.l0 k y0 y1 y2 y3) (spec_l07Mails.l0 (k + 1) y0 y1 y2 y3)) ∧ (∀ y0 y1 y2 y3 y4, LeO (spec_l07Mails.l1 k y0 y1 y2 y3 y4) (spec_l07Mails.l1 (k + 1) y0 y1 y2 y3 y4))
 | 0 => ⟨fun _ _ _ _ r h => by simp [spec_l07Mails.l0] at h, fun _ _ _ _ _ r h => by simp [spec_l07Mails.l1] at h⟩
 | k + 1 => by
  obtain ⟨ih0, ih1⟩ := spec_l07Mails.mono_l k
  refine ⟨?_, ?_⟩
  intro y0 y1 y2 y3;unfold spec_l07Mails.l0;rotate_left
  intro y0 y1 y2 y3 y4;unfold spec_l07Mails.l1;rotate_left
  all_goals repeat' with_reducible first | exact ih0 _ _ _ _ | exact ih1 _ _ _ _ _ | exact spec_l07Best.mono _ _ _ _ _ | exact spec_l07Sorted.mono _ _ _ | exact LeO.refl _ | exact LeO.none _ | refine LeO.ite ?_ ?_ | refine LeO.bind ?_ (fun _ => ?_)
theorem spec_l07Mails.mono : ∀ a0 a1 k, LeO (spec_l07Mails.f k a0 a1) (spec_l07Mails.f (k + 1) a0 a1) := by
 intro a0 a1 k
 obtain ⟨ih0, ih1⟩ := spec_l07Mails.mono_l k
 unfold spec_l07Mails.f
 repeat' with_reducible first | exact ih0 _ _ _ _ | exact ih1 _ _ _ _ _ | exact spec_l07Best.mono _ _ _ _ _ | exact spec_l07Sorted.mono _ _ _ | exact LeO.refl _ | exact LeO.none _ | refine LeO.ite ?_ ?_ | refine LeO.bind ?_ (fun _ => ?_)
def spec_l07Mails.T14 : Bool × List (List Nat × List Nat) := (true, [([], []), ([], []), ([0, 1], [0, 1]), ([2], [2]), ([], []), ([4], [4]), ([5], [5]), ([], []), ([7], [7]), ([8], [8]), ([3, 6, 9], [3, 6, 9]), ([], []), ([11, 10, 0, 1, 2, 3, 4, 5, 6, 7, 8, 9, 10, 11], [10, 11])])
def spec_l07Mails.B14 : List Nat := [0, 0, 3, 7, 0, 16, 48, 0, 128, 384, 1023, 0, 4095]
theorem spec_l07Mails.tab14 : rtab .any (opsOf Try.f84 14) = spec_l07Mails.T14 := by kernel_rfl
theorem spec_l07Mails.bits14 : waitsOk spec_l07Mails.T14.2 spec_l07Mails.B14 = true := by kernel_rfl
theorem spec_l07Mails.calls (k : Nat) (A0 : Option Addr) (c0 : Nat) (l0 : List (S32)) (a1 : Int) (r : List (S68)) (w : World) (hr0 : Kd.C k32 w A0 l0.length l0) (hc0 : l0.length ≤ c0) (h : spec_l07Mails.f k l0 a1 = some r) :
  Calls Try.prog 84 #[.slice A0 l0.length c0, .int .i64 a1] w fun e w' => ∃ v0_ : Value, e = .returned (v0_) ∧ Kd.R k68 68 w' w.heap.size (fun _ => True) v0_ r ∧ Below w.heap.size w w' := by
 have hu23 := Try.underlying23
 have hu32 := Try.underlying32
 have hu68 := Try.underlying68
 have HR0 := Aside0.mk hr0
 have HC0 := Aside0.mk hc0
 clear hr0 hc0
 have HB := ak (Below.refl w.heap.size w)
 have H := h
 clear h
 unfold spec_l07Mails.f at H
 obtain ⟨y282, hy282⟩ : ∃ y_ : List Int, y_ = (([] : List Int)) := ⟨_, rfl⟩
 replace H : (spec_l07Mails.l0 k l0 a1 y282 0) = some r := by first | (rw [hy282]; with_reducible exact H) | (have H2_ := (Option.bind_some _ _).symm.trans H; rw [hy282]; with_reducible exact H2_) | (have H2_ := (Option.bind_some _ _).symm.trans H; with_reducible exact H2_) | with_reducible exact H | (rw [hy282]; exact H) | exact H
 have Ny282 := Aside0.mk hy282
 clear hy282
 have H' := Aside0.mk H
 clear H
 go_enter Try.func84, Try.ntmps84
 go_wp2_with ((with_reducible refine gate_dst (N := 17) rfl ?_); refine Kd.R_lit (Kd.int .i64) _ 3 ?hg (N := 17) ?hd (xs := ([] : List Int)) (inner := []) (ok := fun _ => True) (okp := fun _ => True) ?hr ?hp (fun _ hk => hk) trivial (Below.refl _ _) (Nat.le_refl _) (by simp) ?_; (case hd => rfl); (case hg => rfl); (case hr => first | (go_simp; done) | (go_simp; rfl)); (case hp => exact (Reps.none _ _)); intro v283 w3 ho4 hb hg_ hnew_; clear hg_ hnew_; (first | rw [← Ny282.out] at ho4 | (simp only [Int.reduceToNat] at ho4; rw [← Ny282.out] at ho4)); replace HO284 := ak (Kd.R_lower ho4 (below_size (lG HB))); replace HB := lB HB hb; clear hb ho4)
 go_loopg [5, 6] k (fun kq v5 v6 w' => ∃ (x5_1 : List Int) (x6_1 : Int), v6 = .int .i64 x6_1 ∧ Aside0 (spec_l07Mails.l0 kq l0 a1 x5_1 x6_1 = some r) ∧ Aside0 (kq ≤ k) ∧ Aside0 (Kd.R (Kd.int .i64) 3 w' w.heap.size (fun _ => True) v5 x5_1) ∧ Aside0 (Below w.heap.size w w'))
 case atStart => exact ⟨_, _, rr, H', ⟨Nat.le_refl _⟩, ⟨by (with_reducible repeat (first | apply Kd.R_alloc | apply Kd.R_drewN | apply Kd.R_drew)); exact HO284.out⟩, ⟨by exact lG HB⟩⟩
 case round =>
  skip;{
 clear H'
 obtain ⟨x5_1, x6_1, rfl, HA, HK1, HO_5, HB⟩ := hrel
 cases gk with
 | zero => exact absurd HA.out (by simp [spec_l07Mails.l0])
 | succ k1 =>
  skip;{
 have H := HA.out
 clear HA
 simp only [spec_l07Mails.l0] at H
 by_cases c5 : x6_1 < (l0.length : Int)
 {
 rw [if_pos c5] at H
 have c5b0 := decide_eq_true c5
 clear c5
 by_cases c6 : 0 ≤ x6_1
 {
 rw [if_pos c6] at H
 have c6b0 := decide_eq_true c6
 clear c6
 obtain ⟨⟨t287, t288, t289, t290, t291, t292, t293, t294, t295, t296⟩, A7, H⟩ := eb H
 try dsimp only at H
 have HS_ := Aside0.mk H
 clear H
 have p285 : 0 ≤ (x6_1 : Int) := oda
 have q285 : x6_1 < (l0.length : Int) := oda
 obtain ⟨ad285, e285, hx285_0, hx285_1, hx285_2, hx285_3, hx285_4, hx285_5, hx285_6, hx285_7, hx285_8⟩ := at_T32 HR0.out x6_1 p285 q285
 cases e285
 replace hx285_0 := clB HB hx285_0
 replace hx285_1 := clB HB hx285_1
 replace hx285_2 := clB HB hx285_2
 replace hx285_3 := clB HB hx285_3
 replace hx285_4 := clB HB hx285_4
 replace hx285_5 := clB HB hx285_5
 replace hx285_6 := clB HB hx285_6
 replace hx285_7 := clB HB hx285_7
 replace hx285_8 := clB HB hx285_8
 replace p285 := eq_true p285
 replace q285 := eq_true q285
 go_wp2_with (first | ((with_reducible refine gate_dst (N := 7) rfl ?_); refine b8 7 ?_; intro gb286 hg w11 hbox hb; replace HO_5 := rB HO_5 hb; replace BK286 := ak (hbox); replace GE286 := ak (bz hg (lG HB)); replace HB := lB HB hb; clear hb hbox hg; obtain ⟨_, _, _, _, _, _, _, _, _, _, _, _, _, _, _, _⟩ := bC8 BK286) | ((with_reducible refine gate_callee (f := 80) rfl ?_); refine gl (some 34) Try.func80 #[.slice (some ad285) l0.length c0, .int .i64 5, .int .i64 a1, .int .i64 ((rd_T32 l0 x6_1).f1.f2)] ?_; (with_reducible refine (spec_l07Best.calls k1 _ _ l0 5 a1 ((rd_T32 l0 x6_1).f1.f2) _ _ _ _ _ _ _ _ _ _ _ ?side1 ?side2 A7.out).mono ?_); (case side1 => exact Kd.C_below HR0.out (lT HB (gC GE286 gN))); (case side2 => exact HC0.out); rintro e w13 ⟨rfl, hb⟩; refine ⟨_, rfl, ?_⟩; replace HO_5 := ak (Kd.R_below (rT HO_5 BK286 (by decide)) hb); replace BK286 := ak (blk_below (g := gb286) (o := .cells #[.int .i64 ((rd_T32 l0 x6_1).f1.f0), .int .i64 ((rd_T32 l0 x6_1).f1.f1), .int .i64 ((rd_T32 l0 x6_1).f1.f2), .int .i64 ((rd_T32 l0 x6_1).f1.f3), .int .i64 ((rd_T32 l0 x6_1).f1.f4), .string ((rd_T32 l0 x6_1).f1.f5), .string ((rd_T32 l0 x6_1).f1.f6), .string ((rd_T32 l0 x6_1).f1.f7)] 23 (0, 0)) (bW BK286) hb); replace HB := ak (below_step (lT HB (gC GE286 gN)) hb); (try clear hb); (try clear hk); refine Stop.out ?_))
 have H := HS_.out
 clear HS_
 by_cases c8 : ((rd_T32 l0 x6_1).f1.f0) = 3
 {
 rw [if_pos c8] at H
 have c8b0 := beq_iff_eq.mpr c8
 have c8b1 := bne_eq_false_iff_eq.mpr c8
 clear c8
 by_cases c9 : ((rd_T32 l0 x6_1).f1.f1) = a1
 {
 rw [if_pos c9] at H
 have c9b0 := beq_iff_eq.mpr c9
 have c9b1 := bne_eq_false_iff_eq.mpr c9
 clear c9
 by_cases c10 : t296 = true
 {
 subst c10
 rw [if_pos rfl] at H
 have H' := Aside0.mk H
 clear H
 refine ⟨?_⟩
 go_wp2_with ((with_reducible refine gate_dst (N := 8) rfl ?_); refine b9 8 ?_; intro gb297 hg w14 hbox hb; replace HO_5 := rB HO_5 hb; replace BK297 := ak (hbox); replace GW297 := ak (bz hg (lT HB (gC GE286 gN))); replace GE297 := ak (bz hg (lT HB (gC GE286 gN))); replace HB := ak (below_step (lT HB (gC GE286 gN)) hb); replace NB286_297 := ak (nl hg (bG BK286)); replace NB297_286 := ak (ng hg (bG BK286)); replace BK286 := bB BK286 hb; clear hb hbox hg; have hnb15 := NB297_286.out; have hnc15 := NB286_297.out; obtain ⟨_, _, _, _, _, _, _, _, _, _, _, _, _, _, _, _, _, _⟩ := bC9 BK297; obtain ⟨_, _, _, _, _, _, _, _, _, _, _, _, _, _, _, _⟩ := bC8 BK286)
 go_roundg k1
 case measure => have := HK1.out; omega
 case rel => exact ⟨_, _, rr, H', ⟨by have := HK1.out; omega⟩, ⟨by exact Kd.R_mono (rT HO_5 BK297 (by decide)) (fun _ hk => trivial)⟩, ⟨by exact lT HB (gC GE286 (gC GE297 gN))⟩⟩
 }
 {
 replace c10 := Bool.eq_false_iff.mpr c10
 subst c10
 rw [if_neg (show ¬ (false = true) by decide)] at H
 obtain ⟨t298, A18, H⟩ := eb H
 try dsimp only at H
 have H' := Aside0.mk H
 clear H
 refine ⟨?_⟩
 go_wp2_with (first | ((with_reducible refine gate_dst (N := 8) rfl ?_); refine b9 8 ?_; intro gb297 hg w22 hbox hb; replace HO_5 := rB HO_5 hb; replace BK297 := ak (hbox); replace GW297 := ak (bz hg (lT HB (gC GE286 gN))); replace GE297 := ak (bz hg (lT HB (gC GE286 gN))); replace HB := ak (below_step (lT HB (gC GE286 gN)) hb); replace NB286_297 := ak (nl hg (bG BK286)); replace NB297_286 := ak (ng hg (bG BK286)); replace BK286 := bB BK286 hb; clear hb hbox hg; have hnb23 := NB297_286.out; have hnc23 := NB286_297.out; obtain ⟨_, _, _, _, _, _, _, _, _, _, _, _, _, _, _, _, _, _⟩ := bC9 BK297; obtain ⟨_, _, _, _, _, _, _, _, _, _, _, _, _, _, _, _⟩ := bC8 BK286; obtain ⟨Ao26, co26, eo26⟩ := Kd.R_slice HO_5.out; subst eo26) | ((with_reducible refine gate_callee (f := 81) rfl ?_); refine gl (some 53) Try.func81 #[.slice Ao26 x5_1.length co26, .int .i64 ((rd_T32 l0 x6_1).f1.f2)] ?_; (with_reducible refine (spec_l07Sorted.calls k1 _ _ x5_1 ((rd_T32 l0 x6_1).f1.f2) t298 _ ?side1 ?side2 A18.out).mono ?_); (case side1 => exact (Kd.R_reads' (rT HO_5 BK297 (by decide))).2.2); (case side2 => exact (Kd.R_reads' HO_5.out).2.1); rintro e w27 ⟨v299, rfl, ho0, hb⟩; refine ⟨_, rfl, ?_⟩; replace HO300 := ak (Kd.R_lower (Kd.R_new' ho0 (Kd.R_lt (rT HO_5 BK297 (by decide)))) (below_size (lT HB (gC GE286 (gC GE297 gN))))); replace HO_5 := ak (Kd.R_elder' (rT HO_5 BK297 (by decide)) (Kd.R_base ho0) hb); replace BK286 := ak (blk_below (bT BK286 (nC NB286_297 nN)) hb); replace BK297 := ak (blk_below (g := gb297) (o := .cells #[.int .i64 t287, .int .i64 t288, .int .i64 t289, .int .i64 t290, .int .i64 t291, .int .i64 t292, .string t293, .string t294, .string t295] 32 (0, 0)) (bW BK297) hb); replace HB := ak (below_step (lT HB (gC GE286 (gC GE297 gN))) hb); (try clear hb); (try clear hk); (try clear ho0)))
 go_roundg k1
 case measure => have := HK1.out; omega
 case rel => exact ⟨_, _, rr, H', ⟨by have := HK1.out; omega⟩, ⟨by (with_reducible repeat (first | apply Kd.R_alloc | apply Kd.R_drewN | apply Kd.R_drew)); exact Kd.R_mono HO300.out (fun _ hk => trivial)⟩, ⟨by exact lT HB (gC GE286 (gC GE297 gN))⟩⟩
 }
 }
 {
 rw [if_neg c9] at H
 have c9b0 := beq_eq_false_iff_ne.mpr c9
 have c9b1 := bne_iff_ne.mpr c9
 have H' := Aside0.mk H
 clear H
 refine ⟨?_⟩
 go_wp2_with ((with_reducible refine gate_dst (N := 8) rfl ?_); refine b9 8 ?_; intro gb297 hg w31 hbox hb; replace HO_5 := rB HO_5 hb; replace BK297 := ak (hbox); replace GW297 := ak (bz hg (lT HB (gC GE286 gN))); replace GE297 := ak (bz hg (lT HB (gC GE286 gN))); replace HB := ak (below_step (lT HB (gC GE286 gN)) hb); replace NB286_297 := ak (nl hg (bG BK286)); replace NB297_286 := ak (ng hg (bG BK286)); replace BK286 := bB BK286 hb; clear hb hbox hg; have hnb32 := NB297_286.out; have hnc32 := NB286_297.out; obtain ⟨_, _, _, _, _, _, _, _, _, _, _, _, _, _, _, _, _, _⟩ := bC9 BK297; obtain ⟨_, _, _, _, _, _, _, _, _, _, _, _, _, _, _, _⟩ := bC8 BK286)
 go_roundg k1
 case measure => have := HK1.out; omega
 case rel => exact ⟨_, _, rr, H', ⟨by have := HK1.out; omega⟩, ⟨by exact Kd.R_mono (rT HO_5 BK297 (by decide)) (fun _ hk => trivial)⟩, ⟨by exact lT HB (gC GE286 (gC GE297 gN))⟩⟩
 }
 }
 {
 rw [if_neg c8] at H
 have c8b0 := beq_eq_false_iff_ne.mpr c8
 have c8b1 := bne_iff_ne.mpr c8
 have H' := Aside0.mk H
 clear H
 refine ⟨?_⟩
 go_wp2_with ((with_reducible refine gate_dst (N := 8) rfl ?_); refine b9 8 ?_; intro gb297 hg w38 hbox hb; replace HO_5 := rB HO_5 hb; replace BK297 := ak (hbox); replace GW297 := ak (bz hg (lT HB (gC GE286 gN))); replace GE297 := ak (bz hg (lT HB (gC GE286 gN))); replace HB := ak (below_step (lT HB (gC GE286 gN)) hb); replace NB286_297 := ak (nl hg (bG BK286)); replace NB297_286 := ak (ng hg (bG BK286)); replace BK286 := bB BK286 hb; clear hb hbox hg; have hnb39 := NB297_286.out; have hnc39 := NB286_297.out; obtain ⟨_, _, _, _, _, _, _, _, _, _, _, _, _, _, _, _, _, _⟩ := bC9 BK297; obtain ⟨_, _, _, _, _, _, _, _, _, _, _, _, _, _, _, _⟩ := bC8 BK286)
 go_roundg k1
 case measure => have := HK1.out; omega
 case rel => exact ⟨_, _, rr, H', ⟨by have := HK1.out; omega⟩, ⟨by exact Kd.R_mono (rT HO_5 BK297 (by decide)) (fun _ hk => trivial)⟩, ⟨by exact lT HB (gC GE286 (gC GE297 gN))⟩⟩
 }
 }
 {rw [if_neg c6] at H;exact absurd H (by simp)}
 }
 {
 rw [if_neg c5] at H
 have c5b0 := decide_eq_false c5
 clear c5
 obtain ⟨y301, hy301⟩ : ∃ y_ : List (S68), y_ = (([] : List (S68))) := ⟨_, rfl⟩
 replace H : (spec_l07Mails.l1 k1 l0 a1 x5_1 y301 0) = some r := by first | (rw [hy301]; with_reducible exact H) | (have H2_ := (Option.bind_some _ _).symm.trans H; rw [hy301]; with_reducible exact H2_) | (have H2_ := (Option.bind_some _ _).symm.trans H; with_reducible exact H2_) | with_reducible exact H | (rw [hy301]; exact H) | exact H
 have Ny301 := Aside0.mk hy301
 clear hy301
 have H' := Aside0.mk H
 clear H
 go_wp2_with ((with_reducible refine gate_dst (N := 54) rfl ?_); refine Kd.R_lit k68 _ 68 ?hg (N := 54) ?hd (xs := ([] : List (S68))) (inner := []) (ok := fun _ => True) (okp := fun _ => True) ?hr ?hp (fun _ hk => hk) trivial (Below.refl _ _) (Nat.le_refl _) (by simp) ?_; (case hd => rfl); (case hg => rfl); (case hr => first | (go_simp; done) | (go_simp; rfl)); (case hp => exact (Reps.none _ _)); intro v302 w42 ho43 hb hg_ hnew_; clear hg_ hnew_; (first | rw [← Ny301.out] at ho43 | (simp only [Int.reduceToNat] at ho43; rw [← Ny301.out] at ho43)); replace HO_5 := rB HO_5 hb; replace HO303 := ak (Kd.R_lower ho43 (below_size (lG HB))); replace HB := lB HB hb; clear hb ho43)
 go_loopg [10, 11] k1 (fun kq v10 v11 w' => ∃ (x10_2 : List (S68)) (x11_2 : Int), v11 = .int .i64 x11_2 ∧ Aside0 (spec_l07Mails.l1 kq l0 a1 x5_1 x10_2 x11_2 = some r) ∧ Aside0 (kq ≤ k1) ∧ Aside0 (Kd.R (Kd.int .i64) 3 w' w.heap.size (fun _ => True) u5 x5_1) ∧ Aside0 (Kd.R k68 68 w' w.heap.size (fun _ => True) v10 x10_2) ∧ Aside0 (Below w.heap.size w w'))
 case atStart => exact ⟨_, _, rr, H', ⟨Nat.le_refl _⟩, ⟨by (with_reducible repeat (first | apply Kd.R_alloc | apply Kd.R_drewN | apply Kd.R_drew)); exact HO_5.out⟩, ⟨by (with_reducible repeat (first | apply Kd.R_alloc | apply Kd.R_drewN | apply Kd.R_drew)); exact HO303.out⟩, ⟨by exact lG HB⟩⟩
 case round =>
  skip;{
 clear H'
 try clear c5 c5b0
 obtain ⟨x10_2, x11_2, rfl, HA, HK2, HO_5, HO_10, HB⟩ := hrel
 cases gk with
 | zero => exact absurd HA.out (by simp [spec_l07Mails.l1])
 | succ k2 =>
  skip;{
 have H := HA.out
 clear HA
 simp only [spec_l07Mails.l1] at H
 by_cases c44 : x11_2 < (x5_1.length : Int)
 {
 rw [if_pos c44] at H
 have c44b0 := decide_eq_true c44
 clear c44
 by_cases c45 : 0 ≤ x11_2
 {
 rw [if_pos c45] at H
 have c45b0 := decide_eq_true c45
 clear c45
 obtain ⟨⟨t305, t306, t307, t308, t309, t310, t311, t312, t313, t314⟩, A46, H⟩ := eb H
 try dsimp only at H
 have HS_ := Aside0.mk H
 clear H
 obtain ⟨Ao50, co50, eo50⟩ := Kd.R_slice HO_5.out
 subst eo50
 have p304 : 0 ≤ (x11_2 : Int) := oda
 have q304 : x11_2 < (x5_1.length : Int) := oda
 obtain ⟨ad304, e304, hx304_0⟩ := Kd.at_int (Kd.R_reads' HO_5.out).2.2 x11_2 p304 q304
 cases e304
 replace p304 := eq_true p304
 replace q304 := eq_true q304
 go_wp2_with ((with_reducible refine gate_callee (f := 80) rfl ?_); refine gl (some 68) Try.func80 #[.slice A0 l0.length c0, .int .i64 3, .int .i64 a1, .int .i64 (rd x5_1 x11_2)] ?_; (with_reducible refine (spec_l07Best.calls k2 _ _ l0 3 a1 (rd x5_1 x11_2) _ _ _ _ _ _ _ _ _ _ _ ?side1 ?side2 A46.out).mono ?_); (case side1 => exact cG (Kd.C_below HR0.out HB.out)); (case side2 => exact HC0.out); rintro e w51 ⟨rfl, hb⟩; refine ⟨_, rfl, ?_⟩; replace HO_5 := rB HO_5 hb; replace HO_10 := rB HO_10 hb; replace HB := lB HB hb; (try clear hb); (try clear hk); refine Stop.out ?_)
 have H := HS_.out
 clear HS_
 obtain ⟨⟨t319, t320, t321, t322, t323, t324, t325, t326, t327, t328⟩, A47, H⟩ := eb H
 try dsimp only at H
 by_cases c48 : t328 = true
 {
 subst c48
 rw [if_pos rfl] at H
 by_cases c49 : x10_2.length < 4398046511104
 {
 rw [if_pos c49] at H
 have LMc49 := Aside0.mk c49
 clear c49
 obtain ⟨y330, hy330⟩ : ∃ y_ : List (S68), y_ = (x10_2 ++ [(⟨rd x5_1 x11_2, t324, t313⟩ : S68)]) := ⟨_, rfl⟩
 replace H : (spec_l07Mails.l1 k2 l0 a1 x5_1 y330 (wrap64 (x11_2 + 1))) = some r := by first | (rw [hy330]; with_reducible exact H) | (have H2_ := (Option.bind_some _ _).symm.trans H; rw [hy330]; with_reducible exact H2_) | (have H2_ := (Option.bind_some _ _).symm.trans H; with_reducible exact H2_) | with_reducible exact H | (rw [hy330]; exact H) | exact H
 have Ny330 := Aside0.mk hy330
 clear hy330
 have H' := Aside0.mk H
 clear H
 refine ⟨?_⟩
 try go_wp2_with ((with_reducible refine gate_dst (N := 12) rfl ?_); refine b9 12 ?_; intro gb315 hg w52 hbox hb; replace HO_5 := rB HO_5 hb; replace HO_10 := rB HO_10 hb; replace BK315 := ak (hbox); replace GE315 := ak (bz hg (lG HB)); replace HB := lB HB hb; clear hb hbox hg; obtain ⟨_, _, _, _, _, _, _, _, _, _, _, _, _, _, _, _, _, _⟩ := bC9 BK315)
 obtain ⟨w54, eW_⟩ : ∃ w_, w_ = (((((((((w52.setCell ⟨gb315, 0, none⟩ (.int .i64 t305)).setCell ⟨gb315, 1, none⟩ (.int .i64 t306)).setCell ⟨gb315, 2, none⟩ (.int .i64 t307)).setCell ⟨gb315, 3, none⟩ (.int .i64 t308)).setCell ⟨gb315, 4, none⟩ (.int .i64 t309)).setCell ⟨gb315, 5, none⟩ (.int .i64 t310)).setCell ⟨gb315, 6, none⟩ (.string t311)).setCell ⟨gb315, 7, none⟩ (.string t312)).setCell ⟨gb315, 8, none⟩ (.string t313)) := ⟨_, rfl⟩
 have n0_ : Aside0 (Kd.R (Kd.int .i64) 3 w54 w.heap.size (fun _ => True) (.slice (some ad304) x5_1.length co50) x5_1) := by rw [eW_]; exact ⟨by exact Kd.R_mono (rT HO_5 BK315 (by decide)) (fun _ hk => trivial)⟩
 have n1_ : Aside0 (Kd.R k68 68 w54 w.heap.size (fun _ => True) u10 x10_2) := by rw [eW_]; exact ⟨by exact Kd.R_mono (rT HO_10 BK315 (by decide)) (fun _ hk => trivial)⟩
 have n2_ : Aside0 (w54.heap[gb315]? = some (.cells #[.int .i64 t305, .int .i64 t306, .int .i64 t307, .int .i64 t308, .int .i64 t309, .int .i64 t310, .string t311, .string t312, .string t313] 32 (0, 0))) := by rw [eW_]; exact ⟨bW BK315⟩
 have n3_ : Aside0 (Below w.heap.size w w54) := by rw [eW_]; exact ⟨by exact lT HB (gC GE315 gN)⟩
 try clear HO_5 HO_10 BK315 HB
 rw [← eW_];clear eW_
 have HO_5 := n0_
 have HO_10 := n1_
 have BK315 := n2_
 have HB := n3_
 clear n0_ n1_ n2_ n3_
 replace HO_5 := ak (Kd.R_drew HO_5.out)
 replace HO_10 := ak (Kd.R_drew HO_10.out)
 replace BK315 := ak (blk_drew BK315.out)
 replace HB := ak (below_drew1 HB.out)
 have p316 : 0 ≤ (x11_2 : Int) := oda
 have q316 : x11_2 < (x5_1.length : Int) := oda
 obtain ⟨ad316, e316, hx316_0⟩ := Kd.at_int (Kd.R_reads' HO_5.out).2.2 x11_2 p316 q316
 obtain rfl : ad304 = ad316 := (by injection e316)
 replace p316 := eq_true p316
 replace q316 := eq_true q316
 refine start_ (n := 13) (S := fun w' => w'.cell? ⟨gb315, 0, none⟩ = some (.int .i64 t305) ∧ w'.cell? ⟨gb315, 1, none⟩ = some (.int .i64 t306) ∧ w'.cell? ⟨gb315, 2, none⟩ = some (.int .i64 t307) ∧ w'.cell? ⟨gb315, 3, none⟩ = some (.int .i64 t308) ∧ w'.cell? ⟨gb315, 4, none⟩ = some (.int .i64 t309) ∧ w'.cell? ⟨gb315, 5, none⟩ = some (.int .i64 t310) ∧ w'.cell? ⟨gb315, 6, none⟩ = some (.string t311) ∧ w'.cell? ⟨gb315, 7, none⟩ = some (.string t312) ∧ w'.cell? ⟨gb315, 8, none⟩ = some (.string t313) ∧ w'.cell? (ad304.add (x11_2).toNat) = some (.int .i64 (rd x5_1 x11_2))) (ds := []) (fb 13 0) (by kernel_rfl) rfl rfl ⟨bc BK315 0, bc BK315 1, bc BK315 2, bc BK315 3, bc BK315 4, bc BK315 5, bc BK315 6, bc BK315 7, bc BK315 8, hx316_0⟩ (fun hHeld => ?_); refine with_tabW spec_l07Mails.tab14 spec_l07Mails.bits14 (fun HT_ HW_ => ?_)
 generalize w54.drew = w55 at HO_5 HO_10 BK315 HB hx316_0 hHeld ⊢
 refine pu 0 71 (fb 13 1) HT_ ?_
 refine pu 1 72 (fb 13 3) HT_ ?_
 refine pu 2 73 (fb 13 7) HT_ ?_
 refine pu 4 75 (fb 13 23) HT_ ?_
 refine pu 5 76 (fb 13 55) HT_ ?_
 refine pu 7 78 (fb 13 183) HT_ ?_
 refine pu 8 79 (fb 13 439) HT_ ?_
 refine tk 3 74 (fb 13 447) HT_ HW_ hHeld ?_
 refine tk 6 77 (fb 13 511) HT_ HW_ hHeld ?_
 refine tk 9 80 (fb 13 1023) HT_ HW_ hHeld ?_
 refine pu 10 81 (fb 13 2047) HT_ ?_
 refine on 11 (some 14) (fb 13 4095) HT_ (fun K hK => ?_)
 refine box_step ?hg (N := 14) ?hd (cs := #[.int .i64 0, .int .i64 0, .string (⟨#[]⟩ : ByteArray)]) (t := 68) ?hr ?_; (case hd => rfl); (case hg => rfl); (case hr => first | (go_simp; done) | (go_simp; rfl))
 intro gb317 hg w56 hbox hb
 have HS9_ := (hb.cell (World.block_lt_of_cell? _ _ (hHeld.2.2.2.2.2.2.2.2.2))).trans (hHeld.2.2.2.2.2.2.2.2.2)
 replace HO_5 := rB HO_5 hb
 replace HO_10 := ak (Kd.R_below (Kd.R_elderB (rG HO_10) gb317 (Nat.le_of_eq hg.symm)) hb)
 replace BK317 := ak (hbox)
 replace GW317 := ak (bz hg (lT HB (gC GE315 gN)))
 replace GE317 := ak (bz hg (lT HB (gC GE315 gN)))
 replace HB := ak (below_step (lT HB (gC GE315 gN)) hb)
 replace NB315_317 := ak (nl hg (bG BK315))
 replace NB317_315 := ak (ng hg (bG BK315))
 replace BK315 := bB BK315 hb
 clear hb hbox hg
 refine hK.out _ _ ⟨bc BK315 0, bc BK315 1, bc BK315 2, bc BK315 3, bc BK315 4, bc BK315 5, bc BK315 6, bc BK315 7, bc BK315 8, HS9_⟩ (fun hHeld => ?_)
 clear hK K
 refine nm ?_
 refine on 12 none (fb 13 8191) HT_ (fun K hK => ?_)
 have hs57 : w56.cell? ⟨gb317, 0, none⟩ = some (.int .i64 0) := bc BK317 0
 have hfs57 := blk_frozen BK317.out 0
 have hns57_0 := NB315_317.out
 have hms57_0 := NB317_315.out
 have hs58 : w56.cell? ⟨gb317, 1, none⟩ = some (.int .i64 0) := bc BK317 1
 have hfs58 := blk_frozen BK317.out 1
 have hns58_0 := NB315_317.out
 have hms58_0 := NB317_315.out
 have hs59 : w56.cell? ⟨gb317, 2, none⟩ = some (.string (⟨#[]⟩ : ByteArray)) := bc BK317 2
 have hfs59 := blk_frozen BK317.out 2
 have hns59_0 := NB315_317.out
 have hms59_0 := NB317_315.out
 refine skip_ (w1 := ?_) (by rfl) rfl ?_ ?_
 rotate_left
 {
 go_simp
 rfl
 }
 refine hK.out _ _ ⟨((cell_far (p := ⟨gb317, _, none⟩) NB315_317.out _).trans (((cell_far (p := ⟨gb317, _, none⟩) NB315_317.out _).trans (((cell_far (p := ⟨gb317, _, none⟩) NB315_317.out _).trans (hHeld.1)))))), ((cell_far (p := ⟨gb317, _, none⟩) NB315_317.out _).trans (((cell_far (p := ⟨gb317, _, none⟩) NB315_317.out _).trans (((cell_far (p := ⟨gb317, _, none⟩) NB315_317.out _).trans (hHeld.2.1)))))), ((cell_far (p := ⟨gb317, _, none⟩) NB315_317.out _).trans (((cell_far (p := ⟨gb317, _, none⟩) NB315_317.out _).trans (((cell_far (p := ⟨gb317, _, none⟩) NB315_317.out _).trans (hHeld.2.2.1)))))), ((cell_far (p := ⟨gb317, _, none⟩) NB315_317.out _).trans (((cell_far (p := ⟨gb317, _, none⟩) NB315_317.out _).trans (((cell_far (p := ⟨gb317, _, none⟩) NB315_317.out _).trans (hHeld.2.2.2.1)))))), ((cell_far (p := ⟨gb317, _, none⟩) NB315_317.out _).trans (((cell_far (p := ⟨gb317, _, none⟩) NB315_317.out _).trans (((cell_far (p := ⟨gb317, _, none⟩) NB315_317.out _).trans (hHeld.2.2.2.2.1)))))), ((cell_far (p := ⟨gb317, _, none⟩) NB315_317.out _).trans (((cell_far (p := ⟨gb317, _, none⟩) NB315_317.out _).trans (((cell_far (p := ⟨gb317, _, none⟩) NB315_317.out _).trans (hHeld.2.2.2.2.2.1)))))), ((cell_far (p := ⟨gb317, _, none⟩) NB315_317.out _).trans (((cell_far (p := ⟨gb317, _, none⟩) NB315_317.out _).trans (((cell_far (p := ⟨gb317, _, none⟩) NB315_317.out _).trans (hHeld.2.2.2.2.2.2.1)))))), ((cell_far (p := ⟨gb317, _, none⟩) NB315_317.out _).trans (((cell_far (p := ⟨gb317, _, none⟩) NB315_317.out _).trans (((cell_far (p := ⟨gb317, _, none⟩) NB315_317.out _).trans (hHeld.2.2.2.2.2.2.2.1)))))), ((cell_far (p := ⟨gb317, _, none⟩) NB315_317.out _).trans (((cell_far (p := ⟨gb317, _, none⟩) NB315_317.out _).trans (((cell_far (p := ⟨gb317, _, none⟩) NB315_317.out _).trans (hHeld.2.2.2.2.2.2.2.2.1)))))), ((cell_far (p := ⟨gb317, _, none⟩) (by first | exact Kd.own_blk (Kd.R_ne HO_5.out BK317.out (by decide)) | (rw [add_block]; exact Kd.own_blk (Kd.R_ne HO_5.out BK317.out (by decide))) | (show (Addr.add _ _).block ≠ _; rw [add_block]; exact Kd.own_blk (Kd.R_ne HO_5.out BK317.out (by decide))) | (dsimp only; exact Kd.own_blk (Kd.R_ne HO_5.out BK317.out (by decide)))) _).trans (((cell_far (p := ⟨gb317, _, none⟩) (by first | exact Kd.own_blk (Kd.R_ne HO_5.out BK317.out (by decide)) | (rw [add_block]; exact Kd.own_blk (Kd.R_ne HO_5.out BK317.out (by decide))) | (show (Addr.add _ _).block ≠ _; rw [add_block]; exact Kd.own_blk (Kd.R_ne HO_5.out BK317.out (by decide))) | (dsimp only; exact Kd.own_blk (Kd.R_ne HO_5.out BK317.out (by decide)))) _).trans (((cell_far (p := ⟨gb317, _, none⟩) (by first | exact Kd.own_blk (Kd.R_ne HO_5.out BK317.out (by decide)) | (rw [add_block]; exact Kd.own_blk (Kd.R_ne HO_5.out BK317.out (by decide))) | (show (Addr.add _ _).block ≠ _; rw [add_block]; exact Kd.own_blk (Kd.R_ne HO_5.out BK317.out (by decide))) | (dsimp only; exact Kd.own_blk (Kd.R_ne HO_5.out BK317.out (by decide)))) _).trans (hHeld.2.2.2.2.2.2.2.2.2))))))⟩ (fun hHeld => ?_)
 clear hK K
 refine done_ (done_of HT_.out (by kernel_rfl)) ?_
 have p318 : 0 ≤ (x11_2 : Int) := oda
 have q318 : x11_2 < (x5_1.length : Int) := oda
 obtain ⟨ad318, e318, hx318_0⟩ := Kd.at_int (Kd.R_reads' HO_5.out).2.2 x11_2 p318 q318
 obtain rfl : ad304 = ad318 := (by injection e318)
 have hn318_0 : ad304.block ≠ gb317 := Kd.own_blk (Kd.R_ne HO_5.out BK317.out (by decide))
 have hn318_1 : ad304.block ≠ gb317 := Kd.own_blk (Kd.R_ne HO_5.out BK317.out (by decide))
 have hn318_2 : ad304.block ≠ gb317 := Kd.own_blk (Kd.R_ne HO_5.out BK317.out (by decide))
 replace hx318_0 := cF hx318_0 ⟨gb317, 0, none⟩ (.int .i64 (rd x5_1 x11_2)) (aF hn318_0)
 replace hx318_0 := cF hx318_0 ⟨gb317, 1, none⟩ (.int .i64 t310) (aF hn318_0)
 replace hx318_0 := cF hx318_0 ⟨gb317, 2, none⟩ (.string t313) (aF hn318_0)
 clear hn318_0
 clear hn318_1
 clear hn318_2
 replace p318 := eq_true p318
 replace q318 := eq_true q318
 try go_wp2_with (first | ((with_reducible refine gate_callee (f := 80) rfl ?_); refine gl (some 89) Try.func80 #[.slice A0 l0.length c0, .int .i64 4, .int .i64 a1, .int .i64 (rd x5_1 x11_2)] ?_; (with_reducible refine (spec_l07Best.calls k2 _ _ l0 4 a1 (rd x5_1 x11_2) _ _ _ _ _ _ _ _ _ _ _ ?side1 ?side2 A47.out).mono ?_); (case side1 => exact Kd.C_below HR0.out (lT HB (gC GE315 (gC GE317 gN)))); (case side2 => exact HC0.out); rintro e w60 ⟨rfl, hb⟩; refine ⟨_, rfl, ?_⟩; replace HO_5 := ak (Kd.R_below (rT HO_5 BK317 (by decide)) hb); replace HO_10 := ak (Kd.R_below (by (with_reducible repeat (first | apply Kd.R_alloc | apply Kd.R_drewN | apply Kd.R_drew)); exact (Kd.R_mono (Kd.R_far (p := ⟨gb317, 2, none⟩) (Kd.R_far (p := ⟨gb317, 1, none⟩) (Kd.R_far (p := ⟨gb317, 0, none⟩) (Kd.R_mono HO_10.out (fun k_ hk => (⟨hk, hk.2⟩ : _ ∧ k_ ≠ gb317))) (fun _ hk => hk.2) (.int .i64 (rd x5_1 x11_2))) (fun _ hk => hk.2) (.int .i64 t310)) (fun _ hk => hk.2) (.string t313)) (fun _ h_ => h_.1))) hb); replace BK315 := ak (blk_below (bT BK315 (nC NB315_317 nN)) hb); replace BK317 := ak (blk_below (g := gb317) (o := .cells #[.int .i64 (rd x5_1 x11_2), .int .i64 t310, .string t313] 68 (0, 0)) (bW BK317) hb); replace HB := ak (below_step (lT HB (gC GE315 (gC GE317 gN))) hb); (try clear hb); (try clear hk)) | ((with_reducible refine gate_dst (N := 15) rfl ?_); refine b9 15 ?_; intro gb329 hg w61 hbox hb; replace HO_5 := rB HO_5 hb; replace HO_10 := rB HO_10 hb; replace BK329 := ak (hbox); replace GW329 := ak (bz hg (lT HB (gC GE315 (gC GE317 gN)))); replace GE329 := ak (bz hg (lT HB (gC GE315 (gC GE317 gN)))); replace HB := ak (below_step (lT HB (gC GE315 (gC GE317 gN))) hb); replace NB315_329 := ak (nl hg (bG BK315)); replace NB329_315 := ak (ng hg (bG BK315)); replace BK315 := bB BK315 hb; replace NB317_329 := ak (nl hg (bG BK317)); replace NB329_317 := ak (ng hg (bG BK317)); replace BK317 := bB BK317 hb; clear hb hbox hg; have hnb62 := NB329_315.out; have hnc62 := NB315_329.out; have hnb63 := NB329_317.out; have hnc63 := NB317_329.out; obtain ⟨_, _, _, _, _, _, _, _, _, _, _, _, _, _, _, _, _, _⟩ := bC9 BK329; have hnb65 := NB317_315.out; have hnc65 := NB315_317.out; obtain ⟨_, _, _, _, _, _⟩ := bC3 BK317) | ((with_reducible refine gate_builtin (b := .append) (xs := #[.tmp 97, .tmp 99]) rfl ?_); at_builtin; refine Kd.R_append k68 (w0 := w) w.heap.size rfl (.tmp 97) (.tmp 99) 64 68 (.agg #[(.int .i64 0), (.int .i64 0), (.string ⟨#[]⟩)]) 32 rfl Try.underlying64 info68 rfl (by decide) (by omega) u10 x10_2 (⟨rd x5_1 x11_2, t324, t313⟩ : S68) [.int .i64 (rd x5_1 x11_2), .int .i64 t324, .string t313] (fun k_ => k_ ≠ gb317) (fun _ => False) rfl (by first | (go_simp; done) | (go_simp; rfl)) ?aP (fun _ hk => hk.elim) ?aF ?aO ?aB ?aS ?aL ?_; (case aP => exact k68_mkM _ _ _ (⟨rd x5_1 x11_2, t324, t313⟩ : S68)); (case aB => exact (lT HB (gC GE315 (gC GE317 (gC GE329 gN))))); (case aF => exact (fun k_ hk => Kd.freshB (g := gb317) (o := .cells #[.int .i64 (rd x5_1 x11_2), .int .i64 t324, .string t313] 68 (0, 0)) (bF BK317 (nC NB317_329 nN)) k_ hk)); (case aO => exact (by (with_reducible repeat (first | apply Kd.R_alloc | apply Kd.R_drewN | apply Kd.R_drew)); exact Kd.R_mono (Kd.R_far (p := ⟨gb317, 1, none⟩) (Kd.R_far (p := ⟨gb329, 8, none⟩) (Kd.R_far (p := ⟨gb329, 7, none⟩) (Kd.R_far (p := ⟨gb329, 6, none⟩) (Kd.R_far (p := ⟨gb329, 5, none⟩) (Kd.R_far (p := ⟨gb329, 4, none⟩) (Kd.R_far (p := ⟨gb329, 3, none⟩) (Kd.R_far (p := ⟨gb329, 2, none⟩) (Kd.R_far (p := ⟨gb329, 1, none⟩) (Kd.R_far (p := ⟨gb329, 0, none⟩) (Kd.R_mono (Kd.R_types HO_10.out BK329.out (by decide)) (fun k_ hk => (⟨hk, hk.1.2⟩ : _ ∧ k_ ≠ gb317))) (fun _ hk => hk.1.2) (.int .i64 t319)) (fun _ hk => hk.1.2) (.int .i64 t320)) (fun _ hk => hk.1.2) (.int .i64 t321)) (fun _ hk => hk.1.2) (.int .i64 t322)) (fun _ hk => hk.1.2) (.int .i64 t323)) (fun _ hk => hk.1.2) (.int .i64 t324)) (fun _ hk => hk.1.2) (.string t325)) (fun _ hk => hk.1.2) (.string t326)) (fun _ hk => hk.1.2) (.string t327)) (fun _ hk => hk.2) (.int .i64 t324)) (fun _ hk => hk.1.1.2))); (case aS => exact (below_size (lT HB (gC GE315 (gC GE317 (gC GE329 gN)))))); (case aL => have := LMc49.out; omega); intro v331 w67 ho hb hg hat; rw [← Ny330.out] at ho; have n0_ := ak (Kd.R_over' (by (with_reducible repeat (first | apply Kd.R_alloc | apply Kd.R_drewN | apply Kd.R_drew)); exact (Kd.R_mono (Kd.R_mono (Kd.R_far (p := ⟨gb317, 1, none⟩) (Kd.R_far (p := ⟨gb329, 8, none⟩) (Kd.R_far (p := ⟨gb329, 7, none⟩) (Kd.R_far (p := ⟨gb329, 6, none⟩) (Kd.R_far (p := ⟨gb329, 5, none⟩) (Kd.R_far (p := ⟨gb329, 4, none⟩) (Kd.R_far (p := ⟨gb329, 3, none⟩) (Kd.R_far (p := ⟨gb329, 2, none⟩) (Kd.R_far (p := ⟨gb329, 1, none⟩) (Kd.R_far (p := ⟨gb329, 0, none⟩) (Kd.R_types (Kd.R_types HO_5.out BK329.out (by decide)) BK317.out (by decide)) (fun _ hk => hk.1.2) (.int .i64 t319)) (fun _ hk => hk.1.2) (.int .i64 t320)) (fun _ hk => hk.1.2) (.int .i64 t321)) (fun _ hk => hk.1.2) (.int .i64 t322)) (fun _ hk => hk.1.2) (.int .i64 t323)) (fun _ hk => hk.1.2) (.int .i64 t324)) (fun _ hk => hk.1.2) (.string t325)) (fun _ hk => hk.1.2) (.string t326)) (fun _ hk => hk.1.2) (.string t327)) (fun _ hk => hk.2) (.int .i64 t324)) (fun _ h_ => h_.1)) (fun _ h_ => h_.1))) (Kd.R_typed (by (with_reducible repeat (first | apply Kd.R_alloc | apply Kd.R_drewN | apply Kd.R_drew)); exact (Kd.R_mono (Kd.R_mono (Kd.R_far (p := ⟨gb317, 1, none⟩) (Kd.R_far (p := ⟨gb329, 8, none⟩) (Kd.R_far (p := ⟨gb329, 7, none⟩) (Kd.R_far (p := ⟨gb329, 6, none⟩) (Kd.R_far (p := ⟨gb329, 5, none⟩) (Kd.R_far (p := ⟨gb329, 4, none⟩) (Kd.R_far (p := ⟨gb329, 3, none⟩) (Kd.R_far (p := ⟨gb329, 2, none⟩) (Kd.R_far (p := ⟨gb329, 1, none⟩) (Kd.R_far (p := ⟨gb329, 0, none⟩) (Kd.R_mono (Kd.R_types HO_10.out BK329.out (by decide)) (fun k_ hk => (⟨hk, hk.1.2⟩ : _ ∧ k_ ≠ gb317))) (fun _ hk => hk.1.2) (.int .i64 t319)) (fun _ hk => hk.1.2) (.int .i64 t320)) (fun _ hk => hk.1.2) (.int .i64 t321)) (fun _ hk => hk.1.2) (.int .i64 t322)) (fun _ hk => hk.1.2) (.int .i64 t323)) (fun _ hk => hk.1.2) (.int .i64 t324)) (fun _ hk => hk.1.2) (.string t325)) (fun _ hk => hk.1.2) (.string t326)) (fun _ hk => hk.1.2) (.string t327)) (fun _ hk => hk.2) (.int .i64 t324)) (fun _ h_ => h_.1)) (fun _ h_ => h_.1)))) (by decide) hg); have n1_ := ak (blk_grown (g := gb315) (o := .cells #[.int .i64 t305, .int .i64 t306, .int .i64 t307, .int .i64 t308, .int .i64 t309, .int .i64 t310, .string t311, .string t312, .string t313] 32 (0, 0)) (bT BK315 (nC NB315_317 (nC NB315_329 nN))) hg (Kd.R_ne HO_10.out BK315.out (by decide))); have n2_ := ak (blk_grown (g := gb317) (o := .cells #[.int .i64 (rd x5_1 x11_2), .int .i64 t324, .string t313] 68 (0, 0)) (bF BK317 (nC NB317_329 nN)) hg (Kd.R_away HO_10.out (fun _ hk => hk.2))); have n3_ := ak (blk_grown (g := gb329) (o := .cells #[.int .i64 t319, .int .i64 t320, .int .i64 t321, .int .i64 t322, .int .i64 t323, .int .i64 t324, .string t325, .string t326, .string t327] 32 (0, 0)) (bF BK329 (nC NB329_317 nN)) hg (Kd.R_ne HO_10.out BK329.out (by decide))); have n4_ := ak (hb); have n5_ := ak (ho); clear HO_5; clear BK315; clear BK317; clear BK329; clear HB; clear HO_10; have HO_5 := n0_; have BK315 := n1_; have BK317 := n2_; have BK329 := n3_; have HB := n4_; have HO332 := n5_; clear n0_ n1_ n2_ n3_ n4_ n5_; clear ho hb hg hat))
 go_roundg k2
 case measure => have := HK1.out; have := HK2.out; omega
 case rel => exact ⟨_, _, rr, H', ⟨by have := HK1.out; have := HK2.out; omega⟩, ⟨by (with_reducible repeat (first | apply Kd.R_alloc | apply Kd.R_drewN | apply Kd.R_drew)); exact HO_5.out⟩, ⟨by (with_reducible repeat (first | apply Kd.R_alloc | apply Kd.R_drewN | apply Kd.R_drew)); exact Kd.R_mono HO332.out (fun _ hk => trivial)⟩, ⟨by exact lT HB (gC GE315 (gC GE317 (gC GE329 gN)))⟩⟩
 }
 {rw [if_neg c49] at H;exact absurd H (by simp)}
 }
 {
 replace c48 := Bool.eq_false_iff.mpr c48
 subst c48
 rw [if_neg (show ¬ (false = true) by decide)] at H
 by_cases c68 : x10_2.length < 4398046511104
 {
 rw [if_pos c68] at H
 have LMc68 := Aside0.mk c68
 clear c68
 obtain ⟨y333, hy333⟩ : ∃ y_ : List (S68), y_ = (x10_2 ++ [(⟨rd x5_1 x11_2, t310, t313⟩ : S68)]) := ⟨_, rfl⟩
 replace H : (spec_l07Mails.l1 k2 l0 a1 x5_1 y333 (wrap64 (x11_2 + 1))) = some r := by first | (rw [hy333]; with_reducible exact H) | (have H2_ := (Option.bind_some _ _).symm.trans H; rw [hy333]; with_reducible exact H2_) | (have H2_ := (Option.bind_some _ _).symm.trans H; with_reducible exact H2_) | with_reducible exact H | (rw [hy333]; exact H) | exact H
 have Ny333 := Aside0.mk hy333
 clear hy333
 have H' := Aside0.mk H
 clear H
 refine ⟨?_⟩
 try go_wp2_with ((with_reducible refine gate_dst (N := 12) rfl ?_); refine b9 12 ?_; intro gb315 hg w71 hbox hb; replace HO_5 := rB HO_5 hb; replace HO_10 := rB HO_10 hb; replace BK315 := ak (hbox); replace GE315 := ak (bz hg (lG HB)); replace HB := lB HB hb; clear hb hbox hg; obtain ⟨_, _, _, _, _, _, _, _, _, _, _, _, _, _, _, _, _, _⟩ := bC9 BK315)
 obtain ⟨w73, eW_⟩ : ∃ w_, w_ = (((((((((w71.setCell ⟨gb315, 0, none⟩ (.int .i64 t305)).setCell ⟨gb315, 1, none⟩ (.int .i64 t306)).setCell ⟨gb315, 2, none⟩ (.int .i64 t307)).setCell ⟨gb315, 3, none⟩ (.int .i64 t308)).setCell ⟨gb315, 4, none⟩ (.int .i64 t309)).setCell ⟨gb315, 5, none⟩ (.int .i64 t310)).setCell ⟨gb315, 6, none⟩ (.string t311)).setCell ⟨gb315, 7, none⟩ (.string t312)).setCell ⟨gb315, 8, none⟩ (.string t313)) := ⟨_, rfl⟩
 have n0_ : Aside0 (Kd.R (Kd.int .i64) 3 w73 w.heap.size (fun _ => True) (.slice (some ad304) x5_1.length co50) x5_1) := by rw [eW_]; exact ⟨by exact Kd.R_mono (rT HO_5 BK315 (by decide)) (fun _ hk => trivial)⟩
 have n1_ : Aside0 (Kd.R k68 68 w73 w.heap.size (fun _ => True) u10 x10_2) := by rw [eW_]; exact ⟨by exact Kd.R_mono (rT HO_10 BK315 (by decide)) (fun _ hk => trivial)⟩
 have n2_ : Aside0 (w73.heap[gb315]? = some (.cells #[.int .i64 t305, .int .i64 t306, .int .i64 t307, .int .i64 t308, .int .i64 t309, .int .i64 t310, .string t311, .string t312, .string t313] 32 (0, 0))) := by rw [eW_]; exact ⟨bW BK315⟩
 have n3_ : Aside0 (Below w.heap.size w w73) := by rw [eW_]; exact ⟨by exact lT HB (gC GE315 gN)⟩
 try clear HO_5 HO_10 BK315 HB
 rw [← eW_];clear eW_
 have HO_5 := n0_
 have HO_10 := n1_
 have BK315 := n2_
 have HB := n3_
 clear n0_ n1_ n2_ n3_
 replace HO_5 := ak (Kd.R_drew HO_5.out)
 replace HO_10 := ak (Kd.R_drew HO_10.out)
 replace BK315 := ak (blk_drew BK315.out)
 replace HB := ak (below_drew1 HB.out)
 have p316 : 0 ≤ (x11_2 : Int) := oda
 have q316 : x11_2 < (x5_1.length : Int) := oda
 obtain ⟨ad316, e316, hx316_0⟩ := Kd.at_int (Kd.R_reads' HO_5.out).2.2 x11_2 p316 q316
 obtain rfl : ad304 = ad316 := (by injection e316)
 replace p316 := eq_true p316
 replace q316 := eq_true q316
 refine start_ (n := 13) (S := fun w' => w'.cell? ⟨gb315, 0, none⟩ = some (.int .i64 t305) ∧ w'.cell? ⟨gb315, 1, none⟩ = some (.int .i64 t306) ∧ w'.cell? ⟨gb315, 2, none⟩ = some (.int .i64 t307) ∧ w'.cell? ⟨gb315, 3, none⟩ = some (.int .i64 t308) ∧ w'.cell? ⟨gb315, 4, none⟩ = some (.int .i64 t309) ∧ w'.cell? ⟨gb315, 5, none⟩ = some (.int .i64 t310) ∧ w'.cell? ⟨gb315, 6, none⟩ = some (.string t311) ∧ w'.cell? ⟨gb315, 7, none⟩ = some (.string t312) ∧ w'.cell? ⟨gb315, 8, none⟩ = some (.string t313) ∧ w'.cell? (ad304.add (x11_2).toNat) = some (.int .i64 (rd x5_1 x11_2))) (ds := []) (fb 13 0) (by kernel_rfl) rfl rfl ⟨bc BK315 0, bc BK315 1, bc BK315 2, bc BK315 3, bc BK315 4, bc BK315 5, bc BK315 6, bc BK315 7, bc BK315 8, hx316_0⟩ (fun hHeld => ?_); refine with_tabW spec_l07Mails.tab14 spec_l07Mails.bits14 (fun HT_ HW_ => ?_)
 generalize w73.drew = w74 at HO_5 HO_10 BK315 HB hx316_0 hHeld ⊢
 refine pu 0 71 (fb 13 1) HT_ ?_
 refine pu 1 72 (fb 13 3) HT_ ?_
 refine pu 2 73 (fb 13 7) HT_ ?_
 refine pu 4 75 (fb 13 23) HT_ ?_
 refine pu 5 76 (fb 13 55) HT_ ?_
 refine pu 7 78 (fb 13 183) HT_ ?_
 refine pu 8 79 (fb 13 439) HT_ ?_
 refine tk 3 74 (fb 13 447) HT_ HW_ hHeld ?_
 refine tk 6 77 (fb 13 511) HT_ HW_ hHeld ?_
 refine tk 9 80 (fb 13 1023) HT_ HW_ hHeld ?_
 refine pu 10 81 (fb 13 2047) HT_ ?_
 refine on 11 (some 14) (fb 13 4095) HT_ (fun K hK => ?_)
 refine box_step ?hg (N := 14) ?hd (cs := #[.int .i64 0, .int .i64 0, .string (⟨#[]⟩ : ByteArray)]) (t := 68) ?hr ?_; (case hd => rfl); (case hg => rfl); (case hr => first | (go_simp; done) | (go_simp; rfl))
 intro gb317 hg w75 hbox hb
 have HS9_ := (hb.cell (World.block_lt_of_cell? _ _ (hHeld.2.2.2.2.2.2.2.2.2))).trans (hHeld.2.2.2.2.2.2.2.2.2)
 replace HO_5 := rB HO_5 hb
 replace HO_10 := ak (Kd.R_below (Kd.R_elderB (rG HO_10) gb317 (Nat.le_of_eq hg.symm)) hb)
 replace BK317 := ak (hbox)
 replace GW317 := ak (bz hg (lT HB (gC GE315 gN)))
 replace GE317 := ak (bz hg (lT HB (gC GE315 gN)))
 replace HB := ak (below_step (lT HB (gC GE315 gN)) hb)
 replace NB315_317 := ak (nl hg (bG BK315))
 replace NB317_315 := ak (ng hg (bG BK315))
 replace BK315 := bB BK315 hb
 clear hb hbox hg
 refine hK.out _ _ ⟨bc BK315 0, bc BK315 1, bc BK315 2, bc BK315 3, bc BK315 4, bc BK315 5, bc BK315 6, bc BK315 7, bc BK315 8, HS9_⟩ (fun hHeld => ?_)
 clear hK K
 refine nm ?_
 refine on 12 none (fb 13 8191) HT_ (fun K hK => ?_)
 have hs76 : w75.cell? ⟨gb317, 0, none⟩ = some (.int .i64 0) := bc BK317 0
 have hfs76 := blk_frozen BK317.out 0
 have hns76_0 := NB315_317.out
 have hms76_0 := NB317_315.out
 have hs77 : w75.cell? ⟨gb317, 1, none⟩ = some (.int .i64 0) := bc BK317 1
 have hfs77 := blk_frozen BK317.out 1
 have hns77_0 := NB315_317.out
 have hms77_0 := NB317_315.out
 have hs78 : w75.cell? ⟨gb317, 2, none⟩ = some (.string (⟨#[]⟩ : ByteArray)) := bc BK317 2
 have hfs78 := blk_frozen BK317.out 2
 have hns78_0 := NB315_317.out
 have hms78_0 := NB317_315.out
 refine skip_ (w1 := ?_) (by rfl) rfl ?_ ?_
 rotate_left
 {
 go_simp
 rfl
 }
 refine hK.out _ _ ⟨((cell_far (p := ⟨gb317, _, none⟩) NB315_317.out _).trans (((cell_far (p := ⟨gb317, _, none⟩) NB315_317.out _).trans (((cell_far (p := ⟨gb317, _, none⟩) NB315_317.out _).trans (hHeld.1)))))), ((cell_far (p := ⟨gb317, _, none⟩) NB315_317.out _).trans (((cell_far (p := ⟨gb317, _, none⟩) NB315_317.out _).trans (((cell_far (p := ⟨gb317, _, none⟩) NB315_317.out _).trans (hHeld.2.1)))))), ((cell_far (p := ⟨gb317, _, none⟩) NB315_317.out _).trans (((cell_far (p := ⟨gb317, _, none⟩) NB315_317.out _).trans (((cell_far (p := ⟨gb317, _, none⟩) NB315_317.out _).trans (hHeld.2.2.1)))))), ((cell_far (p := ⟨gb317, _, none⟩) NB315_317.out _).trans (((cell_far (p := ⟨gb317, _, none⟩) NB315_317.out _).trans (((cell_far (p := ⟨gb317, _, none⟩) NB315_317.out _).trans (hHeld.2.2.2.1)))))), ((cell_far (p := ⟨gb317, _, none⟩) NB315_317.out _).trans (((cell_far (p := ⟨gb317, _, none⟩) NB315_317.out _).trans (((cell_far (p := ⟨gb317, _, none⟩) NB315_317.out _).trans (hHeld.2.2.2.2.1)))))), ((cell_far (p := ⟨gb317, _, none⟩) NB315_317.out _).trans (((cell_far (p := ⟨gb317, _, none⟩) NB315_317.out _).trans (((cell_far (p := ⟨gb317, _, none⟩) NB315_317.out _).trans (hHeld.2.2.2.2.2.1)))))), ((cell_far (p := ⟨gb317, _, none⟩) NB315_317.out _).trans (((cell_far (p := ⟨gb317, _, none⟩) NB315_317.out _).trans (((cell_far (p := ⟨gb317, _, none⟩) NB315_317.out _).trans (hHeld.2.2.2.2.2.2.1)))))), ((cell_far (p := ⟨gb317, _, none⟩) NB315_317.out _).trans (((cell_far (p := ⟨gb317, _, none⟩) NB315_317.out _).trans (((cell_far (p := ⟨gb317, _, none⟩) NB315_317.out _).trans (hHeld.2.2.2.2.2.2.2.1)))))), ((cell_far (p := ⟨gb317, _, none⟩) NB315_317.out _).trans (((cell_far (p := ⟨gb317, _, none⟩) NB315_317.out _).trans (((cell_far (p := ⟨gb317, _, none⟩) NB315_317.out _).trans (hHeld.2.2.2.2.2.2.2.2.1)))))), ((cell_far (p := ⟨gb317, _, none⟩) (by first | exact Kd.own_blk (Kd.R_ne HO_5.out BK317.out (by decide)) | (rw [add_block]; exact Kd.own_blk (Kd.R_ne HO_5.out BK317.out (by decide))) | (show (Addr.add _ _).block ≠ _; rw [add_block]; exact Kd.own_blk (Kd.R_ne HO_5.out BK317.out (by decide))) | (dsimp only; exact Kd.own_blk (Kd.R_ne HO_5.out BK317.out (by decide)))) _).trans (((cell_far (p := ⟨gb317, _, none⟩) (by first | exact Kd.own_blk (Kd.R_ne HO_5.out BK317.out (by decide)) | (rw [add_block]; exact Kd.own_blk (Kd.R_ne HO_5.out BK317.out (by decide))) | (show (Addr.add _ _).block ≠ _; rw [add_block]; exact Kd.own_blk (Kd.R_ne HO_5.out BK317.out (by decide))) | (dsimp only; exact Kd.own_blk (Kd.R_ne HO_5.out BK317.out (by decide)))) _).trans (((cell_far (p := ⟨gb317, _, none⟩) (by first | exact Kd.own_blk (Kd.R_ne HO_5.out BK317.out (by decide)) | (rw [add_block]; exact Kd.own_blk (Kd.R_ne HO_5.out BK317.out (by decide))) | (show (Addr.add _ _).block ≠ _; rw [add_block]; exact Kd.own_blk (Kd.R_ne HO_5.out BK317.out (by decide))) | (dsimp only; exact Kd.own_blk (Kd.R_ne HO_5.out BK317.out (by decide)))) _).trans (hHeld.2.2.2.2.2.2.2.2.2))))))⟩ (fun hHeld => ?_)
 clear hK K
 refine done_ (done_of HT_.out (by kernel_rfl)) ?_
 have p318 : 0 ≤ (x11_2 : Int) := oda
 have q318 : x11_2 < (x5_1.length : Int) := oda
 obtain ⟨ad318, e318, hx318_0⟩ := Kd.at_int (Kd.R_reads' HO_5.out).2.2 x11_2 p318 q318
 obtain rfl : ad304 = ad318 := (by injection e318)
 have hn318_0 : ad304.block ≠ gb317 := Kd.own_blk (Kd.R_ne HO_5.out BK317.out (by decide))
 have hn318_1 : ad304.block ≠ gb317 := Kd.own_blk (Kd.R_ne HO_5.out BK317.out (by decide))
 have hn318_2 : ad304.block ≠ gb317 := Kd.own_blk (Kd.R_ne HO_5.out BK317.out (by decide))
 replace hx318_0 := cF hx318_0 ⟨gb317, 0, none⟩ (.int .i64 (rd x5_1 x11_2)) (aF hn318_0)
 replace hx318_0 := cF hx318_0 ⟨gb317, 1, none⟩ (.int .i64 t310) (aF hn318_0)
 replace hx318_0 := cF hx318_0 ⟨gb317, 2, none⟩ (.string t313) (aF hn318_0)
 clear hn318_0
 clear hn318_1
 clear hn318_2
 replace p318 := eq_true p318
 replace q318 := eq_true q318
 try go_wp2_with (first | ((with_reducible refine gate_callee (f := 80) rfl ?_); refine gl (some 89) Try.func80 #[.slice A0 l0.length c0, .int .i64 4, .int .i64 a1, .int .i64 (rd x5_1 x11_2)] ?_; (with_reducible refine (spec_l07Best.calls k2 _ _ l0 4 a1 (rd x5_1 x11_2) _ _ _ _ _ _ _ _ _ _ _ ?side1 ?side2 A47.out).mono ?_); (case side1 => exact Kd.C_below HR0.out (lT HB (gC GE315 (gC GE317 gN)))); (case side2 => exact HC0.out); rintro e w79 ⟨rfl, hb⟩; refine ⟨_, rfl, ?_⟩; replace HO_5 := ak (Kd.R_below (rT HO_5 BK317 (by decide)) hb); replace HO_10 := ak (Kd.R_below (by (with_reducible repeat (first | apply Kd.R_alloc | apply Kd.R_drewN | apply Kd.R_drew)); exact (Kd.R_mono (Kd.R_far (p := ⟨gb317, 2, none⟩) (Kd.R_far (p := ⟨gb317, 1, none⟩) (Kd.R_far (p := ⟨gb317, 0, none⟩) (Kd.R_mono HO_10.out (fun k_ hk => (⟨hk, hk.2⟩ : _ ∧ k_ ≠ gb317))) (fun _ hk => hk.2) (.int .i64 (rd x5_1 x11_2))) (fun _ hk => hk.2) (.int .i64 t310)) (fun _ hk => hk.2) (.string t313)) (fun _ h_ => h_.1))) hb); replace BK315 := ak (blk_below (bT BK315 (nC NB315_317 nN)) hb); replace BK317 := ak (blk_below (g := gb317) (o := .cells #[.int .i64 (rd x5_1 x11_2), .int .i64 t310, .string t313] 68 (0, 0)) (bW BK317) hb); replace HB := ak (below_step (lT HB (gC GE315 (gC GE317 gN))) hb); (try clear hb); (try clear hk)) | ((with_reducible refine gate_dst (N := 15) rfl ?_); refine b9 15 ?_; intro gb329 hg w80 hbox hb; replace HO_5 := rB HO_5 hb; replace HO_10 := rB HO_10 hb; replace BK329 := ak (hbox); replace GW329 := ak (bz hg (lT HB (gC GE315 (gC GE317 gN)))); replace GE329 := ak (bz hg (lT HB (gC GE315 (gC GE317 gN)))); replace HB := ak (below_step (lT HB (gC GE315 (gC GE317 gN))) hb); replace NB315_329 := ak (nl hg (bG BK315)); replace NB329_315 := ak (ng hg (bG BK315)); replace BK315 := bB BK315 hb; replace NB317_329 := ak (nl hg (bG BK317)); replace NB329_317 := ak (ng hg (bG BK317)); replace BK317 := bB BK317 hb; clear hb hbox hg; have hnb81 := NB329_315.out; have hnc81 := NB315_329.out; have hnb82 := NB329_317.out; have hnc82 := NB317_329.out; obtain ⟨_, _, _, _, _, _, _, _, _, _, _, _, _, _, _, _, _, _⟩ := bC9 BK329; have hnb84 := NB317_315.out; have hnc84 := NB315_317.out; obtain ⟨_, _, _, _, _, _⟩ := bC3 BK317) | ((with_reducible refine gate_builtin (b := .append) (xs := #[.tmp 97, .tmp 99]) rfl ?_); at_builtin; refine Kd.R_append k68 (w0 := w) w.heap.size rfl (.tmp 97) (.tmp 99) 64 68 (.agg #[(.int .i64 0), (.int .i64 0), (.string ⟨#[]⟩)]) 32 rfl Try.underlying64 info68 rfl (by decide) (by omega) u10 x10_2 (⟨rd x5_1 x11_2, t310, t313⟩ : S68) [.int .i64 (rd x5_1 x11_2), .int .i64 t310, .string t313] (fun k_ => k_ ≠ gb317) (fun _ => False) rfl (by first | (go_simp; done) | (go_simp; rfl)) ?aP (fun _ hk => hk.elim) ?aF ?aO ?aB ?aS ?aL ?_; (case aP => exact k68_mkM _ _ _ (⟨rd x5_1 x11_2, t310, t313⟩ : S68)); (case aB => exact (lT HB (gC GE315 (gC GE317 (gC GE329 gN))))); (case aF => exact (fun k_ hk => Kd.freshB (g := gb317) (o := .cells #[.int .i64 (rd x5_1 x11_2), .int .i64 t310, .string t313] 68 (0, 0)) (bT BK317 (nC NB317_329 nN)) k_ hk)); (case aO => exact (by (with_reducible repeat (first | apply Kd.R_alloc | apply Kd.R_drewN | apply Kd.R_drew)); exact Kd.R_mono (Kd.R_far (p := ⟨gb329, 8, none⟩) (Kd.R_far (p := ⟨gb329, 7, none⟩) (Kd.R_far (p := ⟨gb329, 6, none⟩) (Kd.R_far (p := ⟨gb329, 5, none⟩) (Kd.R_far (p := ⟨gb329, 4, none⟩) (Kd.R_far (p := ⟨gb329, 3, none⟩) (Kd.R_far (p := ⟨gb329, 2, none⟩) (Kd.R_far (p := ⟨gb329, 1, none⟩) (Kd.R_far (p := ⟨gb329, 0, none⟩) (Kd.R_types HO_10.out BK329.out (by decide)) (fun _ hk => hk.2) (.int .i64 t319)) (fun _ hk => hk.2) (.int .i64 t320)) (fun _ hk => hk.2) (.int .i64 t321)) (fun _ hk => hk.2) (.int .i64 t322)) (fun _ hk => hk.2) (.int .i64 t323)) (fun _ hk => hk.2) (.int .i64 t324)) (fun _ hk => hk.2) (.string t325)) (fun _ hk => hk.2) (.string t326)) (fun _ hk => hk.2) (.string t327)) (fun _ hk => hk.1.2))); (case aS => exact (below_size (lT HB (gC GE315 (gC GE317 (gC GE329 gN)))))); (case aL => have := LMc68.out; omega); intro v334 w86 ho hb hg hat; rw [← Ny333.out] at ho; have n0_ := ak (Kd.R_over' (rT HO_5 BK329 (by decide)) (Kd.R_typed (rT HO_10 BK329 (by decide))) (by decide) hg); have n1_ := ak (blk_grown (g := gb315) (o := .cells #[.int .i64 t305, .int .i64 t306, .int .i64 t307, .int .i64 t308, .int .i64 t309, .int .i64 t310, .string t311, .string t312, .string t313] 32 (0, 0)) (bT BK315 (nC NB315_329 nN)) hg (Kd.R_ne HO_10.out BK315.out (by decide))); have n2_ := ak (blk_grown (g := gb317) (o := .cells #[.int .i64 (rd x5_1 x11_2), .int .i64 t310, .string t313] 68 (0, 0)) (bT BK317 (nC NB317_329 nN)) hg (Kd.R_away HO_10.out (fun _ hk => hk.2))); have n3_ := ak (blk_grown (g := gb329) (o := .cells #[.int .i64 t319, .int .i64 t320, .int .i64 t321, .int .i64 t322, .int .i64 t323, .int .i64 t324, .string t325, .string t326, .string t327] 32 (0, 0)) (bW BK329) hg (Kd.R_ne HO_10.out BK329.out (by decide))); have n4_ := ak (hb); have n5_ := ak (ho); clear HO_5; clear BK315; clear BK317; clear BK329; clear HB; clear HO_10; have HO_5 := n0_; have BK315 := n1_; have BK317 := n2_; have BK329 := n3_; have HB := n4_; have HO335 := n5_; clear n0_ n1_ n2_ n3_ n4_ n5_; clear ho hb hg hat))
 go_roundg k2
 case measure => have := HK1.out; have := HK2.out; omega
 case rel => exact ⟨_, _, rr, H', ⟨by have := HK1.out; have := HK2.out; omega⟩, ⟨by (with_reducible repeat (first | apply Kd.R_alloc | apply Kd.R_drewN | apply Kd.R_drew)); exact HO_5.out⟩, ⟨by (with_reducible repeat (first | apply Kd.R_alloc | apply Kd.R_drewN | apply Kd.R_drew)); exact Kd.R_mono HO335.out (fun _ hk => trivial)⟩, ⟨by exact lT HB (gC GE315 (gC GE317 (gC GE329 gN)))⟩⟩
 }
 {rw [if_neg c68] at H;exact absurd H (by simp)}
 }
 }
 {rw [if_neg c45] at H;exact absurd H (by simp)}
 }
 {
 rw [if_neg c44] at H
 have c44b0 := decide_eq_false c44
 clear c44
 obtain rfl := Option.some.inj H
 obtain ⟨Ao87, co87, eo87⟩ := Kd.R_slice HO_5.out
 subst eo87
 go_wp2
 go_ret
 exact ⟨_, ew, by (with_reducible repeat (first | apply Kd.R_alloc | apply Kd.R_drewN | apply Kd.R_drew)); exact HO_10.out, by exact lG HB⟩
 }
 }
 }
 }
 }
 }
end Go.Proofs.Ytagkjeldheiejaa.PFnStatesTold
