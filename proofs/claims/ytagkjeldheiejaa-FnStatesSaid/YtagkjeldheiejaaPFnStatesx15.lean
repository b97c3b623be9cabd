-- Written by a program of mine (a turned copy of the kit's print): functions as plain Lean, their contracts.
import Derived.Test.YtagkjeldheiejaaPFnStatesx11
import Derived.Test.YtagkjeldheiejaaPFnStatesx12
import Derived.Test.YtagkjeldheiejaaVFnStates1
namespace Go.Proofs.Ytagkjeldheiejaa.PFnStates
open Go.RowKit Go.Proofs.YtagkjeldheiejaaW.PrintWords Go.Proofs.YtagkjeldheiejaaW.PrintLast Go.Proofs.YtagkjeldheiejaaW.PrintMore
attribute [local go_sem] max2_int min2_int max_two min_two max_three min_three max_four min_four   -- for this text's walks alone
set_option maxHeartbeats 8000000
set_option maxRecDepth 100000
set_option linter.unusedVariables false
set_option linter.unusedSimpArgs false
/-! ### spec_l07Mails: function 84 -/
mutual
def spec_l07Mails.l0 : Nat → List (S32) → Int → List Int → Int → Option ((List (S68)))
 | 0, _, _, _, _ => none
 | k + 1, a, b, c, d => if d < (a.length : Int) then (if 0 ≤ d then ((spec_l07Best.f k a 5 b ((rd_T32 a d).f1.f2)).bind fun bt392 => (if ((rd_T32 a d).f1.f0) = 3 then (if ((rd_T32 a d).f1.f1) = b then (if bt392.2.2.2.2.2.2.2.2.2 = true then (spec_l07Mails.l0 k a b c (wrap64 (d + 1))) else ((spec_l07Sorted.f k c ((rd_T32 a d).f1.f2)).bind fun t403 => (spec_l07Mails.l0 k a b t403 (wrap64 (d + 1))))) else (spec_l07Mails.l0 k a b c (wrap64 (d + 1)))) else (spec_l07Mails.l0 k a b c (wrap64 (d + 1))))) else (none)) else (spec_l07Mails.l1 k a b c (([] : List (S68))) 0)
def spec_l07Mails.l1 : Nat → List (S32) → Int → List Int → List (S68) → Int → Option ((List (S68)))
 | 0, _, _, _, _, _ => none
 | k + 1, a, b, c, d, e => if e < (c.length : Int) then (if 0 ≤ e then ((spec_l07Best.f k a 3 b (rd c e)).bind fun bt410 => ((spec_l07Best.f k a 4 b (rd c e)).bind fun bt424 => (if bt424.2.2.2.2.2.2.2.2.2 = true then (if d.length < 4398046511104 then (spec_l07Mails.l1 k a b c (d ++ [(⟨rd c e, bt424.2.2.2.2.2.1, bt410.2.2.2.2.2.2.2.2.1⟩ : S68)]) (wrap64 (e + 1))) else (none)) else (if d.length < 4398046511104 then (spec_l07Mails.l1 k a b c (d ++ [(⟨rd c e, bt410.2.2.2.2.2.1, bt410.2.2.2.2.2.2.2.2.1⟩ : S68)]) (wrap64 (e + 1))) else (none))))) else (none)) else (some d)
end
def spec_l07Mails.f (k : Nat) (l0 : List (S32)) (a1 : Int) : Option ((List (S68))) := spec_l07Mails.l0 k l0 a1 (([] : List Int)) 0
theorem spec_l07Mails.mono_l : ∀ k, (∀ y0 y1 y2 y3, LeO (spec_l07Mails.l0 k y0 y1 y2 y3) (spec_l07Mails.l0 (k + 1) y0 y1 y2 y3)) ∧ (∀ y0 y1 y2 y3 y4, LeO (spec_l07Mails.l1 k y0 y1 y2 y3 y4) (spec_l07Mails.l1 (k + 1) y0 y1 y2 y3 y4))
 | 0 => ⟨fun _ _ _ _ r h => by simp [spec_l07Mails.l0] at h, fun _ _ _ _ _ r h => by simp [spec_l07Mails.l1] at h⟩
 | k + 1 => by
  obtain ⟨ih0, ih1⟩ := spec_l07Mails.mono_l k
  refine ⟨?_, ?_⟩
  intro y0 y1 y2 y3;unfold spec_l07Mails.l0;rotate_left
  intro y0 y1 y2 y3 y4;unfold spec_l07Mails.l1;rotate_left
  all_goals repeat' with_reducible first | exact ih0 _ _ _ _ | exact ih1 _ _ _ _ _ | exact spec_l07Best.mono _ _ _ _ _ | exact spec_l07Sorted.mono _ _ _ | exact LeO.refl _ | exact LeO.none _ | refine LeO.ite ?_ ?_ | refine LeO.bind ?_ (fun _ => ?_)
theorem spec_l07Mails.mono : ∀ a0 a1 k, LeO (spec_l07Mails.f k a0 a1) (spec_l07Mails.f (k + 1) a0 a1) := by
 intro a0 a1 k
 obtain ⟨ih0, ih1⟩ := spec_l07Mails.mono_l k
 unfold spec_l07Mails.f
 repeat' with_reducible first | exact ih0 _ _ _ _ | exact ih1 _ _ _ _ _ | exact spec_l07Best.mono _ _ _ _ _ | exact spec_l07Sorted.mono _ _ _ | exact LeO.refl _ | exact LeO.none _ | refine LeO.ite ?_ ?_ | refine LeO.bind ?_ (fun _ => ?_)
def spec_l07Mails.T14 : Bool × List (List Nat × List Nat) := (true, [([], []), ([], []), ([0, 1], [0, 1]), ([2], [2]), ([], []), ([4], [4]), ([5], [5]), ([], []), ([7], [7]), ([8], [8]), ([3, 6, 9], [3, 6, 9]), ([], []), ([11, 10, 0, 1, 2, 3, 4, 5, 6, 7, 8, 9, 10, 11], [10, 11])])
def spec_l07Mails.B14 : List Nat := [0, 0, 3, 7, 0, 16, 48, 0, 128, 384, 1023, 0, 4095]
theorem spec_l07Mails.tab14 : rtab .any (opsOf Try.f84 14) = spec_l07Mails.T14 := by kernel_rfl
theorem spec_l07Mails.bits14 : waitsOk spec_l07Mails.T14.2 spec_l07Mails.B14 = true := by kernel_rfl
theorem spec_l07Mails.calls (k : Nat) (A0 : Option Addr) (c0 : Nat) (l0 : List (S32)) (a1 : Int) (r : List (S68)) (w : World) (hr0 : Kd.C k32 w A0 l0.length l0) (hc0 : l0.length ≤ c0) (h : spec_l07Mails.f k l0 a1 = some r) :
  Calls Try.prog 84 #[.slice A0 l0.length c0, .int .i64 a1] w fun e w' => ∃ v0_ : Value, e = .returned (v0_) ∧ Kd.R k68 68 w' w.heap.size (fun _ => True) v0_ r ∧ Below w.heap.size w w' := by
 have hu23 := Try.underlying23
 have hu32 := Try.underlying32
 have hu68 := Try.underlying68
 have HR0 := Aside0.mk hr0
 have HC0 := Aside0.mk hc0
 clear hr0 hc0
 have HB := ak (Below.refl w.heap.size w)
 have H := h
 clear h
 unfold spec_l07Mails.f at H
 obtain ⟨y387, hy387⟩ : ∃ y_ : List Int, y_ = (([] : List Int)) := ⟨_, rfl⟩
 replace H : (spec_l07Mails.l0 k l0 a1 y387 0) = some r := by first | (rw [hy387]; with_reducible exact H) | (have H2_ := (Option.bind_some _ _).symm.trans H; rw [hy387]; with_reducible exact H2_) | (have H2_ := (Option.bind_some _ _).symm.trans H; with_reducible exact H2_) | with_reducible exact H | (rw [hy387]; exact H) | exact H
 have Ny387 := Aside0.mk hy387
 clear hy387
 have H' := Aside0.mk H
 clear H
 go_enter Try.func84, Try.ntmps84
 go_wp2_with ((with_reducible refine gate_dst (N := 17) rfl ?_); refine Kd.R_lit (Kd.int .i64) _ 3 ?hg (N := 17) ?hd (xs := ([] : List Int)) (inner := []) (ok := fun _ => True) (okp := fun _ => True) ?hr ?hp (fun _ hk => hk) trivial (Below.refl _ _) (Nat.le_refl _) (by simp) ?_; (case hd => rfl); (case hg => rfl); (case hr => first | (go_simp; done) | (go_simp; rfl)); (case hp => exact (Reps.none _ _)); intro v388 w3 ho4 hb hg_ hnew_; clear hg_ hnew_; (first | rw [← Ny387.out] at ho4 | (simp only [Int.reduceToNat] at ho4; rw [← Ny387.out] at ho4)); replace HO389 := ak (Kd.R_lower ho4 (below_size (lG HB))); replace HB := lB HB hb; clear hb ho4)
 go_loopg [5, 6] k (fun kq v5 v6 w' => ∃ (x5_1 : List Int) (x6_1 : Int), v6 = .int .i64 x6_1 ∧ Aside0 (spec_l07Mails.l0 kq l0 a1 x5_1 x6_1 = some r) ∧ Aside0 (kq ≤ k) ∧ Aside0 (Kd.R (Kd.int .i64) 3 w' w.heap.size (fun _ => True) v5 x5_1) ∧ Aside0 (Below w.heap.size w w'))
 case atStart => exact ⟨_, _, rr, H', ⟨Nat.le_refl _⟩, ⟨by (with_reducible repeat (first | apply Kd.R_alloc | apply Kd.R_drewN | apply Kd.R_drew)); exact HO389.out⟩, ⟨by exact lG HB⟩⟩
 case round =>
  skip;{
 clear H'
 obtain ⟨x5_1, x6_1, rfl, HA, HK1, HO_5, HB⟩ := hrel
 cases gk with
 | zero => exact absurd HA.out (by simp [spec_l07Mails.l0])
 | succ k1 =>
  skip;{
 have H := HA.out
 clear HA
 simp only [spec_l07Mails.l0] at H
 by_cases c5 : x6_1 < (l0.length : Int)
 {
 rw [if_pos c5] at H
 have c5b0 := decide_eq_true c5
 clear c5
 by_cases c6 : 0 ≤ x6_1
 {
 rw [if_pos c6] at H
 have c6b0 := decide_eq_true c6
 clear c6
 obtain ⟨⟨t392, t393, t394, t395, t396, t397, t398, t399, t400, t401⟩, A7, H⟩ := eb H
 try dsimp only at H
 have HS_ := Aside0.mk H
 clear H
 have p390 : 0 ≤ (x6_1 : Int) := oda
 have q390 : x6_1 < (l0.length : Int) := oda
 obtain ⟨ad390, e390, hx390_0, hx390_1, hx390_2, hx390_3, hx390_4, hx390_5, hx390_6, hx390_7, hx390_8⟩ := at_T32 HR0.out x6_1 p390 q390
 cases e390
 replace hx390_0 := clB HB hx390_0
 replace hx390_1 := clB HB hx390_1
 replace hx390_2 := clB HB hx390_2
 replace hx390_3 := clB HB hx390_3
 replace hx390_4 := clB HB hx390_4
 replace hx390_5 := clB HB hx390_5
 replace hx390_6 := clB HB hx390_6
 replace hx390_7 := clB HB hx390_7
 replace hx390_8 := clB HB hx390_8
 replace p390 := eq_true p390
 replace q390 := eq_true q390
 go_wp2_with (first | ((with_reducible refine gate_dst (N := 7) rfl ?_); refine bx 7 #[.int .i64 0, .int .i64 0, .int .i64 0, .int .i64 0, .int .i64 0, .string (⟨#[]⟩ : ByteArray), .string (⟨#[]⟩ : ByteArray), .string (⟨#[]⟩ : ByteArray)] 23 ?_; intro gb391 hg w11 hbox hb; replace HO_5 := rB HO_5 hb; replace BK391 := ak (hbox); replace GE391 := ak (bz hg (lG HB)); replace HB := lB HB hb; clear hb hbox hg; obtain ⟨hcz12_0, hcz12_1, hcz12_2, hcz12_3, hcz12_4, hcz12_5, hcz12_6, hcz12_7, hfz12_0, hfz12_1, hfz12_2, hfz12_3, hfz12_4, hfz12_5, hfz12_6, hfz12_7⟩ := bC8 BK391) | ((with_reducible refine gate_callee (f := 80) rfl ?_); refine gl (some 34) Try.func80 #[.slice (some ad390) l0.length c0, .int .i64 5, .int .i64 a1, .int .i64 ((rd_T32 l0 x6_1).f1.f2)] ?_; (with_reducible refine (spec_l07Best.calls k1 _ _ l0 5 a1 ((rd_T32 l0 x6_1).f1.f2) _ _ _ _ _ _ _ _ _ _ _ ?side1 ?side2 A7.out).mono ?_); (case side1 => exact Kd.C_below HR0.out (lT HB (gC GE391 gN))); (case side2 => exact HC0.out); rintro e w13 ⟨rfl, hb⟩; refine ⟨_, rfl, ?_⟩; replace HO_5 := ak (Kd.R_below (rT HO_5 BK391 (by decide)) hb); replace BK391 := ak (blk_below (g := gb391) (o := .cells #[.int .i64 ((rd_T32 l0 x6_1).f1.f0), .int .i64 ((rd_T32 l0 x6_1).f1.f1), .int .i64 ((rd_T32 l0 x6_1).f1.f2), .int .i64 ((rd_T32 l0 x6_1).f1.f3), .int .i64 ((rd_T32 l0 x6_1).f1.f4), .string ((rd_T32 l0 x6_1).f1.f5), .string ((rd_T32 l0 x6_1).f1.f6), .string ((rd_T32 l0 x6_1).f1.f7)] 23 (0, 0)) (bW BK391) hb); replace HB := ak (below_step (lT HB (gC GE391 gN)) hb); (try clear hb); (try clear hk); refine Stop.out ?_))
 have H := HS_.out
 clear HS_
 by_cases c8 : ((rd_T32 l0 x6_1).f1.f0) = 3
 {
 rw [if_pos c8] at H
 have c8b0 := beq_iff_eq.mpr c8
 have c8b1 := bne_eq_false_iff_eq.mpr c8
 clear c8
 by_cases c9 : ((rd_T32 l0 x6_1).f1.f1) = a1
 {
 rw [if_pos c9] at H
 have c9b0 := beq_iff_eq.mpr c9
 have c9b1 := bne_eq_false_iff_eq.mpr c9
 clear c9
 by_cases c10 : t401 = true
 {
 subst c10
 rw [if_pos rfl] at H
 have H' := Aside0.mk H
 clear H
 refine ⟨?_⟩
 go_wp2_with ((with_reducible refine gate_dst (N := 8) rfl ?_); refine bx 8 #[.int .i64 0, .int .i64 0, .int .i64 0, .int .i64 0, .int .i64 0, .int .i64 0, .string (⟨#[]⟩ : ByteArray), .string (⟨#[]⟩ : ByteArray), .string (⟨#[]⟩ : ByteArray)] 32 ?_; intro gb402 hg w14 hbox hb; replace HO_5 := rB HO_5 hb; replace BK402 := ak (hbox); replace GW402 := ak (bz hg (lT HB (gC GE391 gN))); replace GE402 := ak (bz hg (lT HB (gC GE391 gN))); replace HB := ak (below_step (lT HB (gC GE391 gN)) hb); replace NB391_402 := ak (nl hg (bG BK391)); replace NB402_391 := ak (ng hg (bG BK391)); replace BK391 := bB BK391 hb; clear hb hbox hg; have hnb15 := NB402_391.out; have hnc15 := NB391_402.out; obtain ⟨hcz16_0, hcz16_1, hcz16_2, hcz16_3, hcz16_4, hcz16_5, hcz16_6, hcz16_7, hcz16_8, hfz16_0, hfz16_1, hfz16_2, hfz16_3, hfz16_4, hfz16_5, hfz16_6, hfz16_7, hfz16_8⟩ := bC9 BK402; obtain ⟨hcz17_0, hcz17_1, hcz17_2, hcz17_3, hcz17_4, hcz17_5, hcz17_6, hcz17_7, hfz17_0, hfz17_1, hfz17_2, hfz17_3, hfz17_4, hfz17_5, hfz17_6, hfz17_7⟩ := bC8 BK391)
 go_roundg k1
 case measure => have := HK1.out; omega
 case rel => exact ⟨_, _, rr, H', ⟨by have := HK1.out; omega⟩, ⟨by exact Kd.R_mono (rT HO_5 BK402 (by decide)) (fun _ hk => trivial)⟩, ⟨by exact lT HB (gC GE391 (gC GE402 gN))⟩⟩
 }
 {
 replace c10 := Bool.eq_false_iff.mpr c10
 subst c10
 rw [if_neg (show ¬ (false = true) by decide)] at H
 obtain ⟨t403, A18, H⟩ := eb H
 try dsimp only at H
 have H' := Aside0.mk H
 clear H
 refine ⟨?_⟩
 go_wp2_with (first | ((with_reducible refine gate_dst (N := 8) rfl ?_); refine bx 8 #[.int .i64 0, .int .i64 0, .int .i64 0, .int .i64 0, .int .i64 0, .int .i64 0, .string (⟨#[]⟩ : ByteArray), .string (⟨#[]⟩ : ByteArray), .string (⟨#[]⟩ : ByteArray)] 32 ?_; intro gb402 hg w22 hbox hb; replace HO_5 := rB HO_5 hb; replace BK402 := ak (hbox); replace GW402 := ak (bz hg (lT HB (gC GE391 gN))); replace GE402 := ak (bz hg (lT HB (gC GE391 gN))); replace HB := ak (below_step (lT HB (gC GE391 gN)) hb); replace NB391_402 := ak (nl hg (bG BK391)); replace NB402_391 := ak (ng hg (bG BK391)); replace BK391 := bB BK391 hb; clear hb hbox hg; have hnb23 := NB402_391.out; have hnc23 := NB391_402.out; obtain ⟨hcz24_0, hcz24_1, hcz24_2, hcz24_3, hcz24_4, hcz24_5, hcz24_6, hcz24_7, hcz24_8, hfz24_0, hfz24_1, hfz24_2, hfz24_3, hfz24_4, hfz24_5, hfz24_6, hfz24_7, hfz24_8⟩ := bC9 BK402; obtain ⟨hcz25_0, hcz25_1, hcz25_2, hcz25_3, hcz25_4, hcz25_5, hcz25_6, hcz25_7, hfz25_0, hfz25_1, hfz25_2, hfz25_3, hfz25_4, hfz25_5, hfz25_6, hfz25_7⟩ := bC8 BK391; obtain ⟨Ao26, co26, eo26⟩ := Kd.R_slice HO_5.out; subst eo26) | ((with_reducible refine gate_callee (f := 81) rfl ?_); refine gl (some 53) Try.func81 #[.slice Ao26 x5_1.length co26, .int .i64 ((rd_T32 l0 x6_1).f1.f2)] ?_; (with_reducible refine (spec_l07Sorted.calls k1 _ _ x5_1 ((rd_T32 l0 x6_1).f1.f2) t403 _ ?side1 ?side2 A18.out).mono ?_); (case side1 => exact (Kd.R_reads' (rT HO_5 BK402 (by decide))).2.2); (case side2 => exact (Kd.R_reads' HO_5.out).2.1); rintro e w27 ⟨v404, rfl, ho0, hb⟩; refine ⟨_, rfl, ?_⟩; replace HO405 := ak (Kd.R_lower (Kd.R_new' ho0 (Kd.R_lt (rT HO_5 BK402 (by decide)))) (below_size (lT HB (gC GE391 (gC GE402 gN))))); replace HO_5 := ak (Kd.R_elder' (rT HO_5 BK402 (by decide)) (Kd.R_base ho0) hb); replace BK391 := ak (blk_below (bT BK391 (nC NB391_402 nN)) hb); replace BK402 := ak (blk_below (g := gb402) (o := .cells #[.int .i64 t392, .int .i64 t393, .int .i64 t394, .int .i64 t395, .int .i64 t396, .int .i64 t397, .string t398, .string t399, .string t400] 32 (0, 0)) (bW BK402) hb); replace HB := ak (below_step (lT HB (gC GE391 (gC GE402 gN))) hb); (try clear hb); (try clear hk); (try clear ho0)))
 go_roundg k1
 case measure => have := HK1.out; omega
 case rel => exact ⟨_, _, rr, H', ⟨by have := HK1.out; omega⟩, ⟨by (with_reducible repeat (first | apply Kd.R_alloc | apply Kd.R_drewN | apply Kd.R_drew)); exact Kd.R_mono HO405.out (fun _ hk => trivial)⟩, ⟨by exact lT HB (gC GE391 (gC GE402 gN))⟩⟩
 }
 }
 {
 rw [if_neg c9] at H
 have c9b0 := beq_eq_false_iff_ne.mpr c9
 have c9b1 := bne_iff_ne.mpr c9
 have H' := Aside0.mk H
 clear H
 refine ⟨?_⟩
 go_wp2_with ((with_reducible refine gate_dst (N := 8) rfl ?_); refine bx 8 #[.int .i64 0, .int .i64 0, .int .i64 0, .int .i64 0, .int .i64 0, .int .i64 0, .string (⟨#[]⟩ : ByteArray), .string (⟨#[]⟩ : ByteArray), .string (⟨#[]⟩ : ByteArray)] 32 ?_; intro gb402 hg w31 hbox hb; replace HO_5 := rB HO_5 hb; replace BK402 := ak (hbox); replace GW402 := ak (bz hg (lT HB (gC GE391 gN))); replace GE402 := ak (bz hg (lT HB (gC GE391 gN))); replace HB := ak (below_step (lT HB (gC GE391 gN)) hb); replace NB391_402 := ak (nl hg (bG BK391)); replace NB402_391 := ak (ng hg (bG BK391)); replace BK391 := bB BK391 hb; clear hb hbox hg; have hnb32 := NB402_391.out; have hnc32 := NB391_402.out; obtain ⟨hcz33_0, hcz33_1, hcz33_2, hcz33_3, hcz33_4, hcz33_5, hcz33_6, hcz33_7, hcz33_8, hfz33_0, hfz33_1, hfz33_2, hfz33_3, hfz33_4, hfz33_5, hfz33_6, hfz33_7, hfz33_8⟩ := bC9 BK402; obtain ⟨hcz34_0, hcz34_1, hcz34_2, hcz34_3, hcz34_4, hcz34_5, hcz34_6, hcz34_7, hfz34_0, hfz34_1, hfz34_2, hfz34_3, hfz34_4, hfz34_5, hfz34_6, hfz34_7⟩ := bC8 BK391)
 go_roundg k1
 case measure => have := HK1.out; omega
 case rel => exact ⟨_, _, rr, H', ⟨by have := HK1.out; omega⟩, ⟨by exact Kd.R_mono (rT HO_5 BK402 (by decide)) (fun _ hk => trivial)⟩, ⟨by exact lT HB (gC GE391 (gC GE402 gN))⟩⟩
 }
 }
 {
 rw [if_neg c8] at H
 have c8b0 := beq_eq_false_iff_ne.mpr c8
 have c8b1 := bne_iff_ne.mpr c8
 have H' := Aside0.mk H
 clear H
 refine ⟨?_⟩
 go_wp2_with ((with_reducible refine gate_dst (N := 8) rfl ?_); refine bx 8 #[.int .i64 0, .int .i64 0, .int .i64 0, .int .i64 0, .int .i64 0, .int .i64 0, .string (⟨#[]⟩ : ByteArray), .string (⟨#[]⟩ : ByteArray), .string (⟨#[]⟩ : ByteArray)] 32 ?_; intro gb402 hg w38 hbox hb; replace HO_5 := rB HO_5 hb; replace BK402 := ak (hbox); replace GW402 := ak (bz hg (lT HB (gC GE391 gN))); replace GE402 := ak (bz hg (lT HB (gC GE391 gN))); replace HB := ak (below_step (lT HB (gC GE391 gN)) hb); replace NB391_402 := ak (nl hg (bG BK391)); replace NB402_391 := ak (ng hg (bG BK391)); replace BK391 := bB BK391 hb; clear hb hbox hg; have hnb39 := NB402_391.out; have hnc39 := NB391_402.out; obtain ⟨hcz40_0, hcz40_1, hcz40_2, hcz40_3, hcz40_4, hcz40_5, hcz40_6, hcz40_7, hcz40_8, hfz40_0, hfz40_1, hfz40_2, hfz40_3, hfz40_4, hfz40_5, hfz40_6, hfz40_7, hfz40_8⟩ := bC9 BK402; obtain ⟨hcz41_0, hcz41_1, hcz41_2, hcz41_3, hcz41_4, hcz41_5, hcz41_6, hcz41_7, hfz41_0, hfz41_1, hfz41_2, hfz41_3, hfz41_4, hfz41_5, hfz41_6, hfz41_7⟩ := bC8 BK391)
 go_roundg k1
 case measure => have := HK1.out; omega
 case rel => exact ⟨_, _, rr, H', ⟨by have := HK1.out; omega⟩, ⟨by exact Kd.R_mono (rT HO_5 BK402 (by decide)) (fun _ hk => trivial)⟩, ⟨by exact lT HB (gC GE391 (gC GE402 gN))⟩⟩
 }
 }
 {rw [if_neg c6] at H;exact absurd H (by simp)}
 }
 {
 rw [if_neg c5] at H
 have c5b0 := decide_eq_false c5
 clear c5
 obtain ⟨y406, hy406⟩ : ∃ y_ : List (S68), y_ = (([] : List (S68))) := ⟨_, rfl⟩
 replace H : (spec_l07Mails.l1 k1 l0 a1 x5_1 y406 0) = some r := by first | (rw [hy406]; with_reducible exact H) | (have H2_ := (Option.bind_some _ _).symm.trans H; rw [hy406]; with_reducible exact H2_) | (have H2_ := (Option.bind_some _ _).symm.trans H; with_reducible exact H2_) | with_reducible exact H | (rw [hy406]; exact H) | exact H
 have Ny406 := Aside0.mk hy406
 clear hy406
 have H' := Aside0.mk H
 clear H
 go_wp2_with ((with_reducible refine gate_dst (N := 54) rfl ?_); refine Kd.R_lit k68 _ 68 ?hg (N := 54) ?hd (xs := ([] : List (S68))) (inner := []) (ok := fun _ => True) (okp := fun _ => True) ?hr ?hp (fun _ hk => hk) trivial (Below.refl _ _) (Nat.le_refl _) (by simp) ?_; (case hd => rfl); (case hg => rfl); (case hr => first | (go_simp; done) | (go_simp; rfl)); (case hp => exact (Reps.none _ _)); intro v407 w42 ho43 hb hg_ hnew_; clear hg_ hnew_; (first | rw [← Ny406.out] at ho43 | (simp only [Int.reduceToNat] at ho43; rw [← Ny406.out] at ho43)); replace HO_5 := rB HO_5 hb; replace HO408 := ak (Kd.R_lower ho43 (below_size (lG HB))); replace HB := lB HB hb; clear hb ho43)
 go_loopg [10, 11] k1 (fun kq v10 v11 w' => ∃ (x10_2 : List (S68)) (x11_2 : Int), v11 = .int .i64 x11_2 ∧ Aside0 (spec_l07Mails.l1 kq l0 a1 x5_1 x10_2 x11_2 = some r) ∧ Aside0 (kq ≤ k1) ∧ Aside0 (Kd.R (Kd.int .i64) 3 w' w.heap.size (fun _ => True) u5 x5_1) ∧ Aside0 (Kd.R k68 68 w' w.heap.size (fun _ => True) v10 x10_2) ∧ Aside0 (Below w.heap.size w w'))
 case atStart => exact ⟨_, _, rr, H', ⟨Nat.le_refl _⟩, ⟨by (with_reducible repeat (first | apply Kd.R_alloc | apply Kd.R_drewN | apply Kd.R_drew)); exact HO_5.out⟩, ⟨by (with_reducible repeat (first | apply Kd.R_alloc | apply Kd.R_drewN | apply Kd.R_drew)); exact HO408.out⟩, ⟨by exact lG HB⟩⟩
 case round =>
  skip;{
 clear H'
 try clear c5 c5b0
 obtain ⟨x10_2, x11_2, rfl, HA, HK2, HO_5, HO_10, HB⟩ := hrel
 cases gk with
 | zero => exact absurd HA.out (by simp [spec_l07Mails.l1])
 | succ k2 =>
  skip;{
 have H := HA.out
 clear HA
 simp only [spec_l07Mails.l1] at H
 by_cases c44 : x11_2 < (x5_1.length : Int)
 {
 rw [if_pos c44] at H
 have c44b0 := decide_eq_true c44
 clear c44
 by_cases c45 : 0 ≤ x11_2
 {
 rw [if_pos c45] at H
 have c45b0 := decide_eq_true c45
 clear c45
 obtain ⟨⟨t410, t411, t412, t413, t414, t415, t416, t417, t418, t419⟩, A46, H⟩ := eb H
 try dsimp only at H
 have HS_ := Aside0.mk H
 clear H
 obtain ⟨Ao50, co50, eo50⟩ := Kd.R_slice HO_5.out
 subst eo50
 have p409 : 0 ≤ (x11_2 : Int) := oda
 have q409 : x11_2 < (x5_1.length : Int) := oda
 obtain ⟨ad409, e409, hx409_0⟩ := Kd.at_int (Kd.R_reads' HO_5.out).2.2 x11_2 p409 q409
 cases e409
 replace p409 := eq_true p409
 replace q409 := eq_true q409
 go_wp2_with ((with_reducible refine gate_callee (f := 80) rfl ?_); refine gl (some 68) Try.func80 #[.slice A0 l0.length c0, .int .i64 3, .int .i64 a1, .int .i64 (rd x5_1 x11_2)] ?_; (with_reducible refine (spec_l07Best.calls k2 _ _ l0 3 a1 (rd x5_1 x11_2) _ _ _ _ _ _ _ _ _ _ _ ?side1 ?side2 A46.out).mono ?_); (case side1 => exact cG (Kd.C_below HR0.out HB.out)); (case side2 => exact HC0.out); rintro e w51 ⟨rfl, hb⟩; refine ⟨_, rfl, ?_⟩; replace HO_5 := rB HO_5 hb; replace HO_10 := rB HO_10 hb; replace HB := lB HB hb; (try clear hb); (try clear hk); refine Stop.out ?_)
 have H := HS_.out
 clear HS_
 obtain ⟨⟨t424, t425, t426, t427, t428, t429, t430, t431, t432, t433⟩, A47, H⟩ := eb H
 try dsimp only at H
 by_cases c48 : t433 = true
 {
 subst c48
 rw [if_pos rfl] at H
 by_cases c49 : x10_2.length < 4398046511104
 {
 rw [if_pos c49] at H
 have LMc49 := Aside0.mk c49
 clear c49
 obtain ⟨y435, hy435⟩ : ∃ y_ : List (S68), y_ = (x10_2 ++ [(⟨rd x5_1 x11_2, t429, t418⟩ : S68)]) := ⟨_, rfl⟩
 replace H : (spec_l07Mails.l1 k2 l0 a1 x5_1 y435 (wrap64 (x11_2 + 1))) = some r := by first | (rw [hy435]; with_reducible exact H) | (have H2_ := (Option.bind_some _ _).symm.trans H; rw [hy435]; with_reducible exact H2_) | (have H2_ := (Option.bind_some _ _).symm.trans H; with_reducible exact H2_) | with_reducible exact H | (rw [hy435]; exact H) | exact H
 have Ny435 := Aside0.mk hy435
 clear hy435
 have H' := Aside0.mk H
 clear H
 refine ⟨?_⟩
 try go_wp2_with ((with_reducible refine gate_dst (N := 12) rfl ?_); refine bx 12 #[.int .i64 0, .int .i64 0, .int .i64 0, .int .i64 0, .int .i64 0, .int .i64 0, .string (⟨#[]⟩ : ByteArray), .string (⟨#[]⟩ : ByteArray), .string (⟨#[]⟩ : ByteArray)] 32 ?_; intro gb420 hg w52 hbox hb; replace HO_5 := rB HO_5 hb; replace HO_10 := rB HO_10 hb; replace BK420 := ak (hbox); replace GE420 := ak (bz hg (lG HB)); replace HB := lB HB hb; clear hb hbox hg; obtain ⟨_, _, _, _, _, _, _, _, _, _, _, _, _, _, _, _, _, _⟩ := bC9 BK420)
 obtain ⟨w54, eW_⟩ : ∃ w_, w_ = (((((((((w52.setCell ⟨gb420, 0, none⟩ (.int .i64 t410)).setCell ⟨gb420, 1, none⟩ (.int .i64 t411)).setCell ⟨gb420, 2, none⟩ (.int .i64 t412)).setCell ⟨gb420, 3, none⟩ (.int .i64 t413)).setCell ⟨gb420, 4, none⟩ (.int .i64 t414)).setCell ⟨gb420, 5, none⟩ (.int .i64 t415)).setCell ⟨gb420, 6, none⟩ (.string t416)).setCell ⟨gb420, 7, none⟩ (.string t417)).setCell ⟨gb420, 8, none⟩ (.string t418)) := ⟨_, rfl⟩
 have n0_ : Aside0 (Kd.R (Kd.int .i64) 3 w54 w.heap.size (fun _ => True) (.slice (some ad409) x5_1.length co50) x5_1) := by rw [eW_]; exact ⟨by exact Kd.R_mono (rT HO_5 BK420 (by decide)) (fun _ hk => trivial)⟩
 have n1_ : Aside0 (Kd.R k68 68 w54 w.heap.size (fun _ => True) u10 x10_2) := by rw [eW_]; exact ⟨by exact Kd.R_mono (rT HO_10 BK420 (by decide)) (fun _ hk => trivial)⟩
 have n2_ : Aside0 (w54.heap[gb420]? = some (.cells #[.int .i64 t410, .int .i64 t411, .int .i64 t412, .int .i64 t413, .int .i64 t414, .int .i64 t415, .string t416, .string t417, .string t418] 32 (0, 0))) := by rw [eW_]; exact ⟨bW BK420⟩
 have n3_ : Aside0 (Below w.heap.size w w54) := by rw [eW_]; exact ⟨by exact lT HB (gC GE420 gN)⟩
 try clear HO_5 HO_10 BK420 HB
 rw [← eW_];clear eW_
 have HO_5 := n0_
 have HO_10 := n1_
 have BK420 := n2_
 have HB := n3_
 clear n0_ n1_ n2_ n3_
 replace HO_5 := ak (Kd.R_drew HO_5.out)
 replace HO_10 := ak (Kd.R_drew HO_10.out)
 replace BK420 := ak (blk_drew BK420.out)
 replace HB := ak (below_drew1 HB.out)
 have p421 : 0 ≤ (x11_2 : Int) := oda
 have q421 : x11_2 < (x5_1.length : Int) := oda
 obtain ⟨ad421, e421, hx421_0⟩ := Kd.at_int (Kd.R_reads' HO_5.out).2.2 x11_2 p421 q421
 obtain rfl : ad409 = ad421 := (by injection e421)
 replace p421 := eq_true p421
 replace q421 := eq_true q421
 refine start_ (n := 13) (S := fun w' => w'.cell? ⟨gb420, 0, none⟩ = some (.int .i64 t410) ∧ w'.cell? ⟨gb420, 1, none⟩ = some (.int .i64 t411) ∧ w'.cell? ⟨gb420, 2, none⟩ = some (.int .i64 t412) ∧ w'.cell? ⟨gb420, 3, none⟩ = some (.int .i64 t413) ∧ w'.cell? ⟨gb420, 4, none⟩ = some (.int .i64 t414) ∧ w'.cell? ⟨gb420, 5, none⟩ = some (.int .i64 t415) ∧ w'.cell? ⟨gb420, 6, none⟩ = some (.string t416) ∧ w'.cell? ⟨gb420, 7, none⟩ = some (.string t417) ∧ w'.cell? ⟨gb420, 8, none⟩ = some (.string t418) ∧ w'.cell? (ad409.add (x11_2).toNat) = some (.int .i64 (rd x5_1 x11_2))) (ds := []) (fb 13 0) (by kernel_rfl) rfl rfl ⟨bc BK420 0, bc BK420 1, bc BK420 2, bc BK420 3, bc BK420 4, bc BK420 5, bc BK420 6, bc BK420 7, bc BK420 8, hx421_0⟩ (fun hHeld => ?_); refine with_tabW spec_l07Mails.tab14 spec_l07Mails.bits14 (fun HT_ HW_ => ?_)
 generalize w54.drew = w55 at HO_5 HO_10 BK420 HB hx421_0 hHeld ⊢
 refine pu 0 71 (fb 13 1) HT_ ?_
 refine pu 1 72 (fb 13 3) HT_ ?_
 refine pu 2 73 (fb 13 7) HT_ ?_
 refine pu 4 75 (fb 13 23) HT_ ?_
 refine pu 5 76 (fb 13 55) HT_ ?_
 refine pu 7 78 (fb 13 183) HT_ ?_
 refine pu 8 79 (fb 13 439) HT_ ?_
 refine tk 3 74 (fb 13 447) HT_ HW_ hHeld ?_
 refine tk 6 77 (fb 13 511) HT_ HW_ hHeld ?_
 refine tk 9 80 (fb 13 1023) HT_ HW_ hHeld ?_
 refine pu 10 81 (fb 13 2047) HT_ ?_
 refine on 11 (some 14) (fb 13 4095) HT_ (fun K hK => ?_)
 refine box_step ?hg (N := 14) ?hd (cs := #[.int .i64 0, .int .i64 0, .string (⟨#[]⟩ : ByteArray)]) (t := 68) ?hr ?_; (case hd => rfl); (case hg => rfl); (case hr => first | (go_simp; done) | (go_simp; rfl))
 intro gb422 hg w56 hbox hb
 have HS9_ := (hb.cell (World.block_lt_of_cell? _ _ (hHeld.2.2.2.2.2.2.2.2.2))).trans (hHeld.2.2.2.2.2.2.2.2.2)
 replace HO_5 := rB HO_5 hb
 replace HO_10 := ak (Kd.R_below (Kd.R_elderB (rG HO_10) gb422 (Nat.le_of_eq hg.symm)) hb)
 replace BK422 := ak (hbox)
 replace GW422 := ak (bz hg (lT HB (gC GE420 gN)))
 replace GE422 := ak (bz hg (lT HB (gC GE420 gN)))
 replace HB := ak (below_step (lT HB (gC GE420 gN)) hb)
 replace NB420_422 := ak (nl hg (bG BK420))
 replace NB422_420 := ak (ng hg (bG BK420))
 replace BK420 := bB BK420 hb
 clear hb hbox hg
 refine hK.out _ _ ⟨bc BK420 0, bc BK420 1, bc BK420 2, bc BK420 3, bc BK420 4, bc BK420 5, bc BK420 6, bc BK420 7, bc BK420 8, HS9_⟩ (fun hHeld => ?_)
 clear hK K
 refine nm ?_
 refine on 12 none (fb 13 8191) HT_ (fun K hK => ?_)
 have hs57 : w56.cell? ⟨gb422, 0, none⟩ = some (.int .i64 0) := bc BK422 0
 have hfs57 := blk_frozen BK422.out 0
 have hns57_0 := NB420_422.out
 have hms57_0 := NB422_420.out
 have hs58 : w56.cell? ⟨gb422, 1, none⟩ = some (.int .i64 0) := bc BK422 1
 have hfs58 := blk_frozen BK422.out 1
 have hns58_0 := NB420_422.out
 have hms58_0 := NB422_420.out
 have hs59 : w56.cell? ⟨gb422, 2, none⟩ = some (.string (⟨#[]⟩ : ByteArray)) := bc BK422 2
 have hfs59 := blk_frozen BK422.out 2
 have hns59_0 := NB420_422.out
 have hms59_0 := NB422_420.out
 refine skip_ (w1 := ?_) (by rfl) rfl ?_ ?_
 rotate_left
 {
 go_simp
 rfl
 }
 refine hK.out _ _ ⟨((cell_far (p := ⟨gb422, _, none⟩) NB420_422.out _).trans (((cell_far (p := ⟨gb422, _, none⟩) NB420_422.out _).trans (((cell_far (p := ⟨gb422, _, none⟩) NB420_422.out _).trans (hHeld.1)))))), ((cell_far (p := ⟨gb422, _, none⟩) NB420_422.out _).trans (((cell_far (p := ⟨gb422, _, none⟩) NB420_422.out _).trans (((cell_far (p := ⟨gb422, _, none⟩) NB420_422.out _).trans (hHeld.2.1)))))), ((cell_far (p := ⟨gb422, _, none⟩) NB420_422.out _).trans (((cell_far (p := ⟨gb422, _, none⟩) NB420_422.out _).trans (((cell_far (p := ⟨gb422, _, none⟩) NB420_422.out _).trans (hHeld.2.2.1)))))), ((cell_far (p := ⟨gb422, _, none⟩) NB420_422.out _).trans (((cell_far (p := ⟨gb422, _, none⟩) NB420_422.out _).trans (((cell_far (p := ⟨gb422, _, none⟩) NB420_422.out _).trans (hHeld.2.2.2.1)))))), ((cell_far (p := ⟨gb422, _, none⟩) NB420_422.out _).trans (((cell_far (p := ⟨gb422, _, none⟩) NB420_422.out _).trans (((cell_far (p := ⟨gb422, _, none⟩) NB420_422.out _).trans (hHeld.2.2.2.2.1)))))), ((cell_far (p := ⟨gb422, _, none⟩) NB420_422.out _).trans (((cell_far (p := ⟨gb422, _, none⟩) NB420_422.out _).trans (((cell_far (p := ⟨gb422, _, none⟩) NB420_422.out _).trans (hHeld.2.2.2.2.2.1)))))), ((cell_far (p := ⟨gb422, _, none⟩) NB420_422.out _).trans (((cell_far (p := ⟨gb422, _, none⟩) NB420_422.out _).trans (((cell_far (p := ⟨gb422, _, none⟩) NB420_422.out _).trans (hHeld.2.2.2.2.2.2.1)))))), ((cell_far (p := ⟨gb422, _, none⟩) NB420_422.out _).trans (((cell_far (p := ⟨gb422, _, none⟩) NB420_422.out _).trans (((cell_far (p := ⟨gb422, _, none⟩) NB420_422.out _).trans (hHeld.2.2.2.2.2.2.2.1)))))), ((cell_far (p := ⟨gb422, _, none⟩) NB420_422.out _).trans (((cell_far (p := ⟨gb422, _, none⟩) NB420_422.out _).trans (((cell_far (p := ⟨gb422, _, none⟩) NB420_422.out _).trans (hHeld.2.2.2.2.2.2.2.2.1)))))), ((cell_far (p := ⟨gb422, _, none⟩) (by first | exact Kd.own_blk (Kd.R_ne HO_5.out BK422.out (by decide)) | (rw [add_block]; exact Kd.own_blk (Kd.R_ne HO_5.out BK422.out (by decide))) | (show (Addr.add _ _).block ≠ _; rw [add_block]; exact Kd.own_blk (Kd.R_ne HO_5.out BK422.out (by decide))) | (dsimp only; exact Kd.own_blk (Kd.R_ne HO_5.out BK422.out (by decide)))) _).trans (((cell_far (p := ⟨gb422, _, none⟩) (by first | exact Kd.own_blk (Kd.R_ne HO_5.out BK422.out (by decide)) | (rw [add_block]; exact Kd.own_blk (Kd.R_ne HO_5.out BK422.out (by decide))) | (show (Addr.add _ _).block ≠ _; rw [add_block]; exact Kd.own_blk (Kd.R_ne HO_5.out BK422.out (by decide))) | (dsimp only; exact Kd.own_blk (Kd.R_ne HO_5.out BK422.out (by decide)))) _).trans (((cell_far (p := ⟨gb422, _, none⟩) (by first | exact Kd.own_blk (Kd.R_ne HO_5.out BK422.out (by decide)) | (rw [add_block]; exact Kd.own_blk (Kd.R_ne HO_5.out BK422.out (by decide))) | (show (Addr.add _ _).block ≠ _; rw [add_block]; exact Kd.own_blk (Kd.R_ne HO_5.out BK422.out (by decide))) | (dsimp only; exact Kd.own_blk (Kd.R_ne HO_5.out BK422.out (by decide)))) _).trans (hHeld.2.2.2.2.2.2.2.2.2))))))⟩ (fun hHeld => ?_)
 clear hK K
 refine done_ (done_of HT_.out (by kernel_rfl)) ?_
 have p423 : 0 ≤ (x11_2 : Int) := oda
 have q423 : x11_2 < (x5_1.length : Int) := oda
 obtain ⟨ad423, e423, hx423_0⟩ := Kd.at_int (Kd.R_reads' HO_5.out).2.2 x11_2 p423 q423
 obtain rfl : ad409 = ad423 := (by injection e423)
 have hn423_0 : ad409.block ≠ gb422 := Kd.own_blk (Kd.R_ne HO_5.out BK422.out (by decide))
 have hn423_1 : ad409.block ≠ gb422 := Kd.own_blk (Kd.R_ne HO_5.out BK422.out (by decide))
 have hn423_2 : ad409.block ≠ gb422 := Kd.own_blk (Kd.R_ne HO_5.out BK422.out (by decide))
 replace hx423_0 := cF hx423_0 ⟨gb422, 0, none⟩ (.int .i64 (rd x5_1 x11_2)) (aF hn423_0)
 replace hx423_0 := cF hx423_0 ⟨gb422, 1, none⟩ (.int .i64 t415) (aF hn423_0)
 replace hx423_0 := cF hx423_0 ⟨gb422, 2, none⟩ (.string t418) (aF hn423_0)
 clear hn423_0
 clear hn423_1
 clear hn423_2
 replace p423 := eq_true p423
 replace q423 := eq_true q423
 try go_wp2_with (first | ((with_reducible refine gate_callee (f := 80) rfl ?_); refine gl (some 89) Try.func80 #[.slice A0 l0.length c0, .int .i64 4, .int .i64 a1, .int .i64 (rd x5_1 x11_2)] ?_; (with_reducible refine (spec_l07Best.calls k2 _ _ l0 4 a1 (rd x5_1 x11_2) _ _ _ _ _ _ _ _ _ _ _ ?side1 ?side2 A47.out).mono ?_); (case side1 => exact Kd.C_below HR0.out (lT HB (gC GE420 (gC GE422 gN)))); (case side2 => exact HC0.out); rintro e w60 ⟨rfl, hb⟩; refine ⟨_, rfl, ?_⟩; replace HO_5 := ak (Kd.R_below (rT HO_5 BK422 (by decide)) hb); replace HO_10 := ak (Kd.R_below (by (with_reducible repeat (first | apply Kd.R_alloc | apply Kd.R_drewN | apply Kd.R_drew)); exact (Kd.R_mono (Kd.R_far (p := ⟨gb422, 2, none⟩) (Kd.R_far (p := ⟨gb422, 1, none⟩) (Kd.R_far (p := ⟨gb422, 0, none⟩) (Kd.R_mono HO_10.out (fun k_ hk => (⟨hk, hk.2⟩ : _ ∧ k_ ≠ gb422))) (fun _ hk => hk.2) (.int .i64 (rd x5_1 x11_2))) (fun _ hk => hk.2) (.int .i64 t415)) (fun _ hk => hk.2) (.string t418)) (fun _ h_ => h_.1))) hb); replace BK420 := ak (blk_below (bT BK420 (nC NB420_422 nN)) hb); replace BK422 := ak (blk_below (g := gb422) (o := .cells #[.int .i64 (rd x5_1 x11_2), .int .i64 t415, .string t418] 68 (0, 0)) (bW BK422) hb); replace HB := ak (below_step (lT HB (gC GE420 (gC GE422 gN))) hb); (try clear hb); (try clear hk)) | ((with_reducible refine gate_dst (N := 15) rfl ?_); refine bx 15 #[.int .i64 0, .int .i64 0, .int .i64 0, .int .i64 0, .int .i64 0, .int .i64 0, .string (⟨#[]⟩ : ByteArray), .string (⟨#[]⟩ : ByteArray), .string (⟨#[]⟩ : ByteArray)] 32 ?_; intro gb434 hg w61 hbox hb; replace HO_5 := rB HO_5 hb; replace HO_10 := rB HO_10 hb; replace BK434 := ak (hbox); replace GW434 := ak (bz hg (lT HB (gC GE420 (gC GE422 gN)))); replace GE434 := ak (bz hg (lT HB (gC GE420 (gC GE422 gN)))); replace HB := ak (below_step (lT HB (gC GE420 (gC GE422 gN))) hb); replace NB420_434 := ak (nl hg (bG BK420)); replace NB434_420 := ak (ng hg (bG BK420)); replace BK420 := bB BK420 hb; replace NB422_434 := ak (nl hg (bG BK422)); replace NB434_422 := ak (ng hg (bG BK422)); replace BK422 := bB BK422 hb; clear hb hbox hg; have hnb62 := NB434_420.out; have hnc62 := NB420_434.out; have hnb63 := NB434_422.out; have hnc63 := NB422_434.out; obtain ⟨_, _, _, _, _, _, _, _, _, _, _, _, _, _, _, _, _, _⟩ := bC9 BK434; have hnb65 := NB422_420.out; have hnc65 := NB420_422.out; obtain ⟨_, _, _, _, _, _⟩ := bC3 BK422) | ((with_reducible refine gate_builtin (b := .append) (xs := #[.tmp 97, .tmp 99]) rfl ?_); at_builtin; refine Kd.R_append k68 (w0 := w) w.heap.size rfl (.tmp 97) (.tmp 99) 64 68 (.agg #[(.int .i64 0), (.int .i64 0), (.string ⟨#[]⟩)]) 32 rfl Try.underlying64 info68 rfl (by decide) (by omega) u10 x10_2 (⟨rd x5_1 x11_2, t429, t418⟩ : S68) [.int .i64 (rd x5_1 x11_2), .int .i64 t429, .string t418] (fun k_ => k_ ≠ gb422) (fun _ => False) rfl (by first | (go_simp; done) | (go_simp; rfl)) ?aP (fun _ hk => hk.elim) ?aF ?aO ?aB ?aS ?aL ?_; (case aP => exact k68_mkM _ _ _ (⟨rd x5_1 x11_2, t429, t418⟩ : S68)); (case aB => exact (lT HB (gC GE420 (gC GE422 (gC GE434 gN))))); (case aF => exact (fun k_ hk => Kd.freshB (g := gb422) (o := .cells #[.int .i64 (rd x5_1 x11_2), .int .i64 t429, .string t418] 68 (0, 0)) (bF BK422 (nC NB422_434 nN)) k_ hk)); (case aO => exact (by (with_reducible repeat (first | apply Kd.R_alloc | apply Kd.R_drewN | apply Kd.R_drew)); exact Kd.R_mono (Kd.R_far (p := ⟨gb422, 1, none⟩) (Kd.R_far (p := ⟨gb434, 8, none⟩) (Kd.R_far (p := ⟨gb434, 7, none⟩) (Kd.R_far (p := ⟨gb434, 6, none⟩) (Kd.R_far (p := ⟨gb434, 5, none⟩) (Kd.R_far (p := ⟨gb434, 4, none⟩) (Kd.R_far (p := ⟨gb434, 3, none⟩) (Kd.R_far (p := ⟨gb434, 2, none⟩) (Kd.R_far (p := ⟨gb434, 1, none⟩) (Kd.R_far (p := ⟨gb434, 0, none⟩) (Kd.R_mono (Kd.R_types HO_10.out BK434.out (by decide)) (fun k_ hk => (⟨hk, hk.1.2⟩ : _ ∧ k_ ≠ gb422))) (fun _ hk => hk.1.2) (.int .i64 t424)) (fun _ hk => hk.1.2) (.int .i64 t425)) (fun _ hk => hk.1.2) (.int .i64 t426)) (fun _ hk => hk.1.2) (.int .i64 t427)) (fun _ hk => hk.1.2) (.int .i64 t428)) (fun _ hk => hk.1.2) (.int .i64 t429)) (fun _ hk => hk.1.2) (.string t430)) (fun _ hk => hk.1.2) (.string t431)) (fun _ hk => hk.1.2) (.string t432)) (fun _ hk => hk.2) (.int .i64 t429)) (fun _ hk => hk.1.1.2))); (case aS => exact (below_size (lT HB (gC GE420 (gC GE422 (gC GE434 gN)))))); (case aL => have := LMc49.out; omega); intro v436 w67 ho hb hg hat; rw [← Ny435.out] at ho; have n0_ := ak (Kd.R_over' (by (with_reducible repeat (first | apply Kd.R_alloc | apply Kd.R_drewN | apply Kd.R_drew)); exact (Kd.R_mono (Kd.R_mono (Kd.R_far (p := ⟨gb422, 1, none⟩) (Kd.R_far (p := ⟨gb434, 8, none⟩) (Kd.R_far (p := ⟨gb434, 7, none⟩) (Kd.R_far (p := ⟨gb434, 6, none⟩) (Kd.R_far (p := ⟨gb434, 5, none⟩) (Kd.R_far (p := ⟨gb434, 4, none⟩) (Kd.R_far (p := ⟨gb434, 3, none⟩) (Kd.R_far (p := ⟨gb434, 2, none⟩) (Kd.R_far (p := ⟨gb434, 1, none⟩) (Kd.R_far (p := ⟨gb434, 0, none⟩) (Kd.R_types (Kd.R_types HO_5.out BK434.out (by decide)) BK422.out (by decide)) (fun _ hk => hk.1.2) (.int .i64 t424)) (fun _ hk => hk.1.2) (.int .i64 t425)) (fun _ hk => hk.1.2) (.int .i64 t426)) (fun _ hk => hk.1.2) (.int .i64 t427)) (fun _ hk => hk.1.2) (.int .i64 t428)) (fun _ hk => hk.1.2) (.int .i64 t429)) (fun _ hk => hk.1.2) (.string t430)) (fun _ hk => hk.1.2) (.string t431)) (fun _ hk => hk.1.2) (.string t432)) (fun _ hk => hk.2) (.int .i64 t429)) (fun _ h_ => h_.1)) (fun _ h_ => h_.1))) (Kd.R_typed (by (with_reducible repeat (first | apply Kd.R_alloc | apply Kd.R_drewN | apply Kd.R_drew)); exact (Kd.R_mono (Kd.R_mono (Kd.R_far (p := ⟨gb422, 1, none⟩) (Kd.R_far (p := ⟨gb434, 8, none⟩) (Kd.R_far (p := ⟨gb434, 7, none⟩) (Kd.R_far (p := ⟨gb434, 6, none⟩) (Kd.R_far (p := ⟨gb434, 5, none⟩) (Kd.R_far (p := ⟨gb434, 4, none⟩) (Kd.R_far (p := ⟨gb434, 3, none⟩) (Kd.R_far (p := ⟨gb434, 2, none⟩) (Kd.R_far (p := ⟨gb434, 1, none⟩) (Kd.R_far (p := ⟨gb434, 0, none⟩) (Kd.R_mono (Kd.R_types HO_10.out BK434.out (by decide)) (fun k_ hk => (⟨hk, hk.1.2⟩ : _ ∧ k_ ≠ gb422))) (fun _ hk => hk.1.2) (.int .i64 t424)) (fun _ hk => hk.1.2) (.int .i64 t425)) (fun _ hk => hk.1.2) (.int .i64 t426)) (fun _ hk => hk.1.2) (.int .i64 t427)) (fun _ hk => hk.1.2) (.int .i64 t428)) (fun _ hk => hk.1.2) (.int .i64 t429)) (fun _ hk => hk.1.2) (.string t430)) (fun _ hk => hk.1.2) (.string t431)) (fun _ hk => hk.1.2) (.string t432)) (fun _ hk => hk.2) (.int .i64 t429)) (fun _ h_ => h_.1)) (fun _ h_ => h_.1)))) (by decide) hg); have n1_ := ak (blk_grown (g := gb420) (o := .cells #[.int .i64 t410, .int .i64 t411, .int .i64 t412, .int .i64 t413, .int .i64 t414, .int .i64 t415, .string t416, .string t417, .string t418] 32 (0, 0)) (bT BK420 (nC NB420_422 (nC NB420_434 nN))) hg (Kd.R_ne HO_10.out BK420.out (by decide))); have n2_ := ak (blk_grown (g := gb422) (o := .cells #[.int .i64 (rd x5_1 x11_2), .int .i64 t429, .string t418] 68 (0, 0)) (bF BK422 (nC NB422_434 nN)) hg (Kd.R_away HO_10.out (fun _ hk => hk.2))); have n3_ := ak (blk_grown (g := gb434) (o := .cells #[.int .i64 t424, .int .i64 t425, .int .i64 t426, .int .i64 t427, .int .i64 t428, .int .i64 t429, .string t430, .string t431, .string t432] 32 (0, 0)) (bF BK434 (nC NB434_422 nN)) hg (Kd.R_ne HO_10.out BK434.out (by decide))); have n4_ := ak (hb); have n5_ := ak (ho); clear HO_5; clear BK420; clear BK422; clear BK434; clear HB; clear HO_10; have HO_5 := n0_; have BK420 := n1_; have BK422 := n2_; have BK434 := n3_; have HB := n4_; have HO437 := n5_; clear n0_ n1_ n2_ n3_ n4_ n5_; clear ho hb hg hat))
 go_roundg k2
 case measure => have := HK1.out; have := HK2.out; omega
 case rel => exact ⟨_, _, rr, H', ⟨by have := HK1.out; have := HK2.out; omega⟩, ⟨by (with_reducible repeat (first | apply Kd.R_alloc | apply Kd.R_drewN | apply Kd.R_drew)); exact HO_5.out⟩, ⟨by (with_reducible repeat (first | apply Kd.R_alloc | apply Kd.R_drewN | apply Kd.R_drew)); exact Kd.R_mono HO437.out (fun _ hk => trivial)⟩, ⟨by exact lT HB (gC GE420 (gC GE422 (gC GE434 gN)))⟩⟩
 }
 {rw [if_neg c49] at H;exact absurd H (by simp)}
 }
 {
 replace c48 := Bool.eq_false_iff.mpr c48
 subst c48
 rw [if_neg (show ¬ (false = true) by decide)] at H
 by_cases c68 : x10_2.length < 4398046511104
 {
 rw [if_pos c68] at H
 have LMc68 := Aside0.mk c68
 clear c68
 obtain ⟨y438, hy438⟩ : ∃ y_ : List (S68), y_ = (x10_2 ++ [(⟨rd x5_1 x11_2, t415, t418⟩ : S68)]) := ⟨_, rfl⟩
 replace H : (spec_l07Mails.l1 k2 l0 a1 x5_1 y438 (wrap64 (x11_2 + 1))) = some r := by first | (rw [hy438]; with_reducible exact H) | (have H2_ := (Option.bind_some _ _).symm.trans H; rw [hy438]; with_reducible exact H2_) | (have H2_ := (Option.bind_some _ _).symm.trans H; with_reducible exact H2_) | with_reducible exact H | (rw [hy438]; exact H) | exact H
 have Ny438 := Aside0.mk hy438
 clear hy438
 have H' := Aside0.mk H
 clear H
 refine ⟨?_⟩
 try go_wp2_with ((with_reducible refine gate_dst (N := 12) rfl ?_); refine bx 12 #[.int .i64 0, .int .i64 0, .int .i64 0, .int .i64 0, .int .i64 0, .int .i64 0, .string (⟨#[]⟩ : ByteArray), .string (⟨#[]⟩ : ByteArray), .string (⟨#[]⟩ : ByteArray)] 32 ?_; intro gb420 hg w71 hbox hb; replace HO_5 := rB HO_5 hb; replace HO_10 := rB HO_10 hb; replace BK420 := ak (hbox); replace GE420 := ak (bz hg (lG HB)); replace HB := lB HB hb; clear hb hbox hg; obtain ⟨_, _, _, _, _, _, _, _, _, _, _, _, _, _, _, _, _, _⟩ := bC9 BK420)
 obtain ⟨w73, eW_⟩ : ∃ w_, w_ = (((((((((w71.setCell ⟨gb420, 0, none⟩ (.int .i64 t410)).setCell ⟨gb420, 1, none⟩ (.int .i64 t411)).setCell ⟨gb420, 2, none⟩ (.int .i64 t412)).setCell ⟨gb420, 3, none⟩ (.int .i64 t413)).setCell ⟨gb420, 4, none⟩ (.int .i64 t414)).setCell ⟨gb420, 5, none⟩ (.int .i64 t415)).setCell ⟨gb420, 6, none⟩ (.string t416)).setCell ⟨gb420, 7, none⟩ (.string t417)).setCell ⟨gb420, 8, none⟩ (.string t418)) := ⟨_, rfl⟩
 have n0_ : Aside0 (Kd.R (Kd.int .i64) 3 w73 w.heap.size (fun _ => True) (.slice (some ad409) x5_1.length co50) x5_1) := by rw [eW_]; exact ⟨by exact Kd.R_mono (rT HO_5 BK420 (by decide)) (fun _ hk => trivial)⟩
 have n1_ : Aside0 (Kd.R k68 68 w73 w.heap.size (fun _ => True) u10 x10_2) := by rw [eW_]; exact ⟨by exact Kd.R_mono (rT HO_10 BK420 (by decide)) (fun _ hk => trivial)⟩
 have n2_ : Aside0 (w73.heap[gb420]? = some (.cells #[.int .i64 t410, .int .i64 t411, .int .i64 t412, .int .i64 t413, .int .i64 t414, .int .i64 t415, .string t416, .string t417, .string t418] 32 (0, 0))) := by rw [eW_]; exact ⟨bW BK420⟩
 have n3_ : Aside0 (Below w.heap.size w w73) := by rw [eW_]; exact ⟨by exact lT HB (gC GE420 gN)⟩
 try clear HO_5 HO_10 BK420 HB
 rw [← eW_];clear eW_
 have HO_5 := n0_
 have HO_10 := n1_
 have BK420 := n2_
 have HB := n3_
 clear n0_ n1_ n2_ n3_
 replace HO_5 := ak (Kd.R_drew HO_5.out)
 replace HO_10 := ak (Kd.R_drew HO_10.out)
 replace BK420 := ak (blk_drew BK420.out)
 replace HB := ak (below_drew1 HB.out)
 have p421 : 0 ≤ (x11_2 : Int) := oda
 have q421 : x11_2 < (x5_1.length : Int) := oda
 obtain ⟨ad421, e421, hx421_0⟩ := Kd.at_int (Kd.R_reads' HO_5.out).2.2 x11_2 p421 q421
 obtain rfl : ad409 = ad421 := (by injection e421)
 replace p421 := eq_true p421
 replace q421 := eq_true q421
 refine start_ (n := 13) (S := fun w' => w'.cell? ⟨gb420, 0, none⟩ = some (.int .i64 t410) ∧ w'.cell? ⟨gb420, 1, none⟩ = some (.int .i64 t411) ∧ w'.cell? ⟨gb420, 2, none⟩ = some (.int .i64 t412) ∧ w'.cell? ⟨gb420, 3, none⟩ = some (.int .i64 t413) ∧ w'.cell? ⟨gb420, 4, none⟩ = some (.int .i64 t414) ∧ w'.cell? ⟨gb420, 5, none⟩ = some (.int .i64 t415) ∧ w'.cell? ⟨gb420, 6, none⟩ = some (.string t416) ∧ w'.cell? ⟨gb420, 7, none⟩ = some (.string t417) ∧ w'.cell? ⟨gb420, 8, none⟩ = some (.string t418) ∧ w'.cell? (ad409.add (x11_2).toNat) = some (.int .i64 (rd x5_1 x11_2))) (ds := []) (fb 13 0) (by kernel_rfl) rfl rfl ⟨bc BK420 0, bc BK420 1, bc BK420 2, bc BK420 3, bc BK420 4, bc BK420 5, bc BK420 6, bc BK420 7, bc BK420 8, hx421_0⟩ (fun hHeld => ?_); refine with_tabW spec_l07Mails.tab14 spec_l07Mails.bits14 (fun HT_ HW_ => ?_)
 generalize w73.drew = w74 at HO_5 HO_10 BK420 HB hx421_0 hHeld ⊢
 refine pu 0 71 (fb 13 1) HT_ ?_
 refine pu 1 72 (fb 13 3) HT_ ?_
 refine pu 2 73 (fb 13 7) HT_ ?_
 refine pu 4 75 (fb 13 23) HT_ ?_
 refine pu 5 76 (fb 13 55) HT_ ?_
 refine pu 7 78 (fb 13 183) HT_ ?_
 refine pu 8 79 (fb 13 439) HT_ ?_
 refine tk 3 74 (fb 13 447) HT_ HW_ hHeld ?_
 refine tk 6 77 (fb 13 511) HT_ HW_ hHeld ?_
 refine tk 9 80 (fb 13 1023) HT_ HW_ hHeld ?_
 refine pu 10 81 (fb 13 2047) HT_ ?_
 refine on 11 (some 14) (fb 13 4095) HT_ (fun K hK => ?_)
 refine box_step ?hg (N := 14) ?hd (cs := #[.int .i64 0, .int .i64 0, .string (⟨#[]⟩ : ByteArray)]) (t := 68) ?hr ?_; (case hd => rfl); (case hg => rfl); (case hr => first | (go_simp; done) | (go_simp; rfl))
 intro gb422 hg w75 hbox hb
 have HS9_ := (hb.cell (World.block_lt_of_cell? _ _ (hHeld.2.2.2.2.2.2.2.2.2))).trans (hHeld.2.2.2.2.2.2.2.2.2)
 replace HO_5 := rB HO_5 hb
 replace HO_10 := ak (Kd.R_below (Kd.R_elderB (rG HO_10) gb422 (Nat.le_of_eq hg.symm)) hb)
 replace BK422 := ak (hbox)
 replace GW422 := ak (bz hg (lT HB (gC GE420 gN)))
 replace GE422 := ak (bz hg (lT HB (gC GE420 gN)))
 replace HB := ak (below_step (lT HB (gC GE420 gN)) hb)
 replace NB420_422 := ak (nl hg (bG BK420))
 replace NB422_420 := ak (ng hg (bG BK420))
 replace BK420 := bB BK420 hb
 clear hb hbox hg
 refine hK.out _ _ ⟨bc BK420 0, bc BK420 1, bc BK420 2, bc BK420 3, bc BK420 4, bc BK420 5, bc BK420 6, bc BK420 7, bc BK420 8, HS9_⟩ (fun hHeld => ?_)
 clear hK K
 refine nm ?_
 refine on 12 none (fb 13 8191) HT_ (fun K hK => ?_)
 have hs76 : w75.cell? ⟨gb422, 0, none⟩ = some (.int .i64 0) := bc BK422 0
 have hfs76 := blk_frozen BK422.out 0
 have hns76_0 := NB420_422.out
 have hms76_0 := NB422_420.out
 have hs77 : w75.cell? ⟨gb422, 1, none⟩ = some (.int .i64 0) := bc BK422 1
 have hfs77 := blk_frozen BK422.out 1
 have hns77_0 := NB420_422.out
 have hms77_0 := NB422_420.out
 have hs78 : w75.cell? ⟨gb422, 2, none⟩ = some (.string (⟨#[]⟩ : ByteArray)) := bc BK422 2
 have hfs78 := blk_frozen BK422.out 2
 have hns78_0 := NB420_422.out
 have hms78_0 := NB422_420.out
 refine skip_ (w1 := ?_) (by rfl) rfl ?_ ?_
 rotate_left
 {
 go_simp
 rfl
 }
 refine hK.out _ _ ⟨((cell_far (p := ⟨gb422, _, none⟩) NB420_422.out _).trans (((cell_far (p := ⟨gb422, _, none⟩) NB420_422.out _).trans (((cell_far (p := ⟨gb422, _, none⟩) NB420_422.out _).trans (hHeld.1)))))), ((cell_far (p := ⟨gb422, _, none⟩) NB420_422.out _).trans (((cell_far (p := ⟨gb422, _, none⟩) NB420_422.out _).trans (((cell_far (p := ⟨gb422, _, none⟩) NB420_422.out _).trans (hHeld.2.1)))))), ((cell_far (p := ⟨gb422, _, none⟩) NB420_422.out _).trans (((cell_far (p := ⟨gb422, _, none⟩) NB420_422.out _).trans (((cell_far (p := ⟨gb422, _, none⟩) NB420_422.out _).trans (hHeld.2.2.1)))))), ((cell_far (p := ⟨gb422, _, none⟩) NB420_422.out _).trans (((cell_far (p := ⟨gb422, _, none⟩) NB420_422.out _).trans (((cell_far (p := ⟨gb422, _, none⟩) NB420_422.out _).trans (hHeld.2.2.2.1)))))), ((cell_far (p := ⟨gb422, _, none⟩) NB420_422.out _).trans (((cell_far (p := ⟨gb422, _, none⟩) NB420_422.out _).trans (((cell_far (p := ⟨gb422, _, none⟩) NB420_422.out _).trans (hHeld.2.2.2.2.1)))))), ((cell_far (p := ⟨gb422, _, none⟩) NB420_422.out _).trans (((cell_far (p := ⟨gb422, _, none⟩) NB420_422.out _).trans (((cell_far (p := ⟨gb422, _, none⟩) NB420_422.out _).trans (hHeld.2.2.2.2.2.1)))))), ((cell_far (p := ⟨gb422, _, none⟩) NB420_422.out _).trans (((cell_far (p := ⟨gb422, _, none⟩) NB420_422.out _).trans (((cell_far (p := ⟨gb422, _, none⟩) NB420_422.out _).trans (hHeld.2.2.2.2.2.2.1)))))), ((cell_far (p := ⟨gb422, _, none⟩) NB420_422.out _).trans (((cell_far (p := ⟨gb422, _, none⟩) NB420_422.out _).trans (((cell_far (p := ⟨gb422, _, none⟩) NB420_422.out _).trans (hHeld.2.2.2.2.2.2.2.1)))))), ((cell_far (p := ⟨gb422, _, none⟩) NB420_422.out _).trans (((cell_far (p := ⟨gb422, _, none⟩) NB420_422.out _).trans (((cell_far (p := ⟨gb422, _, none⟩) NB420_422.out _).trans (hHeld.2.2.2.2.2.2.2.2.1)))))), ((cell_far (p := ⟨gb422, _, none⟩) (by first | exact Kd.own_blk (Kd.R_ne HO_5.out BK422.out (by decide)) | (rw [add_block]; exact Kd.own_blk (Kd.R_ne HO_5.out BK422.out (by decide))) | (show (Addr.add _ _).block ≠ _; rw [add_block]; exact Kd.own_blk (Kd.R_ne HO_5.out BK422.out (by decide))) | (dsimp only; exact Kd.own_blk (Kd.R_ne HO_5.out BK422.out (by decide)))) _).trans (((cell_far (p := ⟨gb422, _, none⟩) (by first | exact Kd.own_blk (Kd.R_ne HO_5.out BK422.out (by decide)) | (rw [add_block]; exact Kd.own_blk (Kd.R_ne HO_5.out BK422.out (by decide))) | (show (Addr.add _ _).block ≠ _; rw [add_block]; exact Kd.own_blk (Kd.R_ne HO_5.out BK422.out (by decide))) | (dsimp only; exact Kd.own_blk (Kd.R_ne HO_5.out BK422.out (by decide)))) _).trans (((cell_far (p := ⟨gb422, _, none⟩) (by first | exact Kd.own_blk (Kd.R_ne HO_5.out BK422.out (by decide)) | (rw [add_block]; exact Kd.own_blk (Kd.R_ne HO_5.out BK422.out (by decide))) | (show (Addr.add _ _).block ≠ _; rw [add_block]; exact Kd.own_blk (Kd.R_ne HO_5.out BK422.out (by decide))) | (dsimp only; exact Kd.own_blk (Kd.R_ne HO_5.out BK422.out (by decide)))) _).trans (hHeld.2.2.2.2.2.2.2.2.2))))))⟩ (fun hHeld => ?_)
 clear hK K
 refine done_ (done_of HT_.out (by kernel_rfl)) ?_
 have p423 : 0 ≤ (x11_2 : Int) := oda
 have q423 : x11_2 < (x5_1.length : Int) := oda
 obtain ⟨ad423, e423, hx423_0⟩ := Kd.at_int (Kd.R_reads' HO_5.out).2.2 x11_2 p423 q423
 obtain rfl : ad409 = ad423 := (by injection e423)
 have hn423_0 : ad409.block ≠ gb422 := Kd.own_blk (Kd.R_ne HO_5.out BK422.out (by decide))
 have hn423_1 : ad409.block ≠ gb422 := Kd.own_blk (Kd.R_ne HO_5.out BK422.out (by decide))
 have hn423_2 : ad409.block ≠ gb422 := Kd.own_blk (Kd.R_ne HO_5.out BK422.out (by decide))
 replace hx423_0 := cF hx423_0 ⟨gb422, 0, none⟩ (.int .i64 (rd x5_1 x11_2)) (aF hn423_0)
 replace hx423_0 := cF hx423_0 ⟨gb422, 1, none⟩ (.int .i64 t415) (aF hn423_0)
 replace hx423_0 := cF hx423_0 ⟨gb422, 2, none⟩ (.string t418) (aF hn423_0)
 clear hn423_0
 clear hn423_1
 clear hn423_2
 replace p423 := eq_true p423
 replace q423 := eq_true q423
 try go_wp2_with (first | ((with_reducible refine gate_callee (f := 80) rfl ?_); refine gl (some 89) Try.func80 #[.slice A0 l0.length c0, .int .i64 4, .int .i64 a1, .int .i64 (rd x5_1 x11_2)] ?_; (with_reducible refine (spec_l07Best.calls k2 _ _ l0 4 a1 (rd x5_1 x11_2) _ _ _ _ _ _ _ _ _ _ _ ?side1 ?side2 A47.out).mono ?_); (case side1 => exact Kd.C_below HR0.out (lT HB (gC GE420 (gC GE422 gN)))); (case side2 => exact HC0.out); rintro e w79 ⟨rfl, hb⟩; refine ⟨_, rfl, ?_⟩; replace HO_5 := ak (Kd.R_below (rT HO_5 BK422 (by decide)) hb); replace HO_10 := ak (Kd.R_below (by (with_reducible repeat (first | apply Kd.R_alloc | apply Kd.R_drewN | apply Kd.R_drew)); exact (Kd.R_mono (Kd.R_far (p := ⟨gb422, 2, none⟩) (Kd.R_far (p := ⟨gb422, 1, none⟩) (Kd.R_far (p := ⟨gb422, 0, none⟩) (Kd.R_mono HO_10.out (fun k_ hk => (⟨hk, hk.2⟩ : _ ∧ k_ ≠ gb422))) (fun _ hk => hk.2) (.int .i64 (rd x5_1 x11_2))) (fun _ hk => hk.2) (.int .i64 t415)) (fun _ hk => hk.2) (.string t418)) (fun _ h_ => h_.1))) hb); replace BK420 := ak (blk_below (bT BK420 (nC NB420_422 nN)) hb); replace BK422 := ak (blk_below (g := gb422) (o := .cells #[.int .i64 (rd x5_1 x11_2), .int .i64 t415, .string t418] 68 (0, 0)) (bW BK422) hb); replace HB := ak (below_step (lT HB (gC GE420 (gC GE422 gN))) hb); (try clear hb); (try clear hk)) | ((with_reducible refine gate_dst (N := 15) rfl ?_); refine bx 15 #[.int .i64 0, .int .i64 0, .int .i64 0, .int .i64 0, .int .i64 0, .int .i64 0, .string (⟨#[]⟩ : ByteArray), .string (⟨#[]⟩ : ByteArray), .string (⟨#[]⟩ : ByteArray)] 32 ?_; intro gb434 hg w80 hbox hb; replace HO_5 := rB HO_5 hb; replace HO_10 := rB HO_10 hb; replace BK434 := ak (hbox); replace GW434 := ak (bz hg (lT HB (gC GE420 (gC GE422 gN)))); replace GE434 := ak (bz hg (lT HB (gC GE420 (gC GE422 gN)))); replace HB := ak (below_step (lT HB (gC GE420 (gC GE422 gN))) hb); replace NB420_434 := ak (nl hg (bG BK420)); replace NB434_420 := ak (ng hg (bG BK420)); replace BK420 := bB BK420 hb; replace NB422_434 := ak (nl hg (bG BK422)); replace NB434_422 := ak (ng hg (bG BK422)); replace BK422 := bB BK422 hb; clear hb hbox hg; have hnb81 := NB434_420.out; have hnc81 := NB420_434.out; have hnb82 := NB434_422.out; have hnc82 := NB422_434.out; obtain ⟨_, _, _, _, _, _, _, _, _, _, _, _, _, _, _, _, _, _⟩ := bC9 BK434; have hnb84 := NB422_420.out; have hnc84 := NB420_422.out; obtain ⟨_, _, _, _, _, _⟩ := bC3 BK422) | ((with_reducible refine gate_builtin (b := .append) (xs := #[.tmp 97, .tmp 99]) rfl ?_); at_builtin; refine Kd.R_append k68 (w0 := w) w.heap.size rfl (.tmp 97) (.tmp 99) 64 68 (.agg #[(.int .i64 0), (.int .i64 0), (.string ⟨#[]⟩)]) 32 rfl Try.underlying64 info68 rfl (by decide) (by omega) u10 x10_2 (⟨rd x5_1 x11_2, t415, t418⟩ : S68) [.int .i64 (rd x5_1 x11_2), .int .i64 t415, .string t418] (fun k_ => k_ ≠ gb422) (fun _ => False) rfl (by first | (go_simp; done) | (go_simp; rfl)) ?aP (fun _ hk => hk.elim) ?aF ?aO ?aB ?aS ?aL ?_; (case aP => exact k68_mkM _ _ _ (⟨rd x5_1 x11_2, t415, t418⟩ : S68)); (case aB => exact (lT HB (gC GE420 (gC GE422 (gC GE434 gN))))); (case aF => exact (fun k_ hk => Kd.freshB (g := gb422) (o := .cells #[.int .i64 (rd x5_1 x11_2), .int .i64 t415, .string t418] 68 (0, 0)) (bT BK422 (nC NB422_434 nN)) k_ hk)); (case aO => exact (by (with_reducible repeat (first | apply Kd.R_alloc | apply Kd.R_drewN | apply Kd.R_drew)); exact Kd.R_mono (Kd.R_far (p := ⟨gb434, 8, none⟩) (Kd.R_far (p := ⟨gb434, 7, none⟩) (Kd.R_far (p := ⟨gb434, 6, none⟩) (Kd.R_far (p := ⟨gb434, 5, none⟩) (Kd.R_far (p := ⟨gb434, 4, none⟩) (Kd.R_far (p := ⟨gb434, 3, none⟩) (Kd.R_far (p := ⟨gb434, 2, none⟩) (Kd.R_far (p := ⟨gb434, 1, none⟩) (Kd.R_far (p := ⟨gb434, 0, none⟩) (Kd.R_types HO_10.out BK434.out (by decide)) (fun _ hk => hk.2) (.int .i64 t424)) (fun _ hk => hk.2) (.int .i64 t425)) (fun _ hk => hk.2) (.int .i64 t426)) (fun _ hk => hk.2) (.int .i64 t427)) (fun _ hk => hk.2) (.int .i64 t428)) (fun _ hk => hk.2) (.int .i64 t429)) (fun _ hk => hk.2) (.string t430)) (fun _ hk => hk.2) (.string t431)) (fun _ hk => hk.2) (.string t432)) (fun _ hk => hk.1.2))); (case aS => exact (below_size (lT HB (gC GE420 (gC GE422 (gC GE434 gN)))))); (case aL => have := LMc68.out; omega); intro v439 w86 ho hb hg hat; rw [← Ny438.out] at ho; have n0_ := ak (Kd.R_over' (rT HO_5 BK434 (by decide)) (Kd.R_typed (rT HO_10 BK434 (by decide))) (by decide) hg); have n1_ := ak (blk_grown (g := gb420) (o := .cells #[.int .i64 t410, .int .i64 t411, .int .i64 t412, .int .i64 t413, .int .i64 t414, .int .i64 t415, .string t416, .string t417, .string t418] 32 (0, 0)) (bT BK420 (nC NB420_434 nN)) hg (Kd.R_ne HO_10.out BK420.out (by decide))); have n2_ := ak (blk_grown (g := gb422) (o := .cells #[.int .i64 (rd x5_1 x11_2), .int .i64 t415, .string t418] 68 (0, 0)) (bT BK422 (nC NB422_434 nN)) hg (Kd.R_away HO_10.out (fun _ hk => hk.2))); have n3_ := ak (blk_grown (g := gb434) (o := .cells #[.int .i64 t424, .int .i64 t425, .int .i64 t426, .int .i64 t427, .int .i64 t428, .int .i64 t429, .string t430, .string t431, .string t432] 32 (0, 0)) (bW BK434) hg (Kd.R_ne HO_10.out BK434.out (by decide))); have n4_ := ak (hb); have n5_ := ak (ho); clear HO_5; clear BK420; clear BK422; clear BK434; clear HB; clear HO_10; have HO_5 := n0_; have BK420 := n1_; have BK422 := n2_; have BK434 := n3_; have HB := n4_; have HO440 := n5_; clear n0_ n1_ n2_ n3_ n4_ n5_; clear ho hb hg hat))
 go_roundg k2
 case measure => have := HK1.out; have := HK2.out; omega
 case rel => exact ⟨_, _, rr, H', ⟨by have := HK1.out; have := HK2.out; omega⟩, ⟨by (with_reducible repeat (first | apply Kd.R_alloc | apply Kd.R_drewN | apply Kd.R_drew)); exact HO_5.out⟩, ⟨by (with_reducible repeat (first | apply Kd.R_alloc | apply Kd.R_drewN | apply Kd.R_drew)); exact Kd.R_mono HO440.out (fun _ hk => trivial)⟩, ⟨by exact lT HB (gC GE420 (gC GE422 (gC GE434 gN)))⟩⟩
 }
 {rw [if_neg c68] at H;exact absurd H (by simp)}
 }
 }
 {rw [if_neg c45] at H;exact absurd H (by simp)}
 }
 {
 rw [if_neg c44] at H
 have c44b0 := decide_eq_false c44
 clear c44
 obtain rfl := Option.some.inj H
 obtain ⟨Ao87, co87, eo87⟩ := Kd.R_slice HO_5.out
 subst eo87
 go_wp2
 go_ret
 exact ⟨_, ew, by (with_reducible repeat (first | apply Kd.R_alloc | apply Kd.R_drewN | apply Kd.R_drew)); exact HO_10.out, by exact lG HB⟩
 }
 }
 }
 }
 }
 }
end Go.Proofs.Ytagkjeldheiejaa.PFnStates
