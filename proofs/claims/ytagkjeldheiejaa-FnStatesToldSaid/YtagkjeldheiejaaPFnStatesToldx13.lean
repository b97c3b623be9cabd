-- printed
import Derived.Test.YtagkjeldheiejaaPFnStatesToldx0
import Derived.Test.YtagkjeldheiejaaVFnStatesTold1
namespace Go.Proofs.Ytagkjeldheiejaa.PFnStatesTold
open Go.RowKit YtagkjeldheiejaaW.PrintWords YtagkjeldheiejaaW.PrintLast YtagkjeldheiejaaW.PrintMore
set_option linter.unusedVariables false
set_option linter.unusedSimpArgs false
attribute [local go_sem] max2_int min2_int max_two min_two max_three min_three max_four min_four
set_option maxHeartbeats 8000000
set_option maxRecDepth 100000
mutual
def spec_l07Tell.l0 : Nat → List (S32) → Int → Int → Int → Int → Int → Int → Int → Int → ByteArray → ByteArray → ByteArray → Option (Int × Int × Int × Int × Int × Int × ByteArray × ByteArray × ByteArray)
 | 0, _, _, _, _, _, _, _, _, _, _, _, _ => none
 | k + 1, a, b, c, d, e, f, g, h, i, j, l, m => if c < (a.length : Int) then (if 0 ≤ c then (if ((rd_T32 a c).f1.f0) = 1 then (spec_l07Tell.j1 k a b c (((rd_T32 a c).f1.f1) != b) d e f g h i j l m ((rd_T32 a c).f0) ((rd_T32 a c).f1.f0) ((rd_T32 a c).f1.f1) ((rd_T32 a c).f1.f2) ((rd_T32 a c).f1.f3) ((rd_T32 a c).f1.f4) ((rd_T32 a c).f1.f5) ((rd_T32 a c).f1.f6) ((rd_T32 a c).f1.f7)) else (spec_l07Tell.j1 k a b c true d e f g h i j l m ((rd_T32 a c).f0) ((rd_T32 a c).f1.f0) ((rd_T32 a c).f1.f1) ((rd_T32 a c).f1.f2) ((rd_T32 a c).f1.f3) ((rd_T32 a c).f1.f4) ((rd_T32 a c).f1.f5) ((rd_T32 a c).f1.f6) ((rd_T32 a c).f1.f7))) else (none)) else (some (d, e, f, g, h, i, j, l, m))
def spec_l07Tell.j1 : Nat → List (S32) → Int → Int → Bool → Int → Int → Int → Int → Int → Int → ByteArray → ByteArray → ByteArray → Int → Int → Int → Int → Int → Int → ByteArray → ByteArray → ByteArray → Option (Int × Int × Int × Int × Int × Int × ByteArray × ByteArray × ByteArray)
 | 0, _, _, _, _, _, _, _, _, _, _, _, _, _, _, _, _, _, _, _, _, _, _ => none
 | k + 1, a, b, c, d, e, f, g, h, i, j, l, m, n, o, p, q, r, s, t, u, v, w => if d = true then (spec_l07Tell.l0 k a b (wrap64 (c + 1)) e f g h i j l m n) else (if e = 0 then (spec_l07Tell.l0 k a b (wrap64 (c + 1)) o p q r s t u v w) else (if s > i then (spec_l07Tell.l0 k a b (wrap64 (c + 1)) o p q r s t u v w) else (if s = i then (if o > e then (spec_l07Tell.l0 k a b (wrap64 (c + 1)) o p q r s t u v w) else (spec_l07Tell.l0 k a b (wrap64 (c + 1)) e f g h i j l m n)) else (spec_l07Tell.l0 k a b (wrap64 (c + 1)) e f g h i j l m n))))
end
def spec_l07Tell.f (k : Nat) (l0 : List (S32)) (a1 : Int) : Option (Int × Int × Int × Int × Int × Int × ByteArray × ByteArray × ByteArray) := spec_l07Tell.l0 k l0 a1 0 0 0 0 0 0 0 (⟨#[]⟩ : ByteArray) (⟨#[]⟩ : ByteArray) (⟨#[]⟩ : ByteArray)
theorem spec_l07Tell.mono_l : ∀ k, (∀ y0 y1 y2 y3 y4 y5 y6 y7 y8 y9 y10 y11, LeO (spec_l07Tell.l0 k y0 y1 y2 y3 y4 y5 y6 y7 y8 y9 y10 y11) (spec_l07Tell.l0 (k + 1) y0 y1 y2 y3 y4 y5 y6 y7 y8 y9 y10 y11)) ∧ (∀ y0 y1 y2 y3 y4 y5 y6 y7 y8 y9 y10 y11 y12 y13 y14 y15 y16 y17 y18 y19 y20 y21, LeO (spec_l07Tell.j1 k y0 y1 y2 y3 y4 y5 y6 y7 y8 y9 y10 y11 y12 y13 y14 y15 y16 y17 y18 y19 y20 y21) (spec_l07Tell.j1 (k + 1) y0 y1 y2 y3 y4 y5 y6 y7 y8 y9 y10 y11 y12 y13 y14 y15 y16 y17 y18 y19 y20 y21))
 | 0 => ⟨fun _ _ _ _ _ _ _ _ _ _ _ _ r h => by simp [spec_l07Tell.l0] at h, fun _ _ _ _ _ _ _ _ _ _ _ _ _ _ _ _ _ _ _ _ _ _ r h => by simp [spec_l07Tell.j1] at h⟩
 | k + 1 => by
  obtain ⟨ih0, ih1⟩ := spec_l07Tell.mono_l k
  refine ⟨?_, ?_⟩
  intro y0 y1 y2 y3 y4 y5 y6 y7 y8 y9 y10 y11;unfold spec_l07Tell.l0;rotate_left
  intro y0 y1 y2 y3 y4 y5 y6 y7 y8 y9 y10 y11 y12 y13 y14 y15 y16 y17 y18 y19 y20 y21;unfold spec_l07Tell.j1;rotate_left
  all_goals repeat' with_reducible first | exact ih0 _ _ _ _ _ _ _ _ _ _ _ _ | exact ih1 _ _ _ _ _ _ _ _ _ _ _ _ _ _ _ _ _ _ _ _ _ _ | exact LeO.refl _ | exact LeO.none _ | refine LeO.ite ?_ ?_ | refine LeO.bind ?_ (fun _ => ?_)
theorem spec_l07Tell.mono : ∀ a0 a1 k, LeO (spec_l07Tell.f k a0 a1) (spec_l07Tell.f (k + 1) a0 a1) := by
 intro a0 a1 k
 obtain ⟨ih0, ih1⟩ := spec_l07Tell.mono_l k
 unfold spec_l07Tell.f
 repeat' with_reducible first | exact ih0 _ _ _ _ _ _ _ _ _ _ _ _ | exact ih1 _ _ _ _ _ _ _ _ _ _ _ _ _ _ _ _ _ _ _ _ _ _ | exact LeO.refl _ | exact LeO.none _ | refine LeO.ite ?_ ?_ | refine LeO.bind ?_ (fun _ => ?_)
theorem spec_l07Tell.calls (k : Nat) (A0 : Option Addr) (c0 : Nat) (l0 : List (S32)) (a1 : Int) (r1 : Int) (r2 : Int) (r3 : Int) (r4 : Int) (r5 : Int) (r6 : Int) (r7 : ByteArray) (r8 : ByteArray) (r9 : ByteArray) (w : World) (hr0 : Kd.C k32 w A0 l0.length l0) (hc0 : l0.length ≤ c0) (h : spec_l07Tell.f k l0 a1 = some (r1, r2, r3, r4, r5, r6, r7, r8, r9)) :
  Calls Try.prog 82 #[.slice A0 l0.length c0, .int .i64 a1] w fun e w' => e = .returned (.agg #[.int .i64 r1, .int .i64 r2, .int .i64 r3, .int .i64 r4, .int .i64 r5, .int .i64 r6, .string r7, .string r8, .string r9]) ∧ Below w.heap.size w w' := by
 have hu32 := Try.underlying32
 have HR0 := Aside0.mk hr0
 have HC0 := Aside0.mk hc0
 clear hr0 hc0
 have HB := ak (Below.refl w.heap.size w)
 have H := h
 clear h
 unfold spec_l07Tell.f at H
 have H' := Aside0.mk H
 clear H
 go_enter Try.func82, Try.ntmps82
 go_wp2_with (first | ((with_reducible refine gate_dst (N := 4) rfl ?_); refine b9 4 ?_; intro gb276 hg w3 hbox hb; replace BK276 := ak (hbox); replace GE276 := ak (bz hg (lG HB)); replace HB := lB HB hb; clear hb hbox hg) | ((with_reducible refine gate_dst (N := 5) rfl ?_); refine b9 5 ?_; intro gb277 hg w4 hbox hb; replace BK277 := ak (hbox); replace GW277 := ak (bz hg (lT HB (gC GE276 gN))); replace GE277 := ak (bz hg (lT HB (gC GE276 gN))); replace HB := ak (below_step (lT HB (gC GE276 gN)) hb); replace NB276_277 := ak (nl hg (bG BK276)); replace NB277_276 := ak (ng hg (bG BK276)); replace BK276 := bB BK276 hb; clear hb hbox hg; have hnb5 := NB277_276.out; have hnc5 := NB276_277.out; obtain ⟨hcz6_0, hcz6_1, hcz6_2, hcz6_3, hcz6_4, hcz6_5, hcz6_6, hcz6_7, hcz6_8, hfz6_0, hfz6_1, hfz6_2, hfz6_3, hfz6_4, hfz6_5, hfz6_6, hfz6_7, hfz6_8⟩ := bC9 BK277))
 go_loopg [6] k (fun kq v6 w' => ∃ (x6_1 : Int) (x278000_1 : Int) (x278001_1 : Int) (x278002_1 : Int) (x278003_1 : Int) (x278004_1 : Int) (x278005_1 : Int) (x278006_1 : ByteArray) (x278007_1 : ByteArray) (x278008_1 : ByteArray), v6 = .int .i64 x6_1 ∧ Aside0 (spec_l07Tell.l0 kq l0 a1 x6_1 x278000_1 x278001_1 x278002_1 x278003_1 x278004_1 x278005_1 x278006_1 x278007_1 x278008_1 = some (r1, r2, r3, r4, r5, r6, r7, r8, r9)) ∧ Aside0 (kq ≤ k) ∧ Aside0 (w'.heap[gb276]? = some (.cells #[.int .i64 0, .int .i64 0, .int .i64 0, .int .i64 0, .int .i64 0, .int .i64 0, .string (⟨#[]⟩ : ByteArray), .string (⟨#[]⟩ : ByteArray), .string (⟨#[]⟩ : ByteArray)] 32 (0, 0))) ∧ Aside0 (w'.heap[gb277]? = some (.cells #[.int .i64 x278000_1, .int .i64 x278001_1, .int .i64 x278002_1, .int .i64 x278003_1, .int .i64 x278004_1, .int .i64 x278005_1, .string x278006_1, .string x278007_1, .string x278008_1] 32 (0, 0))) ∧ Aside0 (Below w.heap.size w w'))
 case atStart => exact ⟨_, _, _, _, _, _, _, _, _, _, rr, H', ⟨Nat.le_refl _⟩, ⟨bF BK276 (nC NB276_277 nN)⟩, ⟨bW BK277⟩, ⟨by exact lT HB (gC GE276 (gC GE277 gN))⟩⟩
 case round =>
  skip;{
 clear H'
 try clear hcz6_0 hcz6_1 hcz6_2 hcz6_3 hcz6_4 hcz6_5 hcz6_6 hcz6_7 hcz6_8 hfz6_0 hfz6_1 hfz6_2 hfz6_3 hfz6_4 hfz6_5 hfz6_6 hfz6_7 hfz6_8
 obtain ⟨x6_1, x278000_1, x278001_1, x278002_1, x278003_1, x278004_1, x278005_1, x278006_1, x278007_1, x278008_1, rfl, HA, HK1, BK276, BK277, HB⟩ := hrel
 cases gk with
 | zero => exact absurd HA.out (by simp [spec_l07Tell.l0])
 | succ k1 =>
  skip;{
 have H := HA.out
 clear HA
 simp only [spec_l07Tell.l0] at H
 by_cases c7 : x6_1 < (l0.length : Int)
 {
 rw [if_pos c7] at H
 have c7b0 := decide_eq_true c7
 clear c7
 by_cases c8 : 0 ≤ x6_1
 {
 rw [if_pos c8] at H
 have c8b0 := decide_eq_true c8
 clear c8
 have HC9 := Aside0.mk H
 clear H
 have p278 : 0 ≤ (x6_1 : Int) := oda
 have q278 : x6_1 < (l0.length : Int) := oda
 obtain ⟨ad278, e278, hx278_0, hx278_1, hx278_2, hx278_3, hx278_4, hx278_5, hx278_6, hx278_7, hx278_8⟩ := at_T32 HR0.out x6_1 p278 q278
 cases e278
 replace hx278_0 := clB HB hx278_0
 replace hx278_1 := clB HB hx278_1
 replace hx278_2 := clB HB hx278_2
 replace hx278_3 := clB HB hx278_3
 replace hx278_4 := clB HB hx278_4
 replace hx278_5 := clB HB hx278_5
 replace hx278_6 := clB HB hx278_6
 replace hx278_7 := clB HB hx278_7
 replace hx278_8 := clB HB hx278_8
 replace p278 := eq_true p278
 replace q278 := eq_true q278
 go_upto_region 6 with ((with_reducible refine gate_dst (N := 7) rfl ?_); refine b9 7 ?_; intro gb279 hg w10 hbox hb; replace BK279 := ak (hbox); replace GW279 := ak (bz hg (lT HB (gC GE276 (gC GE277 gN)))); replace GE279 := ak (bz hg (lT HB (gC GE276 (gC GE277 gN)))); replace HB := ak (below_step (lT HB (gC GE276 (gC GE277 gN))) hb); replace NB276_279 := ak (nl hg (bG BK276)); replace NB279_276 := ak (ng hg (bG BK276)); replace BK276 := bB BK276 hb; replace NB277_279 := ak (nl hg (bG BK277)); replace NB279_277 := ak (ng hg (bG BK277)); replace BK277 := bB BK277 hb; clear hb hbox hg; have hnb11 := NB279_276.out; have hnc11 := NB276_279.out; have hnb12 := NB279_277.out; have hnc12 := NB277_279.out; obtain ⟨hcz13_0, hcz13_1, hcz13_2, hcz13_3, hcz13_4, hcz13_5, hcz13_6, hcz13_7, hcz13_8, hfz13_0, hfz13_1, hfz13_2, hfz13_3, hfz13_4, hfz13_5, hfz13_6, hfz13_7, hfz13_8⟩ := bC9 BK279)
 (try simp only [Act.put, List.setIfInBounds_toArray, List.set_cons_zero, List.set_cons_succ])
 go_cut [29] (fun v29 wc => ∃ (kq : Nat) (x29_8 : Bool), v29 = .bool x29_8 ∧ Aside0 (spec_l07Tell.j1 kq l0 a1 x6_1 x29_8 x278000_1 x278001_1 x278002_1 x278003_1 x278004_1 x278005_1 x278006_1 x278007_1 x278008_1 ((rd_T32 l0 x6_1).f0) ((rd_T32 l0 x6_1).f1.f0) ((rd_T32 l0 x6_1).f1.f1) ((rd_T32 l0 x6_1).f1.f2) ((rd_T32 l0 x6_1).f1.f3) ((rd_T32 l0 x6_1).f1.f4) ((rd_T32 l0 x6_1).f1.f5) ((rd_T32 l0 x6_1).f1.f6) ((rd_T32 l0 x6_1).f1.f7) = some (r1, r2, r3, r4, r5, r6, r7, r8, r9)) ∧ Aside0 (kq ≤ k1) ∧ Aside0 (wc.heap[gb276]? = some (.cells #[.int .i64 0, .int .i64 0, .int .i64 0, .int .i64 0, .int .i64 0, .int .i64 0, .string (⟨#[]⟩ : ByteArray), .string (⟨#[]⟩ : ByteArray), .string (⟨#[]⟩ : ByteArray)] 32 (0, 0))) ∧ Aside0 (wc.heap[gb277]? = some (.cells #[.int .i64 x278000_1, .int .i64 x278001_1, .int .i64 x278002_1, .int .i64 x278003_1, .int .i64 x278004_1, .int .i64 x278005_1, .string x278006_1, .string x278007_1, .string x278008_1] 32 (0, 0))) ∧ Aside0 (wc.heap[gb279]? = some (.cells #[.int .i64 ((rd_T32 l0 x6_1).f0), .int .i64 ((rd_T32 l0 x6_1).f1.f0), .int .i64 ((rd_T32 l0 x6_1).f1.f1), .int .i64 ((rd_T32 l0 x6_1).f1.f2), .int .i64 ((rd_T32 l0 x6_1).f1.f3), .int .i64 ((rd_T32 l0 x6_1).f1.f4), .string ((rd_T32 l0 x6_1).f1.f5), .string ((rd_T32 l0 x6_1).f1.f6), .string ((rd_T32 l0 x6_1).f1.f7)] 32 (0, 0))) ∧ Aside0 (Below w.heap.size w wc))
 case first =>
  skip;{
 have H := HC9.out
 clear HC9
 by_cases c14 : ((rd_T32 l0 x6_1).f1.f0) = 1
 {
 rw [if_pos c14] at H
 have c14b0 := beq_iff_eq.mpr c14
 have c14b1 := bne_eq_false_iff_eq.mpr c14
 clear c14
 (first | rw [c14b0] | (simp only [i64_w, i32_w]; rw [c14b0]) | skip)
 have H' := Aside0.mk H
 clear H
 have hnb15 := NB279_276.out
 have hnc15 := NB276_279.out
 have hnb16 := NB279_277.out
 have hnc16 := NB277_279.out
 obtain ⟨_, _, _, _, _, _, _, _, _, _, _, _, _, _, _, _, _, _⟩ := bC9 BK279
 go_wp2
 go_meet
 case rel => exact ⟨_, _, rr, H', ⟨by have := HK1.out; first | omega | exact Nat.le_refl _⟩, ⟨bF BK276 (nC NB276_279 nN)⟩, ⟨bF BK277 (nC NB277_279 nN)⟩, ⟨bW BK279⟩, ⟨by exact lT HB (gC GE276 (gC GE277 (gC GE279 gN)))⟩⟩
 }
 {
 rw [if_neg c14] at H
 have c14b0 := beq_eq_false_iff_ne.mpr c14
 have c14b1 := bne_iff_ne.mpr c14
 (first | rw [c14b0] | (simp only [i64_w, i32_w]; rw [c14b0]) | skip)
 have H' := Aside0.mk H
 clear H
 have hnb18 := NB279_276.out
 have hnc18 := NB276_279.out
 have hnb19 := NB279_277.out
 have hnc19 := NB277_279.out
 obtain ⟨_, _, _, _, _, _, _, _, _, _, _, _, _, _, _, _, _, _⟩ := bC9 BK279
 go_wp2
 go_meet
 case rel => exact ⟨_, _, rr, H', ⟨by have := HK1.out; first | omega | exact Nat.le_refl _⟩, ⟨bF BK276 (nC NB276_279 nN)⟩, ⟨bF BK277 (nC NB277_279 nN)⟩, ⟨bW BK279⟩, ⟨by exact lT HB (gC GE276 (gC GE277 (gC GE279 gN)))⟩⟩
 }
 }
 case rest =>
  skip;{
 clear HC9
 try clear c7 c7b0 c8 c8b0 hcz13_0 hcz13_1 hcz13_2 hcz13_3 hcz13_4 hcz13_5 hcz13_6 hcz13_7 hcz13_8 hcz6_0 hcz6_1 hcz6_2 hcz6_3 hcz6_4 hcz6_5 hcz6_6 hcz6_7 hcz6_8 hfz13_0 hfz13_1 hfz13_2 hfz13_3 hfz13_4 hfz13_5 hfz13_6 hfz13_7 hfz13_8 hfz6_0 hfz6_1 hfz6_2 hfz6_3 hfz6_4 hfz6_5 hfz6_6 hfz6_7 hfz6_8 hx278_0 hx278_1 hx278_2 hx278_3 hx278_4 hx278_5 hx278_6 hx278_7 hx278_8 p278 q278
 obtain ⟨kq, x29_8, rfl, HA, HJ8, BK276, BK277, BK279, HB⟩ := hcut
 cases kq with
 | zero => exact absurd HA.out (by simp [spec_l07Tell.j1])
 | succ kj8 =>
  skip;{
 have H := HA.out
 clear HA
 simp only [spec_l07Tell.j1] at H
 by_cases c21 : x29_8 = true
 {
 subst c21
 rw [if_pos rfl] at H
 have H' := Aside0.mk H
 clear H
 go_wp2
 go_roundg kj8
 case measure => have := HK1.out; have := HJ8.out; omega
 case rel => exact ⟨_, _, _, _, _, _, _, _, _, _, rr, H', ⟨by have := HK1.out; have := HJ8.out; omega⟩, ⟨bG BK276⟩, ⟨bG BK277⟩, ⟨by exact lT HB (gC GE276 (gC GE277 (gC GE279 gN)))⟩⟩
 }
 {
 replace c21 := Bool.eq_false_iff.mpr c21
 subst c21
 rw [if_neg (show ¬ (false = true) by decide)] at H
 by_cases c22 : x278000_1 = 0
 {
 rw [if_pos c22] at H
 have c22b0 := beq_iff_eq.mpr c22
 have c22b1 := bne_eq_false_iff_eq.mpr c22
 clear c22
 have H' := Aside0.mk H
 clear H
 have hnb23 := NB277_276.out
 have hnc23 := NB276_277.out
 have hnb24 := NB277_279.out
 have hnc24 := NB279_277.out
 obtain ⟨_, _, _, _, _, _, _, _, _, _, _, _, _, _, _, _, _, _⟩ := bC9 BK277
 have hnb26 := NB279_276.out
 have hnc26 := NB276_279.out
 obtain ⟨_, _, _, _, _, _, _, _, _, _, _, _, _, _, _, _, _, _⟩ := bC9 BK279
 go_wp2
 go_roundg kj8
 case measure => have := HK1.out; have := HJ8.out; omega
 case rel => exact ⟨_, _, _, _, _, _, _, _, _, _, rr, H', ⟨by have := HK1.out; have := HJ8.out; omega⟩, ⟨bF BK276 (nC NB276_277 nN)⟩, ⟨bW BK277⟩, ⟨by exact lT HB (gC GE276 (gC GE277 (gC GE279 gN)))⟩⟩
 }
 {
 rw [if_neg c22] at H
 have c22b0 := beq_eq_false_iff_ne.mpr c22
 have c22b1 := bne_iff_ne.mpr c22
 by_cases c28 : ((rd_T32 l0 x6_1).f1.f3) > x278004_1
 {
 rw [if_pos c28] at H
 have c28b0 : decide (x278004_1 < ((rd_T32 l0 x6_1).f1.f3)) = true := decide_eq_true c28
 clear c28
 have H' := Aside0.mk H
 clear H
 have hnb29 := NB277_276.out
 have hnc29 := NB276_277.out
 have hnb30 := NB277_279.out
 have hnc30 := NB279_277.out
 obtain ⟨_, _, _, _, _, _, _, _, _, _, _, _, _, _, _, _, _, _⟩ := bC9 BK277
 have hnb32 := NB279_276.out
 have hnc32 := NB276_279.out
 obtain ⟨_, _, _, _, _, _, _, _, _, _, _, _, _, _, _, _, _, _⟩ := bC9 BK279
 go_wp2
 go_roundg kj8
 case measure => have := HK1.out; have := HJ8.out; omega
 case rel => exact ⟨_, _, _, _, _, _, _, _, _, _, rr, H', ⟨by have := HK1.out; have := HJ8.out; omega⟩, ⟨bF BK276 (nC NB276_277 nN)⟩, ⟨bW BK277⟩, ⟨by exact lT HB (gC GE276 (gC GE277 (gC GE279 gN)))⟩⟩
 }
 {
 rw [if_neg c28] at H
 have c28b0 : decide (x278004_1 < ((rd_T32 l0 x6_1).f1.f3)) = false := decide_eq_false c28
 clear c28
 by_cases c34 : ((rd_T32 l0 x6_1).f1.f3) = x278004_1
 {
 rw [if_pos c34] at H
 have c34b0 := beq_iff_eq.mpr c34
 have c34b1 := bne_eq_false_iff_eq.mpr c34
 clear c34
 by_cases c35 : ((rd_T32 l0 x6_1).f0) > x278000_1
 {
 rw [if_pos c35] at H
 have c35b0 : decide (x278000_1 < ((rd_T32 l0 x6_1).f0)) = true := decide_eq_true c35
 clear c35
 have H' := Aside0.mk H
 clear H
 have hnb36 := NB277_276.out
 have hnc36 := NB276_277.out
 have hnb37 := NB277_279.out
 have hnc37 := NB279_277.out
 obtain ⟨_, _, _, _, _, _, _, _, _, _, _, _, _, _, _, _, _, _⟩ := bC9 BK277
 have hnb39 := NB279_276.out
 have hnc39 := NB276_279.out
 obtain ⟨_, _, _, _, _, _, _, _, _, _, _, _, _, _, _, _, _, _⟩ := bC9 BK279
 go_wp2
 go_roundg kj8
 case measure => have := HK1.out; have := HJ8.out; omega
 case rel => exact ⟨_, _, _, _, _, _, _, _, _, _, rr, H', ⟨by have := HK1.out; have := HJ8.out; omega⟩, ⟨bF BK276 (nC NB276_277 nN)⟩, ⟨bW BK277⟩, ⟨by exact lT HB (gC GE276 (gC GE277 (gC GE279 gN)))⟩⟩
 }
 {
 rw [if_neg c35] at H
 have c35b0 : decide (x278000_1 < ((rd_T32 l0 x6_1).f0)) = false := decide_eq_false c35
 clear c35
 have H' := Aside0.mk H
 clear H
 have hnb41 := NB277_276.out
 have hnc41 := NB276_277.out
 have hnb42 := NB277_279.out
 have hnc42 := NB279_277.out
 obtain ⟨_, _, _, _, _, _, _, _, _, _, _, _, _, _, _, _, _, _⟩ := bC9 BK277
 have hnb44 := NB279_276.out
 have hnc44 := NB276_279.out
 obtain ⟨_, _, _, _, _, _, _, _, _, _, _, _, _, _, _, _, _, _⟩ := bC9 BK279
 go_wp2
 go_roundg kj8
 case measure => have := HK1.out; have := HJ8.out; omega
 case rel => exact ⟨_, _, _, _, _, _, _, _, _, _, rr, H', ⟨by have := HK1.out; have := HJ8.out; omega⟩, ⟨bG BK276⟩, ⟨bG BK277⟩, ⟨by exact lT HB (gC GE276 (gC GE277 (gC GE279 gN)))⟩⟩
 }
 }
 {
 rw [if_neg c34] at H
 have c34b0 := beq_eq_false_iff_ne.mpr c34
 have c34b1 := bne_iff_ne.mpr c34
 have H' := Aside0.mk H
 clear H
 have hnb46 := NB277_276.out
 have hnc46 := NB276_277.out
 have hnb47 := NB277_279.out
 have hnc47 := NB279_277.out
 obtain ⟨_, _, _, _, _, _, _, _, _, _, _, _, _, _, _, _, _, _⟩ := bC9 BK277
 have hnb49 := NB279_276.out
 have hnc49 := NB276_279.out
 obtain ⟨_, _, _, _, _, _, _, _, _, _, _, _, _, _, _, _, _, _⟩ := bC9 BK279
 go_wp2
 go_roundg kj8
 case measure => have := HK1.out; have := HJ8.out; omega
 case rel => exact ⟨_, _, _, _, _, _, _, _, _, _, rr, H', ⟨by have := HK1.out; have := HJ8.out; omega⟩, ⟨bG BK276⟩, ⟨bG BK277⟩, ⟨by exact lT HB (gC GE276 (gC GE277 (gC GE279 gN)))⟩⟩
 }
 }
 }
 }
 }
 }
 }
 {rw [if_neg c8] at H;exact absurd H (by simp)}
 }
 {
 rw [if_neg c7] at H
 have c7b0 := decide_eq_false c7
 clear c7
 simp only [Option.some.injEq, Prod.mk.injEq] at H
 obtain ⟨rfl, rfl, rfl, rfl, rfl, rfl, rfl, rfl, rfl⟩ := H
 have hnb51 := NB277_276.out
 have hnc51 := NB276_277.out
 obtain ⟨_, _, _, _, _, _, _, _, _, _, _, _, _, _, _, _, _, _⟩ := bC9 BK277
 obtain ⟨_, _, _, _, _, _, _, _, _, _, _, _, _, _, _, _, _, _⟩ := bC9 BK276
 go_wp2
 refine bodyPost_ret (results_cell_row rfl _ _ gb276 32 #[.int .i64 x278000_1, .int .i64 x278001_1, .int .i64 x278002_1, .int .i64 x278003_1, .int .i64 x278004_1, .int .i64 x278005_1, .string x278006_1, .string x278007_1, .string x278008_1] (0, 0) _ rfl (bW BK276) Try.underlying32 rfl (by kernel_rfl)) rfl ?_
 exact ⟨ew, by exact lT HB (gC GE276 (gC GE277 gN))⟩
 }
 }
 }
end Go.Proofs.Ytagkjeldheiejaa.PFnStatesTold
