-- printed
import Derived.Test.YtagkjeldheiejaaPFnStatesToldx0
import Derived.Test.YtagkjeldheiejaaVFnStatesTold1
namespace Go.Proofs.Ytagkjeldheiejaa.PFnStatesTold
open Go.RowKit YtagkjeldheiejaaW.PrintWords YtagkjeldheiejaaW.PrintLast YtagkjeldheiejaaW.PrintMore
set_option linter.unusedVariables false
set_option linter.unusedSimpArgs false
attribute [local go_sem] max2_int min2_int max_two min_two max_three min_three max_four min_four
set_option maxHeartbeats 8000000
set_option maxRecDepth 100000
def spec_l07Best.l0 : Nat → List (S32) → Int → Int → Int → Bool → Int → Int → Int → Int → Int → Int → Int → ByteArray → ByteArray → ByteArray → Option (Int × Int × Int × Int × Int × Int × ByteArray × ByteArray × ByteArray × Bool)
 | 0, _, _, _, _, _, _, _, _, _, _, _, _, _, _, _ => none
 | k + 1, a, b, c, d, e, f, g, h, i, j, l, m, n, o, p => if f < (a.length : Int) then (if 0 ≤ f then (if ((rd_T32 a f).f1.f0) = b then (if ((rd_T32 a f).f1.f1) = c then (if ((rd_T32 a f).f1.f2) = d then (if e = true then (if ((rd_T32 a f).f0) > g then (spec_l07Best.l0 k a b c d true (wrap64 (f + 1)) ((rd_T32 a f).f0) ((rd_T32 a f).f1.f0) ((rd_T32 a f).f1.f1) ((rd_T32 a f).f1.f2) ((rd_T32 a f).f1.f3) ((rd_T32 a f).f1.f4) ((rd_T32 a f).f1.f5) ((rd_T32 a f).f1.f6) ((rd_T32 a f).f1.f7)) else (spec_l07Best.l0 k a b c d e (wrap64 (f + 1)) g h i j l m n o p)) else (spec_l07Best.l0 k a b c d true (wrap64 (f + 1)) ((rd_T32 a f).f0) ((rd_T32 a f).f1.f0) ((rd_T32 a f).f1.f1) ((rd_T32 a f).f1.f2) ((rd_T32 a f).f1.f3) ((rd_T32 a f).f1.f4) ((rd_T32 a f).f1.f5) ((rd_T32 a f).f1.f6) ((rd_T32 a f).f1.f7))) else (spec_l07Best.l0 k a b c d e (wrap64 (f + 1)) g h i j l m n o p)) else (spec_l07Best.l0 k a b c d e (wrap64 (f + 1)) g h i j l m n o p)) else (spec_l07Best.l0 k a b c d e (wrap64 (f + 1)) g h i j l m n o p)) else (none)) else (some (g, h, i, j, l, m, n, o, p, e))
def spec_l07Best.f (k : Nat) (l0 : List (S32)) (a1 : Int) (a2 : Int) (a3 : Int) : Option (Int × Int × Int × Int × Int × Int × ByteArray × ByteArray × ByteArray × Bool) := spec_l07Best.l0 k l0 a1 a2 a3 false 0 0 0 0 0 0 0 (⟨#[]⟩ : ByteArray) (⟨#[]⟩ : ByteArray) (⟨#[]⟩ : ByteArray)
theorem spec_l07Best.mono_l : ∀ k, (∀ y0 y1 y2 y3 y4 y5 y6 y7 y8 y9 y10 y11 y12 y13 y14, LeO (spec_l07Best.l0 k y0 y1 y2 y3 y4 y5 y6 y7 y8 y9 y10 y11 y12 y13 y14) (spec_l07Best.l0 (k + 1) y0 y1 y2 y3 y4 y5 y6 y7 y8 y9 y10 y11 y12 y13 y14))
 | 0 => fun _ _ _ _ _ _ _ _ _ _ _ _ _ _ _ r h => by simp [spec_l07Best.l0] at h
 | k + 1 => by
  have ih0 := spec_l07Best.mono_l k
  ·intro y0 y1 y2 y3 y4 y5 y6 y7 y8 y9 y10 y11 y12 y13 y14
   unfold spec_l07Best.l0
   repeat' with_reducible first | exact ih0 _ _ _ _ _ _ _ _ _ _ _ _ _ _ _ | exact LeO.refl _ | exact LeO.none _ | refine LeO.ite ?_ ?_ | refine LeO.bind ?_ (fun _ => ?_)
theorem spec_l07Best.mono : ∀ a0 a1 a2 a3 k, LeO (spec_l07Best.f k a0 a1 a2 a3) (spec_l07Best.f (k + 1) a0 a1 a2 a3) := by
 intro a0 a1 a2 a3 k
 have ih0 := spec_l07Best.mono_l k
 unfold spec_l07Best.f
 repeat' with_reducible first | exact ih0 _ _ _ _ _ _ _ _ _ _ _ _ _ _ _ | exact LeO.refl _ | exact LeO.none _ | refine LeO.ite ?_ ?_ | refine LeO.bind ?_ (fun _ => ?_)
theorem spec_l07Best.calls (k : Nat) (A0 : Option Addr) (c0 : Nat) (l0 : List (S32)) (a1 : Int) (a2 : Int) (a3 : Int) (r1 : Int) (r2 : Int) (r3 : Int) (r4 : Int) (r5 : Int) (r6 : Int) (r7 : ByteArray) (r8 : ByteArray) (r9 : ByteArray) (r10 : Bool) (w : World) (hr0 : Kd.C k32 w A0 l0.length l0) (hc0 : l0.length ≤ c0) (h : spec_l07Best.f k l0 a1 a2 a3 = some (r1, r2, r3, r4, r5, r6, r7, r8, r9, r10)) :
  Calls Try.prog 80 #[.slice A0 l0.length c0, .int .i64 a1, .int .i64 a2, .int .i64 a3] w fun e w' => e = .returned (.tuple #[.agg #[.int .i64 r1, .int .i64 r2, .int .i64 r3, .int .i64 r4, .int .i64 r5, .int .i64 r6, .string r7, .string r8, .string r9], .bool r10]) ∧ Below w.heap.size w w' := by
 have hu32 := Try.underlying32
 have HR0 := Aside0.mk hr0
 have HC0 := Aside0.mk hc0
 clear hr0 hc0
 have HB := ak (Below.refl w.heap.size w)
 have H := h
 clear h
 unfold spec_l07Best.f at H
 have H' := Aside0.mk H
 clear H
 go_enter Try.func80, Try.ntmps80
 go_wp2_with (first | ((with_reducible refine gate_dst (N := 8) rfl ?_); refine b9 8 ?_; intro gb256 hg w5 hbox hb; replace BK256 := ak (hbox); replace GE256 := ak (bz hg (lG HB)); replace HB := lB HB hb; clear hb hbox hg) | ((with_reducible refine gate_dst (N := 10) rfl ?_); refine b9 10 ?_; intro gb257 hg w6 hbox hb; replace BK257 := ak (hbox); replace GW257 := ak (bz hg (lT HB (gC GE256 gN))); replace GE257 := ak (bz hg (lT HB (gC GE256 gN))); replace HB := ak (below_step (lT HB (gC GE256 gN)) hb); replace NB256_257 := ak (nl hg (bG BK256)); replace NB257_256 := ak (ng hg (bG BK256)); replace BK256 := bB BK256 hb; clear hb hbox hg; have hnb7 := NB257_256.out; have hnc7 := NB256_257.out; obtain ⟨hcz8_0, hcz8_1, hcz8_2, hcz8_3, hcz8_4, hcz8_5, hcz8_6, hcz8_7, hcz8_8, hfz8_0, hfz8_1, hfz8_2, hfz8_3, hfz8_4, hfz8_5, hfz8_6, hfz8_7, hfz8_8⟩ := bC9 BK257))
 go_loopg [11, 12] k (fun kq v11 v12 w' => ∃ (x11_1 : Bool) (x12_1 : Int) (x258000_1 : Int) (x258001_1 : Int) (x258002_1 : Int) (x258003_1 : Int) (x258004_1 : Int) (x258005_1 : Int) (x258006_1 : ByteArray) (x258007_1 : ByteArray) (x258008_1 : ByteArray), v11 = .bool x11_1 ∧ v12 = .int .i64 x12_1 ∧ Aside0 (spec_l07Best.l0 kq l0 a1 a2 a3 x11_1 x12_1 x258000_1 x258001_1 x258002_1 x258003_1 x258004_1 x258005_1 x258006_1 x258007_1 x258008_1 = some (r1, r2, r3, r4, r5, r6, r7, r8, r9, r10)) ∧ Aside0 (kq ≤ k) ∧ Aside0 (w'.heap[gb256]? = some (.cells #[.int .i64 0, .int .i64 0, .int .i64 0, .int .i64 0, .int .i64 0, .int .i64 0, .string (⟨#[]⟩ : ByteArray), .string (⟨#[]⟩ : ByteArray), .string (⟨#[]⟩ : ByteArray)] 32 (0, 0))) ∧ Aside0 (w'.heap[gb257]? = some (.cells #[.int .i64 x258000_1, .int .i64 x258001_1, .int .i64 x258002_1, .int .i64 x258003_1, .int .i64 x258004_1, .int .i64 x258005_1, .string x258006_1, .string x258007_1, .string x258008_1] 32 (0, 0))) ∧ Aside0 (Below w.heap.size w w'))
 case atStart => exact ⟨_, _, _, _, _, _, _, _, _, _, _, rr, rr, H', ⟨Nat.le_refl _⟩, ⟨bF BK256 (nC NB256_257 nN)⟩, ⟨bW BK257⟩, ⟨by exact lT HB (gC GE256 (gC GE257 gN))⟩⟩
 case round =>
  skip;{
 clear H'
 try clear hcz8_0 hcz8_1 hcz8_2 hcz8_3 hcz8_4 hcz8_5 hcz8_6 hcz8_7 hcz8_8 hfz8_0 hfz8_1 hfz8_2 hfz8_3 hfz8_4 hfz8_5 hfz8_6 hfz8_7 hfz8_8
 obtain ⟨x11_1, x12_1, x258000_1, x258001_1, x258002_1, x258003_1, x258004_1, x258005_1, x258006_1, x258007_1, x258008_1, rfl, rfl, HA, HK1, BK256, BK257, HB⟩ := hrel
 cases gk with
 | zero => exact absurd HA.out (by simp [spec_l07Best.l0])
 | succ k1 =>
  skip;{
 have H := HA.out
 clear HA
 simp only [spec_l07Best.l0] at H
 by_cases c9 : x12_1 < (l0.length : Int)
 {
 rw [if_pos c9] at H
 have c9b0 := decide_eq_true c9
 clear c9
 by_cases c10 : 0 ≤ x12_1
 {
 rw [if_pos c10] at H
 have c10b0 := decide_eq_true c10
 clear c10
 by_cases c11 : ((rd_T32 l0 x12_1).f1.f0) = a1
 {
 rw [if_pos c11] at H
 have c11b0 := beq_iff_eq.mpr c11
 have c11b1 := bne_eq_false_iff_eq.mpr c11
 clear c11
 by_cases c12 : ((rd_T32 l0 x12_1).f1.f1) = a2
 {
 rw [if_pos c12] at H
 have c12b0 := beq_iff_eq.mpr c12
 have c12b1 := bne_eq_false_iff_eq.mpr c12
 clear c12
 by_cases c13 : ((rd_T32 l0 x12_1).f1.f2) = a3
 {
 rw [if_pos c13] at H
 have c13b0 := beq_iff_eq.mpr c13
 have c13b1 := bne_eq_false_iff_eq.mpr c13
 clear c13
 by_cases c14 : x11_1 = true
 {
 subst c14
 rw [if_pos rfl] at H
 by_cases c15 : ((rd_T32 l0 x12_1).f0) > x258000_1
 {
 rw [if_pos c15] at H
 have c15b0 : decide (x258000_1 < ((rd_T32 l0 x12_1).f0)) = true := decide_eq_true c15
 clear c15
 have H' := Aside0.mk H
 clear H
 have p258 : 0 ≤ (x12_1 : Int) := oda
 have q258 : x12_1 < (l0.length : Int) := oda
 obtain ⟨ad258, e258, hx258_0, hx258_1, hx258_2, hx258_3, hx258_4, hx258_5, hx258_6, hx258_7, hx258_8⟩ := at_T32 HR0.out x12_1 p258 q258
 cases e258
 replace hx258_0 := clB HB hx258_0
 replace hx258_1 := clB HB hx258_1
 replace hx258_2 := clB HB hx258_2
 replace hx258_3 := clB HB hx258_3
 replace hx258_4 := clB HB hx258_4
 replace hx258_5 := clB HB hx258_5
 replace hx258_6 := clB HB hx258_6
 replace hx258_7 := clB HB hx258_7
 replace hx258_8 := clB HB hx258_8
 replace p258 := eq_true p258
 replace q258 := eq_true q258
 go_wp2_with ((with_reducible refine gate_dst (N := 13) rfl ?_); refine b9 13 ?_; intro gb259 hg w16 hbox hb; replace BK259 := ak (hbox); replace GW259 := ak (bz hg (lT HB (gC GE256 (gC GE257 gN)))); replace GE259 := ak (bz hg (lT HB (gC GE256 (gC GE257 gN)))); replace HB := ak (below_step (lT HB (gC GE256 (gC GE257 gN))) hb); replace NB256_259 := ak (nl hg (bG BK256)); replace NB259_256 := ak (ng hg (bG BK256)); replace BK256 := bB BK256 hb; replace NB257_259 := ak (nl hg (bG BK257)); replace NB259_257 := ak (ng hg (bG BK257)); replace BK257 := bB BK257 hb; clear hb hbox hg; have hnb17 := NB259_256.out; have hnc17 := NB256_259.out; have hnb18 := NB259_257.out; have hnc18 := NB257_259.out; obtain ⟨_, _, _, _, _, _, _, _, _, _, _, _, _, _, _, _, _, _⟩ := bC9 BK259; have hnb20 := NB257_256.out; have hnc20 := NB256_257.out; obtain ⟨_, _, _, _, _, _, _, _, _, _, _, _, _, _, _, _, _, _⟩ := bC9 BK257)
 go_roundg k1
 case measure => have := HK1.out; omega
 case rel => exact ⟨_, _, _, _, _, _, _, _, _, _, _, rr, rr, H', ⟨by have := HK1.out; omega⟩, ⟨bF BK256 (nC NB256_257 (nC NB256_259 nN))⟩, ⟨bF BK257 (nC NB257_259 nN)⟩, ⟨by exact lT HB (gC GE256 (gC GE257 (gC GE259 gN)))⟩⟩
 }
 {
 rw [if_neg c15] at H
 have c15b0 : decide (x258000_1 < ((rd_T32 l0 x12_1).f0)) = false := decide_eq_false c15
 clear c15
 have H' := Aside0.mk H
 clear H
 have p258 : 0 ≤ (x12_1 : Int) := oda
 have q258 : x12_1 < (l0.length : Int) := oda
 obtain ⟨ad258, e258, hx258_0, hx258_1, hx258_2, hx258_3, hx258_4, hx258_5, hx258_6, hx258_7, hx258_8⟩ := at_T32 HR0.out x12_1 p258 q258
 cases e258
 replace hx258_0 := clB HB hx258_0
 replace hx258_1 := clB HB hx258_1
 replace hx258_2 := clB HB hx258_2
 replace hx258_3 := clB HB hx258_3
 replace hx258_4 := clB HB hx258_4
 replace hx258_5 := clB HB hx258_5
 replace hx258_6 := clB HB hx258_6
 replace hx258_7 := clB HB hx258_7
 replace hx258_8 := clB HB hx258_8
 replace p258 := eq_true p258
 replace q258 := eq_true q258
 go_wp2_with ((with_reducible refine gate_dst (N := 13) rfl ?_); refine b9 13 ?_; intro gb259 hg w22 hbox hb; replace BK259 := ak (hbox); replace GW259 := ak (bz hg (lT HB (gC GE256 (gC GE257 gN)))); replace GE259 := ak (bz hg (lT HB (gC GE256 (gC GE257 gN)))); replace HB := ak (below_step (lT HB (gC GE256 (gC GE257 gN))) hb); replace NB256_259 := ak (nl hg (bG BK256)); replace NB259_256 := ak (ng hg (bG BK256)); replace BK256 := bB BK256 hb; replace NB257_259 := ak (nl hg (bG BK257)); replace NB259_257 := ak (ng hg (bG BK257)); replace BK257 := bB BK257 hb; clear hb hbox hg; have hnb23 := NB259_256.out; have hnc23 := NB256_259.out; have hnb24 := NB259_257.out; have hnc24 := NB257_259.out; obtain ⟨_, _, _, _, _, _, _, _, _, _, _, _, _, _, _, _, _, _⟩ := bC9 BK259; have hnb26 := NB257_256.out; have hnc26 := NB256_257.out; obtain ⟨_, _, _, _, _, _, _, _, _, _, _, _, _, _, _, _, _, _⟩ := bC9 BK257)
 go_roundg k1
 case measure => have := HK1.out; omega
 case rel => exact ⟨_, _, _, _, _, _, _, _, _, _, _, rr, rr, H', ⟨by have := HK1.out; omega⟩, ⟨bF BK256 (nC NB256_259 nN)⟩, ⟨bF BK257 (nC NB257_259 nN)⟩, ⟨by exact lT HB (gC GE256 (gC GE257 (gC GE259 gN)))⟩⟩
 }
 }
 {
 replace c14 := Bool.eq_false_iff.mpr c14
 subst c14
 rw [if_neg (show ¬ (false = true) by decide)] at H
 have H' := Aside0.mk H
 clear H
 have p258 : 0 ≤ (x12_1 : Int) := oda
 have q258 : x12_1 < (l0.length : Int) := oda
 obtain ⟨ad258, e258, hx258_0, hx258_1, hx258_2, hx258_3, hx258_4, hx258_5, hx258_6, hx258_7, hx258_8⟩ := at_T32 HR0.out x12_1 p258 q258
 cases e258
 replace hx258_0 := clB HB hx258_0
 replace hx258_1 := clB HB hx258_1
 replace hx258_2 := clB HB hx258_2
 replace hx258_3 := clB HB hx258_3
 replace hx258_4 := clB HB hx258_4
 replace hx258_5 := clB HB hx258_5
 replace hx258_6 := clB HB hx258_6
 replace hx258_7 := clB HB hx258_7
 replace hx258_8 := clB HB hx258_8
 replace p258 := eq_true p258
 replace q258 := eq_true q258
 go_wp2_with ((with_reducible refine gate_dst (N := 13) rfl ?_); refine b9 13 ?_; intro gb259 hg w28 hbox hb; replace BK259 := ak (hbox); replace GW259 := ak (bz hg (lT HB (gC GE256 (gC GE257 gN)))); replace GE259 := ak (bz hg (lT HB (gC GE256 (gC GE257 gN)))); replace HB := ak (below_step (lT HB (gC GE256 (gC GE257 gN))) hb); replace NB256_259 := ak (nl hg (bG BK256)); replace NB259_256 := ak (ng hg (bG BK256)); replace BK256 := bB BK256 hb; replace NB257_259 := ak (nl hg (bG BK257)); replace NB259_257 := ak (ng hg (bG BK257)); replace BK257 := bB BK257 hb; clear hb hbox hg; have hnb29 := NB259_256.out; have hnc29 := NB256_259.out; have hnb30 := NB259_257.out; have hnc30 := NB257_259.out; obtain ⟨_, _, _, _, _, _, _, _, _, _, _, _, _, _, _, _, _, _⟩ := bC9 BK259; have hnb32 := NB257_256.out; have hnc32 := NB256_257.out; obtain ⟨_, _, _, _, _, _, _, _, _, _, _, _, _, _, _, _, _, _⟩ := bC9 BK257)
 go_roundg k1
 case measure => have := HK1.out; omega
 case rel => exact ⟨_, _, _, _, _, _, _, _, _, _, _, rr, rr, H', ⟨by have := HK1.out; omega⟩, ⟨bF BK256 (nC NB256_257 (nC NB256_259 nN))⟩, ⟨bF BK257 (nC NB257_259 nN)⟩, ⟨by exact lT HB (gC GE256 (gC GE257 (gC GE259 gN)))⟩⟩
 }
 }
 {
 rw [if_neg c13] at H
 have c13b0 := beq_eq_false_iff_ne.mpr c13
 have c13b1 := bne_iff_ne.mpr c13
 have H' := Aside0.mk H
 clear H
 have p258 : 0 ≤ (x12_1 : Int) := oda
 have q258 : x12_1 < (l0.length : Int) := oda
 obtain ⟨ad258, e258, hx258_0, hx258_1, hx258_2, hx258_3, hx258_4, hx258_5, hx258_6, hx258_7, hx258_8⟩ := at_T32 HR0.out x12_1 p258 q258
 cases e258
 replace hx258_0 := clB HB hx258_0
 replace hx258_1 := clB HB hx258_1
 replace hx258_2 := clB HB hx258_2
 replace hx258_3 := clB HB hx258_3
 replace hx258_4 := clB HB hx258_4
 replace hx258_5 := clB HB hx258_5
 replace hx258_6 := clB HB hx258_6
 replace hx258_7 := clB HB hx258_7
 replace hx258_8 := clB HB hx258_8
 replace p258 := eq_true p258
 replace q258 := eq_true q258
 go_wp2_with ((with_reducible refine gate_dst (N := 13) rfl ?_); refine b9 13 ?_; intro gb259 hg w34 hbox hb; replace BK259 := ak (hbox); replace GW259 := ak (bz hg (lT HB (gC GE256 (gC GE257 gN)))); replace GE259 := ak (bz hg (lT HB (gC GE256 (gC GE257 gN)))); replace HB := ak (below_step (lT HB (gC GE256 (gC GE257 gN))) hb); replace NB256_259 := ak (nl hg (bG BK256)); replace NB259_256 := ak (ng hg (bG BK256)); replace BK256 := bB BK256 hb; replace NB257_259 := ak (nl hg (bG BK257)); replace NB259_257 := ak (ng hg (bG BK257)); replace BK257 := bB BK257 hb; clear hb hbox hg; have hnb35 := NB259_256.out; have hnc35 := NB256_259.out; have hnb36 := NB259_257.out; have hnc36 := NB257_259.out; obtain ⟨_, _, _, _, _, _, _, _, _, _, _, _, _, _, _, _, _, _⟩ := bC9 BK259)
 go_roundg k1
 case measure => have := HK1.out; omega
 case rel => exact ⟨_, _, _, _, _, _, _, _, _, _, _, rr, rr, H', ⟨by have := HK1.out; omega⟩, ⟨bF BK256 (nC NB256_259 nN)⟩, ⟨bF BK257 (nC NB257_259 nN)⟩, ⟨by exact lT HB (gC GE256 (gC GE257 (gC GE259 gN)))⟩⟩
 }
 }
 {
 rw [if_neg c12] at H
 have c12b0 := beq_eq_false_iff_ne.mpr c12
 have c12b1 := bne_iff_ne.mpr c12
 have H' := Aside0.mk H
 clear H
 have p258 : 0 ≤ (x12_1 : Int) := oda
 have q258 : x12_1 < (l0.length : Int) := oda
 obtain ⟨ad258, e258, hx258_0, hx258_1, hx258_2, hx258_3, hx258_4, hx258_5, hx258_6, hx258_7, hx258_8⟩ := at_T32 HR0.out x12_1 p258 q258
 cases e258
 replace hx258_0 := clB HB hx258_0
 replace hx258_1 := clB HB hx258_1
 replace hx258_2 := clB HB hx258_2
 replace hx258_3 := clB HB hx258_3
 replace hx258_4 := clB HB hx258_4
 replace hx258_5 := clB HB hx258_5
 replace hx258_6 := clB HB hx258_6
 replace hx258_7 := clB HB hx258_7
 replace hx258_8 := clB HB hx258_8
 replace p258 := eq_true p258
 replace q258 := eq_true q258
 go_wp2_with ((with_reducible refine gate_dst (N := 13) rfl ?_); refine b9 13 ?_; intro gb259 hg w38 hbox hb; replace BK259 := ak (hbox); replace GW259 := ak (bz hg (lT HB (gC GE256 (gC GE257 gN)))); replace GE259 := ak (bz hg (lT HB (gC GE256 (gC GE257 gN)))); replace HB := ak (below_step (lT HB (gC GE256 (gC GE257 gN))) hb); replace NB256_259 := ak (nl hg (bG BK256)); replace NB259_256 := ak (ng hg (bG BK256)); replace BK256 := bB BK256 hb; replace NB257_259 := ak (nl hg (bG BK257)); replace NB259_257 := ak (ng hg (bG BK257)); replace BK257 := bB BK257 hb; clear hb hbox hg; have hnb39 := NB259_256.out; have hnc39 := NB256_259.out; have hnb40 := NB259_257.out; have hnc40 := NB257_259.out; obtain ⟨_, _, _, _, _, _, _, _, _, _, _, _, _, _, _, _, _, _⟩ := bC9 BK259)
 go_roundg k1
 case measure => have := HK1.out; omega
 case rel => exact ⟨_, _, _, _, _, _, _, _, _, _, _, rr, rr, H', ⟨by have := HK1.out; omega⟩, ⟨bF BK256 (nC NB256_259 nN)⟩, ⟨bF BK257 (nC NB257_259 nN)⟩, ⟨by exact lT HB (gC GE256 (gC GE257 (gC GE259 gN)))⟩⟩
 }
 }
 {
 rw [if_neg c11] at H
 have c11b0 := beq_eq_false_iff_ne.mpr c11
 have c11b1 := bne_iff_ne.mpr c11
 have H' := Aside0.mk H
 clear H
 have p258 : 0 ≤ (x12_1 : Int) := oda
 have q258 : x12_1 < (l0.length : Int) := oda
 obtain ⟨ad258, e258, hx258_0, hx258_1, hx258_2, hx258_3, hx258_4, hx258_5, hx258_6, hx258_7, hx258_8⟩ := at_T32 HR0.out x12_1 p258 q258
 cases e258
 replace hx258_0 := clB HB hx258_0
 replace hx258_1 := clB HB hx258_1
 replace hx258_2 := clB HB hx258_2
 replace hx258_3 := clB HB hx258_3
 replace hx258_4 := clB HB hx258_4
 replace hx258_5 := clB HB hx258_5
 replace hx258_6 := clB HB hx258_6
 replace hx258_7 := clB HB hx258_7
 replace hx258_8 := clB HB hx258_8
 replace p258 := eq_true p258
 replace q258 := eq_true q258
 go_wp2_with ((with_reducible refine gate_dst (N := 13) rfl ?_); refine b9 13 ?_; intro gb259 hg w42 hbox hb; replace BK259 := ak (hbox); replace GW259 := ak (bz hg (lT HB (gC GE256 (gC GE257 gN)))); replace GE259 := ak (bz hg (lT HB (gC GE256 (gC GE257 gN)))); replace HB := ak (below_step (lT HB (gC GE256 (gC GE257 gN))) hb); replace NB256_259 := ak (nl hg (bG BK256)); replace NB259_256 := ak (ng hg (bG BK256)); replace BK256 := bB BK256 hb; replace NB257_259 := ak (nl hg (bG BK257)); replace NB259_257 := ak (ng hg (bG BK257)); replace BK257 := bB BK257 hb; clear hb hbox hg; have hnb43 := NB259_256.out; have hnc43 := NB256_259.out; have hnb44 := NB259_257.out; have hnc44 := NB257_259.out; obtain ⟨_, _, _, _, _, _, _, _, _, _, _, _, _, _, _, _, _, _⟩ := bC9 BK259)
 go_roundg k1
 case measure => have := HK1.out; omega
 case rel => exact ⟨_, _, _, _, _, _, _, _, _, _, _, rr, rr, H', ⟨by have := HK1.out; omega⟩, ⟨bF BK256 (nC NB256_259 nN)⟩, ⟨bF BK257 (nC NB257_259 nN)⟩, ⟨by exact lT HB (gC GE256 (gC GE257 (gC GE259 gN)))⟩⟩
 }
 }
 {rw [if_neg c10] at H;exact absurd H (by simp)}
 }
 {
 rw [if_neg c9] at H
 have c9b0 := decide_eq_false c9
 clear c9
 simp only [Option.some.injEq, Prod.mk.injEq] at H
 obtain ⟨rfl, rfl, rfl, rfl, rfl, rfl, rfl, rfl, rfl, rfl⟩ := H
 have hnb46 := NB257_256.out
 have hnc46 := NB256_257.out
 obtain ⟨_, _, _, _, _, _, _, _, _, _, _, _, _, _, _, _, _, _⟩ := bC9 BK257
 obtain ⟨_, _, _, _, _, _, _, _, _, _, _, _, _, _, _, _, _, _⟩ := bC9 BK256
 go_wp2
 refine bodyPost_ret (results_ct rfl _ _ gb256 32 #[.int .i64 x258000_1, .int .i64 x258001_1, .int .i64 x258002_1, .int .i64 x258003_1, .int .i64 x258004_1, .int .i64 x258005_1, .string x258006_1, .string x258007_1, .string x258008_1] (0, 0) _ rfl (bW BK256) Try.underlying32 rfl (by kernel_rfl)) rfl ?_
 exact ⟨ew, by exact lT HB (gC GE256 (gC GE257 gN))⟩
 }
 }
 }
mutual
def spec_l07Sorted.l0 : Nat → List Int → Int → List Int → Int → Option (List Int)
 | 0, _, _, _, _ => none
 | k + 1, a, b, c, d => if d < (a.length : Int) then (if 0 ≤ d then (if (rd a d) < b then (if c.length < 17592186044416 then (spec_l07Sorted.l0 k a b (c ++ [rd a d]) (wrap64 (d + 1))) else (none)) else (spec_l07Sorted.l0 k a b c (wrap64 (d + 1)))) else (none)) else (if c.length < 17592186044416 then (spec_l07Sorted.l1 k a b (c ++ [b]) 0) else (none))
def spec_l07Sorted.l1 : Nat → List Int → Int → List Int → Int → Option (List Int)
 | 0, _, _, _, _ => none
 | k + 1, a, b, c, d => if d < (a.length : Int) then (if 0 ≤ d then (if (rd a d) > b then (if c.length < 17592186044416 then (spec_l07Sorted.l1 k a b (c ++ [rd a d]) (wrap64 (d + 1))) else (none)) else (spec_l07Sorted.l1 k a b c (wrap64 (d + 1)))) else (none)) else (some c)
end
def spec_l07Sorted.f (k : Nat) (l0 : List Int) (a1 : Int) : Option (List Int) := spec_l07Sorted.l0 k l0 a1 (([] : List Int)) 0
theorem spec_l07Sorted.mono_l : ∀ k, (∀ y0 y1 y2 y3, LeO (spec_l07Sorted.l0 k y0 y1 y2 y3) (spec_l07Sorted.l0 (k + 1) y0 y1 y2 y3)) ∧ (∀ y0 y1 y2 y3, LeO (spec_l07Sorted.l1 k y0 y1 y2 y3) (spec_l07Sorted.l1 (k + 1) y0 y1 y2 y3))
 | 0 => ⟨fun _ _ _ _ r h => by simp [spec_l07Sorted.l0] at h, fun _ _ _ _ r h => by simp [spec_l07Sorted.l1] at h⟩
 | k + 1 => by
  obtain ⟨ih0, ih1⟩ := spec_l07Sorted.mono_l k
  refine ⟨?_, ?_⟩
  intro y0 y1 y2 y3;unfold spec_l07Sorted.l0;rotate_left
  intro y0 y1 y2 y3;unfold spec_l07Sorted.l1;rotate_left
  all_goals repeat' with_reducible first | exact ih0 _ _ _ _ | exact ih1 _ _ _ _ | exact LeO.refl _ | exact LeO.none _ | refine LeO.ite ?_ ?_ | refine LeO.bind ?_ (fun _ => ?_)
theorem spec_l07Sorted.mono : ∀ a0 a1 k, LeO (spec_l07Sorted.f k a0 a1) (spec_l07Sorted.f (k + 1) a0 a1) := by
 intro a0 a1 k
 obtain ⟨ih0, ih1⟩ := spec_l07Sorted.mono_l k
 unfold spec_l07Sorted.f
 repeat' with_reducible first | exact ih0 _ _ _ _ | exact ih1 _ _ _ _ | exact LeO.refl _ | exact LeO.none _ | refine LeO.ite ?_ ?_ | refine LeO.bind ?_ (fun _ => ?_)
theorem spec_l07Sorted.calls (k : Nat) (A0 : Option Addr) (c0 : Nat) (l0 : List Int) (a1 : Int) (r : List Int) (w : World) (hr0 : Kd.C (Kd.int .i64) w A0 l0.length l0) (hc0 : l0.length ≤ c0) (h : spec_l07Sorted.f k l0 a1 = some r) :
  Calls Try.prog 81 #[.slice A0 l0.length c0, .int .i64 a1] w fun e w' => ∃ v0_ : Value, e = .returned (v0_) ∧ Kd.R (Kd.int .i64) 3 w' w.heap.size (fun _ => True) v0_ r ∧ Below w.heap.size w w' := by
 have HR0 := Aside0.mk hr0
 have HC0 := Aside0.mk hc0
 clear hr0 hc0
 have HB := ak (Below.refl w.heap.size w)
 have H := h
 clear h
 unfold spec_l07Sorted.f at H
 obtain ⟨y260, hy260⟩ : ∃ y_ : List Int, y_ = (([] : List Int)) := ⟨_, rfl⟩
 replace H : (spec_l07Sorted.l0 k l0 a1 y260 0) = some r := by first | (rw [hy260]; with_reducible exact H) | (have H2_ := (Option.bind_some _ _).symm.trans H; rw [hy260]; with_reducible exact H2_) | (have H2_ := (Option.bind_some _ _).symm.trans H; with_reducible exact H2_) | with_reducible exact H | (rw [hy260]; exact H) | exact H
 have Ny260 := Aside0.mk hy260
 clear hy260
 have H' := Aside0.mk H
 clear H
 go_enter Try.func81, Try.ntmps81
 go_wp2_with ((with_reducible refine gate_dst (N := 8) rfl ?_); refine Kd.R_lit (Kd.int .i64) _ 3 ?hg (N := 8) ?hd (xs := ([] : List Int)) (inner := []) (ok := fun _ => True) (okp := fun _ => True) ?hr ?hp (fun _ hk => hk) trivial (Below.refl _ _) (Nat.le_refl _) (by simp) ?_; (case hd => rfl); (case hg => rfl); (case hr => first | (go_simp; done) | (go_simp; rfl)); (case hp => exact (Reps.none _ _)); intro v261 w3 ho4 hb hg_ hnew_; clear hg_ hnew_; (first | rw [← Ny260.out] at ho4 | (simp only [Int.reduceToNat] at ho4; rw [← Ny260.out] at ho4)); replace HO262 := ak (Kd.R_lower ho4 (below_size (lG HB))); replace HB := lB HB hb; clear hb ho4)
 go_loopg [5, 6] k (fun kq v5 v6 w' => ∃ (x5_1 : List Int) (x6_1 : Int), v6 = .int .i64 x6_1 ∧ Aside0 (spec_l07Sorted.l0 kq l0 a1 x5_1 x6_1 = some r) ∧ Aside0 (kq ≤ k) ∧ Aside0 (Kd.R (Kd.int .i64) 3 w' w.heap.size (fun _ => True) v5 x5_1) ∧ Aside0 (Below w.heap.size w w'))
 case atStart => exact ⟨_, _, rr, H', ⟨Nat.le_refl _⟩, ⟨by (with_reducible repeat (first | apply Kd.R_alloc | apply Kd.R_drewN | apply Kd.R_drew)); exact HO262.out⟩, ⟨by exact lG HB⟩⟩
 case round =>
  skip;{
 clear H'
 obtain ⟨x5_1, x6_1, rfl, HA, HK1, HO_5, HB⟩ := hrel
 cases gk with
 | zero => exact absurd HA.out (by simp [spec_l07Sorted.l0])
 | succ k1 =>
  skip;{
 have H := HA.out
 clear HA
 simp only [spec_l07Sorted.l0] at H
 by_cases c5 : x6_1 < (l0.length : Int)
 {
 rw [if_pos c5] at H
 have c5b0 := decide_eq_true c5
 clear c5
 by_cases c6 : 0 ≤ x6_1
 {
 rw [if_pos c6] at H
 have c6b0 := decide_eq_true c6
 clear c6
 by_cases c7 : (rd l0 x6_1) < a1
 {
 rw [if_pos c7] at H
 have c7b0 := decide_eq_true c7
 clear c7
 by_cases c8 : x5_1.length < 17592186044416
 {
 rw [if_pos c8] at H
 have LMc8 := Aside0.mk c8
 clear c8
 obtain ⟨y265, hy265⟩ : ∃ y_ : List Int, y_ = (x5_1 ++ [rd l0 x6_1]) := ⟨_, rfl⟩
 replace H : (spec_l07Sorted.l0 k1 l0 a1 y265 (wrap64 (x6_1 + 1))) = some r := by first | (rw [hy265]; with_reducible exact H) | (have H2_ := (Option.bind_some _ _).symm.trans H; rw [hy265]; with_reducible exact H2_) | (have H2_ := (Option.bind_some _ _).symm.trans H; with_reducible exact H2_) | with_reducible exact H | (rw [hy265]; exact H) | exact H
 have Ny265 := Aside0.mk hy265
 clear hy265
 have H' := Aside0.mk H
 clear H
 have p263 : 0 ≤ (x6_1 : Int) := oda
 have q263 : x6_1 < (l0.length : Int) := oda
 obtain ⟨ad263, e263, hx263_0⟩ := Kd.at_int HR0.out x6_1 p263 q263
 cases e263
 replace hx263_0 := clB HB hx263_0
 replace p263 := eq_true p263
 replace q263 := eq_true q263
 have p264 : 0 ≤ (x6_1 : Int) := oda
 have q264 : x6_1 < (l0.length : Int) := oda
 obtain ⟨ad264, e264, hx264_0⟩ := Kd.at_int HR0.out x6_1 p264 q264
 obtain rfl : ad263 = ad264 := (by injection e264)
 replace hx264_0 := clB HB hx264_0
 replace p264 := eq_true p264
 replace q264 := eq_true q264
 go_wp2_with ((with_reducible refine gate_builtin (b := .append) (xs := #[.tmp 21, .tmp 26]) rfl ?_); at_builtin; refine Kd.R_append (Kd.int .i64) (w0 := w) w.heap.size rfl (.tmp 21) (.tmp 26) 56 3 (.int .i64 0) 8 rfl Try.underlying56 info3 rfl (by decide) (by omega) u5 x5_1 (rd l0 x6_1) [.int .i64 (rd l0 x6_1)] (fun _ => True) (fun _ => False) rfl rfl ?aP (fun _ hk => hk.elim) ?aF ?aO ?aB ?aS ?aL ?_; (case aP => exact rfl); (case aB => exact (lG HB)); (case aF => exact (fun _ _ => trivial)); (case aO => exact (rG HO_5)); (case aS => exact (below_size (lG HB))); (case aL => have := LMc8.out; omega); intro v266 w9 ho hb hg hat; rw [← Ny265.out] at ho; have n0_ := ak (hb); have n1_ := ak (ho); clear HB; clear HO_5; have HB := n0_; have HO267 := n1_; clear n0_ n1_; clear ho hb hg hat)
 go_roundg k1
 case measure => have := HK1.out; omega
 case rel => exact ⟨_, _, rr, H', ⟨by have := HK1.out; omega⟩, ⟨by (with_reducible repeat (first | apply Kd.R_alloc | apply Kd.R_drewN | apply Kd.R_drew)); exact HO267.out⟩, ⟨by exact lG HB⟩⟩
 }
 {rw [if_neg c8] at H;exact absurd H (by simp)}
 }
 {
 rw [if_neg c7] at H
 have c7b0 := decide_eq_false c7
 clear c7
 have H' := Aside0.mk H
 clear H
 have p263 : 0 ≤ (x6_1 : Int) := oda
 have q263 : x6_1 < (l0.length : Int) := oda
 obtain ⟨ad263, e263, hx263_0⟩ := Kd.at_int HR0.out x6_1 p263 q263
 cases e263
 replace hx263_0 := clB HB hx263_0
 replace p263 := eq_true p263
 replace q263 := eq_true q263
 go_wp2
 go_roundg k1
 case measure => have := HK1.out; omega
 case rel => exact ⟨_, _, rr, H', ⟨by have := HK1.out; omega⟩, ⟨by (with_reducible repeat (first | apply Kd.R_alloc | apply Kd.R_drewN | apply Kd.R_drew)); exact HO_5.out⟩, ⟨by exact lG HB⟩⟩
 }
 }
 {rw [if_neg c6] at H;exact absurd H (by simp)}
 }
 {
 rw [if_neg c5] at H
 have c5b0 := decide_eq_false c5
 clear c5
 by_cases c10 : x5_1.length < 17592186044416
 {
 rw [if_pos c10] at H
 have LMc10 := Aside0.mk c10
 clear c10
 obtain ⟨y268, hy268⟩ : ∃ y_ : List Int, y_ = (x5_1 ++ [a1]) := ⟨_, rfl⟩
 replace H : (spec_l07Sorted.l1 k1 l0 a1 y268 0) = some r := by first | (rw [hy268]; with_reducible exact H) | (have H2_ := (Option.bind_some _ _).symm.trans H; rw [hy268]; with_reducible exact H2_) | (have H2_ := (Option.bind_some _ _).symm.trans H; with_reducible exact H2_) | with_reducible exact H | (rw [hy268]; exact H) | exact H
 have Ny268 := Aside0.mk hy268
 clear hy268
 have H' := Aside0.mk H
 clear H
 go_wp2_with ((with_reducible refine gate_builtin (b := .append) (xs := #[.tmp 28, .tmp 30]) rfl ?_); at_builtin; refine Kd.R_append (Kd.int .i64) (w0 := w) w.heap.size rfl (.tmp 28) (.tmp 30) 56 3 (.int .i64 0) 8 rfl Try.underlying56 info3 rfl (by decide) (by omega) u5 x5_1 a1 [.int .i64 a1] (fun _ => True) (fun _ => False) rfl rfl ?aP (fun _ hk => hk.elim) ?aF ?aO ?aB ?aS ?aL ?_; (case aP => exact rfl); (case aB => exact (lG HB)); (case aF => exact (fun _ _ => trivial)); (case aO => exact (rG HO_5)); (case aS => exact (below_size (lG HB))); (case aL => have := LMc10.out; omega); intro v269 w11 ho hb hg hat; rw [← Ny268.out] at ho; have n0_ := ak (hb); have n1_ := ak (ho); clear HB; clear HO_5; have HB := n0_; have HO270 := n1_; clear n0_ n1_; clear ho hb hg hat)
 go_loopg [5, 7] k1 (fun kq v5 v7 w' => ∃ (x5_2 : List Int) (x7_2 : Int), v7 = .int .i64 x7_2 ∧ Aside0 (spec_l07Sorted.l1 kq l0 a1 x5_2 x7_2 = some r) ∧ Aside0 (kq ≤ k1) ∧ Aside0 (Kd.R (Kd.int .i64) 3 w' w.heap.size (fun _ => True) v5 x5_2) ∧ Aside0 (Below w.heap.size w w'))
 case atStart => exact ⟨_, _, rr, H', ⟨Nat.le_refl _⟩, ⟨by (with_reducible repeat (first | apply Kd.R_alloc | apply Kd.R_drewN | apply Kd.R_drew)); exact HO270.out⟩, ⟨by exact lG HB⟩⟩
 case round =>
  skip;{
 clear H'
 try clear c5 c5b0 c10
 obtain ⟨x5_2, x7_2, rfl, HA, HK2, HO_5, HB⟩ := hrel
 cases gk with
 | zero => exact absurd HA.out (by simp [spec_l07Sorted.l1])
 | succ k2 =>
  skip;{
 have H := HA.out
 clear HA
 simp only [spec_l07Sorted.l1] at H
 by_cases c12 : x7_2 < (l0.length : Int)
 {
 rw [if_pos c12] at H
 have c12b0 := decide_eq_true c12
 clear c12
 by_cases c13 : 0 ≤ x7_2
 {
 rw [if_pos c13] at H
 have c13b0 := decide_eq_true c13
 clear c13
 by_cases c14 : (rd l0 x7_2) > a1
 {
 rw [if_pos c14] at H
 have c14b0 : decide (a1 < (rd l0 x7_2)) = true := decide_eq_true c14
 clear c14
 by_cases c15 : x5_2.length < 17592186044416
 {
 rw [if_pos c15] at H
 have LMc15 := Aside0.mk c15
 clear c15
 obtain ⟨y273, hy273⟩ : ∃ y_ : List Int, y_ = (x5_2 ++ [rd l0 x7_2]) := ⟨_, rfl⟩
 replace H : (spec_l07Sorted.l1 k2 l0 a1 y273 (wrap64 (x7_2 + 1))) = some r := by first | (rw [hy273]; with_reducible exact H) | (have H2_ := (Option.bind_some _ _).symm.trans H; rw [hy273]; with_reducible exact H2_) | (have H2_ := (Option.bind_some _ _).symm.trans H; with_reducible exact H2_) | with_reducible exact H | (rw [hy273]; exact H) | exact H
 have Ny273 := Aside0.mk hy273
 clear hy273
 have H' := Aside0.mk H
 clear H
 have p271 : 0 ≤ (x7_2 : Int) := oda
 have q271 : x7_2 < (l0.length : Int) := oda
 obtain ⟨ad271, e271, hx271_0⟩ := Kd.at_int HR0.out x7_2 p271 q271
 cases e271
 replace hx271_0 := clB HB hx271_0
 replace p271 := eq_true p271
 replace q271 := eq_true q271
 have p272 : 0 ≤ (x7_2 : Int) := oda
 have q272 : x7_2 < (l0.length : Int) := oda
 obtain ⟨ad272, e272, hx272_0⟩ := Kd.at_int HR0.out x7_2 p272 q272
 obtain rfl : ad271 = ad272 := (by injection e272)
 replace hx272_0 := clB HB hx272_0
 replace p272 := eq_true p272
 replace q272 := eq_true q272
 go_wp2_with ((with_reducible refine gate_builtin (b := .append) (xs := #[.tmp 44, .tmp 49]) rfl ?_); at_builtin; refine Kd.R_append (Kd.int .i64) (w0 := w) w.heap.size rfl (.tmp 44) (.tmp 49) 56 3 (.int .i64 0) 8 rfl Try.underlying56 info3 rfl (by decide) (by omega) u5 x5_2 (rd l0 x7_2) [.int .i64 (rd l0 x7_2)] (fun _ => True) (fun _ => False) rfl rfl ?aP (fun _ hk => hk.elim) ?aF ?aO ?aB ?aS ?aL ?_; (case aP => exact rfl); (case aB => exact (lG HB)); (case aF => exact (fun _ _ => trivial)); (case aO => exact (rG HO_5)); (case aS => exact (below_size (lG HB))); (case aL => have := LMc15.out; omega); intro v274 w16 ho hb hg hat; rw [← Ny273.out] at ho; have n0_ := ak (hb); have n1_ := ak (ho); clear HB; clear HO_5; have HB := n0_; have HO275 := n1_; clear n0_ n1_; clear ho hb hg hat)
 go_roundg k2
 case measure => have := HK1.out; have := HK2.out; omega
 case rel => exact ⟨_, _, rr, H', ⟨by have := HK1.out; have := HK2.out; omega⟩, ⟨by (with_reducible repeat (first | apply Kd.R_alloc | apply Kd.R_drewN | apply Kd.R_drew)); exact HO275.out⟩, ⟨by exact lG HB⟩⟩
 }
 {rw [if_neg c15] at H;exact absurd H (by simp)}
 }
 {
 rw [if_neg c14] at H
 have c14b0 : decide (a1 < (rd l0 x7_2)) = false := decide_eq_false c14
 clear c14
 have H' := Aside0.mk H
 clear H
 have p271 : 0 ≤ (x7_2 : Int) := oda
 have q271 : x7_2 < (l0.length : Int) := oda
 obtain ⟨ad271, e271, hx271_0⟩ := Kd.at_int HR0.out x7_2 p271 q271
 cases e271
 replace hx271_0 := clB HB hx271_0
 replace p271 := eq_true p271
 replace q271 := eq_true q271
 go_wp2
 go_roundg k2
 case measure => have := HK1.out; have := HK2.out; omega
 case rel => exact ⟨_, _, rr, H', ⟨by have := HK1.out; have := HK2.out; omega⟩, ⟨by (with_reducible repeat (first | apply Kd.R_alloc | apply Kd.R_drewN | apply Kd.R_drew)); exact HO_5.out⟩, ⟨by exact lG HB⟩⟩
 }
 }
 {rw [if_neg c13] at H;exact absurd H (by simp)}
 }
 {
 rw [if_neg c12] at H
 have c12b0 := decide_eq_false c12
 clear c12
 obtain rfl := Option.some.inj H
 go_wp2
 go_ret
 exact ⟨_, ew, by (with_reducible repeat (first | apply Kd.R_alloc | apply Kd.R_drewN | apply Kd.R_drew)); exact HO_5.out, by exact lG HB⟩
 }
 }
 }
 }
 {rw [if_neg c10] at H;exact absurd H (by simp)}
 }
 }
 }
end Go.Proofs.Ytagkjeldheiejaa.PFnStatesTold
