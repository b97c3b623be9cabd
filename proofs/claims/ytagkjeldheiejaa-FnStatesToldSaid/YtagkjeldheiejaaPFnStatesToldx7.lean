-- printed
import Derived.Test.YtagkjeldheiejaaPFnStatesToldx6
import Derived.Test.YtagkjeldheiejaaVFnStatesTold1
namespace Go.Proofs.Ytagkjeldheiejaa.PFnStatesTold
open Go.RowKit YtagkjeldheiejaaW.PrintWords YtagkjeldheiejaaW.PrintLast YtagkjeldheiejaaW.PrintMore
set_option linter.unusedVariables false
set_option linter.unusedSimpArgs false
attribute [local go_sem] max2_int min2_int max_two min_two max_three min_three max_four min_four
set_option maxHeartbeats 8000000
set_option maxRecDepth 100000
attribute [local go_sem high] eqA23
mutual
def impl_RecOk.j0 : Nat → Bool → Bool → Int → Int → Int → Int → Int → ByteArray → ByteArray → ByteArray → Int → Int → Int → Int → Int → ByteArray → ByteArray → ByteArray → Option (Bool)
 | 0, _, _, _, _, _, _, _, _, _, _, _, _, _, _, _, _, _, _ => none
 | k + 1, a, b, c, d, e, g, h, i, j, l, m, n, o, p, q, r, s, t => if b = true then ((impl_in.f e 1 9999).bind fun t136 => (impl_RecOk.j1 k t136 c d e g h i j l m n 0 p q r s t)) else (impl_RecOk.j1 k a c d e g h i j l m n o p q r s t)
def impl_RecOk.j1 : Nat → Bool → Int → Int → Int → Int → Int → ByteArray → ByteArray → ByteArray → Int → Int → Int → Int → Int → ByteArray → ByteArray → ByteArray → Option (Bool)
 | 0, _, _, _, _, _, _, _, _, _, _, _, _, _, _, _, _, _ => none
 | k + 1, a, b, c, d, e, f, g, h, i, j, l, m, n, o, p, q, r => if b = 3 then (impl_RecOk.j2 k a true b c d e f g h i j l m n o p q r) else (impl_RecOk.j2 k a (b == 4) b c d e f g h i j l m n o p q r)
def impl_RecOk.j2 : Nat → Bool → Bool → Int → Int → Int → Int → Int → ByteArray → ByteArray → ByteArray → Int → Int → Int → Int → Int → ByteArray → ByteArray → ByteArray → Option (Bool)
 | 0, _, _, _, _, _, _, _, _, _, _, _, _, _, _, _, _, _, _ => none
 | k + 1, a, b, c, d, e, g, h, i, j, l, m, n, o, p, q, r, s, t => if b = true then (if a = true then ((impl_in.f h 0 7).bind fun t137 => (impl_RecOk.j3 k t137 c d e g h i j l m n o p 0 r s t)) else (impl_RecOk.j3 k false c d e g h i j l m n o p 0 r s t)) else (impl_RecOk.j3 k a c d e g h i j l m n o p q r s t)
def impl_RecOk.j3 : Nat → Bool → Int → Int → Int → Int → Int → ByteArray → ByteArray → ByteArray → Int → Int → Int → Int → Int → ByteArray → ByteArray → ByteArray → Option (Bool)
 | 0, _, _, _, _, _, _, _, _, _, _, _, _, _, _, _, _, _ => none
 | k + 1, a, b, c, d, e, g, h, i, j, l, m, n, o, p, q, r, s => if b = 1 then ((impl_WordOk.f k h).bind fun t138 => (if t138 = true then ((impl_WordOk.f k i).bind fun t139 => (if t139 = true then ((impl_in.f e 1 10000).bind fun t140 => (if t140 = true then (some (l == 0 && (m == 0 && (n == 0 && (p == 0 && (s.toList == ([] : List UInt8))))))) else (some false))) else (some false))) else (some false))) else (if b = 3 then (if a = true then (if (j.size : Int) ≤ 100 then (some (l == 0 && (m == 0 && (n == 0 && (o == 0 && (p == 0 && (q.toList == ([] : List UInt8) && (r.toList == ([] : List UInt8))))))))) else (some false)) else (some false)) else (if b = 2 then (if a = true then (some (l == 0 && (m == 0 && (n == 0 && (o == 0 && (p == 0 && (q.toList == ([] : List UInt8) && (r.toList == ([] : List UInt8) && (s.toList == ([] : List UInt8)))))))))) else (some false)) else (if b = 4 then (if a = true then (some (l == 0 && (m == 0 && (n == 0 && (o == 0 && (p == 0 && (q.toList == ([] : List UInt8) && (r.toList == ([] : List UInt8) && (s.toList == ([] : List UInt8)))))))))) else (some false)) else (if b = 5 then (if a = true then (some (l == 0 && (m == 0 && (n == 0 && (o == 0 && (p == 0 && (q.toList == ([] : List UInt8) && (r.toList == ([] : List UInt8) && (s.toList == ([] : List UInt8)))))))))) else (some false)) else (some false)))))
end
def impl_RecOk.f (k : Nat) (a0_0 : Int) (a0_1 : Int) (a0_2 : Int) (a0_3 : Int) (a0_4 : Int) (a0_5 : ByteArray) (a0_6 : ByteArray) (a0_7 : ByteArray) : Option (Bool) := (impl_in.f a0_1 1 9999).bind fun t134 => (if t134 = true then (if a0_0 = 3 then (impl_RecOk.j0 k true true a0_0 a0_1 a0_2 a0_3 a0_4 a0_5 a0_6 a0_7 0 0 a0_2 a0_3 a0_4 a0_5 a0_6 a0_7) else (if a0_0 = 4 then (impl_RecOk.j0 k true true a0_0 a0_1 a0_2 a0_3 a0_4 a0_5 a0_6 a0_7 0 0 a0_2 a0_3 a0_4 a0_5 a0_6 a0_7) else (impl_RecOk.j0 k true (a0_0 == 5) a0_0 a0_1 a0_2 a0_3 a0_4 a0_5 a0_6 a0_7 0 0 a0_2 a0_3 a0_4 a0_5 a0_6 a0_7))) else (some false))
theorem impl_RecOk.mono_l : ∀ k, (∀ y0 y1 y2 y3 y4 y5 y6 y7 y8 y9 y10 y11 y12 y13 y14 y15 y16 y17, LeO (impl_RecOk.j0 k y0 y1 y2 y3 y4 y5 y6 y7 y8 y9 y10 y11 y12 y13 y14 y15 y16 y17) (impl_RecOk.j0 (k + 1) y0 y1 y2 y3 y4 y5 y6 y7 y8 y9 y10 y11 y12 y13 y14 y15 y16 y17)) ∧ (∀ y0 y1 y2 y3 y4 y5 y6 y7 y8 y9 y10 y11 y12 y13 y14 y15 y16, LeO (impl_RecOk.j1 k y0 y1 y2 y3 y4 y5 y6 y7 y8 y9 y10 y11 y12 y13 y14 y15 y16) (impl_RecOk.j1 (k + 1) y0 y1 y2 y3 y4 y5 y6 y7 y8 y9 y10 y11 y12 y13 y14 y15 y16)) ∧ (∀ y0 y1 y2 y3 y4 y5 y6 y7 y8 y9 y10 y11 y12 y13 y14 y15 y16 y17, LeO (impl_RecOk.j2 k y0 y1 y2 y3 y4 y5 y6 y7 y8 y9 y10 y11 y12 y13 y14 y15 y16 y17) (impl_RecOk.j2 (k + 1) y0 y1 y2 y3 y4 y5 y6 y7 y8 y9 y10 y11 y12 y13 y14 y15 y16 y17)) ∧ (∀ y0 y1 y2 y3 y4 y5 y6 y7 y8 y9 y10 y11 y12 y13 y14 y15 y16, LeO (impl_RecOk.j3 k y0 y1 y2 y3 y4 y5 y6 y7 y8 y9 y10 y11 y12 y13 y14 y15 y16) (impl_RecOk.j3 (k + 1) y0 y1 y2 y3 y4 y5 y6 y7 y8 y9 y10 y11 y12 y13 y14 y15 y16))
 | 0 => ⟨fun _ _ _ _ _ _ _ _ _ _ _ _ _ _ _ _ _ _ r h => by simp [impl_RecOk.j0] at h, fun _ _ _ _ _ _ _ _ _ _ _ _ _ _ _ _ _ r h => by simp [impl_RecOk.j1] at h, fun _ _ _ _ _ _ _ _ _ _ _ _ _ _ _ _ _ _ r h => by simp [impl_RecOk.j2] at h, fun _ _ _ _ _ _ _ _ _ _ _ _ _ _ _ _ _ r h => by simp [impl_RecOk.j3] at h⟩
 | k + 1 => by
  obtain ⟨ih0, ih1, ih2, ih3⟩ := impl_RecOk.mono_l k
  refine ⟨?_, ?_, ?_, ?_⟩
  intro y0 y1 y2 y3 y4 y5 y6 y7 y8 y9 y10 y11 y12 y13 y14 y15 y16 y17;unfold impl_RecOk.j0;rotate_left
  intro y0 y1 y2 y3 y4 y5 y6 y7 y8 y9 y10 y11 y12 y13 y14 y15 y16;unfold impl_RecOk.j1;rotate_left
  intro y0 y1 y2 y3 y4 y5 y6 y7 y8 y9 y10 y11 y12 y13 y14 y15 y16 y17;unfold impl_RecOk.j2;rotate_left
  intro y0 y1 y2 y3 y4 y5 y6 y7 y8 y9 y10 y11 y12 y13 y14 y15 y16;unfold impl_RecOk.j3;rotate_left
  all_goals repeat' with_reducible first | exact ih0 _ _ _ _ _ _ _ _ _ _ _ _ _ _ _ _ _ _ | exact ih1 _ _ _ _ _ _ _ _ _ _ _ _ _ _ _ _ _ | exact ih2 _ _ _ _ _ _ _ _ _ _ _ _ _ _ _ _ _ _ | exact ih3 _ _ _ _ _ _ _ _ _ _ _ _ _ _ _ _ _ | exact impl_WordOk.mono _ _ | exact LeO.refl _ | exact LeO.none _ | refine LeO.ite ?_ ?_ | refine LeO.bind ?_ (fun _ => ?_)
theorem impl_RecOk.mono : ∀ a0 a1 a2 a3 a4 a5 a6 a7 k, LeO (impl_RecOk.f k a0 a1 a2 a3 a4 a5 a6 a7) (impl_RecOk.f (k + 1) a0 a1 a2 a3 a4 a5 a6 a7) := by
 intro a0 a1 a2 a3 a4 a5 a6 a7 k
 obtain ⟨ih0, ih1, ih2, ih3⟩ := impl_RecOk.mono_l k
 unfold impl_RecOk.f
 repeat' with_reducible first | exact ih0 _ _ _ _ _ _ _ _ _ _ _ _ _ _ _ _ _ _ | exact ih1 _ _ _ _ _ _ _ _ _ _ _ _ _ _ _ _ _ | exact ih2 _ _ _ _ _ _ _ _ _ _ _ _ _ _ _ _ _ _ | exact ih3 _ _ _ _ _ _ _ _ _ _ _ _ _ _ _ _ _ | exact impl_WordOk.mono _ _ | exact LeO.refl _ | exact LeO.none _ | refine LeO.ite ?_ ?_ | refine LeO.bind ?_ (fun _ => ?_)
theorem impl_RecOk.calls (k : Nat) (a0_0 : Int) (a0_1 : Int) (a0_2 : Int) (a0_3 : Int) (a0_4 : Int) (a0_5 : ByteArray) (a0_6 : ByteArray) (a0_7 : ByteArray) (r : Bool) (w : World) (h : impl_RecOk.f k a0_0 a0_1 a0_2 a0_3 a0_4 a0_5 a0_6 a0_7 = some r) :
  Calls Try.prog 28 #[.agg #[.int .i64 a0_0, .int .i64 a0_1, .int .i64 a0_2, .int .i64 a0_3, .int .i64 a0_4, .string a0_5, .string a0_6, .string a0_7]] w fun e w' => e = .returned (.bool r) ∧ Below w.heap.size w w' := by
 have hu23 := Try.underlying23
 have HB := ak (Below.refl w.heap.size w)
 have H := h
 clear h
 unfold impl_RecOk.f at H
 obtain ⟨t134, A2, H⟩ := eb H
 try dsimp only at H
 by_cases c3 : t134 = true
 {
 subst c3
 rw [if_pos rfl] at H
 have HC4 := Aside0.mk H
 clear H
 go_enter Try.func28, Try.ntmps28
 go_upto_region 6 with (first | ((with_reducible refine gate_dst (N := 1) rfl ?_); (try (refine gate_guard (by rfl) ?_; dsimp only)); refine bx 1 #[.int .i64 a0_0, .int .i64 a0_1, .int .i64 a0_2, .int .i64 a0_3, .int .i64 a0_4, .string a0_5, .string a0_6, .string a0_7] 23 ?_; intro gb133 hg w5 hbox hb; replace BK133 := ak (hbox); replace GE133 := ak (bz hg (lG HB)); replace HB := lB HB hb; clear hb hbox hg; obtain ⟨hcz6_0, hcz6_1, hcz6_2, hcz6_3, hcz6_4, hcz6_5, hcz6_6, hcz6_7, hfz6_0, hfz6_1, hfz6_2, hfz6_3, hfz6_4, hfz6_5, hfz6_6, hfz6_7⟩ := bC8 BK133) | ((with_reducible refine gate_callee (f := 63) rfl ?_); refine gl (some 7) Try.func63 #[.int .i64 a0_1, .int .i64 1, .int .i64 9999] ?_; (with_reducible refine (impl_in.calls a0_1 1 9999 _ _ A2.out).mono ?_); rintro e w' ⟨rfl, ⟨nd, rfl⟩⟩; refine ⟨_, rfl, ?_⟩; (try (rw [drewN_self w5]; generalize hq_ : World.drewN w5 _ = w5; have n0_ : Aside0 (w5.heap[gb133]? = some (.cells #[.int .i64 a0_0, .int .i64 a0_1, .int .i64 a0_2, .int .i64 a0_3, .int .i64 a0_4, .string a0_5, .string a0_6, .string a0_7] 23 (0, 0))) := ⟨by rw [← hq_]; exact (bG BK133)⟩; have n1_ : Aside0 (Below w.heap.size w w5) := ⟨by rw [← hq_]; exact (lT HB (gC GE133 gN))⟩; clear BK133 HB hq_; have BK133 := n0_; have HB := n1_; clear n0_ n1_)); (try (have hy133_0 : w5.cell? ⟨gb133, 0, none⟩ = some (.int .i64 a0_0) := bc BK133 0; have hv133_0 := blk_frozen BK133.out 0; have hy133_1 : w5.cell? ⟨gb133, 1, none⟩ = some (.int .i64 a0_1) := bc BK133 1; have hv133_1 := blk_frozen BK133.out 1; have hy133_2 : w5.cell? ⟨gb133, 2, none⟩ = some (.int .i64 a0_2) := bc BK133 2; have hv133_2 := blk_frozen BK133.out 2; have hy133_3 : w5.cell? ⟨gb133, 3, none⟩ = some (.int .i64 a0_3) := bc BK133 3; have hv133_3 := blk_frozen BK133.out 3; have hy133_4 : w5.cell? ⟨gb133, 4, none⟩ = some (.int .i64 a0_4) := bc BK133 4; have hv133_4 := blk_frozen BK133.out 4; have hy133_5 : w5.cell? ⟨gb133, 5, none⟩ = some (.string a0_5) := bc BK133 5; have hv133_5 := blk_frozen BK133.out 5; have hy133_6 : w5.cell? ⟨gb133, 6, none⟩ = some (.string a0_6) := bc BK133 6; have hv133_6 := blk_frozen BK133.out 6; have hy133_7 : w5.cell? ⟨gb133, 7, none⟩ = some (.string a0_7) := bc BK133 7; have hv133_7 := blk_frozen BK133.out 7))) | ((with_reducible refine gate_dst (N := 3) rfl ?_); (try (refine gate_guard (by rfl) ?_; dsimp only)); refine b8 3 ?_; intro gb135 hg w7 hbox hb; replace BK135 := ak (hbox); replace GW135 := ak (bz hg (lT HB (gC GE133 gN))); replace GE135 := ak (bz hg (lT HB (gC GE133 gN))); replace HB := ak (below_step (lT HB (gC GE133 gN)) hb); replace NB133_135 := ak (nl hg (bG BK133)); replace NB135_133 := ak (ng hg (bG BK133)); replace BK133 := bB BK133 hb; clear hb hbox hg; have hnb8 := NB135_133.out; have hnc8 := NB133_135.out; obtain ⟨hcz9_0, hcz9_1, hcz9_2, hcz9_3, hcz9_4, hcz9_5, hcz9_6, hcz9_7, hfz9_0, hfz9_1, hfz9_2, hfz9_3, hfz9_4, hfz9_5, hfz9_6, hfz9_7⟩ := bC8 BK135))
 (try simp only [Act.put, List.setIfInBounds_toArray, List.set_cons_zero, List.set_cons_succ])
 go_cut [24] (fun v24 wc => ∃ (kq : Nat) (x24_3 : Bool), v24 = .bool x24_3 ∧ Aside0 (impl_RecOk.j0 kq true x24_3 a0_0 a0_1 a0_2 a0_3 a0_4 a0_5 a0_6 a0_7 0 0 a0_2 a0_3 a0_4 a0_5 a0_6 a0_7 = some r) ∧ Aside0 (kq ≤ k) ∧ Aside0 (wc.heap[gb133]? = some (.cells #[.int .i64 a0_0, .int .i64 a0_1, .int .i64 a0_2, .int .i64 a0_3, .int .i64 a0_4, .string a0_5, .string a0_6, .string a0_7] 23 (0, 0))) ∧ Aside0 (wc.heap[gb135]? = some (.cells #[.int .i64 0, .int .i64 0, .int .i64 a0_2, .int .i64 a0_3, .int .i64 a0_4, .string a0_5, .string a0_6, .string a0_7] 23 (0, 0))) ∧ Aside0 (Below w.heap.size w wc))
 case first =>
  skip;{
 have H := HC4.out
 clear HC4
 by_cases c10 : a0_0 = 3
 {
 rw [if_pos c10] at H
 have c10b0 := beq_iff_eq.mpr c10
 have c10b1 := bne_eq_false_iff_eq.mpr c10
 clear c10
 (first | rw [c10b0] | (simp only [i64_w, i32_w]; rw [c10b0]) | skip)
 have H' := Aside0.mk H
 clear H
 have hnb11 := NB133_135.out
 have hnc11 := NB135_133.out
 obtain ⟨_, _, _, _, _, _, _, _, _, _, _, _, _, _, _, _⟩ := bC8 BK133
 go_wp2
 go_meet
 case rel => exact ⟨_, _, rr, H', ⟨by first | omega | exact Nat.le_refl _⟩, ⟨bF BK133 (nC NB133_135 nN)⟩, ⟨bW BK135⟩, ⟨by exact lT HB (gC GE133 (gC GE135 gN))⟩⟩
 }
 {
 rw [if_neg c10] at H
 have c10b0 := beq_eq_false_iff_ne.mpr c10
 have c10b1 := bne_iff_ne.mpr c10
 (first | rw [c10b0] | (simp only [i64_w, i32_w]; rw [c10b0]) | skip)
 by_cases c13 : a0_0 = 4
 {
 rw [if_pos c13] at H
 have c13b0 := beq_iff_eq.mpr c13
 have c13b1 := bne_eq_false_iff_eq.mpr c13
 clear c13
 have H' := Aside0.mk H
 clear H
 have hnb14 := NB133_135.out
 have hnc14 := NB135_133.out
 obtain ⟨_, _, _, _, _, _, _, _, _, _, _, _, _, _, _, _⟩ := bC8 BK133
 go_wp2
 go_meet
 case rel => exact ⟨_, _, rr, H', ⟨by first | omega | exact Nat.le_refl _⟩, ⟨bF BK133 (nC NB133_135 nN)⟩, ⟨bW BK135⟩, ⟨by exact lT HB (gC GE133 (gC GE135 gN))⟩⟩
 }
 {
 rw [if_neg c13] at H
 have c13b0 := beq_eq_false_iff_ne.mpr c13
 have c13b1 := bne_iff_ne.mpr c13
 have H' := Aside0.mk H
 clear H
 have hnb16 := NB133_135.out
 have hnc16 := NB135_133.out
 obtain ⟨_, _, _, _, _, _, _, _, _, _, _, _, _, _, _, _⟩ := bC8 BK133
 go_wp2
 go_meet
 case rel => exact ⟨_, _, rr, H', ⟨by first | omega | exact Nat.le_refl _⟩, ⟨bF BK133 (nC NB133_135 nN)⟩, ⟨bW BK135⟩, ⟨by exact lT HB (gC GE133 (gC GE135 gN))⟩⟩
 }
 }
 }
 case rest =>
  skip;{
 clear HC4
 try clear c3 hcz6_0 hcz6_1 hcz6_2 hcz6_3 hcz6_4 hcz6_5 hcz6_6 hcz6_7 hcz9_0 hcz9_1 hcz9_2 hcz9_3 hcz9_4 hcz9_5 hcz9_6 hcz9_7 hfz6_0 hfz6_1 hfz6_2 hfz6_3 hfz6_4 hfz6_5 hfz6_6 hfz6_7 hfz9_0 hfz9_1 hfz9_2 hfz9_3 hfz9_4 hfz9_5 hfz9_6 hfz9_7
 obtain ⟨kq, x24_3, rfl, HA, HJ3, BK133, BK135, HB⟩ := hcut
 cases kq with
 | zero => exact absurd HA.out (by simp [impl_RecOk.j0])
 | succ kj3 =>
  skip;{
 have H := HA.out
 clear HA
 simp only [impl_RecOk.j0] at H
 have HC18 := Aside0.mk H
 clear H
 go_upto_if 24 with (fail)
 go_cut [4] (fun v4 wc => ∃ (kq : Nat) (x4_17 : Bool) (x136002_17 : Int), v4 = .bool x4_17 ∧ Aside0 (impl_RecOk.j1 kq x4_17 a0_0 a0_1 a0_2 a0_3 a0_4 a0_5 a0_6 a0_7 0 0 x136002_17 a0_3 a0_4 a0_5 a0_6 a0_7 = some r) ∧ Aside0 (kq ≤ kj3) ∧ Aside0 (wc.heap[gb133]? = some (.cells #[.int .i64 a0_0, .int .i64 a0_1, .int .i64 a0_2, .int .i64 a0_3, .int .i64 a0_4, .string a0_5, .string a0_6, .string a0_7] 23 (0, 0))) ∧ Aside0 (wc.heap[gb135]? = some (.cells #[.int .i64 0, .int .i64 0, .int .i64 x136002_17, .int .i64 a0_3, .int .i64 a0_4, .string a0_5, .string a0_6, .string a0_7] 23 (0, 0))) ∧ Aside0 (Below w.heap.size w wc))
 case first =>
  skip;{
 have H := HC18.out
 clear HC18
 by_cases c19 : x24_3 = true
 {
 subst c19
 rw [if_pos rfl] at H
 obtain ⟨t136, A20, H⟩ := eb H
 try dsimp only at H
 have H' := Aside0.mk H
 clear H
 have hnb21 := NB133_135.out
 have hnc21 := NB135_133.out
 obtain ⟨_, _, _, _, _, _, _, _, _, _, _, _, _, _, _, _⟩ := bC8 BK133
 go_wp2_with ((with_reducible refine gate_callee (f := 63) rfl ?_); refine gl (some 27) Try.func63 #[.int .i64 a0_2, .int .i64 1, .int .i64 9999] ?_; (with_reducible refine (impl_in.calls a0_2 1 9999 t136 _ A20.out).mono ?_); rintro e w' ⟨rfl, ⟨nd, rfl⟩⟩; refine ⟨_, rfl, ?_⟩; (try (rw [drewN_self wc]; generalize hq_ : World.drewN wc _ = wc; have n0_ : Aside0 (wc.heap[gb133]? = some (.cells #[.int .i64 a0_0, .int .i64 a0_1, .int .i64 a0_2, .int .i64 a0_3, .int .i64 a0_4, .string a0_5, .string a0_6, .string a0_7] 23 (0, 0))) := ⟨by rw [← hq_]; exact (bG BK133)⟩; have n1_ : Aside0 (wc.heap[gb135]? = some (.cells #[.int .i64 0, .int .i64 0, .int .i64 a0_2, .int .i64 a0_3, .int .i64 a0_4, .string a0_5, .string a0_6, .string a0_7] 23 (0, 0))) := ⟨by rw [← hq_]; exact (bG BK135)⟩; have n2_ : Aside0 (Below w.heap.size w wc) := ⟨by rw [← hq_]; exact (lT HB (gC GE133 (gC GE135 gN)))⟩; clear BK133 BK135 HB hq_; have BK133 := n0_; have BK135 := n1_; have HB := n2_; clear n0_ n1_ n2_)); (try (have hy133_0 : wc.cell? ⟨gb133, 0, none⟩ = some (.int .i64 a0_0) := bc BK133 0; have hv133_0 := blk_frozen BK133.out 0; have hy133_1 : wc.cell? ⟨gb133, 1, none⟩ = some (.int .i64 a0_1) := bc BK133 1; have hv133_1 := blk_frozen BK133.out 1; have hy133_2 : wc.cell? ⟨gb133, 2, none⟩ = some (.int .i64 a0_2) := bc BK133 2; have hv133_2 := blk_frozen BK133.out 2; have hy133_3 : wc.cell? ⟨gb133, 3, none⟩ = some (.int .i64 a0_3) := bc BK133 3; have hv133_3 := blk_frozen BK133.out 3; have hy133_4 : wc.cell? ⟨gb133, 4, none⟩ = some (.int .i64 a0_4) := bc BK133 4; have hv133_4 := blk_frozen BK133.out 4; have hy133_5 : wc.cell? ⟨gb133, 5, none⟩ = some (.string a0_5) := bc BK133 5; have hv133_5 := blk_frozen BK133.out 5; have hy133_6 : wc.cell? ⟨gb133, 6, none⟩ = some (.string a0_6) := bc BK133 6; have hv133_6 := blk_frozen BK133.out 6; have hy133_7 : wc.cell? ⟨gb133, 7, none⟩ = some (.string a0_7) := bc BK133 7; have hv133_7 := blk_frozen BK133.out 7)); (try (have hy135_0 : wc.cell? ⟨gb135, 0, none⟩ = some (.int .i64 0) := bc BK135 0; have hv135_0 := blk_frozen BK135.out 0; have hy135_1 : wc.cell? ⟨gb135, 1, none⟩ = some (.int .i64 0) := bc BK135 1; have hv135_1 := blk_frozen BK135.out 1; have hy135_2 : wc.cell? ⟨gb135, 2, none⟩ = some (.int .i64 a0_2) := bc BK135 2; have hv135_2 := blk_frozen BK135.out 2; have hy135_3 : wc.cell? ⟨gb135, 3, none⟩ = some (.int .i64 a0_3) := bc BK135 3; have hv135_3 := blk_frozen BK135.out 3; have hy135_4 : wc.cell? ⟨gb135, 4, none⟩ = some (.int .i64 a0_4) := bc BK135 4; have hv135_4 := blk_frozen BK135.out 4; have hy135_5 : wc.cell? ⟨gb135, 5, none⟩ = some (.string a0_5) := bc BK135 5; have hv135_5 := blk_frozen BK135.out 5; have hy135_6 : wc.cell? ⟨gb135, 6, none⟩ = some (.string a0_6) := bc BK135 6; have hv135_6 := blk_frozen BK135.out 6; have hy135_7 : wc.cell? ⟨gb135, 7, none⟩ = some (.string a0_7) := bc BK135 7; have hv135_7 := blk_frozen BK135.out 7)); obtain ⟨_, _, _, _, _, _, _, _, _, _, _, _, _, _, _, _⟩ := bC8 BK135)
 go_meet
 case rel => exact ⟨_, _, _, rr, H', ⟨by have := HJ3.out; first | omega | exact Nat.le_refl _⟩, ⟨bF BK133 (nC NB133_135 nN)⟩, ⟨bW BK135⟩, ⟨by exact lT HB (gC GE133 (gC GE135 gN))⟩⟩
 }
 {
 replace c19 := Bool.eq_false_iff.mpr c19
 subst c19
 rw [if_neg (show ¬ (false = true) by decide)] at H
 have H' := Aside0.mk H
 clear H
 go_wp2
 go_meet
 case rel => exact ⟨_, _, _, rr, H', ⟨by have := HJ3.out; first | omega | exact Nat.le_refl _⟩, ⟨bG BK133⟩, ⟨bG BK135⟩, ⟨by exact lT HB (gC GE133 (gC GE135 gN))⟩⟩
 }
 }
 case rest =>
  skip;{
 clear HC18
 try clear c3 hcz6_0 hcz6_1 hcz6_2 hcz6_3 hcz6_4 hcz6_5 hcz6_6 hcz6_7 hcz9_0 hcz9_1 hcz9_2 hcz9_3 hcz9_4 hcz9_5 hcz9_6 hcz9_7 hfz6_0 hfz6_1 hfz6_2 hfz6_3 hfz6_4 hfz6_5 hfz6_6 hfz6_7 hfz9_0 hfz9_1 hfz9_2 hfz9_3 hfz9_4 hfz9_5 hfz9_6 hfz9_7
 obtain ⟨kq, x4_17, x136002_17, rfl, HA, HJ17, BK133, BK135, HB⟩ := hcut
 cases kq with
 | zero => exact absurd HA.out (by simp [impl_RecOk.j1])
 | succ kj17 =>
  skip;{
 have H := HA.out
 clear HA
 simp only [impl_RecOk.j1] at H
 have HC24 := Aside0.mk H
 clear H
 go_upto_region 9 with (fail)
 go_cut [36] (fun v36 wc => ∃ (kq : Nat) (x36_23 : Bool), v36 = .bool x36_23 ∧ Aside0 (impl_RecOk.j2 kq x4_17 x36_23 a0_0 a0_1 a0_2 a0_3 a0_4 a0_5 a0_6 a0_7 0 0 x136002_17 a0_3 a0_4 a0_5 a0_6 a0_7 = some r) ∧ Aside0 (kq ≤ kj17) ∧ Aside0 (wc.heap[gb133]? = some (.cells #[.int .i64 a0_0, .int .i64 a0_1, .int .i64 a0_2, .int .i64 a0_3, .int .i64 a0_4, .string a0_5, .string a0_6, .string a0_7] 23 (0, 0))) ∧ Aside0 (wc.heap[gb135]? = some (.cells #[.int .i64 0, .int .i64 0, .int .i64 x136002_17, .int .i64 a0_3, .int .i64 a0_4, .string a0_5, .string a0_6, .string a0_7] 23 (0, 0))) ∧ Aside0 (Below w.heap.size w wc))
 case first =>
  skip;{
 have H := HC24.out
 clear HC24
 by_cases c25 : a0_0 = 3
 {
 rw [if_pos c25] at H
 have c25b0 := beq_iff_eq.mpr c25
 have c25b1 := bne_eq_false_iff_eq.mpr c25
 clear c25
 (first | rw [c25b0] | (simp only [i64_w, i32_w]; rw [c25b0]) | skip)
 have H' := Aside0.mk H
 clear H
 have hnb26 := NB133_135.out
 have hnc26 := NB135_133.out
 obtain ⟨_, _, _, _, _, _, _, _, _, _, _, _, _, _, _, _⟩ := bC8 BK133
 go_wp2
 go_meet
 case rel => exact ⟨_, _, rr, H', ⟨by have := HJ3.out; have := HJ17.out; first | omega | exact Nat.le_refl _⟩, ⟨bG BK133⟩, ⟨bG BK135⟩, ⟨by exact lT HB (gC GE133 (gC GE135 gN))⟩⟩
 }
 {
 rw [if_neg c25] at H
 have c25b0 := beq_eq_false_iff_ne.mpr c25
 have c25b1 := bne_iff_ne.mpr c25
 (first | rw [c25b0] | (simp only [i64_w, i32_w]; rw [c25b0]) | skip)
 have H' := Aside0.mk H
 clear H
 have hnb28 := NB133_135.out
 have hnc28 := NB135_133.out
 obtain ⟨_, _, _, _, _, _, _, _, _, _, _, _, _, _, _, _⟩ := bC8 BK133
 go_wp2
 go_meet
 case rel => exact ⟨_, _, rr, H', ⟨by have := HJ3.out; have := HJ17.out; first | omega | exact Nat.le_refl _⟩, ⟨bG BK133⟩, ⟨bG BK135⟩, ⟨by exact lT HB (gC GE133 (gC GE135 gN))⟩⟩
 }
 }
 case rest =>
  skip;{
 clear HC24
 try clear c3 hcz6_0 hcz6_1 hcz6_2 hcz6_3 hcz6_4 hcz6_5 hcz6_6 hcz6_7 hcz9_0 hcz9_1 hcz9_2 hcz9_3 hcz9_4 hcz9_5 hcz9_6 hcz9_7 hfz6_0 hfz6_1 hfz6_2 hfz6_3 hfz6_4 hfz6_5 hfz6_6 hfz6_7 hfz9_0 hfz9_1 hfz9_2 hfz9_3 hfz9_4 hfz9_5 hfz9_6 hfz9_7
 obtain ⟨kq, x36_23, rfl, HA, HJ23, BK133, BK135, HB⟩ := hcut
 cases kq with
 | zero => exact absurd HA.out (by simp [impl_RecOk.j2])
 | succ kj23 =>
  skip;{
 have H := HA.out
 clear HA
 simp only [impl_RecOk.j2] at H
 have HC30 := Aside0.mk H
 clear H
 go_upto_if 36 with (fail)
 go_cut [4] (fun v4 wc => ∃ (kq : Nat) (x4_29 : Bool) (x136004_29 : Int), v4 = .bool x4_29 ∧ Aside0 (impl_RecOk.j3 kq x4_29 a0_0 a0_1 a0_2 a0_3 a0_4 a0_5 a0_6 a0_7 0 0 x136002_17 a0_3 x136004_29 a0_5 a0_6 a0_7 = some r) ∧ Aside0 (kq ≤ kj23) ∧ Aside0 (wc.heap[gb133]? = some (.cells #[.int .i64 a0_0, .int .i64 a0_1, .int .i64 a0_2, .int .i64 a0_3, .int .i64 a0_4, .string a0_5, .string a0_6, .string a0_7] 23 (0, 0))) ∧ Aside0 (wc.heap[gb135]? = some (.cells #[.int .i64 0, .int .i64 0, .int .i64 x136002_17, .int .i64 a0_3, .int .i64 x136004_29, .string a0_5, .string a0_6, .string a0_7] 23 (0, 0))) ∧ Aside0 (Below w.heap.size w wc))
 case first =>
  skip;{
 have H := HC30.out
 clear HC30
 by_cases c31 : x36_23 = true
 {
 subst c31
 rw [if_pos rfl] at H
 by_cases c32 : x4_17 = true
 {
 subst c32
 rw [if_pos rfl] at H
 obtain ⟨t137, A33, H⟩ := eb H
 try dsimp only at H
 have H' := Aside0.mk H
 clear H
 have hnb34 := NB133_135.out
 have hnc34 := NB135_133.out
 obtain ⟨_, _, _, _, _, _, _, _, _, _, _, _, _, _, _, _⟩ := bC8 BK133
 go_wp2_with (go_at_call 63; (with_reducible refine (impl_in.calls a0_4 0 7 t137 _ A33.out).mono ?_); rintro e w' ⟨rfl, ⟨nd, rfl⟩⟩; (try (rw [drewN_self wc]; generalize hq_ : World.drewN wc _ = wc; have n0_ : Aside0 (wc.heap[gb133]? = some (.cells #[.int .i64 a0_0, .int .i64 a0_1, .int .i64 a0_2, .int .i64 a0_3, .int .i64 a0_4, .string a0_5, .string a0_6, .string a0_7] 23 (0, 0))) := ⟨by rw [← hq_]; exact (bG BK133)⟩; have n1_ : Aside0 (wc.heap[gb135]? = some (.cells #[.int .i64 0, .int .i64 0, .int .i64 x136002_17, .int .i64 a0_3, .int .i64 a0_4, .string a0_5, .string a0_6, .string a0_7] 23 (0, 0))) := ⟨by rw [← hq_]; exact (bG BK135)⟩; have n2_ : Aside0 (Below w.heap.size w wc) := ⟨by rw [← hq_]; exact (lT HB (gC GE133 (gC GE135 gN)))⟩; clear BK133 BK135 HB hq_; have BK133 := n0_; have BK135 := n1_; have HB := n2_; clear n0_ n1_ n2_)); (try (have hy133_0 : wc.cell? ⟨gb133, 0, none⟩ = some (.int .i64 a0_0) := bc BK133 0; have hv133_0 := blk_frozen BK133.out 0; have hy133_1 : wc.cell? ⟨gb133, 1, none⟩ = some (.int .i64 a0_1) := bc BK133 1; have hv133_1 := blk_frozen BK133.out 1; have hy133_2 : wc.cell? ⟨gb133, 2, none⟩ = some (.int .i64 a0_2) := bc BK133 2; have hv133_2 := blk_frozen BK133.out 2; have hy133_3 : wc.cell? ⟨gb133, 3, none⟩ = some (.int .i64 a0_3) := bc BK133 3; have hv133_3 := blk_frozen BK133.out 3; have hy133_4 : wc.cell? ⟨gb133, 4, none⟩ = some (.int .i64 a0_4) := bc BK133 4; have hv133_4 := blk_frozen BK133.out 4; have hy133_5 : wc.cell? ⟨gb133, 5, none⟩ = some (.string a0_5) := bc BK133 5; have hv133_5 := blk_frozen BK133.out 5; have hy133_6 : wc.cell? ⟨gb133, 6, none⟩ = some (.string a0_6) := bc BK133 6; have hv133_6 := blk_frozen BK133.out 6; have hy133_7 : wc.cell? ⟨gb133, 7, none⟩ = some (.string a0_7) := bc BK133 7; have hv133_7 := blk_frozen BK133.out 7)); (try (have hy135_0 : wc.cell? ⟨gb135, 0, none⟩ = some (.int .i64 0) := bc BK135 0; have hv135_0 := blk_frozen BK135.out 0; have hy135_1 : wc.cell? ⟨gb135, 1, none⟩ = some (.int .i64 0) := bc BK135 1; have hv135_1 := blk_frozen BK135.out 1; have hy135_2 : wc.cell? ⟨gb135, 2, none⟩ = some (.int .i64 x136002_17) := bc BK135 2; have hv135_2 := blk_frozen BK135.out 2; have hy135_3 : wc.cell? ⟨gb135, 3, none⟩ = some (.int .i64 a0_3) := bc BK135 3; have hv135_3 := blk_frozen BK135.out 3; have hy135_4 : wc.cell? ⟨gb135, 4, none⟩ = some (.int .i64 a0_4) := bc BK135 4; have hv135_4 := blk_frozen BK135.out 4; have hy135_5 : wc.cell? ⟨gb135, 5, none⟩ = some (.string a0_5) := bc BK135 5; have hv135_5 := blk_frozen BK135.out 5; have hy135_6 : wc.cell? ⟨gb135, 6, none⟩ = some (.string a0_6) := bc BK135 6; have hv135_6 := blk_frozen BK135.out 6; have hy135_7 : wc.cell? ⟨gb135, 7, none⟩ = some (.string a0_7) := bc BK135 7; have hv135_7 := blk_frozen BK135.out 7)); obtain ⟨_, _, _, _, _, _, _, _, _, _, _, _, _, _, _, _⟩ := bC8 BK135)
 go_meet
 case rel => exact ⟨_, _, _, rr, H', ⟨by have := HJ3.out; have := HJ17.out; have := HJ23.out; first | omega | exact Nat.le_refl _⟩, ⟨bF BK133 (nC NB133_135 nN)⟩, ⟨bW BK135⟩, ⟨by exact lT HB (gC GE133 (gC GE135 gN))⟩⟩
 }
 {
 replace c32 := Bool.eq_false_iff.mpr c32
 subst c32
 rw [if_neg (show ¬ (false = true) by decide)] at H
 have H' := Aside0.mk H
 clear H
 have hnb37 := NB135_133.out
 have hnc37 := NB133_135.out
 obtain ⟨_, _, _, _, _, _, _, _, _, _, _, _, _, _, _, _⟩ := bC8 BK135
 go_wp2
 go_meet
 case rel => exact ⟨_, _, _, rr, H', ⟨by have := HJ3.out; have := HJ17.out; have := HJ23.out; first | omega | exact Nat.le_refl _⟩, ⟨bF BK133 (nC NB133_135 nN)⟩, ⟨bW BK135⟩, ⟨by exact lT HB (gC GE133 (gC GE135 gN))⟩⟩
 }
 }
 {
 replace c31 := Bool.eq_false_iff.mpr c31
 subst c31
 rw [if_neg (show ¬ (false = true) by decide)] at H
 have H' := Aside0.mk H
 clear H
 go_wp2
 go_meet
 case rel => exact ⟨_, _, _, rr, H', ⟨by have := HJ3.out; have := HJ17.out; have := HJ23.out; first | omega | exact Nat.le_refl _⟩, ⟨bG BK133⟩, ⟨bG BK135⟩, ⟨by exact lT HB (gC GE133 (gC GE135 gN))⟩⟩
 }
 }
 case rest =>
  skip;{
 clear HC30
 try clear c3 hcz6_0 hcz6_1 hcz6_2 hcz6_3 hcz6_4 hcz6_5 hcz6_6 hcz6_7 hcz9_0 hcz9_1 hcz9_2 hcz9_3 hcz9_4 hcz9_5 hcz9_6 hcz9_7 hfz6_0 hfz6_1 hfz6_2 hfz6_3 hfz6_4 hfz6_5 hfz6_6 hfz6_7 hfz9_0 hfz9_1 hfz9_2 hfz9_3 hfz9_4 hfz9_5 hfz9_6 hfz9_7
 obtain ⟨kq, x4_29, x136004_29, rfl, HA, HJ29, BK133, BK135, HB⟩ := hcut
 cases kq with
 | zero => exact absurd HA.out (by simp [impl_RecOk.j3])
 | succ kj29 =>
  skip;{
 have H := HA.out
 clear HA
 simp only [impl_RecOk.j3] at H
 by_cases c39 : a0_0 = 1
 {
 rw [if_pos c39] at H
 have c39b0 := beq_iff_eq.mpr c39
 have c39b1 := bne_eq_false_iff_eq.mpr c39
 clear c39
 obtain ⟨t138, A40, H⟩ := eb H
 try dsimp only at H
 by_cases c41 : t138 = true
 {
 subst c41
 rw [if_pos rfl] at H
 obtain ⟨t139, A42, H⟩ := eb H
 try dsimp only at H
 have HS_ := Aside0.mk H
 clear H
 have hnb46 := NB133_135.out
 have hnc46 := NB135_133.out
 obtain ⟨_, _, _, _, _, _, _, _, _, _, _, _, _, _, _, _⟩ := bC8 BK133
 go_wp2_with ((with_reducible refine gate_callee (f := 31) rfl ?_); refine gl (some 50) Try.func31 #[.string a0_5] ?_; (with_reducible refine (impl_WordOk.calls kj29 a0_5 _ _ A40.out).mono ?_); rintro e w' ⟨rfl, ⟨nd, rfl⟩⟩; refine ⟨_, rfl, ?_⟩; (try (rw [drewN_self wc]; generalize hq_ : World.drewN wc _ = wc; have n0_ : Aside0 (wc.heap[gb133]? = some (.cells #[.int .i64 a0_0, .int .i64 a0_1, .int .i64 a0_2, .int .i64 a0_3, .int .i64 a0_4, .string a0_5, .string a0_6, .string a0_7] 23 (0, 0))) := ⟨by rw [← hq_]; exact (bG BK133)⟩; have n1_ : Aside0 (wc.heap[gb135]? = some (.cells #[.int .i64 0, .int .i64 0, .int .i64 x136002_17, .int .i64 a0_3, .int .i64 x136004_29, .string a0_5, .string a0_6, .string a0_7] 23 (0, 0))) := ⟨by rw [← hq_]; exact (bG BK135)⟩; have n2_ : Aside0 (Below w.heap.size w wc) := ⟨by rw [← hq_]; exact (lT HB (gC GE133 (gC GE135 gN)))⟩; clear BK133 BK135 HB hq_; have BK133 := n0_; have BK135 := n1_; have HB := n2_; clear n0_ n1_ n2_)); (try (have hy133_0 : wc.cell? ⟨gb133, 0, none⟩ = some (.int .i64 a0_0) := bc BK133 0; have hv133_0 := blk_frozen BK133.out 0; have hy133_1 : wc.cell? ⟨gb133, 1, none⟩ = some (.int .i64 a0_1) := bc BK133 1; have hv133_1 := blk_frozen BK133.out 1; have hy133_2 : wc.cell? ⟨gb133, 2, none⟩ = some (.int .i64 a0_2) := bc BK133 2; have hv133_2 := blk_frozen BK133.out 2; have hy133_3 : wc.cell? ⟨gb133, 3, none⟩ = some (.int .i64 a0_3) := bc BK133 3; have hv133_3 := blk_frozen BK133.out 3; have hy133_4 : wc.cell? ⟨gb133, 4, none⟩ = some (.int .i64 a0_4) := bc BK133 4; have hv133_4 := blk_frozen BK133.out 4; have hy133_5 : wc.cell? ⟨gb133, 5, none⟩ = some (.string a0_5) := bc BK133 5; have hv133_5 := blk_frozen BK133.out 5; have hy133_6 : wc.cell? ⟨gb133, 6, none⟩ = some (.string a0_6) := bc BK133 6; have hv133_6 := blk_frozen BK133.out 6; have hy133_7 : wc.cell? ⟨gb133, 7, none⟩ = some (.string a0_7) := bc BK133 7; have hv133_7 := blk_frozen BK133.out 7)); (try (have hy135_0 : wc.cell? ⟨gb135, 0, none⟩ = some (.int .i64 0) := bc BK135 0; have hv135_0 := blk_frozen BK135.out 0; have hy135_1 : wc.cell? ⟨gb135, 1, none⟩ = some (.int .i64 0) := bc BK135 1; have hv135_1 := blk_frozen BK135.out 1; have hy135_2 : wc.cell? ⟨gb135, 2, none⟩ = some (.int .i64 x136002_17) := bc BK135 2; have hv135_2 := blk_frozen BK135.out 2; have hy135_3 : wc.cell? ⟨gb135, 3, none⟩ = some (.int .i64 a0_3) := bc BK135 3; have hv135_3 := blk_frozen BK135.out 3; have hy135_4 : wc.cell? ⟨gb135, 4, none⟩ = some (.int .i64 x136004_29) := bc BK135 4; have hv135_4 := blk_frozen BK135.out 4; have hy135_5 : wc.cell? ⟨gb135, 5, none⟩ = some (.string a0_5) := bc BK135 5; have hv135_5 := blk_frozen BK135.out 5; have hy135_6 : wc.cell? ⟨gb135, 6, none⟩ = some (.string a0_6) := bc BK135 6; have hv135_6 := blk_frozen BK135.out 6; have hy135_7 : wc.cell? ⟨gb135, 7, none⟩ = some (.string a0_7) := bc BK135 7; have hv135_7 := blk_frozen BK135.out 7)); refine Stop.out ?_)
 have H := HS_.out
 clear HS_
 by_cases c43 : t139 = true
 {
 subst c43
 rw [if_pos rfl] at H
 obtain ⟨t140, A44, H⟩ := eb H
 try dsimp only at H
 have HS_ := Aside0.mk H
 clear H
 refine ⟨?_⟩
 go_wp2_with (first | (go_at_call 31; (with_reducible refine (impl_WordOk.calls kj29 a0_6 _ _ A42.out).mono ?_); rintro e w' ⟨rfl, ⟨nd, rfl⟩⟩; (try (rw [drewN_self wc]; generalize hq_ : World.drewN wc _ = wc; have n0_ : Aside0 (wc.heap[gb133]? = some (.cells #[.int .i64 a0_0, .int .i64 a0_1, .int .i64 a0_2, .int .i64 a0_3, .int .i64 a0_4, .string a0_5, .string a0_6, .string a0_7] 23 (0, 0))) := ⟨by rw [← hq_]; exact (bG BK133)⟩; have n1_ : Aside0 (wc.heap[gb135]? = some (.cells #[.int .i64 0, .int .i64 0, .int .i64 x136002_17, .int .i64 a0_3, .int .i64 x136004_29, .string a0_5, .string a0_6, .string a0_7] 23 (0, 0))) := ⟨by rw [← hq_]; exact (bG BK135)⟩; have n2_ : Aside0 (Below w.heap.size w wc) := ⟨by rw [← hq_]; exact (lT HB (gC GE133 (gC GE135 gN)))⟩; clear BK133 BK135 HB hq_; have BK133 := n0_; have BK135 := n1_; have HB := n2_; clear n0_ n1_ n2_)); (try (have hy133_0 : wc.cell? ⟨gb133, 0, none⟩ = some (.int .i64 a0_0) := bc BK133 0; have hv133_0 := blk_frozen BK133.out 0; have hy133_1 : wc.cell? ⟨gb133, 1, none⟩ = some (.int .i64 a0_1) := bc BK133 1; have hv133_1 := blk_frozen BK133.out 1; have hy133_2 : wc.cell? ⟨gb133, 2, none⟩ = some (.int .i64 a0_2) := bc BK133 2; have hv133_2 := blk_frozen BK133.out 2; have hy133_3 : wc.cell? ⟨gb133, 3, none⟩ = some (.int .i64 a0_3) := bc BK133 3; have hv133_3 := blk_frozen BK133.out 3; have hy133_4 : wc.cell? ⟨gb133, 4, none⟩ = some (.int .i64 a0_4) := bc BK133 4; have hv133_4 := blk_frozen BK133.out 4; have hy133_5 : wc.cell? ⟨gb133, 5, none⟩ = some (.string a0_5) := bc BK133 5; have hv133_5 := blk_frozen BK133.out 5; have hy133_6 : wc.cell? ⟨gb133, 6, none⟩ = some (.string a0_6) := bc BK133 6; have hv133_6 := blk_frozen BK133.out 6; have hy133_7 : wc.cell? ⟨gb133, 7, none⟩ = some (.string a0_7) := bc BK133 7; have hv133_7 := blk_frozen BK133.out 7)); (try (have hy135_0 : wc.cell? ⟨gb135, 0, none⟩ = some (.int .i64 0) := bc BK135 0; have hv135_0 := blk_frozen BK135.out 0; have hy135_1 : wc.cell? ⟨gb135, 1, none⟩ = some (.int .i64 0) := bc BK135 1; have hv135_1 := blk_frozen BK135.out 1; have hy135_2 : wc.cell? ⟨gb135, 2, none⟩ = some (.int .i64 x136002_17) := bc BK135 2; have hv135_2 := blk_frozen BK135.out 2; have hy135_3 : wc.cell? ⟨gb135, 3, none⟩ = some (.int .i64 a0_3) := bc BK135 3; have hv135_3 := blk_frozen BK135.out 3; have hy135_4 : wc.cell? ⟨gb135, 4, none⟩ = some (.int .i64 x136004_29) := bc BK135 4; have hv135_4 := blk_frozen BK135.out 4; have hy135_5 : wc.cell? ⟨gb135, 5, none⟩ = some (.string a0_5) := bc BK135 5; have hv135_5 := blk_frozen BK135.out 5; have hy135_6 : wc.cell? ⟨gb135, 6, none⟩ = some (.string a0_6) := bc BK135 6; have hv135_6 := blk_frozen BK135.out 6; have hy135_7 : wc.cell? ⟨gb135, 7, none⟩ = some (.string a0_7) := bc BK135 7; have hv135_7 := blk_frozen BK135.out 7))) | (go_at_call 63; (with_reducible refine (impl_in.calls a0_3 1 10000 _ _ A44.out).mono ?_); rintro e w' ⟨rfl, ⟨nd, rfl⟩⟩; (try (rw [drewN_self wc]; generalize hq_ : World.drewN wc _ = wc; have n0_ : Aside0 (wc.heap[gb133]? = some (.cells #[.int .i64 a0_0, .int .i64 a0_1, .int .i64 a0_2, .int .i64 a0_3, .int .i64 a0_4, .string a0_5, .string a0_6, .string a0_7] 23 (0, 0))) := ⟨by rw [← hq_]; exact (bG BK133)⟩; have n1_ : Aside0 (wc.heap[gb135]? = some (.cells #[.int .i64 0, .int .i64 0, .int .i64 x136002_17, .int .i64 a0_3, .int .i64 x136004_29, .string a0_5, .string a0_6, .string a0_7] 23 (0, 0))) := ⟨by rw [← hq_]; exact (bG BK135)⟩; have n2_ : Aside0 (Below w.heap.size w wc) := ⟨by rw [← hq_]; exact (lT HB (gC GE133 (gC GE135 gN)))⟩; clear BK133 BK135 HB hq_; have BK133 := n0_; have BK135 := n1_; have HB := n2_; clear n0_ n1_ n2_)); (try (have hy133_0 : wc.cell? ⟨gb133, 0, none⟩ = some (.int .i64 a0_0) := bc BK133 0; have hv133_0 := blk_frozen BK133.out 0; have hy133_1 : wc.cell? ⟨gb133, 1, none⟩ = some (.int .i64 a0_1) := bc BK133 1; have hv133_1 := blk_frozen BK133.out 1; have hy133_2 : wc.cell? ⟨gb133, 2, none⟩ = some (.int .i64 a0_2) := bc BK133 2; have hv133_2 := blk_frozen BK133.out 2; have hy133_3 : wc.cell? ⟨gb133, 3, none⟩ = some (.int .i64 a0_3) := bc BK133 3; have hv133_3 := blk_frozen BK133.out 3; have hy133_4 : wc.cell? ⟨gb133, 4, none⟩ = some (.int .i64 a0_4) := bc BK133 4; have hv133_4 := blk_frozen BK133.out 4; have hy133_5 : wc.cell? ⟨gb133, 5, none⟩ = some (.string a0_5) := bc BK133 5; have hv133_5 := blk_frozen BK133.out 5; have hy133_6 : wc.cell? ⟨gb133, 6, none⟩ = some (.string a0_6) := bc BK133 6; have hv133_6 := blk_frozen BK133.out 6; have hy133_7 : wc.cell? ⟨gb133, 7, none⟩ = some (.string a0_7) := bc BK133 7; have hv133_7 := blk_frozen BK133.out 7)); (try (have hy135_0 : wc.cell? ⟨gb135, 0, none⟩ = some (.int .i64 0) := bc BK135 0; have hv135_0 := blk_frozen BK135.out 0; have hy135_1 : wc.cell? ⟨gb135, 1, none⟩ = some (.int .i64 0) := bc BK135 1; have hv135_1 := blk_frozen BK135.out 1; have hy135_2 : wc.cell? ⟨gb135, 2, none⟩ = some (.int .i64 x136002_17) := bc BK135 2; have hv135_2 := blk_frozen BK135.out 2; have hy135_3 : wc.cell? ⟨gb135, 3, none⟩ = some (.int .i64 a0_3) := bc BK135 3; have hv135_3 := blk_frozen BK135.out 3; have hy135_4 : wc.cell? ⟨gb135, 4, none⟩ = some (.int .i64 x136004_29) := bc BK135 4; have hv135_4 := blk_frozen BK135.out 4; have hy135_5 : wc.cell? ⟨gb135, 5, none⟩ = some (.string a0_5) := bc BK135 5; have hv135_5 := blk_frozen BK135.out 5; have hy135_6 : wc.cell? ⟨gb135, 6, none⟩ = some (.string a0_6) := bc BK135 6; have hv135_6 := blk_frozen BK135.out 6; have hy135_7 : wc.cell? ⟨gb135, 7, none⟩ = some (.string a0_7) := bc BK135 7; have hv135_7 := blk_frozen BK135.out 7)); obtain ⟨_, _, _, _, _, _, _, _, _, _, _, _, _, _, _, _⟩ := bC8 BK135; refine Stop.out ?_))
 have H := HS_.out
 clear HS_
 by_cases c45 : t140 = true
 {
 subst c45
 rw [if_pos rfl] at H
 obtain rfl := Option.some.inj H
 refine ⟨?_⟩
 go_wp2
 go_ret
 exact ⟨ew, by exact lT HB (gC GE133 (gC GE135 gN))⟩
 }
 {
 replace c45 := Bool.eq_false_iff.mpr c45
 subst c45
 rw [if_neg (show ¬ (false = true) by decide)] at H
 obtain rfl := Option.some.inj H
 refine ⟨?_⟩
 go_wp2
 go_ret
 exact ⟨ew, by exact lT HB (gC GE133 (gC GE135 gN))⟩
 }
 }
 {
 replace c43 := Bool.eq_false_iff.mpr c43
 subst c43
 rw [if_neg (show ¬ (false = true) by decide)] at H
 obtain rfl := Option.some.inj H
 refine ⟨?_⟩
 go_wp2_with (go_at_call 31; (with_reducible refine (impl_WordOk.calls kj29 a0_6 _ _ A42.out).mono ?_); rintro e w' ⟨rfl, ⟨nd, rfl⟩⟩; (try (rw [drewN_self wc]; generalize hq_ : World.drewN wc _ = wc; have n0_ : Aside0 (wc.heap[gb133]? = some (.cells #[.int .i64 a0_0, .int .i64 a0_1, .int .i64 a0_2, .int .i64 a0_3, .int .i64 a0_4, .string a0_5, .string a0_6, .string a0_7] 23 (0, 0))) := ⟨by rw [← hq_]; exact (bG BK133)⟩; have n1_ : Aside0 (wc.heap[gb135]? = some (.cells #[.int .i64 0, .int .i64 0, .int .i64 x136002_17, .int .i64 a0_3, .int .i64 x136004_29, .string a0_5, .string a0_6, .string a0_7] 23 (0, 0))) := ⟨by rw [← hq_]; exact (bG BK135)⟩; have n2_ : Aside0 (Below w.heap.size w wc) := ⟨by rw [← hq_]; exact (lT HB (gC GE133 (gC GE135 gN)))⟩; clear BK133 BK135 HB hq_; have BK133 := n0_; have BK135 := n1_; have HB := n2_; clear n0_ n1_ n2_)); (try (have hy133_0 : wc.cell? ⟨gb133, 0, none⟩ = some (.int .i64 a0_0) := bc BK133 0; have hv133_0 := blk_frozen BK133.out 0; have hy133_1 : wc.cell? ⟨gb133, 1, none⟩ = some (.int .i64 a0_1) := bc BK133 1; have hv133_1 := blk_frozen BK133.out 1; have hy133_2 : wc.cell? ⟨gb133, 2, none⟩ = some (.int .i64 a0_2) := bc BK133 2; have hv133_2 := blk_frozen BK133.out 2; have hy133_3 : wc.cell? ⟨gb133, 3, none⟩ = some (.int .i64 a0_3) := bc BK133 3; have hv133_3 := blk_frozen BK133.out 3; have hy133_4 : wc.cell? ⟨gb133, 4, none⟩ = some (.int .i64 a0_4) := bc BK133 4; have hv133_4 := blk_frozen BK133.out 4; have hy133_5 : wc.cell? ⟨gb133, 5, none⟩ = some (.string a0_5) := bc BK133 5; have hv133_5 := blk_frozen BK133.out 5; have hy133_6 : wc.cell? ⟨gb133, 6, none⟩ = some (.string a0_6) := bc BK133 6; have hv133_6 := blk_frozen BK133.out 6; have hy133_7 : wc.cell? ⟨gb133, 7, none⟩ = some (.string a0_7) := bc BK133 7; have hv133_7 := blk_frozen BK133.out 7)); (try (have hy135_0 : wc.cell? ⟨gb135, 0, none⟩ = some (.int .i64 0) := bc BK135 0; have hv135_0 := blk_frozen BK135.out 0; have hy135_1 : wc.cell? ⟨gb135, 1, none⟩ = some (.int .i64 0) := bc BK135 1; have hv135_1 := blk_frozen BK135.out 1; have hy135_2 : wc.cell? ⟨gb135, 2, none⟩ = some (.int .i64 x136002_17) := bc BK135 2; have hv135_2 := blk_frozen BK135.out 2; have hy135_3 : wc.cell? ⟨gb135, 3, none⟩ = some (.int .i64 a0_3) := bc BK135 3; have hv135_3 := blk_frozen BK135.out 3; have hy135_4 : wc.cell? ⟨gb135, 4, none⟩ = some (.int .i64 x136004_29) := bc BK135 4; have hv135_4 := blk_frozen BK135.out 4; have hy135_5 : wc.cell? ⟨gb135, 5, none⟩ = some (.string a0_5) := bc BK135 5; have hv135_5 := blk_frozen BK135.out 5; have hy135_6 : wc.cell? ⟨gb135, 6, none⟩ = some (.string a0_6) := bc BK135 6; have hv135_6 := blk_frozen BK135.out 6; have hy135_7 : wc.cell? ⟨gb135, 7, none⟩ = some (.string a0_7) := bc BK135 7; have hv135_7 := blk_frozen BK135.out 7)); obtain ⟨_, _, _, _, _, _, _, _, _, _, _, _, _, _, _, _⟩ := bC8 BK135)
 go_ret
 exact ⟨ew, by exact lT HB (gC GE133 (gC GE135 gN))⟩
 }
 }
 {
 replace c41 := Bool.eq_false_iff.mpr c41
 subst c41
 rw [if_neg (show ¬ (false = true) by decide)] at H
 obtain rfl := Option.some.inj H
 have hnb55 := NB133_135.out
 have hnc55 := NB135_133.out
 obtain ⟨_, _, _, _, _, _, _, _, _, _, _, _, _, _, _, _⟩ := bC8 BK133
 go_wp2_with ((with_reducible refine gate_callee (f := 31) rfl ?_); refine gl (some 50) Try.func31 #[.string a0_5] ?_; (with_reducible refine (impl_WordOk.calls kj29 a0_5 _ _ A40.out).mono ?_); rintro e w' ⟨rfl, ⟨nd, rfl⟩⟩; refine ⟨_, rfl, ?_⟩; (try (rw [drewN_self wc]; generalize hq_ : World.drewN wc _ = wc; have n0_ : Aside0 (wc.heap[gb133]? = some (.cells #[.int .i64 a0_0, .int .i64 a0_1, .int .i64 a0_2, .int .i64 a0_3, .int .i64 a0_4, .string a0_5, .string a0_6, .string a0_7] 23 (0, 0))) := ⟨by rw [← hq_]; exact (bG BK133)⟩; have n1_ : Aside0 (wc.heap[gb135]? = some (.cells #[.int .i64 0, .int .i64 0, .int .i64 x136002_17, .int .i64 a0_3, .int .i64 x136004_29, .string a0_5, .string a0_6, .string a0_7] 23 (0, 0))) := ⟨by rw [← hq_]; exact (bG BK135)⟩; have n2_ : Aside0 (Below w.heap.size w wc) := ⟨by rw [← hq_]; exact (lT HB (gC GE133 (gC GE135 gN)))⟩; clear BK133 BK135 HB hq_; have BK133 := n0_; have BK135 := n1_; have HB := n2_; clear n0_ n1_ n2_)); (try (have hy133_0 : wc.cell? ⟨gb133, 0, none⟩ = some (.int .i64 a0_0) := bc BK133 0; have hv133_0 := blk_frozen BK133.out 0; have hy133_1 : wc.cell? ⟨gb133, 1, none⟩ = some (.int .i64 a0_1) := bc BK133 1; have hv133_1 := blk_frozen BK133.out 1; have hy133_2 : wc.cell? ⟨gb133, 2, none⟩ = some (.int .i64 a0_2) := bc BK133 2; have hv133_2 := blk_frozen BK133.out 2; have hy133_3 : wc.cell? ⟨gb133, 3, none⟩ = some (.int .i64 a0_3) := bc BK133 3; have hv133_3 := blk_frozen BK133.out 3; have hy133_4 : wc.cell? ⟨gb133, 4, none⟩ = some (.int .i64 a0_4) := bc BK133 4; have hv133_4 := blk_frozen BK133.out 4; have hy133_5 : wc.cell? ⟨gb133, 5, none⟩ = some (.string a0_5) := bc BK133 5; have hv133_5 := blk_frozen BK133.out 5; have hy133_6 : wc.cell? ⟨gb133, 6, none⟩ = some (.string a0_6) := bc BK133 6; have hv133_6 := blk_frozen BK133.out 6; have hy133_7 : wc.cell? ⟨gb133, 7, none⟩ = some (.string a0_7) := bc BK133 7; have hv133_7 := blk_frozen BK133.out 7)); (try (have hy135_0 : wc.cell? ⟨gb135, 0, none⟩ = some (.int .i64 0) := bc BK135 0; have hv135_0 := blk_frozen BK135.out 0; have hy135_1 : wc.cell? ⟨gb135, 1, none⟩ = some (.int .i64 0) := bc BK135 1; have hv135_1 := blk_frozen BK135.out 1; have hy135_2 : wc.cell? ⟨gb135, 2, none⟩ = some (.int .i64 x136002_17) := bc BK135 2; have hv135_2 := blk_frozen BK135.out 2; have hy135_3 : wc.cell? ⟨gb135, 3, none⟩ = some (.int .i64 a0_3) := bc BK135 3; have hv135_3 := blk_frozen BK135.out 3; have hy135_4 : wc.cell? ⟨gb135, 4, none⟩ = some (.int .i64 x136004_29) := bc BK135 4; have hv135_4 := blk_frozen BK135.out 4; have hy135_5 : wc.cell? ⟨gb135, 5, none⟩ = some (.string a0_5) := bc BK135 5; have hv135_5 := blk_frozen BK135.out 5; have hy135_6 : wc.cell? ⟨gb135, 6, none⟩ = some (.string a0_6) := bc BK135 6; have hv135_6 := blk_frozen BK135.out 6; have hy135_7 : wc.cell? ⟨gb135, 7, none⟩ = some (.string a0_7) := bc BK135 7; have hv135_7 := blk_frozen BK135.out 7)); obtain ⟨_, _, _, _, _, _, _, _, _, _, _, _, _, _, _, _⟩ := bC8 BK135)
 go_ret
 exact ⟨ew, by exact lT HB (gC GE133 (gC GE135 gN))⟩
 }
 }
 {
 rw [if_neg c39] at H
 have c39b0 := beq_eq_false_iff_ne.mpr c39
 have c39b1 := bne_iff_ne.mpr c39
 by_cases c58 : a0_0 = 3
 {
 rw [if_pos c58] at H
 have c58b0 := beq_iff_eq.mpr c58
 have c58b1 := bne_eq_false_iff_eq.mpr c58
 clear c58
 by_cases c59 : x4_29 = true
 {
 subst c59
 rw [if_pos rfl] at H
 by_cases c60 : (a0_7.size : Int) ≤ 100
 {
 rw [if_pos c60] at H
 have c60b0 := decide_eq_true c60
 have c60b1 : decide (a0_7.size ≤ 100) = true := decide_eq_true (by omega)
 clear c60
 obtain rfl := Option.some.inj H
 have hnb61 := NB133_135.out
 have hnc61 := NB135_133.out
 obtain ⟨_, _, _, _, _, _, _, _, _, _, _, _, _, _, _, _⟩ := bC8 BK133
 obtain ⟨_, _, _, _, _, _, _, _, _, _, _, _, _, _, _, _⟩ := bC8 BK135
 go_wp2
 go_ret
 exact ⟨ew, by exact lT HB (gC GE133 (gC GE135 gN))⟩
 }
 {
 rw [if_neg c60] at H
 have c60b0 := decide_eq_false c60
 have c60b1 : decide (a0_7.size ≤ 100) = false := decide_eq_false (by omega)
 clear c60
 obtain rfl := Option.some.inj H
 have hnb64 := NB133_135.out
 have hnc64 := NB135_133.out
 obtain ⟨_, _, _, _, _, _, _, _, _, _, _, _, _, _, _, _⟩ := bC8 BK133
 obtain ⟨_, _, _, _, _, _, _, _, _, _, _, _, _, _, _, _⟩ := bC8 BK135
 go_wp2
 go_ret
 exact ⟨ew, by exact lT HB (gC GE133 (gC GE135 gN))⟩
 }
 }
 {
 replace c59 := Bool.eq_false_iff.mpr c59
 subst c59
 rw [if_neg (show ¬ (false = true) by decide)] at H
 obtain rfl := Option.some.inj H
 have hnb67 := NB133_135.out
 have hnc67 := NB135_133.out
 obtain ⟨_, _, _, _, _, _, _, _, _, _, _, _, _, _, _, _⟩ := bC8 BK133
 obtain ⟨_, _, _, _, _, _, _, _, _, _, _, _, _, _, _, _⟩ := bC8 BK135
 go_wp2
 go_ret
 exact ⟨ew, by exact lT HB (gC GE133 (gC GE135 gN))⟩
 }
 }
 {
 rw [if_neg c58] at H
 have c58b0 := beq_eq_false_iff_ne.mpr c58
 have c58b1 := bne_iff_ne.mpr c58
 by_cases c70 : a0_0 = 2
 {
 rw [if_pos c70] at H
 have c70b0 := beq_iff_eq.mpr c70
 have c70b1 := bne_eq_false_iff_eq.mpr c70
 clear c70
 by_cases c71 : x4_29 = true
 {
 subst c71
 rw [if_pos rfl] at H
 obtain rfl := Option.some.inj H
 have hnb72 := NB133_135.out
 have hnc72 := NB135_133.out
 obtain ⟨_, _, _, _, _, _, _, _, _, _, _, _, _, _, _, _⟩ := bC8 BK133
 obtain ⟨_, _, _, _, _, _, _, _, _, _, _, _, _, _, _, _⟩ := bC8 BK135
 go_wp2
 go_ret
 exact ⟨ew, by exact lT HB (gC GE133 (gC GE135 gN))⟩
 }
 {
 replace c71 := Bool.eq_false_iff.mpr c71
 subst c71
 rw [if_neg (show ¬ (false = true) by decide)] at H
 obtain rfl := Option.some.inj H
 have hnb75 := NB133_135.out
 have hnc75 := NB135_133.out
 obtain ⟨_, _, _, _, _, _, _, _, _, _, _, _, _, _, _, _⟩ := bC8 BK133
 go_wp2
 go_ret
 exact ⟨ew, by exact lT HB (gC GE133 (gC GE135 gN))⟩
 }
 }
 {
 rw [if_neg c70] at H
 have c70b0 := beq_eq_false_iff_ne.mpr c70
 have c70b1 := bne_iff_ne.mpr c70
 by_cases c77 : a0_0 = 4
 {
 rw [if_pos c77] at H
 have c77b0 := beq_iff_eq.mpr c77
 have c77b1 := bne_eq_false_iff_eq.mpr c77
 clear c77
 by_cases c78 : x4_29 = true
 {
 subst c78
 rw [if_pos rfl] at H
 obtain rfl := Option.some.inj H
 have hnb79 := NB133_135.out
 have hnc79 := NB135_133.out
 obtain ⟨_, _, _, _, _, _, _, _, _, _, _, _, _, _, _, _⟩ := bC8 BK133
 obtain ⟨_, _, _, _, _, _, _, _, _, _, _, _, _, _, _, _⟩ := bC8 BK135
 go_wp2
 go_ret
 exact ⟨ew, by exact lT HB (gC GE133 (gC GE135 gN))⟩
 }
 {
 replace c78 := Bool.eq_false_iff.mpr c78
 subst c78
 rw [if_neg (show ¬ (false = true) by decide)] at H
 obtain rfl := Option.some.inj H
 have hnb82 := NB133_135.out
 have hnc82 := NB135_133.out
 obtain ⟨_, _, _, _, _, _, _, _, _, _, _, _, _, _, _, _⟩ := bC8 BK133
 go_wp2
 go_ret
 exact ⟨ew, by exact lT HB (gC GE133 (gC GE135 gN))⟩
 }
 }
 {
 rw [if_neg c77] at H
 have c77b0 := beq_eq_false_iff_ne.mpr c77
 have c77b1 := bne_iff_ne.mpr c77
 by_cases c84 : a0_0 = 5
 {
 rw [if_pos c84] at H
 have c84b0 := beq_iff_eq.mpr c84
 have c84b1 := bne_eq_false_iff_eq.mpr c84
 clear c84
 by_cases c85 : x4_29 = true
 {
 subst c85
 rw [if_pos rfl] at H
 obtain rfl := Option.some.inj H
 have hnb86 := NB133_135.out
 have hnc86 := NB135_133.out
 obtain ⟨_, _, _, _, _, _, _, _, _, _, _, _, _, _, _, _⟩ := bC8 BK133
 obtain ⟨_, _, _, _, _, _, _, _, _, _, _, _, _, _, _, _⟩ := bC8 BK135
 go_wp2
 go_ret
 exact ⟨ew, by exact lT HB (gC GE133 (gC GE135 gN))⟩
 }
 {
 replace c85 := Bool.eq_false_iff.mpr c85
 subst c85
 rw [if_neg (show ¬ (false = true) by decide)] at H
 obtain rfl := Option.some.inj H
 have hnb89 := NB133_135.out
 have hnc89 := NB135_133.out
 obtain ⟨_, _, _, _, _, _, _, _, _, _, _, _, _, _, _, _⟩ := bC8 BK133
 go_wp2
 go_ret
 exact ⟨ew, by exact lT HB (gC GE133 (gC GE135 gN))⟩
 }
 }
 {
 rw [if_neg c84] at H
 have c84b0 := beq_eq_false_iff_ne.mpr c84
 have c84b1 := bne_iff_ne.mpr c84
 obtain rfl := Option.some.inj H
 have hnb91 := NB133_135.out
 have hnc91 := NB135_133.out
 obtain ⟨_, _, _, _, _, _, _, _, _, _, _, _, _, _, _, _⟩ := bC8 BK133
 go_wp2
 go_ret
 exact ⟨ew, by exact lT HB (gC GE133 (gC GE135 gN))⟩
 }
 }
 }
 }
 }
 }
 }
 }
 }
 }
 }
 }
 }
 }
 {
 replace c3 := Bool.eq_false_iff.mpr c3
 subst c3
 rw [if_neg (show ¬ (false = true) by decide)] at H
 obtain rfl := Option.some.inj H
 go_enter Try.func28, Try.ntmps28
 go_wp2_with (first | ((with_reducible refine gate_dst (N := 1) rfl ?_); (try (refine gate_guard (by rfl) ?_; dsimp only)); refine bx 1 #[.int .i64 a0_0, .int .i64 a0_1, .int .i64 a0_2, .int .i64 a0_3, .int .i64 a0_4, .string a0_5, .string a0_6, .string a0_7] 23 ?_; intro gb133 hg w93 hbox hb; replace BK133 := ak (hbox); replace GE133 := ak (bz hg (lG HB)); replace HB := lB HB hb; clear hb hbox hg; obtain ⟨_, _, _, _, _, _, _, _, _, _, _, _, _, _, _, _⟩ := bC8 BK133) | ((with_reducible refine gate_callee (f := 63) rfl ?_); refine gl (some 7) Try.func63 #[.int .i64 a0_1, .int .i64 1, .int .i64 9999] ?_; (with_reducible refine (impl_in.calls a0_1 1 9999 _ _ A2.out).mono ?_); rintro e w' ⟨rfl, ⟨nd, rfl⟩⟩; refine ⟨_, rfl, ?_⟩))
 go_ret
 exact ⟨ew, by exact lT HB (gC GE133 gN)⟩
 }
end Go.Proofs.Ytagkjeldheiejaa.PFnStatesTold
