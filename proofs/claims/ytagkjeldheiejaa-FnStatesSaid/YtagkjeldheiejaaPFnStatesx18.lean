-- Written by a program of mine (a turned copy of the kit's print): functions as plain Lean, their contracts.
import Derived.Test.YtagkjeldheiejaaPFnStatesx0
import Derived.Test.YtagkjeldheiejaaVFnStates1
namespace Go.Proofs.Ytagkjeldheiejaa.PFnStates
open Go.RowKit Go.Proofs.YtagkjeldheiejaaW.PrintWords Go.Proofs.YtagkjeldheiejaaW.PrintLast Go.Proofs.YtagkjeldheiejaaW.PrintMore
attribute [local go_sem] max2_int min2_int max_two min_two max_three min_three max_four min_four   -- for this text's walks alone
set_option maxHeartbeats 8000000
set_option maxRecDepth 100000
set_option linter.unusedVariables false
set_option linter.unusedSimpArgs false
/-! ### impl_BoxesOf: function 43 -/
def impl_BoxesOf.l0 : Nat → ByteArray → List ByteArray → List (S66) → Int → Int → Option (List ByteArray)
 | 0, _, _, _, _, _ => none
 | k + 1, a, b, c, d, e => if e < d then (if 0 ≤ e then (if e < (c.length : Int) then (if ((rd_T66 c e).f1).toList = a.toList then (if b.length < 8796093022208 then (impl_BoxesOf.l0 k a (b ++ [(rd_T66 c e).f2]) c d (wrap64 (e + 1))) else (none)) else (impl_BoxesOf.l0 k a b c d (wrap64 (e + 1)))) else (none)) else (none)) else (some b)
def impl_BoxesOf.f (k : Nat) (l0_0 : List (S66)) (a1 : ByteArray) : Option (List ByteArray) := impl_BoxesOf.l0 k a1 (([] : List ByteArray)) l0_0 (l0_0.length : Int) 0
theorem impl_BoxesOf.mono_l : ∀ k, (∀ y0 y1 y2 y3 y4, LeO (impl_BoxesOf.l0 k y0 y1 y2 y3 y4) (impl_BoxesOf.l0 (k + 1) y0 y1 y2 y3 y4))
 | 0 => fun _ _ _ _ _ r h => by simp [impl_BoxesOf.l0] at h
 | k + 1 => by
  have ih0 := impl_BoxesOf.mono_l k
  ·intro y0 y1 y2 y3 y4
   unfold impl_BoxesOf.l0
   repeat' with_reducible first | exact ih0 _ _ _ _ _ | exact LeO.refl _ | exact LeO.none _ | refine LeO.ite ?_ ?_ | refine LeO.bind ?_ (fun _ => ?_)
theorem impl_BoxesOf.mono : ∀ a0 a1 k, LeO (impl_BoxesOf.f k a0 a1) (impl_BoxesOf.f (k + 1) a0 a1) := by
 intro a0 a1 k
 have ih0 := impl_BoxesOf.mono_l k
 unfold impl_BoxesOf.f
 repeat' with_reducible first | exact ih0 _ _ _ _ _ | exact LeO.refl _ | exact LeO.none _ | refine LeO.ite ?_ ?_ | refine LeO.bind ?_ (fun _ => ?_)
theorem impl_BoxesOf.calls (k : Nat) (A0_0 : Option Addr) (c0_0 : Nat) (l0_0 : List (S66)) (a1 : ByteArray) (r : List ByteArray) (w : World) (hr0_0 : Kd.C k66 w A0_0 l0_0.length l0_0) (hc0_0 : l0_0.length ≤ c0_0) (h : impl_BoxesOf.f k l0_0 a1 = some r) :
  Calls Try.prog 43 #[.agg #[.slice A0_0 l0_0.length c0_0], .string a1] w fun e w' => ∃ v0_ : Value, e = .returned (v0_) ∧ Kd.R Kd.string 9 w' w.heap.size (fun _ => True) v0_ r ∧ Below w.heap.size w w' := by
 have hu60 := Try.underlying60
 have hu66 := Try.underlying66
 have HR0_0 := Aside0.mk hr0_0
 have HC0_0 := Aside0.mk hc0_0
 clear hr0_0 hc0_0
 have HB := ak (Below.refl w.heap.size w)
 have H := h
 clear h
 unfold impl_BoxesOf.f at H
 obtain ⟨y554, hy554⟩ : ∃ y_ : List ByteArray, y_ = (([] : List ByteArray)) := ⟨_, rfl⟩
 replace H : (impl_BoxesOf.l0 k a1 y554 l0_0 (l0_0.length : Int) 0) = some r := by first | (rw [hy554]; with_reducible exact H) | (have H2_ := (Option.bind_some _ _).symm.trans H; rw [hy554]; with_reducible exact H2_) | (have H2_ := (Option.bind_some _ _).symm.trans H; with_reducible exact H2_) | with_reducible exact H | (rw [hy554]; exact H) | exact H
 have Ny554 := Aside0.mk hy554
 clear hy554
 have H' := Aside0.mk H
 clear H
 go_enter Try.func43, Try.ntmps43
 go_wp2_with (first | ((with_reducible refine gate_dst (N := 2) rfl ?_); refine bx 2 #[.slice A0_0 l0_0.length c0_0] 60 ?_; intro gb553 hg w3 hbox hb; replace BK553 := ak (hbox); replace GE553 := ak (bz hg (lG HB)); replace HB := lB HB hb; clear hb hbox hg) | ((with_reducible refine gate_dst (N := 8) rfl ?_); refine Kd.R_lit Kd.string _ 9 ?hg (N := 8) ?hd (xs := ([] : List ByteArray)) (inner := []) (ok := fun _ => True) (okp := fun _ => True) ?hr ?hp (fun _ hk => hk) trivial (Below.refl _ _) (Nat.le_refl _) (by simp) ?_; (case hd => rfl); (case hg => rfl); (case hr => first | (go_simp; done) | (go_simp; rfl)); (case hp => exact (Reps.none _ _)); intro v555 w4 ho5 hb hg_ hnew_; clear hg_ hnew_; (first | rw [← Ny554.out] at ho5 | (simp only [Int.reduceToNat] at ho5; rw [← Ny554.out] at ho5)); replace HO556 := ak (Kd.R_lower ho5 (below_size (lT HB (gC GE553 gN)))); replace BK553 := bB BK553 hb; replace HB := ak (below_step (lT HB (gC GE553 gN)) hb); clear hb ho5; obtain ⟨hcz6_0, hfz6_0⟩ := bC1 BK553))
 go_loopg [5, 12] k (fun kq v5 v12 w' => ∃ (x5_1 : List ByteArray) (x12_1 : Int), v12 = .int .i64 x12_1 ∧ Aside0 (impl_BoxesOf.l0 kq a1 x5_1 l0_0 (l0_0.length : Int) x12_1 = some r) ∧ Aside0 (kq ≤ k) ∧ Aside0 (Kd.R Kd.string 9 w' w.heap.size (fun _ => True) v5 x5_1) ∧ Aside0 (w'.heap[gb553]? = some (.cells #[(.slice A0_0 l0_0.length c0_0)] 60 (0, 0))) ∧ Aside0 (Below w.heap.size w w'))
 case atStart => exact ⟨_, _, rr, H', ⟨Nat.le_refl _⟩, ⟨by (with_reducible repeat (first | apply Kd.R_alloc | apply Kd.R_drewN | apply Kd.R_drew)); exact HO556.out⟩, ⟨bG BK553⟩, ⟨by exact lT HB (gC GE553 gN)⟩⟩
 case round =>
  skip;{
 clear H'
 try clear hcz6_0 hfz6_0
 obtain ⟨x5_1, x12_1, rfl, HA, HK1, HO_5, BK553, HB⟩ := hrel
 cases gk with
 | zero => exact absurd HA.out (by simp [impl_BoxesOf.l0])
 | succ k1 =>
  skip;{
 have H := HA.out
 clear HA
 simp only [impl_BoxesOf.l0] at H
 by_cases c7 : x12_1 < (l0_0.length : Int)
 {
 rw [if_pos c7] at H
 have c7b0 := decide_eq_true c7
 clear c7
 by_cases c8 : 0 ≤ x12_1
 {
 rw [if_pos c8] at H
 have c8b0 := decide_eq_true c8
 clear c8
 by_cases c9 : x12_1 < (l0_0.length : Int)
 {
 rw [if_pos c9] at H
 have c9b0 := decide_eq_true c9
 clear c9
 by_cases c10 : ((rd_T66 l0_0 x12_1).f1).toList = a1.toList
 {
 rw [if_pos c10] at H
 have c10b0 := beq_iff_eq.mpr c10
 have c10b1 := bne_eq_false_iff_eq.mpr c10
 clear c10
 by_cases c11 : x5_1.length < 8796093022208
 {
 rw [if_pos c11] at H
 have LMc11 := Aside0.mk c11
 clear c11
 obtain ⟨y559, hy559⟩ : ∃ y_ : List ByteArray, y_ = (x5_1 ++ [(rd_T66 l0_0 x12_1).f2]) := ⟨_, rfl⟩
 replace H : (impl_BoxesOf.l0 k1 a1 y559 l0_0 (l0_0.length : Int) (wrap64 (x12_1 + 1))) = some r := by first | (rw [hy559]; with_reducible exact H) | (have H2_ := (Option.bind_some _ _).symm.trans H; rw [hy559]; with_reducible exact H2_) | (have H2_ := (Option.bind_some _ _).symm.trans H; with_reducible exact H2_) | with_reducible exact H | (rw [hy559]; exact H) | exact H
 have Ny559 := Aside0.mk hy559
 clear hy559
 have H' := Aside0.mk H
 clear H
 have p557 : 0 ≤ (x12_1 : Int) := oda
 have q557 : x12_1 < (l0_0.length : Int) := oda
 obtain ⟨ad557, A557_4, c557_4, e557, hx557_0, hx557_1, hx557_2, hx557_3, hx557_4, hl557_4, hi557_4⟩ := at_T66 HR0_0.out x12_1 p557 q557
 cases e557
 replace hx557_0 := clB HB hx557_0
 replace hx557_1 := clB HB hx557_1
 replace hx557_2 := clB HB hx557_2
 replace hx557_3 := clB HB hx557_3
 replace hx557_4 := clB HB hx557_4
 have HR557_4 := Aside0.mk hi557_4
 have HC557_4 := Aside0.mk hl557_4
 clear hi557_4 hl557_4
 replace p557 := eq_true p557
 replace q557 := eq_true q557
 go_wp2_with (first | ((with_reducible refine gate_dst (N := 7) rfl ?_); refine bx 7 #[.int .i64 0, .string (⟨#[]⟩ : ByteArray), .string (⟨#[]⟩ : ByteArray), .int .i64 0, .slice none 0 0] 66 ?_; intro gb558 hg w12 hbox hb; replace HO_5 := rB HO_5 hb; replace BK558 := ak (hbox); replace GW558 := ak (bz hg (lT HB (gC GE553 gN))); replace GE558 := ak (bz hg (lT HB (gC GE553 gN))); replace HB := ak (below_step (lT HB (gC GE553 gN)) hb); replace NB553_558 := ak (nl hg (bG BK553)); replace NB558_553 := ak (ng hg (bG BK553)); replace BK553 := bB BK553 hb; clear hb hbox hg; have hnb13 := NB558_553.out; have hnc13 := NB553_558.out; obtain ⟨_, _, _, _, _, _, _, _, _, _⟩ := bC5 BK558) | ((with_reducible refine gate_builtin (b := .append) (xs := #[.tmp 20, .tmp 23]) rfl ?_); at_builtin; refine Kd.R_append Kd.string (w0 := w) w.heap.size rfl (.tmp 20) (.tmp 23) 74 9 (.string ⟨#[]⟩) 16 rfl Try.underlying74 info9 rfl (by decide) (by omega) u5 x5_1 ((rd_T66 l0_0 x12_1).f2) [.string ((rd_T66 l0_0 x12_1).f2)] (fun _ => True) (fun _ => False) rfl (by first | (go_simp; done) | (go_simp; rfl)) ?aP (fun _ hk => hk.elim) ?aF ?aO ?aB ?aS ?aL ?_; (case aP => exact rfl); (case aB => exact (lT HB (gC GE553 (gC GE558 gN)))); (case aF => exact (fun _ _ => trivial)); (case aO => exact (by exact Kd.R_mono (rT HO_5 BK558 (by decide)) (fun _ hk => trivial))); (case aS => exact (below_size (lT HB (gC GE553 (gC GE558 gN))))); (case aL => have := LMc11.out; omega); intro v560 w15 ho hb hg hat; rw [← Ny559.out] at ho; have n0_ := ak (blk_grown (g := gb553) (o := .cells #[.slice (some ad557) l0_0.length c0_0] 60 (0, 0)) (bT BK553 (nC NB553_558 nN)) hg (Kd.R_ne HO_5.out BK553.out (by decide))); have n1_ := ak (blk_grown (g := gb558) (o := .cells #[.int .i64 ((rd_T66 l0_0 x12_1).f0), .string ((rd_T66 l0_0 x12_1).f1), .string ((rd_T66 l0_0 x12_1).f2), .int .i64 ((rd_T66 l0_0 x12_1).f3), .slice A557_4 ((rd_T66 l0_0 x12_1).f4).length c557_4] 66 (0, 0)) (bW BK558) hg (Kd.R_ne HO_5.out BK558.out (by decide))); have n2_ := ak (hb); have n3_ := ak (ho); clear BK553; clear BK558; clear HB; clear HO_5; have BK553 := n0_; have BK558 := n1_; have HB := n2_; have HO561 := n3_; clear n0_ n1_ n2_ n3_; clear ho hb hg hat))
 go_roundg k1
 case measure => have := HK1.out; omega
 case rel => exact ⟨_, _, rr, H', ⟨by have := HK1.out; omega⟩, ⟨by (with_reducible repeat (first | apply Kd.R_alloc | apply Kd.R_drewN | apply Kd.R_drew)); exact HO561.out⟩, ⟨bG BK553⟩, ⟨by exact lT HB (gC GE553 (gC GE558 gN))⟩⟩
 }
 {rw [if_neg c11] at H;exact absurd H (by simp)}
 }
 {
 rw [if_neg c10] at H
 have c10b0 := beq_eq_false_iff_ne.mpr c10
 have c10b1 := bne_iff_ne.mpr c10
 have H' := Aside0.mk H
 clear H
 have p557 : 0 ≤ (x12_1 : Int) := oda
 have q557 : x12_1 < (l0_0.length : Int) := oda
 obtain ⟨ad557, A557_4, c557_4, e557, hx557_0, hx557_1, hx557_2, hx557_3, hx557_4, hl557_4, hi557_4⟩ := at_T66 HR0_0.out x12_1 p557 q557
 cases e557
 replace hx557_0 := clB HB hx557_0
 replace hx557_1 := clB HB hx557_1
 replace hx557_2 := clB HB hx557_2
 replace hx557_3 := clB HB hx557_3
 replace hx557_4 := clB HB hx557_4
 have HR557_4 := Aside0.mk hi557_4
 have HC557_4 := Aside0.mk hl557_4
 clear hi557_4 hl557_4
 replace p557 := eq_true p557
 replace q557 := eq_true q557
 go_wp2_with ((with_reducible refine gate_dst (N := 7) rfl ?_); refine bx 7 #[.int .i64 0, .string (⟨#[]⟩ : ByteArray), .string (⟨#[]⟩ : ByteArray), .int .i64 0, .slice none 0 0] 66 ?_; intro gb558 hg w16 hbox hb; replace HO_5 := rB HO_5 hb; replace BK558 := ak (hbox); replace GW558 := ak (bz hg (lT HB (gC GE553 gN))); replace GE558 := ak (bz hg (lT HB (gC GE553 gN))); replace HB := ak (below_step (lT HB (gC GE553 gN)) hb); replace NB553_558 := ak (nl hg (bG BK553)); replace NB558_553 := ak (ng hg (bG BK553)); replace BK553 := bB BK553 hb; clear hb hbox hg; have hnb17 := NB558_553.out; have hnc17 := NB553_558.out; obtain ⟨_, _, _, _, _, _, _, _, _, _⟩ := bC5 BK558)
 go_roundg k1
 case measure => have := HK1.out; omega
 case rel => exact ⟨_, _, rr, H', ⟨by have := HK1.out; omega⟩, ⟨by exact Kd.R_mono (rT HO_5 BK558 (by decide)) (fun _ hk => trivial)⟩, ⟨bF BK553 (nC NB553_558 nN)⟩, ⟨by exact lT HB (gC GE553 (gC GE558 gN))⟩⟩
 }
 }
 {rw [if_neg c9] at H;exact absurd H (by simp)}
 }
 {rw [if_neg c8] at H;exact absurd H (by simp)}
 }
 {
 rw [if_neg c7] at H
 have c7b0 := decide_eq_false c7
 clear c7
 obtain rfl := Option.some.inj H
 go_wp2
 go_ret
 exact ⟨_, ew, by (with_reducible repeat (first | apply Kd.R_alloc | apply Kd.R_drewN | apply Kd.R_drew)); exact HO_5.out, by exact lT HB (gC GE553 gN)⟩
 }
 }
 }
/-! ### spec_BoxesOf: function 44 -/
def spec_BoxesOf.l0 : Nat → ByteArray → List ByteArray → Int → List (S66) → Option (List ByteArray)
 | 0, _, _, _, _ => none
 | k + 1, a, b, c, d => if c < (d.length : Int) then (if 0 ≤ c then (if ((rd_T66 d c).f1).toList = a.toList then (if b.length < 8796093022208 then (spec_BoxesOf.l0 k a (b ++ [(rd_T66 d c).f2]) (wrap64 (c + 1)) d) else (none)) else (spec_BoxesOf.l0 k a b (wrap64 (c + 1)) d)) else (none)) else (some b)
def spec_BoxesOf.f (k : Nat) (l0_0 : List (S66)) (a1 : ByteArray) : Option (List ByteArray) := spec_BoxesOf.l0 k a1 (([] : List ByteArray)) 0 l0_0
theorem spec_BoxesOf.mono_l : ∀ k, (∀ y0 y1 y2 y3, LeO (spec_BoxesOf.l0 k y0 y1 y2 y3) (spec_BoxesOf.l0 (k + 1) y0 y1 y2 y3))
 | 0 => fun _ _ _ _ r h => by simp [spec_BoxesOf.l0] at h
 | k + 1 => by
  have ih0 := spec_BoxesOf.mono_l k
  ·intro y0 y1 y2 y3
   unfold spec_BoxesOf.l0
   repeat' with_reducible first | exact ih0 _ _ _ _ | exact LeO.refl _ | exact LeO.none _ | refine LeO.ite ?_ ?_ | refine LeO.bind ?_ (fun _ => ?_)
theorem spec_BoxesOf.mono : ∀ a0 a1 k, LeO (spec_BoxesOf.f k a0 a1) (spec_BoxesOf.f (k + 1) a0 a1) := by
 intro a0 a1 k
 have ih0 := spec_BoxesOf.mono_l k
 unfold spec_BoxesOf.f
 repeat' with_reducible first | exact ih0 _ _ _ _ | exact LeO.refl _ | exact LeO.none _ | refine LeO.ite ?_ ?_ | refine LeO.bind ?_ (fun _ => ?_)
theorem spec_BoxesOf.calls (k : Nat) (A0_0 : Option Addr) (c0_0 : Nat) (l0_0 : List (S66)) (a1 : ByteArray) (r : List ByteArray) (w : World) (hr0_0 : Kd.C k66 w A0_0 l0_0.length l0_0) (hc0_0 : l0_0.length ≤ c0_0) (h : spec_BoxesOf.f k l0_0 a1 = some r) :
  Calls Try.prog 44 #[.agg #[.slice A0_0 l0_0.length c0_0], .string a1] w fun e w' => ∃ v0_ : Value, e = .returned (v0_) ∧ Kd.R Kd.string 9 w' w.heap.size (fun _ => True) v0_ r ∧ Below w.heap.size w w' := by
 have hu60 := Try.underlying60
 have HR0_0 := Aside0.mk hr0_0
 have HC0_0 := Aside0.mk hc0_0
 clear hr0_0 hc0_0
 have HB := ak (Below.refl w.heap.size w)
 have H := h
 clear h
 unfold spec_BoxesOf.f at H
 obtain ⟨y563, hy563⟩ : ∃ y_ : List ByteArray, y_ = (([] : List ByteArray)) := ⟨_, rfl⟩
 replace H : (spec_BoxesOf.l0 k a1 y563 0 l0_0) = some r := by first | (rw [hy563]; with_reducible exact H) | (have H2_ := (Option.bind_some _ _).symm.trans H; rw [hy563]; with_reducible exact H2_) | (have H2_ := (Option.bind_some _ _).symm.trans H; with_reducible exact H2_) | with_reducible exact H | (rw [hy563]; exact H) | exact H
 have Ny563 := Aside0.mk hy563
 clear hy563
 have H' := Aside0.mk H
 clear H
 go_enter Try.func44, Try.ntmps44
 go_wp2_with (first | ((with_reducible refine gate_dst (N := 2) rfl ?_); refine bx 2 #[.slice A0_0 l0_0.length c0_0] 60 ?_; intro gb562 hg w3 hbox hb; replace BK562 := ak (hbox); replace GE562 := ak (bz hg (lG HB)); replace HB := lB HB hb; clear hb hbox hg) | ((with_reducible refine gate_dst (N := 7) rfl ?_); refine Kd.R_lit Kd.string _ 9 ?hg (N := 7) ?hd (xs := ([] : List ByteArray)) (inner := []) (ok := fun _ => True) (okp := fun _ => True) ?hr ?hp (fun _ hk => hk) trivial (Below.refl _ _) (Nat.le_refl _) (by simp) ?_; (case hd => rfl); (case hg => rfl); (case hr => first | (go_simp; done) | (go_simp; rfl)); (case hp => exact (Reps.none _ _)); intro v564 w4 ho5 hb hg_ hnew_; clear hg_ hnew_; (first | rw [← Ny563.out] at ho5 | (simp only [Int.reduceToNat] at ho5; rw [← Ny563.out] at ho5)); replace HO565 := ak (Kd.R_lower ho5 (below_size (lT HB (gC GE562 gN)))); replace BK562 := bB BK562 hb; replace HB := ak (below_step (lT HB (gC GE562 gN)) hb); clear hb ho5))
 go_loopg [5, 6] k (fun kq v5 v6 w' => ∃ (x5_1 : List ByteArray) (x6_1 : Int), v6 = .int .i64 x6_1 ∧ Aside0 (spec_BoxesOf.l0 kq a1 x5_1 x6_1 l0_0 = some r) ∧ Aside0 (kq ≤ k) ∧ Aside0 (Kd.R Kd.string 9 w' w.heap.size (fun _ => True) v5 x5_1) ∧ Aside0 (w'.heap[gb562]? = some (.cells #[(.slice A0_0 l0_0.length c0_0)] 60 (0, 0))) ∧ Aside0 (Below w.heap.size w w'))
 case atStart => exact ⟨_, _, rr, H', ⟨Nat.le_refl _⟩, ⟨by (with_reducible repeat (first | apply Kd.R_alloc | apply Kd.R_drewN | apply Kd.R_drew)); exact HO565.out⟩, ⟨bG BK562⟩, ⟨by exact lT HB (gC GE562 gN)⟩⟩
 case round =>
  skip;{
 clear H'
 obtain ⟨x5_1, x6_1, rfl, HA, HK1, HO_5, BK562, HB⟩ := hrel
 cases gk with
 | zero => exact absurd HA.out (by simp [spec_BoxesOf.l0])
 | succ k1 =>
  skip;{
 have H := HA.out
 clear HA
 simp only [spec_BoxesOf.l0] at H
 by_cases c6 : x6_1 < (l0_0.length : Int)
 {
 rw [if_pos c6] at H
 have c6b0 := decide_eq_true c6
 clear c6
 by_cases c7 : 0 ≤ x6_1
 {
 rw [if_pos c7] at H
 have c7b0 := decide_eq_true c7
 clear c7
 by_cases c8 : ((rd_T66 l0_0 x6_1).f1).toList = a1.toList
 {
 rw [if_pos c8] at H
 have c8b0 := beq_iff_eq.mpr c8
 have c8b1 := bne_eq_false_iff_eq.mpr c8
 clear c8
 by_cases c9 : x5_1.length < 8796093022208
 {
 rw [if_pos c9] at H
 have LMc9 := Aside0.mk c9
 clear c9
 obtain ⟨y568, hy568⟩ : ∃ y_ : List ByteArray, y_ = (x5_1 ++ [(rd_T66 l0_0 x6_1).f2]) := ⟨_, rfl⟩
 replace H : (spec_BoxesOf.l0 k1 a1 y568 (wrap64 (x6_1 + 1)) l0_0) = some r := by first | (rw [hy568]; with_reducible exact H) | (have H2_ := (Option.bind_some _ _).symm.trans H; rw [hy568]; with_reducible exact H2_) | (have H2_ := (Option.bind_some _ _).symm.trans H; with_reducible exact H2_) | with_reducible exact H | (rw [hy568]; exact H) | exact H
 have Ny568 := Aside0.mk hy568
 clear hy568
 have H' := Aside0.mk H
 clear H
 obtain ⟨_, _⟩ := bC1 BK562
 have p566 : 0 ≤ (x6_1 : Int) := oda
 have q566 : x6_1 < (l0_0.length : Int) := oda
 obtain ⟨ad566, A566_4, c566_4, e566, hx566_0, hx566_1, hx566_2, hx566_3, hx566_4, hl566_4, hi566_4⟩ := at_T66 HR0_0.out x6_1 p566 q566
 cases e566
 replace hx566_0 := clB HB hx566_0
 replace hx566_1 := clB HB hx566_1
 replace hx566_2 := clB HB hx566_2
 replace hx566_3 := clB HB hx566_3
 replace hx566_4 := clB HB hx566_4
 have HR566_4 := Aside0.mk hi566_4
 have HC566_4 := Aside0.mk hl566_4
 clear hi566_4 hl566_4
 replace p566 := eq_true p566
 replace q566 := eq_true q566
 have p567 : 0 ≤ (x6_1 : Int) := oda
 have q567 : x6_1 < (l0_0.length : Int) := oda
 obtain ⟨ad567, A567_4, c567_4, e567, hx567_0, hx567_1, hx567_2, hx567_3, hx567_4, hl567_4, hi567_4⟩ := at_T66 HR0_0.out x6_1 p567 q567
 obtain rfl : ad566 = ad567 := (by injection e567)
 replace hx567_0 := clB HB hx567_0
 replace hx567_1 := clB HB hx567_1
 replace hx567_2 := clB HB hx567_2
 replace hx567_3 := clB HB hx567_3
 replace hx567_4 := clB HB hx567_4
 have HR567_4 := Aside0.mk hi567_4
 have HC567_4 := Aside0.mk hl567_4
 clear hi567_4 hl567_4
 replace p567 := eq_true p567
 replace q567 := eq_true q567
 have ea_ := Option.some.inj (hx566_4.symm.trans hx567_4)
 injection ea_ with ea_ en_ ec_
 subst ea_
 subst ec_
 clear en_
 go_wp2_with ((with_reducible refine gate_builtin (b := .append) (xs := #[.tmp 23, .tmp 30]) rfl ?_); at_builtin; refine Kd.R_append Kd.string (w0 := w) w.heap.size rfl (.tmp 23) (.tmp 30) 74 9 (.string ⟨#[]⟩) 16 rfl Try.underlying74 info9 rfl (by decide) (by omega) u5 x5_1 ((rd_T66 l0_0 x6_1).f2) [.string ((rd_T66 l0_0 x6_1).f2)] (fun _ => True) (fun _ => False) rfl rfl ?aP (fun _ hk => hk.elim) ?aF ?aO ?aB ?aS ?aL ?_; (case aP => exact rfl); (case aB => exact (lT HB (gC GE562 gN))); (case aF => exact (fun _ _ => trivial)); (case aO => exact (rG HO_5)); (case aS => exact (below_size (lT HB (gC GE562 gN)))); (case aL => have := LMc9.out; omega); intro v569 w11 ho hb hg hat; rw [← Ny568.out] at ho; have n0_ := ak (blk_grown (g := gb562) (o := .cells #[.slice (some ad566) l0_0.length c0_0] 60 (0, 0)) (bG BK562) hg (Kd.R_ne HO_5.out BK562.out (by decide))); have n1_ := ak (hb); have n2_ := ak (ho); clear BK562; clear HB; clear HO_5; have BK562 := n0_; have HB := n1_; have HO570 := n2_; clear n0_ n1_ n2_; clear ho hb hg hat)
 go_roundg k1
 case measure => have := HK1.out; omega
 case rel => exact ⟨_, _, rr, H', ⟨by have := HK1.out; omega⟩, ⟨by (with_reducible repeat (first | apply Kd.R_alloc | apply Kd.R_drewN | apply Kd.R_drew)); exact HO570.out⟩, ⟨bG BK562⟩, ⟨by exact lT HB (gC GE562 gN)⟩⟩
 }
 {rw [if_neg c9] at H;exact absurd H (by simp)}
 }
 {
 rw [if_neg c8] at H
 have c8b0 := beq_eq_false_iff_ne.mpr c8
 have c8b1 := bne_iff_ne.mpr c8
 have H' := Aside0.mk H
 clear H
 obtain ⟨_, _⟩ := bC1 BK562
 have p566 : 0 ≤ (x6_1 : Int) := oda
 have q566 : x6_1 < (l0_0.length : Int) := oda
 obtain ⟨ad566, A566_4, c566_4, e566, hx566_0, hx566_1, hx566_2, hx566_3, hx566_4, hl566_4, hi566_4⟩ := at_T66 HR0_0.out x6_1 p566 q566
 cases e566
 replace hx566_0 := clB HB hx566_0
 replace hx566_1 := clB HB hx566_1
 replace hx566_2 := clB HB hx566_2
 replace hx566_3 := clB HB hx566_3
 replace hx566_4 := clB HB hx566_4
 have HR566_4 := Aside0.mk hi566_4
 have HC566_4 := Aside0.mk hl566_4
 clear hi566_4 hl566_4
 replace p566 := eq_true p566
 replace q566 := eq_true q566
 go_wp2
 go_roundg k1
 case measure => have := HK1.out; omega
 case rel => exact ⟨_, _, rr, H', ⟨by have := HK1.out; omega⟩, ⟨by (with_reducible repeat (first | apply Kd.R_alloc | apply Kd.R_drewN | apply Kd.R_drew)); exact HO_5.out⟩, ⟨bG BK562⟩, ⟨by exact lT HB (gC GE562 gN)⟩⟩
 }
 }
 {rw [if_neg c7] at H;exact absurd H (by simp)}
 }
 {
 rw [if_neg c6] at H
 have c6b0 := decide_eq_false c6
 clear c6
 obtain rfl := Option.some.inj H
 obtain ⟨_, _⟩ := bC1 BK562
 go_wp2
 go_ret
 exact ⟨_, ew, by (with_reducible repeat (first | apply Kd.R_alloc | apply Kd.R_drewN | apply Kd.R_drew)); exact HO_5.out, by exact lT HB (gC GE562 gN)⟩
 }
 }
 }
/-! ### impl_ValidAfter: function 45 -/
def impl_ValidAfter.l0 : Nat → Int → List (S32) → Int → Int → Option (Int)
 | 0, _, _, _, _ => none
 | k + 1, a, b, c, d => if d < c then (if 0 ≤ d then (if d < (b.length : Int) then (impl_ValidAfter.l0 k (mx a ((rd_T32 b d).f1.f1)) b c (wrap64 (d + 1))) else (none)) else (none)) else (some (wrap64 (a + 1)))
def impl_ValidAfter.f (k : Nat) (l0 : List (S32)) : Option (Int) := impl_ValidAfter.l0 k 0 l0 (l0.length : Int) 0
theorem impl_ValidAfter.mono_l : ∀ k, (∀ y0 y1 y2 y3, LeO (impl_ValidAfter.l0 k y0 y1 y2 y3) (impl_ValidAfter.l0 (k + 1) y0 y1 y2 y3))
 | 0 => fun _ _ _ _ r h => by simp [impl_ValidAfter.l0] at h
 | k + 1 => by
  have ih0 := impl_ValidAfter.mono_l k
  ·intro y0 y1 y2 y3
   unfold impl_ValidAfter.l0
   repeat' with_reducible first | exact ih0 _ _ _ _ | exact LeO.refl _ | exact LeO.none _ | refine LeO.ite ?_ ?_ | refine LeO.bind ?_ (fun _ => ?_)
theorem impl_ValidAfter.mono : ∀ a0 k, LeO (impl_ValidAfter.f k a0) (impl_ValidAfter.f (k + 1) a0) := by
 intro a0 k
 have ih0 := impl_ValidAfter.mono_l k
 unfold impl_ValidAfter.f
 repeat' with_reducible first | exact ih0 _ _ _ _ | exact LeO.refl _ | exact LeO.none _ | refine LeO.ite ?_ ?_ | refine LeO.bind ?_ (fun _ => ?_)
theorem impl_ValidAfter.calls (k : Nat) (A0 : Option Addr) (c0 : Nat) (l0 : List (S32)) (r : Int) (w : World) (hr0 : Kd.C k32 w A0 l0.length l0) (hc0 : l0.length ≤ c0) (h : impl_ValidAfter.f k l0 = some r) :
  Calls Try.prog 45 #[.slice A0 l0.length c0] w fun e w' => e = .returned (.int .i64 r) ∧ Below w.heap.size w w' := by
 have hu32 := Try.underlying32
 have HR0 := Aside0.mk hr0
 have HC0 := Aside0.mk hc0
 clear hr0 hc0
 have HB := ak (Below.refl w.heap.size w)
 have H := h
 clear h
 unfold impl_ValidAfter.f at H
 have H' := Aside0.mk H
 clear H
 go_enter Try.func45, Try.ntmps45
 go_wp2
 go_loopg [3, 8] k (fun kq v3 v8 w' => ∃ (x3_1 : Int) (x8_1 : Int), v3 = .int .i64 x3_1 ∧ v8 = .int .i64 x8_1 ∧ Aside0 (impl_ValidAfter.l0 kq x3_1 l0 (l0.length : Int) x8_1 = some r) ∧ Aside0 (kq ≤ k) ∧ Aside0 (Below w.heap.size w w'))
 case atStart => exact ⟨_, _, rr, rr, H', ⟨Nat.le_refl _⟩, ⟨by exact lG HB⟩⟩
 case round =>
  skip;{
 clear H'
 obtain ⟨x3_1, x8_1, rfl, rfl, HA, HK1, HB⟩ := hrel
 cases gk with
 | zero => exact absurd HA.out (by simp [impl_ValidAfter.l0])
 | succ k1 =>
  skip;{
 have H := HA.out
 clear HA
 simp only [impl_ValidAfter.l0] at H
 by_cases c2 : x8_1 < (l0.length : Int)
 {
 rw [if_pos c2] at H
 have c2b0 := decide_eq_true c2
 clear c2
 by_cases c3 : 0 ≤ x8_1
 {
 rw [if_pos c3] at H
 have c3b0 := decide_eq_true c3
 clear c3
 by_cases c4 : x8_1 < (l0.length : Int)
 {
 rw [if_pos c4] at H
 have c4b0 := decide_eq_true c4
 clear c4
 obtain ⟨ji5, hji5⟩ : ∃ j_ : Int, (mx x3_1 ((rd_T32 l0 x8_1).f1.f1)) = j_ := ⟨_, rfl⟩
 replace H : (impl_ValidAfter.l0 k1 ji5 l0 (l0.length : Int) (wrap64 (x8_1 + 1))) = some r := by first | (rw [hji5] at H; exact H) | (simp only [hji5] at H ⊢; exact H)
 have hji5_ : (if x3_1 < ((rd_T32 l0 x8_1).f1.f1) then ((rd_T32 l0 x8_1).f1.f1) else x3_1) = ji5 := hji5
 have H' := Aside0.mk H
 clear H
 have p571 : 0 ≤ (x8_1 : Int) := oda
 have q571 : x8_1 < (l0.length : Int) := oda
 obtain ⟨ad571, e571, hx571_0, hx571_1, hx571_2, hx571_3, hx571_4, hx571_5, hx571_6, hx571_7, hx571_8⟩ := at_T32 HR0.out x8_1 p571 q571
 cases e571
 replace hx571_0 := clB HB hx571_0
 replace hx571_1 := clB HB hx571_1
 replace hx571_2 := clB HB hx571_2
 replace hx571_3 := clB HB hx571_3
 replace hx571_4 := clB HB hx571_4
 replace hx571_5 := clB HB hx571_5
 replace hx571_6 := clB HB hx571_6
 replace hx571_7 := clB HB hx571_7
 replace hx571_8 := clB HB hx571_8
 replace p571 := eq_true p571
 replace q571 := eq_true q571
 go_wp2_with ((with_reducible refine gate_dst (N := 5) rfl ?_); refine bx 5 #[.int .i64 0, .int .i64 0, .int .i64 0, .int .i64 0, .int .i64 0, .int .i64 0, .string (⟨#[]⟩ : ByteArray), .string (⟨#[]⟩ : ByteArray), .string (⟨#[]⟩ : ByteArray)] 32 ?_; intro gb572 hg w6 hbox hb; replace BK572 := ak (hbox); replace GE572 := ak (bz hg (lG HB)); replace HB := lB HB hb; clear hb hbox hg; obtain ⟨_, _, _, _, _, _, _, _, _, _, _, _, _, _, _, _, _, _⟩ := bC9 BK572)
 go_roundg k1
 case measure => have := HK1.out; omega
 case rel => exact ⟨(ji5), (wrap64 (x8_1 + 1)), (by first | rfl | (simp; done) | (simp only [← hji5] <;> (first | rfl | simp)) | (simp [*]; done)), rr, H', ⟨by have := HK1.out; omega⟩, ⟨by exact lT HB (gC GE572 gN)⟩⟩
 }
 {rw [if_neg c4] at H;exact absurd H (by simp)}
 }
 {rw [if_neg c3] at H;exact absurd H (by simp)}
 }
 {
 rw [if_neg c2] at H
 have c2b0 := decide_eq_false c2
 clear c2
 obtain rfl := Option.some.inj H
 go_wp2
 go_ret
 exact ⟨ew, by exact lG HB⟩
 }
 }
 }
/-! ### spec_ValidAfter: function 46 -/
def spec_ValidAfter.l0 : Nat → List (S32) → Int → Int → Option (Int)
 | 0, _, _, _ => none
 | k + 1, a, b, c => if c < (a.length : Int) then (if 0 ≤ c then (if ((rd_T32 a c).f1.f1) ≥ b then (spec_ValidAfter.l0 k a (wrap64 (((rd_T32 a c).f1.f1) + 1)) (wrap64 (c + 1))) else (spec_ValidAfter.l0 k a b (wrap64 (c + 1)))) else (none)) else (some b)
def spec_ValidAfter.f (k : Nat) (l0 : List (S32)) : Option (Int) := spec_ValidAfter.l0 k l0 1 0
theorem spec_ValidAfter.mono_l : ∀ k, (∀ y0 y1 y2, LeO (spec_ValidAfter.l0 k y0 y1 y2) (spec_ValidAfter.l0 (k + 1) y0 y1 y2))
 | 0 => fun _ _ _ r h => by simp [spec_ValidAfter.l0] at h
 | k + 1 => by
  have ih0 := spec_ValidAfter.mono_l k
  ·intro y0 y1 y2
   unfold spec_ValidAfter.l0
   repeat' with_reducible first | exact ih0 _ _ _ | exact LeO.refl _ | exact LeO.none _ | refine LeO.ite ?_ ?_ | refine LeO.bind ?_ (fun _ => ?_)
theorem spec_ValidAfter.mono : ∀ a0 k, LeO (spec_ValidAfter.f k a0) (spec_ValidAfter.f (k + 1) a0) := by
 intro a0 k
 have ih0 := spec_ValidAfter.mono_l k
 unfold spec_ValidAfter.f
 repeat' with_reducible first | exact ih0 _ _ _ | exact LeO.refl _ | exact LeO.none _ | refine LeO.ite ?_ ?_ | refine LeO.bind ?_ (fun _ => ?_)
theorem spec_ValidAfter.calls (k : Nat) (A0 : Option Addr) (c0 : Nat) (l0 : List (S32)) (r : Int) (w : World) (hr0 : Kd.C k32 w A0 l0.length l0) (hc0 : l0.length ≤ c0) (h : spec_ValidAfter.f k l0 = some r) :
  Calls Try.prog 46 #[.slice A0 l0.length c0] w fun e w' => e = .returned (.int .i64 r) ∧ Drawn0 w w' := by
 have HR0 := Aside0.mk hr0
 have HC0 := Aside0.mk hc0
 clear hr0 hc0
 have H := h
 clear h
 unfold spec_ValidAfter.f at H
 have H' := Aside0.mk H
 clear H
 go_enter Try.func46, Try.ntmps46
 go_wp2
 go_loopg [3, 4] k (fun kq v3 v4 w' => ∃ (x3_1 : Int) (x4_1 : Int), v3 = .int .i64 x3_1 ∧ v4 = .int .i64 x4_1 ∧ Aside0 (spec_ValidAfter.l0 kq l0 x3_1 x4_1 = some r) ∧ Aside0 (kq ≤ k) ∧ Drawn0 w w')
 case atStart => exact ⟨_, _, rr, rr, H', ⟨Nat.le_refl _⟩, by repeat (first | exact Drawn0.refl _ | apply Drawn0.step)⟩
 case round =>
  skip;{
 clear H'
 obtain ⟨x3_1, x4_1, rfl, rfl, HA, HK1, ⟨m1, rfl⟩⟩ := hrel
 cases gk with
 | zero => exact absurd HA.out (by simp [spec_ValidAfter.l0])
 | succ k1 =>
  skip;{
 have H := HA.out
 clear HA
 simp only [spec_ValidAfter.l0] at H
 by_cases c2 : x4_1 < (l0.length : Int)
 {
 rw [if_pos c2] at H
 have c2b0 := decide_eq_true c2
 clear c2
 by_cases c3 : 0 ≤ x4_1
 {
 rw [if_pos c3] at H
 have c3b0 := decide_eq_true c3
 clear c3
 by_cases c4 : ((rd_T32 l0 x4_1).f1.f1) ≥ x3_1
 {
 rw [if_pos c4] at H
 have c4b0 : decide (x3_1 ≤ ((rd_T32 l0 x4_1).f1.f1)) = true := decide_eq_true c4
 clear c4
 have H' := Aside0.mk H
 clear H
 have p573 : 0 ≤ (x4_1 : Int) := oda
 have q573 : x4_1 < (l0.length : Int) := oda
 obtain ⟨ad573, e573, hx573_0, hx573_1, hx573_2, hx573_3, hx573_4, hx573_5, hx573_6, hx573_7, hx573_8⟩ := at_T32 HR0.out x4_1 p573 q573
 cases e573
 replace p573 := eq_true p573
 replace q573 := eq_true q573
 have p574 : 0 ≤ (x4_1 : Int) := oda
 have q574 : x4_1 < (l0.length : Int) := oda
 obtain ⟨ad574, e574, hx574_0, hx574_1, hx574_2, hx574_3, hx574_4, hx574_5, hx574_6, hx574_7, hx574_8⟩ := at_T32 HR0.out x4_1 p574 q574
 obtain rfl : ad573 = ad574 := (by injection e574)
 replace p574 := eq_true p574
 replace q574 := eq_true q574
 go_wp2
 go_roundg k1
 case measure => have := HK1.out; omega
 case rel => exact ⟨_, _, rr, rr, H', ⟨by have := HK1.out; omega⟩, by repeat (first | exact Drawn0.refl _ | apply Drawn0.step)⟩
 }
 {
 rw [if_neg c4] at H
 have c4b0 : decide (x3_1 ≤ ((rd_T32 l0 x4_1).f1.f1)) = false := decide_eq_false c4
 clear c4
 have H' := Aside0.mk H
 clear H
 have p573 : 0 ≤ (x4_1 : Int) := oda
 have q573 : x4_1 < (l0.length : Int) := oda
 obtain ⟨ad573, e573, hx573_0, hx573_1, hx573_2, hx573_3, hx573_4, hx573_5, hx573_6, hx573_7, hx573_8⟩ := at_T32 HR0.out x4_1 p573 q573
 cases e573
 replace p573 := eq_true p573
 replace q573 := eq_true q573
 go_wp2
 go_roundg k1
 case measure => have := HK1.out; omega
 case rel => exact ⟨_, _, rr, rr, H', ⟨by have := HK1.out; omega⟩, by repeat (first | exact Drawn0.refl _ | apply Drawn0.step)⟩
 }
 }
 {rw [if_neg c3] at H;exact absurd H (by simp)}
 }
 {
 rw [if_neg c2] at H
 have c2b0 := decide_eq_false c2
 clear c2
 obtain rfl := Option.some.inj H
 go_wp2
 go_ret
 exact ⟨by first | rfl | (simp; done) | (simp [*]; done), by repeat (first | exact Drawn0.refl _ | apply Drawn0.step)⟩
 }
 }
 }
end Go.Proofs.Ytagkjeldheiejaa.PFnStates
