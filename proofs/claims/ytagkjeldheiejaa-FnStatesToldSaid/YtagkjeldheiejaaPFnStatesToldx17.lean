-- printed
import Derived.Test.YtagkjeldheiejaaPFnStatesToldx0
import Derived.Test.YtagkjeldheiejaaVFnStatesTold1
namespace Go.Proofs.Ytagkjeldheiejaa.PFnStatesTold
open Go.RowKit YtagkjeldheiejaaW.PrintWords YtagkjeldheiejaaW.PrintLast YtagkjeldheiejaaW.PrintMore
set_option linter.unusedVariables false
set_option linter.unusedSimpArgs false
attribute [local go_sem] max2_int min2_int max_two min_two max_three min_three max_four min_four
set_option maxHeartbeats 8000000
set_option maxRecDepth 100000
def impl_ValidAfter.l0 : Nat → Int → List (S32) → Int → Int → Option (Int)
 | 0, _, _, _, _ => none
 | k + 1, a, b, c, d => if d < c then (if 0 ≤ d then (if d < (b.length : Int) then (impl_ValidAfter.l0 k (mx a ((rd_T32 b d).f1.f1)) b c (wrap64 (d + 1))) else (none)) else (none)) else (some (wrap64 (a + 1)))
def impl_ValidAfter.f (k : Nat) (l0 : List (S32)) : Option (Int) := impl_ValidAfter.l0 k 0 l0 (l0.length : Int) 0
theorem impl_ValidAfter.mono_l : ∀ k, (∀ y0 y1 y2 y3, LeO (impl_ValidAfter.l0 k y0 y1 y2 y3) (impl_ValidAfter.l0 (k + 1) y0 y1 y2 y3))
 | 0 => fun _ _ _ _ r h => by simp [impl_ValidAfter.l0] at h
 | k + 1 => by
  have ih0 := impl_ValidAfter.mono_l k
  ·intro y0 y1 y2 y3
   unfold impl_ValidAfter.l0
   repeat' with_reducible first | exact ih0 _ _ _ _ | exact LeO.refl _ | exact LeO.none _ | refine LeO.ite ?_ ?_ | refine LeO.bind ?_ (fun _ => ?_)
theorem impl_ValidAfter.mono : ∀ a0 k, LeO (impl_ValidAfter.f k a0) (impl_ValidAfter.f (k + 1) a0) := by
 intro a0 k
 have ih0 := impl_ValidAfter.mono_l k
 unfold impl_ValidAfter.f
 repeat' with_reducible first | exact ih0 _ _ _ _ | exact LeO.refl _ | exact LeO.none _ | refine LeO.ite ?_ ?_ | refine LeO.bind ?_ (fun _ => ?_)
theorem impl_ValidAfter.calls (k : Nat) (A0 : Option Addr) (c0 : Nat) (l0 : List (S32)) (r : Int) (w : World) (hr0 : Kd.C k32 w A0 l0.length l0) (hc0 : l0.length ≤ c0) (h : impl_ValidAfter.f k l0 = some r) :
  Calls Try.prog 45 #[.slice A0 l0.length c0] w fun e w' => e = .returned (.int .i64 r) ∧ Below w.heap.size w w' := by
 have hu32 := Try.underlying32
 have HR0 := Aside0.mk hr0
 have HC0 := Aside0.mk hc0
 clear hr0 hc0
 have HB := ak (Below.refl w.heap.size w)
 have H := h
 clear h
 unfold impl_ValidAfter.f at H
 have H' := Aside0.mk H
 clear H
 go_enter Try.func45, Try.ntmps45
 go_wp2
 go_loopg [3, 8] k (fun kq v3 v8 w' => ∃ (x3_1 : Int) (x8_1 : Int), v3 = .int .i64 x3_1 ∧ v8 = .int .i64 x8_1 ∧ Aside0 (impl_ValidAfter.l0 kq x3_1 l0 (l0.length : Int) x8_1 = some r) ∧ Aside0 (kq ≤ k) ∧ Aside0 (Below w.heap.size w w'))
 case atStart => exact ⟨_, _, rr, rr, H', ⟨Nat.le_refl _⟩, ⟨by exact lG HB⟩⟩
 case round =>
  clear H'
  obtain ⟨x3_1, x8_1, rfl, rfl, HA, HK1, HB⟩ := hrel
  cases gk with
  | zero => exact absurd HA.out (by simp [impl_ValidAfter.l0])
  | succ k1 =>
   have H := HA.out
   clear HA
   simp only [impl_ValidAfter.l0] at H
   by_cases c2 : x8_1 < (l0.length : Int)
   ·rw [if_pos c2] at H
    have c2b0 := decide_eq_true c2
    clear c2
    by_cases c3 : 0 ≤ x8_1
    ·rw [if_pos c3] at H
     have c3b0 := decide_eq_true c3
     clear c3
     by_cases c4 : x8_1 < (l0.length : Int)
     ·rw [if_pos c4] at H
      have c4b0 := decide_eq_true c4
      clear c4
      obtain ⟨ji5, hji5⟩ : ∃ j_ : Int, (mx x3_1 ((rd_T32 l0 x8_1).f1.f1)) = j_ := ⟨_, rfl⟩
      replace H : (impl_ValidAfter.l0 k1 ji5 l0 (l0.length : Int) (wrap64 (x8_1 + 1))) = some r := by first | (rw [hji5] at H; exact H) | (simp only [hji5] at H ⊢; exact H)
      have hji5_ : (if x3_1 < ((rd_T32 l0 x8_1).f1.f1) then ((rd_T32 l0 x8_1).f1.f1) else x3_1) = ji5 := hji5
      have H' := Aside0.mk H
      clear H
      have p379 : 0 ≤ (x8_1 : Int) := oda
      have q379 : x8_1 < (l0.length : Int) := oda
      obtain ⟨ad379, e379, hx379_0, hx379_1, hx379_2, hx379_3, hx379_4, hx379_5, hx379_6, hx379_7, hx379_8⟩ := at_T32 HR0.out x8_1 p379 q379
      cases e379
      replace hx379_0 := clB HB hx379_0
      replace hx379_1 := clB HB hx379_1
      replace hx379_2 := clB HB hx379_2
      replace hx379_3 := clB HB hx379_3
      replace hx379_4 := clB HB hx379_4
      replace hx379_5 := clB HB hx379_5
      replace hx379_6 := clB HB hx379_6
      replace hx379_7 := clB HB hx379_7
      replace hx379_8 := clB HB hx379_8
      replace p379 := eq_true p379
      replace q379 := eq_true q379
      go_wp2_with (first | ((with_reducible refine gate_dst (N := 5) rfl ?_); refine b9 5 ?_; intro gb380 hg w6 hbox hb; replace BK380 := ak (hbox); replace GE380 := ak (bz hg (lG HB)); replace HB := lB HB hb; clear hb hbox hg; obtain ⟨_, _, _, _, _, _, _, _, _, _, _, _, _, _, _, _, _, _⟩ := bC9 BK380))
      go_roundg k1
      case measure => have := HK1.out; omega
      case rel => exact ⟨(ji5), (wrap64 (x8_1 + 1)), (by first | rfl | (simp; done) | (simp only [← hji5] <;> (first | rfl | simp)) | (simp [*]; done)), rr, H', ⟨by have := HK1.out; omega⟩, ⟨by exact lT HB (gC GE380 gN)⟩⟩
     ·rw [if_neg c4] at H
      exact absurd H (by simp)
    ·rw [if_neg c3] at H
     exact absurd H (by simp)
   ·rw [if_neg c2] at H
    have c2b0 := decide_eq_false c2
    clear c2
    obtain rfl := Option.some.inj H
    go_wp2
    go_ret
    exact ⟨ew, by exact lG HB⟩
/-- A state of type 134 at block g of W; what its slices lead to came in by w0. -/
def IsS134 (w0 W : World) (g : Nat) (f0 : List Int) (f1 : Int) (f2 : Int) : Prop := ∃ A0 c0, W.heap[g]? = some (.cells #[.slice A0 f0.length c0, .int .i64 f1, .int .i64 f2] 134 (0, 0)) ∧ w0.heap.size ≤ g ∧ Kd.C (Kd.int .u8) w0 A0 f0.length f0
theorem IsS134.T_ {w0 W W' : World} {g : Nat} {f0 : List Int} {f1 : Int} {f2 : Int} {L : List Nat} (h : Aside0 (IsS134 w0 W g f0 f1 f2)) (p : ∀ x : Nat, x ∈ L → g ≠ x) [d : Touched L W W'] : IsS134 w0 W' g f0 f1 f2 := by
 obtain ⟨A0, c0, h1, h2⟩ := h.out
 exact ⟨A0, c0, d.blk g _ _ p h1, h2⟩
theorem IsS134.grown {w0 W : World} {g : Nat} {f0 : List Int} {f1 : Int} {f2 : Int} {W1 : World} {row : Option Nat} (h : IsS134 w0 W g f0 f1 f2) (hw : W.grownBy W1 row) (hne : some g ≠ row) : IsS134 w0 W1 g f0 f1 f2 := by
 obtain ⟨A0, c0, hb, hg, hr0⟩ := h
 exact ⟨A0, c0, blk_grown hb hw hne, hg, hr0⟩
theorem IsS134.own_neN {w0 W : World} {g : Nat} {f0 : List Int} {f1 : Int} {f2 : Int} {α : Type} {d : Kd α} {e : Nat} {base : Nat} {ok : Nat → Prop} {v : Value} {xs : List α} (h : IsS134 w0 W g f0 f1 f2) (ho : Kd.N d e W base ok v xs) (ht : e ≠ 134) : some g ≠ v.ownBlock := by
 obtain ⟨A0, c0, hb, hg, hr0⟩ := h
 exact Kd.N_ne ho hb ht
theorem IsS134.fresh {w0 W : World} {g : Nat} {f0 : List Int} {f1 : Int} {f2 : Int} (h : IsS134 w0 W g f0 f1 f2) : ∀ k, W.heap.size ≤ k → k ≠ g := by
 obtain ⟨A0, c0, hb, hg, hr0⟩ := h
 exact Kd.freshB hb
theorem IsS134.kept {w0 W : World} {g : Nat} {f0 : List Int} {f1 : Int} {f2 : Int} {W1 : World} {S : Nat → Prop} (h : IsS134 w0 W g f0 f1 f2) (hk : Kept W W1 S) (hne : ¬ S g) : IsS134 w0 W1 g f0 f1 f2 := by
 obtain ⟨A0, c0, hb, hg, hr0⟩ := h
 exact ⟨A0, c0, blk_kept hb hk hne, hg, hr0⟩
theorem IsS134.below {w0 W : World} {g : Nat} {f0 : List Int} {f1 : Int} {f2 : Int} {W1 : World} (h : IsS134 w0 W g f0 f1 f2) (hw : Below W.heap.size W W1) : IsS134 w0 W1 g f0 f1 f2 := h.grown (grown_of_below hw none) (by simp)
theorem IsS134.alloc {w0 W : World} {g : Nat} {f0 : List Int} {f1 : Int} {f2 : Int} (h : IsS134 w0 W g f0 f1 f2) (o : Obj) : IsS134 w0 (W.alloc o) g f0 f1 f2 := h.below (below_alloc (Below.refl _ _) o)
theorem IsS134.drewN {w0 W : World} {g : Nat} {f0 : List Int} {f1 : Int} {f2 : Int} (h : IsS134 w0 W g f0 f1 f2) (m : Nat) : IsS134 w0 (W.drewN m) g f0 f1 f2 := h
theorem IsS134.drew {w0 W : World} {g : Nat} {f0 : List Int} {f1 : Int} {f2 : Int} (h : IsS134 w0 W g f0 f1 f2) : IsS134 w0 W.drew g f0 f1 f2 := h
theorem IsS134.at_ {w0 W : World} {g : Nat} {f0 : List Int} {f1 : Int} {f2 : Int} {w' : World} {m : Nat} (hq : W.drewN m = w') (h : IsS134 w0 W g f0 f1 f2) : IsS134 w0 w' g f0 f1 f2 := by subst hq; exact IsS134.drewN h m
theorem IsS134.apart {w0 W : World} {g : Nat} {f0 : List Int} {f1 : Int} {f2 : Int} {α : Type} {d : Kd α} {e : Nat} {base : Nat} {ok : Nat → Prop} {v : Value} {xs : List α} (h : IsS134 w0 W g f0 f1 f2) (ho : d.R e W base ok v xs) (ht : ∀ q, q ∈ e :: d.E → q ≠ 134) : d.R e W base (fun k => ok k ∧ k ≠ g) v xs := by
 obtain ⟨A0, c0, hb, hg, hr0⟩ := h
 exact Kd.R_types ho hb ht
theorem IsS134.kR {w0 W : World} {g : Nat} {f0 : List Int} {f1 : Int} {f2 : Int} {α : Type} {d : Kd α} {e : Nat} {base : Nat} {ok : Nat → Prop} {v : Value} {xs : List α} {W1 : World} (hk : KeepBut W W1 g none) (h : IsS134 w0 W g f0 f1 f2) (ho : d.R e W base ok v xs) (ht : ∀ q, q ∈ e :: d.E → q ≠ 134 := by decide) : Aside0 (d.R e W1 base ok v xs) := ⟨Kd.R_mono (Kd.R_keep (IsS134.apart h ho ht) hk (fun _ h => h.2)) (fun _ h => h.1)⟩
theorem IsS134.own_ne {w0 W : World} {g : Nat} {f0 : List Int} {f1 : Int} {f2 : Int} {α : Type} {d : Kd α} {e : Nat} {base : Nat} {ok : Nat → Prop} {v : Value} {xs : List α} (h : IsS134 w0 W g f0 f1 f2) (ho : d.R e W base ok v xs) (ht : e ≠ 134) : some g ≠ v.ownBlock := by
 obtain ⟨A0, c0, hb, hg, hr0⟩ := h
 exact Kd.R_ne ho hb ht
theorem IsS134.apartQ {w0 W : World} {g : Nat} {f0 : List Int} {f1 : Int} {f2 : Int} {α : Type} {d : Kd α} {e : Nat} {base : Nat} {ok : Nat → Prop} {v : Value} {xs : List α} (h : IsS134 w0 W g f0 f1 f2) (ho : d.Q e W base ok v xs) (ht : ∀ q, q ∈ e :: d.E → q ≠ 134) : d.Q e W base (fun k => ok k ∧ k ≠ g) v xs := by
 obtain ⟨A0, c0, hb, hg, hr0⟩ := h
 exact Kd.Q_types ho hb ht
theorem IsS134.own_neQ {w0 W : World} {g : Nat} {f0 : List Int} {f1 : Int} {f2 : Int} {α : Type} {d : Kd α} {e : Nat} {base : Nat} {ok : Nat → Prop} {v : Value} {xs : List α} (h : IsS134 w0 W g f0 f1 f2) (ho : d.Q e W base ok v xs) (ht : e ≠ 134) : some g ≠ v.ownBlock := by
 obtain ⟨A0, c0, hb, hg, hr0⟩ := h
 exact Kd.Q_ne ho hb ht
theorem IsS134.apartS {w0 W : World} {g : Nat} {f0 : List Int} {f1 : Int} {f2 : Int} {α : Type} {d : Kd α} {e : Nat} {base : Nat} {ok : Nat → Prop} {v : Value} {xs : List α} (h : IsS134 w0 W g f0 f1 f2) (ho : d.S e W base ok v xs) (ht : ∀ q, q ∈ e :: d.E → q ≠ 134) : d.S e W base (fun k => ok k ∧ k ≠ g) v xs := by
 obtain ⟨A0, c0, hb, hg, hr0⟩ := h
 exact Kd.S_types ho hb ht
theorem IsS134.own_neS {w0 W : World} {g : Nat} {f0 : List Int} {f1 : Int} {f2 : Int} {α : Type} {d : Kd α} {e : Nat} {base : Nat} {ok : Nat → Prop} {v : Value} {xs : List α} (h : IsS134 w0 W g f0 f1 f2) (ho : d.S e W base ok v xs) (ht : e ≠ 134) : some g ≠ v.ownBlock := by
 obtain ⟨A0, c0, hb, hg, hr0⟩ := h
 exact Kd.S_ne ho hb ht
theorem IsS134.lt {w0 W : World} {g : Nat} {f0 : List Int} {f1 : Int} {f2 : Int} (h : IsS134 w0 W g f0 f1 f2) : g < W.heap.size := by
 obtain ⟨A0, c0, hb, hg, hr0⟩ := h
 exact blk_lt hb
theorem IsS134.ge {w0 W : World} {g : Nat} {f0 : List Int} {f1 : Int} {f2 : Int} (h : IsS134 w0 W g f0 f1 f2) : w0.heap.size ≤ g := by
 obtain ⟨A0, c0, hb, hg, hr0⟩ := h
 exact hg
theorem IsS134.ne_blk {w0 W : World} {g : Nat} {f0 : List Int} {f1 : Int} {f2 : Int} {a : Nat} {cs : Array Value} {t : TypeId} {fr : Nat × Nat} (h : IsS134 w0 W g f0 f1 f2) (hb2 : W.heap[a]? = some (.cells cs t fr)) (ht : t ≠ 134) : g ≠ a := by
 obtain ⟨A0, c0, hb, hg, hr0⟩ := h
 rintro rfl
 rw [hb] at hb2
 injection hb2 with hb2
 injection hb2 with _ ht2
 exact ht ht2.symm
theorem IsS134.far {w0 W : World} {g : Nat} {f0 : List Int} {f1 : Int} {f2 : Int} {p : Addr} (h : IsS134 w0 W g f0 f1 f2) (hne : g ≠ p.block) (u : Value) : IsS134 w0 (W.setCell p u) g f0 f1 f2 := by
 obtain ⟨A0, c0, hb, hg, hr0⟩ := h
 exact ⟨A0, c0, blk_far hb hne u, hg, hr0⟩
theorem cellS134_0 {W : World} {g : Nat} {A0 : Option Addr} {c0 : Nat} {f0 : List Int} {f1 : Int} {f2 : Int} (h : W.heap[g]? = some (.cells #[.slice A0 f0.length c0, .int .i64 f1, .int .i64 f2] 134 (0, 0))) : W.cell? ⟨g, 0, none⟩ = some (.slice A0 f0.length c0) := (blk_cell h 0).trans rfl
theorem cellS134_1 {W : World} {g : Nat} {A0 : Option Addr} {c0 : Nat} {f0 : List Int} {f1 : Int} {f2 : Int} (h : W.heap[g]? = some (.cells #[.slice A0 f0.length c0, .int .i64 f1, .int .i64 f2] 134 (0, 0))) : W.cell? ⟨g, 1, none⟩ = some (.int .i64 f1) := (blk_cell h 1).trans rfl
theorem IsS134.set_1 {w0 W : World} {g : Nat} {f0 : List Int} {f1 : Int} {f2 : Int} (h : IsS134 w0 W g f0 f1 f2) (x : Int) : IsS134 w0 (W.setCell ⟨g, 1, none⟩ (.int .i64 x)) g f0 x f2 := by
 obtain ⟨A0, c0, hb, hg, hr0⟩ := h
 exact ⟨A0, c0, by simpa using blk_set hb 1 (.int .i64 x), hg, hr0⟩
theorem cellS134_2 {W : World} {g : Nat} {A0 : Option Addr} {c0 : Nat} {f0 : List Int} {f1 : Int} {f2 : Int} (h : W.heap[g]? = some (.cells #[.slice A0 f0.length c0, .int .i64 f1, .int .i64 f2] 134 (0, 0))) : W.cell? ⟨g, 2, none⟩ = some (.int .i64 f2) := (blk_cell h 2).trans rfl
theorem IsS134.set_2 {w0 W : World} {g : Nat} {f0 : List Int} {f1 : Int} {f2 : Int} (h : IsS134 w0 W g f0 f1 f2) (x : Int) : IsS134 w0 (W.setCell ⟨g, 2, none⟩ (.int .i64 x)) g f0 f1 x := by
 obtain ⟨A0, c0, hb, hg, hr0⟩ := h
 exact ⟨A0, c0, by simpa using blk_set hb 2 (.int .i64 x), hg, hr0⟩
theorem IsS134.new (w0 W : World) (A0 : Option Addr) (c0 : Nat) (f0 : List Int) (f1 : Int) (f2 : Int) (hB : Below w0.heap.size w0 W) (hr0 : Kd.C (Kd.int .u8) w0 A0 f0.length f0) : IsS134 w0 (W.alloc (.cells #[.slice A0 f0.length c0, .int .i64 f1, .int .i64 f2] 134)) W.heap.size f0 f1 f2 := ⟨A0, c0, by simpa using heap_alloc_new W _, hB.size, hr0⟩
def spec_l01New.l0 : Nat → List Int → Int → Int → Option (List Int × Int × Int)
 | 0, _, _, _ => none
 | k + 1, a, b, c => if c < (a.length : Int) then (if c < 4000 then (if 0 ≤ c then (spec_l01New.l0 k a (Go.bits .and .i64 (wrap64 ((wrap64 ((wrap64 (b * 131)) + (wrap64 (rd a c)))) + 7)) 1073741823) (wrap64 (c + 1))) else (none)) else (some (a, 0, b))) else (some (a, 0, b))
def spec_l01New.f (k : Nat) (l0 : List Int) : Option (List Int × Int × Int) := spec_l01New.l0 k l0 (wrap64 (76001 + (l0.length : Int))) 0
theorem spec_l01New.mono_l : ∀ k, (∀ y0 y1 y2, LeO (spec_l01New.l0 k y0 y1 y2) (spec_l01New.l0 (k + 1) y0 y1 y2))
 | 0 => fun _ _ _ r h => by simp [spec_l01New.l0] at h
 | k + 1 => by
  have ih0 := spec_l01New.mono_l k
  ·intro y0 y1 y2
   unfold spec_l01New.l0
   repeat' with_reducible first | exact ih0 _ _ _ | exact LeO.refl _ | exact LeO.none _ | refine LeO.ite ?_ ?_ | refine LeO.bind ?_ (fun _ => ?_)
theorem spec_l01New.mono : ∀ a0 k, LeO (spec_l01New.f k a0) (spec_l01New.f (k + 1) a0) := by
 intro a0 k
 have ih0 := spec_l01New.mono_l k
 unfold spec_l01New.f
 repeat' with_reducible first | exact ih0 _ _ _ | exact LeO.refl _ | exact LeO.none _ | refine LeO.ite ?_ ?_ | refine LeO.bind ?_ (fun _ => ?_)
theorem spec_l01New.calls (k : Nat) (A0 : Option Addr) (c0 : Nat) (l0 : List Int) (r1 : List Int) (r2 : Int) (r3 : Int) (w0 w : World) (hB : Below w0.heap.size w0 w) (hr0 : Kd.C (Kd.int .u8) w0 A0 l0.length l0) (hc0 : l0.length ≤ c0) (h : spec_l01New.f k l0 = some (r1, r2, r3)) :
  Calls Try.prog 67 #[.slice A0 l0.length c0] w fun e w' => ∃ g_ : Nat, e = .returned (.pointer (some ⟨g_, 0, none⟩)) ∧ IsS134 w0 w' g_ r1 r2 r3 ∧ Below w0.heap.size w0 w' ∧ Below w.heap.size w w' := by
 have hu134 := Try.underlying134
 have HR0 := Aside0.mk hr0
 have HC0 := Aside0.mk hc0
 clear hr0 hc0
 have HBW := ak (Below.refl w.heap.size w)
 have HW0 := Aside0.mk hB.size
 have HB := Aside0.mk hB
 clear hB
 have H := h
 clear h
 unfold spec_l01New.f at H
 have H' := Aside0.mk H
 clear H
 go_enter Try.func67, Try.ntmps67
 go_wp2
 go_loopg [3, 4] k (fun kq v3 v4 w' => ∃ (x3_1 : Int) (x4_1 : Int), v3 = .int .i64 x3_1 ∧ v4 = .int .i64 x4_1 ∧ Aside0 (spec_l01New.l0 kq l0 x3_1 x4_1 = some (r1, r2, r3)) ∧ Aside0 (kq ≤ k) ∧ Aside0 (Below w0.heap.size w0 w') ∧ Aside0 (Below w.heap.size w w'))
 case atStart => exact ⟨_, _, rr, rr, H', ⟨Nat.le_refl _⟩, ⟨by exact lG HB⟩, ⟨by exact lG HBW⟩⟩
 case round =>
  skip;{
 clear H'
 obtain ⟨x3_1, x4_1, rfl, rfl, HA, HK1, HB, HBW⟩ := hrel
 cases gk with
 | zero => exact absurd HA.out (by simp [spec_l01New.l0])
 | succ k1 =>
  skip;{
 have H := HA.out
 clear HA
 simp only [spec_l01New.l0] at H
 by_cases c2 : x4_1 < (l0.length : Int)
 {
 rw [if_pos c2] at H
 have c2b0 := decide_eq_true c2
 clear c2
 by_cases c3 : x4_1 < 4000
 {
 rw [if_pos c3] at H
 have c3b0 := decide_eq_true c3
 clear c3
 by_cases c4 : 0 ≤ x4_1
 {
 rw [if_pos c4] at H
 have c4b0 := decide_eq_true c4
 clear c4
 have H' := Aside0.mk H
 clear H
 have p381 : 0 ≤ (x4_1 : Int) := oda
 have q381 : x4_1 < (l0.length : Int) := oda
 obtain ⟨ad381, e381, hx381_0⟩ := Kd.at_int HR0.out x4_1 p381 q381
 cases e381
 replace hx381_0 := pw_cell_below HB.out hx381_0
 replace p381 := eq_true p381
 replace q381 := eq_true q381
 go_wp2
 go_roundg k1
 case measure => have := HK1.out; omega
 case rel => exact ⟨_, _, rr, rr, H', ⟨by have := HK1.out; omega⟩, ⟨by exact lG HB⟩, ⟨by exact lG HBW⟩⟩
 }
 {rw [if_neg c4] at H;exact absurd H (by simp)}
 }
 {
 rw [if_neg c3] at H
 have c3b0 := decide_eq_false c3
 clear c3
 simp only [Option.some.injEq, Prod.mk.injEq] at H
 obtain ⟨rfl, rfl, rfl⟩ := H
 go_wp2_with ((with_reducible refine gate_dst (N := 31) rfl ?_); refine bx 31 #[.slice A0 l0.length c0, .int .i64 0, .int .i64 x3_1] 134 ?_; intro gb382 hg w5 hbox hb; replace HB := lB HB hb; replace BK382 := ak (hbox); replace GW382 := ak ((by rw [hg]; exact (below_size (by repeat (first | (with_reducible first | exact HBW.out | apply below_alloc | apply pw_below_drewN | apply below_drew1) | exact HBW.out))) : w.heap.size ≤ gb382)); replace GE382 := ak ((Nat.le_trans HW0.out (by rw [hg]; exact (below_size (by repeat (first | (with_reducible first | exact HBW.out | apply below_alloc | apply pw_below_drewN | apply below_drew1) | exact HBW.out))) : w.heap.size ≤ gb382) : w0.heap.size ≤ gb382)); replace HBW := ak (below_step HBW.out hb); clear hb hbox hg)
 go_ret
 exact ⟨_, rfl, (show IsS134 w0 _ gb382 l0 0 x3_1 from ⟨_, _, by (with_reducible repeat (first | refine blk_drewN ?_ _ | refine blk_drew ?_ | refine blk_alloc ?_ _)); exact BK382.out, GE382.out, HR0.out⟩), by exact lT HB (gC GE382 gN), by repeat (first | (with_reducible first | exact HBW.out | apply below_alloc | apply pw_below_drewN | apply below_drew1 | refine below_set ?_ GW382.out) | exact HBW.out)⟩
 }
 }
 {
 rw [if_neg c2] at H
 have c2b0 := decide_eq_false c2
 clear c2
 simp only [Option.some.injEq, Prod.mk.injEq] at H
 obtain ⟨rfl, rfl, rfl⟩ := H
 go_wp2_with ((with_reducible refine gate_dst (N := 31) rfl ?_); refine bx 31 #[.slice A0 l0.length c0, .int .i64 0, .int .i64 x3_1] 134 ?_; intro gb383 hg w6 hbox hb; replace HB := lB HB hb; replace BK383 := ak (hbox); replace GW383 := ak ((by rw [hg]; exact (below_size (by repeat (first | (with_reducible first | exact HBW.out | apply below_alloc | apply pw_below_drewN | apply below_drew1) | exact HBW.out))) : w.heap.size ≤ gb383)); replace GE383 := ak ((Nat.le_trans HW0.out (by rw [hg]; exact (below_size (by repeat (first | (with_reducible first | exact HBW.out | apply below_alloc | apply pw_below_drewN | apply below_drew1) | exact HBW.out))) : w.heap.size ≤ gb383) : w0.heap.size ≤ gb383)); replace HBW := ak (below_step HBW.out hb); clear hb hbox hg)
 go_ret
 exact ⟨_, rfl, (show IsS134 w0 _ gb383 l0 0 x3_1 from ⟨_, _, by (with_reducible repeat (first | refine blk_drewN ?_ _ | refine blk_drew ?_ | refine blk_alloc ?_ _)); exact BK383.out, GE383.out, HR0.out⟩), by exact lT HB (gC GE383 gN), by repeat (first | (with_reducible first | exact HBW.out | apply below_alloc | apply pw_below_drewN | apply below_drew1 | refine below_set ?_ GW383.out) | exact HBW.out)⟩
 }
 }
 }
def spec_l01Byte.f (s0_0 : List Int) (s0_1 : Int) (s0_2 : Int) : Option (Int × Int × Int) := if s0_1 < (s0_0.length : Int) then (if 0 ≤ s0_1 then (some (Go.bits .and .i64 (wrap64 ((Go.bits .and .i64 (Go.bits .xor .i64 ((wrap64 ((wrap64 (s0_2 * 6364136223846793005)) + 1442695040888963407)) / 8589934592) ((wrap64 ((wrap64 (s0_2 * 6364136223846793005)) + 1442695040888963407)) / 35184372088832)) 255) + (wrap64 (rd s0_0 s0_1)))) 255, wrap64 (s0_1 + 1), wrap64 ((wrap64 (s0_2 * 6364136223846793005)) + 1442695040888963407))) else (none)) else (some (Go.bits .and .i64 (Go.bits .xor .i64 ((wrap64 ((wrap64 (s0_2 * 6364136223846793005)) + 1442695040888963407)) / 8589934592) ((wrap64 ((wrap64 (s0_2 * 6364136223846793005)) + 1442695040888963407)) / 35184372088832)) 255, s0_1, wrap64 ((wrap64 (s0_2 * 6364136223846793005)) + 1442695040888963407)))
theorem spec_l01Byte.calls (g : Nat) (s0_0 : List Int) (s0_1 : Int) (s0_2 : Int) (r1 : Int) (r2 : Int) (r3 : Int) (w0 w : World) (hI : IsS134 w0 w g s0_0 s0_1 s0_2) (hB : Below w0.heap.size w0 w) (h : spec_l01Byte.f s0_0 s0_1 s0_2 = some (r1, r2, r3)) :
  Calls Try.prog 73 #[.pointer (some ⟨g, 0, none⟩)] w fun e w' => e = .returned (.int .i64 r1) ∧ IsS134 w0 w' g s0_0 r2 r3 ∧ Below w0.heap.size w0 w' ∧ KeepBut w w' g none := by
 have HI0 := Aside0.mk hI
 have HK := ak (KeepBut.refl w g none)
 have HL := Aside0.mk hB.size
 clear hI
 have HW0 := Aside0.mk hB.size
 have HB := Aside0.mk hB
 clear hB
 have H := h
 clear h
 unfold spec_l01Byte.f at H
 by_cases c2 : s0_1 < (s0_0.length : Int)
 {
 rw [if_pos c2] at H
 have c2b0 := decide_eq_true c2
 clear c2
 by_cases c3 : 0 ≤ s0_1
 {
 rw [if_pos c3] at H
 have c3b0 := decide_eq_true c3
 clear c3
 simp only [Option.some.injEq, Prod.mk.injEq] at H
 obtain ⟨rfl, rfl, rfl⟩ := H
 obtain ⟨ASz4_0, cSz4_0, HGz4, hgz4, HSz4_0⟩ := HI0.out
 have hcz4_0 := cellS134_0 HGz4
 have hcz4_1 := cellS134_1 HGz4
 have hcz4_2 := cellS134_2 HGz4
 have hfz4_1 := blk_frozen HGz4 1
 have hfz4_2 := blk_frozen HGz4 2
 clear HGz4 hgz4
 have p384 : 0 ≤ (s0_1 : Int) := oda
 have q384 : s0_1 < (s0_0.length : Int) := oda
 obtain ⟨ad384, e384, hx384_0⟩ := Kd.at_int HSz4_0 s0_1 p384 q384
 cases e384
 have hn384_0 : ad384.block ≠ g := Nat.ne_of_lt (Nat.lt_of_lt_of_le (by have := World.block_lt_of_cell? _ _ hx384_0; first | rwa [add_block] at this | exact this) (IsS134.ge HI0.out))
 replace hx384_0 := pw_cell_below HB.out hx384_0
 replace hx384_0 := (cell_far (p := ⟨g, 2, none⟩) (by first | (rw [add_block]; exact hn384_0) | (show (Addr.add _ _).block ≠ _; rw [add_block]; exact hn384_0) | exact hn384_0) (.int .i64 (wrap64 ((wrap64 (s0_2 * 6364136223846793005)) + 1442695040888963407)))).trans hx384_0
 (try have hy384_0 := fun (n_ : Nat) => (show (((w.drewN n_).setCell ⟨g, 2, none⟩ (.int .i64 (wrap64 ((wrap64 (s0_2 * 6364136223846793005)) + 1442695040888963407))))).cell? _ = some _ from hx384_0))
 clear hn384_0
 replace p384 := eq_true p384
 replace q384 := eq_true q384
 go_enter Try.func73, Try.ntmps73
 go_wp2
 repeat (go_quiet (fail); try go_wp2)
 go_ret
 exact ⟨by first | rfl | (simp [errW_none, errW_some] <;> rfl) | (simp [*, errW_none, errW_some] <;> rfl), by repeat (first | (with_reducible first | exact HI0.out | apply IsS134.alloc | apply IsS134.drewN | apply IsS134.drew | apply IsS134.set_1 | apply IsS134.set_2) | exact HI0.out), by repeat (first | (with_reducible first | exact HB.out | apply below_alloc | apply pw_below_drewN | apply below_drew1 | refine below_set ?_ (IsS134.ge HI0.out)) | exact HB.out), by repeat (first | (with_reducible first | exact HK.out | apply KeepBut.set_ | apply keep_drewN | apply keep_drew | apply keep_alloc) | exact HK.out)⟩
 }
 {rw [if_neg c3] at H;exact absurd H (by simp)}
 }
 {
 rw [if_neg c2] at H
 have c2b0 := decide_eq_false c2
 clear c2
 simp only [Option.some.injEq, Prod.mk.injEq] at H
 obtain ⟨rfl, rfl, rfl⟩ := H
 obtain ⟨ASz5_0, cSz5_0, HGz5, hgz5, HSz5_0⟩ := HI0.out
 have hcz5_0 := cellS134_0 HGz5
 have hcz5_1 := cellS134_1 HGz5
 have hcz5_2 := cellS134_2 HGz5
 have hfz5_1 := blk_frozen HGz5 1
 have hfz5_2 := blk_frozen HGz5 2
 clear HGz5 hgz5
 go_enter Try.func73, Try.ntmps73
 go_wp2
 repeat (go_quiet (fail); try go_wp2)
 go_ret
 exact ⟨by first | rfl | (simp [errW_none, errW_some] <;> rfl) | (simp [*, errW_none, errW_some] <;> rfl), by repeat (first | (with_reducible first | exact HI0.out | apply IsS134.alloc | apply IsS134.drewN | apply IsS134.drew | apply IsS134.set_1 | apply IsS134.set_2) | exact HI0.out), by repeat (first | (with_reducible first | exact HB.out | apply below_alloc | apply pw_below_drewN | apply below_drew1 | refine below_set ?_ (IsS134.ge HI0.out)) | exact HB.out), by repeat (first | (with_reducible first | exact HK.out | apply KeepBut.set_ | apply keep_drewN | apply keep_drew | apply keep_alloc) | exact HK.out)⟩
 }
def spec_l01Below.f (s0_0 : List Int) (s0_1 : Int) (s0_2 : Int) (a1 : Int) : Option (Int × Int × Int) := if a1 ≤ 0 then (some (0, s0_1, s0_2)) else (if a1 ≤ 256 then ((spec_l01Byte.f s0_0 s0_1 s0_2).bind fun bt385 => (if a1 = 0 then (none) else (some (Int.tmod bt385.1 a1, bt385.2.1, bt385.2.2)))) else ((spec_l01Byte.f s0_0 s0_1 s0_2).bind fun bt388 => ((spec_l01Byte.f s0_0 bt388.2.1 bt388.2.2).bind fun bt391 => ((spec_l01Byte.f s0_0 bt391.2.1 bt391.2.2).bind fun bt394 => ((spec_l01Byte.f s0_0 bt394.2.1 bt394.2.2).bind fun bt397 => (if a1 = 0 then (none) else (some (Int.tmod (wrap64 ((wrap64 ((wrap64 ((wrap64 (bt388.1 * 16777216)) + (wrap64 (bt391.1 * 65536)))) + (wrap64 (bt394.1 * 256)))) + bt397.1)) a1, bt397.2.1, bt397.2.2))))))))
theorem spec_l01Below.calls (g : Nat) (s0_0 : List Int) (s0_1 : Int) (s0_2 : Int) (a1 : Int) (r1 : Int) (r2 : Int) (r3 : Int) (w0 w : World) (hI : IsS134 w0 w g s0_0 s0_1 s0_2) (hB : Below w0.heap.size w0 w) (h : spec_l01Below.f s0_0 s0_1 s0_2 a1 = some (r1, r2, r3)) :
  Calls Try.prog 69 #[.pointer (some ⟨g, 0, none⟩), .int .i64 a1] w fun e w' => e = .returned (.int .i64 r1) ∧ IsS134 w0 w' g s0_0 r2 r3 ∧ Below w0.heap.size w0 w' ∧ KeepBut w w' g none := by
 have HI0 := Aside0.mk hI
 have HK := ak (KeepBut.refl w g none)
 have HL := Aside0.mk hB.size
 clear hI
 have HW0 := Aside0.mk hB.size
 have HB := Aside0.mk hB
 clear hB
 have H := h
 clear h
 unfold spec_l01Below.f at H
 by_cases c3 : a1 ≤ 0
 {
 rw [if_pos c3] at H
 have c3b0 := decide_eq_true c3
 clear c3
 simp only [Option.some.injEq, Prod.mk.injEq] at H
 obtain ⟨rfl, rfl, rfl⟩ := H
 go_enter Try.func69, Try.ntmps69
 go_wp2
 go_ret
 exact ⟨ew, IsS134.T_ HI0 nN, lT HB gN, kT HK gN⟩
 }
 {
 rw [if_neg c3] at H
 have c3b0 := decide_eq_false c3
 clear c3
 by_cases c4 : a1 ≤ 256
 {
 rw [if_pos c4] at H
 have c4b0 := decide_eq_true c4
 clear c4
 obtain ⟨⟨t385, t386, t387⟩, A5, H⟩ := eb H
 try dsimp only at H
 by_cases c6 : a1 = 0
 {rw [if_pos c6] at H;exact absurd H (by simp)}
 {
 rw [if_neg c6] at H
 have c6b0 := beq_eq_false_iff_ne.mpr c6
 have c6b1 := bne_iff_ne.mpr c6
 simp only [Option.some.injEq, Prod.mk.injEq] at H
 obtain ⟨rfl, rfl, rfl⟩ := H
 go_enter Try.func69, Try.ntmps69
 go_wp2_with ((with_reducible refine gate_callee (f := 73) rfl ?_); refine gl (some 14) Try.func73 #[.pointer (some ⟨g, 0, none⟩)] ?_; (with_reducible refine (spec_l01Byte.calls g s0_0 s0_1 s0_2 t385 t386 t387 w0 _ ?side1 ?side2 A5.out).mono ?_); (case side1 => exact IsS134.T_ HI0 nN); (case side2 => exact lT HB gN); rintro e w7 ⟨rfl, hi, hb, hk⟩; refine ⟨_, rfl, ?_⟩; replace HK := ak (KeepBut.trans (kT HK gN) hk (.inl rfl)); replace HB := ak (hb); replace HI0 := ak (hi); (try clear hb); (try clear hk); (try clear hi))
 go_ret
 exact ⟨ew, IsS134.T_ HI0 nN, lT HB gN, kT HK gN⟩
 }
 }
 {
 rw [if_neg c4] at H
 have c4b0 := decide_eq_false c4
 clear c4
 obtain ⟨⟨t388, t389, t390⟩, A8, H⟩ := eb H
 try dsimp only at H
 obtain ⟨⟨t391, t392, t393⟩, A9, H⟩ := eb H
 try dsimp only at H
 obtain ⟨⟨t394, t395, t396⟩, A10, H⟩ := eb H
 try dsimp only at H
 obtain ⟨⟨t397, t398, t399⟩, A11, H⟩ := eb H
 try dsimp only at H
 by_cases c12 : a1 = 0
 {rw [if_pos c12] at H;exact absurd H (by simp)}
 {
 rw [if_neg c12] at H
 have c12b0 := beq_eq_false_iff_ne.mpr c12
 have c12b1 := bne_iff_ne.mpr c12
 simp only [Option.some.injEq, Prod.mk.injEq] at H
 obtain ⟨rfl, rfl, rfl⟩ := H
 go_enter Try.func69, Try.ntmps69
 go_wp2_with (first | ((with_reducible refine gate_callee (f := 73) rfl ?_); refine gl (some 18) Try.func73 #[.pointer (some ⟨g, 0, none⟩)] ?_; (with_reducible refine (spec_l01Byte.calls g s0_0 s0_1 s0_2 t388 t389 t390 w0 _ ?side1 ?side2 A8.out).mono ?_); (case side1 => exact IsS134.T_ HI0 nN); (case side2 => exact lT HB gN); rintro e w13 ⟨rfl, hi, hb, hk⟩; refine ⟨_, rfl, ?_⟩; replace HK := ak (KeepBut.trans (kT HK gN) hk (.inl rfl)); replace HB := ak (hb); replace HI0 := ak (hi); (try clear hb); (try clear hk); (try clear hi)) | ((with_reducible refine gate_callee (f := 73) rfl ?_); refine gl (some 20) Try.func73 #[.pointer (some ⟨g, 0, none⟩)] ?_; (with_reducible refine (spec_l01Byte.calls g s0_0 t389 t390 t391 t392 t393 w0 _ ?side1 ?side2 A9.out).mono ?_); (case side1 => exact IsS134.T_ HI0 nN); (case side2 => exact lT HB gN); rintro e w14 ⟨rfl, hi, hb, hk⟩; refine ⟨_, rfl, ?_⟩; replace HK := ak (KeepBut.trans (kT HK gN) hk (.inl rfl)); replace HB := ak (hb); replace HI0 := ak (hi); (try clear hb); (try clear hk); (try clear hi)) | ((with_reducible refine gate_callee (f := 73) rfl ?_); refine gl (some 22) Try.func73 #[.pointer (some ⟨g, 0, none⟩)] ?_; (with_reducible refine (spec_l01Byte.calls g s0_0 t392 t393 t394 t395 t396 w0 _ ?side1 ?side2 A10.out).mono ?_); (case side1 => exact IsS134.T_ HI0 nN); (case side2 => exact lT HB gN); rintro e w15 ⟨rfl, hi, hb, hk⟩; refine ⟨_, rfl, ?_⟩; replace HK := ak (KeepBut.trans (kT HK gN) hk (.inl rfl)); replace HB := ak (hb); replace HI0 := ak (hi); (try clear hb); (try clear hk); (try clear hi)) | ((with_reducible refine gate_callee (f := 73) rfl ?_); refine gl (some 24) Try.func73 #[.pointer (some ⟨g, 0, none⟩)] ?_; (with_reducible refine (spec_l01Byte.calls g s0_0 t395 t396 t397 t398 t399 w0 _ ?side1 ?side2 A11.out).mono ?_); (case side1 => exact IsS134.T_ HI0 nN); (case side2 => exact lT HB gN); rintro e w16 ⟨rfl, hi, hb, hk⟩; refine ⟨_, rfl, ?_⟩; replace HK := ak (KeepBut.trans (kT HK gN) hk (.inl rfl)); replace HB := ak (hb); replace HI0 := ak (hi); (try clear hb); (try clear hk); (try clear hi)))
 go_ret
 exact ⟨ew, IsS134.T_ HI0 nN, lT HB gN, kT HK gN⟩
 }
 }
 }
def spec_l01Pick.f (s0_0 : List Int) (s0_1 : Int) (s0_2 : Int) (l1 : List ByteArray) : Option (ByteArray × Int × Int) := (spec_l01Below.f s0_0 s0_1 s0_2 (l1.length : Int)).bind fun bt400 => (if 0 ≤ bt400.1 then (if bt400.1 < (l1.length : Int) then (some (rdOf ByteArray.empty l1 bt400.1, bt400.2.1, bt400.2.2)) else (none)) else (none))
theorem spec_l01Pick.calls (g : Nat) (s0_0 : List Int) (s0_1 : Int) (s0_2 : Int) (A1 : Option Addr) (c1 : Nat) (l1 : List ByteArray) (r1 : ByteArray) (r2 : Int) (r3 : Int) (w0 w : World) (hI : IsS134 w0 w g s0_0 s0_1 s0_2) (hB : Below w0.heap.size w0 w) (hr1 : Kd.C Kd.string w A1 l1.length l1) (hc1 : l1.length ≤ c1) (hf1 : ∀ ad, A1 = some ad → 0 < l1.length → ad.block ≠ g) (h : spec_l01Pick.f s0_0 s0_1 s0_2 l1 = some (r1, r2, r3)) :
  Calls Try.prog 71 #[.pointer (some ⟨g, 0, none⟩), .slice A1 l1.length c1] w fun e w' => e = .returned (.string r1) ∧ IsS134 w0 w' g s0_0 r2 r3 ∧ Below w0.heap.size w0 w' ∧ KeepBut w w' g none := by
 have HR1 := Aside0.mk hr1
 have HC1 := Aside0.mk hc1
 clear hr1 hc1
 have HI0 := Aside0.mk hI
 have HK := ak (KeepBut.refl w g none)
 have HL := Aside0.mk hB.size
 clear hI
 have HW0 := Aside0.mk hB.size
 have HB := Aside0.mk hB
 clear hB
 have H := h
 clear h
 unfold spec_l01Pick.f at H
 obtain ⟨⟨t400, t401, t402⟩, A3, H⟩ := eb H
 try dsimp only at H
 by_cases c4 : 0 ≤ t400
 {
 rw [if_pos c4] at H
 have c4b0 := decide_eq_true c4
 clear c4
 by_cases c5 : t400 < (l1.length : Int)
 {
 rw [if_pos c5] at H
 have c5b0 := decide_eq_true c5
 clear c5
 simp only [Option.some.injEq, Prod.mk.injEq] at H
 obtain ⟨rfl, rfl, rfl⟩ := H
 go_enter Try.func71, Try.ntmps71
 go_wp2_with ((with_reducible refine gate_callee (f := 69) rfl ?_); refine gl (some 9) Try.func69 #[.pointer (some ⟨g, 0, none⟩), .int .i64 (l1.length : Int)] ?_; (with_reducible refine (spec_l01Below.calls g s0_0 s0_1 s0_2 (l1.length : Int) t400 t401 t402 w0 _ ?side1 ?side2 A3.out).mono ?_); (case side1 => exact IsS134.T_ HI0 nN); (case side2 => exact lT HB gN); rintro e w6 ⟨rfl, hi, hb, hk⟩; refine ⟨_, rfl, ?_⟩; replace HK := ak (KeepBut.trans (kT HK gN) hk (.inl rfl)); replace HB := ak (hb); replace HI0 := ak (hi); (try clear hb); (try clear hk); (try clear hi); have p403 : 0 ≤ (t400 : Int) := oda; have q403 : t400 < (l1.length : Int) := oda; obtain ⟨ad403, e403, hx403_0⟩ := Kd.at_string HR1.out t400 p403 q403; cases e403; replace hx403_0 := keep_cell HK.out hx403_0 (by first | (rw [add_block]; exact hf1 _ rfl (by omega)) | exact hf1 _ rfl (by omega) | exact hf1 ad403 rfl (by omega)); replace p403 := eq_true p403; replace q403 := eq_true q403)
 go_ret
 exact ⟨ew, IsS134.T_ HI0 nN, lT HB gN, kT HK gN⟩
 }
 {rw [if_neg c5] at H;exact absurd H (by simp)}
 }
 {rw [if_neg c4] at H;exact absurd H (by simp)}
def spec_l01PickInt.f (s0_0 : List Int) (s0_1 : Int) (s0_2 : Int) (l1 : List Int) : Option (Int × Int × Int) := (spec_l01Below.f s0_0 s0_1 s0_2 (l1.length : Int)).bind fun bt404 => (if 0 ≤ bt404.1 then (if bt404.1 < (l1.length : Int) then (some (rd l1 bt404.1, bt404.2.1, bt404.2.2)) else (none)) else (none))
theorem spec_l01PickInt.calls (g : Nat) (s0_0 : List Int) (s0_1 : Int) (s0_2 : Int) (A1 : Option Addr) (c1 : Nat) (l1 : List Int) (r1 : Int) (r2 : Int) (r3 : Int) (w0 w : World) (hI : IsS134 w0 w g s0_0 s0_1 s0_2) (hB : Below w0.heap.size w0 w) (hr1 : Kd.C (Kd.int .i64) w A1 l1.length l1) (hc1 : l1.length ≤ c1) (hf1 : ∀ ad, A1 = some ad → 0 < l1.length → ad.block ≠ g) (h : spec_l01PickInt.f s0_0 s0_1 s0_2 l1 = some (r1, r2, r3)) :
  Calls Try.prog 116 #[.pointer (some ⟨g, 0, none⟩), .slice A1 l1.length c1] w fun e w' => e = .returned (.int .i64 r1) ∧ IsS134 w0 w' g s0_0 r2 r3 ∧ Below w0.heap.size w0 w' ∧ KeepBut w w' g none := by
 have HR1 := Aside0.mk hr1
 have HC1 := Aside0.mk hc1
 clear hr1 hc1
 have HI0 := Aside0.mk hI
 have HK := ak (KeepBut.refl w g none)
 have HL := Aside0.mk hB.size
 clear hI
 have HW0 := Aside0.mk hB.size
 have HB := Aside0.mk hB
 clear hB
 have H := h
 clear h
 unfold spec_l01PickInt.f at H
 obtain ⟨⟨t404, t405, t406⟩, A3, H⟩ := eb H
 try dsimp only at H
 by_cases c4 : 0 ≤ t404
 {
 rw [if_pos c4] at H
 have c4b0 := decide_eq_true c4
 clear c4
 by_cases c5 : t404 < (l1.length : Int)
 {
 rw [if_pos c5] at H
 have c5b0 := decide_eq_true c5
 clear c5
 simp only [Option.some.injEq, Prod.mk.injEq] at H
 obtain ⟨rfl, rfl, rfl⟩ := H
 go_enter Try.func116, Try.ntmps116
 go_wp2_with ((with_reducible refine gate_callee (f := 69) rfl ?_); refine gl (some 9) Try.func69 #[.pointer (some ⟨g, 0, none⟩), .int .i64 (l1.length : Int)] ?_; (with_reducible refine (spec_l01Below.calls g s0_0 s0_1 s0_2 (l1.length : Int) t404 t405 t406 w0 _ ?side1 ?side2 A3.out).mono ?_); (case side1 => exact IsS134.T_ HI0 nN); (case side2 => exact lT HB gN); rintro e w6 ⟨rfl, hi, hb, hk⟩; refine ⟨_, rfl, ?_⟩; replace HK := ak (KeepBut.trans (kT HK gN) hk (.inl rfl)); replace HB := ak (hb); replace HI0 := ak (hi); (try clear hb); (try clear hk); (try clear hi); have p407 : 0 ≤ (t404 : Int) := oda; have q407 : t404 < (l1.length : Int) := oda; obtain ⟨ad407, e407, hx407_0⟩ := Kd.at_int HR1.out t404 p407 q407; cases e407; replace hx407_0 := keep_cell HK.out hx407_0 (by first | (rw [add_block]; exact hf1 _ rfl (by omega)) | exact hf1 _ rfl (by omega) | exact hf1 ad407 rfl (by omega)); replace p407 := eq_true p407; replace q407 := eq_true q407)
 go_ret
 exact ⟨ew, IsS134.T_ HI0 nN, lT HB gN, kT HK gN⟩
 }
 {rw [if_neg c5] at H;exact absurd H (by simp)}
 }
 {rw [if_neg c4] at H;exact absurd H (by simp)}
def spec_l06Text.f (s0_0 : List Int) (s0_1 : Int) (s0_2 : Int) : Option (ByteArray × Int × Int) := (spec_l01Pick.f s0_0 s0_1 s0_2 (([(⟨#[104, 101, 108, 108, 111]⟩ : ByteArray), (⟨#[102, 114, 111, 109, 58, 32, 97, 110, 110, 10, 10, 104, 105]⟩ : ByteArray), (⟨#[115, 117, 98, 106, 101, 99, 116, 58, 32, 120, 10, 10, 98, 111, 100, 121, 32, 111, 102, 32, 105, 116, 10, 46, 100, 111, 116, 10]⟩ : ByteArray), (⟨#[]⟩ : ByteArray), (⟨#[120, 10, 46, 46, 10]⟩ : ByteArray)] : List ByteArray))).bind fun bt411 => (some (bt411.1, bt411.2.1, bt411.2.2))
theorem spec_l06Text.calls (g : Nat) (s0_0 : List Int) (s0_1 : Int) (s0_2 : Int) (r1 : ByteArray) (r2 : Int) (r3 : Int) (w0 w : World) (hI : IsS134 w0 w g s0_0 s0_1 s0_2) (hB : Below w0.heap.size w0 w) (h : spec_l06Text.f s0_0 s0_1 s0_2 = some (r1, r2, r3)) :
  Calls Try.prog 117 #[.pointer (some ⟨g, 0, none⟩)] w fun e w' => e = .returned (.string r1) ∧ IsS134 w0 w' g s0_0 r2 r3 ∧ Below w0.heap.size w0 w' ∧ KeepBut w w' g none := by
 have HI0 := Aside0.mk hI
 have HK := ak (KeepBut.refl w g none)
 have HL := Aside0.mk hB.size
 clear hI
 have HW0 := Aside0.mk hB.size
 have HB := Aside0.mk hB
 clear hB
 have H := h
 clear h
 unfold spec_l06Text.f at H
 obtain ⟨y408, hy408⟩ : ∃ y_ : List ByteArray, y_ = (([(⟨#[104, 101, 108, 108, 111]⟩ : ByteArray), (⟨#[102, 114, 111, 109, 58, 32, 97, 110, 110, 10, 10, 104, 105]⟩ : ByteArray), (⟨#[115, 117, 98, 106, 101, 99, 116, 58, 32, 120, 10, 10, 98, 111, 100, 121, 32, 111, 102, 32, 105, 116, 10, 46, 100, 111, 116, 10]⟩ : ByteArray), (⟨#[]⟩ : ByteArray), (⟨#[120, 10, 46, 46, 10]⟩ : ByteArray)] : List ByteArray)) := ⟨_, rfl⟩
 replace H : ((spec_l01Pick.f s0_0 s0_1 s0_2 y408).bind fun bt411 => (some (bt411.1, bt411.2.1, bt411.2.2))) = some (r1, r2, r3) := by first | (rw [hy408]; with_reducible exact H) | (have H2_ := (Option.bind_some _ _).symm.trans H; rw [hy408]; with_reducible exact H2_) | (have H2_ := (Option.bind_some _ _).symm.trans H; with_reducible exact H2_) | with_reducible exact H | (rw [hy408]; exact H) | exact H
 have Ny408 := Aside0.mk hy408
 clear hy408
 obtain ⟨⟨t411, t412, t413⟩, A2, H⟩ := eb H
 try dsimp only at H
 simp only [Option.some.injEq, Prod.mk.injEq] at H
 obtain ⟨rfl, rfl, rfl⟩ := H
 go_enter Try.func117, Try.ntmps117
 go_wp2_with (first | ((with_reducible refine gate_dst (N := 4) rfl ?_); refine Kd.R_lit Kd.string _ 9 ?hg (N := 4) ?hd (xs := ([(⟨#[104, 101, 108, 108, 111]⟩ : ByteArray), (⟨#[102, 114, 111, 109, 58, 32, 97, 110, 110, 10, 10, 104, 105]⟩ : ByteArray), (⟨#[115, 117, 98, 106, 101, 99, 116, 58, 32, 120, 10, 10, 98, 111, 100, 121, 32, 111, 102, 32, 105, 116, 10, 46, 100, 111, 116, 10]⟩ : ByteArray), (⟨#[]⟩ : ByteArray), (⟨#[120, 10, 46, 46, 10]⟩ : ByteArray)] : List ByteArray)) (inner := [.string (⟨#[104, 101, 108, 108, 111]⟩ : ByteArray), .string (⟨#[102, 114, 111, 109, 58, 32, 97, 110, 110, 10, 10, 104, 105]⟩ : ByteArray), .string (⟨#[115, 117, 98, 106, 101, 99, 116, 58, 32, 120, 10, 10, 98, 111, 100, 121, 32, 111, 102, 32, 105, 116, 10, 46, 100, 111, 116, 10]⟩ : ByteArray), .string (⟨#[]⟩ : ByteArray), .string (⟨#[120, 10, 46, 46, 10]⟩ : ByteArray)]) (ok := fun _ => True) (okp := fun _ => True) ?hr ?hp (fun _ hk => hk) trivial (Below.refl _ _) (Nat.le_refl _) (by simp) ?_; (case hd => rfl); (case hg => rfl); (case hr => first | (go_simp; done) | (go_simp; rfl)); (case hp => exact hpR); intro v409 w3 ho4 hb hg_ hnew_; clear hg_ hnew_; (first | rw [← Ny408.out] at ho4 | (simp only [Int.reduceToNat] at ho4; rw [← Ny408.out] at ho4)); replace HO410 := ak (Kd.R_lower ho4 (keep_size (w := w) (g := g) (row := none) (kT HK gN))); replace HK := ak (KeepBut.trans (kT HK gN) (KeepBut.of_below hb g none) (.inl rfl)); replace HB := ak (below_step (lT HB gN) hb); replace HI0 := ak (IsS134.below (IsS134.T_ HI0 nN) hb); clear hb ho4; obtain ⟨Ao5, co5, eo5⟩ := Kd.R_slice HO410.out; subst eo5) | ((with_reducible refine gate_callee (f := 71) rfl ?_); refine gl (some 5) Try.func71 #[.pointer (some ⟨g, 0, none⟩), .slice Ao5 y408.length co5] ?_; (with_reducible refine (spec_l01Pick.calls g s0_0 s0_1 s0_2 _ _ y408 t411 t412 t413 w0 _ ?side1 ?side2 ?side3 ?side4 ?side5 A2.out).mono ?_); (case side1 => exact IsS134.T_ HI0 nN); (case side2 => exact lT HB gN); (case side3 => exact cG (Kd.R_reads' HO410.out).2.2); (case side4 => exact (Kd.R_reads' HO410.out).2.1); (case side5 => exact far_slice (IsS134.own_ne HI0.out HO410.out (by decide))); rintro e w6 ⟨rfl, hi, hb, hk⟩; refine ⟨_, rfl, ?_⟩; replace HO410 := IsS134.kR hk (IsS134.T_ HI0 nN) (rG HO410); replace HK := ak (KeepBut.trans (kT HK gN) hk (.inl rfl)); replace HB := ak (hb); replace HI0 := ak (hi); (try clear hb); (try clear hk); (try clear hi)))
 go_ret
 exact ⟨ew, IsS134.T_ HI0 nN, lT HB gN, kT HK gN⟩
def spec_l06Rec.f (s0_0 : List Int) (s0_1 : Int) (s0_2 : Int) : Option (Int × Int × Int × Int × Int × ByteArray × ByteArray × ByteArray × Int × Int) := (spec_l01PickInt.f s0_0 s0_1 s0_2 (([1, 1, 2, 3, 3, 3, 3, 4, 4, 5, 5] : List Int))).bind fun bt418 => ((spec_l01Below.f s0_0 bt418.2.1 bt418.2.2 3).bind fun bt421 => (if bt418.1 = 1 then ((spec_l01Pick.f s0_0 bt421.2.1 bt421.2.2 (([(⟨#[97, 110, 110]⟩ : ByteArray), (⟨#[98, 111, 98]⟩ : ByteArray)] : List ByteArray))).bind fun bt428 => ((spec_l01Pick.f s0_0 bt428.2.1 bt428.2.2 (([(⟨#[105, 110, 98, 111, 120]⟩ : ByteArray), (⟨#[119, 111, 114, 107]⟩ : ByteArray)] : List ByteArray))).bind fun bt434 => ((spec_l01Below.f s0_0 bt434.2.1 bt434.2.2 6).bind fun bt437 => (some (bt418.1, wrap64 (1 + bt421.1), 0, wrap64 (1 + bt437.1), 0, bt428.1, bt434.1, (⟨#[]⟩ : ByteArray), bt437.2.1, bt437.2.2))))) else (if bt418.1 = 3 then ((spec_l01Below.f s0_0 bt421.2.1 bt421.2.2 5).bind fun bt440 => ((spec_l01Below.f s0_0 bt440.2.1 bt440.2.2 8).bind fun bt443 => ((spec_l06Text.f s0_0 bt443.2.1 bt443.2.2).bind fun bt446 => (some (bt418.1, wrap64 (1 + bt421.1), wrap64 (1 + bt440.1), 0, bt443.1, (⟨#[]⟩ : ByteArray), (⟨#[]⟩ : ByteArray), bt446.1, bt446.2.1, bt446.2.2))))) else (if bt418.1 = 4 then ((spec_l01Below.f s0_0 bt421.2.1 bt421.2.2 5).bind fun bt449 => ((spec_l01Below.f s0_0 bt449.2.1 bt449.2.2 8).bind fun bt452 => (some (bt418.1, wrap64 (1 + bt421.1), wrap64 (1 + bt449.1), 0, bt452.1, (⟨#[]⟩ : ByteArray), (⟨#[]⟩ : ByteArray), (⟨#[]⟩ : ByteArray), bt452.2.1, bt452.2.2)))) else (if bt418.1 = 5 then ((spec_l01Below.f s0_0 bt421.2.1 bt421.2.2 5).bind fun bt455 => (some (bt418.1, wrap64 (1 + bt421.1), wrap64 (1 + bt455.1), 0, 0, (⟨#[]⟩ : ByteArray), (⟨#[]⟩ : ByteArray), (⟨#[]⟩ : ByteArray), bt455.2.1, bt455.2.2))) else (some (bt418.1, wrap64 (1 + bt421.1), 0, 0, 0, (⟨#[]⟩ : ByteArray), (⟨#[]⟩ : ByteArray), (⟨#[]⟩ : ByteArray), bt421.2.1, bt421.2.2)))))))
theorem spec_l06Rec.calls (g : Nat) (s0_0 : List Int) (s0_1 : Int) (s0_2 : Int) (r1 : Int) (r2 : Int) (r3 : Int) (r4 : Int) (r5 : Int) (r6 : ByteArray) (r7 : ByteArray) (r8 : ByteArray) (r9 : Int) (r10 : Int) (w0 w : World) (hI : IsS134 w0 w g s0_0 s0_1 s0_2) (hB : Below w0.heap.size w0 w) (h : spec_l06Rec.f s0_0 s0_1 s0_2 = some (r1, r2, r3, r4, r5, r6, r7, r8, r9, r10)) :
  Calls Try.prog 99 #[.pointer (some ⟨g, 0, none⟩)] w fun e w' => e = .returned (.agg #[.int .i64 r1, .int .i64 r2, .int .i64 r3, .int .i64 r4, .int .i64 r5, .string r6, .string r7, .string r8]) ∧ IsS134 w0 w' g s0_0 r9 r10 ∧ Below w0.heap.size w0 w' ∧ KeepBut w w' g none := by
 have hu23 := Try.underlying23
 have HI0 := Aside0.mk hI
 have HK := ak (KeepBut.refl w g none)
 have HL := Aside0.mk hB.size
 clear hI
 have HW0 := Aside0.mk hB.size
 have HB := Aside0.mk hB
 clear hB
 have H := h
 clear h
 unfold spec_l06Rec.f at H
 obtain ⟨y415, hy415⟩ : ∃ y_ : List Int, y_ = (([1, 1, 2, 3, 3, 3, 3, 4, 4, 5, 5] : List Int)) := ⟨_, rfl⟩
 replace H : ((spec_l01PickInt.f s0_0 s0_1 s0_2 y415).bind fun bt418 => ((spec_l01Below.f s0_0 bt418.2.1 bt418.2.2 3).bind fun bt421 => (if bt418.1 = 1 then ((spec_l01Pick.f s0_0 bt421.2.1 bt421.2.2 (([(⟨#[97, 110, 110]⟩ : ByteArray), (⟨#[98, 111, 98]⟩ : ByteArray)] : List ByteArray))).bind fun bt428 => ((spec_l01Pick.f s0_0 bt428.2.1 bt428.2.2 (([(⟨#[105, 110, 98, 111, 120]⟩ : ByteArray), (⟨#[119, 111, 114, 107]⟩ : ByteArray)] : List ByteArray))).bind fun bt434 => ((spec_l01Below.f s0_0 bt434.2.1 bt434.2.2 6).bind fun bt437 => (some (bt418.1, wrap64 (1 + bt421.1), 0, wrap64 (1 + bt437.1), 0, bt428.1, bt434.1, (⟨#[]⟩ : ByteArray), bt437.2.1, bt437.2.2))))) else (if bt418.1 = 3 then ((spec_l01Below.f s0_0 bt421.2.1 bt421.2.2 5).bind fun bt440 => ((spec_l01Below.f s0_0 bt440.2.1 bt440.2.2 8).bind fun bt443 => ((spec_l06Text.f s0_0 bt443.2.1 bt443.2.2).bind fun bt446 => (some (bt418.1, wrap64 (1 + bt421.1), wrap64 (1 + bt440.1), 0, bt443.1, (⟨#[]⟩ : ByteArray), (⟨#[]⟩ : ByteArray), bt446.1, bt446.2.1, bt446.2.2))))) else (if bt418.1 = 4 then ((spec_l01Below.f s0_0 bt421.2.1 bt421.2.2 5).bind fun bt449 => ((spec_l01Below.f s0_0 bt449.2.1 bt449.2.2 8).bind fun bt452 => (some (bt418.1, wrap64 (1 + bt421.1), wrap64 (1 + bt449.1), 0, bt452.1, (⟨#[]⟩ : ByteArray), (⟨#[]⟩ : ByteArray), (⟨#[]⟩ : ByteArray), bt452.2.1, bt452.2.2)))) else (if bt418.1 = 5 then ((spec_l01Below.f s0_0 bt421.2.1 bt421.2.2 5).bind fun bt455 => (some (bt418.1, wrap64 (1 + bt421.1), wrap64 (1 + bt455.1), 0, 0, (⟨#[]⟩ : ByteArray), (⟨#[]⟩ : ByteArray), (⟨#[]⟩ : ByteArray), bt455.2.1, bt455.2.2))) else (some (bt418.1, wrap64 (1 + bt421.1), 0, 0, 0, (⟨#[]⟩ : ByteArray), (⟨#[]⟩ : ByteArray), (⟨#[]⟩ : ByteArray), bt421.2.1, bt421.2.2)))))))) = some (r1, r2, r3, r4, r5, r6, r7, r8, r9, r10) := by first | (rw [hy415]; with_reducible exact H) | (have H2_ := (Option.bind_some _ _).symm.trans H; rw [hy415]; with_reducible exact H2_) | (have H2_ := (Option.bind_some _ _).symm.trans H; with_reducible exact H2_) | with_reducible exact H | (rw [hy415]; exact H) | exact H
 have Ny415 := Aside0.mk hy415
 clear hy415
 obtain ⟨⟨t418, t419, t420⟩, A2, H⟩ := eb H
 try dsimp only at H
 have HS_ := Aside0.mk H
 clear H
 go_enter Try.func99, Try.ntmps99
 go_wp2_with (first | ((with_reducible refine gate_dst (N := 2) rfl ?_); refine b8 2 ?_; intro gb414 hg w8 hbox hb; replace HB := ak (below_step (lT HB gN) hb); replace BK414 := ak (hbox); replace GW414 := gW hg (kT HK gN); replace GE414 := gE HW0 GW414; replace HK := ak (KeepBut.trans (kT HK gN) (KeepBut.of_below hb g none) (.inl rfl)); replace NB0_414 := nS hg (IsS134.lt (IsS134.T_ HI0 nN)); replace NB414_0 := mS hg (IsS134.lt (IsS134.T_ HI0 nN)); replace HI0 := ak (IsS134.below (IsS134.T_ HI0 nN) hb); clear hb hbox hg) | ((with_reducible refine gate_dst (N := 5) rfl ?_); refine Kd.R_lit (Kd.int .i64) _ 3 ?hg (N := 5) ?hd (xs := ([1, 1, 2, 3, 3, 3, 3, 4, 4, 5, 5] : List Int)) (inner := [.int .i64 1, .int .i64 1, .int .i64 2, .int .i64 3, .int .i64 3, .int .i64 3, .int .i64 3, .int .i64 4, .int .i64 4, .int .i64 5, .int .i64 5]) (ok := fun _ => True) (okp := fun _ => True) ?hr ?hp (fun _ hk => hk) trivial (Below.refl _ _) (Nat.le_refl _) (by simp) ?_; (case hd => rfl); (case hg => rfl); (case hr => first | (go_simp; done) | (go_simp; rfl)); (case hp => exact hpR); intro v416 w9 ho10 hb hg_ hnew_; clear hg_ hnew_; (first | rw [← Ny415.out] at ho10 | (simp only [Int.reduceToNat] at ho10; rw [← Ny415.out] at ho10)); replace HO417 := ak (Kd.R_lower ho10 (keep_size (w := w) (g := g) (row := none) (kT HK (gC GW414 gN)))); replace BK414 := bB BK414 hb; replace HK := ak (KeepBut.trans (kT HK (gC GW414 gN)) (KeepBut.of_below hb g none) (.inl rfl)); replace HB := ak (below_step (lT HB (gC GE414 gN)) hb); replace HI0 := ak (IsS134.below (IsS134.T_ HI0 (nC NB0_414 nN)) hb); clear hb ho10; obtain ⟨Ao11, co11, eo11⟩ := Kd.R_slice HO417.out; subst eo11) | ((with_reducible refine gate_callee (f := 116) rfl ?_); refine gl (some 6) Try.func116 #[.pointer (some ⟨g, 0, none⟩), .slice Ao11 y415.length co11] ?_; (with_reducible refine (spec_l01PickInt.calls g s0_0 s0_1 s0_2 _ _ y415 _ _ _ w0 _ ?side1 ?side2 ?side3 ?side4 ?side5 A2.out).mono ?_); (case side1 => exact IsS134.T_ HI0 (nC NB0_414 nN)); (case side2 => exact lT HB (gC GE414 gN)); (case side3 => exact cG (Kd.R_reads' HO417.out).2.2); (case side4 => exact (Kd.R_reads' HO417.out).2.1); (case side5 => exact far_slice (IsS134.own_ne HI0.out HO417.out (by decide))); rintro e w12 ⟨rfl, hi, hb, hk⟩; refine ⟨_, rfl, ?_⟩; replace BK414 := kB hk (bG BK414) NB414_0; replace HO417 := IsS134.kR hk (IsS134.T_ HI0 (nC NB0_414 nN)) (rG HO417); replace HK := ak (KeepBut.trans (kT HK (gC GW414 gN)) hk (.inl rfl)); replace HB := ak (hb); replace HI0 := ak (hi); (try clear hb); (try clear hk); (try clear hi); refine Stop.out ?_))
 have H := HS_.out
 clear HS_
 obtain ⟨⟨t421, t422, t423⟩, A3, H⟩ := eb H
 try dsimp only at H
 have HS_ := Aside0.mk H
 clear H
 refine ⟨?_⟩
 go_wp2_with ((with_reducible refine gate_callee (f := 69) rfl ?_); refine gl (some 8) Try.func69 #[.pointer (some ⟨g, 0, none⟩), .int .i64 3] ?_; (with_reducible refine (spec_l01Below.calls g s0_0 t419 t420 3 _ _ _ w0 _ ?side1 ?side2 A3.out).mono ?_); (case side1 => exact IsS134.T_ HI0 (nC NB0_414 nN)); (case side2 => exact lT HB (gC GE414 gN)); rintro e w13 ⟨rfl, hi, hb, hk⟩; refine ⟨_, rfl, ?_⟩; replace BK414 := kB hk (bG BK414) NB414_0; replace HO417 := IsS134.kR hk (IsS134.T_ HI0 (nC NB0_414 nN)) (rG HO417); replace HK := ak (KeepBut.trans (kT HK (gC GW414 gN)) hk (.inl rfl)); replace HB := ak (hb); replace HI0 := ak (hi); (try clear hb); (try clear hk); (try clear hi); refine Stop.out ?_)
 have H := HS_.out
 clear HS_
 by_cases c4 : t418 = 1
 {
 rw [if_pos c4] at H
 have c4b0 := beq_iff_eq.mpr c4
 have c4b1 := bne_eq_false_iff_eq.mpr c4
 clear c4
 obtain ⟨y425, hy425⟩ : ∃ y_ : List ByteArray, y_ = (([(⟨#[97, 110, 110]⟩ : ByteArray), (⟨#[98, 111, 98]⟩ : ByteArray)] : List ByteArray)) := ⟨_, rfl⟩
 replace H : ((spec_l01Pick.f s0_0 t422 t423 y425).bind fun bt428 => ((spec_l01Pick.f s0_0 bt428.2.1 bt428.2.2 (([(⟨#[105, 110, 98, 111, 120]⟩ : ByteArray), (⟨#[119, 111, 114, 107]⟩ : ByteArray)] : List ByteArray))).bind fun bt434 => ((spec_l01Below.f s0_0 bt434.2.1 bt434.2.2 6).bind fun bt437 => (some (t418, wrap64 (1 + t421), 0, wrap64 (1 + bt437.1), 0, bt428.1, bt434.1, (⟨#[]⟩ : ByteArray), bt437.2.1, bt437.2.2))))) = some (r1, r2, r3, r4, r5, r6, r7, r8, r9, r10) := by first | (rw [hy425]; with_reducible exact H) | (have H2_ := (Option.bind_some _ _).symm.trans H; rw [hy425]; with_reducible exact H2_) | (have H2_ := (Option.bind_some _ _).symm.trans H; with_reducible exact H2_) | with_reducible exact H | (rw [hy425]; exact H) | exact H
 have Ny425 := Aside0.mk hy425
 clear hy425
 obtain ⟨⟨t428, t429, t430⟩, A5, H⟩ := eb H
 try dsimp only at H
 obtain ⟨y431, hy431⟩ : ∃ y_ : List ByteArray, y_ = (([(⟨#[105, 110, 98, 111, 120]⟩ : ByteArray), (⟨#[119, 111, 114, 107]⟩ : ByteArray)] : List ByteArray)) := ⟨_, rfl⟩
 replace H : ((spec_l01Pick.f s0_0 t429 t430 y431).bind fun bt434 => ((spec_l01Below.f s0_0 bt434.2.1 bt434.2.2 6).bind fun bt437 => (some (t418, wrap64 (1 + t421), 0, wrap64 (1 + bt437.1), 0, t428, bt434.1, (⟨#[]⟩ : ByteArray), bt437.2.1, bt437.2.2)))) = some (r1, r2, r3, r4, r5, r6, r7, r8, r9, r10) := by first | (rw [hy431]; with_reducible exact H) | (have H2_ := (Option.bind_some _ _).symm.trans H; rw [hy431]; with_reducible exact H2_) | (have H2_ := (Option.bind_some _ _).symm.trans H; with_reducible exact H2_) | with_reducible exact H | (rw [hy431]; exact H) | exact H
 have Ny431 := Aside0.mk hy431
 clear hy431
 obtain ⟨⟨t434, t435, t436⟩, A6, H⟩ := eb H
 try dsimp only at H
 obtain ⟨⟨t437, t438, t439⟩, A7, H⟩ := eb H
 try dsimp only at H
 simp only [Option.some.injEq, Prod.mk.injEq] at H
 obtain ⟨rfl, rfl, rfl, rfl, rfl, rfl, rfl, rfl, rfl, rfl⟩ := H
 refine ⟨?_⟩
 go_wp2_with (first | ((with_reducible refine gate_dst (N := 3) rfl ?_); refine b8 3 ?_; intro gb424 hg w14 hbox hb; replace HO417 := rB HO417 hb; replace HB := ak (below_step (lT HB (gC GE414 gN)) hb); replace BK424 := ak (hbox); replace GW424 := gW hg (kT HK (gC GW414 gN)); replace GE424 := gE HW0 GW424; replace HK := ak (KeepBut.trans (kT HK (gC GW414 gN)) (KeepBut.of_below hb g none) (.inl rfl)); replace NB414_424 := ak (nl hg (bG BK414)); replace NB424_414 := ak (ng hg (bG BK414)); replace BK414 := bB BK414 hb; replace NB0_424 := nS hg (IsS134.lt (IsS134.T_ HI0 (nC NB0_414 nN))); replace NB424_0 := mS hg (IsS134.lt (IsS134.T_ HI0 (nC NB0_414 nN))); replace HI0 := ak (IsS134.below (IsS134.T_ HI0 (nC NB0_414 nN)) hb); clear hb hbox hg; have hnb15 := NB424_414.out; have hnc15 := NB414_424.out; have hnb16 := NB424_0.out; have hnc16 := NB0_424.out; obtain ⟨_, _, _, _, _, _, _, _, _, _, _, _, _, _, _, _⟩ := bC8 BK424) | ((with_reducible refine gate_dst (N := 16) rfl ?_); refine Kd.R_lit Kd.string _ 9 ?hg (N := 16) ?hd (xs := ([(⟨#[97, 110, 110]⟩ : ByteArray), (⟨#[98, 111, 98]⟩ : ByteArray)] : List ByteArray)) (inner := [.string (⟨#[97, 110, 110]⟩ : ByteArray), .string (⟨#[98, 111, 98]⟩ : ByteArray)]) (ok := fun _ => True) (okp := fun _ => True) ?hr ?hp (fun _ hk => hk) trivial (Below.refl _ _) (Nat.le_refl _) (by simp) ?_; (case hd => rfl); (case hg => rfl); (case hr => first | (go_simp; done) | (go_simp; rfl)); (case hp => exact hpR); intro v426 w18 ho19 hb hg_ hnew_; clear hg_ hnew_; (first | rw [← Ny425.out] at ho19 | (simp only [Int.reduceToNat] at ho19; rw [← Ny425.out] at ho19)); replace HO417 := ak (Kd.R_below (rT HO417 BK424 (by decide)) hb); replace HO427 := ak (Kd.R_lower ho19 (keep_size (w := w) (g := g) (row := none) (kT HK (gC GW414 (gC GW424 gN))))); replace BK414 := ak (blk_below (bT BK414 (nC NB414_424 nN)) hb); replace BK424 := ak (blk_below (g := gb424) (o := .cells #[.int .i64 t418, .int .i64 (wrap64 (1 + t421)), .int .i64 0, .int .i64 0, .int .i64 0, .string (⟨#[]⟩ : ByteArray), .string (⟨#[]⟩ : ByteArray), .string (⟨#[]⟩ : ByteArray)] 23 (0, 0)) (bW BK424) hb); replace HK := ak (KeepBut.trans (kT HK (gC GW414 (gC GW424 gN))) (KeepBut.of_below hb g none) (.inl rfl)); replace HB := ak (below_step (lT HB (gC GE414 (gC GE424 gN))) hb); replace HI0 := ak (IsS134.below (IsS134.T_ HI0 (nC NB0_414 (nC NB0_424 nN))) hb); clear hb ho19; obtain ⟨Ao20, co20, eo20⟩ := Kd.R_slice HO427.out; subst eo20) | ((with_reducible refine gate_callee (f := 71) rfl ?_); refine gl (some 17) Try.func71 #[.pointer (some ⟨g, 0, none⟩), .slice Ao20 y425.length co20] ?_; (with_reducible refine (spec_l01Pick.calls g s0_0 t422 t423 _ _ y425 t428 t429 t430 w0 _ ?side1 ?side2 ?side3 ?side4 ?side5 A5.out).mono ?_); (case side1 => exact IsS134.T_ HI0 (nC NB0_414 (nC NB0_424 nN))); (case side2 => exact lT HB (gC GE414 (gC GE424 gN))); (case side3 => exact cG (Kd.R_reads' HO427.out).2.2); (case side4 => exact (Kd.R_reads' HO427.out).2.1); (case side5 => exact far_slice (IsS134.own_ne HI0.out HO427.out (by decide))); rintro e w21 ⟨rfl, hi, hb, hk⟩; refine ⟨_, rfl, ?_⟩; replace BK414 := kB hk (bG BK414) NB414_0; replace HO417 := IsS134.kR hk (IsS134.T_ HI0 (nC NB0_414 (nC NB0_424 nN))) (rG HO417); replace BK424 := kB hk (bG BK424) NB424_0; replace HO427 := IsS134.kR hk (IsS134.T_ HI0 (nC NB0_414 (nC NB0_424 nN))) (rG HO427); replace HK := ak (KeepBut.trans (kT HK (gC GW414 (gC GW424 gN))) hk (.inl rfl)); replace HB := ak (hb); replace HI0 := ak (hi); (try clear hb); (try clear hk); (try clear hi); obtain ⟨_, _, _, _, _, _, _, _, _, _, _, _, _, _, _, _⟩ := bC8 BK424) | ((with_reducible refine gate_dst (N := 20) rfl ?_); refine Kd.R_lit Kd.string _ 9 ?hg (N := 20) ?hd (xs := ([(⟨#[105, 110, 98, 111, 120]⟩ : ByteArray), (⟨#[119, 111, 114, 107]⟩ : ByteArray)] : List ByteArray)) (inner := [.string (⟨#[105, 110, 98, 111, 120]⟩ : ByteArray), .string (⟨#[119, 111, 114, 107]⟩ : ByteArray)]) (ok := fun _ => True) (okp := fun _ => True) ?hr ?hp (fun _ hk => hk) trivial (Below.refl _ _) (Nat.le_refl _) (by simp) ?_; (case hd => rfl); (case hg => rfl); (case hr => first | (go_simp; done) | (go_simp; rfl)); (case hp => exact hpR); intro v432 w23 ho24 hb hg_ hnew_; clear hg_ hnew_; (first | rw [← Ny431.out] at ho24 | (simp only [Int.reduceToNat] at ho24; rw [← Ny431.out] at ho24)); replace HO417 := ak (Kd.R_below (rT HO417 BK424 (by decide)) hb); replace HO433 := ak (Kd.R_lower (Kd.R_new' ho24 (Kd.R_lt (rT HO427 BK424 (by decide)))) (keep_size (w := w) (g := g) (row := none) (kT HK (gC GW414 (gC GW424 gN))))); replace HO427 := ak (Kd.R_elder' (rT HO427 BK424 (by decide)) (Kd.R_base ho24) hb); replace BK414 := ak (blk_below (bT BK414 (nC NB414_424 nN)) hb); replace BK424 := ak (blk_below (g := gb424) (o := .cells #[.int .i64 t418, .int .i64 (wrap64 (1 + t421)), .int .i64 0, .int .i64 0, .int .i64 0, .string t428, .string (⟨#[]⟩ : ByteArray), .string (⟨#[]⟩ : ByteArray)] 23 (0, 0)) (bW BK424) hb); replace HK := ak (KeepBut.trans (kT HK (gC GW414 (gC GW424 gN))) (KeepBut.of_below hb g none) (.inl rfl)); replace HB := ak (below_step (lT HB (gC GE414 (gC GE424 gN))) hb); replace HI0 := ak (IsS134.below (IsS134.T_ HI0 (nC NB0_414 (nC NB0_424 nN))) hb); clear hb ho24; obtain ⟨Ao25, co25, eo25⟩ := Kd.R_slice HO433.out; subst eo25) | ((with_reducible refine gate_callee (f := 71) rfl ?_); refine gl (some 21) Try.func71 #[.pointer (some ⟨g, 0, none⟩), .slice Ao25 y431.length co25] ?_; (with_reducible refine (spec_l01Pick.calls g s0_0 t429 t430 _ _ y431 t434 t435 t436 w0 _ ?side1 ?side2 ?side3 ?side4 ?side5 A6.out).mono ?_); (case side1 => exact IsS134.T_ HI0 (nC NB0_414 (nC NB0_424 nN))); (case side2 => exact lT HB (gC GE414 (gC GE424 gN))); (case side3 => exact cG (Kd.R_reads' HO433.out).2.2); (case side4 => exact (Kd.R_reads' HO433.out).2.1); (case side5 => exact far_slice (IsS134.own_ne HI0.out HO433.out (by decide))); rintro e w26 ⟨rfl, hi, hb, hk⟩; refine ⟨_, rfl, ?_⟩; replace BK414 := kB hk (bG BK414) NB414_0; replace HO417 := IsS134.kR hk (IsS134.T_ HI0 (nC NB0_414 (nC NB0_424 nN))) (rG HO417); replace BK424 := kB hk (bG BK424) NB424_0; replace HO427 := IsS134.kR hk (IsS134.T_ HI0 (nC NB0_414 (nC NB0_424 nN))) (rG HO427); replace HO433 := IsS134.kR hk (IsS134.T_ HI0 (nC NB0_414 (nC NB0_424 nN))) (rG HO433); replace HK := ak (KeepBut.trans (kT HK (gC GW414 (gC GW424 gN))) hk (.inl rfl)); replace HB := ak (hb); replace HI0 := ak (hi); (try clear hb); (try clear hk); (try clear hi); obtain ⟨_, _, _, _, _, _, _, _, _, _, _, _, _, _, _, _⟩ := bC8 BK424) | ((with_reducible refine gate_callee (f := 69) rfl ?_); refine gl (some 24) Try.func69 #[.pointer (some ⟨g, 0, none⟩), .int .i64 6] ?_; (with_reducible refine (spec_l01Below.calls g s0_0 t435 t436 6 t437 t438 t439 w0 _ ?side1 ?side2 A7.out).mono ?_); (case side1 => exact IsS134.T_ HI0 (nC NB0_414 (nC NB0_424 nN))); (case side2 => exact lT HB (gC GE414 (gC GE424 gN))); rintro e w28 ⟨rfl, hi, hb, hk⟩; refine ⟨_, rfl, ?_⟩; replace BK414 := kB hk (bT BK414 (nC NB414_424 nN)) NB414_0; replace HO417 := IsS134.kR hk (IsS134.T_ HI0 (nC NB0_414 (nC NB0_424 nN))) (rT HO417 BK424 (by decide)); replace HO427 := IsS134.kR hk (IsS134.T_ HI0 (nC NB0_414 (nC NB0_424 nN))) (rT HO427 BK424 (by decide)); replace HO433 := IsS134.kR hk (IsS134.T_ HI0 (nC NB0_414 (nC NB0_424 nN))) (rT HO433 BK424 (by decide)); replace BK424 := ak (KeepBut.blk hk (g' := gb424) (o := .cells #[.int .i64 t418, .int .i64 (wrap64 (1 + t421)), .int .i64 0, .int .i64 0, .int .i64 0, .string t428, .string t434, .string (⟨#[]⟩ : ByteArray)] 23 (0, 0)) (bW BK424) NB424_0.out (by simp)); replace HK := ak (KeepBut.trans (kT HK (gC GW414 (gC GW424 gN))) hk (.inl rfl)); replace HB := ak (hb); replace HI0 := ak (hi); (try clear hb); (try clear hk); (try clear hi); obtain ⟨_, _, _, _, _, _, _, _, _, _, _, _, _, _, _, _⟩ := bC8 BK424; have hnb30 := NB414_0.out; have hnc30 := NB0_414.out; obtain ⟨_, _, _, _, _, _, _, _, _, _, _, _, _, _, _, _⟩ := bC8 BK414))
 refine bodyPost_ret (results_cell_row rfl _ _ gb414 23 #[.int .i64 t418, .int .i64 (wrap64 (1 + t421)), .int .i64 0, .int .i64 (wrap64 (1 + t437)), .int .i64 0, .string t428, .string t434, .string (⟨#[]⟩ : ByteArray)] (0, 0) _ rfl (bF BK414 (nC NB414_424 nN)) Try.underlying23 rfl (by kernel_rfl)) rfl ?_
 exact ⟨ew, IsS134.T_ HI0 (nC NB0_414 (nC NB0_424 nN)), lT HB (gC GE414 (gC GE424 gN)), kT HK (gC GW414 (gC GW424 gN))⟩
 }
 {
 rw [if_neg c4] at H
 have c4b0 := beq_eq_false_iff_ne.mpr c4
 have c4b1 := bne_iff_ne.mpr c4
 by_cases c32 : t418 = 3
 {
 rw [if_pos c32] at H
 have c32b0 := beq_iff_eq.mpr c32
 have c32b1 := bne_eq_false_iff_eq.mpr c32
 clear c32
 obtain ⟨⟨t440, t441, t442⟩, A33, H⟩ := eb H
 try dsimp only at H
 obtain ⟨⟨t443, t444, t445⟩, A34, H⟩ := eb H
 try dsimp only at H
 obtain ⟨⟨t446, t447, t448⟩, A35, H⟩ := eb H
 try dsimp only at H
 simp only [Option.some.injEq, Prod.mk.injEq] at H
 obtain ⟨rfl, rfl, rfl, rfl, rfl, rfl, rfl, rfl, rfl, rfl⟩ := H
 refine ⟨?_⟩
 go_wp2_with (first | ((with_reducible refine gate_dst (N := 3) rfl ?_); refine b8 3 ?_; intro gb424 hg w42 hbox hb; replace HO417 := rB HO417 hb; replace HB := ak (below_step (lT HB (gC GE414 gN)) hb); replace BK424 := ak (hbox); replace GW424 := gW hg (kT HK (gC GW414 gN)); replace GE424 := gE HW0 GW424; replace HK := ak (KeepBut.trans (kT HK (gC GW414 gN)) (KeepBut.of_below hb g none) (.inl rfl)); replace NB414_424 := ak (nl hg (bG BK414)); replace NB424_414 := ak (ng hg (bG BK414)); replace BK414 := bB BK414 hb; replace NB0_424 := nS hg (IsS134.lt (IsS134.T_ HI0 (nC NB0_414 nN))); replace NB424_0 := mS hg (IsS134.lt (IsS134.T_ HI0 (nC NB0_414 nN))); replace HI0 := ak (IsS134.below (IsS134.T_ HI0 (nC NB0_414 nN)) hb); clear hb hbox hg; have hnb43 := NB424_414.out; have hnc43 := NB414_424.out; have hnb44 := NB424_0.out; have hnc44 := NB0_424.out; obtain ⟨_, _, _, _, _, _, _, _, _, _, _, _, _, _, _, _⟩ := bC8 BK424) | ((with_reducible refine gate_callee (f := 69) rfl ?_); refine gl (some 30) Try.func69 #[.pointer (some ⟨g, 0, none⟩), .int .i64 5] ?_; (with_reducible refine (spec_l01Below.calls g s0_0 t422 t423 5 t440 t441 t442 w0 _ ?side1 ?side2 A33.out).mono ?_); (case side1 => exact IsS134.T_ HI0 (nC NB0_414 (nC NB0_424 nN))); (case side2 => exact lT HB (gC GE414 (gC GE424 gN))); rintro e w46 ⟨rfl, hi, hb, hk⟩; refine ⟨_, rfl, ?_⟩; replace BK414 := kB hk (bT BK414 (nC NB414_424 nN)) NB414_0; replace HO417 := IsS134.kR hk (IsS134.T_ HI0 (nC NB0_414 (nC NB0_424 nN))) (rT HO417 BK424 (by decide)); replace BK424 := ak (KeepBut.blk hk (g' := gb424) (o := .cells #[.int .i64 t418, .int .i64 (wrap64 (1 + t421)), .int .i64 0, .int .i64 0, .int .i64 0, .string (⟨#[]⟩ : ByteArray), .string (⟨#[]⟩ : ByteArray), .string (⟨#[]⟩ : ByteArray)] 23 (0, 0)) (bW BK424) NB424_0.out (by simp)); replace HK := ak (KeepBut.trans (kT HK (gC GW414 (gC GW424 gN))) hk (.inl rfl)); replace HB := ak (hb); replace HI0 := ak (hi); (try clear hb); (try clear hk); (try clear hi); obtain ⟨_, _, _, _, _, _, _, _, _, _, _, _, _, _, _, _⟩ := bC8 BK424) | ((with_reducible refine gate_callee (f := 69) rfl ?_); refine gl (some 34) Try.func69 #[.pointer (some ⟨g, 0, none⟩), .int .i64 8] ?_; (with_reducible refine (spec_l01Below.calls g s0_0 t441 t442 8 t443 t444 t445 w0 _ ?side1 ?side2 A34.out).mono ?_); (case side1 => exact IsS134.T_ HI0 (nC NB0_414 (nC NB0_424 nN))); (case side2 => exact lT HB (gC GE414 (gC GE424 gN))); rintro e w48 ⟨rfl, hi, hb, hk⟩; refine ⟨_, rfl, ?_⟩; replace BK414 := kB hk (bT BK414 (nC NB414_424 nN)) NB414_0; replace HO417 := IsS134.kR hk (IsS134.T_ HI0 (nC NB0_414 (nC NB0_424 nN))) (rT HO417 BK424 (by decide)); replace BK424 := ak (KeepBut.blk hk (g' := gb424) (o := .cells #[.int .i64 t418, .int .i64 (wrap64 (1 + t421)), .int .i64 (wrap64 (1 + t440)), .int .i64 0, .int .i64 0, .string (⟨#[]⟩ : ByteArray), .string (⟨#[]⟩ : ByteArray), .string (⟨#[]⟩ : ByteArray)] 23 (0, 0)) (bW BK424) NB424_0.out (by simp)); replace HK := ak (KeepBut.trans (kT HK (gC GW414 (gC GW424 gN))) hk (.inl rfl)); replace HB := ak (hb); replace HI0 := ak (hi); (try clear hb); (try clear hk); (try clear hi); obtain ⟨_, _, _, _, _, _, _, _, _, _, _, _, _, _, _, _⟩ := bC8 BK424) | ((with_reducible refine gate_callee (f := 117) rfl ?_); refine gl (some 37) Try.func117 #[.pointer (some ⟨g, 0, none⟩)] ?_; (with_reducible refine (spec_l06Text.calls g s0_0 t444 t445 t446 t447 t448 w0 _ ?side1 ?side2 A35.out).mono ?_); (case side1 => exact IsS134.T_ HI0 (nC NB0_414 (nC NB0_424 nN))); (case side2 => exact lT HB (gC GE414 (gC GE424 gN))); rintro e w50 ⟨rfl, hi, hb, hk⟩; refine ⟨_, rfl, ?_⟩; replace BK414 := kB hk (bT BK414 (nC NB414_424 nN)) NB414_0; replace HO417 := IsS134.kR hk (IsS134.T_ HI0 (nC NB0_414 (nC NB0_424 nN))) (rT HO417 BK424 (by decide)); replace BK424 := ak (KeepBut.blk hk (g' := gb424) (o := .cells #[.int .i64 t418, .int .i64 (wrap64 (1 + t421)), .int .i64 (wrap64 (1 + t440)), .int .i64 0, .int .i64 t443, .string (⟨#[]⟩ : ByteArray), .string (⟨#[]⟩ : ByteArray), .string (⟨#[]⟩ : ByteArray)] 23 (0, 0)) (bW BK424) NB424_0.out (by simp)); replace HK := ak (KeepBut.trans (kT HK (gC GW414 (gC GW424 gN))) hk (.inl rfl)); replace HB := ak (hb); replace HI0 := ak (hi); (try clear hb); (try clear hk); (try clear hi); obtain ⟨_, _, _, _, _, _, _, _, _, _, _, _, _, _, _, _⟩ := bC8 BK424; have hnb52 := NB414_0.out; have hnc52 := NB0_414.out; obtain ⟨_, _, _, _, _, _, _, _, _, _, _, _, _, _, _, _⟩ := bC8 BK414))
 refine bodyPost_ret (results_cell_row rfl _ _ gb414 23 #[.int .i64 t418, .int .i64 (wrap64 (1 + t421)), .int .i64 (wrap64 (1 + t440)), .int .i64 0, .int .i64 t443, .string (⟨#[]⟩ : ByteArray), .string (⟨#[]⟩ : ByteArray), .string t446] (0, 0) _ rfl (bF BK414 (nC NB414_424 nN)) Try.underlying23 rfl (by kernel_rfl)) rfl ?_
 exact ⟨ew, IsS134.T_ HI0 (nC NB0_414 (nC NB0_424 nN)), lT HB (gC GE414 (gC GE424 gN)), kT HK (gC GW414 (gC GW424 gN))⟩
 }
 {
 rw [if_neg c32] at H
 have c32b0 := beq_eq_false_iff_ne.mpr c32
 have c32b1 := bne_iff_ne.mpr c32
 by_cases c54 : t418 = 4
 {
 rw [if_pos c54] at H
 have c54b0 := beq_iff_eq.mpr c54
 have c54b1 := bne_eq_false_iff_eq.mpr c54
 clear c54
 obtain ⟨⟨t449, t450, t451⟩, A55, H⟩ := eb H
 try dsimp only at H
 obtain ⟨⟨t452, t453, t454⟩, A56, H⟩ := eb H
 try dsimp only at H
 simp only [Option.some.injEq, Prod.mk.injEq] at H
 obtain ⟨rfl, rfl, rfl, rfl, rfl, rfl, rfl, rfl, rfl, rfl⟩ := H
 refine ⟨?_⟩
 go_wp2_with (first | ((with_reducible refine gate_dst (N := 3) rfl ?_); refine b8 3 ?_; intro gb424 hg w63 hbox hb; replace HO417 := rB HO417 hb; replace HB := ak (below_step (lT HB (gC GE414 gN)) hb); replace BK424 := ak (hbox); replace GW424 := gW hg (kT HK (gC GW414 gN)); replace GE424 := gE HW0 GW424; replace HK := ak (KeepBut.trans (kT HK (gC GW414 gN)) (KeepBut.of_below hb g none) (.inl rfl)); replace NB414_424 := ak (nl hg (bG BK414)); replace NB424_414 := ak (ng hg (bG BK414)); replace BK414 := bB BK414 hb; replace NB0_424 := nS hg (IsS134.lt (IsS134.T_ HI0 (nC NB0_414 nN))); replace NB424_0 := mS hg (IsS134.lt (IsS134.T_ HI0 (nC NB0_414 nN))); replace HI0 := ak (IsS134.below (IsS134.T_ HI0 (nC NB0_414 nN)) hb); clear hb hbox hg; have hnb64 := NB424_414.out; have hnc64 := NB414_424.out; have hnb65 := NB424_0.out; have hnc65 := NB0_424.out; obtain ⟨_, _, _, _, _, _, _, _, _, _, _, _, _, _, _, _⟩ := bC8 BK424) | ((with_reducible refine gate_callee (f := 69) rfl ?_); refine gl (some 42) Try.func69 #[.pointer (some ⟨g, 0, none⟩), .int .i64 5] ?_; (with_reducible refine (spec_l01Below.calls g s0_0 t422 t423 5 t449 t450 t451 w0 _ ?side1 ?side2 A55.out).mono ?_); (case side1 => exact IsS134.T_ HI0 (nC NB0_414 (nC NB0_424 nN))); (case side2 => exact lT HB (gC GE414 (gC GE424 gN))); rintro e w67 ⟨rfl, hi, hb, hk⟩; refine ⟨_, rfl, ?_⟩; replace BK414 := kB hk (bT BK414 (nC NB414_424 nN)) NB414_0; replace HO417 := IsS134.kR hk (IsS134.T_ HI0 (nC NB0_414 (nC NB0_424 nN))) (rT HO417 BK424 (by decide)); replace BK424 := ak (KeepBut.blk hk (g' := gb424) (o := .cells #[.int .i64 t418, .int .i64 (wrap64 (1 + t421)), .int .i64 0, .int .i64 0, .int .i64 0, .string (⟨#[]⟩ : ByteArray), .string (⟨#[]⟩ : ByteArray), .string (⟨#[]⟩ : ByteArray)] 23 (0, 0)) (bW BK424) NB424_0.out (by simp)); replace HK := ak (KeepBut.trans (kT HK (gC GW414 (gC GW424 gN))) hk (.inl rfl)); replace HB := ak (hb); replace HI0 := ak (hi); (try clear hb); (try clear hk); (try clear hi); obtain ⟨_, _, _, _, _, _, _, _, _, _, _, _, _, _, _, _⟩ := bC8 BK424) | ((with_reducible refine gate_callee (f := 69) rfl ?_); refine gl (some 46) Try.func69 #[.pointer (some ⟨g, 0, none⟩), .int .i64 8] ?_; (with_reducible refine (spec_l01Below.calls g s0_0 t450 t451 8 t452 t453 t454 w0 _ ?side1 ?side2 A56.out).mono ?_); (case side1 => exact IsS134.T_ HI0 (nC NB0_414 (nC NB0_424 nN))); (case side2 => exact lT HB (gC GE414 (gC GE424 gN))); rintro e w69 ⟨rfl, hi, hb, hk⟩; refine ⟨_, rfl, ?_⟩; replace BK414 := kB hk (bT BK414 (nC NB414_424 nN)) NB414_0; replace HO417 := IsS134.kR hk (IsS134.T_ HI0 (nC NB0_414 (nC NB0_424 nN))) (rT HO417 BK424 (by decide)); replace BK424 := ak (KeepBut.blk hk (g' := gb424) (o := .cells #[.int .i64 t418, .int .i64 (wrap64 (1 + t421)), .int .i64 (wrap64 (1 + t449)), .int .i64 0, .int .i64 0, .string (⟨#[]⟩ : ByteArray), .string (⟨#[]⟩ : ByteArray), .string (⟨#[]⟩ : ByteArray)] 23 (0, 0)) (bW BK424) NB424_0.out (by simp)); replace HK := ak (KeepBut.trans (kT HK (gC GW414 (gC GW424 gN))) hk (.inl rfl)); replace HB := ak (hb); replace HI0 := ak (hi); (try clear hb); (try clear hk); (try clear hi); obtain ⟨_, _, _, _, _, _, _, _, _, _, _, _, _, _, _, _⟩ := bC8 BK424; have hnb71 := NB414_0.out; have hnc71 := NB0_414.out; obtain ⟨_, _, _, _, _, _, _, _, _, _, _, _, _, _, _, _⟩ := bC8 BK414))
 refine bodyPost_ret (results_cell_row rfl _ _ gb414 23 #[.int .i64 t418, .int .i64 (wrap64 (1 + t421)), .int .i64 (wrap64 (1 + t449)), .int .i64 0, .int .i64 t452, .string (⟨#[]⟩ : ByteArray), .string (⟨#[]⟩ : ByteArray), .string (⟨#[]⟩ : ByteArray)] (0, 0) _ rfl (bF BK414 (nC NB414_424 nN)) Try.underlying23 rfl (by kernel_rfl)) rfl ?_
 exact ⟨ew, IsS134.T_ HI0 (nC NB0_414 (nC NB0_424 nN)), lT HB (gC GE414 (gC GE424 gN)), kT HK (gC GW414 (gC GW424 gN))⟩
 }
 {
 rw [if_neg c54] at H
 have c54b0 := beq_eq_false_iff_ne.mpr c54
 have c54b1 := bne_iff_ne.mpr c54
 by_cases c73 : t418 = 5
 {
 rw [if_pos c73] at H
 have c73b0 := beq_iff_eq.mpr c73
 have c73b1 := bne_eq_false_iff_eq.mpr c73
 clear c73
 obtain ⟨⟨t455, t456, t457⟩, A74, H⟩ := eb H
 try dsimp only at H
 simp only [Option.some.injEq, Prod.mk.injEq] at H
 obtain ⟨rfl, rfl, rfl, rfl, rfl, rfl, rfl, rfl, rfl, rfl⟩ := H
 refine ⟨?_⟩
 go_wp2_with (first | ((with_reducible refine gate_dst (N := 3) rfl ?_); refine b8 3 ?_; intro gb424 hg w81 hbox hb; replace HO417 := rB HO417 hb; replace HB := ak (below_step (lT HB (gC GE414 gN)) hb); replace BK424 := ak (hbox); replace GW424 := gW hg (kT HK (gC GW414 gN)); replace GE424 := gE HW0 GW424; replace HK := ak (KeepBut.trans (kT HK (gC GW414 gN)) (KeepBut.of_below hb g none) (.inl rfl)); replace NB414_424 := ak (nl hg (bG BK414)); replace NB424_414 := ak (ng hg (bG BK414)); replace BK414 := bB BK414 hb; replace NB0_424 := nS hg (IsS134.lt (IsS134.T_ HI0 (nC NB0_414 nN))); replace NB424_0 := mS hg (IsS134.lt (IsS134.T_ HI0 (nC NB0_414 nN))); replace HI0 := ak (IsS134.below (IsS134.T_ HI0 (nC NB0_414 nN)) hb); clear hb hbox hg; have hnb82 := NB424_414.out; have hnc82 := NB414_424.out; have hnb83 := NB424_0.out; have hnc83 := NB0_424.out; obtain ⟨_, _, _, _, _, _, _, _, _, _, _, _, _, _, _, _⟩ := bC8 BK424) | ((with_reducible refine gate_callee (f := 69) rfl ?_); refine gl (some 51) Try.func69 #[.pointer (some ⟨g, 0, none⟩), .int .i64 5] ?_; (with_reducible refine (spec_l01Below.calls g s0_0 t422 t423 5 t455 t456 t457 w0 _ ?side1 ?side2 A74.out).mono ?_); (case side1 => exact IsS134.T_ HI0 (nC NB0_414 (nC NB0_424 nN))); (case side2 => exact lT HB (gC GE414 (gC GE424 gN))); rintro e w85 ⟨rfl, hi, hb, hk⟩; refine ⟨_, rfl, ?_⟩; replace BK414 := kB hk (bT BK414 (nC NB414_424 nN)) NB414_0; replace HO417 := IsS134.kR hk (IsS134.T_ HI0 (nC NB0_414 (nC NB0_424 nN))) (rT HO417 BK424 (by decide)); replace BK424 := ak (KeepBut.blk hk (g' := gb424) (o := .cells #[.int .i64 t418, .int .i64 (wrap64 (1 + t421)), .int .i64 0, .int .i64 0, .int .i64 0, .string (⟨#[]⟩ : ByteArray), .string (⟨#[]⟩ : ByteArray), .string (⟨#[]⟩ : ByteArray)] 23 (0, 0)) (bW BK424) NB424_0.out (by simp)); replace HK := ak (KeepBut.trans (kT HK (gC GW414 (gC GW424 gN))) hk (.inl rfl)); replace HB := ak (hb); replace HI0 := ak (hi); (try clear hb); (try clear hk); (try clear hi); obtain ⟨_, _, _, _, _, _, _, _, _, _, _, _, _, _, _, _⟩ := bC8 BK424; have hnb87 := NB414_0.out; have hnc87 := NB0_414.out; obtain ⟨_, _, _, _, _, _, _, _, _, _, _, _, _, _, _, _⟩ := bC8 BK414))
 refine bodyPost_ret (results_cell_row rfl _ _ gb414 23 #[.int .i64 t418, .int .i64 (wrap64 (1 + t421)), .int .i64 (wrap64 (1 + t455)), .int .i64 0, .int .i64 0, .string (⟨#[]⟩ : ByteArray), .string (⟨#[]⟩ : ByteArray), .string (⟨#[]⟩ : ByteArray)] (0, 0) _ rfl (bF BK414 (nC NB414_424 nN)) Try.underlying23 rfl (by kernel_rfl)) rfl ?_
 exact ⟨ew, IsS134.T_ HI0 (nC NB0_414 (nC NB0_424 nN)), lT HB (gC GE414 (gC GE424 gN)), kT HK (gC GW414 (gC GW424 gN))⟩
 }
 {
 rw [if_neg c73] at H
 have c73b0 := beq_eq_false_iff_ne.mpr c73
 have c73b1 := bne_iff_ne.mpr c73
 simp only [Option.some.injEq, Prod.mk.injEq] at H
 obtain ⟨rfl, rfl, rfl, rfl, rfl, rfl, rfl, rfl, rfl, rfl⟩ := H
 refine ⟨?_⟩
 go_wp2_with ((with_reducible refine gate_dst (N := 3) rfl ?_); refine b8 3 ?_; intro gb424 hg w95 hbox hb; replace HO417 := rB HO417 hb; replace HB := ak (below_step (lT HB (gC GE414 gN)) hb); replace BK424 := ak (hbox); replace GW424 := gW hg (kT HK (gC GW414 gN)); replace GE424 := gE HW0 GW424; replace HK := ak (KeepBut.trans (kT HK (gC GW414 gN)) (KeepBut.of_below hb g none) (.inl rfl)); replace NB414_424 := ak (nl hg (bG BK414)); replace NB424_414 := ak (ng hg (bG BK414)); replace BK414 := bB BK414 hb; replace NB0_424 := nS hg (IsS134.lt (IsS134.T_ HI0 (nC NB0_414 nN))); replace NB424_0 := mS hg (IsS134.lt (IsS134.T_ HI0 (nC NB0_414 nN))); replace HI0 := ak (IsS134.below (IsS134.T_ HI0 (nC NB0_414 nN)) hb); clear hb hbox hg; have hnb96 := NB424_414.out; have hnc96 := NB414_424.out; have hnb97 := NB424_0.out; have hnc97 := NB0_424.out; obtain ⟨_, _, _, _, _, _, _, _, _, _, _, _, _, _, _, _⟩ := bC8 BK424; have hnb99 := NB414_0.out; have hnc99 := NB0_414.out; obtain ⟨_, _, _, _, _, _, _, _, _, _, _, _, _, _, _, _⟩ := bC8 BK414)
 refine bodyPost_ret (results_cell_row rfl _ _ gb414 23 #[.int .i64 t418, .int .i64 (wrap64 (1 + t421)), .int .i64 0, .int .i64 0, .int .i64 0, .string (⟨#[]⟩ : ByteArray), .string (⟨#[]⟩ : ByteArray), .string (⟨#[]⟩ : ByteArray)] (0, 0) _ rfl (bF BK414 (nC NB414_424 nN)) Try.underlying23 rfl (by kernel_rfl)) rfl ?_
 exact ⟨ew, IsS134.T_ HI0 (nC NB0_414 (nC NB0_424 nN)), lT HB (gC GE414 (gC GE424 gN)), kT HK (gC GW414 (gC GW424 gN))⟩
 }
 }
 }
 }
def spec_l01Long.l0 : Nat → Int → Int → List Int → Int → Option (ByteArray)
 | 0, _, _, _, _ => none
 | k + 1, a, b, c, d => if d < a then (if 0 ≤ d then (if d < (c.length : Int) then (spec_l01Long.l0 k a b (c.set (d : Int).toNat b) (wrap64 (d + 1))) else (none)) else (none)) else (some (strOfNums c))
def spec_l01Long.f (k : Nat) (a0 : Int) (a1 : Int) : Option (ByteArray) := if 0 ≤ a0 then (if (a0 : Int).toNat ≤ 281474976710656 then (spec_l01Long.l0 k a0 a1 (List.replicate (a0 : Int).toNat 0) 0) else (none)) else (none)
theorem spec_l01Long.mono_l : ∀ k, (∀ y0 y1 y2 y3, LeO (spec_l01Long.l0 k y0 y1 y2 y3) (spec_l01Long.l0 (k + 1) y0 y1 y2 y3))
 | 0 => fun _ _ _ _ r h => by simp [spec_l01Long.l0] at h
 | k + 1 => by
  have ih0 := spec_l01Long.mono_l k
  ·intro y0 y1 y2 y3
   unfold spec_l01Long.l0
   repeat' with_reducible first | exact ih0 _ _ _ _ | exact LeO.refl _ | exact LeO.none _ | refine LeO.ite ?_ ?_ | refine LeO.bind ?_ (fun _ => ?_)
theorem spec_l01Long.mono : ∀ a0 a1 k, LeO (spec_l01Long.f k a0 a1) (spec_l01Long.f (k + 1) a0 a1) := by
 intro a0 a1 k
 have ih0 := spec_l01Long.mono_l k
 unfold spec_l01Long.f
 repeat' with_reducible first | exact ih0 _ _ _ _ | exact LeO.refl _ | exact LeO.none _ | refine LeO.ite ?_ ?_ | refine LeO.bind ?_ (fun _ => ?_)
theorem spec_l01Long.calls (k : Nat) (a0 : Int) (a1 : Int) (r : ByteArray) (w : World) (h : spec_l01Long.f k a0 a1 = some r) :
  Calls Try.prog 100 #[.int .i64 a0, .int .u8 a1] w fun e w' => e = .returned (.string r) ∧ Below w.heap.size w w' := by
 have HB := ak (Below.refl w.heap.size w)
 have H := h
 clear h
 unfold spec_l01Long.f at H
 by_cases c3 : 0 ≤ a0
 {
 rw [if_pos c3] at H
 have c3b0 := eq_true c3
 have c3b1 := decide_eq_true c3
 clear c3
 by_cases c4 : (a0 : Int).toNat ≤ 281474976710656
 {
 rw [if_pos c4] at H
 have c4b0 := eq_true c4
 have c4b1 := decide_eq_true c4
 clear c4
 obtain ⟨y458, hy458⟩ : ∃ y_ : List Int, y_ = (List.replicate (a0 : Int).toNat 0) := ⟨_, rfl⟩
 replace H : (spec_l01Long.l0 k a0 a1 y458 0) = some r := by first | (rw [hy458]; with_reducible exact H) | (have H2_ := (Option.bind_some _ _).symm.trans H; rw [hy458]; with_reducible exact H2_) | (have H2_ := (Option.bind_some _ _).symm.trans H; with_reducible exact H2_) | with_reducible exact H | (rw [hy458]; exact H) | exact H
 have Ny458 := Aside0.mk hy458
 clear hy458
 have H' := Aside0.mk H
 clear H
 go_enter Try.func100, Try.ntmps100
 go_wp2_with ((with_reducible refine gate_dst (N := 8) rfl ?_); refine Kd.R_make (Kd.int .u8) _ 5 rfl (N := 8) rfl 46 _ _ rfl a0 rfl rfl Try.underlying46 (.int .u8 0) 1 info5 rfl (by decide) (by omega) 0 (ok := fun _ => True) (okp := fun _ => True) rfl (fun _ hk => hk) trivial (oda) (Nat.le_trans (Nat.mul_le_mul_right _ (oda : a0.toNat ≤ 281474976710656)) (by omega)) (Below.refl _ _) (Nat.le_refl _) ?_; intro v459 w5 ho6 hb hg_ hnew_; clear hg_ hnew_; (first | rw [← Ny458.out] at ho6 | (simp only [Int.reduceToNat] at ho6; rw [← Ny458.out] at ho6)); replace HO460 := ak (Kd.R_lower ho6 (below_size (lG HB))); replace HB := lB HB hb; clear hb ho6)
 go_loopg [6] k (fun kq v6 w' => ∃ (x5_1 : List Int) (x6_1 : Int), v6 = .int .i64 x6_1 ∧ Aside0 (spec_l01Long.l0 kq a0 a1 x5_1 x6_1 = some r) ∧ Aside0 (kq ≤ k) ∧ Aside0 (Kd.R (Kd.int .u8) 5 w' w.heap.size (fun _ => True) v459 x5_1) ∧ Aside0 (Below w.heap.size w w'))
 case atStart => exact ⟨_, _, rr, H', ⟨Nat.le_refl _⟩, ⟨by (with_reducible repeat (first | apply Kd.R_alloc | apply Kd.R_drewN | apply Kd.R_drew)); exact HO460.out⟩, ⟨by exact lG HB⟩⟩
 case round =>
  skip;{
 clear H'
 try clear c3 c3b0 c3b1 c4 c4b0 c4b1
 obtain ⟨x5_1, x6_1, rfl, HA, HK1, HO_5, HB⟩ := hrel
 cases gk with
 | zero => exact absurd HA.out (by simp [spec_l01Long.l0])
 | succ k1 =>
  skip;{
 have H := HA.out
 clear HA
 simp only [spec_l01Long.l0] at H
 by_cases c7 : x6_1 < a0
 {
 rw [if_pos c7] at H
 have c7b0 := decide_eq_true c7
 clear c7
 by_cases c8 : 0 ≤ x6_1
 {
 rw [if_pos c8] at H
 have c8b0 := decide_eq_true c8
 clear c8
 by_cases c9 : x6_1 < (x5_1.length : Int)
 {
 rw [if_pos c9] at H
 have c9b0 := decide_eq_true c9
 clear c9
 obtain ⟨y461, hy461⟩ : ∃ y_ : List Int, y_ = (x5_1.set (x6_1 : Int).toNat a1) := ⟨_, rfl⟩
 replace H : (spec_l01Long.l0 k1 a0 a1 y461 (wrap64 (x6_1 + 1))) = some r := by first | (rw [hy461]; with_reducible exact H) | (have H2_ := (Option.bind_some _ _).symm.trans H; rw [hy461]; with_reducible exact H2_) | (have H2_ := (Option.bind_some _ _).symm.trans H; with_reducible exact H2_) | with_reducible exact H | (rw [hy461]; exact H) | exact H
 have Ny461 := Aside0.mk hy461
 clear hy461
 have H' := Aside0.mk H
 clear H
 have p10 : 0 ≤ (x6_1 : Int) := oda
 have q10 : (x6_1 : Int) < ((x5_1.length : Int) : Int) := oda
 obtain ⟨go10, co10, eo10, gb10, gl10, cl10, HG10⟩ := Kd.R_form HO_5.out (by omega)
 (first | cases eo10 | (injection eo10 with ea_ en_ ec_; (first | subst ea_ | (injection ea_ with ea_; subst ea_)); subst ec_; clear en_))
 have GB10 := Aside0.mk gb10
 have GG10 := Aside0.mk HG10
 clear gb10 gl10 HG10
 obtain ⟨hx10_0, hf10_0⟩ := Kd.R_celln 0 HO_5.out (x6_1 : Int) p10 q10
 replace p10 := eq_true p10
 replace q10 := eq_true q10
 have HP11 := Kd.R_putg HO_5.out (x6_1 : Int) a1
 go_wp2_with ((with_reducible refine gate_store (t := 5) (p := 17) rfl ?_); refine store_event (t := 5) (p := 17) (v := ?vo_w12) (w1 := (wr.setCell ⟨go10, (x6_1 : Int).toNat, none⟩ (.int .u8 a1))) ?hg ?ho ?hn ?hr ?_; (case ho => rfl); (case hg => rfl); (case hn => rfl); (case hr => first | (go_simp; done) | (go_simp; rfl)); intro w12 hw; have hg : wr.grownBy w12 (some go10) := (by rw [hw]; exact HP11.2); have hp_ : Kd.R (Kd.int .u8) 5 w12 w.heap.size (fun _ => True) (.slice (some ⟨go10, 0, none⟩) x5_1.length co10) y461 := (by rw [hw, Ny461.out]; exact HP11.1); clear HP11; replace HO_5 := ak (hp_); replace HB := ak ((by rw [hw]; exact below_set (HB.out) GB10.out : Below w.heap.size w w12)); clear hg hw hp_)
 go_roundg k1
 case measure => have := HK1.out; omega
 case rel => exact ⟨_, _, rr, H', ⟨by have := HK1.out; omega⟩, ⟨by (with_reducible repeat (first | apply Kd.R_alloc | apply Kd.R_drewN | apply Kd.R_drew)); exact HO_5.out⟩, ⟨by exact lG HB⟩⟩
 }
 {rw [if_neg c9] at H;exact absurd H (by simp)}
 }
 {rw [if_neg c8] at H;exact absurd H (by simp)}
 }
 {
 rw [if_neg c7] at H
 have c7b0 := decide_eq_false c7
 clear c7
 obtain rfl := Option.some.inj H
 have hcv13 := own_string (P := Try.prog) Try.underlying46 Try.underlying5 Try.underlying9 (Kd.own_of_R HO_5.out)
 go_wp2
 go_ret
 exact ⟨ew, by exact lG HB⟩
 }
 }
 }
 }
 {rw [if_neg c4] at H;exact absurd H (by simp)}
 }
 {rw [if_neg c3] at H;exact absurd H (by simp)}
end Go.Proofs.Ytagkjeldheiejaa.PFnStatesTold
