-- Written by a program of mine (a turned copy of the kit's print): functions as plain Lean, their contracts.
import Derived.Test.YtagkjeldheiejaaPFnStatesx0
import Derived.Test.YtagkjeldheiejaaVFnStates1
namespace Go.Proofs.Ytagkjeldheiejaa.PFnStates
open Go.RowKit Go.Proofs.YtagkjeldheiejaaW.PrintWords Go.Proofs.YtagkjeldheiejaaW.PrintLast Go.Proofs.YtagkjeldheiejaaW.PrintMore
attribute [local go_sem] max2_int min2_int max_two min_two max_three min_three max_four min_four   -- for this text's walks alone
set_option maxHeartbeats 8000000
set_option maxRecDepth 100000
set_option linter.unusedVariables false
set_option linter.unusedSimpArgs false
/-! ### laws_big: function 23 -/
def laws_big.f (l0 : List Int) : Option (Bool) := some (decide ((l0.length : Int) > 1048576))
theorem laws_big.calls (A0 : Option Addr) (c0 : Nat) (l0 : List Int) (r : Bool) (w : World) (hr0 : Kd.C (Kd.int .u8) w A0 l0.length l0) (hc0 : l0.length ≤ c0) (h : laws_big.f l0 = some r) :
  Calls Try.prog 23 #[.slice A0 l0.length c0] w fun e w' => e = .returned (.bool r) ∧ Drawn0 w w' := by
 have HR0 := Aside0.mk hr0
 have HC0 := Aside0.mk hc0
 clear hr0 hc0
 have H := h
 clear h
 unfold laws_big.f at H
 obtain rfl := Option.some.inj H
 go_enter Try.func23, Try.ntmps23
 go_wp2
 go_ret
 exact ⟨by first | rfl | (simp; done) | (simp [*]; done), by repeat (first | exact Drawn0.refl _ | apply Drawn0.step)⟩
/-- A state of type 134 at block g of W; what its slices lead to came in by w0. -/
def IsS134 (w0 W : World) (g : Nat) (f0 : List Int) (f1 : Int) (f2 : Int) : Prop := ∃ A0 c0, W.heap[g]? = some (.cells #[.slice A0 f0.length c0, .int .i64 f1, .int .i64 f2] 134 (0, 0)) ∧ w0.heap.size ≤ g ∧ Kd.C (Kd.int .u8) w0 A0 f0.length f0
theorem IsS134.T_ {w0 W W' : World} {g : Nat} {f0 : List Int} {f1 : Int} {f2 : Int} {L : List Nat} (h : Aside0 (IsS134 w0 W g f0 f1 f2)) (p : ∀ x : Nat, x ∈ L → g ≠ x) [d : Touched L W W'] : IsS134 w0 W' g f0 f1 f2 := by
 obtain ⟨A0, c0, h1, h2⟩ := h.out
 exact ⟨A0, c0, d.blk g _ _ p h1, h2⟩
theorem IsS134.grown {w0 W : World} {g : Nat} {f0 : List Int} {f1 : Int} {f2 : Int} {W1 : World} {row : Option Nat} (h : IsS134 w0 W g f0 f1 f2) (hw : W.grownBy W1 row) (hne : some g ≠ row) : IsS134 w0 W1 g f0 f1 f2 := by
 obtain ⟨A0, c0, hb, hg, hr0⟩ := h
 exact ⟨A0, c0, blk_grown hb hw hne, hg, hr0⟩
theorem IsS134.own_neN {w0 W : World} {g : Nat} {f0 : List Int} {f1 : Int} {f2 : Int} {α : Type} {d : Kd α} {e : Nat} {base : Nat} {ok : Nat → Prop} {v : Value} {xs : List α} (h : IsS134 w0 W g f0 f1 f2) (ho : Kd.N d e W base ok v xs) (ht : e ≠ 134) : some g ≠ v.ownBlock := by
 obtain ⟨A0, c0, hb, hg, hr0⟩ := h
 exact Kd.N_ne ho hb ht
theorem IsS134.fresh {w0 W : World} {g : Nat} {f0 : List Int} {f1 : Int} {f2 : Int} (h : IsS134 w0 W g f0 f1 f2) : ∀ k, W.heap.size ≤ k → k ≠ g := by
 obtain ⟨A0, c0, hb, hg, hr0⟩ := h
 exact Kd.freshB hb
theorem IsS134.kept {w0 W : World} {g : Nat} {f0 : List Int} {f1 : Int} {f2 : Int} {W1 : World} {S : Nat → Prop} (h : IsS134 w0 W g f0 f1 f2) (hk : Kept W W1 S) (hne : ¬ S g) : IsS134 w0 W1 g f0 f1 f2 := by
 obtain ⟨A0, c0, hb, hg, hr0⟩ := h
 exact ⟨A0, c0, blk_kept hb hk hne, hg, hr0⟩
theorem IsS134.below {w0 W : World} {g : Nat} {f0 : List Int} {f1 : Int} {f2 : Int} {W1 : World} (h : IsS134 w0 W g f0 f1 f2) (hw : Below W.heap.size W W1) : IsS134 w0 W1 g f0 f1 f2 := h.grown (grown_of_below hw none) (by simp)
theorem IsS134.alloc {w0 W : World} {g : Nat} {f0 : List Int} {f1 : Int} {f2 : Int} (h : IsS134 w0 W g f0 f1 f2) (o : Obj) : IsS134 w0 (W.alloc o) g f0 f1 f2 := h.below (below_alloc (Below.refl _ _) o)
theorem IsS134.drewN {w0 W : World} {g : Nat} {f0 : List Int} {f1 : Int} {f2 : Int} (h : IsS134 w0 W g f0 f1 f2) (m : Nat) : IsS134 w0 (W.drewN m) g f0 f1 f2 := h
theorem IsS134.drew {w0 W : World} {g : Nat} {f0 : List Int} {f1 : Int} {f2 : Int} (h : IsS134 w0 W g f0 f1 f2) : IsS134 w0 W.drew g f0 f1 f2 := h
theorem IsS134.at_ {w0 W : World} {g : Nat} {f0 : List Int} {f1 : Int} {f2 : Int} {w' : World} {m : Nat} (hq : W.drewN m = w') (h : IsS134 w0 W g f0 f1 f2) : IsS134 w0 w' g f0 f1 f2 := by subst hq; exact IsS134.drewN h m
theorem IsS134.apart {w0 W : World} {g : Nat} {f0 : List Int} {f1 : Int} {f2 : Int} {α : Type} {d : Kd α} {e : Nat} {base : Nat} {ok : Nat → Prop} {v : Value} {xs : List α} (h : IsS134 w0 W g f0 f1 f2) (ho : d.R e W base ok v xs) (ht : ∀ q, q ∈ e :: d.E → q ≠ 134) : d.R e W base (fun k => ok k ∧ k ≠ g) v xs := by
 obtain ⟨A0, c0, hb, hg, hr0⟩ := h
 exact Kd.R_types ho hb ht
theorem IsS134.kR {w0 W : World} {g : Nat} {f0 : List Int} {f1 : Int} {f2 : Int} {α : Type} {d : Kd α} {e : Nat} {base : Nat} {ok : Nat → Prop} {v : Value} {xs : List α} {W1 : World} (hk : KeepBut W W1 g none) (h : IsS134 w0 W g f0 f1 f2) (ho : d.R e W base ok v xs) (ht : ∀ q, q ∈ e :: d.E → q ≠ 134 := by decide) : Aside0 (d.R e W1 base ok v xs) := ⟨Kd.R_mono (Kd.R_keep (IsS134.apart h ho ht) hk (fun _ h => h.2)) (fun _ h => h.1)⟩
theorem IsS134.own_ne {w0 W : World} {g : Nat} {f0 : List Int} {f1 : Int} {f2 : Int} {α : Type} {d : Kd α} {e : Nat} {base : Nat} {ok : Nat → Prop} {v : Value} {xs : List α} (h : IsS134 w0 W g f0 f1 f2) (ho : d.R e W base ok v xs) (ht : e ≠ 134) : some g ≠ v.ownBlock := by
 obtain ⟨A0, c0, hb, hg, hr0⟩ := h
 exact Kd.R_ne ho hb ht
theorem IsS134.apartQ {w0 W : World} {g : Nat} {f0 : List Int} {f1 : Int} {f2 : Int} {α : Type} {d : Kd α} {e : Nat} {base : Nat} {ok : Nat → Prop} {v : Value} {xs : List α} (h : IsS134 w0 W g f0 f1 f2) (ho : d.Q e W base ok v xs) (ht : ∀ q, q ∈ e :: d.E → q ≠ 134) : d.Q e W base (fun k => ok k ∧ k ≠ g) v xs := by
 obtain ⟨A0, c0, hb, hg, hr0⟩ := h
 exact Kd.Q_types ho hb ht
theorem IsS134.own_neQ {w0 W : World} {g : Nat} {f0 : List Int} {f1 : Int} {f2 : Int} {α : Type} {d : Kd α} {e : Nat} {base : Nat} {ok : Nat → Prop} {v : Value} {xs : List α} (h : IsS134 w0 W g f0 f1 f2) (ho : d.Q e W base ok v xs) (ht : e ≠ 134) : some g ≠ v.ownBlock := by
 obtain ⟨A0, c0, hb, hg, hr0⟩ := h
 exact Kd.Q_ne ho hb ht
theorem IsS134.apartS {w0 W : World} {g : Nat} {f0 : List Int} {f1 : Int} {f2 : Int} {α : Type} {d : Kd α} {e : Nat} {base : Nat} {ok : Nat → Prop} {v : Value} {xs : List α} (h : IsS134 w0 W g f0 f1 f2) (ho : d.S e W base ok v xs) (ht : ∀ q, q ∈ e :: d.E → q ≠ 134) : d.S e W base (fun k => ok k ∧ k ≠ g) v xs := by
 obtain ⟨A0, c0, hb, hg, hr0⟩ := h
 exact Kd.S_types ho hb ht
theorem IsS134.own_neS {w0 W : World} {g : Nat} {f0 : List Int} {f1 : Int} {f2 : Int} {α : Type} {d : Kd α} {e : Nat} {base : Nat} {ok : Nat → Prop} {v : Value} {xs : List α} (h : IsS134 w0 W g f0 f1 f2) (ho : d.S e W base ok v xs) (ht : e ≠ 134) : some g ≠ v.ownBlock := by
 obtain ⟨A0, c0, hb, hg, hr0⟩ := h
 exact Kd.S_ne ho hb ht
theorem IsS134.lt {w0 W : World} {g : Nat} {f0 : List Int} {f1 : Int} {f2 : Int} (h : IsS134 w0 W g f0 f1 f2) : g < W.heap.size := by
 obtain ⟨A0, c0, hb, hg, hr0⟩ := h
 exact blk_lt hb
theorem IsS134.ge {w0 W : World} {g : Nat} {f0 : List Int} {f1 : Int} {f2 : Int} (h : IsS134 w0 W g f0 f1 f2) : w0.heap.size ≤ g := by
 obtain ⟨A0, c0, hb, hg, hr0⟩ := h
 exact hg
theorem IsS134.ne_blk {w0 W : World} {g : Nat} {f0 : List Int} {f1 : Int} {f2 : Int} {a : Nat} {cs : Array Value} {t : TypeId} {fr : Nat × Nat} (h : IsS134 w0 W g f0 f1 f2) (hb2 : W.heap[a]? = some (.cells cs t fr)) (ht : t ≠ 134) : g ≠ a := by
 obtain ⟨A0, c0, hb, hg, hr0⟩ := h
 rintro rfl
 rw [hb] at hb2
 injection hb2 with hb2
 injection hb2 with _ ht2
 exact ht ht2.symm
theorem IsS134.far {w0 W : World} {g : Nat} {f0 : List Int} {f1 : Int} {f2 : Int} {p : Addr} (h : IsS134 w0 W g f0 f1 f2) (hne : g ≠ p.block) (u : Value) : IsS134 w0 (W.setCell p u) g f0 f1 f2 := by
 obtain ⟨A0, c0, hb, hg, hr0⟩ := h
 exact ⟨A0, c0, blk_far hb hne u, hg, hr0⟩
theorem cellS134_0 {W : World} {g : Nat} {A0 : Option Addr} {c0 : Nat} {f0 : List Int} {f1 : Int} {f2 : Int} (h : W.heap[g]? = some (.cells #[.slice A0 f0.length c0, .int .i64 f1, .int .i64 f2] 134 (0, 0))) : W.cell? ⟨g, 0, none⟩ = some (.slice A0 f0.length c0) := (blk_cell h 0).trans rfl
theorem cellS134_1 {W : World} {g : Nat} {A0 : Option Addr} {c0 : Nat} {f0 : List Int} {f1 : Int} {f2 : Int} (h : W.heap[g]? = some (.cells #[.slice A0 f0.length c0, .int .i64 f1, .int .i64 f2] 134 (0, 0))) : W.cell? ⟨g, 1, none⟩ = some (.int .i64 f1) := (blk_cell h 1).trans rfl
theorem IsS134.set_1 {w0 W : World} {g : Nat} {f0 : List Int} {f1 : Int} {f2 : Int} (h : IsS134 w0 W g f0 f1 f2) (x : Int) : IsS134 w0 (W.setCell ⟨g, 1, none⟩ (.int .i64 x)) g f0 x f2 := by
 obtain ⟨A0, c0, hb, hg, hr0⟩ := h
 exact ⟨A0, c0, by simpa using blk_set hb 1 (.int .i64 x), hg, hr0⟩
theorem cellS134_2 {W : World} {g : Nat} {A0 : Option Addr} {c0 : Nat} {f0 : List Int} {f1 : Int} {f2 : Int} (h : W.heap[g]? = some (.cells #[.slice A0 f0.length c0, .int .i64 f1, .int .i64 f2] 134 (0, 0))) : W.cell? ⟨g, 2, none⟩ = some (.int .i64 f2) := (blk_cell h 2).trans rfl
theorem IsS134.set_2 {w0 W : World} {g : Nat} {f0 : List Int} {f1 : Int} {f2 : Int} (h : IsS134 w0 W g f0 f1 f2) (x : Int) : IsS134 w0 (W.setCell ⟨g, 2, none⟩ (.int .i64 x)) g f0 f1 x := by
 obtain ⟨A0, c0, hb, hg, hr0⟩ := h
 exact ⟨A0, c0, by simpa using blk_set hb 2 (.int .i64 x), hg, hr0⟩
theorem IsS134.new (w0 W : World) (A0 : Option Addr) (c0 : Nat) (f0 : List Int) (f1 : Int) (f2 : Int) (hB : Below w0.heap.size w0 W) (hr0 : Kd.C (Kd.int .u8) w0 A0 f0.length f0) : IsS134 w0 (W.alloc (.cells #[.slice A0 f0.length c0, .int .i64 f1, .int .i64 f2] 134)) W.heap.size f0 f1 f2 := ⟨A0, c0, by simpa using heap_alloc_new W _, hB.size, hr0⟩
/-! ### spec_l01New: function 67 -/
def spec_l01New.l0 : Nat → List Int → Int → Int → Option (List Int × Int × Int)
 | 0, _, _, _ => none
 | k + 1, a, b, c => if c < (a.length : Int) then (if c < 4000 then (if 0 ≤ c then (spec_l01New.l0 k a (Go.bits .and .i64 (wrap64 ((wrap64 ((wrap64 (b * 131)) + (wrap64 (rd a c)))) + 7)) 1073741823) (wrap64 (c + 1))) else (none)) else (some (a, 0, b))) else (some (a, 0, b))
def spec_l01New.f (k : Nat) (l0 : List Int) : Option (List Int × Int × Int) := spec_l01New.l0 k l0 (wrap64 (76001 + (l0.length : Int))) 0
theorem spec_l01New.mono_l : ∀ k, (∀ y0 y1 y2, LeO (spec_l01New.l0 k y0 y1 y2) (spec_l01New.l0 (k + 1) y0 y1 y2))
 | 0 => fun _ _ _ r h => by simp [spec_l01New.l0] at h
 | k + 1 => by
  have ih0 := spec_l01New.mono_l k
  ·intro y0 y1 y2
   unfold spec_l01New.l0
   repeat' with_reducible first | exact ih0 _ _ _ | exact LeO.refl _ | exact LeO.none _ | refine LeO.ite ?_ ?_ | refine LeO.bind ?_ (fun _ => ?_)
theorem spec_l01New.mono : ∀ a0 k, LeO (spec_l01New.f k a0) (spec_l01New.f (k + 1) a0) := by
 intro a0 k
 have ih0 := spec_l01New.mono_l k
 unfold spec_l01New.f
 repeat' with_reducible first | exact ih0 _ _ _ | exact LeO.refl _ | exact LeO.none _ | refine LeO.ite ?_ ?_ | refine LeO.bind ?_ (fun _ => ?_)
theorem spec_l01New.calls (k : Nat) (A0 : Option Addr) (c0 : Nat) (l0 : List Int) (r1 : List Int) (r2 : Int) (r3 : Int) (w0 w : World) (hB : Below w0.heap.size w0 w) (hr0 : Kd.C (Kd.int .u8) w0 A0 l0.length l0) (hc0 : l0.length ≤ c0) (h : spec_l01New.f k l0 = some (r1, r2, r3)) :
  Calls Try.prog 67 #[.slice A0 l0.length c0] w fun e w' => ∃ g_ : Nat, e = .returned (.pointer (some ⟨g_, 0, none⟩)) ∧ IsS134 w0 w' g_ r1 r2 r3 ∧ Below w0.heap.size w0 w' ∧ Below w.heap.size w w' := by
 have hu134 := Try.underlying134
 have HR0 := Aside0.mk hr0
 have HC0 := Aside0.mk hc0
 clear hr0 hc0
 have HBW := ak (Below.refl w.heap.size w)
 have HW0 := Aside0.mk hB.size
 have HB := Aside0.mk hB
 clear hB
 have H := h
 clear h
 unfold spec_l01New.f at H
 have H' := Aside0.mk H
 clear H
 go_enter Try.func67, Try.ntmps67
 go_wp2
 go_loopg [3, 4] k (fun kq v3 v4 w' => ∃ (x3_1 : Int) (x4_1 : Int), v3 = .int .i64 x3_1 ∧ v4 = .int .i64 x4_1 ∧ Aside0 (spec_l01New.l0 kq l0 x3_1 x4_1 = some (r1, r2, r3)) ∧ Aside0 (kq ≤ k) ∧ Aside0 (Below w0.heap.size w0 w') ∧ Aside0 (Below w.heap.size w w'))
 case atStart => exact ⟨_, _, rr, rr, H', ⟨Nat.le_refl _⟩, ⟨by exact lG HB⟩, ⟨by exact lG HBW⟩⟩
 case round =>
  skip;{
 clear H'
 obtain ⟨x3_1, x4_1, rfl, rfl, HA, HK1, HB, HBW⟩ := hrel
 cases gk with
 | zero => exact absurd HA.out (by simp [spec_l01New.l0])
 | succ k1 =>
  skip;{
 have H := HA.out
 clear HA
 simp only [spec_l01New.l0] at H
 by_cases c2 : x4_1 < (l0.length : Int)
 {
 rw [if_pos c2] at H
 have c2b0 := decide_eq_true c2
 clear c2
 by_cases c3 : x4_1 < 4000
 {
 rw [if_pos c3] at H
 have c3b0 := decide_eq_true c3
 clear c3
 by_cases c4 : 0 ≤ x4_1
 {
 rw [if_pos c4] at H
 have c4b0 := decide_eq_true c4
 clear c4
 have H' := Aside0.mk H
 clear H
 have p101 : 0 ≤ (x4_1 : Int) := oda
 have q101 : x4_1 < (l0.length : Int) := oda
 obtain ⟨ad101, e101, hx101_0⟩ := Kd.at_int HR0.out x4_1 p101 q101
 cases e101
 replace hx101_0 := pw_cell_below HB.out hx101_0
 replace p101 := eq_true p101
 replace q101 := eq_true q101
 go_wp2
 go_roundg k1
 case measure => have := HK1.out; omega
 case rel => exact ⟨_, _, rr, rr, H', ⟨by have := HK1.out; omega⟩, ⟨by exact lG HB⟩, ⟨by exact lG HBW⟩⟩
 }
 {rw [if_neg c4] at H;exact absurd H (by simp)}
 }
 {
 rw [if_neg c3] at H
 have c3b0 := decide_eq_false c3
 clear c3
 simp only [Option.some.injEq, Prod.mk.injEq] at H
 obtain ⟨rfl, rfl, rfl⟩ := H
 go_wp2_with ((with_reducible refine gate_dst (N := 31) rfl ?_); refine bx 31 #[.slice A0 l0.length c0, .int .i64 0, .int .i64 x3_1] 134 ?_; intro gb102 hg w5 hbox hb; replace HB := lB HB hb; replace BK102 := ak (hbox); replace GW102 := ak ((by rw [hg]; exact (below_size (by repeat (first | (with_reducible first | exact HBW.out | apply below_alloc | apply pw_below_drewN | apply below_drew1) | exact HBW.out))) : w.heap.size ≤ gb102)); replace GE102 := ak ((Nat.le_trans HW0.out (by rw [hg]; exact (below_size (by repeat (first | (with_reducible first | exact HBW.out | apply below_alloc | apply pw_below_drewN | apply below_drew1) | exact HBW.out))) : w.heap.size ≤ gb102) : w0.heap.size ≤ gb102)); replace HBW := ak (below_step HBW.out hb); clear hb hbox hg)
 go_ret
 exact ⟨_, rfl, (show IsS134 w0 _ gb102 l0 0 x3_1 from ⟨_, _, by (with_reducible repeat (first | refine blk_drewN ?_ _ | refine blk_drew ?_ | refine blk_alloc ?_ _)); exact BK102.out, GE102.out, HR0.out⟩), by exact lT HB (gC GE102 gN), by repeat (first | (with_reducible first | exact HBW.out | apply below_alloc | apply pw_below_drewN | apply below_drew1 | refine below_set ?_ GW102.out) | exact HBW.out)⟩
 }
 }
 {
 rw [if_neg c2] at H
 have c2b0 := decide_eq_false c2
 clear c2
 simp only [Option.some.injEq, Prod.mk.injEq] at H
 obtain ⟨rfl, rfl, rfl⟩ := H
 go_wp2_with ((with_reducible refine gate_dst (N := 31) rfl ?_); refine bx 31 #[.slice A0 l0.length c0, .int .i64 0, .int .i64 x3_1] 134 ?_; intro gb103 hg w6 hbox hb; replace HB := lB HB hb; replace BK103 := ak (hbox); replace GW103 := ak ((by rw [hg]; exact (below_size (by repeat (first | (with_reducible first | exact HBW.out | apply below_alloc | apply pw_below_drewN | apply below_drew1) | exact HBW.out))) : w.heap.size ≤ gb103)); replace GE103 := ak ((Nat.le_trans HW0.out (by rw [hg]; exact (below_size (by repeat (first | (with_reducible first | exact HBW.out | apply below_alloc | apply pw_below_drewN | apply below_drew1) | exact HBW.out))) : w.heap.size ≤ gb103) : w0.heap.size ≤ gb103)); replace HBW := ak (below_step HBW.out hb); clear hb hbox hg)
 go_ret
 exact ⟨_, rfl, (show IsS134 w0 _ gb103 l0 0 x3_1 from ⟨_, _, by (with_reducible repeat (first | refine blk_drewN ?_ _ | refine blk_drew ?_ | refine blk_alloc ?_ _)); exact BK103.out, GE103.out, HR0.out⟩), by exact lT HB (gC GE103 gN), by repeat (first | (with_reducible first | exact HBW.out | apply below_alloc | apply pw_below_drewN | apply below_drew1 | refine below_set ?_ GW103.out) | exact HBW.out)⟩
 }
 }
 }
/-! ### spec_l01Byte: function 73 -/
def spec_l01Byte.f (s0_0 : List Int) (s0_1 : Int) (s0_2 : Int) : Option (Int × Int × Int) := if s0_1 < (s0_0.length : Int) then (if 0 ≤ s0_1 then (some (Go.bits .and .i64 (wrap64 ((Go.bits .and .i64 (Go.bits .xor .i64 ((wrap64 ((wrap64 (s0_2 * 6364136223846793005)) + 1442695040888963407)) / 8589934592) ((wrap64 ((wrap64 (s0_2 * 6364136223846793005)) + 1442695040888963407)) / 35184372088832)) 255) + (wrap64 (rd s0_0 s0_1)))) 255, wrap64 (s0_1 + 1), wrap64 ((wrap64 (s0_2 * 6364136223846793005)) + 1442695040888963407))) else (none)) else (some (Go.bits .and .i64 (Go.bits .xor .i64 ((wrap64 ((wrap64 (s0_2 * 6364136223846793005)) + 1442695040888963407)) / 8589934592) ((wrap64 ((wrap64 (s0_2 * 6364136223846793005)) + 1442695040888963407)) / 35184372088832)) 255, s0_1, wrap64 ((wrap64 (s0_2 * 6364136223846793005)) + 1442695040888963407)))
theorem spec_l01Byte.calls (g : Nat) (s0_0 : List Int) (s0_1 : Int) (s0_2 : Int) (r1 : Int) (r2 : Int) (r3 : Int) (w0 w : World) (hI : IsS134 w0 w g s0_0 s0_1 s0_2) (hB : Below w0.heap.size w0 w) (h : spec_l01Byte.f s0_0 s0_1 s0_2 = some (r1, r2, r3)) :
  Calls Try.prog 73 #[.pointer (some ⟨g, 0, none⟩)] w fun e w' => e = .returned (.int .i64 r1) ∧ IsS134 w0 w' g s0_0 r2 r3 ∧ Below w0.heap.size w0 w' ∧ KeepBut w w' g none := by
 have HI0 := Aside0.mk hI
 have HK := ak (KeepBut.refl w g none)
 have HL := Aside0.mk hB.size
 clear hI
 have HW0 := Aside0.mk hB.size
 have HB := Aside0.mk hB
 clear hB
 have H := h
 clear h
 unfold spec_l01Byte.f at H
 by_cases c2 : s0_1 < (s0_0.length : Int)
 {
 rw [if_pos c2] at H
 have c2b0 := decide_eq_true c2
 clear c2
 by_cases c3 : 0 ≤ s0_1
 {
 rw [if_pos c3] at H
 have c3b0 := decide_eq_true c3
 clear c3
 simp only [Option.some.injEq, Prod.mk.injEq] at H
 obtain ⟨rfl, rfl, rfl⟩ := H
 obtain ⟨ASz4_0, cSz4_0, HGz4, hgz4, HSz4_0⟩ := HI0.out
 have hcz4_0 := cellS134_0 HGz4
 have hcz4_1 := cellS134_1 HGz4
 have hcz4_2 := cellS134_2 HGz4
 have hfz4_1 := blk_frozen HGz4 1
 have hfz4_2 := blk_frozen HGz4 2
 clear HGz4 hgz4
 have p104 : 0 ≤ (s0_1 : Int) := oda
 have q104 : s0_1 < (s0_0.length : Int) := oda
 obtain ⟨ad104, e104, hx104_0⟩ := Kd.at_int HSz4_0 s0_1 p104 q104
 cases e104
 have hn104_0 : ad104.block ≠ g := Nat.ne_of_lt (Nat.lt_of_lt_of_le (by have := World.block_lt_of_cell? _ _ hx104_0; first | rwa [add_block] at this | exact this) (IsS134.ge HI0.out))
 replace hx104_0 := pw_cell_below HB.out hx104_0
 replace hx104_0 := (cell_far (p := ⟨g, 2, none⟩) (by first | (rw [add_block]; exact hn104_0) | (show (Addr.add _ _).block ≠ _; rw [add_block]; exact hn104_0) | exact hn104_0) (.int .i64 (wrap64 ((wrap64 (s0_2 * 6364136223846793005)) + 1442695040888963407)))).trans hx104_0
 (try have hy104_0 := fun (n_ : Nat) => (show (((w.drewN n_).setCell ⟨g, 2, none⟩ (.int .i64 (wrap64 ((wrap64 (s0_2 * 6364136223846793005)) + 1442695040888963407))))).cell? _ = some _ from hx104_0))
 clear hn104_0
 replace p104 := eq_true p104
 replace q104 := eq_true q104
 go_enter Try.func73, Try.ntmps73
 go_wp2
 repeat (go_quiet (fail); try go_wp2)
 go_ret
 exact ⟨by first | rfl | (simp [errW_none, errW_some] <;> rfl) | (simp [*, errW_none, errW_some] <;> rfl), by repeat (first | (with_reducible first | exact HI0.out | apply IsS134.alloc | apply IsS134.drewN | apply IsS134.drew | apply IsS134.set_1 | apply IsS134.set_2) | exact HI0.out), by repeat (first | (with_reducible first | exact HB.out | apply below_alloc | apply pw_below_drewN | apply below_drew1 | refine below_set ?_ (IsS134.ge HI0.out)) | exact HB.out), by repeat (first | (with_reducible first | exact HK.out | apply KeepBut.set_ | apply keep_drewN | apply keep_drew | apply keep_alloc) | exact HK.out)⟩
 }
 {rw [if_neg c3] at H;exact absurd H (by simp)}
 }
 {
 rw [if_neg c2] at H
 have c2b0 := decide_eq_false c2
 clear c2
 simp only [Option.some.injEq, Prod.mk.injEq] at H
 obtain ⟨rfl, rfl, rfl⟩ := H
 obtain ⟨ASz5_0, cSz5_0, HGz5, hgz5, HSz5_0⟩ := HI0.out
 have hcz5_0 := cellS134_0 HGz5
 have hcz5_1 := cellS134_1 HGz5
 have hcz5_2 := cellS134_2 HGz5
 have hfz5_1 := blk_frozen HGz5 1
 have hfz5_2 := blk_frozen HGz5 2
 clear HGz5 hgz5
 go_enter Try.func73, Try.ntmps73
 go_wp2
 repeat (go_quiet (fail); try go_wp2)
 go_ret
 exact ⟨by first | rfl | (simp [errW_none, errW_some] <;> rfl) | (simp [*, errW_none, errW_some] <;> rfl), by repeat (first | (with_reducible first | exact HI0.out | apply IsS134.alloc | apply IsS134.drewN | apply IsS134.drew | apply IsS134.set_1 | apply IsS134.set_2) | exact HI0.out), by repeat (first | (with_reducible first | exact HB.out | apply below_alloc | apply pw_below_drewN | apply below_drew1 | refine below_set ?_ (IsS134.ge HI0.out)) | exact HB.out), by repeat (first | (with_reducible first | exact HK.out | apply KeepBut.set_ | apply keep_drewN | apply keep_drew | apply keep_alloc) | exact HK.out)⟩
 }
/-! ### spec_l01Below: function 69 -/
def spec_l01Below.f (s0_0 : List Int) (s0_1 : Int) (s0_2 : Int) (a1 : Int) : Option (Int × Int × Int) := if a1 ≤ 0 then (some (0, s0_1, s0_2)) else (if a1 ≤ 256 then ((spec_l01Byte.f s0_0 s0_1 s0_2).bind fun bt105 => (if a1 = 0 then (none) else (some (Int.tmod bt105.1 a1, bt105.2.1, bt105.2.2)))) else ((spec_l01Byte.f s0_0 s0_1 s0_2).bind fun bt108 => ((spec_l01Byte.f s0_0 bt108.2.1 bt108.2.2).bind fun bt111 => ((spec_l01Byte.f s0_0 bt111.2.1 bt111.2.2).bind fun bt114 => ((spec_l01Byte.f s0_0 bt114.2.1 bt114.2.2).bind fun bt117 => (if a1 = 0 then (none) else (some (Int.tmod (wrap64 ((wrap64 ((wrap64 ((wrap64 (bt108.1 * 16777216)) + (wrap64 (bt111.1 * 65536)))) + (wrap64 (bt114.1 * 256)))) + bt117.1)) a1, bt117.2.1, bt117.2.2))))))))
theorem spec_l01Below.calls (g : Nat) (s0_0 : List Int) (s0_1 : Int) (s0_2 : Int) (a1 : Int) (r1 : Int) (r2 : Int) (r3 : Int) (w0 w : World) (hI : IsS134 w0 w g s0_0 s0_1 s0_2) (hB : Below w0.heap.size w0 w) (h : spec_l01Below.f s0_0 s0_1 s0_2 a1 = some (r1, r2, r3)) :
  Calls Try.prog 69 #[.pointer (some ⟨g, 0, none⟩), .int .i64 a1] w fun e w' => e = .returned (.int .i64 r1) ∧ IsS134 w0 w' g s0_0 r2 r3 ∧ Below w0.heap.size w0 w' ∧ KeepBut w w' g none := by
 have HI0 := Aside0.mk hI
 have HK := ak (KeepBut.refl w g none)
 have HL := Aside0.mk hB.size
 clear hI
 have HW0 := Aside0.mk hB.size
 have HB := Aside0.mk hB
 clear hB
 have H := h
 clear h
 unfold spec_l01Below.f at H
 by_cases c3 : a1 ≤ 0
 {
 rw [if_pos c3] at H
 have c3b0 := decide_eq_true c3
 clear c3
 simp only [Option.some.injEq, Prod.mk.injEq] at H
 obtain ⟨rfl, rfl, rfl⟩ := H
 go_enter Try.func69, Try.ntmps69
 go_wp2
 go_ret
 exact ⟨ew, IsS134.T_ HI0 nN, lT HB gN, kT HK gN⟩
 }
 {
 rw [if_neg c3] at H
 have c3b0 := decide_eq_false c3
 clear c3
 by_cases c4 : a1 ≤ 256
 {
 rw [if_pos c4] at H
 have c4b0 := decide_eq_true c4
 clear c4
 obtain ⟨⟨t105, t106, t107⟩, A5, H⟩ := eb H
 try dsimp only at H
 by_cases c6 : a1 = 0
 {rw [if_pos c6] at H;exact absurd H (by simp)}
 {
 rw [if_neg c6] at H
 have c6b0 := beq_eq_false_iff_ne.mpr c6
 have c6b1 := bne_iff_ne.mpr c6
 simp only [Option.some.injEq, Prod.mk.injEq] at H
 obtain ⟨rfl, rfl, rfl⟩ := H
 go_enter Try.func69, Try.ntmps69
 go_wp2_with ((with_reducible refine gate_callee (f := 73) rfl ?_); refine gl (some 14) Try.func73 #[.pointer (some ⟨g, 0, none⟩)] ?_; (with_reducible refine (spec_l01Byte.calls g s0_0 s0_1 s0_2 t105 t106 t107 w0 _ ?side1 ?side2 A5.out).mono ?_); (case side1 => exact IsS134.T_ HI0 nN); (case side2 => exact lT HB gN); rintro e w7 ⟨rfl, hi, hb, hk⟩; refine ⟨_, rfl, ?_⟩; replace HK := ak (KeepBut.trans (kT HK gN) hk (.inl rfl)); replace HB := ak (hb); replace HI0 := ak (hi); (try clear hb); (try clear hk); (try clear hi))
 go_ret
 exact ⟨ew, IsS134.T_ HI0 nN, lT HB gN, kT HK gN⟩
 }
 }
 {
 rw [if_neg c4] at H
 have c4b0 := decide_eq_false c4
 clear c4
 obtain ⟨⟨t108, t109, t110⟩, A8, H⟩ := eb H
 try dsimp only at H
 obtain ⟨⟨t111, t112, t113⟩, A9, H⟩ := eb H
 try dsimp only at H
 obtain ⟨⟨t114, t115, t116⟩, A10, H⟩ := eb H
 try dsimp only at H
 obtain ⟨⟨t117, t118, t119⟩, A11, H⟩ := eb H
 try dsimp only at H
 by_cases c12 : a1 = 0
 {rw [if_pos c12] at H;exact absurd H (by simp)}
 {
 rw [if_neg c12] at H
 have c12b0 := beq_eq_false_iff_ne.mpr c12
 have c12b1 := bne_iff_ne.mpr c12
 simp only [Option.some.injEq, Prod.mk.injEq] at H
 obtain ⟨rfl, rfl, rfl⟩ := H
 go_enter Try.func69, Try.ntmps69
 go_wp2_with (first | ((with_reducible refine gate_callee (f := 73) rfl ?_); refine gl (some 18) Try.func73 #[.pointer (some ⟨g, 0, none⟩)] ?_; (with_reducible refine (spec_l01Byte.calls g s0_0 s0_1 s0_2 t108 t109 t110 w0 _ ?side1 ?side2 A8.out).mono ?_); (case side1 => exact IsS134.T_ HI0 nN); (case side2 => exact lT HB gN); rintro e w13 ⟨rfl, hi, hb, hk⟩; refine ⟨_, rfl, ?_⟩; replace HK := ak (KeepBut.trans (kT HK gN) hk (.inl rfl)); replace HB := ak (hb); replace HI0 := ak (hi); (try clear hb); (try clear hk); (try clear hi)) | ((with_reducible refine gate_callee (f := 73) rfl ?_); refine gl (some 20) Try.func73 #[.pointer (some ⟨g, 0, none⟩)] ?_; (with_reducible refine (spec_l01Byte.calls g s0_0 t109 t110 t111 t112 t113 w0 _ ?side1 ?side2 A9.out).mono ?_); (case side1 => exact IsS134.T_ HI0 nN); (case side2 => exact lT HB gN); rintro e w14 ⟨rfl, hi, hb, hk⟩; refine ⟨_, rfl, ?_⟩; replace HK := ak (KeepBut.trans (kT HK gN) hk (.inl rfl)); replace HB := ak (hb); replace HI0 := ak (hi); (try clear hb); (try clear hk); (try clear hi)) | ((with_reducible refine gate_callee (f := 73) rfl ?_); refine gl (some 22) Try.func73 #[.pointer (some ⟨g, 0, none⟩)] ?_; (with_reducible refine (spec_l01Byte.calls g s0_0 t112 t113 t114 t115 t116 w0 _ ?side1 ?side2 A10.out).mono ?_); (case side1 => exact IsS134.T_ HI0 nN); (case side2 => exact lT HB gN); rintro e w15 ⟨rfl, hi, hb, hk⟩; refine ⟨_, rfl, ?_⟩; replace HK := ak (KeepBut.trans (kT HK gN) hk (.inl rfl)); replace HB := ak (hb); replace HI0 := ak (hi); (try clear hb); (try clear hk); (try clear hi)) | ((with_reducible refine gate_callee (f := 73) rfl ?_); refine gl (some 24) Try.func73 #[.pointer (some ⟨g, 0, none⟩)] ?_; (with_reducible refine (spec_l01Byte.calls g s0_0 t115 t116 t117 t118 t119 w0 _ ?side1 ?side2 A11.out).mono ?_); (case side1 => exact IsS134.T_ HI0 nN); (case side2 => exact lT HB gN); rintro e w16 ⟨rfl, hi, hb, hk⟩; refine ⟨_, rfl, ?_⟩; replace HK := ak (KeepBut.trans (kT HK gN) hk (.inl rfl)); replace HB := ak (hb); replace HI0 := ak (hi); (try clear hb); (try clear hk); (try clear hi)))
 go_ret
 exact ⟨ew, IsS134.T_ HI0 nN, lT HB gN, kT HK gN⟩
 }
 }
 }
/-! ### spec_l01Once: function 88 -/
def spec_l01Once.f (s0_0 : List Int) (s0_1 : Int) (s0_2 : Int) (a1 : Int) : Option (Bool × Int × Int) := (spec_l01Below.f s0_0 s0_1 s0_2 a1).bind fun bt120 => (some ((bt120.1 == 0), bt120.2.1, bt120.2.2))
theorem spec_l01Once.calls (g : Nat) (s0_0 : List Int) (s0_1 : Int) (s0_2 : Int) (a1 : Int) (r1 : Bool) (r2 : Int) (r3 : Int) (w0 w : World) (hI : IsS134 w0 w g s0_0 s0_1 s0_2) (hB : Below w0.heap.size w0 w) (h : spec_l01Once.f s0_0 s0_1 s0_2 a1 = some (r1, r2, r3)) :
  Calls Try.prog 88 #[.pointer (some ⟨g, 0, none⟩), .int .i64 a1] w fun e w' => e = .returned (.bool r1) ∧ IsS134 w0 w' g s0_0 r2 r3 ∧ Below w0.heap.size w0 w' ∧ KeepBut w w' g none := by
 have HI0 := Aside0.mk hI
 have HK := ak (KeepBut.refl w g none)
 have HL := Aside0.mk hB.size
 clear hI
 have HW0 := Aside0.mk hB.size
 have HB := Aside0.mk hB
 clear hB
 have H := h
 clear h
 unfold spec_l01Once.f at H
 obtain ⟨⟨t120, t121, t122⟩, A3, H⟩ := eb H
 try dsimp only at H
 simp only [Option.some.injEq, Prod.mk.injEq] at H
 obtain ⟨rfl, rfl, rfl⟩ := H
 go_enter Try.func88, Try.ntmps88
 go_wp2_with ((with_reducible refine gate_callee (f := 69) rfl ?_); refine gl (some 7) Try.func69 #[.pointer (some ⟨g, 0, none⟩), .int .i64 a1] ?_; (with_reducible refine (spec_l01Below.calls g s0_0 s0_1 s0_2 a1 t120 t121 t122 w0 _ ?side1 ?side2 A3.out).mono ?_); (case side1 => exact IsS134.T_ HI0 nN); (case side2 => exact lT HB gN); rintro e w4 ⟨rfl, hi, hb, hk⟩; refine ⟨_, rfl, ?_⟩; replace HK := ak (KeepBut.trans (kT HK gN) hk (.inl rfl)); replace HB := ak (hb); replace HI0 := ak (hi); (try clear hb); (try clear hk); (try clear hi))
 go_ret
 exact ⟨ew, IsS134.T_ HI0 nN, lT HB gN, kT HK gN⟩
/-! ### spec_l01Pick: function 71 -/
def spec_l01Pick.f (s0_0 : List Int) (s0_1 : Int) (s0_2 : Int) (l1 : List ByteArray) : Option (ByteArray × Int × Int) := (spec_l01Below.f s0_0 s0_1 s0_2 (l1.length : Int)).bind fun bt123 => (if 0 ≤ bt123.1 then (if bt123.1 < (l1.length : Int) then (some (rdOf ByteArray.empty l1 bt123.1, bt123.2.1, bt123.2.2)) else (none)) else (none))
theorem spec_l01Pick.calls (g : Nat) (s0_0 : List Int) (s0_1 : Int) (s0_2 : Int) (A1 : Option Addr) (c1 : Nat) (l1 : List ByteArray) (r1 : ByteArray) (r2 : Int) (r3 : Int) (w0 w : World) (hI : IsS134 w0 w g s0_0 s0_1 s0_2) (hB : Below w0.heap.size w0 w) (hr1 : Kd.C Kd.string w A1 l1.length l1) (hc1 : l1.length ≤ c1) (hf1 : ∀ ad, A1 = some ad → 0 < l1.length → ad.block ≠ g) (h : spec_l01Pick.f s0_0 s0_1 s0_2 l1 = some (r1, r2, r3)) :
  Calls Try.prog 71 #[.pointer (some ⟨g, 0, none⟩), .slice A1 l1.length c1] w fun e w' => e = .returned (.string r1) ∧ IsS134 w0 w' g s0_0 r2 r3 ∧ Below w0.heap.size w0 w' ∧ KeepBut w w' g none := by
 have HR1 := Aside0.mk hr1
 have HC1 := Aside0.mk hc1
 clear hr1 hc1
 have HI0 := Aside0.mk hI
 have HK := ak (KeepBut.refl w g none)
 have HL := Aside0.mk hB.size
 clear hI
 have HW0 := Aside0.mk hB.size
 have HB := Aside0.mk hB
 clear hB
 have H := h
 clear h
 unfold spec_l01Pick.f at H
 obtain ⟨⟨t123, t124, t125⟩, A3, H⟩ := eb H
 try dsimp only at H
 by_cases c4 : 0 ≤ t123
 {
 rw [if_pos c4] at H
 have c4b0 := decide_eq_true c4
 clear c4
 by_cases c5 : t123 < (l1.length : Int)
 {
 rw [if_pos c5] at H
 have c5b0 := decide_eq_true c5
 clear c5
 simp only [Option.some.injEq, Prod.mk.injEq] at H
 obtain ⟨rfl, rfl, rfl⟩ := H
 go_enter Try.func71, Try.ntmps71
 go_wp2_with ((with_reducible refine gate_callee (f := 69) rfl ?_); refine gl (some 9) Try.func69 #[.pointer (some ⟨g, 0, none⟩), .int .i64 (l1.length : Int)] ?_; (with_reducible refine (spec_l01Below.calls g s0_0 s0_1 s0_2 (l1.length : Int) t123 t124 t125 w0 _ ?side1 ?side2 A3.out).mono ?_); (case side1 => exact IsS134.T_ HI0 nN); (case side2 => exact lT HB gN); rintro e w6 ⟨rfl, hi, hb, hk⟩; refine ⟨_, rfl, ?_⟩; replace HK := ak (KeepBut.trans (kT HK gN) hk (.inl rfl)); replace HB := ak (hb); replace HI0 := ak (hi); (try clear hb); (try clear hk); (try clear hi); have p126 : 0 ≤ (t123 : Int) := oda; have q126 : t123 < (l1.length : Int) := oda; obtain ⟨ad126, e126, hx126_0⟩ := Kd.at_string HR1.out t123 p126 q126; cases e126; replace hx126_0 := keep_cell HK.out hx126_0 (by first | (rw [add_block]; exact hf1 _ rfl (by omega)) | exact hf1 _ rfl (by omega) | exact hf1 ad126 rfl (by omega)); replace p126 := eq_true p126; replace q126 := eq_true q126)
 go_ret
 exact ⟨ew, IsS134.T_ HI0 nN, lT HB gN, kT HK gN⟩
 }
 {rw [if_neg c5] at H;exact absurd H (by simp)}
 }
 {rw [if_neg c4] at H;exact absurd H (by simp)}
/-! ### spec_l01PickInt: function 116 -/
def spec_l01PickInt.f (s0_0 : List Int) (s0_1 : Int) (s0_2 : Int) (l1 : List Int) : Option (Int × Int × Int) := (spec_l01Below.f s0_0 s0_1 s0_2 (l1.length : Int)).bind fun bt127 => (if 0 ≤ bt127.1 then (if bt127.1 < (l1.length : Int) then (some (rd l1 bt127.1, bt127.2.1, bt127.2.2)) else (none)) else (none))
theorem spec_l01PickInt.calls (g : Nat) (s0_0 : List Int) (s0_1 : Int) (s0_2 : Int) (A1 : Option Addr) (c1 : Nat) (l1 : List Int) (r1 : Int) (r2 : Int) (r3 : Int) (w0 w : World) (hI : IsS134 w0 w g s0_0 s0_1 s0_2) (hB : Below w0.heap.size w0 w) (hr1 : Kd.C (Kd.int .i64) w A1 l1.length l1) (hc1 : l1.length ≤ c1) (hf1 : ∀ ad, A1 = some ad → 0 < l1.length → ad.block ≠ g) (h : spec_l01PickInt.f s0_0 s0_1 s0_2 l1 = some (r1, r2, r3)) :
  Calls Try.prog 116 #[.pointer (some ⟨g, 0, none⟩), .slice A1 l1.length c1] w fun e w' => e = .returned (.int .i64 r1) ∧ IsS134 w0 w' g s0_0 r2 r3 ∧ Below w0.heap.size w0 w' ∧ KeepBut w w' g none := by
 have HR1 := Aside0.mk hr1
 have HC1 := Aside0.mk hc1
 clear hr1 hc1
 have HI0 := Aside0.mk hI
 have HK := ak (KeepBut.refl w g none)
 have HL := Aside0.mk hB.size
 clear hI
 have HW0 := Aside0.mk hB.size
 have HB := Aside0.mk hB
 clear hB
 have H := h
 clear h
 unfold spec_l01PickInt.f at H
 obtain ⟨⟨t127, t128, t129⟩, A3, H⟩ := eb H
 try dsimp only at H
 by_cases c4 : 0 ≤ t127
 {
 rw [if_pos c4] at H
 have c4b0 := decide_eq_true c4
 clear c4
 by_cases c5 : t127 < (l1.length : Int)
 {
 rw [if_pos c5] at H
 have c5b0 := decide_eq_true c5
 clear c5
 simp only [Option.some.injEq, Prod.mk.injEq] at H
 obtain ⟨rfl, rfl, rfl⟩ := H
 go_enter Try.func116, Try.ntmps116
 go_wp2_with ((with_reducible refine gate_callee (f := 69) rfl ?_); refine gl (some 9) Try.func69 #[.pointer (some ⟨g, 0, none⟩), .int .i64 (l1.length : Int)] ?_; (with_reducible refine (spec_l01Below.calls g s0_0 s0_1 s0_2 (l1.length : Int) t127 t128 t129 w0 _ ?side1 ?side2 A3.out).mono ?_); (case side1 => exact IsS134.T_ HI0 nN); (case side2 => exact lT HB gN); rintro e w6 ⟨rfl, hi, hb, hk⟩; refine ⟨_, rfl, ?_⟩; replace HK := ak (KeepBut.trans (kT HK gN) hk (.inl rfl)); replace HB := ak (hb); replace HI0 := ak (hi); (try clear hb); (try clear hk); (try clear hi); have p130 : 0 ≤ (t127 : Int) := oda; have q130 : t127 < (l1.length : Int) := oda; obtain ⟨ad130, e130, hx130_0⟩ := Kd.at_int HR1.out t127 p130 q130; cases e130; replace hx130_0 := keep_cell HK.out hx130_0 (by first | (rw [add_block]; exact hf1 _ rfl (by omega)) | exact hf1 _ rfl (by omega) | exact hf1 ad130 rfl (by omega)); replace p130 := eq_true p130; replace q130 := eq_true q130)
 go_ret
 exact ⟨ew, IsS134.T_ HI0 nN, lT HB gN, kT HK gN⟩
 }
 {rw [if_neg c5] at H;exact absurd H (by simp)}
 }
 {rw [if_neg c4] at H;exact absurd H (by simp)}
/-! ### spec_l06Text: function 117 -/
def spec_l06Text.f (s0_0 : List Int) (s0_1 : Int) (s0_2 : Int) : Option (ByteArray × Int × Int) := (spec_l01Pick.f s0_0 s0_1 s0_2 (([(⟨#[104, 101, 108, 108, 111]⟩ : ByteArray), (⟨#[102, 114, 111, 109, 58, 32, 97, 110, 110, 10, 10, 104, 105]⟩ : ByteArray), (⟨#[115, 117, 98, 106, 101, 99, 116, 58, 32, 120, 10, 10, 98, 111, 100, 121, 32, 111, 102, 32, 105, 116, 10, 46, 100, 111, 116, 10]⟩ : ByteArray), (⟨#[]⟩ : ByteArray), (⟨#[120, 10, 46, 46, 10]⟩ : ByteArray)] : List ByteArray))).bind fun bt134 => (some (bt134.1, bt134.2.1, bt134.2.2))
theorem spec_l06Text.calls (g : Nat) (s0_0 : List Int) (s0_1 : Int) (s0_2 : Int) (r1 : ByteArray) (r2 : Int) (r3 : Int) (w0 w : World) (hI : IsS134 w0 w g s0_0 s0_1 s0_2) (hB : Below w0.heap.size w0 w) (h : spec_l06Text.f s0_0 s0_1 s0_2 = some (r1, r2, r3)) :
  Calls Try.prog 117 #[.pointer (some ⟨g, 0, none⟩)] w fun e w' => e = .returned (.string r1) ∧ IsS134 w0 w' g s0_0 r2 r3 ∧ Below w0.heap.size w0 w' ∧ KeepBut w w' g none := by
 have HI0 := Aside0.mk hI
 have HK := ak (KeepBut.refl w g none)
 have HL := Aside0.mk hB.size
 clear hI
 have HW0 := Aside0.mk hB.size
 have HB := Aside0.mk hB
 clear hB
 have H := h
 clear h
 unfold spec_l06Text.f at H
 obtain ⟨y131, hy131⟩ : ∃ y_ : List ByteArray, y_ = (([(⟨#[104, 101, 108, 108, 111]⟩ : ByteArray), (⟨#[102, 114, 111, 109, 58, 32, 97, 110, 110, 10, 10, 104, 105]⟩ : ByteArray), (⟨#[115, 117, 98, 106, 101, 99, 116, 58, 32, 120, 10, 10, 98, 111, 100, 121, 32, 111, 102, 32, 105, 116, 10, 46, 100, 111, 116, 10]⟩ : ByteArray), (⟨#[]⟩ : ByteArray), (⟨#[120, 10, 46, 46, 10]⟩ : ByteArray)] : List ByteArray)) := ⟨_, rfl⟩
 replace H : ((spec_l01Pick.f s0_0 s0_1 s0_2 y131).bind fun bt134 => (some (bt134.1, bt134.2.1, bt134.2.2))) = some (r1, r2, r3) := by first | (rw [hy131]; with_reducible exact H) | (have H2_ := (Option.bind_some _ _).symm.trans H; rw [hy131]; with_reducible exact H2_) | (have H2_ := (Option.bind_some _ _).symm.trans H; with_reducible exact H2_) | with_reducible exact H | (rw [hy131]; exact H) | exact H
 have Ny131 := Aside0.mk hy131
 clear hy131
 obtain ⟨⟨t134, t135, t136⟩, A2, H⟩ := eb H
 try dsimp only at H
 simp only [Option.some.injEq, Prod.mk.injEq] at H
 obtain ⟨rfl, rfl, rfl⟩ := H
 go_enter Try.func117, Try.ntmps117
 go_wp2_with (first | ((with_reducible refine gate_dst (N := 4) rfl ?_); refine Kd.R_lit Kd.string _ 9 ?hg (N := 4) ?hd (xs := ([(⟨#[104, 101, 108, 108, 111]⟩ : ByteArray), (⟨#[102, 114, 111, 109, 58, 32, 97, 110, 110, 10, 10, 104, 105]⟩ : ByteArray), (⟨#[115, 117, 98, 106, 101, 99, 116, 58, 32, 120, 10, 10, 98, 111, 100, 121, 32, 111, 102, 32, 105, 116, 10, 46, 100, 111, 116, 10]⟩ : ByteArray), (⟨#[]⟩ : ByteArray), (⟨#[120, 10, 46, 46, 10]⟩ : ByteArray)] : List ByteArray)) (inner := [.string (⟨#[104, 101, 108, 108, 111]⟩ : ByteArray), .string (⟨#[102, 114, 111, 109, 58, 32, 97, 110, 110, 10, 10, 104, 105]⟩ : ByteArray), .string (⟨#[115, 117, 98, 106, 101, 99, 116, 58, 32, 120, 10, 10, 98, 111, 100, 121, 32, 111, 102, 32, 105, 116, 10, 46, 100, 111, 116, 10]⟩ : ByteArray), .string (⟨#[]⟩ : ByteArray), .string (⟨#[120, 10, 46, 46, 10]⟩ : ByteArray)]) (ok := fun _ => True) (okp := fun _ => True) ?hr ?hp (fun _ hk => hk) trivial (Below.refl _ _) (Nat.le_refl _) (by simp) ?_; (case hd => rfl); (case hg => rfl); (case hr => first | (go_simp; done) | (go_simp; rfl)); (case hp => exact hpR); intro v132 w3 ho4 hb hg_ hnew_; clear hg_ hnew_; (first | rw [← Ny131.out] at ho4 | (simp only [Int.reduceToNat] at ho4; rw [← Ny131.out] at ho4)); replace HO133 := ak (Kd.R_lower ho4 (keep_size (w := w) (g := g) (row := none) (kT HK gN))); replace HK := ak (KeepBut.trans (kT HK gN) (KeepBut.of_below hb g none) (.inl rfl)); replace HB := ak (below_step (lT HB gN) hb); replace HI0 := ak (IsS134.below (IsS134.T_ HI0 nN) hb); clear hb ho4; obtain ⟨Ao5, co5, eo5⟩ := Kd.R_slice HO133.out; subst eo5) | ((with_reducible refine gate_callee (f := 71) rfl ?_); refine gl (some 5) Try.func71 #[.pointer (some ⟨g, 0, none⟩), .slice Ao5 y131.length co5] ?_; (with_reducible refine (spec_l01Pick.calls g s0_0 s0_1 s0_2 _ _ y131 t134 t135 t136 w0 _ ?side1 ?side2 ?side3 ?side4 ?side5 A2.out).mono ?_); (case side1 => exact IsS134.T_ HI0 nN); (case side2 => exact lT HB gN); (case side3 => exact cG (Kd.R_reads' HO133.out).2.2); (case side4 => exact (Kd.R_reads' HO133.out).2.1); (case side5 => exact far_slice (IsS134.own_ne HI0.out HO133.out (by decide))); rintro e w6 ⟨rfl, hi, hb, hk⟩; refine ⟨_, rfl, ?_⟩; replace HO133 := IsS134.kR hk (IsS134.T_ HI0 nN) (rG HO133); replace HK := ak (KeepBut.trans (kT HK gN) hk (.inl rfl)); replace HB := ak (hb); replace HI0 := ak (hi); (try clear hb); (try clear hk); (try clear hi)))
 go_ret
 exact ⟨ew, IsS134.T_ HI0 nN, lT HB gN, kT HK gN⟩
/-! ### spec_l06Rec: function 99 -/
def spec_l06Rec.f (s0_0 : List Int) (s0_1 : Int) (s0_2 : Int) : Option (Int × Int × Int × Int × Int × ByteArray × ByteArray × ByteArray × Int × Int) := (spec_l01PickInt.f s0_0 s0_1 s0_2 (([1, 1, 2, 3, 3, 3, 3, 4, 4, 5, 5] : List Int))).bind fun bt141 => ((spec_l01Below.f s0_0 bt141.2.1 bt141.2.2 3).bind fun bt144 => (if bt141.1 = 1 then ((spec_l01Pick.f s0_0 bt144.2.1 bt144.2.2 (([(⟨#[97, 110, 110]⟩ : ByteArray), (⟨#[98, 111, 98]⟩ : ByteArray)] : List ByteArray))).bind fun bt151 => ((spec_l01Pick.f s0_0 bt151.2.1 bt151.2.2 (([(⟨#[105, 110, 98, 111, 120]⟩ : ByteArray), (⟨#[119, 111, 114, 107]⟩ : ByteArray)] : List ByteArray))).bind fun bt157 => ((spec_l01Below.f s0_0 bt157.2.1 bt157.2.2 6).bind fun bt160 => (some (bt141.1, wrap64 (1 + bt144.1), 0, wrap64 (1 + bt160.1), 0, bt151.1, bt157.1, (⟨#[]⟩ : ByteArray), bt160.2.1, bt160.2.2))))) else (if bt141.1 = 3 then ((spec_l01Below.f s0_0 bt144.2.1 bt144.2.2 5).bind fun bt163 => ((spec_l01Below.f s0_0 bt163.2.1 bt163.2.2 8).bind fun bt166 => ((spec_l06Text.f s0_0 bt166.2.1 bt166.2.2).bind fun bt169 => (some (bt141.1, wrap64 (1 + bt144.1), wrap64 (1 + bt163.1), 0, bt166.1, (⟨#[]⟩ : ByteArray), (⟨#[]⟩ : ByteArray), bt169.1, bt169.2.1, bt169.2.2))))) else (if bt141.1 = 4 then ((spec_l01Below.f s0_0 bt144.2.1 bt144.2.2 5).bind fun bt172 => ((spec_l01Below.f s0_0 bt172.2.1 bt172.2.2 8).bind fun bt175 => (some (bt141.1, wrap64 (1 + bt144.1), wrap64 (1 + bt172.1), 0, bt175.1, (⟨#[]⟩ : ByteArray), (⟨#[]⟩ : ByteArray), (⟨#[]⟩ : ByteArray), bt175.2.1, bt175.2.2)))) else (if bt141.1 = 5 then ((spec_l01Below.f s0_0 bt144.2.1 bt144.2.2 5).bind fun bt178 => (some (bt141.1, wrap64 (1 + bt144.1), wrap64 (1 + bt178.1), 0, 0, (⟨#[]⟩ : ByteArray), (⟨#[]⟩ : ByteArray), (⟨#[]⟩ : ByteArray), bt178.2.1, bt178.2.2))) else (some (bt141.1, wrap64 (1 + bt144.1), 0, 0, 0, (⟨#[]⟩ : ByteArray), (⟨#[]⟩ : ByteArray), (⟨#[]⟩ : ByteArray), bt144.2.1, bt144.2.2)))))))
theorem spec_l06Rec.calls (g : Nat) (s0_0 : List Int) (s0_1 : Int) (s0_2 : Int) (r1 : Int) (r2 : Int) (r3 : Int) (r4 : Int) (r5 : Int) (r6 : ByteArray) (r7 : ByteArray) (r8 : ByteArray) (r9 : Int) (r10 : Int) (w0 w : World) (hI : IsS134 w0 w g s0_0 s0_1 s0_2) (hB : Below w0.heap.size w0 w) (h : spec_l06Rec.f s0_0 s0_1 s0_2 = some (r1, r2, r3, r4, r5, r6, r7, r8, r9, r10)) :
  Calls Try.prog 99 #[.pointer (some ⟨g, 0, none⟩)] w fun e w' => e = .returned (.agg #[.int .i64 r1, .int .i64 r2, .int .i64 r3, .int .i64 r4, .int .i64 r5, .string r6, .string r7, .string r8]) ∧ IsS134 w0 w' g s0_0 r9 r10 ∧ Below w0.heap.size w0 w' ∧ KeepBut w w' g none := by
 have hu23 := Try.underlying23
 have HI0 := Aside0.mk hI
 have HK := ak (KeepBut.refl w g none)
 have HL := Aside0.mk hB.size
 clear hI
 have HW0 := Aside0.mk hB.size
 have HB := Aside0.mk hB
 clear hB
 have H := h
 clear h
 unfold spec_l06Rec.f at H
 obtain ⟨y138, hy138⟩ : ∃ y_ : List Int, y_ = (([1, 1, 2, 3, 3, 3, 3, 4, 4, 5, 5] : List Int)) := ⟨_, rfl⟩
 replace H : ((spec_l01PickInt.f s0_0 s0_1 s0_2 y138).bind fun bt141 => ((spec_l01Below.f s0_0 bt141.2.1 bt141.2.2 3).bind fun bt144 => (if bt141.1 = 1 then ((spec_l01Pick.f s0_0 bt144.2.1 bt144.2.2 (([(⟨#[97, 110, 110]⟩ : ByteArray), (⟨#[98, 111, 98]⟩ : ByteArray)] : List ByteArray))).bind fun bt151 => ((spec_l01Pick.f s0_0 bt151.2.1 bt151.2.2 (([(⟨#[105, 110, 98, 111, 120]⟩ : ByteArray), (⟨#[119, 111, 114, 107]⟩ : ByteArray)] : List ByteArray))).bind fun bt157 => ((spec_l01Below.f s0_0 bt157.2.1 bt157.2.2 6).bind fun bt160 => (some (bt141.1, wrap64 (1 + bt144.1), 0, wrap64 (1 + bt160.1), 0, bt151.1, bt157.1, (⟨#[]⟩ : ByteArray), bt160.2.1, bt160.2.2))))) else (if bt141.1 = 3 then ((spec_l01Below.f s0_0 bt144.2.1 bt144.2.2 5).bind fun bt163 => ((spec_l01Below.f s0_0 bt163.2.1 bt163.2.2 8).bind fun bt166 => ((spec_l06Text.f s0_0 bt166.2.1 bt166.2.2).bind fun bt169 => (some (bt141.1, wrap64 (1 + bt144.1), wrap64 (1 + bt163.1), 0, bt166.1, (⟨#[]⟩ : ByteArray), (⟨#[]⟩ : ByteArray), bt169.1, bt169.2.1, bt169.2.2))))) else (if bt141.1 = 4 then ((spec_l01Below.f s0_0 bt144.2.1 bt144.2.2 5).bind fun bt172 => ((spec_l01Below.f s0_0 bt172.2.1 bt172.2.2 8).bind fun bt175 => (some (bt141.1, wrap64 (1 + bt144.1), wrap64 (1 + bt172.1), 0, bt175.1, (⟨#[]⟩ : ByteArray), (⟨#[]⟩ : ByteArray), (⟨#[]⟩ : ByteArray), bt175.2.1, bt175.2.2)))) else (if bt141.1 = 5 then ((spec_l01Below.f s0_0 bt144.2.1 bt144.2.2 5).bind fun bt178 => (some (bt141.1, wrap64 (1 + bt144.1), wrap64 (1 + bt178.1), 0, 0, (⟨#[]⟩ : ByteArray), (⟨#[]⟩ : ByteArray), (⟨#[]⟩ : ByteArray), bt178.2.1, bt178.2.2))) else (some (bt141.1, wrap64 (1 + bt144.1), 0, 0, 0, (⟨#[]⟩ : ByteArray), (⟨#[]⟩ : ByteArray), (⟨#[]⟩ : ByteArray), bt144.2.1, bt144.2.2)))))))) = some (r1, r2, r3, r4, r5, r6, r7, r8, r9, r10) := by first | (rw [hy138]; with_reducible exact H) | (have H2_ := (Option.bind_some _ _).symm.trans H; rw [hy138]; with_reducible exact H2_) | (have H2_ := (Option.bind_some _ _).symm.trans H; with_reducible exact H2_) | with_reducible exact H | (rw [hy138]; exact H) | exact H
 have Ny138 := Aside0.mk hy138
 clear hy138
 obtain ⟨⟨t141, t142, t143⟩, A2, H⟩ := eb H
 try dsimp only at H
 have HS_ := Aside0.mk H
 clear H
 go_enter Try.func99, Try.ntmps99
 go_wp2_with (first | ((with_reducible refine gate_dst (N := 2) rfl ?_); refine bx 2 #[.int .i64 0, .int .i64 0, .int .i64 0, .int .i64 0, .int .i64 0, .string (⟨#[]⟩ : ByteArray), .string (⟨#[]⟩ : ByteArray), .string (⟨#[]⟩ : ByteArray)] 23 ?_; intro gb137 hg w8 hbox hb; replace HB := ak (below_step (lT HB gN) hb); replace BK137 := ak (hbox); replace GW137 := gW hg (kT HK gN); replace GE137 := gE HW0 GW137; replace HK := ak (KeepBut.trans (kT HK gN) (KeepBut.of_below hb g none) (.inl rfl)); replace NB0_137 := nS hg (IsS134.lt (IsS134.T_ HI0 nN)); replace NB137_0 := mS hg (IsS134.lt (IsS134.T_ HI0 nN)); replace HI0 := ak (IsS134.below (IsS134.T_ HI0 nN) hb); clear hb hbox hg) | ((with_reducible refine gate_dst (N := 5) rfl ?_); refine Kd.R_lit (Kd.int .i64) _ 3 ?hg (N := 5) ?hd (xs := ([1, 1, 2, 3, 3, 3, 3, 4, 4, 5, 5] : List Int)) (inner := [.int .i64 1, .int .i64 1, .int .i64 2, .int .i64 3, .int .i64 3, .int .i64 3, .int .i64 3, .int .i64 4, .int .i64 4, .int .i64 5, .int .i64 5]) (ok := fun _ => True) (okp := fun _ => True) ?hr ?hp (fun _ hk => hk) trivial (Below.refl _ _) (Nat.le_refl _) (by simp) ?_; (case hd => rfl); (case hg => rfl); (case hr => first | (go_simp; done) | (go_simp; rfl)); (case hp => exact hpR); intro v139 w9 ho10 hb hg_ hnew_; clear hg_ hnew_; (first | rw [← Ny138.out] at ho10 | (simp only [Int.reduceToNat] at ho10; rw [← Ny138.out] at ho10)); replace HO140 := ak (Kd.R_lower ho10 (keep_size (w := w) (g := g) (row := none) (kT HK (gC GW137 gN)))); replace BK137 := bB BK137 hb; replace HK := ak (KeepBut.trans (kT HK (gC GW137 gN)) (KeepBut.of_below hb g none) (.inl rfl)); replace HB := ak (below_step (lT HB (gC GE137 gN)) hb); replace HI0 := ak (IsS134.below (IsS134.T_ HI0 (nC NB0_137 nN)) hb); clear hb ho10; obtain ⟨Ao11, co11, eo11⟩ := Kd.R_slice HO140.out; subst eo11) | ((with_reducible refine gate_callee (f := 116) rfl ?_); refine gl (some 6) Try.func116 #[.pointer (some ⟨g, 0, none⟩), .slice Ao11 y138.length co11] ?_; (with_reducible refine (spec_l01PickInt.calls g s0_0 s0_1 s0_2 _ _ y138 _ _ _ w0 _ ?side1 ?side2 ?side3 ?side4 ?side5 A2.out).mono ?_); (case side1 => exact IsS134.T_ HI0 (nC NB0_137 nN)); (case side2 => exact lT HB (gC GE137 gN)); (case side3 => exact cG (Kd.R_reads' HO140.out).2.2); (case side4 => exact (Kd.R_reads' HO140.out).2.1); (case side5 => exact far_slice (IsS134.own_ne HI0.out HO140.out (by decide))); rintro e w12 ⟨rfl, hi, hb, hk⟩; refine ⟨_, rfl, ?_⟩; replace BK137 := kB hk (bG BK137) NB137_0; replace HO140 := IsS134.kR hk (IsS134.T_ HI0 (nC NB0_137 nN)) (rG HO140); replace HK := ak (KeepBut.trans (kT HK (gC GW137 gN)) hk (.inl rfl)); replace HB := ak (hb); replace HI0 := ak (hi); (try clear hb); (try clear hk); (try clear hi); refine Stop.out ?_))
 have H := HS_.out
 clear HS_
 obtain ⟨⟨t144, t145, t146⟩, A3, H⟩ := eb H
 try dsimp only at H
 have HS_ := Aside0.mk H
 clear H
 refine ⟨?_⟩
 go_wp2_with ((with_reducible refine gate_callee (f := 69) rfl ?_); refine gl (some 8) Try.func69 #[.pointer (some ⟨g, 0, none⟩), .int .i64 3] ?_; (with_reducible refine (spec_l01Below.calls g s0_0 t142 t143 3 _ _ _ w0 _ ?side1 ?side2 A3.out).mono ?_); (case side1 => exact IsS134.T_ HI0 (nC NB0_137 nN)); (case side2 => exact lT HB (gC GE137 gN)); rintro e w13 ⟨rfl, hi, hb, hk⟩; refine ⟨_, rfl, ?_⟩; replace BK137 := kB hk (bG BK137) NB137_0; replace HO140 := IsS134.kR hk (IsS134.T_ HI0 (nC NB0_137 nN)) (rG HO140); replace HK := ak (KeepBut.trans (kT HK (gC GW137 gN)) hk (.inl rfl)); replace HB := ak (hb); replace HI0 := ak (hi); (try clear hb); (try clear hk); (try clear hi); refine Stop.out ?_)
 have H := HS_.out
 clear HS_
 by_cases c4 : t141 = 1
 {
 rw [if_pos c4] at H
 have c4b0 := beq_iff_eq.mpr c4
 have c4b1 := bne_eq_false_iff_eq.mpr c4
 clear c4
 obtain ⟨y148, hy148⟩ : ∃ y_ : List ByteArray, y_ = (([(⟨#[97, 110, 110]⟩ : ByteArray), (⟨#[98, 111, 98]⟩ : ByteArray)] : List ByteArray)) := ⟨_, rfl⟩
 replace H : ((spec_l01Pick.f s0_0 t145 t146 y148).bind fun bt151 => ((spec_l01Pick.f s0_0 bt151.2.1 bt151.2.2 (([(⟨#[105, 110, 98, 111, 120]⟩ : ByteArray), (⟨#[119, 111, 114, 107]⟩ : ByteArray)] : List ByteArray))).bind fun bt157 => ((spec_l01Below.f s0_0 bt157.2.1 bt157.2.2 6).bind fun bt160 => (some (t141, wrap64 (1 + t144), 0, wrap64 (1 + bt160.1), 0, bt151.1, bt157.1, (⟨#[]⟩ : ByteArray), bt160.2.1, bt160.2.2))))) = some (r1, r2, r3, r4, r5, r6, r7, r8, r9, r10) := by first | (rw [hy148]; with_reducible exact H) | (have H2_ := (Option.bind_some _ _).symm.trans H; rw [hy148]; with_reducible exact H2_) | (have H2_ := (Option.bind_some _ _).symm.trans H; with_reducible exact H2_) | with_reducible exact H | (rw [hy148]; exact H) | exact H
 have Ny148 := Aside0.mk hy148
 clear hy148
 obtain ⟨⟨t151, t152, t153⟩, A5, H⟩ := eb H
 try dsimp only at H
 obtain ⟨y154, hy154⟩ : ∃ y_ : List ByteArray, y_ = (([(⟨#[105, 110, 98, 111, 120]⟩ : ByteArray), (⟨#[119, 111, 114, 107]⟩ : ByteArray)] : List ByteArray)) := ⟨_, rfl⟩
 replace H : ((spec_l01Pick.f s0_0 t152 t153 y154).bind fun bt157 => ((spec_l01Below.f s0_0 bt157.2.1 bt157.2.2 6).bind fun bt160 => (some (t141, wrap64 (1 + t144), 0, wrap64 (1 + bt160.1), 0, t151, bt157.1, (⟨#[]⟩ : ByteArray), bt160.2.1, bt160.2.2)))) = some (r1, r2, r3, r4, r5, r6, r7, r8, r9, r10) := by first | (rw [hy154]; with_reducible exact H) | (have H2_ := (Option.bind_some _ _).symm.trans H; rw [hy154]; with_reducible exact H2_) | (have H2_ := (Option.bind_some _ _).symm.trans H; with_reducible exact H2_) | with_reducible exact H | (rw [hy154]; exact H) | exact H
 have Ny154 := Aside0.mk hy154
 clear hy154
 obtain ⟨⟨t157, t158, t159⟩, A6, H⟩ := eb H
 try dsimp only at H
 obtain ⟨⟨t160, t161, t162⟩, A7, H⟩ := eb H
 try dsimp only at H
 simp only [Option.some.injEq, Prod.mk.injEq] at H
 obtain ⟨rfl, rfl, rfl, rfl, rfl, rfl, rfl, rfl, rfl, rfl⟩ := H
 refine ⟨?_⟩
 go_wp2_with (first | ((with_reducible refine gate_dst (N := 3) rfl ?_); refine bx 3 #[.int .i64 0, .int .i64 0, .int .i64 0, .int .i64 0, .int .i64 0, .string (⟨#[]⟩ : ByteArray), .string (⟨#[]⟩ : ByteArray), .string (⟨#[]⟩ : ByteArray)] 23 ?_; intro gb147 hg w14 hbox hb; replace HO140 := rB HO140 hb; replace HB := ak (below_step (lT HB (gC GE137 gN)) hb); replace BK147 := ak (hbox); replace GW147 := gW hg (kT HK (gC GW137 gN)); replace GE147 := gE HW0 GW147; replace HK := ak (KeepBut.trans (kT HK (gC GW137 gN)) (KeepBut.of_below hb g none) (.inl rfl)); replace NB137_147 := ak (nl hg (bG BK137)); replace NB147_137 := ak (ng hg (bG BK137)); replace BK137 := bB BK137 hb; replace NB0_147 := nS hg (IsS134.lt (IsS134.T_ HI0 (nC NB0_137 nN))); replace NB147_0 := mS hg (IsS134.lt (IsS134.T_ HI0 (nC NB0_137 nN))); replace HI0 := ak (IsS134.below (IsS134.T_ HI0 (nC NB0_137 nN)) hb); clear hb hbox hg; have hnb15 := NB147_137.out; have hnc15 := NB137_147.out; have hnb16 := NB147_0.out; have hnc16 := NB0_147.out; obtain ⟨_, _, _, _, _, _, _, _, _, _, _, _, _, _, _, _⟩ := bC8 BK147) | ((with_reducible refine gate_dst (N := 16) rfl ?_); refine Kd.R_lit Kd.string _ 9 ?hg (N := 16) ?hd (xs := ([(⟨#[97, 110, 110]⟩ : ByteArray), (⟨#[98, 111, 98]⟩ : ByteArray)] : List ByteArray)) (inner := [.string (⟨#[97, 110, 110]⟩ : ByteArray), .string (⟨#[98, 111, 98]⟩ : ByteArray)]) (ok := fun _ => True) (okp := fun _ => True) ?hr ?hp (fun _ hk => hk) trivial (Below.refl _ _) (Nat.le_refl _) (by simp) ?_; (case hd => rfl); (case hg => rfl); (case hr => first | (go_simp; done) | (go_simp; rfl)); (case hp => exact hpR); intro v149 w18 ho19 hb hg_ hnew_; clear hg_ hnew_; (first | rw [← Ny148.out] at ho19 | (simp only [Int.reduceToNat] at ho19; rw [← Ny148.out] at ho19)); replace HO140 := ak (Kd.R_below (rT HO140 BK147 (by decide)) hb); replace HO150 := ak (Kd.R_lower ho19 (keep_size (w := w) (g := g) (row := none) (kT HK (gC GW137 (gC GW147 gN))))); replace BK137 := ak (blk_below (bT BK137 (nC NB137_147 nN)) hb); replace BK147 := ak (blk_below (g := gb147) (o := .cells #[.int .i64 t141, .int .i64 (wrap64 (1 + t144)), .int .i64 0, .int .i64 0, .int .i64 0, .string (⟨#[]⟩ : ByteArray), .string (⟨#[]⟩ : ByteArray), .string (⟨#[]⟩ : ByteArray)] 23 (0, 0)) (bW BK147) hb); replace HK := ak (KeepBut.trans (kT HK (gC GW137 (gC GW147 gN))) (KeepBut.of_below hb g none) (.inl rfl)); replace HB := ak (below_step (lT HB (gC GE137 (gC GE147 gN))) hb); replace HI0 := ak (IsS134.below (IsS134.T_ HI0 (nC NB0_137 (nC NB0_147 nN))) hb); clear hb ho19; obtain ⟨Ao20, co20, eo20⟩ := Kd.R_slice HO150.out; subst eo20) | ((with_reducible refine gate_callee (f := 71) rfl ?_); refine gl (some 17) Try.func71 #[.pointer (some ⟨g, 0, none⟩), .slice Ao20 y148.length co20] ?_; (with_reducible refine (spec_l01Pick.calls g s0_0 t145 t146 _ _ y148 t151 t152 t153 w0 _ ?side1 ?side2 ?side3 ?side4 ?side5 A5.out).mono ?_); (case side1 => exact IsS134.T_ HI0 (nC NB0_137 (nC NB0_147 nN))); (case side2 => exact lT HB (gC GE137 (gC GE147 gN))); (case side3 => exact cG (Kd.R_reads' HO150.out).2.2); (case side4 => exact (Kd.R_reads' HO150.out).2.1); (case side5 => exact far_slice (IsS134.own_ne HI0.out HO150.out (by decide))); rintro e w21 ⟨rfl, hi, hb, hk⟩; refine ⟨_, rfl, ?_⟩; replace BK137 := kB hk (bG BK137) NB137_0; replace HO140 := IsS134.kR hk (IsS134.T_ HI0 (nC NB0_137 (nC NB0_147 nN))) (rG HO140); replace BK147 := kB hk (bG BK147) NB147_0; replace HO150 := IsS134.kR hk (IsS134.T_ HI0 (nC NB0_137 (nC NB0_147 nN))) (rG HO150); replace HK := ak (KeepBut.trans (kT HK (gC GW137 (gC GW147 gN))) hk (.inl rfl)); replace HB := ak (hb); replace HI0 := ak (hi); (try clear hb); (try clear hk); (try clear hi); obtain ⟨_, _, _, _, _, _, _, _, _, _, _, _, _, _, _, _⟩ := bC8 BK147) | ((with_reducible refine gate_dst (N := 20) rfl ?_); refine Kd.R_lit Kd.string _ 9 ?hg (N := 20) ?hd (xs := ([(⟨#[105, 110, 98, 111, 120]⟩ : ByteArray), (⟨#[119, 111, 114, 107]⟩ : ByteArray)] : List ByteArray)) (inner := [.string (⟨#[105, 110, 98, 111, 120]⟩ : ByteArray), .string (⟨#[119, 111, 114, 107]⟩ : ByteArray)]) (ok := fun _ => True) (okp := fun _ => True) ?hr ?hp (fun _ hk => hk) trivial (Below.refl _ _) (Nat.le_refl _) (by simp) ?_; (case hd => rfl); (case hg => rfl); (case hr => first | (go_simp; done) | (go_simp; rfl)); (case hp => exact hpR); intro v155 w23 ho24 hb hg_ hnew_; clear hg_ hnew_; (first | rw [← Ny154.out] at ho24 | (simp only [Int.reduceToNat] at ho24; rw [← Ny154.out] at ho24)); replace HO140 := ak (Kd.R_below (rT HO140 BK147 (by decide)) hb); replace HO156 := ak (Kd.R_lower (Kd.R_new' ho24 (Kd.R_lt (rT HO150 BK147 (by decide)))) (keep_size (w := w) (g := g) (row := none) (kT HK (gC GW137 (gC GW147 gN))))); replace HO150 := ak (Kd.R_elder' (rT HO150 BK147 (by decide)) (Kd.R_base ho24) hb); replace BK137 := ak (blk_below (bT BK137 (nC NB137_147 nN)) hb); replace BK147 := ak (blk_below (g := gb147) (o := .cells #[.int .i64 t141, .int .i64 (wrap64 (1 + t144)), .int .i64 0, .int .i64 0, .int .i64 0, .string t151, .string (⟨#[]⟩ : ByteArray), .string (⟨#[]⟩ : ByteArray)] 23 (0, 0)) (bW BK147) hb); replace HK := ak (KeepBut.trans (kT HK (gC GW137 (gC GW147 gN))) (KeepBut.of_below hb g none) (.inl rfl)); replace HB := ak (below_step (lT HB (gC GE137 (gC GE147 gN))) hb); replace HI0 := ak (IsS134.below (IsS134.T_ HI0 (nC NB0_137 (nC NB0_147 nN))) hb); clear hb ho24; obtain ⟨Ao25, co25, eo25⟩ := Kd.R_slice HO156.out; subst eo25) | ((with_reducible refine gate_callee (f := 71) rfl ?_); refine gl (some 21) Try.func71 #[.pointer (some ⟨g, 0, none⟩), .slice Ao25 y154.length co25] ?_; (with_reducible refine (spec_l01Pick.calls g s0_0 t152 t153 _ _ y154 t157 t158 t159 w0 _ ?side1 ?side2 ?side3 ?side4 ?side5 A6.out).mono ?_); (case side1 => exact IsS134.T_ HI0 (nC NB0_137 (nC NB0_147 nN))); (case side2 => exact lT HB (gC GE137 (gC GE147 gN))); (case side3 => exact cG (Kd.R_reads' HO156.out).2.2); (case side4 => exact (Kd.R_reads' HO156.out).2.1); (case side5 => exact far_slice (IsS134.own_ne HI0.out HO156.out (by decide))); rintro e w26 ⟨rfl, hi, hb, hk⟩; refine ⟨_, rfl, ?_⟩; replace BK137 := kB hk (bG BK137) NB137_0; replace HO140 := IsS134.kR hk (IsS134.T_ HI0 (nC NB0_137 (nC NB0_147 nN))) (rG HO140); replace BK147 := kB hk (bG BK147) NB147_0; replace HO150 := IsS134.kR hk (IsS134.T_ HI0 (nC NB0_137 (nC NB0_147 nN))) (rG HO150); replace HO156 := IsS134.kR hk (IsS134.T_ HI0 (nC NB0_137 (nC NB0_147 nN))) (rG HO156); replace HK := ak (KeepBut.trans (kT HK (gC GW137 (gC GW147 gN))) hk (.inl rfl)); replace HB := ak (hb); replace HI0 := ak (hi); (try clear hb); (try clear hk); (try clear hi); obtain ⟨_, _, _, _, _, _, _, _, _, _, _, _, _, _, _, _⟩ := bC8 BK147) | ((with_reducible refine gate_callee (f := 69) rfl ?_); refine gl (some 24) Try.func69 #[.pointer (some ⟨g, 0, none⟩), .int .i64 6] ?_; (with_reducible refine (spec_l01Below.calls g s0_0 t158 t159 6 t160 t161 t162 w0 _ ?side1 ?side2 A7.out).mono ?_); (case side1 => exact IsS134.T_ HI0 (nC NB0_137 (nC NB0_147 nN))); (case side2 => exact lT HB (gC GE137 (gC GE147 gN))); rintro e w28 ⟨rfl, hi, hb, hk⟩; refine ⟨_, rfl, ?_⟩; replace BK137 := kB hk (bT BK137 (nC NB137_147 nN)) NB137_0; replace HO140 := IsS134.kR hk (IsS134.T_ HI0 (nC NB0_137 (nC NB0_147 nN))) (rT HO140 BK147 (by decide)); replace HO150 := IsS134.kR hk (IsS134.T_ HI0 (nC NB0_137 (nC NB0_147 nN))) (rT HO150 BK147 (by decide)); replace HO156 := IsS134.kR hk (IsS134.T_ HI0 (nC NB0_137 (nC NB0_147 nN))) (rT HO156 BK147 (by decide)); replace BK147 := ak (KeepBut.blk hk (g' := gb147) (o := .cells #[.int .i64 t141, .int .i64 (wrap64 (1 + t144)), .int .i64 0, .int .i64 0, .int .i64 0, .string t151, .string t157, .string (⟨#[]⟩ : ByteArray)] 23 (0, 0)) (bW BK147) NB147_0.out (by simp)); replace HK := ak (KeepBut.trans (kT HK (gC GW137 (gC GW147 gN))) hk (.inl rfl)); replace HB := ak (hb); replace HI0 := ak (hi); (try clear hb); (try clear hk); (try clear hi); obtain ⟨_, _, _, _, _, _, _, _, _, _, _, _, _, _, _, _⟩ := bC8 BK147; have hnb30 := NB137_0.out; have hnc30 := NB0_137.out; obtain ⟨_, _, _, _, _, _, _, _, _, _, _, _, _, _, _, _⟩ := bC8 BK137))
 refine bodyPost_ret (results_cell_row rfl _ _ gb137 23 #[.int .i64 t141, .int .i64 (wrap64 (1 + t144)), .int .i64 0, .int .i64 (wrap64 (1 + t160)), .int .i64 0, .string t151, .string t157, .string (⟨#[]⟩ : ByteArray)] (0, 0) _ rfl (bF BK137 (nC NB137_147 nN)) Try.underlying23 rfl (by kernel_rfl)) rfl ?_
 exact ⟨ew, IsS134.T_ HI0 (nC NB0_137 (nC NB0_147 nN)), lT HB (gC GE137 (gC GE147 gN)), kT HK (gC GW137 (gC GW147 gN))⟩
 }
 {
 rw [if_neg c4] at H
 have c4b0 := beq_eq_false_iff_ne.mpr c4
 have c4b1 := bne_iff_ne.mpr c4
 by_cases c32 : t141 = 3
 {
 rw [if_pos c32] at H
 have c32b0 := beq_iff_eq.mpr c32
 have c32b1 := bne_eq_false_iff_eq.mpr c32
 clear c32
 obtain ⟨⟨t163, t164, t165⟩, A33, H⟩ := eb H
 try dsimp only at H
 obtain ⟨⟨t166, t167, t168⟩, A34, H⟩ := eb H
 try dsimp only at H
 obtain ⟨⟨t169, t170, t171⟩, A35, H⟩ := eb H
 try dsimp only at H
 simp only [Option.some.injEq, Prod.mk.injEq] at H
 obtain ⟨rfl, rfl, rfl, rfl, rfl, rfl, rfl, rfl, rfl, rfl⟩ := H
 refine ⟨?_⟩
 go_wp2_with (first | ((with_reducible refine gate_dst (N := 3) rfl ?_); refine bx 3 #[.int .i64 0, .int .i64 0, .int .i64 0, .int .i64 0, .int .i64 0, .string (⟨#[]⟩ : ByteArray), .string (⟨#[]⟩ : ByteArray), .string (⟨#[]⟩ : ByteArray)] 23 ?_; intro gb147 hg w42 hbox hb; replace HO140 := rB HO140 hb; replace HB := ak (below_step (lT HB (gC GE137 gN)) hb); replace BK147 := ak (hbox); replace GW147 := gW hg (kT HK (gC GW137 gN)); replace GE147 := gE HW0 GW147; replace HK := ak (KeepBut.trans (kT HK (gC GW137 gN)) (KeepBut.of_below hb g none) (.inl rfl)); replace NB137_147 := ak (nl hg (bG BK137)); replace NB147_137 := ak (ng hg (bG BK137)); replace BK137 := bB BK137 hb; replace NB0_147 := nS hg (IsS134.lt (IsS134.T_ HI0 (nC NB0_137 nN))); replace NB147_0 := mS hg (IsS134.lt (IsS134.T_ HI0 (nC NB0_137 nN))); replace HI0 := ak (IsS134.below (IsS134.T_ HI0 (nC NB0_137 nN)) hb); clear hb hbox hg; have hnb43 := NB147_137.out; have hnc43 := NB137_147.out; have hnb44 := NB147_0.out; have hnc44 := NB0_147.out; obtain ⟨_, _, _, _, _, _, _, _, _, _, _, _, _, _, _, _⟩ := bC8 BK147) | ((with_reducible refine gate_callee (f := 69) rfl ?_); refine gl (some 30) Try.func69 #[.pointer (some ⟨g, 0, none⟩), .int .i64 5] ?_; (with_reducible refine (spec_l01Below.calls g s0_0 t145 t146 5 t163 t164 t165 w0 _ ?side1 ?side2 A33.out).mono ?_); (case side1 => exact IsS134.T_ HI0 (nC NB0_137 (nC NB0_147 nN))); (case side2 => exact lT HB (gC GE137 (gC GE147 gN))); rintro e w46 ⟨rfl, hi, hb, hk⟩; refine ⟨_, rfl, ?_⟩; replace BK137 := kB hk (bT BK137 (nC NB137_147 nN)) NB137_0; replace HO140 := IsS134.kR hk (IsS134.T_ HI0 (nC NB0_137 (nC NB0_147 nN))) (rT HO140 BK147 (by decide)); replace BK147 := ak (KeepBut.blk hk (g' := gb147) (o := .cells #[.int .i64 t141, .int .i64 (wrap64 (1 + t144)), .int .i64 0, .int .i64 0, .int .i64 0, .string (⟨#[]⟩ : ByteArray), .string (⟨#[]⟩ : ByteArray), .string (⟨#[]⟩ : ByteArray)] 23 (0, 0)) (bW BK147) NB147_0.out (by simp)); replace HK := ak (KeepBut.trans (kT HK (gC GW137 (gC GW147 gN))) hk (.inl rfl)); replace HB := ak (hb); replace HI0 := ak (hi); (try clear hb); (try clear hk); (try clear hi); obtain ⟨_, _, _, _, _, _, _, _, _, _, _, _, _, _, _, _⟩ := bC8 BK147) | ((with_reducible refine gate_callee (f := 69) rfl ?_); refine gl (some 34) Try.func69 #[.pointer (some ⟨g, 0, none⟩), .int .i64 8] ?_; (with_reducible refine (spec_l01Below.calls g s0_0 t164 t165 8 t166 t167 t168 w0 _ ?side1 ?side2 A34.out).mono ?_); (case side1 => exact IsS134.T_ HI0 (nC NB0_137 (nC NB0_147 nN))); (case side2 => exact lT HB (gC GE137 (gC GE147 gN))); rintro e w48 ⟨rfl, hi, hb, hk⟩; refine ⟨_, rfl, ?_⟩; replace BK137 := kB hk (bT BK137 (nC NB137_147 nN)) NB137_0; replace HO140 := IsS134.kR hk (IsS134.T_ HI0 (nC NB0_137 (nC NB0_147 nN))) (rT HO140 BK147 (by decide)); replace BK147 := ak (KeepBut.blk hk (g' := gb147) (o := .cells #[.int .i64 t141, .int .i64 (wrap64 (1 + t144)), .int .i64 (wrap64 (1 + t163)), .int .i64 0, .int .i64 0, .string (⟨#[]⟩ : ByteArray), .string (⟨#[]⟩ : ByteArray), .string (⟨#[]⟩ : ByteArray)] 23 (0, 0)) (bW BK147) NB147_0.out (by simp)); replace HK := ak (KeepBut.trans (kT HK (gC GW137 (gC GW147 gN))) hk (.inl rfl)); replace HB := ak (hb); replace HI0 := ak (hi); (try clear hb); (try clear hk); (try clear hi); obtain ⟨_, _, _, _, _, _, _, _, _, _, _, _, _, _, _, _⟩ := bC8 BK147) | ((with_reducible refine gate_callee (f := 117) rfl ?_); refine gl (some 37) Try.func117 #[.pointer (some ⟨g, 0, none⟩)] ?_; (with_reducible refine (spec_l06Text.calls g s0_0 t167 t168 t169 t170 t171 w0 _ ?side1 ?side2 A35.out).mono ?_); (case side1 => exact IsS134.T_ HI0 (nC NB0_137 (nC NB0_147 nN))); (case side2 => exact lT HB (gC GE137 (gC GE147 gN))); rintro e w50 ⟨rfl, hi, hb, hk⟩; refine ⟨_, rfl, ?_⟩; replace BK137 := kB hk (bT BK137 (nC NB137_147 nN)) NB137_0; replace HO140 := IsS134.kR hk (IsS134.T_ HI0 (nC NB0_137 (nC NB0_147 nN))) (rT HO140 BK147 (by decide)); replace BK147 := ak (KeepBut.blk hk (g' := gb147) (o := .cells #[.int .i64 t141, .int .i64 (wrap64 (1 + t144)), .int .i64 (wrap64 (1 + t163)), .int .i64 0, .int .i64 t166, .string (⟨#[]⟩ : ByteArray), .string (⟨#[]⟩ : ByteArray), .string (⟨#[]⟩ : ByteArray)] 23 (0, 0)) (bW BK147) NB147_0.out (by simp)); replace HK := ak (KeepBut.trans (kT HK (gC GW137 (gC GW147 gN))) hk (.inl rfl)); replace HB := ak (hb); replace HI0 := ak (hi); (try clear hb); (try clear hk); (try clear hi); obtain ⟨_, _, _, _, _, _, _, _, _, _, _, _, _, _, _, _⟩ := bC8 BK147; have hnb52 := NB137_0.out; have hnc52 := NB0_137.out; obtain ⟨_, _, _, _, _, _, _, _, _, _, _, _, _, _, _, _⟩ := bC8 BK137))
 refine bodyPost_ret (results_cell_row rfl _ _ gb137 23 #[.int .i64 t141, .int .i64 (wrap64 (1 + t144)), .int .i64 (wrap64 (1 + t163)), .int .i64 0, .int .i64 t166, .string (⟨#[]⟩ : ByteArray), .string (⟨#[]⟩ : ByteArray), .string t169] (0, 0) _ rfl (bF BK137 (nC NB137_147 nN)) Try.underlying23 rfl (by kernel_rfl)) rfl ?_
 exact ⟨ew, IsS134.T_ HI0 (nC NB0_137 (nC NB0_147 nN)), lT HB (gC GE137 (gC GE147 gN)), kT HK (gC GW137 (gC GW147 gN))⟩
 }
 {
 rw [if_neg c32] at H
 have c32b0 := beq_eq_false_iff_ne.mpr c32
 have c32b1 := bne_iff_ne.mpr c32
 by_cases c54 : t141 = 4
 {
 rw [if_pos c54] at H
 have c54b0 := beq_iff_eq.mpr c54
 have c54b1 := bne_eq_false_iff_eq.mpr c54
 clear c54
 obtain ⟨⟨t172, t173, t174⟩, A55, H⟩ := eb H
 try dsimp only at H
 obtain ⟨⟨t175, t176, t177⟩, A56, H⟩ := eb H
 try dsimp only at H
 simp only [Option.some.injEq, Prod.mk.injEq] at H
 obtain ⟨rfl, rfl, rfl, rfl, rfl, rfl, rfl, rfl, rfl, rfl⟩ := H
 refine ⟨?_⟩
 go_wp2_with (first | ((with_reducible refine gate_dst (N := 3) rfl ?_); refine bx 3 #[.int .i64 0, .int .i64 0, .int .i64 0, .int .i64 0, .int .i64 0, .string (⟨#[]⟩ : ByteArray), .string (⟨#[]⟩ : ByteArray), .string (⟨#[]⟩ : ByteArray)] 23 ?_; intro gb147 hg w63 hbox hb; replace HO140 := rB HO140 hb; replace HB := ak (below_step (lT HB (gC GE137 gN)) hb); replace BK147 := ak (hbox); replace GW147 := gW hg (kT HK (gC GW137 gN)); replace GE147 := gE HW0 GW147; replace HK := ak (KeepBut.trans (kT HK (gC GW137 gN)) (KeepBut.of_below hb g none) (.inl rfl)); replace NB137_147 := ak (nl hg (bG BK137)); replace NB147_137 := ak (ng hg (bG BK137)); replace BK137 := bB BK137 hb; replace NB0_147 := nS hg (IsS134.lt (IsS134.T_ HI0 (nC NB0_137 nN))); replace NB147_0 := mS hg (IsS134.lt (IsS134.T_ HI0 (nC NB0_137 nN))); replace HI0 := ak (IsS134.below (IsS134.T_ HI0 (nC NB0_137 nN)) hb); clear hb hbox hg; have hnb64 := NB147_137.out; have hnc64 := NB137_147.out; have hnb65 := NB147_0.out; have hnc65 := NB0_147.out; obtain ⟨_, _, _, _, _, _, _, _, _, _, _, _, _, _, _, _⟩ := bC8 BK147) | ((with_reducible refine gate_callee (f := 69) rfl ?_); refine gl (some 42) Try.func69 #[.pointer (some ⟨g, 0, none⟩), .int .i64 5] ?_; (with_reducible refine (spec_l01Below.calls g s0_0 t145 t146 5 t172 t173 t174 w0 _ ?side1 ?side2 A55.out).mono ?_); (case side1 => exact IsS134.T_ HI0 (nC NB0_137 (nC NB0_147 nN))); (case side2 => exact lT HB (gC GE137 (gC GE147 gN))); rintro e w67 ⟨rfl, hi, hb, hk⟩; refine ⟨_, rfl, ?_⟩; replace BK137 := kB hk (bT BK137 (nC NB137_147 nN)) NB137_0; replace HO140 := IsS134.kR hk (IsS134.T_ HI0 (nC NB0_137 (nC NB0_147 nN))) (rT HO140 BK147 (by decide)); replace BK147 := ak (KeepBut.blk hk (g' := gb147) (o := .cells #[.int .i64 t141, .int .i64 (wrap64 (1 + t144)), .int .i64 0, .int .i64 0, .int .i64 0, .string (⟨#[]⟩ : ByteArray), .string (⟨#[]⟩ : ByteArray), .string (⟨#[]⟩ : ByteArray)] 23 (0, 0)) (bW BK147) NB147_0.out (by simp)); replace HK := ak (KeepBut.trans (kT HK (gC GW137 (gC GW147 gN))) hk (.inl rfl)); replace HB := ak (hb); replace HI0 := ak (hi); (try clear hb); (try clear hk); (try clear hi); obtain ⟨_, _, _, _, _, _, _, _, _, _, _, _, _, _, _, _⟩ := bC8 BK147) | ((with_reducible refine gate_callee (f := 69) rfl ?_); refine gl (some 46) Try.func69 #[.pointer (some ⟨g, 0, none⟩), .int .i64 8] ?_; (with_reducible refine (spec_l01Below.calls g s0_0 t173 t174 8 t175 t176 t177 w0 _ ?side1 ?side2 A56.out).mono ?_); (case side1 => exact IsS134.T_ HI0 (nC NB0_137 (nC NB0_147 nN))); (case side2 => exact lT HB (gC GE137 (gC GE147 gN))); rintro e w69 ⟨rfl, hi, hb, hk⟩; refine ⟨_, rfl, ?_⟩; replace BK137 := kB hk (bT BK137 (nC NB137_147 nN)) NB137_0; replace HO140 := IsS134.kR hk (IsS134.T_ HI0 (nC NB0_137 (nC NB0_147 nN))) (rT HO140 BK147 (by decide)); replace BK147 := ak (KeepBut.blk hk (g' := gb147) (o := .cells #[.int .i64 t141, .int .i64 (wrap64 (1 + t144)), .int .i64 (wrap64 (1 + t172)), .int .i64 0, .int .i64 0, .string (⟨#[]⟩ : ByteArray), .string (⟨#[]⟩ : ByteArray), .string (⟨#[]⟩ : ByteArray)] 23 (0, 0)) (bW BK147) NB147_0.out (by simp)); replace HK := ak (KeepBut.trans (kT HK (gC GW137 (gC GW147 gN))) hk (.inl rfl)); replace HB := ak (hb); replace HI0 := ak (hi); (try clear hb); (try clear hk); (try clear hi); obtain ⟨_, _, _, _, _, _, _, _, _, _, _, _, _, _, _, _⟩ := bC8 BK147; have hnb71 := NB137_0.out; have hnc71 := NB0_137.out; obtain ⟨_, _, _, _, _, _, _, _, _, _, _, _, _, _, _, _⟩ := bC8 BK137))
 refine bodyPost_ret (results_cell_row rfl _ _ gb137 23 #[.int .i64 t141, .int .i64 (wrap64 (1 + t144)), .int .i64 (wrap64 (1 + t172)), .int .i64 0, .int .i64 t175, .string (⟨#[]⟩ : ByteArray), .string (⟨#[]⟩ : ByteArray), .string (⟨#[]⟩ : ByteArray)] (0, 0) _ rfl (bF BK137 (nC NB137_147 nN)) Try.underlying23 rfl (by kernel_rfl)) rfl ?_
 exact ⟨ew, IsS134.T_ HI0 (nC NB0_137 (nC NB0_147 nN)), lT HB (gC GE137 (gC GE147 gN)), kT HK (gC GW137 (gC GW147 gN))⟩
 }
 {
 rw [if_neg c54] at H
 have c54b0 := beq_eq_false_iff_ne.mpr c54
 have c54b1 := bne_iff_ne.mpr c54
 by_cases c73 : t141 = 5
 {
 rw [if_pos c73] at H
 have c73b0 := beq_iff_eq.mpr c73
 have c73b1 := bne_eq_false_iff_eq.mpr c73
 clear c73
 obtain ⟨⟨t178, t179, t180⟩, A74, H⟩ := eb H
 try dsimp only at H
 simp only [Option.some.injEq, Prod.mk.injEq] at H
 obtain ⟨rfl, rfl, rfl, rfl, rfl, rfl, rfl, rfl, rfl, rfl⟩ := H
 refine ⟨?_⟩
 go_wp2_with (first | ((with_reducible refine gate_dst (N := 3) rfl ?_); refine bx 3 #[.int .i64 0, .int .i64 0, .int .i64 0, .int .i64 0, .int .i64 0, .string (⟨#[]⟩ : ByteArray), .string (⟨#[]⟩ : ByteArray), .string (⟨#[]⟩ : ByteArray)] 23 ?_; intro gb147 hg w81 hbox hb; replace HO140 := rB HO140 hb; replace HB := ak (below_step (lT HB (gC GE137 gN)) hb); replace BK147 := ak (hbox); replace GW147 := gW hg (kT HK (gC GW137 gN)); replace GE147 := gE HW0 GW147; replace HK := ak (KeepBut.trans (kT HK (gC GW137 gN)) (KeepBut.of_below hb g none) (.inl rfl)); replace NB137_147 := ak (nl hg (bG BK137)); replace NB147_137 := ak (ng hg (bG BK137)); replace BK137 := bB BK137 hb; replace NB0_147 := nS hg (IsS134.lt (IsS134.T_ HI0 (nC NB0_137 nN))); replace NB147_0 := mS hg (IsS134.lt (IsS134.T_ HI0 (nC NB0_137 nN))); replace HI0 := ak (IsS134.below (IsS134.T_ HI0 (nC NB0_137 nN)) hb); clear hb hbox hg; have hnb82 := NB147_137.out; have hnc82 := NB137_147.out; have hnb83 := NB147_0.out; have hnc83 := NB0_147.out; obtain ⟨_, _, _, _, _, _, _, _, _, _, _, _, _, _, _, _⟩ := bC8 BK147) | ((with_reducible refine gate_callee (f := 69) rfl ?_); refine gl (some 51) Try.func69 #[.pointer (some ⟨g, 0, none⟩), .int .i64 5] ?_; (with_reducible refine (spec_l01Below.calls g s0_0 t145 t146 5 t178 t179 t180 w0 _ ?side1 ?side2 A74.out).mono ?_); (case side1 => exact IsS134.T_ HI0 (nC NB0_137 (nC NB0_147 nN))); (case side2 => exact lT HB (gC GE137 (gC GE147 gN))); rintro e w85 ⟨rfl, hi, hb, hk⟩; refine ⟨_, rfl, ?_⟩; replace BK137 := kB hk (bT BK137 (nC NB137_147 nN)) NB137_0; replace HO140 := IsS134.kR hk (IsS134.T_ HI0 (nC NB0_137 (nC NB0_147 nN))) (rT HO140 BK147 (by decide)); replace BK147 := ak (KeepBut.blk hk (g' := gb147) (o := .cells #[.int .i64 t141, .int .i64 (wrap64 (1 + t144)), .int .i64 0, .int .i64 0, .int .i64 0, .string (⟨#[]⟩ : ByteArray), .string (⟨#[]⟩ : ByteArray), .string (⟨#[]⟩ : ByteArray)] 23 (0, 0)) (bW BK147) NB147_0.out (by simp)); replace HK := ak (KeepBut.trans (kT HK (gC GW137 (gC GW147 gN))) hk (.inl rfl)); replace HB := ak (hb); replace HI0 := ak (hi); (try clear hb); (try clear hk); (try clear hi); obtain ⟨_, _, _, _, _, _, _, _, _, _, _, _, _, _, _, _⟩ := bC8 BK147; have hnb87 := NB137_0.out; have hnc87 := NB0_137.out; obtain ⟨_, _, _, _, _, _, _, _, _, _, _, _, _, _, _, _⟩ := bC8 BK137))
 refine bodyPost_ret (results_cell_row rfl _ _ gb137 23 #[.int .i64 t141, .int .i64 (wrap64 (1 + t144)), .int .i64 (wrap64 (1 + t178)), .int .i64 0, .int .i64 0, .string (⟨#[]⟩ : ByteArray), .string (⟨#[]⟩ : ByteArray), .string (⟨#[]⟩ : ByteArray)] (0, 0) _ rfl (bF BK137 (nC NB137_147 nN)) Try.underlying23 rfl (by kernel_rfl)) rfl ?_
 exact ⟨ew, IsS134.T_ HI0 (nC NB0_137 (nC NB0_147 nN)), lT HB (gC GE137 (gC GE147 gN)), kT HK (gC GW137 (gC GW147 gN))⟩
 }
 {
 rw [if_neg c73] at H
 have c73b0 := beq_eq_false_iff_ne.mpr c73
 have c73b1 := bne_iff_ne.mpr c73
 simp only [Option.some.injEq, Prod.mk.injEq] at H
 obtain ⟨rfl, rfl, rfl, rfl, rfl, rfl, rfl, rfl, rfl, rfl⟩ := H
 refine ⟨?_⟩
 go_wp2_with ((with_reducible refine gate_dst (N := 3) rfl ?_); refine bx 3 #[.int .i64 0, .int .i64 0, .int .i64 0, .int .i64 0, .int .i64 0, .string (⟨#[]⟩ : ByteArray), .string (⟨#[]⟩ : ByteArray), .string (⟨#[]⟩ : ByteArray)] 23 ?_; intro gb147 hg w95 hbox hb; replace HO140 := rB HO140 hb; replace HB := ak (below_step (lT HB (gC GE137 gN)) hb); replace BK147 := ak (hbox); replace GW147 := gW hg (kT HK (gC GW137 gN)); replace GE147 := gE HW0 GW147; replace HK := ak (KeepBut.trans (kT HK (gC GW137 gN)) (KeepBut.of_below hb g none) (.inl rfl)); replace NB137_147 := ak (nl hg (bG BK137)); replace NB147_137 := ak (ng hg (bG BK137)); replace BK137 := bB BK137 hb; replace NB0_147 := nS hg (IsS134.lt (IsS134.T_ HI0 (nC NB0_137 nN))); replace NB147_0 := mS hg (IsS134.lt (IsS134.T_ HI0 (nC NB0_137 nN))); replace HI0 := ak (IsS134.below (IsS134.T_ HI0 (nC NB0_137 nN)) hb); clear hb hbox hg; have hnb96 := NB147_137.out; have hnc96 := NB137_147.out; have hnb97 := NB147_0.out; have hnc97 := NB0_147.out; obtain ⟨_, _, _, _, _, _, _, _, _, _, _, _, _, _, _, _⟩ := bC8 BK147; have hnb99 := NB137_0.out; have hnc99 := NB0_137.out; obtain ⟨_, _, _, _, _, _, _, _, _, _, _, _, _, _, _, _⟩ := bC8 BK137)
 refine bodyPost_ret (results_cell_row rfl _ _ gb137 23 #[.int .i64 t141, .int .i64 (wrap64 (1 + t144)), .int .i64 0, .int .i64 0, .int .i64 0, .string (⟨#[]⟩ : ByteArray), .string (⟨#[]⟩ : ByteArray), .string (⟨#[]⟩ : ByteArray)] (0, 0) _ rfl (bF BK137 (nC NB137_147 nN)) Try.underlying23 rfl (by kernel_rfl)) rfl ?_
 exact ⟨ew, IsS134.T_ HI0 (nC NB0_137 (nC NB0_147 nN)), lT HB (gC GE137 (gC GE147 gN)), kT HK (gC GW137 (gC GW147 gN))⟩
 }
 }
 }
 }
/-! ### spec_l07Items: function 72 -/
def spec_l07Items.l0 : Nat → List (S32) → Int → List Int → Int → Int → Option ((List (S32)) × Int × Int)
 | 0, _, _, _, _, _ => none
 | k + 1, a, b, c, d, e => (spec_l01Below.f c d e 22).bind fun bt184 => (if b < bt184.1 then ((spec_l06Rec.f c bt184.2.1 bt184.2.2).bind fun bt187 => (if a.length < 1466015503701 then (spec_l07Items.l0 k (a ++ [(⟨wrap64 (2 + b), (⟨bt187.1, bt187.2.1, bt187.2.2.1, bt187.2.2.2.1, bt187.2.2.2.2.1, bt187.2.2.2.2.2.1, bt187.2.2.2.2.2.2.1, bt187.2.2.2.2.2.2.2.1⟩ : S23)⟩ : S32)]) (wrap64 (b + 1)) c bt187.2.2.2.2.2.2.2.2.1 bt187.2.2.2.2.2.2.2.2.2) else (none))) else (if (a.length : Int) > 1 then ((spec_l01Once.f c bt184.2.1 bt184.2.2 3).bind fun bt200 => (if bt200.1 = true then ((spec_l01Below.f c bt200.2.1 bt200.2.2 (a.length : Int)).bind fun bt203 => (if 0 ≤ bt203.1 then (if bt203.1 < (a.length : Int) then (if a.length < 1466015503701 then (some ((a ++ [(⟨(rd_T32 a bt203.1).f0, (⟨(rd_T32 a bt203.1).f1.f0, (rd_T32 a bt203.1).f1.f1, (rd_T32 a bt203.1).f1.f2, (rd_T32 a bt203.1).f1.f3, (rd_T32 a bt203.1).f1.f4, (rd_T32 a bt203.1).f1.f5, (rd_T32 a bt203.1).f1.f6, (rd_T32 a bt203.1).f1.f7⟩ : S23)⟩ : S32)]), bt203.2.1, bt203.2.2)) else (none)) else (none)) else (none))) else (some (a, bt200.2.1, bt200.2.2)))) else (some (a, bt184.2.1, bt184.2.2))))
def spec_l07Items.f (k : Nat) (s0_0 : List Int) (s0_1 : Int) (s0_2 : Int) : Option ((List (S32)) × Int × Int) := spec_l07Items.l0 k (([] : List (S32))) 0 s0_0 s0_1 s0_2
theorem spec_l07Items.mono_l : ∀ k, (∀ y0 y1 y2 y3 y4, LeO (spec_l07Items.l0 k y0 y1 y2 y3 y4) (spec_l07Items.l0 (k + 1) y0 y1 y2 y3 y4))
 | 0 => fun _ _ _ _ _ r h => by simp [spec_l07Items.l0] at h
 | k + 1 => by
  have ih0 := spec_l07Items.mono_l k
  ·intro y0 y1 y2 y3 y4
   unfold spec_l07Items.l0
   repeat' with_reducible first | exact ih0 _ _ _ _ _ | exact LeO.refl _ | exact LeO.none _ | refine LeO.ite ?_ ?_ | refine LeO.bind ?_ (fun _ => ?_)
theorem spec_l07Items.mono : ∀ a0 a1 a2 k, LeO (spec_l07Items.f k a0 a1 a2) (spec_l07Items.f (k + 1) a0 a1 a2) := by
 intro a0 a1 a2 k
 have ih0 := spec_l07Items.mono_l k
 unfold spec_l07Items.f
 repeat' with_reducible first | exact ih0 _ _ _ _ _ | exact LeO.refl _ | exact LeO.none _ | refine LeO.ite ?_ ?_ | refine LeO.bind ?_ (fun _ => ?_)
theorem spec_l07Items.calls (k : Nat) (g : Nat) (s0_0 : List Int) (s0_1 : Int) (s0_2 : Int) (r1 : List (S32)) (r2 : Int) (r3 : Int) (w0 w : World) (hI : IsS134 w0 w g s0_0 s0_1 s0_2) (hB : Below w0.heap.size w0 w) (h : spec_l07Items.f k s0_0 s0_1 s0_2 = some (r1, r2, r3)) :
  Calls Try.prog 72 #[.pointer (some ⟨g, 0, none⟩)] w fun e w' => ∃ v0_ : Value, e = .returned (v0_) ∧ Kd.R k32 32 w' w.heap.size (fun _ => True) v0_ r1 ∧ IsS134 w0 w' g s0_0 r2 r3 ∧ Below w0.heap.size w0 w' ∧ KeepBut w w' g none := by
 have hu32 := Try.underlying32
 have HI0 := Aside0.mk hI
 have HK := ak (KeepBut.refl w g none)
 have HL := Aside0.mk hB.size
 clear hI
 have HW0 := Aside0.mk hB.size
 have HB := Aside0.mk hB
 clear hB
 have H := h
 clear h
 unfold spec_l07Items.f at H
 obtain ⟨y181, hy181⟩ : ∃ y_ : List (S32), y_ = (([] : List (S32))) := ⟨_, rfl⟩
 replace H : (spec_l07Items.l0 k y181 0 s0_0 s0_1 s0_2) = some (r1, r2, r3) := by first | (rw [hy181]; with_reducible exact H) | (have H2_ := (Option.bind_some _ _).symm.trans H; rw [hy181]; with_reducible exact H2_) | (have H2_ := (Option.bind_some _ _).symm.trans H; with_reducible exact H2_) | with_reducible exact H | (rw [hy181]; exact H) | exact H
 have Ny181 := Aside0.mk hy181
 clear hy181
 have H' := Aside0.mk H
 clear H
 go_enter Try.func72, Try.ntmps72
 go_wp2_with ((with_reducible refine gate_dst (N := 5) rfl ?_); refine Kd.R_lit k32 _ 32 ?hg (N := 5) ?hd (xs := ([] : List (S32))) (inner := []) (ok := fun _ => True) (okp := fun _ => True) ?hr ?hp (fun _ hk => hk) trivial (Below.refl _ _) (Nat.le_refl _) (by simp) ?_; (case hd => rfl); (case hg => rfl); (case hr => first | (go_simp; done) | (go_simp; rfl)); (case hp => exact (Reps.none _ _)); intro v182 w2 ho3 hb hg_ hnew_; clear hg_ hnew_; (first | rw [← Ny181.out] at ho3 | (simp only [Int.reduceToNat] at ho3; rw [← Ny181.out] at ho3)); replace HO183 := ak (Kd.R_lower ho3 (keep_size (w := w) (g := g) (row := none) (kT HK gN))); replace HK := ak (KeepBut.trans (kT HK gN) (KeepBut.of_below hb g none) (.inl rfl)); replace HB := ak (below_step (lT HB gN) hb); replace HI0 := ak (IsS134.below (IsS134.T_ HI0 nN) hb); clear hb ho3)
 go_loopg [3, 4] k (fun kq v3 v4 w' => ∃ (x3_1 : List (S32)) (x4_1 : Int) (x1001_1 : Int) (x1002_1 : Int), v4 = .int .i64 x4_1 ∧ Aside0 (spec_l07Items.l0 kq x3_1 x4_1 s0_0 x1001_1 x1002_1 = some (r1, r2, r3)) ∧ Aside0 (kq ≤ k) ∧ Aside0 (Kd.R k32 32 w' w.heap.size (fun _ => True) v3 x3_1) ∧ Aside0 (IsS134 w0 w' g s0_0 x1001_1 x1002_1) ∧ Aside0 (KeepBut w w' g none) ∧ Aside0 (Below w0.heap.size w0 w'))
 case atStart => exact ⟨_, _, _, _, rr, H', ⟨Nat.le_refl _⟩, ⟨by (with_reducible repeat (first | apply Kd.R_alloc | apply Kd.R_drewN | apply Kd.R_drew)); exact HO183.out⟩, ⟨IsS134.T_ HI0 nN⟩, ⟨kT HK gN⟩, ⟨lT HB gN⟩⟩
 case round =>
  skip;{
 clear H'
 obtain ⟨x3_1, x4_1, x1001_1, x1002_1, rfl, HA, HK1, HO_3, HI0, HK, HB⟩ := hrel
 cases gk with
 | zero => exact absurd HA.out (by simp [spec_l07Items.l0])
 | succ k1 =>
  skip;{
 have H := HA.out
 clear HA
 simp only [spec_l07Items.l0] at H
 obtain ⟨⟨t184, t185, t186⟩, A4, H⟩ := eb H
 try dsimp only at H
 by_cases c5 : x4_1 < t184
 {
 rw [if_pos c5] at H
 have c5b0 := decide_eq_true c5
 clear c5
 obtain ⟨⟨t187, t188, t189, t190, t191, t192, t193, t194, t195, t196⟩, A6, H⟩ := eb H
 try dsimp only at H
 by_cases c7 : x3_1.length < 1466015503701
 {
 rw [if_pos c7] at H
 have LMc7 := Aside0.mk c7
 clear c7
 obtain ⟨y197, hy197⟩ : ∃ y_ : List (S32), y_ = (x3_1 ++ [(⟨wrap64 (2 + x4_1), (⟨t187, t188, t189, t190, t191, t192, t193, t194⟩ : S23)⟩ : S32)]) := ⟨_, rfl⟩
 replace H : (spec_l07Items.l0 k1 y197 (wrap64 (x4_1 + 1)) s0_0 t195 t196) = some (r1, r2, r3) := by first | (rw [hy197]; with_reducible exact H) | (have H2_ := (Option.bind_some _ _).symm.trans H; rw [hy197]; with_reducible exact H2_) | (have H2_ := (Option.bind_some _ _).symm.trans H; with_reducible exact H2_) | with_reducible exact H | (rw [hy197]; exact H) | exact H
 have Ny197 := Aside0.mk hy197
 clear hy197
 have H' := Aside0.mk H
 clear H
 go_wp2_with (first | ((with_reducible refine gate_callee (f := 69) rfl ?_); refine gl (some 8) Try.func69 #[.pointer (some ⟨g, 0, none⟩), .int .i64 22] ?_; (with_reducible refine (spec_l01Below.calls g s0_0 x1001_1 x1002_1 22 _ _ _ w0 _ ?side1 ?side2 A4.out).mono ?_); (case side1 => exact IsS134.T_ HI0 nN); (case side2 => exact lT HB gN); rintro e w8 ⟨rfl, hi, hb, hk⟩; refine ⟨_, rfl, ?_⟩; replace HO_3 := IsS134.kR hk (IsS134.T_ HI0 nN) (rG HO_3); replace HK := ak (KeepBut.trans (kT HK gN) hk (.inl rfl)); replace HB := ak (hb); replace HI0 := ak (hi); (try clear hb); (try clear hk); (try clear hi)) | ((with_reducible refine gate_callee (f := 99) rfl ?_); refine gl (some 16) Try.func99 #[.pointer (some ⟨g, 0, none⟩)] ?_; (with_reducible refine (spec_l06Rec.calls g s0_0 t185 t186 t187 t188 t189 t190 t191 t192 t193 t194 t195 t196 w0 _ ?side1 ?side2 A6.out).mono ?_); (case side1 => exact IsS134.T_ HI0 nN); (case side2 => exact lT HB gN); rintro e w9 ⟨rfl, hi, hb, hk⟩; refine ⟨_, rfl, ?_⟩; replace HO_3 := IsS134.kR hk (IsS134.T_ HI0 nN) (rG HO_3); replace HK := ak (KeepBut.trans (kT HK gN) hk (.inl rfl)); replace HB := ak (hb); replace HI0 := ak (hi); (try clear hb); (try clear hk); (try clear hi)) | ((with_reducible refine gate_builtin (b := .append) (xs := #[.tmp 12, .tmp 18]) rfl ?_); at_builtin; refine Kd.R_append k32 w.heap.size rfl (.tmp 12) (.tmp 18) 42 32 (.agg #[(.int .i64 0), (.int .i64 0), (.int .i64 0), (.int .i64 0), (.int .i64 0), (.int .i64 0), (.string ⟨#[]⟩), (.string ⟨#[]⟩), (.string ⟨#[]⟩)]) 96 rfl Try.underlying42 info32 rfl (by decide) (by omega) u3 x3_1 (⟨wrap64 (2 + x4_1), (⟨t187, t188, t189, t190, t191, t192, t193, t194⟩ : S23)⟩ : S32) [.int .i64 (wrap64 (2 + x4_1)), .int .i64 t187, .int .i64 t188, .int .i64 t189, .int .i64 t190, .int .i64 t191, .string t192, .string t193, .string t194] (fun _ => True) (fun _ => False) rfl rfl ?aP (fun _ hk => hk.elim) ?aF ?aO (Below.refl _ _) ?aS ?aL ?_; (case aP => exact k32_mkM _ _ _ (⟨wrap64 (2 + x4_1), (⟨t187, t188, t189, t190, t191, t192, t193, t194⟩ : S23)⟩ : S32)); (case aF => exact (fun _ _ => trivial)); (case aO => exact (rG HO_3)); (case aS => exact (keep_size (w := w) (g := g) (row := none) (kT HK gN))); (case aL => have := LMc7.out; omega); intro v198 w10 ho hb hg hat; rw [← Ny197.out] at ho; have n0_ := ak (IsS134.grown (IsS134.T_ HI0 nN) hg (IsS134.own_ne HI0.out HO_3.out (by decide))); have n1_ := ak (below_weaken (lT HB gN) HL.out hb); have n2_ := ak (KeepBut.trans (kT HK gN) (KeepBut.of_grown hg g) (Kd.R_base2 HO_3.out)); have n3_ := ak (ho); clear HI0; clear HB; clear HK; clear HO_3; have HI0 := n0_; have HB := n1_; have HK := n2_; have HO199 := n3_; clear n0_ n1_ n2_ n3_; clear ho hb hg hat))
 go_roundg k1
 case measure => have := HK1.out; omega
 case rel => exact ⟨_, _, _, _, rr, H', ⟨by have := HK1.out; omega⟩, ⟨by (with_reducible repeat (first | apply Kd.R_alloc | apply Kd.R_drewN | apply Kd.R_drew)); exact HO199.out⟩, ⟨IsS134.T_ HI0 nN⟩, ⟨kT HK gN⟩, ⟨lT HB gN⟩⟩
 }
 {rw [if_neg c7] at H;exact absurd H (by simp)}
 }
 {
 rw [if_neg c5] at H
 have c5b0 := decide_eq_false c5
 clear c5
 have HS_ := Aside0.mk H
 clear H
 go_wp2_with ((with_reducible refine gate_callee (f := 69) rfl ?_); refine gl (some 8) Try.func69 #[.pointer (some ⟨g, 0, none⟩), .int .i64 22] ?_; (with_reducible refine (spec_l01Below.calls g s0_0 x1001_1 x1002_1 22 _ _ _ w0 _ ?side1 ?side2 A4.out).mono ?_); (case side1 => exact IsS134.T_ HI0 nN); (case side2 => exact lT HB gN); rintro e w18 ⟨rfl, hi, hb, hk⟩; refine ⟨_, rfl, ?_⟩; replace HO_3 := IsS134.kR hk (IsS134.T_ HI0 nN) (rG HO_3); replace HK := ak (KeepBut.trans (kT HK gN) hk (.inl rfl)); replace HB := ak (hb); replace HI0 := ak (hi); (try clear hb); (try clear hk); (try clear hi); obtain ⟨Ao19, co19, eo19⟩ := Kd.R_slice HO_3.out; subst eo19; refine Stop.out ?_)
 have H := HS_.out
 clear HS_
 by_cases c11 : (x3_1.length : Int) > 1
 {
 rw [if_pos c11] at H
 have c11b0 : decide (1 < (x3_1.length : Int)) = true := decide_eq_true c11
 have c11b1 : decide (1 < x3_1.length) = true := decide_eq_true (by omega)
 clear c11
 obtain ⟨⟨t200, t201, t202⟩, A12, H⟩ := eb H
 try dsimp only at H
 have HS_ := Aside0.mk H
 clear H
 refine ⟨?_⟩
 go_wp2_with (go_at_call 88; (with_reducible refine (spec_l01Once.calls g s0_0 t185 t186 3 _ _ _ w0 _ ?side1 ?side2 A12.out).mono ?_); (case side1 => exact IsS134.T_ HI0 nN); (case side2 => exact lT HB gN); rintro e w20 ⟨rfl, hi, hb, hk⟩; replace HO_3 := IsS134.kR hk (IsS134.T_ HI0 nN) (rG HO_3); replace HK := ak (KeepBut.trans (kT HK gN) hk (.inl rfl)); replace HB := ak (hb); replace HI0 := ak (hi); (try clear hb); (try clear hk); (try clear hi); refine Stop.out ?_)
 have H := HS_.out
 clear HS_
 by_cases c13 : t200 = true
 {
 subst c13
 rw [if_pos rfl] at H
 obtain ⟨⟨t203, t204, t205⟩, A14, H⟩ := eb H
 try dsimp only at H
 by_cases c15 : 0 ≤ t203
 {
 rw [if_pos c15] at H
 have c15b0 := decide_eq_true c15
 clear c15
 by_cases c16 : t203 < (x3_1.length : Int)
 {
 rw [if_pos c16] at H
 have c16b0 := decide_eq_true c16
 clear c16
 by_cases c17 : x3_1.length < 1466015503701
 {
 rw [if_pos c17] at H
 have LMc17 := Aside0.mk c17
 clear c17
 obtain ⟨y207, hy207⟩ : ∃ y_ : List (S32), y_ = (x3_1 ++ [(⟨(rd_T32 x3_1 t203).f0, (⟨(rd_T32 x3_1 t203).f1.f0, (rd_T32 x3_1 t203).f1.f1, (rd_T32 x3_1 t203).f1.f2, (rd_T32 x3_1 t203).f1.f3, (rd_T32 x3_1 t203).f1.f4, (rd_T32 x3_1 t203).f1.f5, (rd_T32 x3_1 t203).f1.f6, (rd_T32 x3_1 t203).f1.f7⟩ : S23)⟩ : S32)]) := ⟨_, rfl⟩
 replace H : (some (y207, t204, t205)) = some (r1, r2, r3) := by first | (rw [hy207]; with_reducible exact H) | (have H2_ := (Option.bind_some _ _).symm.trans H; rw [hy207]; with_reducible exact H2_) | (have H2_ := (Option.bind_some _ _).symm.trans H; with_reducible exact H2_) | with_reducible exact H | (rw [hy207]; exact H) | exact H
 have Ny207 := Aside0.mk hy207
 clear hy207
 simp only [Option.some.injEq, Prod.mk.injEq] at H
 obtain ⟨rfl, rfl, rfl⟩ := H
 refine ⟨?_⟩
 go_wp2_with (first | ((with_reducible refine gate_callee (f := 69) rfl ?_); refine gl (some 32) Try.func69 #[.pointer (some ⟨g, 0, none⟩), .int .i64 (x3_1.length : Int)] ?_; (with_reducible refine (spec_l01Below.calls g s0_0 t201 t202 (x3_1.length : Int) t203 t204 t205 w0 _ ?side1 ?side2 A14.out).mono ?_); (case side1 => exact IsS134.T_ HI0 nN); (case side2 => exact lT HB gN); rintro e w21 ⟨rfl, hi, hb, hk⟩; refine ⟨_, rfl, ?_⟩; replace HO_3 := IsS134.kR hk (IsS134.T_ HI0 nN) (rG HO_3); replace HK := ak (KeepBut.trans (kT HK gN) hk (.inl rfl)); replace HB := ak (hb); replace HI0 := ak (hi); (try clear hb); (try clear hk); (try clear hi); have p206 : 0 ≤ (t203 : Int) := oda; have q206 : t203 < (x3_1.length : Int) := oda; obtain ⟨ad206, e206, hx206_0, hx206_1, hx206_2, hx206_3, hx206_4, hx206_5, hx206_6, hx206_7, hx206_8⟩ := at_T32 (Kd.R_reads' HO_3.out).2.2 t203 p206 q206; cases e206; replace p206 := eq_true p206; replace q206 := eq_true q206) | ((with_reducible refine gate_builtin (b := .append) (xs := #[.tmp 27, .tmp 35]) rfl ?_); at_builtin; refine Kd.R_append k32 w.heap.size rfl (.tmp 27) (.tmp 35) 42 32 (.agg #[(.int .i64 0), (.int .i64 0), (.int .i64 0), (.int .i64 0), (.int .i64 0), (.int .i64 0), (.string ⟨#[]⟩), (.string ⟨#[]⟩), (.string ⟨#[]⟩)]) 96 rfl Try.underlying42 info32 rfl (by decide) (by omega) (.slice (some ad206) x3_1.length co19) x3_1 (⟨(rd_T32 x3_1 t203).f0, (⟨(rd_T32 x3_1 t203).f1.f0, (rd_T32 x3_1 t203).f1.f1, (rd_T32 x3_1 t203).f1.f2, (rd_T32 x3_1 t203).f1.f3, (rd_T32 x3_1 t203).f1.f4, (rd_T32 x3_1 t203).f1.f5, (rd_T32 x3_1 t203).f1.f6, (rd_T32 x3_1 t203).f1.f7⟩ : S23)⟩ : S32) [.int .i64 ((rd_T32 x3_1 t203).f0), .int .i64 ((rd_T32 x3_1 t203).f1.f0), .int .i64 ((rd_T32 x3_1 t203).f1.f1), .int .i64 ((rd_T32 x3_1 t203).f1.f2), .int .i64 ((rd_T32 x3_1 t203).f1.f3), .int .i64 ((rd_T32 x3_1 t203).f1.f4), .string ((rd_T32 x3_1 t203).f1.f5), .string ((rd_T32 x3_1 t203).f1.f6), .string ((rd_T32 x3_1 t203).f1.f7)] (fun _ => True) (fun _ => False) rfl rfl ?aP (fun _ hk => hk.elim) ?aF ?aO (Below.refl _ _) ?aS ?aL ?_; (case aP => exact k32_mkM _ _ _ (⟨(rd_T32 x3_1 t203).f0, (⟨(rd_T32 x3_1 t203).f1.f0, (rd_T32 x3_1 t203).f1.f1, (rd_T32 x3_1 t203).f1.f2, (rd_T32 x3_1 t203).f1.f3, (rd_T32 x3_1 t203).f1.f4, (rd_T32 x3_1 t203).f1.f5, (rd_T32 x3_1 t203).f1.f6, (rd_T32 x3_1 t203).f1.f7⟩ : S23)⟩ : S32)); (case aF => exact (fun _ _ => trivial)); (case aO => exact (rG HO_3)); (case aS => exact (keep_size (w := w) (g := g) (row := none) (kT HK gN))); (case aL => have := LMc17.out; omega); intro v208 w22 ho hb hg hat; rw [← Ny207.out] at ho; have n0_ := ak (IsS134.grown (IsS134.T_ HI0 nN) hg (IsS134.own_ne HI0.out HO_3.out (by decide))); have n1_ := ak (below_weaken (lT HB gN) HL.out hb); have n2_ := ak (KeepBut.trans (kT HK gN) (KeepBut.of_grown hg g) (Kd.R_base2 HO_3.out)); have n3_ := ak (ho); clear HI0; clear HB; clear HK; clear HO_3; have HI0 := n0_; have HB := n1_; have HK := n2_; have HO209 := n3_; clear n0_ n1_ n2_ n3_; clear ho hb hg hat))
 go_ret
 exact ⟨_, ew, by (with_reducible repeat (first | apply Kd.R_alloc | apply Kd.R_drewN | apply Kd.R_drew)); exact HO209.out, IsS134.T_ HI0 nN, lT HB gN, kT HK gN⟩
 }
 {rw [if_neg c17] at H;exact absurd H (by simp)}
 }
 {rw [if_neg c16] at H;exact absurd H (by simp)}
 }
 {rw [if_neg c15] at H;exact absurd H (by simp)}
 }
 {
 replace c13 := Bool.eq_false_iff.mpr c13
 subst c13
 rw [if_neg (show ¬ (false = true) by decide)] at H
 simp only [Option.some.injEq, Prod.mk.injEq] at H
 obtain ⟨rfl, rfl, rfl⟩ := H
 refine ⟨?_⟩
 go_wp2
 go_ret
 exact ⟨_, ew, by (with_reducible repeat (first | apply Kd.R_alloc | apply Kd.R_drewN | apply Kd.R_drew)); exact HO_3.out, IsS134.T_ HI0 nN, lT HB gN, kT HK gN⟩
 }
 }
 {
 rw [if_neg c11] at H
 have c11b0 : decide (1 < (x3_1.length : Int)) = false := decide_eq_false c11
 have c11b1 : decide (1 < x3_1.length) = false := decide_eq_false (by omega)
 clear c11
 simp only [Option.some.injEq, Prod.mk.injEq] at H
 obtain ⟨rfl, rfl, rfl⟩ := H
 refine ⟨?_⟩
 go_wp2
 go_ret
 exact ⟨_, ew, by (with_reducible repeat (first | apply Kd.R_alloc | apply Kd.R_drewN | apply Kd.R_drew)); exact HO_3.out, IsS134.T_ HI0 nN, lT HB gN, kT HK gN⟩
 }
 }
 }
 }
/-! ### spec_DrawItems: function 33 -/
def spec_DrawItems.f (k : Nat) (l0 : List Int) : Option ((List (S32))) := (spec_l01New.f k l0).bind fun bt210 => ((spec_l07Items.f k bt210.1 bt210.2.1 bt210.2.2).bind fun bt214 => (some bt214.1))
theorem spec_DrawItems.mono : ∀ a0 k, LeO (spec_DrawItems.f k a0) (spec_DrawItems.f (k + 1) a0) := by
 intro a0 k
 unfold spec_DrawItems.f
 repeat' with_reducible first | exact spec_l01New.mono _ _ | exact spec_l07Items.mono _ _ _ _ | exact LeO.refl _ | exact LeO.none _ | refine LeO.ite ?_ ?_ | refine LeO.bind ?_ (fun _ => ?_)
theorem spec_DrawItems.calls (k : Nat) (A0 : Option Addr) (c0 : Nat) (l0 : List Int) (r : List (S32)) (w : World) (hr0 : Kd.C (Kd.int .u8) w A0 l0.length l0) (hc0 : l0.length ≤ c0) (h : spec_DrawItems.f k l0 = some r) :
  Calls Try.prog 33 #[.slice A0 l0.length c0] w fun e w' => ∃ v0_ : Value, e = .returned (v0_) ∧ Kd.R k32 32 w' w.heap.size (fun _ => True) v0_ r ∧ Below w.heap.size w w' := by
 have HR0 := Aside0.mk hr0
 have HC0 := Aside0.mk hc0
 clear hr0 hc0
 have HB := ak (Below.refl w.heap.size w)
 have H := h
 clear h
 unfold spec_DrawItems.f at H
 obtain ⟨⟨t210, t211, t212⟩, A2, H⟩ := eb H
 try dsimp only at H
 obtain ⟨⟨t214, t217, t218⟩, A3, H⟩ := eb H
 try dsimp only at H
 obtain rfl := Option.some.inj H
 go_enter Try.func33, Try.ntmps33
 go_wp2_with (first | ((with_reducible refine gate_callee (f := 67) rfl ?_); refine gl (some 4) Try.func67 #[.slice A0 l0.length c0] ?_; (with_reducible refine (spec_l01New.calls k _ _ l0 t210 t211 t212 w _ ?side1 ?side2 ?side3 A2.out).mono ?_); (case side1 => exact lG HB); (case side2 => exact HR0.out); (case side3 => exact HC0.out); rintro e w4 ⟨g213, rfl, hi, hb, hb2⟩; refine ⟨_, rfl, ?_⟩; replace HB := ak (hb); replace HI213 := ak (hi); (try clear hb); (try clear hb2); (try clear hk); (try clear hi)) | ((with_reducible refine gate_callee (f := 72) rfl ?_); refine gl (some 5) Try.func72 #[.pointer (some ⟨g213, 0, none⟩)] ?_; (with_reducible refine (spec_l07Items.calls k g213 t210 t211 t212 t214 t217 t218 w _ ?side1 ?side2 A3.out).mono ?_); (case side1 => exact IsS134.T_ HI213 nN); (case side2 => exact lT HB gN); rintro e w5 ⟨v215, rfl, ho0, hi, hb, hk⟩; refine ⟨_, rfl, ?_⟩; replace HO216 := ak (Kd.R_lower ho0 (below_size (lT HB gN))); replace HB := ak (hb); replace HI213 := ak (hi); (try clear hb); (try clear hb2); (try clear hk); (try clear hi); (try clear ho0)))
 go_ret
 exact ⟨_, ew, by (with_reducible repeat (first | apply Kd.R_alloc | apply Kd.R_drewN | apply Kd.R_drew)); exact HO216.out, lT HB gN⟩
/-! ### impl_in: function 63 -/
def impl_in.f (a0 : Int) (a1 : Int) (a2 : Int) : Option (Bool) := if a0 ≥ a1 then (some (decide (a0 ≤ a2))) else (some false)
theorem impl_in.calls (a0 : Int) (a1 : Int) (a2 : Int) (r : Bool) (w : World) (h : impl_in.f a0 a1 a2 = some r) :
  Calls Try.prog 63 #[.int .i64 a0, .int .i64 a1, .int .i64 a2] w fun e w' => e = .returned (.bool r) ∧ Drawn0 w w' := by
 have H := h
 clear h
 unfold impl_in.f at H
 by_cases c4 : a0 ≥ a1
 {
 rw [if_pos c4] at H
 have c4b0 : decide (a1 ≤ a0) = true := decide_eq_true c4
 clear c4
 obtain rfl := Option.some.inj H
 go_enter Try.func63, Try.ntmps63
 go_wp2
 go_ret
 exact ⟨by first | rfl | (simp; done) | (simp [*]; done), by repeat (first | exact Drawn0.refl _ | apply Drawn0.step)⟩
 }
 {
 rw [if_neg c4] at H
 have c4b0 : decide (a1 ≤ a0) = false := decide_eq_false c4
 clear c4
 obtain rfl := Option.some.inj H
 go_enter Try.func63, Try.ntmps63
 go_wp2
 go_ret
 exact ⟨by first | rfl | (simp; done) | (simp [*]; done), by repeat (first | exact Drawn0.refl _ | apply Drawn0.step)⟩
 }
end Go.Proofs.Ytagkjeldheiejaa.PFnStates
