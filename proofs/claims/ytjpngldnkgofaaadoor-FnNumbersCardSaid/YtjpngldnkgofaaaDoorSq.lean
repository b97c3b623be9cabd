/- Plain: short names for facts about a world that has only been drawn from since; no condition. -/
import Derived.Test.YtjpngldnkgofaaaDoorWWords
import Derived.Test.YtjpngldnkgofaaaDoorWApart
set_option linter.unusedVariables false
namespace Go.Proofs.YtjpngldnkgofaaaDoorW.PrintWords
open Go.RowKit

abbrev t_ : Bool := true
abbrev f_ : Bool := false
class Drawn (w w' : World) : Prop where
  out : Below w.heap.size w w'
instance {w : World} : Drawn w w := ⟨Below.refl _ _⟩
instance {w w' : World} {o : Obj} [h : Drawn w w'] : Drawn w (w'.alloc o) := ⟨below_alloc h.out o⟩
instance {w w' : World} {n : Nat} [h : Drawn w w'] : Drawn w (w'.drewN n) := ⟨pw_below_drewN h.out n⟩
instance {w w' : World} [h : Drawn w w'] : Drawn w w'.drew := ⟨below_drew1 h.out⟩
theorem ak {p : Prop} (h : p) : Aside0 p := ⟨h⟩
theorem bG {w w' : World} {g : Nat} {o : Obj} [d : Drawn w w'] (h : Aside0 (w.heap[g]? = some o)) : w'.heap[g]? = some o := blk_below h.out d.out
theorem bB {w w' w2 : World} {g : Nat} {o : Obj} [d : Drawn w w'] (h : Aside0 (w.heap[g]? = some o)) (hb : Below w'.heap.size w' w2) : Aside0 (w2.heap[g]? = some o) := ⟨blk_below (blk_below h.out d.out) hb⟩
theorem lG {w0 w w' : World} [d : Drawn w w'] (h : Aside0 (Below w0.heap.size w0 w)) : Below w0.heap.size w0 w' := below_step h.out d.out
theorem lB {w0 w w' w2 : World} [d : Drawn w w'] (h : Aside0 (Below w0.heap.size w0 w)) (hb : Below w'.heap.size w' w2) : Aside0 (Below w0.heap.size w0 w2) := ⟨below_step (below_step h.out d.out) hb⟩
theorem rG {α : Type} {k : Kd α} {e : TypeId} {w w' : World} {base : Nat} {ok : Nat → Prop} {v : Value} {xs : List α} [d : Drawn w w'] (h : Aside0 (k.R e w base ok v xs)) : k.R e w' base ok v xs := Kd.R_below h.out d.out
theorem rB {α : Type} {k : Kd α} {e : TypeId} {w w' w2 : World} {base : Nat} {ok : Nat → Prop} {v : Value} {xs : List α} [d : Drawn w w'] (h : Aside0 (k.R e w base ok v xs)) (hb : Below w'.heap.size w' w2) : Aside0 (k.R e w2 base ok v xs) := ⟨Kd.R_below (Kd.R_below h.out d.out) hb⟩
theorem cG {α : Type} {k : Kd α} {w w' : World} {A : Option Addr} {n : Nat} {xs : List α} [d : Drawn w w'] (h : k.C w A n xs) : k.C w' A n xs := Kd.C_below h d.out
theorem bC1 {w : World} {g : Nat} {t : TypeId} {a : Value} (h : Aside0 (w.heap[g]? = some (.cells #[a] t (0, 0)))) : w.cell? ⟨g, 0, none⟩ = some a ∧ w.frozen? ⟨g, 0, none⟩ = false := ⟨(blk_cell h.out 0).trans rfl, blk_frozen h.out 0⟩
theorem bC2 {w : World} {g : Nat} {t : TypeId} {a b : Value} (h : Aside0 (w.heap[g]? = some (.cells #[a, b] t (0, 0)))) : w.cell? ⟨g, 0, none⟩ = some a ∧ w.cell? ⟨g, 1, none⟩ = some b ∧ w.frozen? ⟨g, 0, none⟩ = false ∧ w.frozen? ⟨g, 1, none⟩ = false := ⟨(blk_cell h.out 0).trans rfl, (blk_cell h.out 1).trans rfl, blk_frozen h.out 0, blk_frozen h.out 1⟩
theorem bC3 {w : World} {g : Nat} {t : TypeId} {a b c : Value} (h : Aside0 (w.heap[g]? = some (.cells #[a, b, c] t (0, 0)))) : w.cell? ⟨g, 0, none⟩ = some a ∧ w.cell? ⟨g, 1, none⟩ = some b ∧ w.cell? ⟨g, 2, none⟩ = some c ∧ w.frozen? ⟨g, 0, none⟩ = false ∧ w.frozen? ⟨g, 1, none⟩ = false ∧ w.frozen? ⟨g, 2, none⟩ = false := ⟨(blk_cell h.out 0).trans rfl, (blk_cell h.out 1).trans rfl, (blk_cell h.out 2).trans rfl, blk_frozen h.out 0, blk_frozen h.out 1, blk_frozen h.out 2⟩
theorem bC4 {w : World} {g : Nat} {t : TypeId} {a b c d : Value} (h : Aside0 (w.heap[g]? = some (.cells #[a, b, c, d] t (0, 0)))) : w.cell? ⟨g, 0, none⟩ = some a ∧ w.cell? ⟨g, 1, none⟩ = some b ∧ w.cell? ⟨g, 2, none⟩ = some c ∧ w.cell? ⟨g, 3, none⟩ = some d ∧ w.frozen? ⟨g, 0, none⟩ = false ∧ w.frozen? ⟨g, 1, none⟩ = false ∧ w.frozen? ⟨g, 2, none⟩ = false ∧ w.frozen? ⟨g, 3, none⟩ = false := ⟨(blk_cell h.out 0).trans rfl, (blk_cell h.out 1).trans rfl, (blk_cell h.out 2).trans rfl, (blk_cell h.out 3).trans rfl, blk_frozen h.out 0, blk_frozen h.out 1, blk_frozen h.out 2, blk_frozen h.out 3⟩
/-! Worlds that have been drawn from, and written into at some blocks. -/
class Lies (g : Nat) (L : List Nat) : Prop where
  out : g ∈ L
instance {g : Nat} {L : List Nat} : Lies g (g :: L) := ⟨List.mem_cons_self⟩
instance {g h : Nat} {L : List Nat} [m : Lies g L] : Lies g (h :: L) := ⟨List.mem_cons_of_mem _ m.out⟩
class Touched (L : List Nat) (w w' : World) : Prop where
  below : ∀ w0 : World, (∀ g, g ∈ L → w0.heap.size ≤ g) → Below w0.heap.size w0 w → Below w0.heap.size w0 w'
  blk : ∀ (g : Nat) (t : TypeId) (cs : Array Value), (∀ x, x ∈ L → g ≠ x) → w.heap[g]? = some (.cells cs t (0, 0)) → w'.heap[g]? = some (.cells cs t (0, 0))
  row : ∀ {α : Type} (k : Kd α) (e : TypeId) (base : Nat) (ok : Nat → Prop) (v : Value) (xs : List α), (∀ g, g ∈ L → ∀ j, ok j → j ≠ g) → k.R e w base ok v xs → k.R e w' base ok v xs
instance {L : List Nat} {w : World} : Touched L w w := ⟨fun _ _ h => h, fun _ _ _ _ h => h, fun _ _ _ _ _ _ _ h => h⟩
instance {L : List Nat} {w w' : World} {o : Obj} [h : Touched L w w'] : Touched L w (w'.alloc o) := ⟨fun a b c => below_alloc (h.below a b c) o, fun a b c d e => blk_alloc (h.blk a b c d e) o, fun a b c d e f g i => Kd.R_alloc (h.row a b c d e f g i) o⟩
instance {L : List Nat} {w w' : World} {n : Nat} [h : Touched L w w'] : Touched L w (w'.drewN n) := ⟨fun a b c => pw_below_drewN (h.below a b c) n, fun a b c d e => blk_drewN (h.blk a b c d e) n, fun a b c d e f g i => Kd.R_drewN (h.row a b c d e f g i) n⟩
instance {L : List Nat} {w w' : World} [h : Touched L w w'] : Touched L w w'.drew := ⟨fun a b c => below_drew1 (h.below a b c), fun a b c d e => blk_drew (h.blk a b c d e), fun a b c d e f g i => Kd.R_drew (h.row a b c d e f g i)⟩
instance {L : List Nat} {w w' : World} {g j : Nat} {v : Value} [h : Touched L w w'] [m : Lies g L] : Touched L w (w'.setCell ⟨g, j, none⟩ v) := ⟨fun a b c => below_set (h.below a b c) (b g m.out), fun a b c d e => blk_far (h.blk a b c d e) (d g m.out) v, fun a b c d e f i k => Kd.R_far (h.row a b c d e f i k) (fun x hx => i g m.out x hx) v⟩
theorem gN {w0 : World} : ∀ g : Nat, g ∈ ([] : List Nat) → w0.heap.size ≤ g := fun _ h => absurd h (by simp)
theorem gC {w0 : World} {g : Nat} {L : List Nat} (h : Aside0 (w0.heap.size ≤ g)) (p : ∀ g : Nat, g ∈ L → w0.heap.size ≤ g) : ∀ x : Nat, x ∈ g :: L → w0.heap.size ≤ x := fun x hx => (List.mem_cons.1 hx).elim (fun e => e ▸ h.out) (p x)
theorem nN {g : Nat} : ∀ x : Nat, x ∈ ([] : List Nat) → g ≠ x := fun _ h => absurd h (by simp)
theorem nC {g y : Nat} {L : List Nat} (h : Aside0 (g ≠ y)) (p : ∀ x : Nat, x ∈ L → g ≠ x) : ∀ x : Nat, x ∈ y :: L → g ≠ x := fun x hx => (List.mem_cons.1 hx).elim (fun e => e ▸ h.out) (p x)
theorem lT {w0 w w' : World} {L : List Nat} (h : Aside0 (Below w0.heap.size w0 w)) (p : ∀ g : Nat, g ∈ L → w0.heap.size ≤ g) [d : Touched L w w'] : Below w0.heap.size w0 w' := d.below _ p h.out
theorem bT {w w' : World} {g : Nat} {t : TypeId} {cs : Array Value} {L : List Nat} (h : Aside0 (w.heap[g]? = some (.cells cs t (0, 0)))) (p : ∀ x : Nat, x ∈ L → g ≠ x) [d : Touched L w w'] : w'.heap[g]? = some (.cells cs t (0, 0)) := d.blk _ _ _ p h.out
theorem rT {α : Type} {k : Kd α} {e t : TypeId} {w w' : World} {base g : Nat} {ok : Nat → Prop} {v : Value} {xs : List α} {cs : Array Value} (h : Aside0 (k.R e w base ok v xs)) (b : Aside0 (w.heap[g]? = some (.cells cs t (0, 0)))) (ht : ∀ q, q ∈ e :: k.E → q ≠ t) [d : Touched [g] w w'] : k.R e w' base ok v xs :=
  Kd.R_mono (d.row k e base _ v xs (fun x hx j hj => by obtain rfl := List.mem_singleton.1 hx; exact hj.2) (Kd.R_types h.out b.out ht)) (fun _ h => h.1)
end Go.Proofs.YtjpngldnkgofaaaDoorW.PrintWords
