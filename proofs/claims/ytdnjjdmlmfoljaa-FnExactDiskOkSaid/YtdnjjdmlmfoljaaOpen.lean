/- Plain helpers of this seat's rows: what is read at an argument's type is what the printed contracts speak of (a slice's elements, one by one); no condition. -/
import Derived.Test.YtdnjjdmlmfoljaaWWords
import Derived.Test.YtdnjjdmlmfoljaaWLast
import Derived.ChangeArms
import Derived.ChangeShapes
import Derived.ChangeSlices
namespace Go.Proofs.Ytdnjjdmlmfoljaa.Open
open Go.RowKit Go.Proofs.YtdnjjdmlmfoljaaW.PrintWords Go.Proofs.YtdnjjdmlmfoljaaW.PrintLast

section
variable {H : Type} {enc : TypeId × Value → H} {P : Program} {W : World} {base : Nat} {sp : Nat → Bool} {hd : Bool}
/-- What is read at type t are the cells of some value of kind d, of which Q is so. -/
def Opens (enc : TypeId × Value → H) (P : Program) (W : World) (base : Nat) (sp : Nat → Bool) (hd : Bool) (t : TypeId) {α : Type} (d : Kd α) (Q : α → Prop) : Prop :=
  ∀ (fuel : Nat) (cs : List Value) (x : DataW H × List MemPlace), DataW.trod enc P W base sp hd fuel t cs = some x → ∃ a, d.K W a cs ∧ Q a
theorem opens_int {t : TypeId} {k : IntKind} (ht : P.underlying t = some (.int k)) : Opens enc P W base sp hd t (Kd.int k) (fun n => (Lit.int k n).wf = true) := by
  intro fuel cs x h
  obtain ⟨n, rfl, _, hw⟩ := DataW.trod_int ht h
  exact ⟨n, rfl, hw⟩
theorem opens_string {t : TypeId} (ht : P.underlying t = some .string) : Opens enc P W base sp hd t Kd.string (fun s => s.size ≤ maxLen) := by
  intro fuel cs x h
  obtain ⟨s, rfl, _, hw⟩ := DataW.trod_string ht h
  exact ⟨s, rfl, hw⟩
theorem open_slice_C {t e : TypeId} {α : Type} {d : Kd α} {Q : α → Prop} (ht : P.underlying t = some (.slice e)) (hc : P.cellsOf e = d.sz) (ho : Opens enc P W base sp hd e d Q)
    {fuel : Nat} {cs : List Value} {x : DataW H × List MemPlace} (h : DataW.trod enc P W base sp hd fuel t cs = some x) :
    ∃ (A : Option Addr) (c : Nat) (xs : List α), cs = [.slice A xs.length c] ∧ xs.length ≤ c ∧ c ≤ maxLen ∧ d.C W A xs.length xs ∧ ∀ a, a ∈ xs → Q a := by
  rcases DataW.trod_slice ht h with ⟨rfl, _⟩ | ⟨a, len, cap, elems, rest, n, _, rfl, _, hb, hl, hm, hlen, hel, _, _⟩
  · exact ⟨none, 0, [], rfl, Nat.le_refl _, by simp [maxLen], ⟨rfl, by simp, fun h0 => absurd h0 (by simp)⟩, fun _ h0 => absurd h0 (by simp)⟩
  have each : ∀ i, i < len → ∃ (y : α) (ys : List Value), d.K W y ys ∧ Q y ∧ W.cells? base (a.add (i * d.sz)) d.sz = some ys := by
    intro i hi
    have h1 := hel i hi
    rw [List.getElem?_eq_getElem (by omega), hc, Option.bind_eq_some_iff] at h1
    obtain ⟨ys, h2, h3⟩ := h1
    obtain ⟨y, h4, h5⟩ := ho _ _ _ h3
    exact ⟨y, ys, h4, h5, h2⟩
  have build : ∀ m, m ≤ len → ∃ xs : List α, xs.length = m ∧ ∀ j p, xs[j]? = some p → ∃ ys, d.K W p ys ∧ Q p ∧ W.cells? base (a.add (j * d.sz)) d.sz = some ys := by
    intro m
    induction m with
    | zero => intro _; exact ⟨[], rfl, fun j p h0 => by simp at h0⟩
    | succ m ih =>
      intro hm'
      obtain ⟨xs, hx, hp⟩ := ih (by omega)
      obtain ⟨y, ys, h1, h2, h3⟩ := each m (by omega)
      refine ⟨xs ++ [y], by simp [hx], fun j p hj => ?_⟩
      by_cases hjm : j < m
      · rw [List.getElem?_append_left (by omega)] at hj
        exact hp j p hj
      · have hlt := (List.getElem?_eq_some_iff.1 hj).1
        simp [hx] at hlt
        obtain rfl : j = m := by omega
        rw [List.getElem?_append_right (by omega), hx] at hj
        simp at hj
        subst hj
        exact ⟨ys, h1, h2, h3⟩
  obtain ⟨xs, hx, hp⟩ := build len (Nat.le_refl _)
  subst hx
  refine ⟨some a, cap, xs, rfl, hl, hm, ⟨rfl, by simp only [maxLen] at hm; omega, fun _ => ⟨a, rfl, fun j p hj => ?_⟩⟩, fun y hy => ?_⟩
  · obtain ⟨ys, h1, _, h3⟩ := hp j p hj
    obtain ⟨_, h4, h5⟩ := World.cells?_some h3
    refine ⟨ys, h4, h1, fun i u hu => ?_⟩
    have hi : i < d.sz := by rw [← h4]; exact (List.getElem?_eq_some_iff.1 hu).1
    have h6 := h5 i hi
    rw [hu] at h6
    have ha : (a.add (j * d.sz)).add i = a.add (j * d.sz + i) := by
      unfold Addr.add
      by_cases z1 : j * d.sz = 0 <;> by_cases z2 : i = 0 <;> simp [z1, z2, Nat.add_assoc]
    rw [← ha]; exact h6
  · obtain ⟨j, hj⟩ := List.getElem?_of_mem hy
    obtain ⟨ys, _, h2, _⟩ := hp j y hj
    exact h2
end
end Go.Proofs.Ytdnjjdmlmfoljaa.Open
