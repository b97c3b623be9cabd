/- Plain: frames one behind the other; nothing of the program; no condition. -/
import Derived.Test.YtjpngldnkgofaaaDoorModelFrame
namespace Go.Proofs.YtjpngldnkgofaaaDoor.Base
open Go.RowKit Go.Proofs.YtjpngldnkgofaaaDoorW.PrintWords

theorem readFrameM_adv (x : ByteArray) (a : Int) (h : (readFrameM x a).2.2.2.2 = true) : 0 ≤ a ∧ a < (readFrameM x a).2.2.2.1 ∧ (readFrameM x a).2.2.2.1 ≤ (x.size : Int) := by
  obtain ⟨i1, i2, i3, i4, i5⟩ := readVarM_range x a
  obtain ⟨j1, j2, j3, j4, j5⟩ := readVarM_range x (readVarM x a).2.1
  obtain ⟨k1, k2, k3, k4⟩ := readShortM_range x (readVarM x (readVarM x a).2.1).2.1
  unfold readFrameM at h ⊢
  split at h
  · rename_i hc
    rw [if_pos hc]
    obtain ⟨⟨c1, c2, c3⟩, _, c4, _⟩ := hc
    have := i5 c1
    have := j5 c2
    have := k4 c3
    refine ⟨by omega, by simp only; omega, by simp only; omega⟩
  · simp at h
theorem readFrameM_fields (x : ByteArray) (a : Int) (h : (readFrameM x a).2.2.2.2 = true) : frameOkM (readFrameM x a).1 (readFrameM x a).2.1 (readFrameM x a).2.2.1 = true := by
  unfold readFrameM at h ⊢
  split at h
  · rename_i hc
    rw [if_pos hc]
    exact hc.2.1
  · simp at h
/-- What ScanFrames tells from a place on: the frames that have this Gen, as long as there is one, and the place behind them. -/
def scanGo (x : ByteArray) (g : Int) : Nat → Int → List (Int × Int × ByteArray) × Int
  | 0, a => ([], a)
  | f + 1, a =>
    if (readFrameM x a).2.2.2.2 = true then
      if (readFrameM x a).1 = g then (((readFrameM x a).1, (readFrameM x a).2.1, (readFrameM x a).2.2.1) :: (scanGo x g f (readFrameM x a).2.2.2.1).1, (scanGo x g f (readFrameM x a).2.2.2.1).2)
      else ([], a)
    else ([], a)
def scanM (x : ByteArray) (g : Int) : List (Int × Int × ByteArray) × Int := scanGo x g (x.size + 1) 0
theorem scanGo_length (x : ByteArray) (g : Int) (f : Nat) : ∀ a : Int, 0 ≤ a → a ≤ (x.size : Int) → ((scanGo x g f a).1.length : Int) ≤ (x.size : Int) - a := by
  induction f with
  | zero => intro a h0 h1; simp [scanGo]; omega
  | succ f ih =>
    intro a h0 h1
    unfold scanGo
    by_cases h : (readFrameM x a).2.2.2.2 = true
    · rw [if_pos h]
      by_cases h2 : (readFrameM x a).1 = g
      · rw [if_pos h2]
        obtain ⟨b0, b1, b2⟩ := readFrameM_adv x a h
        have := ih _ (show 0 ≤ (readFrameM x a).2.2.2.1 by omega) b2
        simp only [List.length_cons]
        omega
      · rw [if_neg h2]; simp; omega
    · rw [if_neg h]; simp; omega
end Go.Proofs.YtjpngldnkgofaaaDoor.Base
