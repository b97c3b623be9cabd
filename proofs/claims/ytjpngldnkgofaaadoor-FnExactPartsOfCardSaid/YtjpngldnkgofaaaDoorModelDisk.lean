/- Plain: disks, what is read of them; nothing of the program; no condition. -/
import Derived.Test.YtjpngldnkgofaaaDoorModelScan
namespace Go.Proofs.YtjpngldnkgofaaaDoor.Base
open Go.RowKit Go.Proofs.YtjpngldnkgofaaaDoorW.PrintWords

/-- A write that waits: where, and what. -/
abbrev Wr : Type := Int × ByteArray
def wrLast (a : Int) (c : List Wr) (s : ByteArray) : ByteArray := c.foldl (fun acc w => if w.1 = a then w.2 else acc) s
theorem wrLast_nil (a : Int) (s : ByteArray) : wrLast a [] s = s := rfl
theorem wrLast_cons (a : Int) (w : Wr) (c : List Wr) (s : ByteArray) : wrLast a (w :: c) s = wrLast a c (if w.1 = a then w.2 else s) := rfl
theorem wrLast_snoc (a : Int) (w : Wr) (c : List Wr) (s : ByteArray) : wrLast a (c ++ [w]) s = if w.1 = a then w.2 else wrLast a c s := by
  unfold wrLast
  rw [List.foldl_append]
  rfl
theorem wrLast_size (a : Int) (c : List Wr) (s : ByteArray) (B : Nat) (hs : s.size ≤ B) (hc : ∀ w, w ∈ c → w.2.size ≤ B) : (wrLast a c s).size ≤ B := by
  induction c generalizing s with
  | nil => exact hs
  | cons w c ih =>
    rw [wrLast_cons]
    refine ih _ ?_ (fun w hw => hc w (by simp [hw]))
    by_cases h : w.1 = a
    · rw [if_pos h]; exact hc w (by simp)
    · rw [if_neg h]; exact hs
def readSectorM (ss : List ByteArray) (c : List Wr) (a : Int) : ByteArray × Bool :=
  if 0 ≤ a ∧ a ≤ (ss.length : Int) - 1 then (wrLast a c (ss.getD a.toNat ByteArray.empty), true) else ((⟨#[]⟩ : ByteArray), false)
theorem readSectorM_size (ss : List ByteArray) (c : List Wr) (a : Int) (B : Nat) (hs : ∀ s, s ∈ ss → s.size ≤ B) (hc : ∀ w, w ∈ c → w.2.size ≤ B) : (readSectorM ss c a).1.size ≤ B := by
  unfold readSectorM
  by_cases h : 0 ≤ a ∧ a ≤ (ss.length : Int) - 1
  · rw [if_pos h]
    refine wrLast_size _ _ _ _ ?_ hc
    have hl : a.toNat < ss.length := by omega
    rw [List.getD_eq_getElem?_getD, List.getElem?_eq_getElem hl]
    exact hs _ (List.getElem_mem hl)
  · rw [if_neg h]
    have h0 : (⟨#[]⟩ : ByteArray).size = 0 := rfl
    simp only [h0]
    omega
def stGo (ss : List ByteArray) (c : List Wr) (a : Int) : Nat → Nat → ByteArray → ByteArray × Bool
  | 0, _, acc => (acc, true)
  | f + 1, i, acc => if (readSectorM ss c (a + (i : Int))).2 = true then stGo ss c a f (i + 1) (acc ++ (readSectorM ss c (a + (i : Int))).1) else ((⟨#[]⟩ : ByteArray), false)
def sectorTextM (ss : List ByteArray) (c : List Wr) (a n : Int) : ByteArray × Bool := if 0 ≤ n ∧ n ≤ 100 then stGo ss c a n.toNat 0 (⟨#[]⟩ : ByteArray) else ((⟨#[]⟩ : ByteArray), false)
theorem stGo_size (ss : List ByteArray) (c : List Wr) (a : Int) (B : Nat) (hs : ∀ s, s ∈ ss → s.size ≤ B) (hc : ∀ w, w ∈ c → w.2.size ≤ B) (f : Nat) : ∀ (i : Nat) (acc : ByteArray), (stGo ss c a f i acc).1.size ≤ acc.size + f * B := by
  induction f with
  | zero => intro i acc; simp [stGo]
  | succ f ih =>
    intro i acc
    unfold stGo
    by_cases h : (readSectorM ss c (a + (i : Int))).2 = true
    · rw [if_pos h]
      have h1 := ih (i + 1) (acc ++ (readSectorM ss c (a + (i : Int))).1)
      have h2 := readSectorM_size ss c (a + (i : Int)) B hs hc
      rw [size_append] at h1
      rw [Nat.succ_mul]
      omega
    · rw [if_neg h]
      have : (⟨#[]⟩ : ByteArray).size = 0 := rfl
      simp only [this]
      omega
theorem sectorTextM_size (ss : List ByteArray) (c : List Wr) (a n : Int) (B : Nat) (hs : ∀ s, s ∈ ss → s.size ≤ B) (hc : ∀ w, w ∈ c → w.2.size ≤ B) : (sectorTextM ss c a n).1.size ≤ 100 * B := by
  unfold sectorTextM
  by_cases h : 0 ≤ n ∧ n ≤ 100
  · rw [if_pos h]
    have h1 := stGo_size ss c a B hs hc n.toNat 0 (⟨#[]⟩ : ByteArray)
    have h0 : (⟨#[]⟩ : ByteArray).size = 0 := rfl
    have h2 : n.toNat * B ≤ 100 * B := Nat.mul_le_mul_right _ (by omega)
    omega
  · rw [if_neg h]
    have h0 : (⟨#[]⟩ : ByteArray).size = 0 := rfl
    simp only [h0]
    omega
def segTextM (ss : List ByteArray) (c : List Wr) (g : Int) : ByteArray := if 0 ≤ g ∧ g ≤ 10 then (sectorTextM ss c (8 + g * 8) 8).1 else (⟨#[]⟩ : ByteArray)
theorem segTextM_size (ss : List ByteArray) (c : List Wr) (g : Int) (B : Nat) (hs : ∀ s, s ∈ ss → s.size ≤ B) (hc : ∀ w, w ∈ c → w.2.size ≤ B) : (segTextM ss c g).size ≤ 100 * B := by
  unfold segTextM
  by_cases h : 0 ≤ g ∧ g ≤ 10
  · rw [if_pos h]; exact sectorTextM_size ss c _ _ B hs hc
  · rw [if_neg h]
    have h0 : (⟨#[]⟩ : ByteArray).size = 0 := rfl
    simp only [h0]
    omega
def segGenM (ss : List ByteArray) (c : List Wr) (g : Int) : Int := if (readFrameM (segTextM ss c g) 0).2.2.1.toList = ([115, 101, 103] : List UInt8) then (readFrameM (segTextM ss c g) 0).1 else 0
theorem readFrameM_no (x : ByteArray) (a : Int) (h : ¬ (readFrameM x a).2.2.2.2 = true) : readFrameM x a = (0, 0, (⟨#[]⟩ : ByteArray), 0, false) := by
  unfold readFrameM at h ⊢
  split at h
  · exact absurd rfl h
  · rename_i hc
    rw [if_neg hc]
def segsOfM (n : Nat) : Int := if 5 ≤ Int.tdiv ((n : Int) - 8) 8 ∧ Int.tdiv ((n : Int) - 8) 8 ≤ 11 then Int.tdiv ((n : Int) - 8) 8 else 0
end Go.Proofs.YtjpngldnkgofaaaDoor.Base
