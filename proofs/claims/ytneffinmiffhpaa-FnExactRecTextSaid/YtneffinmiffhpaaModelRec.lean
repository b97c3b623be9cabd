/- Plain: records; nothing of the program; no condition. -/
import Derived.Test.YtneffinmiffhpaaModelFrame
namespace Go.Proofs.Ytneffinmiffhpaa.Base
open Go.RowKit Go.Proofs.YtneffinmiffhpaaW.PrintWords

/-- What WordOk tells of a word, given by its bytes. -/
def wordB (l : List Int) : Bool := l.all fun b => decide (97 ≤ b ∧ b ≤ 122)
def wordM (x : ByteArray) : Bool := wordB (bytesOf x) && decide (1 ≤ (x.size : Int) ∧ (x.size : Int) ≤ 8)
theorem wordB_nil : wordB [] = true := rfl
theorem wordB_cons (b : Int) (l : List Int) : wordB (b :: l) = (decide (97 ≤ b ∧ b ≤ 122) && wordB l) := rfl
theorem tl_nil (x : ByteArray) : (x.toList = ([] : List UInt8)) ↔ (x.size = 0) := by
  rw [ByteArray.toList_eq]
  cases x with | mk a => simp [ByteArray.size]
def recOkM (a0 a1 a2 a3 a4 : Int) (x5 x6 x7 : ByteArray) : Bool :=
  decide (1 ≤ a1 ∧ a1 ≤ 9999) &&
  (if a0 = 1 then (wordM x5 && wordM x6 && decide (1 ≤ a3 ∧ a3 ≤ 10000)) && decide (a2 = 0 ∧ a4 = 0 ∧ x7.size = 0)
   else if a0 = 2 then decide (a2 = 0 ∧ a3 = 0 ∧ a4 = 0 ∧ x5.size = 0 ∧ x6.size = 0 ∧ x7.size = 0)
   else if a0 = 3 then decide ((1 ≤ a2 ∧ a2 ≤ 9999) ∧ (0 ≤ a4 ∧ a4 ≤ 7) ∧ x7.size ≤ 100 ∧ a3 = 0 ∧ x5.size = 0 ∧ x6.size = 0)
   else if a0 = 4 then decide ((1 ≤ a2 ∧ a2 ≤ 9999) ∧ (0 ≤ a4 ∧ a4 ≤ 7) ∧ a3 = 0 ∧ x5.size = 0 ∧ x6.size = 0 ∧ x7.size = 0)
   else if a0 = 5 then decide ((1 ≤ a2 ∧ a2 ≤ 9999) ∧ a3 = 0 ∧ a4 = 0 ∧ x5.size = 0 ∧ x6.size = 0 ∧ x7.size = 0)
   else false)
def recTextS (a0 a1 a2 a3 a4 : Int) (x5 x6 x7 : ByteArray) : ByteArray :=
  strOfNums [a0 % 256] ++ varS a1.toNat ++ varS a2.toNat ++ varS a3.toNat ++ varS a4.toNat ++ (varS x5.size ++ x5) ++ (varS x6.size ++ x6) ++ (varS x7.size ++ x7)
def recTextM (a0 a1 a2 a3 a4 : Int) (x5 x6 x7 : ByteArray) : ByteArray × Bool := if recOkM a0 a1 a2 a3 a4 x5 x6 x7 = true then (recTextS a0 a1 a2 a3 a4 x5 x6 x7, true) else ((⟨#[]⟩ : ByteArray), false)
theorem recOkM_bounds {a0 a1 a2 a3 a4 : Int} {x5 x6 x7 : ByteArray} (h : recOkM a0 a1 a2 a3 a4 x5 x6 x7 = true) :
    (1 ≤ a0 ∧ a0 ≤ 5) ∧ (1 ≤ a1 ∧ a1 ≤ 9999) ∧ (0 ≤ a2 ∧ a2 ≤ 9999) ∧ (0 ≤ a3 ∧ a3 ≤ 10000) ∧ (0 ≤ a4 ∧ a4 ≤ 7) ∧ x5.size ≤ 8 ∧ x6.size ≤ 8 ∧ x7.size ≤ 100 := by
  unfold recOkM at h
  simp only [Bool.and_eq_true, decide_eq_true_eq] at h
  obtain ⟨h1, h2⟩ := h
  by_cases c1 : a0 = 1
  · rw [if_pos c1] at h2
    simp only [wordM, Bool.and_eq_true, decide_eq_true_eq] at h2
    omega
  rw [if_neg c1] at h2
  by_cases c2 : a0 = 2
  · rw [if_pos c2] at h2
    simp only [decide_eq_true_eq] at h2
    omega
  rw [if_neg c2] at h2
  by_cases c3 : a0 = 3
  · rw [if_pos c3] at h2
    simp only [decide_eq_true_eq] at h2
    omega
  rw [if_neg c3] at h2
  by_cases c4 : a0 = 4
  · rw [if_pos c4] at h2
    simp only [decide_eq_true_eq] at h2
    omega
  rw [if_neg c4] at h2
  by_cases c5 : a0 = 5
  · rw [if_pos c5] at h2
    simp only [decide_eq_true_eq] at h2
    omega
  · rw [if_neg c5] at h2
    simp at h2
theorem varS_small (n : Nat) (h : n ≤ 1000000000) : (varS n).size ≤ 5 := by rw [varS_size]; exact varL_length5 n h
end Go.Proofs.Ytneffinmiffhpaa.Base
