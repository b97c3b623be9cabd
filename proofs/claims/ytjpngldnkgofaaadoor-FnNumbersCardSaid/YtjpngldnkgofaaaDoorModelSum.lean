/- Plain: check sums and sealed texts; nothing of the program; no condition. -/
import Derived.Test.YtjpngldnkgofaaaDoorBase
namespace Go.Proofs.YtjpngldnkgofaaaDoor.Base
open Go.RowKit Go.Proofs.YtjpngldnkgofaaaDoorW.PrintWords

/-- One bit of a sum's step, and a byte's, as the program tells it. -/
def sumBit (x : Int) : Int := if x % 2 = 1 then Go.bits .xor .u32 (x / 2) 3558460437 else x / 2
def sumBits : Nat → Int → Int
  | 0, x => x
  | n + 1, x => sumBits n (sumBit x)
def sumByte (s b : Int) : Int := sumBits 8 (Go.bits .xor .u32 s b)
def sumL (s : Int) (l : List Int) : Int := l.foldl sumByte s
theorem sumBit_range {x : Int} (h : 0 ≤ x ∧ x < 4294967296) : 0 ≤ sumBit x ∧ sumBit x < 4294967296 := by
  unfold sumBit
  by_cases h2 : x % 2 = 1
  · rw [if_pos h2]; exact b_xor_range _ _
  · rw [if_neg h2]; omega
theorem sumBits_range (n : Nat) : ∀ {x : Int}, 0 ≤ x ∧ x < 4294967296 → 0 ≤ sumBits n x ∧ sumBits n x < 4294967296 := by
  induction n with
  | zero => intro x h; exact h
  | succ n ih => intro x h; exact ih (sumBit_range h)
theorem sumByte_range (s b : Int) : 0 ≤ sumByte s b ∧ sumByte s b < 4294967296 := sumBits_range 8 (b_xor_range _ _)
theorem sumL_range {s : Int} (h : 0 ≤ s ∧ s < 4294967296) (l : List Int) : 0 ≤ sumL s l ∧ sumL s l < 4294967296 := by
  induction l generalizing s with
  | nil => exact h
  | cons b l ih => exact ih (sumByte_range s b)
def sumOfM (x : ByteArray) : Int := sumL 4294967295 (bytesOf x)
theorem sumOfM_range (x : ByteArray) : 0 ≤ sumOfM x ∧ sumOfM x < 4294967296 := sumL_range (by omega) _
def fourS (s : Int) : ByteArray := strOfNums [(s / 16777216) % 256, (s / 65536) % 256, (s / 256) % 256, s % 256]
theorem fourS_size (s : Int) : (fourS s).size = 4 := strOfNums_size _
def sealedM (x : ByteArray) : ByteArray × Bool := if (x.size : Int) > 20000 then ((⟨#[]⟩ : ByteArray), false) else (x ++ fourS (sumOfM x), true)
def unsealedM (x : ByteArray) : ByteArray × Bool :=
  if 4 ≤ x.size ∧ x.size ≤ 20004 ∧ x.extract (x.size - 4) x.size = fourS (sumOfM (x.extract 0 (x.size - 4))) then (x.extract 0 (x.size - 4), true) else ((⟨#[]⟩ : ByteArray), false)
end Go.Proofs.YtjpngldnkgofaaaDoor.Base
