/- Plain: frames and their texts; nothing of the program; no condition. -/
import Derived.Test.YtjpngldnkgofaaaDoorModelSum
import Derived.Test.YtjpngldnkgofaaaDoorModelRead
namespace Go.Proofs.YtjpngldnkgofaaaDoor.Base
open Go.RowKit Go.Proofs.YtjpngldnkgofaaaDoorW.PrintWords

def frameOkM (a b : Int) (c : ByteArray) : Bool := decide ((1 ≤ a ∧ a ≤ 1000000000) ∧ (1 ≤ b ∧ b ≤ 1000000000) ∧ (1 ≤ (c.size : Int) ∧ (c.size : Int) ≤ 180))
def frameTextM (a b : Int) (c : ByteArray) : ByteArray × Bool :=
  if frameOkM a b c = true then ((sealedM (((varS a.toNat ++ varS b.toNat) ++ varS c.size) ++ c)).1, (sealedM (((varS a.toNat ++ varS b.toNat) ++ varS c.size) ++ c)).2) else ((⟨#[]⟩ : ByteArray), false)
/-- What ReadFrame tells. -/
def readFrameM (x : ByteArray) (a : Int) : Int × Int × ByteArray × Int × Bool :=
  if ((readVarM x a).2.2 = true ∧ (readVarM x (readVarM x a).2.1).2.2 = true ∧ (readShortM x (readVarM x (readVarM x a).2.1).2.1).2.2 = true) ∧
      frameOkM (readVarM x a).1 (readVarM x (readVarM x a).2.1).1 (readShortM x (readVarM x (readVarM x a).2.1).2.1).1 = true ∧
      (readShortM x (readVarM x (readVarM x a).2.1).2.1).2.1 + 4 ≤ (x.size : Int) ∧
      x.extract a.toNat ((readShortM x (readVarM x (readVarM x a).2.1).2.1).2.1 + 4).toNat = (frameTextM (readVarM x a).1 (readVarM x (readVarM x a).2.1).1 (readShortM x (readVarM x (readVarM x a).2.1).2.1).1).1 then
    ((readVarM x a).1, (readVarM x (readVarM x a).2.1).1, (readShortM x (readVarM x (readVarM x a).2.1).2.1).1, (readShortM x (readVarM x (readVarM x a).2.1).2.1).2.1 + 4, true)
  else (0, 0, (⟨#[]⟩ : ByteArray), 0, false)
theorem varL_length5 (n : Nat) (h : n ≤ 1000000000) : (varL n).length ≤ 5 := by
  by_cases h1 : 127 < n
  · rw [varL_big h1, List.length_cons]
    by_cases h2 : 127 < n / 128
    · rw [varL_big h2, List.length_cons]
      by_cases h3 : 127 < n / 128 / 128
      · rw [varL_big h3, List.length_cons]
        by_cases h4 : 127 < n / 128 / 128 / 128
        · rw [varL_big h4, List.length_cons, varL_small (by omega)]; simp
        · rw [varL_small (by omega)]; simp
      · rw [varL_small (by omega)]; simp
    · rw [varL_small (by omega)]; simp
  · rw [varL_small (by omega)]; simp
theorem frameTextM_ok (a b : Int) (c : ByteArray) (h : frameOkM a b c = true) :
    frameTextM a b c = ((((varS a.toNat ++ varS b.toNat) ++ varS c.size) ++ c) ++ fourS (sumOfM (((varS a.toNat ++ varS b.toNat) ++ varS c.size) ++ c)), true) := by
  have hr := of_decide_eq_true h
  unfold frameTextM sealedM
  have s1 := varS_size a.toNat
  have s2 := varS_size b.toNat
  have s3 := varS_size c.size
  have l1 := varL_length5 a.toNat (by omega)
  have l2 := varL_length5 b.toNat (by omega)
  have l3 := varL_length5 c.size (by omega)
  rw [if_pos h, if_neg (by simp only [size_append]; omega)]
theorem frameTextM_size (a b : Int) (c : ByteArray) : (frameTextM a b c).1.size ≤ 20004 := by
  by_cases h : frameOkM a b c = true
  · have hr := of_decide_eq_true h
    rw [frameTextM_ok a b c h]
    have s1 := varS_size a.toNat
    have s2 := varS_size b.toNat
    have s3 := varS_size c.size
    have l1 := varL_length5 a.toNat (by omega)
    have l2 := varL_length5 b.toNat (by omega)
    have l3 := varL_length5 c.size (by omega)
    simp only [size_append, fourS_size]
    omega
  · unfold frameTextM
    rw [if_neg h]; exact (by decide : (⟨#[]⟩ : ByteArray).size ≤ 20004)
end Go.Proofs.YtjpngldnkgofaaaDoor.Base
