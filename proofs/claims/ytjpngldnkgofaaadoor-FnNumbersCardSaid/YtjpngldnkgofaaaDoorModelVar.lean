/- Plain laws of a number's bytes (seven bits a byte, the lowest first); nothing of the program; no condition. -/
import Derived.Test.YtjpngldnkgofaaaDoorBase
namespace Go.Proofs.YtjpngldnkgofaaaDoor.Base
open Go.RowKit Go.Proofs.YtjpngldnkgofaaaDoorW.PrintWords

/-- A number in bytes. -/
def varL (n : Nat) : List Int := if h : 127 < n then (((n % 128 + 128 : Nat) : Int)) :: varL (n / 128) else [(n : Int)]
termination_by n
decreasing_by omega
theorem varL_big {n : Nat} (h : 127 < n) : varL n = (((n % 128 + 128 : Nat) : Int)) :: varL (n / 128) := by
  conv => lhs; unfold varL
  rw [dif_pos h]
theorem varL_small {n : Nat} (h : n ≤ 127) : varL n = [(n : Int)] := by
  unfold varL
  rw [dif_neg (by omega)]
theorem varL_range (n : Nat) : ∀ b, b ∈ varL n → 0 ≤ b ∧ b < 256 := by
  induction n using Nat.strongRecOn with
  | _ n ih =>
    intro b hb
    by_cases h : 127 < n
    · rw [varL_big h] at hb
      rcases List.mem_cons.1 hb with rfl | hb
      · omega
      · exact ih _ (by omega) b hb
    · rw [varL_small (by omega)] at hb
      have := List.mem_singleton.1 hb
      omega
theorem varL_ne (n : Nat) : varL n ≠ [] := by
  by_cases h : 127 < n
  · rw [varL_big h]; simp
  · rw [varL_small (by omega)]; simp
theorem varL_length (n : Nat) : (varL n).length ≤ n + 1 := by
  induction n using Nat.strongRecOn with
  | _ n ih =>
    by_cases h : 127 < n
    · rw [varL_big h, List.length_cons]
      have := ih (n / 128) (by omega)
      omega
    · rw [varL_small (by omega)]; simp
/-- The text of a number's bytes. -/
def varS (n : Nat) : ByteArray := strOfNums (varL n)
theorem varS_bytes (n : Nat) : bytesOf (varS n) = varL n := bytes_str _ (varL_range n)
theorem varS_size (n : Nat) : (varS n).size = (varL n).length := strOfNums_size _
end Go.Proofs.YtjpngldnkgofaaaDoor.Base
