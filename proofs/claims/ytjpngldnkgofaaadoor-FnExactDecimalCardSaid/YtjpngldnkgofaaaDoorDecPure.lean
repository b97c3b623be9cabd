/- The reference's Decimal, as plain Lean: it is the decimal numeral that the shelf's contract of strconv.Itoa tells, for every whole number of 64 bits; no other condition. -/
import Derived.Test.YtjpngldnkgofaaaDoorDec
import Derived.Test.YtjpngldnkgofaaaDoorBase
import Derived.Lib.ItoaNum
set_option linter.unusedVariables false
set_option linter.unusedSimpArgs false
namespace Go.Proofs.YtjpngldnkgofaaaDoor.Pure
open Go.RowKit Go.Proofs.YtjpngldnkgofaaaDoor.PFnExactDecimal Go.Proofs.YtjpngldnkgofaaaDoor.Base Go.Proofs.YtjpngldnkgofaaaDoorW.PrintWords Go.Proofs.YtjpngldnkgofaaaDoorW.PrintLast

def decS (m : Nat) : ByteArray := ⟨(Lib.decDigits m).toArray⟩
def digS (d : Nat) : ByteArray := ⟨#[UInt8.ofNat (48 + d)]⟩
theorem decS_small {m : Nat} (h : m < 10) : decS m = digS m := by
  unfold decS digS
  rw [Lib.decDigits_one h]
theorem decS_big {m : Nat} (h : ¬ m < 10) : decS m = decS (m / 10) ++ digS (m % 10) := by
  unfold decS digS
  rw [Lib.decDigits, dif_neg h]
  apply ByteArray.ext
  simp [ByteArray.data_append]
theorem digS_str (d : Nat) (h : d < 10) : strOfNums [((48 + d : Nat) : Int)] = digS d := by
  have hd : d = 0 ∨ d = 1 ∨ d = 2 ∨ d = 3 ∨ d = 4 ∨ d = 5 ∨ d = 6 ∨ d = 7 ∨ d = 8 ∨ d = 9 := by omega
  rcases hd with rfl | rfl | rfl | rfl | rfl | rfl | rfl | rfl | rfl | rfl <;> rfl
theorem figure_eq (d : Nat) (h : d < 10) : spec_l01Figure.f (d : Int) = some ((48 + d : Nat) : Int) := by
  unfold spec_l01Figure.f
  have ew := w64 (x := 48 + (d : Int)) (by omega) (by omega)
  rw [if_pos (by omega), ew]
  clear ew
  congr 1
  omega
def signed (b : Bool) (t : ByteArray) : ByteArray := if b = true then (⟨#[45]⟩ : ByteArray) ++ t else t
theorem dec_end (b : Bool) (t : ByteArray) (ht : t.size ≤ 2000) : Ev (fun k => spec_Decimal.l0 k 0 b t) (signed b t) := by
  refine ev_succ ?_
  have h1 : 1 + t.size ≤ 9223372036854775807 := by omega
  cases b with
  | true => simp only [spec_Decimal.l0, if_true, if_pos h1]; exact ev_some rfl
  | false => simp only [spec_Decimal.l0, if_true, Bool.false_eq_true, if_false]; exact ev_some rfl
theorem digS_size (d : Nat) : (digS d).size = 1 := rfl
theorem dec_l0 (b : Bool) (f : Nat) : ∀ (m : Nat) (x : Int) (acc : ByteArray), m < 10 ^ f → 1 ≤ m → (x = (m : Int) ∨ x = -(m : Int)) → (-9223372036854775808 ≤ x ∧ x ≤ 9223372036854775807) → acc.size + f ≤ 1000 →
    Ev (fun k => spec_Decimal.l0 k x b acc) (signed b (decS m ++ acc)) := by
  induction f with
  | zero => intro m x acc h h1; simp at h; omega
  | succ f ih =>
    intro m x acc hm h1 hx hr ha
    have hx0 : ¬ x = 0 := by omega
    have hd : m % 10 < 10 := Nat.mod_lt _ (by omega)
    have hm10 : m / 10 < 10 ^ f := by
      rw [Nat.pow_succ] at hm
      exact Nat.div_lt_of_lt_mul (by rw [Nat.mul_comm]; exact hm)
    have hdiv : Int.tdiv x 10 = ((m / 10 : Nat) : Int) ∨ Int.tdiv x 10 = -((m / 10 : Nat) : Int) := by
      rcases hx with h | h
      · left; rw [h, Int.tdiv_eq_ediv_of_nonneg (by omega)]; omega
      · right; rw [h, Int.neg_tdiv, Int.tdiv_eq_ediv_of_nonneg (by omega)]; omega
    have hmod : Int.tmod x 10 = ((m % 10 : Nat) : Int) ∨ (Int.tmod x 10 = -((m % 10 : Nat) : Int) ∧ x < 0) := by
      rcases hx with h | h
      · left; rw [h, Int.tmod_eq_emod_of_nonneg (by omega)]; omega
      · right; refine ⟨?_, by omega⟩; rw [h, Int.neg_tmod, Int.tmod_eq_emod_of_nonneg (by omega)]; omega
    have hsz : (digS (m % 10)).size + acc.size ≤ 9223372036854775807 := by rw [digS_size]; omega
    have hw : Aside0 (wrap64 (Int.tdiv x 10) = Int.tdiv x 10) := ⟨w64 (by omega) (by omega)⟩
    have hgo : Ev (fun k => spec_Decimal.l0 k (Int.tdiv x 10) b (digS (m % 10) ++ acc)) (signed b (decS m ++ acc)) := by
      by_cases hs : m < 10
      · have e0 : Int.tdiv x 10 = 0 := by
          have : m / 10 = 0 := by omega
          omega
        rw [e0, decS_small hs]
        have e1 : m % 10 = m := by omega
        rw [e1]
        exact dec_end b _ (by rw [size_append, digS_size]; omega)
      · have := ih (m / 10) (Int.tdiv x 10) (digS (m % 10) ++ acc) hm10 (by omega) hdiv (by omega) (by rw [size_append, digS_size]; omega)
        rw [decS_big hs, ByteArray.append_assoc]
        exact this
    refine ev_succ ?_
    by_cases hneg : Int.tmod x 10 < 0
    · have e : Int.tmod x 10 = -((m % 10 : Nat) : Int) := by
        rcases hmod with h | h
        · omega
        · exact h.1
      have ew : wrap64 (-(Int.tmod x 10)) = ((m % 10 : Nat) : Int) := by rw [e, w64 (by omega) (by omega)]; omega
      simp only [spec_Decimal.l0, if_neg hx0, if_pos hneg, ew, figure_eq _ hd, Option.bind_some, digS_str _ hd, if_pos hsz, hw.out]
      exact hgo
    · have e : Int.tmod x 10 = ((m % 10 : Nat) : Int) := by
        rcases hmod with h | h
        · exact h
        · have h2 := h.1; omega
      simp only [spec_Decimal.l0, if_neg hx0, if_neg hneg, e, figure_eq _ hd, Option.bind_some, digS_str _ hd, if_pos hsz, hw.out]
      exact hgo
theorem spec_Decimal_ev (n : Int) (hn : -9223372036854775808 ≤ n ∧ n ≤ 9223372036854775807) : Ev (fun k => spec_Decimal.f k n) (⟨(Lib.itoa n).toArray⟩ : ByteArray) := by
  unfold spec_Decimal.f
  by_cases h0 : n = 0
  · simp only [if_pos h0]
    refine ev_some ?_
    rw [h0]
    unfold Lib.itoa
    rw [if_neg (by decide)]
    have : (0 : Int).toNat = 0 := rfl
    rw [this, Lib.decDigits_one (by decide)]
    rfl
  · simp only [if_neg h0]
    have h := dec_l0 (decide (n < 0)) 20 n.natAbs n (⟨#[]⟩ : ByteArray) (by omega) (by omega) (by omega) hn (by decide)
    have he : (decS n.natAbs ++ (⟨#[]⟩ : ByteArray)) = decS n.natAbs := ByteArray.append_empty
    rw [he] at h
    have hr : signed (decide (n < 0)) (decS n.natAbs) = (⟨(Lib.itoa n).toArray⟩ : ByteArray) := by
      unfold signed Lib.itoa decS
      by_cases hn0 : n < 0
      · rw [if_pos (decide_eq_true hn0), if_pos hn0]
        apply ByteArray.ext
        simp [ByteArray.data_append]
      · rw [if_neg (by simpa using hn0), if_neg hn0]
        have : n.natAbs = n.toNat := by omega
        rw [this]
    rw [hr] at h
    exact h
end Go.Proofs.YtjpngldnkgofaaaDoor.Pure
