/- Plain laws of reading a number's bytes; nothing of the program; no condition. -/
import Derived.Test.YtjpngldnkgofaaaDoorModelVar
namespace Go.Proofs.YtjpngldnkgofaaaDoor.Base
open Go.RowKit Go.Proofs.YtjpngldnkgofaaaDoorW.PrintWords

/-- The number that bytes tell, seven bits a byte, the lowest first. -/
def valL : List Int → Nat
  | [] => 0
  | b :: l => b.toNat % 128 + 128 * valL l
theorem valL_snoc (l : List Int) (c : Int) : valL (l ++ [c]) = valL l + c.toNat % 128 * 128 ^ l.length := by
  induction l with
  | nil => simp [valL]
  | cons b l ih =>
    simp only [List.cons_append, valL, ih, List.length_cons]
    rw [Nat.pow_succ]
    have : c.toNat % 128 * (128 ^ l.length * 128) = 128 * (c.toNat % 128 * 128 ^ l.length) := by
      rw [← Nat.mul_assoc, Nat.mul_comm]
    omega
theorem valL_lt (l : List Int) : valL l < 128 ^ l.length := by
  induction l with
  | nil => simp [valL]
  | cons b l ih =>
    simp only [valL, List.length_cons, Nat.pow_succ]
    have : b.toNat % 128 < 128 := Nat.mod_lt _ (by omega)
    omega
theorem varL_last (n : Nat) (h : n ≠ 0) : ∀ (l : List Int) (c : Int), varL n = l ++ [c] → c ≠ 0 := by
  induction n using Nat.strongRecOn with
  | _ n ih =>
    intro l c hl
    by_cases h1 : 127 < n
    · rw [varL_big h1] at hl
      cases l with
      | nil => simp at hl; exact absurd hl.2 (varL_ne _)
      | cons b l =>
        simp at hl
        exact ih (n / 128) (by omega) (by omega) l c hl.2
    · rw [varL_small (by omega)] at hl
      cases l with
      | nil => simp at hl; omega
      | cons b l => simp at hl
theorem valL_pos (l : List Int) (c : Int) (h : 0 < c) (h2 : c < 128) : 0 < valL (l ++ [c]) := by
  rw [valL_snoc]
  have : 0 < c.toNat % 128 * 128 ^ l.length := Nat.mul_pos (by omega) (Nat.pow_pos (by omega))
  omega
theorem varL_valL (l : List Int) (c : Int) (hl : ∀ b, b ∈ l → 128 ≤ b ∧ b < 256) (hc : 0 ≤ c ∧ c < 128) (h : c ≠ 0 ∨ l = []) : varL (valL (l ++ [c])) = l ++ [c] := by
  induction l with
  | nil =>
    have e : valL ([] ++ [c]) = c.toNat := by simp [valL]; omega
    rw [e, varL_small (by omega)]
    simp; omega
  | cons b l ih =>
    have hc0 : c ≠ 0 := by rcases h with h | h; exact h; simp at h
    have hb := hl b (by simp)
    have hp := valL_pos l c (by omega) hc.2
    have ih' := ih (fun b hb => hl b (by simp [hb])) (.inl hc0)
    simp only [List.cons_append, valL]
    rw [varL_big (by omega)]
    have e1 : (b.toNat % 128 + 128 * valL (l ++ [c])) / 128 = valL (l ++ [c]) := by omega
    rw [e1, ih']
    congr 1
    omega
theorem varL_valL_not (l : List Int) (hl : l ≠ []) : varL (valL (l ++ [0])) ≠ l ++ [0] := by
  intro h
  by_cases h0 : valL (l ++ [0]) = 0
  · rw [h0, varL_small (by omega)] at h
    have := congrArg List.length h
    simp at this
    exact hl this
  · exact varL_last _ h0 l 0 h rfl

/-- What ReadVar tells behind k bytes of 128 and more, which tell n. -/
def rvGo (x : ByteArray) (at_ : Nat) : Nat → Nat → Int → Int × Int × Bool
  | 0, _, _ => (0, 0, false)
  | f + 1, k, n =>
    if at_ + k < x.size then
      if bt x ((at_ + k : Nat) : Int) < 128 then
        if (bt x ((at_ + k : Nat) : Int) = 0 ∧ 0 < k) ∨ n + bt x ((at_ + k : Nat) : Int) % 128 * 128 ^ k > 1000000000 then (0, 0, false)
        else (n + bt x ((at_ + k : Nat) : Int) % 128 * 128 ^ k, ((at_ + k + 1 : Nat) : Int), true)
      else rvGo x at_ f (k + 1) (n + bt x ((at_ + k : Nat) : Int) % 128 * 128 ^ k)
    else (0, 0, false)
def readVarM (x : ByteArray) (a : Int) : Int × Int × Bool := if 0 ≤ a ∧ a ≤ (x.size : Int) then rvGo x a.toNat 5 0 0 else (0, 0, false)

/-- The k bytes from a place on. -/
def runL (x : ByteArray) (a k : Nat) : List Int := ((bytesOf x).drop a).take k
theorem runL_length (x : ByteArray) (a k : Nat) (h : a + k ≤ x.size) : (runL x a k).length = k := by
  unfold runL
  have : (bytesOf x).length = x.size := bytesOf_length x
  simp; omega
theorem runL_succ (x : ByteArray) (a k : Nat) (h : a + k < x.size) : runL x a (k + 1) = runL x a k ++ [bt x ((a + k : Nat) : Int)] := by
  unfold runL
  have hl : k < ((bytesOf x).drop a).length := by
    have : (bytesOf x).length = x.size := bytesOf_length x
    simp; omega
  rw [List.take_succ_eq_append_getElem hl]
  congr 2
  have := bytes_drop x (a + k) h
  rw [← List.drop_drop, List.drop_eq_getElem_cons hl] at this
  exact (List.cons.inj this).1
theorem runL_extract (x : ByteArray) (a k : Nat) : bytesOf (x.extract a (a + k)) = runL x a k := by
  rw [bytes_extract]
  unfold runL
  rw [List.drop_take]
  congr 1
  omega
theorem runL_str (x : ByteArray) (a k n : Nat) : varS n = x.extract a (a + k) ↔ varL n = runL x a k := by
  constructor
  · intro h
    rw [← varS_bytes, h, runL_extract]
  · intro h
    apply bytes_eq
    rw [varS_bytes, runL_extract, h]
/-- The bytes of a number, and no longer form of it. -/
theorem canon (x : ByteArray) (a k : Nat) (h : a + k < x.size) (hp : ∀ b, b ∈ runL x a k → 128 ≤ b ∧ b < 256) (hb : bt x ((a + k : Nat) : Int) < 128) :
    varS (valL (runL x a (k + 1))) = x.extract a (a + (k + 1)) ↔ ¬ (bt x ((a + k : Nat) : Int) = 0 ∧ 0 < k) := by
  rw [runL_str, runL_succ x a k h]
  have hl := runL_length x a k (by omega)
  have h0 := bt_lt x ((a + k : Nat) : Int)
  constructor
  · rintro h1 ⟨h2, h3⟩
    rw [h2] at h1
    exact varL_valL_not _ (by intro h4; rw [h4] at hl; simp at hl; omega) h1
  · intro h1
    refine varL_valL _ _ hp ⟨h0.1, hb⟩ ?_
    by_cases hk : k = 0
    · right
      exact List.eq_nil_of_length_eq_zero (by omega)
    · left
      intro h2
      exact h1 ⟨h2, by omega⟩
theorem rvGo_range (x : ByteArray) (a f : Nat) : ∀ (k : Nat) (n : Int), 0 ≤ n → a + k ≤ x.size + 1 → 0 ≤ (rvGo x a f k n).1 ∧ (rvGo x a f k n).1 ≤ 1000000000 ∧ 0 ≤ (rvGo x a f k n).2.1 ∧ (rvGo x a f k n).2.1 ≤ (x.size : Int) ∧ ((rvGo x a f k n).2.2 = true → ((a + k : Nat) : Int) < (rvGo x a f k n).2.1) := by
  induction f with
  | zero => intro k n hn hk; simp [rvGo]
  | succ f ih =>
    intro k n hn hk
    unfold rvGo
    have hb := bt_lt x ((a + k : Nat) : Int)
    have hm : 0 ≤ bt x ((a + k : Nat) : Int) % 128 * 128 ^ k := Int.mul_nonneg (by omega) (Int.pow_nonneg (by omega))
    by_cases h1 : a + k < x.size
    · rw [if_pos h1]
      by_cases h2 : bt x ((a + k : Nat) : Int) < 128
      · rw [if_pos h2]
        by_cases h3 : (bt x ((a + k : Nat) : Int) = 0 ∧ 0 < k) ∨ n + bt x ((a + k : Nat) : Int) % 128 * 128 ^ k > 1000000000
        · rw [if_pos h3]; simp
        · rw [if_neg h3]
          have h4 : ¬ n + bt x ((a + k : Nat) : Int) % 128 * 128 ^ k > 1000000000 := fun h => h3 (.inr h)
          refine ⟨by simp only; omega, by simp only; omega, by simp only; omega, by simp only; omega, fun _ => by simp only; omega⟩
      · rw [if_neg h2]
        obtain ⟨i1, i2, i3, i4, i5⟩ := ih (k + 1) (n + bt x ((a + k : Nat) : Int) % 128 * 128 ^ k) (by omega) (by omega)
        exact ⟨i1, i2, i3, i4, fun h => by have := i5 h; omega⟩
    · rw [if_neg h1]; simp
theorem readVarM_range (x : ByteArray) (a : Int) : 0 ≤ (readVarM x a).1 ∧ (readVarM x a).1 ≤ 1000000000 ∧ 0 ≤ (readVarM x a).2.1 ∧ (readVarM x a).2.1 ≤ (x.size : Int) ∧ ((readVarM x a).2.2 = true → 0 ≤ a ∧ a < (readVarM x a).2.1) := by
  unfold readVarM
  by_cases h : 0 ≤ a ∧ a ≤ (x.size : Int)
  · rw [if_pos h]
    obtain ⟨i1, i2, i3, i4, i5⟩ := rvGo_range x a.toNat 5 0 0 (by omega) (by omega)
    exact ⟨i1, i2, i3, i4, fun h1 => ⟨h.1, by have := i5 h1; omega⟩⟩
  · rw [if_neg h]; simp
/-- What ReadShort tells. -/
def readShortM (x : ByteArray) (a : Int) : ByteArray × Int × Bool :=
  if (readVarM x a).2.2 = true ∧ (readVarM x a).1 ≤ 20000 ∧ (readVarM x a).1 ≤ (x.size : Int) - (readVarM x a).2.1 then
    (x.extract (readVarM x a).2.1.toNat ((readVarM x a).2.1 + (readVarM x a).1).toNat, (readVarM x a).2.1 + (readVarM x a).1, true)
  else ((⟨#[]⟩ : ByteArray), 0, false)
theorem readShortM_range (x : ByteArray) (a : Int) : (readShortM x a).1.size ≤ 20000 ∧ 0 ≤ (readShortM x a).2.1 ∧ (readShortM x a).2.1 ≤ (x.size : Int) ∧ ((readShortM x a).2.2 = true → 0 ≤ a ∧ a < (readShortM x a).2.1) := by
  obtain ⟨i1, i2, i3, i4, i5⟩ := readVarM_range x a
  unfold readShortM
  by_cases h : (readVarM x a).2.2 = true ∧ (readVarM x a).1 ≤ 20000 ∧ (readVarM x a).1 ≤ (x.size : Int) - (readVarM x a).2.1
  · rw [if_pos h]
    have := i5 h.1
    refine ⟨?_, by simp only; omega, by simp only; omega, fun _ => ⟨this.1, by simp only; omega⟩⟩
    simp only [size_extract]
    omega
  · rw [if_neg h]; exact ⟨by decide, by simp, by simp, by simp⟩
end Go.Proofs.YtjpngldnkgofaaaDoor.Base
