/- The reference's Decimal, as plain Lean: it is the decimal numeral that the shelf's contract of strconv.Itoa tells, for every whole number of 64 bits; no other condition. -/
import Derived.Test.YtjpngldnkgofaaaDoorRDec
import Derived.Test.YtjpngldnkgofaaaDoorBase
import Derived.Lib.ItoaNum
import Derived.Lib.AtoiAll
set_option linter.unusedVariables false
set_option linter.unusedSimpArgs false
namespace Go.Proofs.YtjpngldnkgofaaaDoor.Pure
open Go.RowKit Go.Proofs.YtjpngldnkgofaaaDoor.PFnExactReadDecimal Go.Proofs.YtjpngldnkgofaaaDoor.Base Go.Proofs.YtjpngldnkgofaaaDoorW.PrintWords Go.Proofs.YtjpngldnkgofaaaDoorW.PrintLast

def decS (m : Nat) : ByteArray := ⟨(Lib.decDigits m).toArray⟩
def digS (d : Nat) : ByteArray := ⟨#[UInt8.ofNat (48 + d)]⟩
theorem decS_small {m : Nat} (h : m < 10) : decS m = digS m := by
  unfold decS digS
  rw [Lib.decDigits_one h]
theorem decS_big {m : Nat} (h : ¬ m < 10) : decS m = decS (m / 10) ++ digS (m % 10) := by
  unfold decS digS
  rw [Lib.decDigits, dif_neg h]
  apply ByteArray.ext
  simp [ByteArray.data_append]
theorem digS_str (d : Nat) (h : d < 10) : strOfNums [((48 + d : Nat) : Int)] = digS d := by
  have hd : d = 0 ∨ d = 1 ∨ d = 2 ∨ d = 3 ∨ d = 4 ∨ d = 5 ∨ d = 6 ∨ d = 7 ∨ d = 8 ∨ d = 9 := by omega
  rcases hd with rfl | rfl | rfl | rfl | rfl | rfl | rfl | rfl | rfl | rfl <;> rfl
theorem figure_eq (d : Nat) (h : d < 10) : spec_l01Figure.f (d : Int) = some ((48 + d : Nat) : Int) := by
  unfold spec_l01Figure.f
  have ew := w64 (x := 48 + (d : Int)) (by omega) (by omega)
  rw [if_pos (by omega), ew]
  clear ew
  congr 1
  omega
def signed (b : Bool) (t : ByteArray) : ByteArray := if b = true then (⟨#[45]⟩ : ByteArray) ++ t else t
theorem dec_end (b : Bool) (t : ByteArray) (ht : t.size ≤ 2000) : Ev (fun k => spec_Decimal.l0 k 0 b t) (signed b t) := by
  refine ev_succ ?_
  have h1 : 1 + t.size ≤ 9223372036854775807 := by omega
  cases b with
  | true => simp only [spec_Decimal.l0, if_true, if_pos h1]; exact ev_some rfl
  | false => simp only [spec_Decimal.l0, if_true, Bool.false_eq_true, if_false]; exact ev_some rfl
theorem digS_size (d : Nat) : (digS d).size = 1 := rfl
theorem dec_l0 (b : Bool) (f : Nat) : ∀ (m : Nat) (x : Int) (acc : ByteArray), m < 10 ^ f → 1 ≤ m → (x = (m : Int) ∨ x = -(m : Int)) → (-9223372036854775808 ≤ x ∧ x ≤ 9223372036854775807) → acc.size + f ≤ 1000 →
    Ev (fun k => spec_Decimal.l0 k x b acc) (signed b (decS m ++ acc)) := by
  induction f with
  | zero => intro m x acc h h1; simp at h; omega
  | succ f ih =>
    intro m x acc hm h1 hx hr ha
    have hx0 : ¬ x = 0 := by omega
    have hd : m % 10 < 10 := Nat.mod_lt _ (by omega)
    have hm10 : m / 10 < 10 ^ f := by
      rw [Nat.pow_succ] at hm
      exact Nat.div_lt_of_lt_mul (by rw [Nat.mul_comm]; exact hm)
    have hdiv : Int.tdiv x 10 = ((m / 10 : Nat) : Int) ∨ Int.tdiv x 10 = -((m / 10 : Nat) : Int) := by
      rcases hx with h | h
      · left; rw [h, Int.tdiv_eq_ediv_of_nonneg (by omega)]; omega
      · right; rw [h, Int.neg_tdiv, Int.tdiv_eq_ediv_of_nonneg (by omega)]; omega
    have hmod : Int.tmod x 10 = ((m % 10 : Nat) : Int) ∨ (Int.tmod x 10 = -((m % 10 : Nat) : Int) ∧ x < 0) := by
      rcases hx with h | h
      · left; rw [h, Int.tmod_eq_emod_of_nonneg (by omega)]; omega
      · right; refine ⟨?_, by omega⟩; rw [h, Int.neg_tmod, Int.tmod_eq_emod_of_nonneg (by omega)]; omega
    have hsz : (digS (m % 10)).size + acc.size ≤ 9223372036854775807 := by rw [digS_size]; omega
    have hw : Aside0 (wrap64 (Int.tdiv x 10) = Int.tdiv x 10) := ⟨w64 (by omega) (by omega)⟩
    have hgo : Ev (fun k => spec_Decimal.l0 k (Int.tdiv x 10) b (digS (m % 10) ++ acc)) (signed b (decS m ++ acc)) := by
      by_cases hs : m < 10
      · have e0 : Int.tdiv x 10 = 0 := by
          have : m / 10 = 0 := by omega
          omega
        rw [e0, decS_small hs]
        have e1 : m % 10 = m := by omega
        rw [e1]
        exact dec_end b _ (by rw [size_append, digS_size]; omega)
      · have := ih (m / 10) (Int.tdiv x 10) (digS (m % 10) ++ acc) hm10 (by omega) hdiv (by omega) (by rw [size_append, digS_size]; omega)
        rw [decS_big hs, ByteArray.append_assoc]
        exact this
    refine ev_succ ?_
    by_cases hneg : Int.tmod x 10 < 0
    · have e : Int.tmod x 10 = -((m % 10 : Nat) : Int) := by
        rcases hmod with h | h
        · omega
        · exact h.1
      have ew : wrap64 (-(Int.tmod x 10)) = ((m % 10 : Nat) : Int) := by rw [e, w64 (by omega) (by omega)]; omega
      simp only [spec_Decimal.l0, if_neg hx0, if_pos hneg, ew, figure_eq _ hd, Option.bind_some, digS_str _ hd, if_pos hsz, hw.out]
      exact hgo
    · have e : Int.tmod x 10 = ((m % 10 : Nat) : Int) := by
        rcases hmod with h | h
        · exact h
        · have h2 := h.1; omega
      simp only [spec_Decimal.l0, if_neg hx0, if_neg hneg, e, figure_eq _ hd, Option.bind_some, digS_str _ hd, if_pos hsz, hw.out]
      exact hgo
theorem spec_Decimal_ev (n : Int) (hn : -9223372036854775808 ≤ n ∧ n ≤ 9223372036854775807) : Ev (fun k => spec_Decimal.f k n) (⟨(Lib.itoa n).toArray⟩ : ByteArray) := by
  unfold spec_Decimal.f
  by_cases h0 : n = 0
  · simp only [if_pos h0]
    refine ev_some ?_
    rw [h0]
    unfold Lib.itoa
    rw [if_neg (by decide)]
    have : (0 : Int).toNat = 0 := rfl
    rw [this, Lib.decDigits_one (by decide)]
    rfl
  · simp only [if_neg h0]
    have h := dec_l0 (decide (n < 0)) 20 n.natAbs n (⟨#[]⟩ : ByteArray) (by omega) (by omega) (by omega) hn (by decide)
    have he : (decS n.natAbs ++ (⟨#[]⟩ : ByteArray)) = decS n.natAbs := ByteArray.append_empty
    rw [he] at h
    have hr : signed (decide (n < 0)) (decS n.natAbs) = (⟨(Lib.itoa n).toArray⟩ : ByteArray) := by
      unfold signed Lib.itoa decS
      by_cases hn0 : n < 0
      · rw [if_pos (decide_eq_true hn0), if_pos hn0]
        apply ByteArray.ext
        simp [ByteArray.data_append]
      · rw [if_neg (by simpa using hn0), if_neg hn0]
        have : n.natAbs = n.toNat := by omega
        rw [this]
    rw [hr] at h
    exact h

/-! ReadDecimal -/
def digGo : List Int → Int → Option Int
  | [], a => some a
  | b :: l, a => if b < 48 ∨ b > 57 then none else digGo l (10 * a + b - 48)
theorem bytes_digS (d : Nat) (h : d < 10) : bytesOf (digS d) = [((48 + d : Nat) : Int)] := by
  rw [← digS_str d h]
  exact bytes_str _ (fun b hb => by rw [List.mem_singleton.1 hb]; omega)
theorem digGo_dec (m : Nat) : ∀ r : List Int, digGo (bytesOf (decS m) ++ r) 0 = digGo r (m : Int) := by
  induction m using Nat.strongRecOn with
  | _ m ih =>
    intro r
    by_cases h : m < 10
    · rw [decS_small h, bytes_digS m h]
      show (if ((48 + m : Nat) : Int) < 48 ∨ ((48 + m : Nat) : Int) > 57 then none else digGo r (10 * 0 + ((48 + m : Nat) : Int) - 48)) = _
      rw [if_neg (by omega)]
      congr 1
      omega
    · rw [decS_big h, bytes_append, bytes_digS _ (Nat.mod_lt _ (by omega)), List.append_assoc, ih (m / 10) (by omega)]
      show (if ((48 + m % 10 : Nat) : Int) < 48 ∨ ((48 + m % 10 : Nat) : Int) > 57 then none else digGo r (10 * ((m / 10 : Nat) : Int) + ((48 + m % 10 : Nat) : Int) - 48)) = _
      rw [if_neg (by omega)]
      congr 1
      omega
theorem decS_size (f : Nat) : ∀ m : Nat, m < 10 ^ f → 1 ≤ f → (decS m).size ≤ f := by
  induction f with
  | zero => intro m _ h; omega
  | succ f ih =>
    intro m hm _
    by_cases h : m < 10
    · rw [decS_small h, digS_size]; omega
    · have hf : 1 ≤ f := by
        cases f with
        | zero => simp at hm; omega
        | succ f => omega
      have h10 : m / 10 < 10 ^ f := by
        rw [Nat.pow_succ] at hm
        exact Nat.div_lt_of_lt_mul (by rw [Nat.mul_comm]; exact hm)
      rw [decS_big h, size_append, digS_size]
      have := ih (m / 10) h10 hf
      omega
/-- What ReadDecimal tells of a text: the number whose numeral it is, if that is at most 1,000,000,000. -/
def Tells (x : ByteArray) (r : Int × Bool) : Prop := (∀ n : Nat, n ≤ 1000000000 → x = decS n → r = ((n : Int), true)) ∧ ((∀ n : Nat, n ≤ 1000000000 → x ≠ decS n) → r = (0, false))
theorem decS_inj {m n : Nat} (h : decS m = decS n) : m = n := by
  have h1 := digGo_dec m []
  have h2 := digGo_dec n []
  rw [h, h2] at h1
  have : ((n : Int)) = (m : Int) := Option.some.inj h1
  omega
theorem tells_yes (n : Nat) (hn : n ≤ 1000000000) : Tells (decS n) ((n : Int), true) :=
  ⟨fun m _ he => by rw [decS_inj he], fun h => absurd rfl (h n hn)⟩
theorem tells_no (x : ByteArray) (h : ∀ n : Nat, n ≤ 1000000000 → x ≠ decS n) : Tells x (0, false) := ⟨fun n hn he => absurd he (h n hn), fun _ => rfl⟩
theorem tells_one {x : ByteArray} {r s : Int × Bool} (h1 : Tells x r) (h2 : Tells x s) : r = s := by
  by_cases h : ∃ n : Nat, n ≤ 1000000000 ∧ x = decS n
  · obtain ⟨n, hn, he⟩ := h
    rw [h1.1 n hn he, h2.1 n hn he]
  · have h' : ∀ n : Nat, n ≤ 1000000000 → x ≠ decS n := fun n hn he => h ⟨n, hn, he⟩
    rw [h1.2 h', h2.2 h']
theorem itoa_nat (n : Nat) : (⟨(Lib.itoa (n : Int)).toArray⟩ : ByteArray) = decS n := by
  unfold Lib.itoa decS
  rw [if_neg (by omega), Int.toNat_natCast]
theorem spec_ReadDecimal_l0 (x : ByteArray) (hx : x.size ≤ 10) (d : Nat) : ∀ (i : Nat) (acc : Int), x.size - i = d → i ≤ x.size → (0 ≤ acc ∧ acc < 10 ^ i) → (digGo ((bytesOf x).drop i) acc = digGo (bytesOf x) 0) → ∃ r, Ev (fun k => spec_ReadDecimal.l0 k x acc (i : Int)) r ∧ Tells x r := by
  have hno : digGo (bytesOf x) 0 = none → Tells x (0, false) := by
    intro h
    refine tells_no x (fun n hn he => ?_)
    have := digGo_dec n []
    rw [List.append_nil, ← he, h] at this
    cases this
  have hpow : ∀ i : Nat, i ≤ 10 → (10 : Int) ^ i ≤ 10000000000 := by
    intro i hi
    have h : i = 0 ∨ i = 1 ∨ i = 2 ∨ i = 3 ∨ i = 4 ∨ i = 5 ∨ i = 6 ∨ i = 7 ∨ i = 8 ∨ i = 9 ∨ i = 10 := by omega
    rcases h with rfl | rfl | rfl | rfl | rfl | rfl | rfl | rfl | rfl | rfl | rfl <;> decide
  induction d with
  | zero =>
    intro i acc hd hi ha hg
    have hp := hpow i (by omega)
    rw [bytes_end x i (by omega)] at hg
    have hv : digGo (bytesOf x) 0 = some acc := hg.symm
    obtain ⟨m, rfl⟩ := Int.eq_ofNat_of_zero_le ha.1
    by_cases hbig : (m : Int) > 1000000000
    · refine ⟨(0, false), ev_succ ?_, tells_no x (fun n hn he => ?_)⟩
      · simp only [spec_ReadDecimal.l0, if_neg (show ¬ (i : Int) < (x.size : Int) by omega), if_pos hbig]
        exact ev_some rfl
      · have h1 := digGo_dec n []
        rw [List.append_nil, ← he, hv] at h1
        have : (m : Int) = (n : Int) := Option.some.inj h1
        omega
    · have hdec := spec_Decimal_ev (m : Int) (by omega)
      rw [itoa_nat] at hdec
      by_cases he : decS m = x
      · refine ⟨((m : Int), true), ev_succ ?_, by rw [← he]; exact tells_yes m (by omega)⟩
        simp only [spec_ReadDecimal.l0, if_neg (show ¬ (i : Int) < (x.size : Int) by omega), if_neg hbig]
        refine Ev.bind hdec ?_
        simp only [if_pos ((tl_iff _ _).2 he)]
        exact ev_some rfl
      · refine ⟨(0, false), ev_succ ?_, tells_no x (fun n hn h => ?_)⟩
        · simp only [spec_ReadDecimal.l0, if_neg (show ¬ (i : Int) < (x.size : Int) by omega), if_neg hbig]
          refine Ev.bind hdec ?_
          simp only [if_neg (fun h => he ((tl_iff _ _).1 h))]
          exact ev_some rfl
        · have h1 := digGo_dec n []
          rw [List.append_nil, ← h, hv] at h1
          have h2 : (m : Int) = (n : Int) := Option.some.inj h1
          have h3 : m = n := by omega
          exact he (by rw [h3]; exact h.symm)
  | succ d ih =>
    intro i acc hd hi ha hg
    have hlt : i < x.size := by omega
    have hp := hpow i (by omega)
    have hb := bt_lt x (i : Int)
    have g1 : (i : Int) < (x.size : Int) := by omega
    have g2 : (0 : Int) ≤ (i : Int) := by omega
    rw [bytes_drop x i hlt] at hg
    have hg2 : (if bt x (i : Int) < 48 ∨ bt x (i : Int) > 57 then none else digGo ((bytesOf x).drop (i + 1)) (10 * acc + bt x (i : Int) - 48)) = digGo (bytesOf x) 0 := hg
    by_cases h1 : bt x (i : Int) < 48
    · rw [if_pos (Or.inl h1)] at hg2
      refine ⟨(0, false), ev_succ ?_, hno hg2.symm⟩
      simp only [spec_ReadDecimal.l0, if_pos g1, if_pos g2, if_pos h1]
      exact ev_some rfl
    · by_cases h2 : bt x (i : Int) > 57
      · rw [if_pos (Or.inr h2)] at hg2
        refine ⟨(0, false), ev_succ ?_, hno hg2.symm⟩
        simp only [spec_ReadDecimal.l0, if_pos g1, if_pos g2, if_neg h1, if_pos h2]
        exact ev_some rfl
      · rw [if_neg (by omega)] at hg2
        have hp2 : (10 : Int) ^ (i + 1) = 10 ^ i * 10 := Int.pow_succ _ _
        obtain ⟨r, hr, ht⟩ := ih (i + 1) (10 * acc + bt x (i : Int) - 48) (by omega) (by omega) (by rw [hp2]; omega) hg2
        refine ⟨r, ev_succ ?_, ht⟩
        have e : Aside0 (wrap64 (wrap64 (wrap64 (10 * acc) + wrap64 (bt x (i : Int))) - 48) = 10 * acc + bt x (i : Int) - 48) := ⟨by
          have e1 : wrap64 (10 * acc) = 10 * acc := w64 (by omega) (by omega)
          have e2 : wrap64 (bt x (i : Int)) = bt x (i : Int) := w64 (by omega) (by omega)
          rw [e1, e2]
          clear e1 e2
          have e3 : wrap64 (10 * acc + bt x (i : Int)) = 10 * acc + bt x (i : Int) := w64 (by omega) (by omega)
          rw [e3]
          clear e3
          exact w64 (by omega) (by omega)⟩
        simp only [spec_ReadDecimal.l0, if_pos g1, if_pos g2, if_neg h1, if_neg h2, e.out, wn i hlt (show x.size ≤ 140737488355328 by omega)]
        exact hr
theorem spec_ReadDecimal_ev (x : ByteArray) : ∃ r, Ev (fun k => spec_ReadDecimal.f k x) r ∧ Tells x r := by
  unfold spec_ReadDecimal.f
  by_cases h : (x.size : Int) > 10
  · refine ⟨(0, false), ?_, tells_no x (fun n hn he => ?_)⟩
    · simp only [if_pos h]; exact ev_some rfl
    · have := decS_size 10 n (by omega) (by omega)
      rw [← he] at this
      omega
  · obtain ⟨r, hr, ht⟩ := spec_ReadDecimal_l0 x (by omega) _ 0 0 rfl (by omega) (by decide) rfl
    refine ⟨r, ?_, ht⟩
    simp only [if_neg h]
    exact hr
/-! what strconv.Atoi tells of a numeral -/
theorem parse_dec (m : Nat) : m ≤ 1000000000 → ∀ r : List UInt8, Lib.parseUint10 0 (Lib.decDigits m ++ r) = Lib.parseUint10 m r := by
  have hdig : ∀ d : Nat, d < 10 → (UInt8.ofNat (48 + d)).toNat = 48 + d := by
    intro d h
    have hd : d = 0 ∨ d = 1 ∨ d = 2 ∨ d = 3 ∨ d = 4 ∨ d = 5 ∨ d = 6 ∨ d = 7 ∨ d = 8 ∨ d = 9 := by omega
    rcases hd with rfl | rfl | rfl | rfl | rfl | rfl | rfl | rfl | rfl | rfl <;> rfl
  have hstep : ∀ (a d : Nat) (r : List UInt8), a ≤ 1000000000 → d < 10 → Lib.parseUint10 a (UInt8.ofNat (48 + d) :: r) = Lib.parseUint10 (a * 10 + d) r := by
    intro a d r ha hd
    have h := hdig d hd
    have e : a * 10 + (48 + d - 48) = a * 10 + d := by omega
    conv => lhs; unfold Lib.parseUint10
    rw [h, if_pos (by omega), if_neg (by omega), if_neg (by omega), e]
  induction m using Nat.strongRecOn with
  | _ m ih =>
    intro hm r
    by_cases h : m < 10
    · rw [Lib.decDigits_one h, List.singleton_append, hstep 0 m r (by omega) h]
      congr 1
      omega
    · rw [Lib.decDigits, dif_neg h, List.append_assoc, ih (m / 10) (by omega) (by omega), List.singleton_append, hstep _ _ r (by omega) (Nat.mod_lt _ (by omega))]
      congr 1
      omega
theorem dec_cons (m : Nat) : ∃ d r, d < 10 ∧ Lib.decDigits m = UInt8.ofNat (48 + d) :: r := by
  induction m using Nat.strongRecOn with
  | _ m ih =>
    by_cases h : m < 10
    · exact ⟨m, [], h, Lib.decDigits_one h⟩
    · obtain ⟨d, r, hd, he⟩ := ih (m / 10) (by omega)
      exact ⟨d, r ++ [UInt8.ofNat (48 + m % 10)], hd, by rw [Lib.decDigits, dif_neg h, he, List.cons_append]⟩
theorem atoi_dec (m : Nat) (hm : m ≤ 1000000000) : Lib.atoiAll (Lib.decDigits m) = .ok (m : Int) := by
  obtain ⟨d, r, hd, he⟩ := dec_cons m
  have hp := parse_dec m hm []
  rw [List.append_nil] at hp
  have hp2 : Lib.parseUint10 m [] = .ok m := rfl
  rw [hp2, he] at hp
  have hc : (UInt8.ofNat (48 + d)).toNat = 48 + d := by
    have h : d = 0 ∨ d = 1 ∨ d = 2 ∨ d = 3 ∨ d = 4 ∨ d = 5 ∨ d = 6 ∨ d = 7 ∨ d = 8 ∨ d = 9 := by omega
    rcases h with rfl | rfl | rfl | rfl | rfl | rfl | rfl | rfl | rfl | rfl <;> rfl
  rw [he]
  unfold Lib.atoiAll
  simp only [hc]
  rw [if_neg (by omega)]
  unfold Lib.parseMag
  rw [if_neg (by simp), hp]
  simp only
  rw [if_neg (by omega), if_neg (by omega), if_neg (by omega)]
/-- What the program's ReadDecimal makes of Atoi's answer. -/
theorem tells_atoi (x : ByteArray) : Tells x (match Lib.atoiAll x.data.toList with | .ok v => if (0 ≤ v ∧ v ≤ 1000000000) ∧ (⟨(Lib.itoa v).toArray⟩ : ByteArray) = x then (v, true) else (0, false) | _ => (0, false)) := by
  by_cases h : ∃ n : Nat, n ≤ 1000000000 ∧ x = decS n
  · obtain ⟨n, hn, rfl⟩ := h
    have e : Lib.atoiAll (decS n).data.toList = .ok (n : Int) := atoi_dec n hn
    rw [e]
    simp only
    rw [if_pos ⟨by omega, itoa_nat n⟩]
    exact tells_yes n hn
  · have h' : ∀ n : Nat, n ≤ 1000000000 → x ≠ decS n := fun n hn he => h ⟨n, hn, he⟩
    cases e : Lib.atoiAll x.data.toList with
    | ok v =>
      simp only
      rw [if_neg]
      · exact tells_no x h'
      · rintro ⟨hv, hx⟩
        obtain ⟨m, rfl⟩ := Int.eq_ofNat_of_zero_le hv.1
        rw [itoa_nat] at hx
        exact h' m (by omega) hx.symm
    | «syntax» => exact tells_no x h'
    | range => exact tells_no x h'
end Go.Proofs.YtjpngldnkgofaaaDoor.Pure
