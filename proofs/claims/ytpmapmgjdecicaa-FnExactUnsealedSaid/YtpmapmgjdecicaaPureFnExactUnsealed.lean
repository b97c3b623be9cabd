/- The pure statement of FnExactUnsealed, over numbers and lists: it is true of every argument; no condition but the bounds that the statement itself names. -/
import Derived.Test.YtpmapmgjdecicaaPFnExactUnsealedx2
import Derived.Test.YtpmapmgjdecicaaBase
import Derived.Test.YtpmapmgjdecicaaModelSum
set_option linter.unusedVariables false
set_option linter.unusedSimpArgs false
namespace Go.Proofs.Ytpmapmgjdecicaa.Pure
open Go.RowKit Go.Proofs.Ytpmapmgjdecicaa.PFnExactUnsealed Go.Proofs.YtpmapmgjdecicaaW.PrintWords Go.Proofs.YtpmapmgjdecicaaW.PrintLast Go.Proofs.YtpmapmgjdecicaaW.PrintMore Go.Proofs.Ytpmapmgjdecicaa.Base

/-! in -/
theorem impl_in_eq (a b c : Int) : impl_in.f a b c = some (decide (b ≤ a ∧ a ≤ c)) := by
  unfold impl_in.f
  by_cases h : a ≥ b <;> by_cases h2 : a ≤ c <;> simp [h, h2] <;> omega

/-! sum -/
theorem spec_SumMore_l1 (x : ByteArray) (i : Nat) (hi : i < x.size) (hx : x.size ≤ 140737488351232) (r : Int) (n : Nat) : ∀ (s : Int) (j : Nat), 0 ≤ s ∧ s < 4294967296 → j + n = 8 →
    Ev (fun k => spec_SumMore.l0 k (sumBits n s) x ((i + 1 : Nat) : Int)) r → Ev (fun k => spec_SumMore.l1 k s x (i : Int) (j : Int)) r := by
  induction n with
  | zero =>
    intro s j hs hj h
    refine ev_succ ?_
    simp only [spec_SumMore.l1, if_neg (show ¬ (j : Int) < 8 from by omega), wn i hi (by omega)]
    exact h
  | succ n ih =>
    intro s j hs hj h
    refine ev_succ ?_
    have e1 : Int.tmod s 2 = s % 2 := Int.tmod_eq_emod_of_nonneg hs.1
    have e2 : Int.tdiv s 2 % 4294967296 = s / 2 := by rw [Int.tdiv_eq_ediv_of_nonneg hs.1]; omega
    simp only [spec_SumMore.l1, if_pos (show (j : Int) < 8 from by omega), e1, e2, wn j (show j < 8 from by omega) (by omega)]
    have := ih (sumBit s) (j + 1) (sumBit_range hs) (by omega) h
    unfold sumBit at this
    by_cases h2 : s % 2 = 1
    · simpa only [if_pos h2] using this
    · simpa only [if_neg h2] using this
theorem spec_SumMore_l0 (x : ByteArray) (hx : x.size ≤ 140737488351232) (d : Nat) : ∀ (i : Nat) (s : Int), 0 ≤ s ∧ s < 4294967296 → x.size - i = d → i ≤ x.size →
    Ev (fun k => spec_SumMore.l0 k s x (i : Int)) (sumL s ((bytesOf x).drop i)) := by
  induction d with
  | zero =>
    intro i s hs hd hi
    refine ev_succ ?_
    simp only [spec_SumMore.l0, if_neg (show ¬ (i : Int) < (x.size : Int) from by omega)]
    rw [bytes_end x i (by omega)]
    exact ev_some rfl
  | succ d ih =>
    intro i s hs hd hi
    refine ev_succ ?_
    have hb := bt_lt x (i : Int)
    simp only [spec_SumMore.l0, if_pos (show (i : Int) < (x.size : Int) from by omega), if_pos (show (0 : Int) ≤ (i : Int) from by omega), Int.emod_eq_of_lt hb.1 (show bt x (i : Int) < 4294967296 from by omega)]
    rw [bytes_drop x i (by omega)]
    exact spec_SumMore_l1 x i (by omega) hx _ 8 _ 0 (b_xor_range _ _) rfl (ih (i + 1) _ (sumByte_range s _) (by omega) (by omega))
theorem spec_SumMore_ev (s : Int) (x : ByteArray) (hs : 0 ≤ s ∧ s < 4294967296) (hx : x.size ≤ 140737488351232) : Ev (fun k => spec_SumMore.f k s x) (sumL s (bytesOf x)) := by
  simpa [spec_SumMore.f] using spec_SumMore_l0 x hx _ 0 s hs rfl (by omega)
theorem impl_SumMore_l1 (x : ByteArray) (i : Nat) (hi : i < x.size) (hx : x.size ≤ 140737488351232) (r : Int) (n : Nat) : ∀ (s : Int) (j : Nat), 0 ≤ s ∧ s < 4294967296 → j + n = 8 →
    Ev (fun k => impl_SumMore.l0 k (sumBits n s) x (x.size : Int) ((i + 1 : Nat) : Int)) r → Ev (fun k => impl_SumMore.l1 k s x (x.size : Int) (i : Int) (j : Int)) r := by
  induction n with
  | zero =>
    intro s j hs hj h
    refine ev_succ ?_
    simp only [impl_SumMore.l1, if_neg (show ¬ (j : Int) < 8 from by omega), wn i hi (by omega)]
    exact h
  | succ n ih =>
    intro s j hs hj h
    refine ev_succ ?_
    simp only [impl_SumMore.l1, if_pos (show (j : Int) < 8 from by omega), b_and1 s hs.1 hs.2, wn j (show j < 8 from by omega) (by omega)]
    have := ih (sumBit s) (j + 1) (sumBit_range hs) (by omega) h
    unfold sumBit at this
    by_cases h2 : s % 2 = 1
    · simpa only [if_pos h2] using this
    · simpa only [if_neg h2] using this
theorem impl_SumMore_l0 (x : ByteArray) (hx : x.size ≤ 140737488351232) (d : Nat) : ∀ (i : Nat) (s : Int), 0 ≤ s ∧ s < 4294967296 → x.size - i = d → i ≤ x.size →
    Ev (fun k => impl_SumMore.l0 k s x (x.size : Int) (i : Int)) (sumL s ((bytesOf x).drop i)) := by
  induction d with
  | zero =>
    intro i s hs hd hi
    refine ev_succ ?_
    simp only [impl_SumMore.l0, if_neg (show ¬ (i : Int) < (x.size : Int) from by omega)]
    rw [bytes_end x i (by omega)]
    exact ev_some rfl
  | succ d ih =>
    intro i s hs hd hi
    refine ev_succ ?_
    have hb := bt_lt x (i : Int)
    simp only [impl_SumMore.l0, if_pos (show (i : Int) < (x.size : Int) from by omega), if_pos (show (0 : Int) ≤ (i : Int) from by omega), Int.emod_eq_of_lt hb.1 (show bt x (i : Int) < 4294967296 from by omega)]
    rw [bytes_drop x i (by omega)]
    exact impl_SumMore_l1 x i (by omega) hx _ 8 _ 0 (b_xor_range _ _) rfl (ih (i + 1) _ (sumByte_range s _) (by omega) (by omega))
theorem impl_SumMore_ev (s : Int) (x : ByteArray) (hs : 0 ≤ s ∧ s < 4294967296) (hx : x.size ≤ 140737488351232) : Ev (fun k => impl_SumMore.f k s x) (sumL s (bytesOf x)) := by
  simpa [impl_SumMore.f] using impl_SumMore_l0 x hx _ 0 s hs rfl (by omega)
theorem spec_SumOf_ev (x : ByteArray) (hx : x.size ≤ 140737488351232) : Ev (fun k => spec_SumOf.f k x) (sumOfM x) :=
  Ev.bind (spec_SumMore_ev _ x (by omega) hx) (ev_some rfl)
theorem impl_SumOf_ev (x : ByteArray) (hx : x.size ≤ 140737488351232) : Ev (fun k => impl_SumOf.f k x) (sumOfM x) :=
  Ev.bind (impl_SumMore_ev _ x (by omega) hx) (ev_some rfl)
theorem impl_seal_ev (x : ByteArray) (hx : x.size ≤ 140737488351232) : Ev (fun k => impl_seal.f k x) (fourS (sumOfM x)) :=
  Ev.bind (impl_SumOf_ev x hx) (ev_some rfl)
theorem spec_l02Four_eq (s : Int) : spec_l02Four.f s = some (fourS s) := rfl

/-! seal -/
theorem spec_Unsealed_ev (x : ByteArray) (hx : x.size ≤ 140737488351232) : Ev (fun k => spec_Unsealed.f k x) (unsealedM x) := by
  unfold spec_Unsealed.f unsealedM
  rw [w64 (x := (x.size : Int) - 4) (by omega) (by omega)]
  by_cases h1 : (x.size : Int) - 4 < 0
  · simp only [if_pos h1, if_neg (show ¬ (4 ≤ x.size ∧ x.size ≤ 20004 ∧ x.extract (x.size - 4) x.size = fourS (sumOfM (x.extract 0 (x.size - 4)))) from by omega)]
    exact ev_some rfl
  by_cases h2 : (x.size : Int) - 4 > 20000
  · simp only [if_neg h1, if_pos h2, if_neg (show ¬ (4 ≤ x.size ∧ x.size ≤ 20004 ∧ x.extract (x.size - 4) x.size = fourS (sumOfM (x.extract 0 (x.size - 4)))) from by omega)]
    exact ev_some rfl
  have e : ((x.size : Int) - 4).toNat = x.size - 4 := by omega
  simp only [if_neg h1, if_neg h2, if_pos (show 0 ≤ (x.size : Int) - 4 from by omega), if_pos (show (x.size : Int) - 4 ≤ (x.size : Int) from by omega), e]
  refine Ev.bind (spec_SumOf_ev _ (by rw [size_extract]; omega)) ?_
  simp only [spec_l02Four_eq, Option.bind_some, tl_iff]
  by_cases h3 : x.extract (x.size - 4) x.size = fourS (sumOfM (x.extract 0 (x.size - 4)))
  · simp only [if_pos h3, if_pos (show 4 ≤ x.size ∧ x.size ≤ 20004 ∧ x.extract (x.size - 4) x.size = fourS (sumOfM (x.extract 0 (x.size - 4))) from ⟨by omega, by omega, h3⟩)]
    exact ev_some rfl
  · simp only [if_neg h3, if_neg (show ¬ (4 ≤ x.size ∧ x.size ≤ 20004 ∧ x.extract (x.size - 4) x.size = fourS (sumOfM (x.extract 0 (x.size - 4)))) from fun h => h3 h.2.2)]
    exact ev_some rfl
theorem impl_Unsealed_ev (x : ByteArray) (hx : x.size ≤ 140737488351232) : Ev (fun k => impl_Unsealed.f k x) (unsealedM x) := by
  unfold impl_Unsealed.f unsealedM
  rw [w64 (x := (x.size : Int) - 4) (by omega) (by omega), impl_in_eq]
  simp only [Option.bind_some]
  by_cases h1 : 0 ≤ (x.size : Int) - 4 ∧ (x.size : Int) - 4 ≤ 20000
  · have e : ((x.size : Int) - 4).toNat = x.size - 4 := by omega
    simp only [decide_eq_true h1, if_true, if_pos h1.1, if_pos (show (x.size : Int) - 4 ≤ (x.size : Int) from by omega), e]
    refine Ev.bind (impl_seal_ev _ (by rw [size_extract]; omega)) ?_
    simp only [tl_iff]
    by_cases h3 : x.extract (x.size - 4) x.size = fourS (sumOfM (x.extract 0 (x.size - 4)))
    · simp only [if_pos h3, if_pos (show 4 ≤ x.size ∧ x.size ≤ 20004 ∧ x.extract (x.size - 4) x.size = fourS (sumOfM (x.extract 0 (x.size - 4))) from ⟨by omega, by omega, h3⟩)]
      exact ev_some rfl
    · simp only [if_neg h3, if_neg (show ¬ (4 ≤ x.size ∧ x.size ≤ 20004 ∧ x.extract (x.size - 4) x.size = fourS (sumOfM (x.extract 0 (x.size - 4)))) from fun h => h3 h.2.2)]
      exact ev_some rfl
  · simp only [decide_eq_false h1, Bool.false_eq_true, if_false, if_neg (show ¬ (4 ≤ x.size ∧ x.size ≤ 20004 ∧ x.extract (x.size - 4) x.size = fourS (sumOfM (x.extract 0 (x.size - 4)))) from by omega)]
    exact ev_some rfl

theorem FnExactUnsealed : laws_FnExactUnsealed.Pure := by
  intro a h
  refine Ev.rounds ?_
  unfold laws_FnExactUnsealed.f
  by_cases hz : (a.size : Int) > 1048576
  · simp only [if_pos hz]
    exact ev_some rfl
  · simp only [if_neg hz]
    refine Ev.bind (spec_Unsealed_ev a h) ?_
    refine Ev.bind (impl_Unsealed_ev a h) ?_
    simp only [if_true, bne_self_eq_false, Bool.false_eq_true, if_false]
    exact ev_some rfl

end Go.Proofs.Ytpmapmgjdecicaa.Pure
