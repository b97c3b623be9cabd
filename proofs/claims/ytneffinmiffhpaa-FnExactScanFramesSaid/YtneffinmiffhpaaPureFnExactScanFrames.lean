/- The pure statement of FnExactScanFrames, over numbers and lists: it is true of every argument; no condition but the bounds that the statement itself names. -/
import Derived.Test.YtneffinmiffhpaaPFnExactScanFramesx6
import Derived.Test.YtneffinmiffhpaaBase
import Derived.Test.YtneffinmiffhpaaModelFrame
import Derived.Test.YtneffinmiffhpaaModelRead
import Derived.Test.YtneffinmiffhpaaModelScan
import Derived.Test.YtneffinmiffhpaaModelSum
import Derived.Test.YtneffinmiffhpaaModelVar
set_option linter.unusedVariables false
set_option linter.unusedSimpArgs false
namespace Go.Proofs.Ytneffinmiffhpaa.Pure
open Go.RowKit Go.Proofs.Ytneffinmiffhpaa.PFnExactScanFrames Go.Proofs.YtneffinmiffhpaaW.PrintWords Go.Proofs.YtneffinmiffhpaaW.PrintLast Go.Proofs.YtneffinmiffhpaaW.PrintMore Go.Proofs.Ytneffinmiffhpaa.Base

/-! in -/
theorem spec_in_eq (a b c : Int) : spec_l01In.f a b c = some (decide (b ≤ a ∧ a ≤ c)) := by
  unfold spec_l01In.f
  by_cases h : a ≥ b <;> by_cases h2 : a ≤ c <;> simp [h, h2] <;> omega
theorem impl_in_eq (a b c : Int) : impl_in.f a b c = some (decide (b ≤ a ∧ a ≤ c)) := by
  unfold impl_in.f
  by_cases h : a ≥ b <;> by_cases h2 : a ≤ c <;> simp [h, h2] <;> omega

/-! var -/
theorem spec_l01Var_l0 (n : Nat) : ∀ (acc : List Int), n < 9223372036854775808 → acc.length + (varL n).length < 140737488355328 →
    Ev (fun k => spec_l01Var.l0 k (n : Int) acc) (strOfNums (acc ++ varL n)) := by
  induction n using Nat.strongRecOn with
  | _ n ih =>
    intro acc hn hl
    refine ev_succ ?_
    by_cases h : 127 < n
    · rw [varL_big h] at hl ⊢
      rw [List.length_cons] at hl
      simp only [spec_l01Var.l0, if_pos (show (n : Int) > 127 from by omega), if_pos (show acc.length < 140737488355328 from by omega)]
      have e1 : wrap64 (Int.tdiv (n : Int) 128) = ((n / 128 : Nat) : Int) := by
        rw [Int.tdiv_eq_ediv_of_nonneg (by omega), w64 (by omega) (by omega)]; omega
      have e2 : wrap64 (Int.tmod (n : Int) 128 + 128) % 256 = ((n % 128 + 128 : Nat) : Int) := by
        rw [Int.tmod_eq_emod_of_nonneg (by omega), w64 (by omega) (by omega)]; omega
      simp only [e1, e2]
      have := ih (n / 128) (by omega) (acc ++ [((n % 128 + 128 : Nat) : Int)]) (by omega) (by simp; omega)
      simpa using this
    · rw [varL_small (by omega)] at hl ⊢
      have hl' : acc.length + 1 < 140737488355328 := by simpa using hl
      simp only [spec_l01Var.l0, if_neg (show ¬ (n : Int) > 127 from by omega), if_pos (show acc.length < 140737488355328 from by omega)]
      rw [show (n : Int) % 256 = (n : Int) from by omega]
      exact ev_some rfl
theorem impl_varText_l0 (n : Nat) : ∀ (acc : List Int), n < 9223372036854775808 → acc.length + (varL n).length < 140737488355328 →
    Ev (fun k => impl_varText.l0 k (n : Int) acc) (strOfNums (acc ++ varL n)) := by
  induction n using Nat.strongRecOn with
  | _ n ih =>
    intro acc hn hl
    refine ev_succ ?_
    by_cases h : 127 < n
    · rw [varL_big h] at hl ⊢
      rw [List.length_cons] at hl
      simp only [impl_varText.l0, if_pos (show (n : Int) > 127 from by omega), if_pos (show acc.length < 140737488355328 from by omega)]
      have e1 : (n : Int) / 128 = ((n / 128 : Nat) : Int) := by omega
      have e2 : (Go.bits .or .i64 (Go.bits .and .i64 (n : Int) 127) 128) % 256 = ((n % 128 + 128 : Nat) : Int) := by
        rw [b_and127 _ (by omega) (by omega), b_or128 _ (by omega) (by omega)]; omega
      simp only [e1, e2]
      have := ih (n / 128) (by omega) (acc ++ [((n % 128 + 128 : Nat) : Int)]) (by omega) (by simp; omega)
      simpa using this
    · rw [varL_small (by omega)] at hl ⊢
      have hl' : acc.length + 1 < 140737488355328 := by simpa using hl
      simp only [impl_varText.l0, if_neg (show ¬ (n : Int) > 127 from by omega), if_pos (show acc.length < 140737488355328 from by omega)]
      rw [show (n : Int) % 256 = (n : Int) from by omega]
      exact ev_some rfl
theorem spec_l01Var_ev (n : Nat) (h : n < 70368744177664) : Ev (fun k => spec_l01Var.f k (n : Int)) (varS n) := by
  have := varL_length n
  simpa [spec_l01Var.f, varS] using spec_l01Var_l0 n [] (by omega) (by simp; omega)
theorem impl_varText_ev (n : Nat) (h : n < 70368744177664) : Ev (fun k => impl_varText.f k (n : Int)) (varS n) := by
  have := varL_length n
  simpa [impl_varText.f, varS] using impl_varText_l0 n [] (by omega) (by simp; omega)
theorem spec_l01Var_ev' (a : Int) (h0 : 0 ≤ a) (h : a < 70368744177664) : Ev (fun k => spec_l01Var.f k a) (varS a.toNat) := by
  obtain ⟨n, rfl⟩ := Int.eq_ofNat_of_zero_le h0
  exact spec_l01Var_ev n (by omega)
theorem impl_varText_ev' (a : Int) (h0 : 0 ≤ a) (h : a < 70368744177664) : Ev (fun k => impl_varText.f k a) (varS a.toNat) := by
  obtain ⟨n, rfl⟩ := Int.eq_ofNat_of_zero_le h0
  exact impl_varText_ev n (by omega)

/-! readvar -/
theorem or_comm_i64 (x y : Int) : Go.bits .or .i64 x y = Go.bits .or .i64 y x := by
  unfold bits
  simp only [BitVec.or_comm]
theorem shl7 (k : Nat) (hk : k < 5) (v : Int) (hv : 0 ≤ v ∧ v < 128) : shl .i64 v (wrap64 (7 * (k : Int))) = v * 128 ^ k := by
  rw [w64 (by omega) (by omega)]
  unfold shl
  have e : min (7 * (k : Int)).toNat IntKind.i64.bits = 7 * k := by
    have : IntKind.i64.bits = 64 := rfl
    omega
  rw [e, IntKind.wrap_i64]
  have h : k = 0 ∨ k = 1 ∨ k = 2 ∨ k = 3 ∨ k = 4 := by omega
  rcases h with rfl | rfl | rfl | rfl | rfl <;> omega
theorem or7 (k : Nat) (hk : k < 5) (n v : Int) (hn : 0 ≤ n ∧ n < 128 ^ k) (hv : 0 ≤ v ∧ v < 128) : Go.bits .or .i64 n (v * 128 ^ k) = n + v * 128 ^ k := by
  rw [or_comm_i64]
  have h : k = 0 ∨ k = 1 ∨ k = 2 ∨ k = 3 ∨ k = 4 := by omega
  rcases h with rfl | rfl | rfl | rfl | rfl
  · rw [bits_join .i64 63 (by decide) b_wraps_i64 0 (v * 128 ^ 0) n (by omega) (by omega) (by omega) hn.1 (by omega) (by omega)]; omega
  · rw [bits_join .i64 63 (by decide) b_wraps_i64 7 (v * 128 ^ 1) n (by omega) (by omega) (by omega) hn.1 (by omega) (by omega)]; omega
  · rw [bits_join .i64 63 (by decide) b_wraps_i64 14 (v * 128 ^ 2) n (by omega) (by omega) (by omega) hn.1 (by omega) (by omega)]; omega
  · rw [bits_join .i64 63 (by decide) b_wraps_i64 21 (v * 128 ^ 3) n (by omega) (by omega) (by omega) hn.1 (by omega) (by omega)]; omega
  · rw [bits_join .i64 63 (by decide) b_wraps_i64 28 (v * 128 ^ 4) n (by omega) (by omega) (by omega) hn.1 (by omega) (by omega)]; omega
theorem pow5 (k : Nat) (hk : k < 5) (n v : Int) (hn : 0 ≤ n ∧ n < 128 ^ k) (hv : 0 ≤ v ∧ v < 128) : 0 ≤ n + v * 128 ^ k ∧ n + v * 128 ^ k < 128 ^ (k + 1) ∧ 0 ≤ v * 128 ^ k ∧ v * 128 ^ k < 34359738368 ∧ n + v * 128 ^ k < 34359738368 ∧ (128 : Int) ^ k ≤ 268435456 ∧ 0 < (128 : Int) ^ k := by
  have h : k = 0 ∨ k = 1 ∨ k = 2 ∨ k = 3 ∨ k = 4 := by omega
  rcases h with rfl | rfl | rfl | rfl | rfl <;> omega
theorem impl_ReadVar_l0 (x : ByteArray) (hx : x.size ≤ 140737488351232) (a : Nat) (ha : a ≤ x.size) (f : Nat) : ∀ (k : Nat) (n : Int), k + f = 5 → 0 ≤ n ∧ n < 128 ^ k →
    Ev (fun r => impl_ReadVar.l0 r x (a : Int) n (k : Int)) (rvGo x a f k n) := by
  induction f with
  | zero =>
    intro k n hk hn
    refine ev_succ ?_
    simp only [impl_ReadVar.l0, if_neg (show ¬ (k : Int) < 5 from by omega)]
    refine ev_succ ?_
    simp only [impl_ReadVar.j1, Bool.false_eq_true, if_false]
    exact ev_some rfl
  | succ f ih =>
    intro k n hk hn
    refine ev_succ ?_
    have hk1' : k + 1 + f = 5 := by omega
    have e1 : wrap64 ((a : Int) + (k : Int)) = ((a + k : Nat) : Int) := by rw [w64 (by omega) (by omega)]; omega
    simp only [impl_ReadVar.l0, if_pos (show (k : Int) < 5 from by omega), e1]
    refine ev_succ ?_
    unfold rvGo
    by_cases h1 : a + k < x.size
    · have hb := bt_lt x ((a + k : Nat) : Int)
      have hv : 0 ≤ bt x ((a + k : Nat) : Int) % 128 ∧ bt x ((a + k : Nat) : Int) % 128 < 128 := by omega
      have g1 : ((a + k : Nat) : Int) < (x.size : Int) := by omega
      have g2 : (0 : Int) ≤ ((a + k : Nat) : Int) := by omega
      have g3 : (0 : Int) ≤ 7 * (k : Int) := by omega
      have g4 : bt x ((a + k : Nat) : Int) < 9223372036854775808 := by omega
      have g5 : k < 5 := by omega
      have g6 : x.size ≤ 140737488355328 := by omega
      have g7 : -9223372036854775808 ≤ bt x ((a + k : Nat) : Int) ∧ bt x ((a + k : Nat) : Int) ≤ 9223372036854775807 := by omega
      have g8 : -9223372036854775808 ≤ 7 * (k : Int) ∧ 7 * (k : Int) ≤ 9223372036854775807 := by omega
      have g9 : 5 ≤ 140737488355328 := by omega
      have e6 : wrap64 (((a + k : Nat) : Int) + 1) = ((a + k + 1 : Nat) : Int) := wn (a + k) h1 g6
      have e7 : wrap64 ((k : Int) + 1) = ((k + 1 : Nat) : Int) := wn k g5 g9
      have e2 : wrap64 (bt x ((a + k : Nat) : Int)) = bt x ((a + k : Nat) : Int) := w64 g7.1 g7.2
      have e3 : wrap64 (7 * (k : Int)) = 7 * (k : Int) := w64 g8.1 g8.2
      have e4 := shl7 k g5 _ hv
      rw [e3] at e4
      have e5 := or7 k g5 n _ hn hv
      have hp := pow5 k g5 n _ hn hv
      have hk1 : k + 1 + f = 5 := hk1'
      simp only [impl_ReadVar.j1, decide_eq_true g1, if_true, e1, e2, e3, b_and127 _ hb.1 g4, e4, e5, e6, e7, if_pos g2, if_pos g1, if_pos g3, if_pos h1]
      clear e1 e2 e3 e4 e5 e6 e7
      obtain ⟨p, hpp⟩ : ∃ p : Int, (128 : Int) ^ k = p := ⟨_, rfl⟩
      simp only [hpp] at hp ⊢
      by_cases h2 : bt x ((a + k : Nat) : Int) > 127
      · simp only [if_pos h2, if_neg (show ¬ bt x ((a + k : Nat) : Int) < 128 from by omega)]
        exact ih (k + 1) _ hk1 ⟨hp.1, hp.2.1⟩
      · simp only [if_neg h2, if_pos (show bt x ((a + k : Nat) : Int) < 128 from by omega)]
        by_cases h3 : bt x ((a + k : Nat) : Int) = 0
        · by_cases h4 : 0 < k
          · simp only [if_pos h3, if_pos (show (k : Int) > 0 from by omega), if_pos (show (bt x ((a + k : Nat) : Int) = 0 ∧ 0 < k) ∨ n + bt x ((a + k : Nat) : Int) % 128 * p > 1000000000 from .inl ⟨h3, h4⟩)]
            exact ev_some rfl
          · by_cases h5 : n + bt x ((a + k : Nat) : Int) % 128 * p > 1000000000
            · simp only [if_pos h3, if_neg (show ¬ (k : Int) > 0 from by omega), if_pos h5, if_pos (show (bt x ((a + k : Nat) : Int) = 0 ∧ 0 < k) ∨ n + bt x ((a + k : Nat) : Int) % 128 * p > 1000000000 from .inr h5)]
              exact ev_some rfl
            · simp only [if_pos h3, if_neg (show ¬ (k : Int) > 0 from by omega), if_neg h5, if_neg (show ¬ ((bt x ((a + k : Nat) : Int) = 0 ∧ 0 < k) ∨ n + bt x ((a + k : Nat) : Int) % 128 * p > 1000000000) from fun h => h.elim (fun h => h4 h.2) h5)]
              exact ev_some rfl
        · by_cases h5 : n + bt x ((a + k : Nat) : Int) % 128 * p > 1000000000
          · simp only [if_neg h3, if_pos h5, if_pos (show (bt x ((a + k : Nat) : Int) = 0 ∧ 0 < k) ∨ n + bt x ((a + k : Nat) : Int) % 128 * p > 1000000000 from .inr h5)]
            exact ev_some rfl
          · simp only [if_neg h3, if_neg h5, if_neg (show ¬ ((bt x ((a + k : Nat) : Int) = 0 ∧ 0 < k) ∨ n + bt x ((a + k : Nat) : Int) % 128 * p > 1000000000) from fun h => h.elim (fun h => h3 h.1) h5)]
            exact ev_some rfl
    · simp only [impl_ReadVar.j1, decide_eq_false (show ¬ ((a + k : Nat) : Int) < (x.size : Int) from by omega), Bool.false_eq_true, if_false, if_neg h1]
      exact ev_some rfl
theorem impl_ReadVar_ev (x : ByteArray) (hx : x.size ≤ 140737488351232) (a : Int) : Ev (fun r => impl_ReadVar.f r x a) (readVarM x a) := by
  unfold impl_ReadVar.f readVarM
  simp only [impl_in_eq, Option.bind_some]
  by_cases h : 0 ≤ a ∧ a ≤ (x.size : Int)
  · obtain ⟨m, rfl⟩ := Int.eq_ofNat_of_zero_le h.1
    simp only [decide_eq_true h, if_true, if_pos h]
    exact impl_ReadVar_l0 x hx m (by omega) 5 0 0 rfl (by omega)
  · simp only [decide_eq_false h, Bool.false_eq_true, if_false, if_neg h]
    exact ev_some rfl
theorem spec_ReadVar_l0 (x : ByteArray) (hx : x.size ≤ 140737488351232) (a : Nat) (ha : a ≤ x.size) (f : Nat) : ∀ (k : Nat), k + f = 5 → a + k ≤ x.size → (∀ b, b ∈ runL x a k → 128 ≤ b ∧ b < 256) →
    Ev (fun r => spec_ReadVar.l0 r x (a : Int) (valL (runL x a k) : Int) (128 ^ k) ((a + k : Nat) : Int)) (rvGo x a f k (valL (runL x a k) : Int)) := by
  induction f with
  | zero =>
    intro k hk hak hp
    refine ev_succ ?_
    have e0 : wrap64 ((a : Int) + 5) = (a : Int) + 5 := w64 (by omega) (by omega)
    by_cases h1 : ((a + k : Nat) : Int) < (x.size : Int)
    · simp only [spec_ReadVar.l0, if_pos h1, e0, decide_eq_false (show ¬ ((a + k : Nat) : Int) < (a : Int) + 5 from by omega)]
      refine ev_succ ?_
      simp only [spec_ReadVar.j1, Bool.false_eq_true, if_false]
      exact ev_some rfl
    · simp only [spec_ReadVar.l0, if_neg h1]
      refine ev_succ ?_
      simp only [spec_ReadVar.j1, Bool.false_eq_true, if_false]
      exact ev_some rfl
  | succ f ih =>
    intro k hk hak hp
    refine ev_succ ?_
    have e0 : wrap64 ((a : Int) + 5) = (a : Int) + 5 := w64 (by omega) (by omega)
    unfold rvGo
    by_cases h1 : a + k < x.size
    · have hl := runL_length x a k hak
      have hlt := valL_lt (runL x a k)
      rw [hl] at hlt
      have hb := bt_lt x ((a + k : Nat) : Int)
      have e3 : Int.tmod (bt x ((a + k : Nat) : Int)) 128 = bt x ((a + k : Nat) : Int) % 128 := Int.tmod_eq_emod_of_nonneg hb.1
      have hv : 0 ≤ bt x ((a + k : Nat) : Int) % 128 ∧ bt x ((a + k : Nat) : Int) % 128 < 128 := by omega
      have g5 : k < 5 := by omega
      have hn : 0 ≤ (valL (runL x a k) : Int) ∧ (valL (runL x a k) : Int) < 128 ^ k := ⟨by omega, by exact_mod_cast hlt⟩
      have hpw := pow5 k g5 _ _ hn hv
      have g1 : ((a + k : Nat) : Int) < (x.size : Int) := by omega
      have g2 : (0 : Int) ≤ ((a + k : Nat) : Int) := by omega
      have g3 : ((a + k : Nat) : Int) < (a : Int) + 5 := by omega
      have g6 : x.size ≤ 140737488355328 := by omega
      have g7 : -9223372036854775808 ≤ bt x ((a + k : Nat) : Int) ∧ bt x ((a + k : Nat) : Int) ≤ 9223372036854775807 := by omega
      have g10 : (0 : Int) ≤ (a : Int) := by omega
      have g11 : (a : Int) ≤ ((a + (k + 1) : Nat) : Int) := by omega
      have g12 : ((a + (k + 1) : Nat) : Int) ≤ (x.size : Int) := by omega
      have g13 : k + 1 + f = 5 := by omega
      have g14 : a + (k + 1) ≤ x.size := by omega
      have e8 : (valL (runL x a k) : Int) + bt x ((a + k : Nat) : Int) % 128 * 128 ^ k = (valL (runL x a (k + 1)) : Int) := by
        rw [runL_succ x a k h1, valL_snoc, hl]
        have : ((bt x ((a + k : Nat) : Int)).toNat % 128 : Nat) = ((bt x ((a + k : Nat) : Int) % 128).toNat) := by omega
        rw [this]
        obtain ⟨v, hvd⟩ : ∃ v, bt x ((a + k : Nat) : Int) % 128 = v := ⟨_, rfl⟩
        rw [hvd] at hv ⊢
        push_cast
        rw [Int.toNat_of_nonneg hv.1]
      obtain ⟨p, hpp⟩ : ∃ p : Int, (128 : Int) ^ k = p := ⟨_, rfl⟩
      have g8 : -9223372036854775808 ≤ bt x ((a + k : Nat) : Int) % 128 * 128 ^ k ∧ bt x ((a + k : Nat) : Int) % 128 * 128 ^ k ≤ 9223372036854775807 := by rw [hpp] at hpw ⊢; omega
      have g9 : -9223372036854775808 ≤ (valL (runL x a k) : Int) + bt x ((a + k : Nat) : Int) % 128 * 128 ^ k ∧ (valL (runL x a k) : Int) + bt x ((a + k : Nat) : Int) % 128 * 128 ^ k ≤ 9223372036854775807 := by rw [hpp] at hpw ⊢; omega
      have g15 : -9223372036854775808 ≤ (128 : Int) ^ k * 128 ∧ (128 : Int) ^ k * 128 ≤ 9223372036854775807 := by rw [hpp] at hpw ⊢; omega
      have e2 : wrap64 (bt x ((a + k : Nat) : Int)) = bt x ((a + k : Nat) : Int) := w64 g7.1 g7.2
      have e4 : wrap64 (bt x ((a + k : Nat) : Int) % 128 * 128 ^ k) = bt x ((a + k : Nat) : Int) % 128 * 128 ^ k := w64 g8.1 g8.2
      have e5 : wrap64 ((valL (runL x a k) : Int) + bt x ((a + k : Nat) : Int) % 128 * 128 ^ k) = (valL (runL x a k) : Int) + bt x ((a + k : Nat) : Int) % 128 * 128 ^ k := w64 g9.1 g9.2
      have e6 : wrap64 (((a + k : Nat) : Int) + 1) = ((a + (k + 1) : Nat) : Int) := wn (a + k) h1 g6
      have e7 : wrap64 ((128 : Int) ^ k * 128) = 128 ^ (k + 1) := by rw [w64 g15.1 g15.2, Int.pow_succ]
      simp only [spec_ReadVar.l0, if_pos g1, e0, decide_eq_true g3]
      refine ev_succ ?_
      simp only [spec_ReadVar.j1, if_true, if_pos g2, if_pos g1, e2, e3, e4, e5, e6, e7, if_pos h1]
      rw [e8]
      clear e0 e2 e3 e4 e5 e6 e7 e8 g8 g9 g15 hpw hpp
      by_cases h2 : bt x ((a + k : Nat) : Int) < 128
      · simp only [if_pos h2]
        have hc := canon x a k h1 hp h2
        by_cases h5 : (valL (runL x a (k + 1)) : Int) > 1000000000
        · simp only [if_pos h5, if_pos (show (bt x ((a + k : Nat) : Int) = 0 ∧ 0 < k) ∨ (valL (runL x a (k + 1)) : Int) > 1000000000 from .inr h5)]
          exact ev_some rfl
        · simp only [if_neg h5]
          refine Ev.bind (spec_l01Var_ev _ (by omega)) ?_
          simp only [if_pos g10, if_pos g11, if_pos g12, tl_iff, Int.toNat_natCast]
          by_cases h6 : bt x ((a + k : Nat) : Int) = 0 ∧ 0 < k
          · simp only [if_neg (fun h => hc.1 h h6), if_pos (show (bt x ((a + k : Nat) : Int) = 0 ∧ 0 < k) ∨ (valL (runL x a (k + 1)) : Int) > 1000000000 from .inl h6)]
            exact ev_some rfl
          · simp only [if_pos (hc.2 h6), if_neg (show ¬ ((bt x ((a + k : Nat) : Int) = 0 ∧ 0 < k) ∨ (valL (runL x a (k + 1)) : Int) > 1000000000) from fun h => h.elim h6 h5)]
            exact ev_some rfl
      · simp only [if_neg h2]
        refine ih (k + 1) g13 g14 ?_
        intro b hb'
        rw [runL_succ x a k h1] at hb'
        rcases List.mem_append.1 hb' with hb' | hb'
        · exact hp b hb'
        · have := List.mem_singleton.1 hb'
          omega
    · simp only [spec_ReadVar.l0, if_neg (show ¬ ((a + k : Nat) : Int) < (x.size : Int) from by omega)]
      refine ev_succ ?_
      simp only [spec_ReadVar.j1, Bool.false_eq_true, if_false, if_neg h1]
      exact ev_some rfl
theorem spec_ReadVar_ev (x : ByteArray) (hx : x.size ≤ 140737488351232) (a : Int) : Ev (fun r => spec_ReadVar.f r x a) (readVarM x a) := by
  unfold spec_ReadVar.f readVarM
  simp only [spec_in_eq, Option.bind_some]
  by_cases h : 0 ≤ a ∧ a ≤ (x.size : Int)
  · obtain ⟨m, rfl⟩ := Int.eq_ofNat_of_zero_le h.1
    simp only [decide_eq_true h, if_true, if_pos h]
    have := spec_ReadVar_l0 x hx m (by omega) 5 0 rfl (by omega) (by intro b hb; simp [runL] at hb)
    simpa [runL, valL] using this
  · simp only [decide_eq_false h, Bool.false_eq_true, if_false, if_neg h]
    exact ev_some rfl

/-! readshort -/
theorem impl_ReadShort_ev (x : ByteArray) (hx : x.size ≤ 140737488351232) (a : Int) : Ev (fun r => impl_ReadShort.f r x a) (readShortM x a) := by
  unfold impl_ReadShort.f readShortM
  refine Ev.bind (impl_ReadVar_ev x hx a) ?_
  obtain ⟨i1, i2, i3, i4, i5⟩ := readVarM_range x a
  obtain ⟨⟨n, e, ok⟩, hv⟩ : ∃ v, readVarM x a = v := ⟨_, rfl⟩
  simp only [hv] at i1 i2 i3 i4 i5 ⊢
  cases ok with
  | false => simp only [Bool.false_eq_true, if_false, false_and]; exact ev_some rfl
  | true =>
    simp only [if_true, true_and]
    by_cases h1 : n > 20000
    · simp only [if_pos h1, if_neg (show ¬ (n ≤ 20000 ∧ n ≤ (x.size : Int) - e) from by omega)]; exact ev_some rfl
    · rw [w64 (x := (x.size : Int) - e) (by omega) (by omega), w64 (x := e + n) (by omega) (by omega)]
      by_cases h2 : n > (x.size : Int) - e
      · simp only [if_neg h1, if_pos h2, if_neg (show ¬ (n ≤ 20000 ∧ n ≤ (x.size : Int) - e) from by omega)]; exact ev_some rfl
      · simp only [if_neg h1, if_neg h2, if_pos (show n ≤ 20000 ∧ n ≤ (x.size : Int) - e from by omega), if_pos i3, if_pos (show e ≤ e + n from by omega), if_pos (show e + n ≤ (x.size : Int) from by omega)]; exact ev_some rfl
theorem spec_ReadShort_ev (x : ByteArray) (hx : x.size ≤ 140737488351232) (a : Int) : Ev (fun r => spec_ReadShort.f r x a) (readShortM x a) := by
  unfold spec_ReadShort.f readShortM
  refine Ev.bind (spec_ReadVar_ev x hx a) ?_
  obtain ⟨i1, i2, i3, i4, i5⟩ := readVarM_range x a
  obtain ⟨⟨n, e, ok⟩, hv⟩ : ∃ v, readVarM x a = v := ⟨_, rfl⟩
  simp only [hv] at i1 i2 i3 i4 i5 ⊢
  cases ok with
  | false => simp only [Bool.false_eq_true, if_false, false_and]; exact ev_some rfl
  | true =>
    simp only [if_true, true_and]
    by_cases h1 : n > 20000
    · simp only [if_pos h1, if_neg (show ¬ (n ≤ 20000 ∧ n ≤ (x.size : Int) - e) from by omega)]; exact ev_some rfl
    · rw [w64 (x := (x.size : Int) - e) (by omega) (by omega), w64 (x := e + n) (by omega) (by omega)]
      by_cases h2 : n > (x.size : Int) - e
      · simp only [if_neg h1, if_pos h2, if_neg (show ¬ (n ≤ 20000 ∧ n ≤ (x.size : Int) - e) from by omega)]; exact ev_some rfl
      · simp only [if_neg h1, if_neg h2, if_pos (show n ≤ 20000 ∧ n ≤ (x.size : Int) - e from by omega), if_pos i3, if_pos (show e ≤ e + n from by omega), if_pos (show e + n ≤ (x.size : Int) from by omega)]; exact ev_some rfl

/-! frameok -/
theorem spec_FrameOk_eq (a b : Int) (c : ByteArray) : spec_FrameOk.f a b c = some (frameOkM a b c) := by
  unfold spec_FrameOk.f frameOkM
  simp only [spec_in_eq, Option.bind_some]
  by_cases h1 : 1 ≤ a ∧ a ≤ 1000000000 <;> by_cases h2 : 1 ≤ b ∧ b ≤ 1000000000 <;> simp [h1, h2]
theorem impl_FrameOk_eq (a b : Int) (c : ByteArray) : impl_FrameOk.f a b c = some (frameOkM a b c) := by
  unfold impl_FrameOk.f frameOkM
  simp only [impl_in_eq, Option.bind_some]
  by_cases h1 : 1 ≤ a ∧ a ≤ 1000000000 <;> by_cases h2 : 1 ≤ b ∧ b ≤ 1000000000 <;> simp [h1, h2]

/-! sum -/
theorem spec_SumMore_l1 (x : ByteArray) (i : Nat) (hi : i < x.size) (hx : x.size ≤ 140737488351232) (r : Int) (n : Nat) : ∀ (s : Int) (j : Nat), 0 ≤ s ∧ s < 4294967296 → j + n = 8 →
    Ev (fun k => spec_SumMore.l0 k (sumBits n s) x ((i + 1 : Nat) : Int)) r → Ev (fun k => spec_SumMore.l1 k s x (i : Int) (j : Int)) r := by
  induction n with
  | zero =>
    intro s j hs hj h
    refine ev_succ ?_
    simp only [spec_SumMore.l1, if_neg (show ¬ (j : Int) < 8 from by omega), wn i hi (by omega)]
    exact h
  | succ n ih =>
    intro s j hs hj h
    refine ev_succ ?_
    have e1 : Int.tmod s 2 = s % 2 := Int.tmod_eq_emod_of_nonneg hs.1
    have e2 : Int.tdiv s 2 % 4294967296 = s / 2 := by rw [Int.tdiv_eq_ediv_of_nonneg hs.1]; omega
    simp only [spec_SumMore.l1, if_pos (show (j : Int) < 8 from by omega), e1, e2, wn j (show j < 8 from by omega) (by omega)]
    have := ih (sumBit s) (j + 1) (sumBit_range hs) (by omega) h
    unfold sumBit at this
    by_cases h2 : s % 2 = 1
    · simpa only [if_pos h2] using this
    · simpa only [if_neg h2] using this
theorem spec_SumMore_l0 (x : ByteArray) (hx : x.size ≤ 140737488351232) (d : Nat) : ∀ (i : Nat) (s : Int), 0 ≤ s ∧ s < 4294967296 → x.size - i = d → i ≤ x.size →
    Ev (fun k => spec_SumMore.l0 k s x (i : Int)) (sumL s ((bytesOf x).drop i)) := by
  induction d with
  | zero =>
    intro i s hs hd hi
    refine ev_succ ?_
    simp only [spec_SumMore.l0, if_neg (show ¬ (i : Int) < (x.size : Int) from by omega)]
    rw [bytes_end x i (by omega)]
    exact ev_some rfl
  | succ d ih =>
    intro i s hs hd hi
    refine ev_succ ?_
    have hb := bt_lt x (i : Int)
    simp only [spec_SumMore.l0, if_pos (show (i : Int) < (x.size : Int) from by omega), if_pos (show (0 : Int) ≤ (i : Int) from by omega), Int.emod_eq_of_lt hb.1 (show bt x (i : Int) < 4294967296 from by omega)]
    rw [bytes_drop x i (by omega)]
    exact spec_SumMore_l1 x i (by omega) hx _ 8 _ 0 (b_xor_range _ _) rfl (ih (i + 1) _ (sumByte_range s _) (by omega) (by omega))
theorem spec_SumMore_ev (s : Int) (x : ByteArray) (hs : 0 ≤ s ∧ s < 4294967296) (hx : x.size ≤ 140737488351232) : Ev (fun k => spec_SumMore.f k s x) (sumL s (bytesOf x)) := by
  simpa [spec_SumMore.f] using spec_SumMore_l0 x hx _ 0 s hs rfl (by omega)
theorem impl_SumMore_l1 (x : ByteArray) (i : Nat) (hi : i < x.size) (hx : x.size ≤ 140737488351232) (r : Int) (n : Nat) : ∀ (s : Int) (j : Nat), 0 ≤ s ∧ s < 4294967296 → j + n = 8 →
    Ev (fun k => impl_SumMore.l0 k (sumBits n s) x (x.size : Int) ((i + 1 : Nat) : Int)) r → Ev (fun k => impl_SumMore.l1 k s x (x.size : Int) (i : Int) (j : Int)) r := by
  induction n with
  | zero =>
    intro s j hs hj h
    refine ev_succ ?_
    simp only [impl_SumMore.l1, if_neg (show ¬ (j : Int) < 8 from by omega), wn i hi (by omega)]
    exact h
  | succ n ih =>
    intro s j hs hj h
    refine ev_succ ?_
    simp only [impl_SumMore.l1, if_pos (show (j : Int) < 8 from by omega), b_and1 s hs.1 hs.2, wn j (show j < 8 from by omega) (by omega)]
    have := ih (sumBit s) (j + 1) (sumBit_range hs) (by omega) h
    unfold sumBit at this
    by_cases h2 : s % 2 = 1
    · simpa only [if_pos h2] using this
    · simpa only [if_neg h2] using this
theorem impl_SumMore_l0 (x : ByteArray) (hx : x.size ≤ 140737488351232) (d : Nat) : ∀ (i : Nat) (s : Int), 0 ≤ s ∧ s < 4294967296 → x.size - i = d → i ≤ x.size →
    Ev (fun k => impl_SumMore.l0 k s x (x.size : Int) (i : Int)) (sumL s ((bytesOf x).drop i)) := by
  induction d with
  | zero =>
    intro i s hs hd hi
    refine ev_succ ?_
    simp only [impl_SumMore.l0, if_neg (show ¬ (i : Int) < (x.size : Int) from by omega)]
    rw [bytes_end x i (by omega)]
    exact ev_some rfl
  | succ d ih =>
    intro i s hs hd hi
    refine ev_succ ?_
    have hb := bt_lt x (i : Int)
    simp only [impl_SumMore.l0, if_pos (show (i : Int) < (x.size : Int) from by omega), if_pos (show (0 : Int) ≤ (i : Int) from by omega), Int.emod_eq_of_lt hb.1 (show bt x (i : Int) < 4294967296 from by omega)]
    rw [bytes_drop x i (by omega)]
    exact impl_SumMore_l1 x i (by omega) hx _ 8 _ 0 (b_xor_range _ _) rfl (ih (i + 1) _ (sumByte_range s _) (by omega) (by omega))
theorem impl_SumMore_ev (s : Int) (x : ByteArray) (hs : 0 ≤ s ∧ s < 4294967296) (hx : x.size ≤ 140737488351232) : Ev (fun k => impl_SumMore.f k s x) (sumL s (bytesOf x)) := by
  simpa [impl_SumMore.f] using impl_SumMore_l0 x hx _ 0 s hs rfl (by omega)
theorem spec_SumOf_ev (x : ByteArray) (hx : x.size ≤ 140737488351232) : Ev (fun k => spec_SumOf.f k x) (sumOfM x) :=
  Ev.bind (spec_SumMore_ev _ x (by omega) hx) (ev_some rfl)
theorem impl_SumOf_ev (x : ByteArray) (hx : x.size ≤ 140737488351232) : Ev (fun k => impl_SumOf.f k x) (sumOfM x) :=
  Ev.bind (impl_SumMore_ev _ x (by omega) hx) (ev_some rfl)
theorem impl_seal_ev (x : ByteArray) (hx : x.size ≤ 140737488351232) : Ev (fun k => impl_seal.f k x) (fourS (sumOfM x)) :=
  Ev.bind (impl_SumOf_ev x hx) (ev_some rfl)
theorem spec_l02Four_eq (s : Int) : spec_l02Four.f s = some (fourS s) := rfl

/-! seal -/
theorem spec_Sealed_ev (x : ByteArray) : Ev (fun k => spec_Sealed.f k x) (sealedM x) := by
  unfold spec_Sealed.f sealedM
  by_cases h : (x.size : Int) > 20000
  · simp only [if_pos h]
    exact ev_some rfl
  · simp only [if_neg h]
    refine Ev.bind (spec_SumOf_ev x (by omega)) ?_
    have h1 := fourS_size (sumOfM x)
    simp only [spec_l02Four_eq, Option.bind_some, if_pos (show x.size + (fourS (sumOfM x)).size ≤ 9223372036854775807 from by omega)]
    exact ev_some rfl
theorem impl_Sealed_ev (x : ByteArray) : Ev (fun k => impl_Sealed.f k x) (sealedM x) := by
  unfold impl_Sealed.f sealedM
  by_cases h : (x.size : Int) > 20000
  · simp only [if_pos h]
    exact ev_some rfl
  · simp only [if_neg h]
    refine Ev.bind (impl_seal_ev x (by omega)) ?_
    have h1 := fourS_size (sumOfM x)
    simp only [if_pos (show x.size + (fourS (sumOfM x)).size ≤ 9223372036854775807 from by omega)]
    exact ev_some rfl

/-! frametext -/
theorem spec_FrameText_ev (a b : Int) (c : ByteArray) : Ev (fun k => spec_FrameText.f k a b c) (frameTextM a b c) := by
  unfold spec_FrameText.f frameTextM
  simp only [spec_FrameOk_eq, Option.bind_some]
  by_cases h : frameOkM a b c = true
  · simp only [if_pos h]
    have hr := of_decide_eq_true h
    have s1 := varS_size a.toNat
    have s2 := varS_size b.toNat
    have s3 := varS_size c.size
    have l1 := varL_length a.toNat
    have l2 := varL_length b.toNat
    have l3 := varL_length c.size
    refine Ev.bind (spec_l01Var_ev' a (by omega) (by omega)) ?_
    refine Ev.bind (spec_l01Var_ev' b (by omega) (by omega)) ?_
    simp only [if_pos (show (varS a.toNat).size + (varS b.toNat).size ≤ 9223372036854775807 from by omega)]
    refine Ev.bind (spec_l01Var_ev c.size (by omega)) ?_
    simp only [size_append, if_pos (show (varS a.toNat).size + (varS b.toNat).size + (varS c.size).size ≤ 9223372036854775807 from by omega), if_pos (show (varS a.toNat).size + (varS b.toNat).size + (varS c.size).size + c.size ≤ 9223372036854775807 from by omega)]
    exact Ev.bind (spec_Sealed_ev _) (ev_some rfl)
  · simp only [if_neg h]
    exact ev_some rfl
theorem impl_FrameText_ev (a b : Int) (c : ByteArray) : Ev (fun k => impl_FrameText.f k a b c) (frameTextM a b c) := by
  unfold impl_FrameText.f frameTextM
  simp only [impl_FrameOk_eq, Option.bind_some]
  by_cases h : frameOkM a b c = true
  · simp only [if_pos h]
    have hr := of_decide_eq_true h
    have s1 := varS_size a.toNat
    have s2 := varS_size b.toNat
    have s3 := varS_size c.size
    have l1 := varL_length a.toNat
    have l2 := varL_length b.toNat
    have l3 := varL_length c.size
    refine Ev.bind (impl_varText_ev' a (by omega) (by omega)) ?_
    refine Ev.bind (impl_varText_ev' b (by omega) (by omega)) ?_
    simp only [if_pos (show (varS a.toNat).size + (varS b.toNat).size ≤ 9223372036854775807 from by omega)]
    refine Ev.bind (impl_varText_ev c.size (by omega)) ?_
    simp only [size_append, if_pos (show (varS a.toNat).size + (varS b.toNat).size + (varS c.size).size ≤ 9223372036854775807 from by omega), if_pos (show (varS a.toNat).size + (varS b.toNat).size + (varS c.size).size + c.size ≤ 9223372036854775807 from by omega)]
    exact Ev.bind (impl_Sealed_ev _) (ev_some rfl)
  · simp only [if_neg h]
    exact ev_some rfl

/-! readframe -/
theorem spec_ReadFrame_ev (x : ByteArray) (hx : x.size ≤ 140737488351232) (a : Int) : Ev (fun k => spec_ReadFrame.f k x a) (readFrameM x a) := by
  unfold spec_ReadFrame.f readFrameM
  refine Ev.bind (spec_ReadVar_ev x hx a) ?_
  refine Ev.bind (spec_ReadVar_ev x hx _) ?_
  refine Ev.bind (spec_ReadShort_ev x hx _) ?_
  obtain ⟨i1, i2, i3, i4, i5⟩ := readVarM_range x a
  obtain ⟨j1, j2, j3, j4, j5⟩ := readVarM_range x (readVarM x a).2.1
  obtain ⟨k1, k2, k3, k4⟩ := readShortM_range x (readVarM x (readVarM x a).2.1).2.1
  obtain ⟨⟨b, e3, ok3⟩, hv3⟩ : ∃ v, readShortM x (readVarM x (readVarM x a).2.1).2.1 = v := ⟨_, rfl⟩
  obtain ⟨⟨n2, e2, ok2⟩, hv2⟩ : ∃ v, readVarM x (readVarM x a).2.1 = v := ⟨_, rfl⟩
  obtain ⟨⟨n1, e1, ok1⟩, hv1⟩ : ∃ v, readVarM x a = v := ⟨_, rfl⟩
  simp only [hv1] at *
  simp only [hv2] at *
  simp only [hv3] at *
  rw [w64 (x := (x.size : Int) - 4) (by omega) (by omega)]
  refine ev_if (fun c1 => ?_) (fun c1 => ?_)
  rotate_left
  · refine ev_succ ?_
    simp only [spec_ReadFrame.j0, if_true, c1, false_and, if_false]
    exact ev_some rfl
  refine ev_if (fun c2 => ?_) (fun c2 => ?_)
  rotate_left
  · refine ev_succ ?_
    simp only [spec_ReadFrame.j0, if_true, c1, c2, false_and, and_false, if_false]
    exact ev_some rfl
  refine ev_if (fun c3 => ?_) (fun c3 => ?_)
  rotate_left
  · refine ev_succ ?_
    simp only [spec_ReadFrame.j0, if_true, c1, c2, c3, false_and, and_false, if_false]
    exact ev_some rfl
  have a0 := (i5 c1).1
  have a1 := (i5 c1).2
  have a2 := (j5 c2).2
  have a3 := (k4 c3).2
  refine ev_if (fun c4 => ?_) (fun c4 => ?_)
  · refine ev_succ ?_
    simp only [spec_ReadFrame.j0, if_true]
    rw [if_neg (fun h => absurd h.2.2.1 (by omega))]
    exact ev_some rfl
  refine ev_succ ?_
  simp only [spec_ReadFrame.j0, decide_eq_false (show ¬ a < 0 from by omega), Bool.false_eq_true, if_false]
  refine Ev.bind (spec_FrameText_ev n1 n2 b) ?_
  by_cases hok : frameOkM n1 n2 b = true
  · have ht := frameTextM_ok n1 n2 b hok
    have ht2 : (frameTextM n1 n2 b).2 = true := by rw [ht]
    rw [w64 (x := e3 + 4) (by omega) (by omega)]
    simp only [if_pos ht2, if_pos a0, if_pos (show a ≤ e3 + 4 from by omega), if_pos (show e3 + 4 ≤ (x.size : Int) from by omega), tl_iff]
    refine ev_if (fun c5 => ?_) (fun c5 => ?_)
    · rw [if_pos ⟨⟨c1, c2, c3⟩, hok, by omega, c5.symm⟩]
      exact ev_some rfl
    · rw [if_neg (fun h => c5 h.2.2.2.symm)]
      exact ev_some rfl
  · have ht2 : ¬ (frameTextM n1 n2 b).2 = true := by unfold frameTextM; rw [if_neg hok]; simp
    simp only [if_neg ht2]
    rw [if_neg (fun h => hok h.2.1)]
    exact ev_some rfl
theorem impl_ReadFrame_ev (x : ByteArray) (hx : x.size ≤ 140737488351232) (a : Int) : Ev (fun k => impl_ReadFrame.f k x a) (readFrameM x a) := by
  unfold impl_ReadFrame.f readFrameM
  refine Ev.bind (impl_ReadVar_ev x hx a) ?_
  refine Ev.bind (impl_ReadVar_ev x hx _) ?_
  refine Ev.bind (impl_ReadShort_ev x hx _) ?_
  obtain ⟨i1, i2, i3, i4, i5⟩ := readVarM_range x a
  obtain ⟨j1, j2, j3, j4, j5⟩ := readVarM_range x (readVarM x a).2.1
  obtain ⟨k1, k2, k3, k4⟩ := readShortM_range x (readVarM x (readVarM x a).2.1).2.1
  obtain ⟨⟨b, e3, ok3⟩, hv3⟩ : ∃ v, readShortM x (readVarM x (readVarM x a).2.1).2.1 = v := ⟨_, rfl⟩
  obtain ⟨⟨n2, e2, ok2⟩, hv2⟩ : ∃ v, readVarM x (readVarM x a).2.1 = v := ⟨_, rfl⟩
  obtain ⟨⟨n1, e1, ok1⟩, hv1⟩ : ∃ v, readVarM x a = v := ⟨_, rfl⟩
  simp only [hv1] at *
  simp only [hv2] at *
  simp only [hv3] at *
  simp only [impl_FrameOk_eq, Option.bind_some]
  rw [w64 (x := (x.size : Int) - e3) (by omega) (by omega)]
  refine ev_if (fun c1 => ?_) (fun c1 => ?_)
  rotate_left
  · refine ev_succ ?_
    simp only [impl_ReadFrame.j0, if_true, c1, false_and, if_false]
    exact ev_some rfl
  refine ev_if (fun c2 => ?_) (fun c2 => ?_)
  rotate_left
  · refine ev_succ ?_
    simp only [impl_ReadFrame.j0, if_true, c1, c2, false_and, and_false, if_false]
    exact ev_some rfl
  refine ev_if (fun c3 => ?_) (fun c3 => ?_)
  rotate_left
  · refine ev_succ ?_
    simp only [impl_ReadFrame.j0, if_true, c1, c2, c3, false_and, and_false, if_false]
    exact ev_some rfl
  have a0 := (i5 c1).1
  have a1 := (i5 c1).2
  have a2 := (j5 c2).2
  have a3 := (k4 c3).2
  refine ev_if (fun hok => ?_) (fun hok => ?_)
  rotate_left
  · refine ev_succ ?_
    simp only [impl_ReadFrame.j0, if_true]
    rw [if_neg (fun h => hok h.2.1)]
    exact ev_some rfl
  by_cases c4 : (x.size : Int) - e3 < 4
  · rw [if_neg (fun h => absurd h.2.2.1 (by omega))]
    refine ev_succ ?_
    simp only [impl_ReadFrame.j0, decide_eq_true c4, if_true]
    exact ev_some rfl
  refine ev_succ ?_
  simp only [impl_ReadFrame.j0, decide_eq_false c4, Bool.false_eq_true, if_false]
  refine Ev.bind (impl_FrameText_ev n1 n2 b) ?_
  rw [w64 (x := e3 + 4) (by omega) (by omega)]
  simp only [if_pos a0, if_pos (show a ≤ e3 + 4 from by omega), if_pos (show e3 + 4 ≤ (x.size : Int) from by omega), tl_iff]
  refine ev_if (fun c5 => ?_) (fun c5 => ?_)
  · rw [if_pos ⟨⟨c1, c2, c3⟩, hok, by omega, c5⟩]
    exact ev_some rfl
  · rw [if_neg (fun h => c5 h.2.2.2)]
    exact ev_some rfl

/-! scanframes -/
def toS (p : Int × Int × ByteArray) : S47 := ⟨p.1, p.2.1, p.2.2⟩
theorem spec_ScanFrames_l0 (x : ByteArray) (hx : x.size ≤ 1048576) (g : Int) (f : Nat) : ∀ (a : Int) (acc : List S47), 0 ≤ a → a ≤ (x.size : Int) → (x.size : Int) - a < (f : Int) → acc.length ≤ a →
    Ev (fun k => spec_ScanFrames.l0 k x g acc a) (acc ++ (scanGo x g f a).1.map toS, (scanGo x g f a).2) := by
  induction f with
  | zero => intro a acc h0 h1 h2; omega
  | succ f ih =>
    intro a acc h0 h1 h2 h3
    refine ev_succ ?_
    simp only [spec_ScanFrames.l0]
    refine Ev.bind (spec_ReadFrame_ev x (by omega) a) ?_
    unfold scanGo
    refine ev_if (fun c1 => ?_) (fun c1 => ?_)
    · rw [if_pos c1]
      obtain ⟨b0, b1, b2⟩ := readFrameM_adv x a c1
      refine ev_if (fun c2 => ?_) (fun c2 => ?_)
      · rw [if_pos c2]
        refine ev_if (fun _ => ?_) (fun h => absurd (by omega) h)
        have := ih (readFrameM x a).2.2.2.1 (acc ++ [toS ((readFrameM x a).1, (readFrameM x a).2.1, (readFrameM x a).2.2.1)]) (by omega) b2 (by omega) (by simp; omega)
        simpa [toS] using this
      · rw [if_neg c2]
        exact ev_some (by simp)
    · rw [if_neg c1]
      exact ev_some (by simp)
theorem spec_ScanFrames_ev (x : ByteArray) (hx : x.size ≤ 1048576) (g : Int) : Ev (fun k => spec_ScanFrames.f k x g) ((scanM x g).1.map toS, (scanM x g).2) := by
  unfold spec_ScanFrames.f scanM
  simpa using spec_ScanFrames_l0 x hx g (x.size + 1) 0 [] (by omega) (by omega) (by omega) (by simp)
theorem impl_ScanFrames_l0 (x : ByteArray) (hx : x.size ≤ 1048576) (g : Int) (f : Nat) : ∀ (a : Int) (acc : List S47), 0 ≤ a → a ≤ (x.size : Int) → (x.size : Int) - a < (f : Int) → acc.length ≤ a →
    Ev (fun k => impl_ScanFrames.l0 k x g acc a) (acc ++ (scanGo x g f a).1.map toS, (scanGo x g f a).2) := by
  induction f with
  | zero => intro a acc h0 h1 h2; omega
  | succ f ih =>
    intro a acc h0 h1 h2 h3
    refine ev_succ ?_
    simp only [impl_ScanFrames.l0]
    refine Ev.bind (impl_ReadFrame_ev x (by omega) a) ?_
    unfold scanGo
    refine ev_if (fun c1 => ?_) (fun c1 => ?_)
    · rw [if_pos c1]
      obtain ⟨b0, b1, b2⟩ := readFrameM_adv x a c1
      refine ev_if (fun c2 => ?_) (fun c2 => ?_)
      · rw [if_pos c2]
        refine ev_if (fun _ => ?_) (fun h => absurd (by omega) h)
        have := ih (readFrameM x a).2.2.2.1 (acc ++ [toS ((readFrameM x a).1, (readFrameM x a).2.1, (readFrameM x a).2.2.1)]) (by omega) b2 (by omega) (by simp; omega)
        simpa [toS] using this
      · rw [if_neg c2]
        exact ev_some (by simp)
    · rw [if_neg c1]
      exact ev_some (by simp)
theorem impl_ScanFrames_ev (x : ByteArray) (hx : x.size ≤ 1048576) (g : Int) : Ev (fun k => impl_ScanFrames.f k x g) ((scanM x g).1.map toS, (scanM x g).2) := by
  unfold impl_ScanFrames.f scanM
  simpa using impl_ScanFrames_l0 x hx g (x.size + 1) 0 [] (by omega) (by omega) (by omega) (by simp)

/-! marktext -/
theorem markText_l0 (n : Nat) : ∀ (acc : ByteArray), n ≤ 1000000000000 → acc.size + n ≤ 4000000000000000000 → ∃ t, Ev (fun k => laws_markText.l0 k (n : Int) acc) t := by
  induction n using Nat.strongRecOn with
  | _ n ih =>
    intro acc hn ha
    by_cases h : 0 < n
    · have e1 : wrap64 (Int.tdiv (n : Int) 10) = ((n / 10 : Nat) : Int) := by
        rw [Int.tdiv_eq_ediv_of_nonneg (by omega), w64 (by omega) (by omega)]; omega
      obtain ⟨t, ht⟩ := ih (n / 10) (by omega) (strOfNums [(wrap64 (48 + Int.tmod (n : Int) 10)) % 256] ++ acc) (by omega) (by rw [size_append, strOfNums_size]; simp; omega)
      refine ⟨t, ev_succ ?_⟩
      have s1 : (strOfNums [(wrap64 (48 + Int.tmod (n : Int) 10)) % 256]).size = 1 := strOfNums_size _
      simp only [laws_markText.l0, if_pos (show (n : Int) > 0 from by omega), Option.bind_some, s1, if_pos (show 1 + acc.size ≤ 9223372036854775807 from by omega), e1]
      exact ht
    · refine ⟨(⟨#[109]⟩ : ByteArray) ++ acc, ev_succ ?_⟩
      simp only [laws_markText.l0, if_neg (show ¬ (n : Int) > 0 from by omega), if_pos (show 1 + acc.size ≤ 9223372036854775807 from by omega)]
      exact ev_some rfl
theorem markText_some (k : Int) (h0 : 0 ≤ k) (h1 : k ≤ 1000000000000) : ∃ t, Ev (fun n => laws_markText.f n k) t := by
  unfold laws_markText.f
  obtain ⟨n, rfl⟩ := Int.eq_ofNat_of_zero_le h0
  by_cases h : (n : Int) ≤ 0
  · simp only [if_pos h]; exact ⟨_, ev_some rfl⟩
  · simp only [if_neg h]
    exact markText_l0 n _ (by omega) (by have : (⟨#[]⟩ : ByteArray).size = 0 := rfl; omega)
/-- The text that marks a place. -/
noncomputable def markT (k : Int) : ByteArray := by
  classical exact if h : ∃ t, Ev (fun n => laws_markText.f n k) t then h.choose else (⟨#[]⟩ : ByteArray)
theorem markText_ev (k : Int) (h0 : 0 ≤ k) (h1 : k ≤ 1000000000000) : Ev (fun n => laws_markText.f n k) (markT k) := by
  have h := markText_some k h0 h1
  unfold markT
  rw [dif_pos h]
  exact h.choose_spec

/-! eqframe -/
theorem eqFrame_same (a b : Int) (c : ByteArray) : laws_eqFrame.f a b c a b c = some true := by
  unfold laws_eqFrame.f
  simp

/-! markframes -/
theorem eqFrameS_l0 (l : List S47) (hl : l.length ≤ 140737488355328) (d : Nat) : ∀ i : Nat, l.length - i = d → i ≤ l.length → Ev (fun k => laws_eqFrameS.l0 k l l (i : Int)) true := by
  induction d with
  | zero =>
    intro i hd hi
    refine ev_succ ?_
    simp only [laws_eqFrameS.l0, if_neg (show ¬ (i : Int) < (l.length : Int) from by omega)]
    exact ev_some rfl
  | succ d ih =>
    intro i hd hi
    refine ev_succ ?_
    simp only [laws_eqFrameS.l0, if_pos (show (i : Int) < (l.length : Int) from by omega), if_pos (show (0 : Int) ≤ (i : Int) from by omega), eqFrame_same, Option.bind_some, if_true, wn i (show i < l.length from by omega) (by omega)]
    exact ih (i + 1) (by omega) (by omega)
theorem eqFrameS_same (l : List S47) (hl : l.length ≤ 140737488355328) : Ev (fun k => laws_eqFrameS.f k l l) true := by
  unfold laws_eqFrameS.f
  simp only [if_true]
  exact eqFrameS_l0 l hl _ 0 rfl (by omega)
noncomputable def markedF : Nat → Int → List S47
  | 0, _ => []
  | n + 1, k => ⟨k, k + 1, markT (k + 2)⟩ :: markedF n (k + 3)
theorem markedF_snoc (n : Nat) : ∀ k, markedF (n + 1) k = markedF n k ++ [⟨k + 3 * n, k + 3 * n + 1, markT (k + 3 * n + 2)⟩] := by
  induction n with
  | zero => intro k; simp [markedF]
  | succ n ih =>
    intro k
    rw [markedF, ih (k + 3)]
    simp only [markedF, List.cons_append]
    have e : k + 3 + 3 * (n : Int) = k + 3 * ((n + 1 : Nat) : Int) := by omega
    rw [e]
theorem markedF_length (n : Nat) : ∀ k, (markedF n k).length = n := by
  induction n with
  | zero => intro k; rfl
  | succ n ih => intro k; simp [markedF, ih]
theorem rd_set_F (l : List S47) (i : Nat) (v : S47) (h : i < l.length) : rd_T47 (l.set i v) (i : Int) = v := by
  unfold rd_T47
  rw [List.getD_eq_getElem?_getD, Int.toNat_natCast, List.getElem?_set_self h]
  rfl
theorem markFrameS_l0 (n : Nat) (hn : n ≤ 100000000000) (d : Nat) : ∀ (i : Nat) (rest : List S47), rest.length = d → i + d = n →
    Ev (fun k => laws_markFrameS.l0 k (markedF i 1 ++ rest) (1 + 3 * (i : Int)) (i : Int)) (1 + 3 * (n : Int), markedF n 1) := by
  induction d with
  | zero =>
    intro i rest hr hi
    obtain rfl : rest = [] := List.eq_nil_of_length_eq_zero hr
    obtain rfl : i = n := by omega
    refine ev_succ ?_
    simp only [laws_markFrameS.l0, List.append_nil, markedF_length, if_neg (show ¬ (i : Int) < (i : Int) from by omega)]
    exact ev_some rfl
  | succ d ih =>
    intro i rest hr hi
    obtain ⟨x, rest, rfl⟩ : ∃ x t, rest = x :: t := by cases rest with | nil => simp at hr | cons x t => exact ⟨x, t, rfl⟩
    have hr' : rest.length = d := by simpa using hr
    refine ev_succ ?_
    have hlen : (markedF i 1 ++ x :: rest).length = n := by simp [markedF_length]; omega
    have g0 : (i : Int) < ((markedF i 1 ++ x :: rest).length : Int) := by omega
    have g1 : (0 : Int) ≤ (i : Int) := by omega
    have g2 : i < (markedF i 1 ++ x :: rest).length := by omega
    have q1 : -9223372036854775808 ≤ 1 + 3 * (i : Int) + 1 ∧ 1 + 3 * (i : Int) + 1 ≤ 9223372036854775807 := by omega
    have q2 : -9223372036854775808 ≤ 1 + 3 * (i : Int) + 1 + 1 ∧ 1 + 3 * (i : Int) + 1 + 1 ≤ 9223372036854775807 := by omega
    have q3 : -9223372036854775808 ≤ 1 + 3 * (i : Int) + 1 + 1 + 1 ∧ 1 + 3 * (i : Int) + 1 + 1 + 1 ≤ 9223372036854775807 := by omega
    have q4 : 0 ≤ 1 + 3 * (i : Int) + 1 + 1 ∧ 1 + 3 * (i : Int) + 1 + 1 ≤ 1000000000000 := by omega
    have q5 : n ≤ 140737488355328 := by omega
    have q6 : i < n := by omega
    have q7 : 1 + 3 * (i : Int) + 1 + 1 + 1 = 1 + 3 * ((i + 1 : Nat) : Int) := by omega
    have q8 : i + 1 + d = n := by omega
    have e4 : wrap64 ((i : Int) + 1) = ((i + 1 : Nat) : Int) := wn i q6 q5
    have hrd : ∀ v, rd_T47 ((markedF i 1 ++ x :: rest).set i v) (i : Int) = v := fun v => rd_set_F _ i v g2
    have hst : ∀ v, (markedF i 1 ++ x :: rest).set i v = markedF i 1 ++ v :: rest := fun v => by
      rw [List.set_append_right _ _ (by rw [markedF_length]; exact Nat.le_refl _), markedF_length, Nat.sub_self]; rfl
    simp only [laws_markFrameS.l0, if_pos g0, if_pos g1, Option.bind_some, Int.toNat_natCast, List.set_set, hrd, w64 q1.1 q1.2, w64 q2.1 q2.2, w64 q3.1 q3.2, e4]
    clear e4
    refine Ev.bind (markText_ev _ q4.1 q4.2) ?_
    have := ih (i + 1) rest hr' q8
    rw [markedF_snoc] at this
    simp only [hst]
    rw [q7]
    have q9 : (1 : Int) + 3 * (i : Int) + 1 + 1 = 1 + 3 * (i : Int) + 2 := by omega
    rw [q9]
    simpa using this
theorem markFrameS_ev (l : List S47) (hn : l.length ≤ 100000000000) : Ev (fun k => laws_markFrameS.f k l 1) (1 + 3 * (l.length : Int), markedF l.length 1) := by
  unfold laws_markFrameS.f
  simpa [markedF] using markFrameS_l0 l.length hn l.length 0 l rfl (by omega)
theorem markedF_at (n : Nat) : ∀ (k : Int) (i : Nat), i < n → rd_T47 (markedF n k) (i : Int) = ⟨k + 3 * i, k + 3 * i + 1, markT (k + 3 * i + 2)⟩ := by
  induction n with
  | zero => intro k i h; omega
  | succ n ih =>
    intro k i h
    unfold rd_T47
    rw [Int.toNat_natCast]
    cases i with
    | zero => simp [markedF]
    | succ i =>
      have := ih (k + 3) i (by omega)
      unfold rd_T47 at this
      rw [Int.toNat_natCast] at this
      rw [markedF]
      simp only [List.getD_cons_succ]
      rw [this]
      have e : k + 3 + 3 * (i : Int) = k + 3 * ((i + 1 : Nat) : Int) := by omega
      rw [e]
theorem heldFrameS_l0 (n : Nat) (hn : n ≤ 100000000000) (d : Nat) : ∀ (i : Nat), i + d = n → Ev (fun k => laws_heldFrameS.l0 k (markedF n 1) (1 + 3 * (i : Int)) (i : Int)) (1 + 3 * (n : Int)) := by
  induction d with
  | zero =>
    intro i hi
    obtain rfl : i = n := by omega
    refine ev_succ ?_
    simp only [laws_heldFrameS.l0, markedF_length, if_neg (show ¬ (i : Int) < (i : Int) from by omega)]
    exact ev_some rfl
  | succ d ih =>
    intro i hi
    refine ev_succ ?_
    have g0 : (i : Int) < ((markedF n 1).length : Int) := by rw [markedF_length]; omega
    have g1 : (0 : Int) ≤ (i : Int) := by omega
    have q1 : -9223372036854775808 ≤ 1 + 3 * (i : Int) + 1 ∧ 1 + 3 * (i : Int) + 1 ≤ 9223372036854775807 := by omega
    have q2 : -9223372036854775808 ≤ 1 + 3 * (i : Int) + 1 + 1 ∧ 1 + 3 * (i : Int) + 1 + 1 ≤ 9223372036854775807 := by omega
    have q3 : -9223372036854775808 ≤ 1 + 3 * (i : Int) + 1 + 1 + 1 ∧ 1 + 3 * (i : Int) + 1 + 1 + 1 ≤ 9223372036854775807 := by omega
    have q4 : 0 ≤ 1 + 3 * (i : Int) + 1 + 1 ∧ 1 + 3 * (i : Int) + 1 + 1 ≤ 1000000000000 := by omega
    have q5 : n ≤ 140737488355328 := by omega
    have q6 : i < n := by omega
    have q7 : 1 + 3 * (i : Int) + 1 + 1 + 1 = 1 + 3 * ((i + 1 : Nat) : Int) := by omega
    have q8 : i + 1 + d = n := by omega
    have q9 : (1 : Int) + 3 * (i : Int) + 2 = 1 + 3 * (i : Int) + 1 + 1 := by omega
    have e4 : wrap64 ((i : Int) + 1) = ((i + 1 : Nat) : Int) := wn i q6 q5
    simp only [laws_heldFrameS.l0, if_pos g0, if_pos g1, markedF_at n 1 i q6, q9, if_true, w64 q1.1 q1.2, w64 q2.1 q2.2, w64 q3.1 q3.2, e4]
    clear e4
    refine Ev.bind (markText_ev _ q4.1 q4.2) ?_
    simp only [if_true, q7]
    exact ih (i + 1) q8
theorem heldFrameS_ev (n : Nat) (hn : n ≤ 100000000000) : Ev (fun k => laws_heldFrameS.f k (markedF n 1) 1) (1 + 3 * (n : Int)) := by
  unfold laws_heldFrameS.f
  exact heldFrameS_l0 n hn n 0 (by omega)

theorem FnExactScanFrames : laws_FnExactScanFrames.Pure := by
  intro x g hx hg
  refine Ev.rounds ?_
  unfold laws_FnExactScanFrames.f
  by_cases hz : (x.size : Int) > 1048576
  · simp only [if_pos hz]
    exact ev_some rfl
  · simp only [if_neg hz]
    have hx' : x.size ≤ 1048576 := by omega
    have hlen := scanGo_length x g (x.size + 1) 0 (by omega) (by omega)
    obtain ⟨l, hl⟩ : ∃ l, (scanM x g).1.map toS = l := ⟨_, rfl⟩
    have hn : l.length ≤ 1048576 := by
      rw [← hl, List.length_map]; unfold scanM; omega
    have h1 := spec_ScanFrames_ev x hx' g
    have h2 := impl_ScanFrames_ev x hx' g
    rw [hl] at h1 h2
    refine Ev.bind h1 ?_
    refine Ev.bind h2 ?_
    refine Ev.bind (eqFrameS_same l (by omega)) ?_
    simp only [if_true, bne_self_eq_false]
    refine ev_succ ?_
    simp only [laws_FnExactScanFrames.j0, Bool.false_eq_true, if_false]
    refine Ev.bind (markFrameS_ev l (by omega)) ?_
    refine Ev.bind (heldFrameS_ev l.length (by omega)) ?_
    simp only [if_neg (show ¬ 1 + 3 * (l.length : Int) < 0 from by omega), if_true]
    refine Ev.bind h2 ?_
    refine Ev.bind (eqFrameS_same l (by omega)) ?_
    simp only [if_true, bne_self_eq_false]
    refine ev_succ ?_
    simp only [laws_FnExactScanFrames.j1, Bool.false_eq_true, if_false]
    refine Ev.bind (heldFrameS_ev l.length (by omega)) ?_
    simp only [if_neg (show ¬ 1 + 3 * (l.length : Int) < 0 from by omega), if_true]
    exact ev_some rfl

end Go.Proofs.Ytneffinmiffhpaa.Pure
