/- The pure statement of FnExactFrameItem, over numbers and lists: it is true of every argument; no condition but the bounds that the statement itself names. -/
import Derived.Test.YtagkjeldheiejaaPFnExactFrameItemx11
import Derived.Test.YtagkjeldheiejaaVFnExactFrameItem1
set_option linter.unusedVariables false
set_option linter.unusedSimpArgs false
namespace Go.Proofs.Ytagkjeldheiejaa.Pure
open Go.RowKit Go.Proofs.Ytagkjeldheiejaa.PFnExactFrameItem Go.Proofs.YtagkjeldheiejaaW.PrintWords Go.Proofs.YtagkjeldheiejaaW.PrintLast Go.Proofs.YtagkjeldheiejaaW.PrintMore Go.Proofs.Ytagkjeldheiejaa.Base

/-! in -/
theorem spec_in_eq (a b c : Int) : spec_l01In.f a b c = some (decide (b ≤ a ∧ a ≤ c)) := by
  unfold spec_l01In.f
  by_cases h : a ≥ b <;> by_cases h2 : a ≤ c <;> simp [h, h2] <;> omega
theorem impl_in_eq (a b c : Int) : impl_in.f a b c = some (decide (b ≤ a ∧ a ≤ c)) := by
  unfold impl_in.f
  by_cases h : a ≥ b <;> by_cases h2 : a ≤ c <;> simp [h, h2] <;> omega

/-! var -/
theorem spec_l01Var_l0 (n : Nat) : ∀ (acc : List Int), n < 9223372036854775808 → acc.length + (varL n).length < 140737488355328 →
    Ev (fun k => spec_l01Var.l0 k (n : Int) acc) (strOfNums (acc ++ varL n)) := by
  induction n using Nat.strongRecOn with
  | _ n ih =>
    intro acc hn hl
    refine ev_succ ?_
    by_cases h : 127 < n
    · rw [varL_big h] at hl ⊢
      rw [List.length_cons] at hl
      simp only [spec_l01Var.l0, if_pos (show (n : Int) > 127 from by omega), if_pos (show acc.length < 140737488355328 from by omega)]
      have e1 : wrap64 (Int.tdiv (n : Int) 128) = ((n / 128 : Nat) : Int) := by
        rw [Int.tdiv_eq_ediv_of_nonneg (by omega), w64 (by omega) (by omega)]; omega
      have e2 : wrap64 (Int.tmod (n : Int) 128 + 128) % 256 = ((n % 128 + 128 : Nat) : Int) := by
        rw [Int.tmod_eq_emod_of_nonneg (by omega), w64 (by omega) (by omega)]; omega
      simp only [e1, e2]
      have := ih (n / 128) (by omega) (acc ++ [((n % 128 + 128 : Nat) : Int)]) (by omega) (by simp; omega)
      simpa using this
    · rw [varL_small (by omega)] at hl ⊢
      have hl' : acc.length + 1 < 140737488355328 := by simpa using hl
      simp only [spec_l01Var.l0, if_neg (show ¬ (n : Int) > 127 from by omega), if_pos (show acc.length < 140737488355328 from by omega)]
      rw [show (n : Int) % 256 = (n : Int) from by omega]
      exact ev_some rfl
theorem spec_l01Var_ev (n : Nat) (h : n < 70368744177664) : Ev (fun k => spec_l01Var.f k (n : Int)) (varS n) := by
  have := varL_length n
  simpa [spec_l01Var.f, varS] using spec_l01Var_l0 n [] (by omega) (by simp; omega)
theorem spec_l01Var_ev' (a : Int) (h0 : 0 ≤ a) (h : a < 70368744177664) : Ev (fun k => spec_l01Var.f k a) (varS a.toNat) := by
  obtain ⟨n, rfl⟩ := Int.eq_ofNat_of_zero_le h0
  exact spec_l01Var_ev n (by omega)

/-! readvar -/
theorem or_comm_i64 (x y : Int) : Go.bits .or .i64 x y = Go.bits .or .i64 y x := by
  unfold bits
  simp only [BitVec.or_comm]
theorem shl7 (k : Nat) (hk : k < 5) (v : Int) (hv : 0 ≤ v ∧ v < 128) : shl .i64 v (wrap64 (7 * (k : Int))) = v * 128 ^ k := by
  rw [w64 (by omega) (by omega)]
  unfold shl
  have e : min (7 * (k : Int)).toNat IntKind.i64.bits = 7 * k := by
    have : IntKind.i64.bits = 64 := rfl
    omega
  rw [e, IntKind.wrap_i64]
  have h : k = 0 ∨ k = 1 ∨ k = 2 ∨ k = 3 ∨ k = 4 := by omega
  rcases h with rfl | rfl | rfl | rfl | rfl <;> omega
theorem or7 (k : Nat) (hk : k < 5) (n v : Int) (hn : 0 ≤ n ∧ n < 128 ^ k) (hv : 0 ≤ v ∧ v < 128) : Go.bits .or .i64 n (v * 128 ^ k) = n + v * 128 ^ k := by
  rw [or_comm_i64]
  have h : k = 0 ∨ k = 1 ∨ k = 2 ∨ k = 3 ∨ k = 4 := by omega
  rcases h with rfl | rfl | rfl | rfl | rfl
  · rw [bits_join .i64 63 (by decide) b_wraps_i64 0 (v * 128 ^ 0) n (by omega) (by omega) (by omega) hn.1 (by omega) (by omega)]; omega
  · rw [bits_join .i64 63 (by decide) b_wraps_i64 7 (v * 128 ^ 1) n (by omega) (by omega) (by omega) hn.1 (by omega) (by omega)]; omega
  · rw [bits_join .i64 63 (by decide) b_wraps_i64 14 (v * 128 ^ 2) n (by omega) (by omega) (by omega) hn.1 (by omega) (by omega)]; omega
  · rw [bits_join .i64 63 (by decide) b_wraps_i64 21 (v * 128 ^ 3) n (by omega) (by omega) (by omega) hn.1 (by omega) (by omega)]; omega
  · rw [bits_join .i64 63 (by decide) b_wraps_i64 28 (v * 128 ^ 4) n (by omega) (by omega) (by omega) hn.1 (by omega) (by omega)]; omega
theorem pow5 (k : Nat) (hk : k < 5) (n v : Int) (hn : 0 ≤ n ∧ n < 128 ^ k) (hv : 0 ≤ v ∧ v < 128) : 0 ≤ n + v * 128 ^ k ∧ n + v * 128 ^ k < 128 ^ (k + 1) ∧ 0 ≤ v * 128 ^ k ∧ v * 128 ^ k < 34359738368 ∧ n + v * 128 ^ k < 34359738368 ∧ (128 : Int) ^ k ≤ 268435456 ∧ 0 < (128 : Int) ^ k := by
  have h : k = 0 ∨ k = 1 ∨ k = 2 ∨ k = 3 ∨ k = 4 := by omega
  rcases h with rfl | rfl | rfl | rfl | rfl <;> omega
theorem impl_ReadVar_l0 (x : ByteArray) (hx : x.size ≤ 140737488351232) (a : Nat) (ha : a ≤ x.size) (f : Nat) : ∀ (k : Nat) (n : Int), k + f = 5 → 0 ≤ n ∧ n < 128 ^ k →
    Ev (fun r => impl_ReadVar.l0 r x (a : Int) n (k : Int)) (rvGo x a f k n) := by
  induction f with
  | zero =>
    intro k n hk hn
    refine ev_succ ?_
    simp only [impl_ReadVar.l0, if_neg (show ¬ (k : Int) < 5 from by omega)]
    refine ev_succ ?_
    simp only [impl_ReadVar.j1, Bool.false_eq_true, if_false]
    exact ev_some rfl
  | succ f ih =>
    intro k n hk hn
    refine ev_succ ?_
    have hk1' : k + 1 + f = 5 := by omega
    have e1 : wrap64 ((a : Int) + (k : Int)) = ((a + k : Nat) : Int) := by rw [w64 (by omega) (by omega)]; omega
    simp only [impl_ReadVar.l0, if_pos (show (k : Int) < 5 from by omega), e1]
    refine ev_succ ?_
    unfold rvGo
    by_cases h1 : a + k < x.size
    · have hb := bt_lt x ((a + k : Nat) : Int)
      have hv : 0 ≤ bt x ((a + k : Nat) : Int) % 128 ∧ bt x ((a + k : Nat) : Int) % 128 < 128 := by omega
      have g1 : ((a + k : Nat) : Int) < (x.size : Int) := by omega
      have g2 : (0 : Int) ≤ ((a + k : Nat) : Int) := by omega
      have g3 : (0 : Int) ≤ 7 * (k : Int) := by omega
      have g4 : bt x ((a + k : Nat) : Int) < 9223372036854775808 := by omega
      have g5 : k < 5 := by omega
      have g6 : x.size ≤ 140737488355328 := by omega
      have g7 : -9223372036854775808 ≤ bt x ((a + k : Nat) : Int) ∧ bt x ((a + k : Nat) : Int) ≤ 9223372036854775807 := by omega
      have g8 : -9223372036854775808 ≤ 7 * (k : Int) ∧ 7 * (k : Int) ≤ 9223372036854775807 := by omega
      have g9 : 5 ≤ 140737488355328 := by omega
      have e6 : wrap64 (((a + k : Nat) : Int) + 1) = ((a + k + 1 : Nat) : Int) := wn (a + k) h1 g6
      have e7 : wrap64 ((k : Int) + 1) = ((k + 1 : Nat) : Int) := wn k g5 g9
      have e2 : wrap64 (bt x ((a + k : Nat) : Int)) = bt x ((a + k : Nat) : Int) := w64 g7.1 g7.2
      have e3 : wrap64 (7 * (k : Int)) = 7 * (k : Int) := w64 g8.1 g8.2
      have e4 := shl7 k g5 _ hv
      rw [e3] at e4
      have e5 := or7 k g5 n _ hn hv
      have hp := pow5 k g5 n _ hn hv
      have hk1 : k + 1 + f = 5 := hk1'
      simp only [impl_ReadVar.j1, decide_eq_true g1, if_true, e1, e2, e3, b_and127 _ hb.1 g4, e4, e5, e6, e7, if_pos g2, if_pos g1, if_pos g3, if_pos h1]
      clear e1 e2 e3 e4 e5 e6 e7
      obtain ⟨p, hpp⟩ : ∃ p : Int, (128 : Int) ^ k = p := ⟨_, rfl⟩
      simp only [hpp] at hp ⊢
      by_cases h2 : bt x ((a + k : Nat) : Int) > 127
      · simp only [if_pos h2, if_neg (show ¬ bt x ((a + k : Nat) : Int) < 128 from by omega)]
        exact ih (k + 1) _ hk1 ⟨hp.1, hp.2.1⟩
      · simp only [if_neg h2, if_pos (show bt x ((a + k : Nat) : Int) < 128 from by omega)]
        by_cases h3 : bt x ((a + k : Nat) : Int) = 0
        · by_cases h4 : 0 < k
          · simp only [if_pos h3, if_pos (show (k : Int) > 0 from by omega), if_pos (show (bt x ((a + k : Nat) : Int) = 0 ∧ 0 < k) ∨ n + bt x ((a + k : Nat) : Int) % 128 * p > 1000000000 from .inl ⟨h3, h4⟩)]
            exact ev_some rfl
          · by_cases h5 : n + bt x ((a + k : Nat) : Int) % 128 * p > 1000000000
            · simp only [if_pos h3, if_neg (show ¬ (k : Int) > 0 from by omega), if_pos h5, if_pos (show (bt x ((a + k : Nat) : Int) = 0 ∧ 0 < k) ∨ n + bt x ((a + k : Nat) : Int) % 128 * p > 1000000000 from .inr h5)]
              exact ev_some rfl
            · simp only [if_pos h3, if_neg (show ¬ (k : Int) > 0 from by omega), if_neg h5, if_neg (show ¬ ((bt x ((a + k : Nat) : Int) = 0 ∧ 0 < k) ∨ n + bt x ((a + k : Nat) : Int) % 128 * p > 1000000000) from fun h => h.elim (fun h => h4 h.2) h5)]
              exact ev_some rfl
        · by_cases h5 : n + bt x ((a + k : Nat) : Int) % 128 * p > 1000000000
          · simp only [if_neg h3, if_pos h5, if_pos (show (bt x ((a + k : Nat) : Int) = 0 ∧ 0 < k) ∨ n + bt x ((a + k : Nat) : Int) % 128 * p > 1000000000 from .inr h5)]
            exact ev_some rfl
          · simp only [if_neg h3, if_neg h5, if_neg (show ¬ ((bt x ((a + k : Nat) : Int) = 0 ∧ 0 < k) ∨ n + bt x ((a + k : Nat) : Int) % 128 * p > 1000000000) from fun h => h.elim (fun h => h3 h.1) h5)]
            exact ev_some rfl
    · simp only [impl_ReadVar.j1, decide_eq_false (show ¬ ((a + k : Nat) : Int) < (x.size : Int) from by omega), Bool.false_eq_true, if_false, if_neg h1]
      exact ev_some rfl
theorem impl_ReadVar_ev (x : ByteArray) (hx : x.size ≤ 140737488351232) (a : Int) : Ev (fun r => impl_ReadVar.f r x a) (readVarM x a) := by
  unfold impl_ReadVar.f readVarM
  simp only [impl_in_eq, Option.bind_some]
  by_cases h : 0 ≤ a ∧ a ≤ (x.size : Int)
  · obtain ⟨m, rfl⟩ := Int.eq_ofNat_of_zero_le h.1
    simp only [decide_eq_true h, if_true, if_pos h]
    exact impl_ReadVar_l0 x hx m (by omega) 5 0 0 rfl (by omega)
  · simp only [decide_eq_false h, Bool.false_eq_true, if_false, if_neg h]
    exact ev_some rfl
theorem spec_ReadVar_l0 (x : ByteArray) (hx : x.size ≤ 140737488351232) (a : Nat) (ha : a ≤ x.size) (f : Nat) : ∀ (k : Nat), k + f = 5 → a + k ≤ x.size → (∀ b, b ∈ runL x a k → 128 ≤ b ∧ b < 256) →
    Ev (fun r => spec_ReadVar.l0 r x (a : Int) (valL (runL x a k) : Int) (128 ^ k) ((a + k : Nat) : Int)) (rvGo x a f k (valL (runL x a k) : Int)) := by
  induction f with
  | zero =>
    intro k hk hak hp
    refine ev_succ ?_
    have e0 : wrap64 ((a : Int) + 5) = (a : Int) + 5 := w64 (by omega) (by omega)
    by_cases h1 : ((a + k : Nat) : Int) < (x.size : Int)
    · simp only [spec_ReadVar.l0, if_pos h1, e0, decide_eq_false (show ¬ ((a + k : Nat) : Int) < (a : Int) + 5 from by omega)]
      refine ev_succ ?_
      simp only [spec_ReadVar.j1, Bool.false_eq_true, if_false]
      exact ev_some rfl
    · simp only [spec_ReadVar.l0, if_neg h1]
      refine ev_succ ?_
      simp only [spec_ReadVar.j1, Bool.false_eq_true, if_false]
      exact ev_some rfl
  | succ f ih =>
    intro k hk hak hp
    refine ev_succ ?_
    have e0 : wrap64 ((a : Int) + 5) = (a : Int) + 5 := w64 (by omega) (by omega)
    unfold rvGo
    by_cases h1 : a + k < x.size
    · have hl := runL_length x a k hak
      have hlt := valL_lt (runL x a k)
      rw [hl] at hlt
      have hb := bt_lt x ((a + k : Nat) : Int)
      have e3 : Int.tmod (bt x ((a + k : Nat) : Int)) 128 = bt x ((a + k : Nat) : Int) % 128 := Int.tmod_eq_emod_of_nonneg hb.1
      have hv : 0 ≤ bt x ((a + k : Nat) : Int) % 128 ∧ bt x ((a + k : Nat) : Int) % 128 < 128 := by omega
      have g5 : k < 5 := by omega
      have hn : 0 ≤ (valL (runL x a k) : Int) ∧ (valL (runL x a k) : Int) < 128 ^ k := ⟨by omega, by exact_mod_cast hlt⟩
      have hpw := pow5 k g5 _ _ hn hv
      have g1 : ((a + k : Nat) : Int) < (x.size : Int) := by omega
      have g2 : (0 : Int) ≤ ((a + k : Nat) : Int) := by omega
      have g3 : ((a + k : Nat) : Int) < (a : Int) + 5 := by omega
      have g6 : x.size ≤ 140737488355328 := by omega
      have g7 : -9223372036854775808 ≤ bt x ((a + k : Nat) : Int) ∧ bt x ((a + k : Nat) : Int) ≤ 9223372036854775807 := by omega
      have g10 : (0 : Int) ≤ (a : Int) := by omega
      have g11 : (a : Int) ≤ ((a + (k + 1) : Nat) : Int) := by omega
      have g12 : ((a + (k + 1) : Nat) : Int) ≤ (x.size : Int) := by omega
      have g13 : k + 1 + f = 5 := by omega
      have g14 : a + (k + 1) ≤ x.size := by omega
      have e8 : (valL (runL x a k) : Int) + bt x ((a + k : Nat) : Int) % 128 * 128 ^ k = (valL (runL x a (k + 1)) : Int) := by
        rw [runL_succ x a k h1, valL_snoc, hl]
        have : ((bt x ((a + k : Nat) : Int)).toNat % 128 : Nat) = ((bt x ((a + k : Nat) : Int) % 128).toNat) := by omega
        rw [this]
        obtain ⟨v, hvd⟩ : ∃ v, bt x ((a + k : Nat) : Int) % 128 = v := ⟨_, rfl⟩
        rw [hvd] at hv ⊢
        push_cast
        rw [Int.toNat_of_nonneg hv.1]
      obtain ⟨p, hpp⟩ : ∃ p : Int, (128 : Int) ^ k = p := ⟨_, rfl⟩
      have g8 : -9223372036854775808 ≤ bt x ((a + k : Nat) : Int) % 128 * 128 ^ k ∧ bt x ((a + k : Nat) : Int) % 128 * 128 ^ k ≤ 9223372036854775807 := by rw [hpp] at hpw ⊢; omega
      have g9 : -9223372036854775808 ≤ (valL (runL x a k) : Int) + bt x ((a + k : Nat) : Int) % 128 * 128 ^ k ∧ (valL (runL x a k) : Int) + bt x ((a + k : Nat) : Int) % 128 * 128 ^ k ≤ 9223372036854775807 := by rw [hpp] at hpw ⊢; omega
      have g15 : -9223372036854775808 ≤ (128 : Int) ^ k * 128 ∧ (128 : Int) ^ k * 128 ≤ 9223372036854775807 := by rw [hpp] at hpw ⊢; omega
      have e2 : wrap64 (bt x ((a + k : Nat) : Int)) = bt x ((a + k : Nat) : Int) := w64 g7.1 g7.2
      have e4 : wrap64 (bt x ((a + k : Nat) : Int) % 128 * 128 ^ k) = bt x ((a + k : Nat) : Int) % 128 * 128 ^ k := w64 g8.1 g8.2
      have e5 : wrap64 ((valL (runL x a k) : Int) + bt x ((a + k : Nat) : Int) % 128 * 128 ^ k) = (valL (runL x a k) : Int) + bt x ((a + k : Nat) : Int) % 128 * 128 ^ k := w64 g9.1 g9.2
      have e6 : wrap64 (((a + k : Nat) : Int) + 1) = ((a + (k + 1) : Nat) : Int) := wn (a + k) h1 g6
      have e7 : wrap64 ((128 : Int) ^ k * 128) = 128 ^ (k + 1) := by rw [w64 g15.1 g15.2, Int.pow_succ]
      simp only [spec_ReadVar.l0, if_pos g1, e0, decide_eq_true g3]
      refine ev_succ ?_
      simp only [spec_ReadVar.j1, if_true, if_pos g2, if_pos g1, e2, e3, e4, e5, e6, e7, if_pos h1]
      rw [e8]
      clear e0 e2 e3 e4 e5 e6 e7 e8 g8 g9 g15 hpw hpp
      by_cases h2 : bt x ((a + k : Nat) : Int) < 128
      · simp only [if_pos h2]
        have hc := canon x a k h1 hp h2
        by_cases h5 : (valL (runL x a (k + 1)) : Int) > 1000000000
        · simp only [if_pos h5, if_pos (show (bt x ((a + k : Nat) : Int) = 0 ∧ 0 < k) ∨ (valL (runL x a (k + 1)) : Int) > 1000000000 from .inr h5)]
          exact ev_some rfl
        · simp only [if_neg h5]
          refine Ev.bind (spec_l01Var_ev _ (by omega)) ?_
          simp only [if_pos g10, if_pos g11, if_pos g12, tl_iff, Int.toNat_natCast]
          by_cases h6 : bt x ((a + k : Nat) : Int) = 0 ∧ 0 < k
          · simp only [if_neg (fun h => hc.1 h h6), if_pos (show (bt x ((a + k : Nat) : Int) = 0 ∧ 0 < k) ∨ (valL (runL x a (k + 1)) : Int) > 1000000000 from .inl h6)]
            exact ev_some rfl
          · simp only [if_pos (hc.2 h6), if_neg (show ¬ ((bt x ((a + k : Nat) : Int) = 0 ∧ 0 < k) ∨ (valL (runL x a (k + 1)) : Int) > 1000000000) from fun h => h.elim h6 h5)]
            exact ev_some rfl
      · simp only [if_neg h2]
        refine ih (k + 1) g13 g14 ?_
        intro b hb'
        rw [runL_succ x a k h1] at hb'
        rcases List.mem_append.1 hb' with hb' | hb'
        · exact hp b hb'
        · have := List.mem_singleton.1 hb'
          omega
    · simp only [spec_ReadVar.l0, if_neg (show ¬ ((a + k : Nat) : Int) < (x.size : Int) from by omega)]
      refine ev_succ ?_
      simp only [spec_ReadVar.j1, Bool.false_eq_true, if_false, if_neg h1]
      exact ev_some rfl
theorem spec_ReadVar_ev (x : ByteArray) (hx : x.size ≤ 140737488351232) (a : Int) : Ev (fun r => spec_ReadVar.f r x a) (readVarM x a) := by
  unfold spec_ReadVar.f readVarM
  simp only [spec_in_eq, Option.bind_some]
  by_cases h : 0 ≤ a ∧ a ≤ (x.size : Int)
  · obtain ⟨m, rfl⟩ := Int.eq_ofNat_of_zero_le h.1
    simp only [decide_eq_true h, if_true, if_pos h]
    have := spec_ReadVar_l0 x hx m (by omega) 5 0 rfl (by omega) (by intro b hb; simp [runL] at hb)
    simpa [runL, valL] using this
  · simp only [decide_eq_false h, Bool.false_eq_true, if_false, if_neg h]
    exact ev_some rfl

/-! readshort -/
theorem impl_ReadShort_ev (x : ByteArray) (hx : x.size ≤ 140737488351232) (a : Int) : Ev (fun r => impl_ReadShort.f r x a) (readShortM x a) := by
  unfold impl_ReadShort.f readShortM
  refine Ev.bind (impl_ReadVar_ev x hx a) ?_
  obtain ⟨i1, i2, i3, i4, i5⟩ := readVarM_range x a
  obtain ⟨⟨n, e, ok⟩, hv⟩ : ∃ v, readVarM x a = v := ⟨_, rfl⟩
  simp only [hv] at i1 i2 i3 i4 i5 ⊢
  cases ok with
  | false => simp only [Bool.false_eq_true, if_false, false_and]; exact ev_some rfl
  | true =>
    simp only [if_true, true_and]
    by_cases h1 : n > 20000
    · simp only [if_pos h1, if_neg (show ¬ (n ≤ 20000 ∧ n ≤ (x.size : Int) - e) from by omega)]; exact ev_some rfl
    · rw [w64 (x := (x.size : Int) - e) (by omega) (by omega), w64 (x := e + n) (by omega) (by omega)]
      by_cases h2 : n > (x.size : Int) - e
      · simp only [if_neg h1, if_pos h2, if_neg (show ¬ (n ≤ 20000 ∧ n ≤ (x.size : Int) - e) from by omega)]; exact ev_some rfl
      · simp only [if_neg h1, if_neg h2, if_pos (show n ≤ 20000 ∧ n ≤ (x.size : Int) - e from by omega), if_pos i3, if_pos (show e ≤ e + n from by omega), if_pos (show e + n ≤ (x.size : Int) from by omega)]; exact ev_some rfl
theorem spec_ReadShort_ev (x : ByteArray) (hx : x.size ≤ 140737488351232) (a : Int) : Ev (fun r => spec_ReadShort.f r x a) (readShortM x a) := by
  unfold spec_ReadShort.f readShortM
  refine Ev.bind (spec_ReadVar_ev x hx a) ?_
  obtain ⟨i1, i2, i3, i4, i5⟩ := readVarM_range x a
  obtain ⟨⟨n, e, ok⟩, hv⟩ : ∃ v, readVarM x a = v := ⟨_, rfl⟩
  simp only [hv] at i1 i2 i3 i4 i5 ⊢
  cases ok with
  | false => simp only [Bool.false_eq_true, if_false, false_and]; exact ev_some rfl
  | true =>
    simp only [if_true, true_and]
    by_cases h1 : n > 20000
    · simp only [if_pos h1, if_neg (show ¬ (n ≤ 20000 ∧ n ≤ (x.size : Int) - e) from by omega)]; exact ev_some rfl
    · rw [w64 (x := (x.size : Int) - e) (by omega) (by omega), w64 (x := e + n) (by omega) (by omega)]
      by_cases h2 : n > (x.size : Int) - e
      · simp only [if_neg h1, if_pos h2, if_neg (show ¬ (n ≤ 20000 ∧ n ≤ (x.size : Int) - e) from by omega)]; exact ev_some rfl
      · simp only [if_neg h1, if_neg h2, if_pos (show n ≤ 20000 ∧ n ≤ (x.size : Int) - e from by omega), if_pos i3, if_pos (show e ≤ e + n from by omega), if_pos (show e + n ≤ (x.size : Int) from by omega)]; exact ev_some rfl

/-! wordok -/
theorem spec_WordOk_l0 (x : ByteArray) (hx : x.size ≤ 140737488351232) (d : Nat) : ∀ i : Nat, x.size - i = d → i ≤ x.size →
    Ev (fun k => spec_WordOk.l0 k x (i : Int)) (wordB ((bytesOf x).drop i) && decide (1 ≤ (x.size : Int) ∧ (x.size : Int) ≤ 8)) := by
  induction d with
  | zero =>
    intro i hd hi
    refine ev_succ ?_
    simp only [spec_WordOk.l0, if_neg (show ¬ (i : Int) < (x.size : Int) from by omega), spec_in_eq, Option.bind_some]
    rw [bytes_end x i (by omega)]
    exact ev_some rfl
  | succ d ih =>
    intro i hd hi
    refine ev_succ ?_
    have hl : (i : Int) < (x.size : Int) := by omega
    rw [bytes_drop x i (by omega), wordB_cons]
    simp only [spec_WordOk.l0, if_pos hl, if_pos (show (0 : Int) ≤ (i : Int) from by omega), wn i (show i < x.size from by omega) (by omega)]
    by_cases h1 : bt x (i : Int) < 97
    · simp only [if_pos h1]
      rw [decide_eq_false (by omega)]
      exact ev_some rfl
    · by_cases h2 : bt x (i : Int) > 122
      · simp only [if_neg h1, if_pos h2]
        rw [decide_eq_false (by omega)]
        exact ev_some rfl
      · simp only [if_neg h1, if_neg h2]
        rw [decide_eq_true (by omega)]
        exact ih (i + 1) (by omega) (by omega)
theorem impl_WordOk_l0 (x : ByteArray) (hx : x.size ≤ 140737488351232) (d : Nat) : ∀ i : Nat, x.size - i = d → i ≤ x.size →
    Ev (fun k => impl_WordOk.l0 k x (x.size : Int) (i : Int)) (wordB ((bytesOf x).drop i)) := by
  induction d with
  | zero =>
    intro i hd hi
    refine ev_succ ?_
    simp only [impl_WordOk.l0, if_neg (show ¬ (i : Int) < (x.size : Int) from by omega)]
    rw [bytes_end x i (by omega)]
    exact ev_some rfl
  | succ d ih =>
    intro i hd hi
    refine ev_succ ?_
    have hl : (i : Int) < (x.size : Int) := by omega
    rw [bytes_drop x i (by omega), wordB_cons]
    simp only [impl_WordOk.l0, if_pos hl, if_pos (show (0 : Int) ≤ (i : Int) from by omega), wn i (show i < x.size from by omega) (by omega)]
    by_cases h1 : bt x (i : Int) < 97
    · simp only [if_pos h1]
      rw [decide_eq_false (by omega)]
      exact ev_some rfl
    · by_cases h2 : bt x (i : Int) > 122
      · simp only [if_neg h1, if_pos h2]
        rw [decide_eq_false (by omega)]
        exact ev_some rfl
      · simp only [if_neg h1, if_neg h2]
        rw [decide_eq_true (by omega)]
        exact ih (i + 1) (by omega) (by omega)
theorem spec_WordOk_ev (x : ByteArray) (hx : x.size ≤ 140737488351232) : Ev (fun k => spec_WordOk.f k x) (wordM x) := by
  simpa [spec_WordOk.f, wordM] using spec_WordOk_l0 x hx _ 0 rfl (by omega)
theorem impl_WordOk_ev (x : ByteArray) (hx : x.size ≤ 140737488351232) : Ev (fun k => impl_WordOk.f k x) (wordM x) := by
  simp only [impl_WordOk.f, impl_in_eq, Option.bind_some, wordM]
  by_cases h : 1 ≤ (x.size : Int) ∧ (x.size : Int) ≤ 8
  · simp only [decide_eq_true h, if_true, Bool.and_true]
    simpa using impl_WordOk_l0 x hx _ 0 rfl (by omega)
  · simp only [decide_eq_false h, Bool.false_eq_true, if_false, Bool.and_false]
    exact ev_some rfl

/-! recok -/
theorem spec_RecOk_ev (a0 a1 a2 a3 a4 : Int) (x5 x6 x7 : ByteArray) (h5 : x5.size ≤ 140737488351232) (h6 : x6.size ≤ 140737488351232) : Ev (fun k => spec_RecOk.f k a0 a1 a2 a3 a4 x5 x6 x7) (recOkM a0 a1 a2 a3 a4 x5 x6 x7) := by
  have t5 := tl_nil x5
  have t6 := tl_nil x6
  have t7 := tl_nil x7
  unfold spec_RecOk.f
  simp only [spec_in_eq, Option.bind_some]
  repeat' first
    | refine ev_if (fun _ => ?_) (fun _ => ?_)
    | refine Ev.bind (spec_WordOk_ev _ (by assumption)) ?_
    | refine ev_some ?_
  all_goals (unfold recOkM; grind)
def ri3 (g : Bool) (a0 a1 a2 a3 a4 : Int) (x5 x6 x7 : ByteArray) (b0 b1 b2 b3 b4 : Int) (y5 y6 y7 : ByteArray) : Bool := if a0 = 1 then (if wordM x5 = true then (if wordM x6 = true then (if decide (1 ≤ a3 ∧ a3 ≤ 10000) = true then (b0 == 0 && (b1 == 0 && (b2 == 0 && (b4 == 0 && (y7.toList == ([] : List UInt8)))))) else false) else false) else false) else if a0 = 3 then (if g = true then (if (x7.size : Int) ≤ 100 then (b0 == 0 && (b1 == 0 && (b2 == 0 && (b3 == 0 && (b4 == 0 && ((y5.toList == ([] : List UInt8)) && (y6.toList == ([] : List UInt8)))))))) else false) else false) else if a0 = 2 then (if g = true then (b0 == 0 && (b1 == 0 && (b2 == 0 && (b3 == 0 && (b4 == 0 && ((y5.toList == ([] : List UInt8)) && ((y6.toList == ([] : List UInt8)) && (y7.toList == ([] : List UInt8))))))))) else false) else if a0 = 4 then (if g = true then (b0 == 0 && (b1 == 0 && (b2 == 0 && (b3 == 0 && (b4 == 0 && ((y5.toList == ([] : List UInt8)) && ((y6.toList == ([] : List UInt8)) && (y7.toList == ([] : List UInt8))))))))) else false) else if a0 = 5 then (if g = true then (b0 == 0 && (b1 == 0 && (b2 == 0 && (b3 == 0 && (b4 == 0 && ((y5.toList == ([] : List UInt8)) && ((y6.toList == ([] : List UInt8)) && (y7.toList == ([] : List UInt8))))))))) else false) else false
def ri2 (g t : Bool) (a0 a1 a2 a3 a4 : Int) (x5 x6 x7 : ByteArray) (b0 b1 b2 b3 b4 : Int) (y5 y6 y7 : ByteArray) : Bool := if t = true then (if g = true then ri3 (decide (0 ≤ a4 ∧ a4 ≤ 7)) a0 a1 a2 a3 a4 x5 x6 x7 b0 b1 b2 b3 0 y5 y6 y7 else ri3 false a0 a1 a2 a3 a4 x5 x6 x7 b0 b1 b2 b3 0 y5 y6 y7) else ri3 g a0 a1 a2 a3 a4 x5 x6 x7 b0 b1 b2 b3 b4 y5 y6 y7
def ri1 (g : Bool) (a0 a1 a2 a3 a4 : Int) (x5 x6 x7 : ByteArray) (b0 b1 b2 b3 b4 : Int) (y5 y6 y7 : ByteArray) : Bool := if a0 = 3 then ri2 g true a0 a1 a2 a3 a4 x5 x6 x7 b0 b1 b2 b3 b4 y5 y6 y7 else ri2 g (a0 == 4) a0 a1 a2 a3 a4 x5 x6 x7 b0 b1 b2 b3 b4 y5 y6 y7
def ri0 (g t : Bool) (a0 a1 a2 a3 a4 : Int) (x5 x6 x7 : ByteArray) (b0 b1 b2 b3 b4 : Int) (y5 y6 y7 : ByteArray) : Bool := if t = true then ri1 (decide (1 ≤ a2 ∧ a2 ≤ 9999)) a0 a1 a2 a3 a4 x5 x6 x7 b0 b1 0 b3 b4 y5 y6 y7 else ri1 g a0 a1 a2 a3 a4 x5 x6 x7 b0 b1 b2 b3 b4 y5 y6 y7
def rif (a0 a1 a2 a3 a4 : Int) (x5 x6 x7 : ByteArray) : Bool := if decide (1 ≤ a1 ∧ a1 ≤ 9999) = true then (if a0 = 3 then ri0 true true a0 a1 a2 a3 a4 x5 x6 x7 0 0 a2 a3 a4 x5 x6 x7 else if a0 = 4 then ri0 true true a0 a1 a2 a3 a4 x5 x6 x7 0 0 a2 a3 a4 x5 x6 x7 else ri0 true (a0 == 5) a0 a1 a2 a3 a4 x5 x6 x7 0 0 a2 a3 a4 x5 x6 x7) else false
theorem impl_RecOk_j3 (g : Bool) (a0 a1 a2 a3 a4 : Int) (x5 x6 x7 : ByteArray) (b0 b1 b2 b3 b4 : Int) (y5 y6 y7 : ByteArray) (h5 : x5.size ≤ 140737488351232) (h6 : x6.size ≤ 140737488351232) : Ev (fun k => impl_RecOk.j3 k g a0 a1 a2 a3 a4 x5 x6 x7 b0 b1 b2 b3 b4 y5 y6 y7) (ri3 g a0 a1 a2 a3 a4 x5 x6 x7 b0 b1 b2 b3 b4 y5 y6 y7) := by
  refine ev_succ ?_
  simp only [impl_RecOk.j3, impl_in_eq, Option.bind_some]
  exact ev_ite (Ev.bind (impl_WordOk_ev x5 h5) (ev_ite (Ev.bind (impl_WordOk_ev x6 h6) (ev_ite (ev_ite (ev_some rfl) (ev_some rfl)) (ev_some rfl))) (ev_some rfl))) (ev_ite (ev_ite (ev_ite (ev_some rfl) (ev_some rfl)) (ev_some rfl)) (ev_ite (ev_ite (ev_some rfl) (ev_some rfl)) (ev_ite (ev_ite (ev_some rfl) (ev_some rfl)) (ev_ite (ev_ite (ev_some rfl) (ev_some rfl)) (ev_some rfl)))))
theorem impl_RecOk_j2 (g t : Bool) (a0 a1 a2 a3 a4 : Int) (x5 x6 x7 : ByteArray) (b0 b1 b2 b3 b4 : Int) (y5 y6 y7 : ByteArray) (h5 : x5.size ≤ 140737488351232) (h6 : x6.size ≤ 140737488351232) : Ev (fun k => impl_RecOk.j2 k g t a0 a1 a2 a3 a4 x5 x6 x7 b0 b1 b2 b3 b4 y5 y6 y7) (ri2 g t a0 a1 a2 a3 a4 x5 x6 x7 b0 b1 b2 b3 b4 y5 y6 y7) := by
  refine ev_succ ?_
  simp only [impl_RecOk.j2, impl_in_eq, Option.bind_some]
  exact ev_ite (ev_ite (impl_RecOk_j3 _ a0 a1 a2 a3 a4 x5 x6 x7 _ _ _ _ _ _ _ _ h5 h6) (impl_RecOk_j3 _ a0 a1 a2 a3 a4 x5 x6 x7 _ _ _ _ _ _ _ _ h5 h6)) (impl_RecOk_j3 _ a0 a1 a2 a3 a4 x5 x6 x7 _ _ _ _ _ _ _ _ h5 h6)
theorem impl_RecOk_j1 (g : Bool) (a0 a1 a2 a3 a4 : Int) (x5 x6 x7 : ByteArray) (b0 b1 b2 b3 b4 : Int) (y5 y6 y7 : ByteArray) (h5 : x5.size ≤ 140737488351232) (h6 : x6.size ≤ 140737488351232) : Ev (fun k => impl_RecOk.j1 k g a0 a1 a2 a3 a4 x5 x6 x7 b0 b1 b2 b3 b4 y5 y6 y7) (ri1 g a0 a1 a2 a3 a4 x5 x6 x7 b0 b1 b2 b3 b4 y5 y6 y7) := by
  refine ev_succ ?_
  simp only [impl_RecOk.j1, impl_in_eq, Option.bind_some]
  exact ev_ite (impl_RecOk_j2 _ _ a0 a1 a2 a3 a4 x5 x6 x7 _ _ _ _ _ _ _ _ h5 h6) (impl_RecOk_j2 _ _ a0 a1 a2 a3 a4 x5 x6 x7 _ _ _ _ _ _ _ _ h5 h6)
theorem impl_RecOk_j0 (g t : Bool) (a0 a1 a2 a3 a4 : Int) (x5 x6 x7 : ByteArray) (b0 b1 b2 b3 b4 : Int) (y5 y6 y7 : ByteArray) (h5 : x5.size ≤ 140737488351232) (h6 : x6.size ≤ 140737488351232) : Ev (fun k => impl_RecOk.j0 k g t a0 a1 a2 a3 a4 x5 x6 x7 b0 b1 b2 b3 b4 y5 y6 y7) (ri0 g t a0 a1 a2 a3 a4 x5 x6 x7 b0 b1 b2 b3 b4 y5 y6 y7) := by
  refine ev_succ ?_
  simp only [impl_RecOk.j0, impl_in_eq, Option.bind_some]
  exact ev_ite (impl_RecOk_j1 _ a0 a1 a2 a3 a4 x5 x6 x7 _ _ _ _ _ _ _ _ h5 h6) (impl_RecOk_j1 _ a0 a1 a2 a3 a4 x5 x6 x7 _ _ _ _ _ _ _ _ h5 h6)
theorem impl_rec_same (a0 a1 a2 a3 a4 : Int) (x5 x6 x7 : ByteArray) : rif a0 a1 a2 a3 a4 x5 x6 x7 = recOkM a0 a1 a2 a3 a4 x5 x6 x7 := by
  have t5 := tl_nil x5
  have t6 := tl_nil x6
  have t7 := tl_nil x7
  unfold rif ri0 ri1 ri2 ri3 recOkM
  grind
theorem impl_RecOk_ev (a0 a1 a2 a3 a4 : Int) (x5 x6 x7 : ByteArray) (h5 : x5.size ≤ 140737488351232) (h6 : x6.size ≤ 140737488351232) : Ev (fun k => impl_RecOk.f k a0 a1 a2 a3 a4 x5 x6 x7) (recOkM a0 a1 a2 a3 a4 x5 x6 x7) := by
  rw [← impl_rec_same]
  unfold impl_RecOk.f
  simp only [impl_in_eq, Option.bind_some]
  exact ev_ite (ev_ite (impl_RecOk_j0 _ _ a0 a1 a2 a3 a4 x5 x6 x7 _ _ _ _ _ _ _ _ h5 h6) (ev_ite (impl_RecOk_j0 _ _ a0 a1 a2 a3 a4 x5 x6 x7 _ _ _ _ _ _ _ _ h5 h6) (impl_RecOk_j0 _ _ a0 a1 a2 a3 a4 x5 x6 x7 _ _ _ _ _ _ _ _ h5 h6))) (ev_some rfl)

/-! rectext -/
theorem spec_l06Short_ev (x : ByteArray) (h : x.size ≤ 1000000) : Ev (fun k => spec_l06Short.f k x) (varS x.size ++ x) := by
  unfold spec_l06Short.f
  refine Ev.bind (spec_l01Var_ev _ (by omega)) ?_
  have := varS_small x.size (by omega)
  simp only [if_pos (show (varS x.size).size + x.size ≤ 9223372036854775807 from by omega)]
  exact ev_some rfl
theorem spec_RecText_ev (a0 a1 a2 a3 a4 : Int) (x5 x6 x7 : ByteArray) (h5 : x5.size ≤ 140737488351232) (h6 : x6.size ≤ 140737488351232) : Ev (fun k => spec_RecText.f k a0 a1 a2 a3 a4 x5 x6 x7) (recTextM a0 a1 a2 a3 a4 x5 x6 x7) := by
  unfold spec_RecText.f recTextM
  refine Ev.bind (spec_RecOk_ev a0 a1 a2 a3 a4 x5 x6 x7 h5 h6) ?_
  refine ev_if (fun hok => ?_) (fun hok => ?_)
  · obtain ⟨b0, b1, b2, b3, b4, b5, b6, b7⟩ := recOkM_bounds hok
    rw [if_pos hok]
    simp only [Option.bind_some]
    have s0 : (strOfNums [a0 % 256]).size = 1 := strOfNums_size _
    have s1 := varS_small a1.toNat (by omega)
    have s2 := varS_small a2.toNat (by omega)
    have s3 := varS_small a3.toNat (by omega)
    have s4 := varS_small a4.toNat (by omega)
    have s5 := varS_small x5.size (by omega)
    have s6 := varS_small x6.size (by omega)
    have s7 := varS_small x7.size (by omega)
    refine Ev.bind (spec_l01Var_ev' a1 (by omega) (by omega)) ?_
    refine ev_if (fun _ => ?_) (fun h => absurd (by first | omega | (simp only [size_append]; omega)) h)
    refine Ev.bind (spec_l01Var_ev' a2 (by omega) (by omega)) ?_
    refine ev_if (fun _ => ?_) (fun h => absurd (by first | omega | (simp only [size_append]; omega)) h)
    refine Ev.bind (spec_l01Var_ev' a3 (by omega) (by omega)) ?_
    refine ev_if (fun _ => ?_) (fun h => absurd (by first | omega | (simp only [size_append]; omega)) h)
    refine Ev.bind (spec_l01Var_ev' a4 (by omega) (by omega)) ?_
    refine ev_if (fun _ => ?_) (fun h => absurd (by first | omega | (simp only [size_append]; omega)) h)
    refine Ev.bind (spec_l06Short_ev x5 (by omega)) ?_
    refine ev_if (fun _ => ?_) (fun h => absurd (by first | omega | (simp only [size_append]; omega)) h)
    refine Ev.bind (spec_l06Short_ev x6 (by omega)) ?_
    refine ev_if (fun _ => ?_) (fun h => absurd (by first | omega | (simp only [size_append]; omega)) h)
    refine Ev.bind (spec_l06Short_ev x7 (by omega)) ?_
    refine ev_if (fun _ => ?_) (fun h => absurd (by first | omega | (simp only [size_append]; omega)) h)
    exact ev_some rfl
  · rw [if_neg hok]
    exact ev_some rfl

/-! readrec -/
def svM (x : ByteArray) (a : Int) (b : Bool) : Int × ByteArray × Int × Bool := if b = true then (0, x, a, true) else if (readVarM x a).2.2 = true then ((readVarM x a).1, x, (readVarM x a).2.1, b) else (0, x, a, true)
def ssM (x : ByteArray) (a : Int) (b : Bool) : ByteArray × ByteArray × Int × Bool := if b = true then ((⟨#[]⟩ : ByteArray), x, a, true) else if (readShortM x a).2.2 = true then ((readShortM x a).1, x, (readShortM x a).2.1, b) else ((⟨#[]⟩ : ByteArray), x, a, true)
theorem spec_l06Var_ev (x : ByteArray) (hx : x.size ≤ 140737488351232) (a : Int) (b : Bool) : Ev (fun k => spec_l06Var.f k x a b) (svM x a b) := by
  unfold spec_l06Var.f svM
  exact Ev.bind (spec_ReadVar_ev x hx a) (ev_ite (ev_some rfl) (ev_ite (ev_some rfl) (ev_some rfl)))
theorem spec_l06ReadShort_ev (x : ByteArray) (hx : x.size ≤ 140737488351232) (a : Int) (b : Bool) : Ev (fun k => spec_l06ReadShort.f k x a b) (ssM x a b) := by
  unfold spec_l06ReadShort.f ssM
  exact Ev.bind (spec_ReadShort_ev x hx a) (ev_ite (ev_some rfl) (ev_ite (ev_some rfl) (ev_some rfl)))
def Fv (x : ByteArray) (a : Int) (b : Bool) (n e : Int) (c : Bool) : Prop := (b = true → c = true) ∧ (b = false → (c = false ∧ readVarM x a = (n, e, true)) ∨ (c = true ∧ ¬ (readVarM x a).2.2 = true))
def Fs (x : ByteArray) (a : Int) (b : Bool) (s : ByteArray) (e : Int) (c : Bool) : Prop := s.size ≤ 20000 ∧ (b = true → c = true) ∧ (b = false → (c = false ∧ readShortM x a = (s, e, true)) ∨ (c = true ∧ ¬ (readShortM x a).2.2 = true))
theorem svM_form (x : ByteArray) (a : Int) (b : Bool) : ∃ n e c, svM x a b = (n, x, e, c) ∧ Fv x a b n e c := by
  unfold svM Fv
  cases b with
  | true => exact ⟨_, _, _, rfl, fun _ => rfl, fun h => by simp at h⟩
  | false =>
    obtain ⟨⟨n, e, ok⟩, hv⟩ : ∃ v, readVarM x a = v := ⟨_, rfl⟩
    cases ok with
    | true => exact ⟨n, e, false, by simp [hv], by simp, fun _ => .inl ⟨rfl, hv⟩⟩
    | false => exact ⟨0, a, true, by simp [hv], by simp, fun _ => .inr ⟨rfl, by simp [hv]⟩⟩
theorem ssM_form (x : ByteArray) (a : Int) (b : Bool) : ∃ s e c, ssM x a b = (s, x, e, c) ∧ Fs x a b s e c := by
  unfold ssM Fs
  have hr := (readShortM_range x a).1
  cases b with
  | true => exact ⟨_, _, _, rfl, by decide, fun _ => rfl, fun h => by simp at h⟩
  | false =>
    obtain ⟨⟨n, e, ok⟩, hv⟩ : ∃ v, readShortM x a = v := ⟨_, rfl⟩
    rw [hv] at hr
    cases ok with
    | true => exact ⟨n, e, false, by simp [hv], hr, by simp, fun _ => .inl ⟨rfl, hv⟩⟩
    | false => exact ⟨⟨#[]⟩, a, true, by simp [hv], by decide, by simp, fun _ => .inr ⟨rfl, by simp [hv]⟩⟩
theorem readRecM_chain (x : ByteArray) (h0 : ¬ x.size = 0) (n1 n2 n3 n4 e1 e2 e3 e4 e5 e6 e7 : Int) (s5 s6 s7 : ByteArray) (b1 b2 b3 b4 b5 b6 b7 : Bool)
    (F1 : Fv x 1 false n1 e1 b1) (F2 : Fv x e1 b1 n2 e2 b2) (F3 : Fv x e2 b2 n3 e3 b3) (F4 : Fv x e3 b3 n4 e4 b4) (F5 : Fs x e4 b4 s5 e5 b5) (F6 : Fs x e5 b5 s6 e6 b6) (F7 : Fs x e6 b6 s7 e7 b7) :
    readRecM x = if b7 = true then recZ else if (recTextM (bt x 0) n1 n2 n3 n4 s5 s6 s7).2 = true then (if (recTextM (bt x 0) n1 n2 n3 n4 s5 s6 s7).1 = x then (bt x 0, n1, n2, n3, n4, s5, s6, s7, true) else recZ) else recZ := by
  unfold readRecM
  rw [if_neg h0]
  rcases F1.2 rfl with ⟨rfl, q1⟩ | ⟨rfl, q1⟩
  rotate_left
  · rw [if_neg q1, if_pos (F7.2.1 (F6.2.1 (F5.2.1 (F4.1 (F3.1 (F2.1 rfl))))))]
  rcases F2.2 rfl with ⟨rfl, q2⟩ | ⟨rfl, q2⟩
  rotate_left
  · rw [q1, if_pos rfl, if_neg q2, if_pos (F7.2.1 (F6.2.1 (F5.2.1 (F4.1 (F3.1 rfl)))))]
  rcases F3.2 rfl with ⟨rfl, q3⟩ | ⟨rfl, q3⟩
  rotate_left
  · rw [q1, if_pos rfl]
    simp only [q2, if_true]
    rw [if_neg q3, if_pos (F7.2.1 (F6.2.1 (F5.2.1 (F4.1 rfl))))]
  rcases F4.2 rfl with ⟨rfl, q4⟩ | ⟨rfl, q4⟩
  rotate_left
  · rw [q1, if_pos rfl]
    simp only [q2, q3, if_true]
    rw [if_neg q4, if_pos (F7.2.1 (F6.2.1 (F5.2.1 rfl)))]
  rcases F5.2.2 rfl with ⟨rfl, q5⟩ | ⟨rfl, q5⟩
  rotate_left
  · rw [q1, if_pos rfl]
    simp only [q2, q3, q4, if_true]
    rw [if_neg q5, if_pos (F7.2.1 (F6.2.1 rfl))]
  rcases F6.2.2 rfl with ⟨rfl, q6⟩ | ⟨rfl, q6⟩
  rotate_left
  · rw [q1, if_pos rfl]
    simp only [q2, q3, q4, q5, if_true]
    rw [if_neg q6, if_pos (F7.2.1 rfl)]
  rcases F7.2.2 rfl with ⟨rfl, q7⟩ | ⟨rfl, q7⟩
  rotate_left
  · rw [q1, if_pos rfl]
    simp only [q2, q3, q4, q5, q6, if_true]
    rw [if_neg q7]
  rw [q1, if_pos rfl]
  simp only [q2, q3, q4, q5, q6, q7, if_true, Bool.false_eq_true, if_false]
  have hS := recTextS_read x e1 e2 e3 e4 e5 e6 e7 n1 n2 n3 n4 s5 s6 s7 (by omega) q1 q2 q3 q4 q5 q6 q7
  have r7 := readShortM_range x e6
  rw [q7] at r7
  have hw := ext_whole x e7 r7.2.1 r7.2.2.1
  unfold recTextM
  by_cases hok : recOkM (bt x 0) n1 n2 n3 n4 s5 s6 s7 = true
  · simp only [if_pos hok, if_true, hS]
    by_cases he : e7 = (x.size : Int)
    · rw [if_pos ⟨he, hok⟩, if_pos (hw.2 he)]
    · rw [if_neg (fun h => he h.1), if_neg (fun h => he (hw.1 h))]
  · simp only [if_neg hok, Bool.false_eq_true, if_false]
    rw [if_neg (fun h => hok h.2)]
theorem spec_ReadRec_ev (x : ByteArray) (hx : x.size ≤ 140737488351232) : Ev (fun k => spec_ReadRec.f k x) (readRecM x) := by
  unfold spec_ReadRec.f
  by_cases h0 : x.size = 0
  · simp only [if_pos ((tl_nil x).2 h0)]
    exact ev_some (by unfold readRecM; rw [if_pos h0]; rfl)
  · simp only [if_neg (fun h => h0 ((tl_nil x).1 h)), if_pos (show 0 < (x.size : Int) by omega)]
    have hb := bt_lt x 0
    rw [show wrap64 (bt x 0) = bt x 0 from w64 (by omega) (by omega)]
    obtain ⟨n1, e1, b1, g1, F1⟩ := svM_form x 1 false
    obtain ⟨n2, e2, b2, g2, F2⟩ := svM_form x e1 b1
    obtain ⟨n3, e3, b3, g3, F3⟩ := svM_form x e2 b2
    obtain ⟨n4, e4, b4, g4, F4⟩ := svM_form x e3 b3
    obtain ⟨s5, e5, b5, g5, F5⟩ := ssM_form x e4 b4
    obtain ⟨s6, e6, b6, g6, F6⟩ := ssM_form x e5 b5
    obtain ⟨s7, e7, b7, g7, F7⟩ := ssM_form x e6 b6
    rw [readRecM_chain x h0 n1 n2 n3 n4 e1 e2 e3 e4 e5 e6 e7 s5 s6 s7 b1 b2 b3 b4 b5 b6 b7 F1 F2 F3 F4 F5 F6 F7]
    refine Ev.bind (g1 ▸ spec_l06Var_ev x hx 1 false) ?_
    refine Ev.bind (g2 ▸ spec_l06Var_ev x hx e1 b1) ?_
    refine Ev.bind (g3 ▸ spec_l06Var_ev x hx e2 b2) ?_
    refine Ev.bind (g4 ▸ spec_l06Var_ev x hx e3 b3) ?_
    refine Ev.bind (g5 ▸ spec_l06ReadShort_ev x hx e4 b4) ?_
    refine Ev.bind (g6 ▸ spec_l06ReadShort_ev x hx e5 b5) ?_
    refine Ev.bind (g7 ▸ spec_l06ReadShort_ev x hx e6 b6) ?_
    refine Ev.bind (spec_RecText_ev (bt x 0) n1 n2 n3 n4 s5 s6 s7 (by have := F5.1; omega) (by have := F6.1; omega)) ?_
    refine ev_ite (ev_some rfl) (ev_ite ?_ (ev_some rfl))
    simp only [tl_iff]
    exact ev_ite (ev_some rfl) (ev_some rfl)
theorem impl_ReadRec_ev (x : ByteArray) (hx : x.size ≤ 140737488351232) : Ev (fun k => impl_ReadRec.f k x) (readRecM x) := by
  unfold impl_ReadRec.f
  by_cases h0 : x.size = 0
  · simp only [if_pos ((tl_nil x).2 h0)]
    exact ev_some (by unfold readRecM; rw [if_pos h0]; rfl)
  · simp only [if_neg (fun h => h0 ((tl_nil x).1 h)), if_pos (show 0 < (x.size : Int) by omega)]
    have hb := bt_lt x 0
    have hwb : wrap64 (bt x 0) = bt x 0 := w64 (by omega) (by omega)
    unfold readRecM
    rw [if_neg h0]
    refine Ev.bind (impl_ReadVar_ev x hx 1) (ev_ite ?_ (ev_some rfl))
    refine Ev.bind (impl_ReadVar_ev x hx _) (ev_ite ?_ (ev_some rfl))
    refine Ev.bind (impl_ReadVar_ev x hx _) (ev_ite ?_ (ev_some rfl))
    refine Ev.bind (impl_ReadVar_ev x hx _) (ev_ite ?_ (ev_some rfl))
    refine Ev.bind (impl_ReadShort_ev x hx _) (ev_ite ?_ (ev_some rfl))
    refine Ev.bind (impl_ReadShort_ev x hx _) (ev_ite ?_ (ev_some rfl))
    refine Ev.bind (impl_ReadShort_ev x hx _) (ev_ite ?_ (ev_some rfl))
    simp only [impl_ReadRec.rs, impl_ReadRec.fin, List.nil_append, List.cons_append, List.getD_cons_zero, List.getD_cons_succ, hwb]
    have s5 := (readShortM_range x (readVarM x (readVarM x (readVarM x (readVarM x 1).2.1).2.1).2.1).2.1).1
    have s6 := (readShortM_range x (readShortM x (readVarM x (readVarM x (readVarM x (readVarM x 1).2.1).2.1).2.1).2.1).2.1).1
    refine ev_if (fun he => ?_) (fun he => ?_)
    · refine Ev.bind (impl_RecOk_ev _ _ _ _ _ _ _ _ (by omega) (by omega)) ?_
      refine ev_if (fun hok => ?_) (fun hok => ?_)
      · rw [if_pos ⟨he, hok⟩]; exact ev_some rfl
      · rw [if_neg (fun h => hok h.2)]; exact ev_some rfl
    · rw [if_neg (fun h => he h.1)]; exact ev_some rfl

/-! frameok -/
theorem spec_FrameOk_eq (a b : Int) (c : ByteArray) : spec_FrameOk.f a b c = some (frameOkM a b c) := by
  unfold spec_FrameOk.f frameOkM
  simp only [spec_in_eq, Option.bind_some]
  by_cases h1 : 1 ≤ a ∧ a ≤ 1000000000 <;> by_cases h2 : 1 ≤ b ∧ b ≤ 1000000000 <;> simp [h1, h2]
theorem impl_FrameOk_eq (a b : Int) (c : ByteArray) : impl_FrameOk.f a b c = some (frameOkM a b c) := by
  unfold impl_FrameOk.f frameOkM
  simp only [impl_in_eq, Option.bind_some]
  by_cases h1 : 1 ≤ a ∧ a ≤ 1000000000 <;> by_cases h2 : 1 ≤ b ∧ b ≤ 1000000000 <;> simp [h1, h2]

/-! frameitem -/
def frameItemM (a b : Int) (c : ByteArray) : Int × Int × Int × Int × Int × Int × ByteArray × ByteArray × ByteArray × Bool :=
  if (readRecM c).2.2.2.2.2.2.2.2 = true then (if frameOkM a b c = true then (b, (readRecM c).1, (readRecM c).2.1, (readRecM c).2.2.1, (readRecM c).2.2.2.1, (readRecM c).2.2.2.2.1, (readRecM c).2.2.2.2.2.1, (readRecM c).2.2.2.2.2.2.1, (readRecM c).2.2.2.2.2.2.2.1, true) else (0, 0, 0, 0, 0, 0, (⟨#[]⟩ : ByteArray), (⟨#[]⟩ : ByteArray), (⟨#[]⟩ : ByteArray), false)) else (0, 0, 0, 0, 0, 0, (⟨#[]⟩ : ByteArray), (⟨#[]⟩ : ByteArray), (⟨#[]⟩ : ByteArray), false)
theorem impl_FrameItem_ev (a b : Int) (c : ByteArray) (hc : c.size ≤ 140737488351232) : Ev (fun k => impl_FrameItem.f k a b c) (frameItemM a b c) := by
  unfold impl_FrameItem.f frameItemM
  refine Ev.bind (impl_ReadRec_ev c hc) ?_
  simp only [impl_FrameOk_eq, Option.bind_some]
  exact ev_ite (ev_ite (ev_some rfl) (ev_some rfl)) (ev_some rfl)
theorem spec_FrameItem_ev (a b : Int) (c : ByteArray) (hc : c.size ≤ 140737488351232) : Ev (fun k => spec_FrameItem.f k a b c) (frameItemM a b c) := by
  unfold spec_FrameItem.f frameItemM
  refine Ev.bind (spec_ReadRec_ev c hc) ?_
  simp only [spec_FrameOk_eq, Option.bind_some]
  by_cases h1 : frameOkM a b c = true <;> by_cases h2 : (readRecM c).2.2.2.2.2.2.2.2 = true
  · simp only [if_pos h1, if_pos h2]; exact ev_some rfl
  · simp only [if_pos h1, if_neg h2]; exact ev_some rfl
  · simp only [if_neg h1, if_pos h2]; exact ev_some rfl
  · simp only [if_neg h1, if_neg h2]; exact ev_some rfl

/-! eqrec -/
theorem eqRec_same (a0 a1 a2 a3 a4 : Int) (x5 x6 x7 : ByteArray) : laws_eqRec.f a0 a1 a2 a3 a4 x5 x6 x7 a0 a1 a2 a3 a4 x5 x6 x7 = some true := by
  unfold laws_eqRec.f
  simp

theorem FnExactFrameItem (a b : Int) (c : ByteArray) (_ : (Lit.int .i64 a).wf = true) (_ : (Lit.int .i64 b).wf = true) (hc : c.size ≤ maxLen) : ∃ k, laws_FnExactFrameItem.f k a b c = some true := by
  have hc' : c.size ≤ 9223372036854775807 := hc
  refine Ev.rounds ?_
  unfold laws_FnExactFrameItem.f laws_szFrame.f laws_toFrame.f
  rw [w64 (x := 1048576 - (c.size : Int)) (by omega) (by omega)]
  by_cases h : 1048576 - (c.size : Int) < 0
  · simp only [if_pos h, Option.bind_some, if_pos (show (-1 : Int) < 0 from by omega)]
    exact ev_some rfl
  · simp only [if_neg h, Option.bind_some]
    refine Ev.bind (spec_FrameItem_ev a b c (by omega)) ?_
    refine Ev.bind (impl_FrameItem_ev a b c (by omega)) ?_
    simp only [laws_eqItem.f, eqRec_same, Option.bind_some, if_true, bne_self_eq_false, Bool.false_eq_true, if_false]
    exact ev_some rfl

end Go.Proofs.Ytagkjeldheiejaa.Pure
