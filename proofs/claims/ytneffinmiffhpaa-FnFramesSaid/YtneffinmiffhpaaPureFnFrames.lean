/- The pure statement of FnFrames, over numbers and lists: it is true of every argument; no condition but the bounds that the statement itself names. -/
import Derived.Test.YtneffinmiffhpaaPFnFramesx5
import Derived.Test.YtneffinmiffhpaaVFnFrames1
set_option linter.unusedVariables false
set_option linter.unusedSimpArgs false
namespace Go.Proofs.Ytneffinmiffhpaa.Pure
open Go.RowKit Go.Proofs.Ytneffinmiffhpaa.PFnFrames Go.Proofs.YtneffinmiffhpaaW.PrintWords Go.Proofs.YtneffinmiffhpaaW.PrintLast Go.Proofs.YtneffinmiffhpaaW.PrintMore Go.Proofs.Ytneffinmiffhpaa.Base

/-! draws -/
theorem and255 (x : Int) : 0 ≤ bits .and .i64 x 255 ∧ bits .and .i64 x 255 ≤ 255 := by
  unfold bits
  have h : (BitVec.ofInt (IntKind.bits .i64) x &&& BitVec.ofInt (IntKind.bits .i64) 255).toNat ≤ 255 := by
    rw [BitVec.toNat_and]
    exact Nat.le_trans Nat.and_le_right (by decide)
  simp only
  rw [b_wraps_i64 _ (by omega) (by omega)]
  omega
/-- Where a drawing stands: inside its bytes. -/
def Inside (l : List Int) (p : Int) : Prop := 0 ≤ p ∧ p ≤ (l.length : Int)
theorem l01Byte_some (l : List Int) (hl : l.length ≤ 1048576) (p s : Int) (hp : Inside l p) : ∃ b p' s', spec_l01Byte.f l p s = some (b, p', s') ∧ (0 ≤ b ∧ b ≤ 255) ∧ Inside l p' := by
  obtain ⟨h0, h1⟩ := hp
  unfold spec_l01Byte.f
  by_cases h : p < (l.length : Int)
  · rw [if_pos h, if_pos h0]
    refine ⟨_, _, _, rfl, and255 _, ?_⟩
    have e := w64 (x := p + 1) (by omega) (by omega)
    rw [e]
    exact ⟨by omega, by omega⟩
  · rw [if_neg h]
    exact ⟨_, _, _, rfl, and255 _, h0, h1⟩
theorem l01Below_some (l : List Int) (hl : l.length ≤ 1048576) (p s n : Int) (hp : Inside l p) : ∃ b p' s', spec_l01Below.f l p s n = some (b, p', s') ∧ (0 ≤ b ∧ (0 < n → b < n)) ∧ Inside l p' := by
  unfold spec_l01Below.f
  by_cases h : n ≤ 0
  · rw [if_pos h]
    exact ⟨_, _, _, rfl, ⟨Int.le_refl _, fun h2 => by omega⟩, hp⟩
  · rw [if_neg h]
    by_cases h2 : n ≤ 256
    · rw [if_pos h2]
      obtain ⟨b, p', s', e, hb, hp'⟩ := l01Byte_some l hl p s hp
      simp only [e, Option.bind_some, if_neg (show ¬ n = 0 by omega)]
      exact ⟨_, _, _, rfl, ⟨Int.tmod_nonneg _ hb.1, fun h3 => Int.tmod_lt_of_pos _ h3⟩, hp'⟩
    · rw [if_neg h2]
      obtain ⟨b1, p1, s1, e1, hb1, hp1⟩ := l01Byte_some l hl p s hp
      obtain ⟨b2, p2, s2, e2, hb2, hp2⟩ := l01Byte_some l hl p1 s1 hp1
      obtain ⟨b3, p3, s3, e3, hb3, hp3⟩ := l01Byte_some l hl p2 s2 hp2
      obtain ⟨b4, p4, s4, e4, hb4, hp4⟩ := l01Byte_some l hl p3 s3 hp3
      simp only [e1, e2, e3, e4, Option.bind_some, if_neg (show ¬ n = 0 by omega)]
      refine ⟨_, _, _, rfl, ⟨Int.tmod_nonneg _ ?_, fun h3 => Int.tmod_lt_of_pos _ h3⟩, hp4⟩
      have a1 := w64 (x := b1 * 16777216) (by omega) (by omega)
      rw [a1]
      clear a1
      have a2 := w64 (x := b2 * 65536) (by omega) (by omega)
      rw [a2]
      clear a2
      have a3 := w64 (x := b3 * 256) (by omega) (by omega)
      rw [a3]
      clear a3
      have a4 := w64 (x := b1 * 16777216 + b2 * 65536) (by omega) (by omega)
      rw [a4]
      clear a4
      have a5 := w64 (x := b1 * 16777216 + b2 * 65536 + b3 * 256) (by omega) (by omega)
      rw [a5]
      clear a5
      have a6 := w64 (x := b1 * 16777216 + b2 * 65536 + b3 * 256 + b4) (by omega) (by omega)
      rw [a6]
      omega
theorem l01Text_l0 (l : List Int) (hl : l.length ≤ 1048576) (n : Nat) (hn : n ≤ 5000) (d : Nat) : ∀ (i : Nat) (acc : List Int) (p s : Int), n - i = d → i ≤ n → acc.length = i → Inside l p →
    ∃ (t : ByteArray) (p' s' : Int), Ev (fun k => spec_l01Text.l0 k (n : Int) acc (i : Int) l p s) (t, p', s') ∧ t.size = n ∧ Inside l p' := by
  induction d with
  | zero =>
    intro i acc p s hd hi ha hp
    refine ⟨strOfNums acc, p, s, ev_succ ?_, by rw [strOfNums_size]; omega, hp⟩
    simp only [spec_l01Text.l0, if_neg (show ¬ (i : Int) < (n : Int) by omega)]
    exact ev_some rfl
  | succ d ih =>
    intro i acc p s hd hi ha hp
    obtain ⟨b, p1, s1, e, hb, hp1⟩ := l01Byte_some l hl p s hp
    obtain ⟨t, p', s', h, hs, hp'⟩ := ih (i + 1) (acc ++ [b % 256]) p1 s1 (by omega) (by omega) (by simp; omega) hp1
    refine ⟨t, p', s', ev_succ ?_, hs, hp'⟩
    simp only [spec_l01Text.l0, if_pos (show (i : Int) < (n : Int) by omega), e, Option.bind_some, if_pos (show acc.length < 140737488355328 by omega), wn i (show i < n by omega) (by omega)]
    exact h
theorem l01Text_some (l : List Int) (hl : l.length ≤ 1048576) (p s n : Int) (hn : 0 ≤ n ∧ n ≤ 5000) (hp : Inside l p) : ∃ (t : ByteArray) (p' s' : Int), Ev (fun k => spec_l01Text.f k l p s n) (t, p', s') ∧ (t.size : Int) = n ∧ Inside l p' := by
  obtain ⟨m, rfl⟩ := Int.eq_ofNat_of_zero_le hn.1
  obtain ⟨t, p', s', h, hs, hp'⟩ := l01Text_l0 l hl m (by omega) m 0 [] p s (by omega) (by omega) rfl hp
  refine ⟨t, p', s', ?_, by omega, hp'⟩
  unfold spec_l01Text.f
  simp only [if_neg (show ¬ (m : Int) > 5000 by omega)]
  refine ev_succ ?_
  simp only [spec_l01Text.j0]
  exact h
theorem l01New_l0 (l : List Int) (hl : l.length ≤ 1048576) (d : Nat) : ∀ (i : Nat) (s : Int), l.length - i = d → i ≤ l.length → ∃ s', Ev (fun k => spec_l01New.l0 k l s (i : Int)) (l, 0, s') := by
  induction d with
  | zero =>
    intro i s hd hi
    refine ⟨s, ev_succ ?_⟩
    simp only [spec_l01New.l0, if_neg (show ¬ (i : Int) < (l.length : Int) by omega)]
    exact ev_some rfl
  | succ d ih =>
    intro i s hd hi
    by_cases h : (i : Int) < 4000
    · obtain ⟨s', hs⟩ := ih (i + 1) (bits .and .i64 (wrap64 ((wrap64 ((wrap64 (s * 131)) + (wrap64 (rd l (i : Int))))) + 7)) 1073741823) (by omega) (by omega)
      refine ⟨s', ev_succ ?_⟩
      simp only [spec_l01New.l0, if_pos (show (i : Int) < (l.length : Int) by omega), if_pos h, if_pos (show (0 : Int) ≤ (i : Int) by omega), wn i (show i < l.length by omega) (by omega)]
      exact hs
    · refine ⟨s, ev_succ ?_⟩
      simp only [spec_l01New.l0, if_pos (show (i : Int) < (l.length : Int) by omega), if_neg h]
      exact ev_some rfl
theorem l01New_some (l : List Int) (hl : l.length ≤ 1048576) : ∃ s', Ev (fun k => spec_l01New.f k l) (l, 0, s') := by
  unfold spec_l01New.f
  exact l01New_l0 l hl l.length 0 _ (by omega) (by omega)
theorem inside0 (l : List Int) : Inside l 0 := ⟨Int.le_refl _, by omega⟩

/-! drawframe -/
theorem l04Frame_some (l : List Int) (hl : l.length ≤ 1048576) (p s : Int) (hp : Inside l p) : ∃ (g q : Int) (b : ByteArray) (p' s' : Int), Ev (fun k => spec_l04Frame.f k l p s) (g, q, b, p', s') ∧ (1 ≤ g ∧ g ≤ 3) ∧ (1 ≤ q ∧ q ≤ 200) ∧ (1 ≤ b.size ∧ b.size ≤ 20) ∧ Inside l p' := by
  unfold spec_l04Frame.f
  obtain ⟨x, p1, s1, e1, hx, hp1⟩ := l01Below_some l hl p s 3 hp
  obtain ⟨y, p2, s2, e2, hy, hp2⟩ := l01Below_some l hl p1 s1 200 hp1
  obtain ⟨z, p3, s3, e3, hz, hp3⟩ := l01Below_some l hl p2 s2 20 hp2
  have hx2 := hx.2 (by omega)
  have hy2 := hy.2 (by omega)
  have hz2 := hz.2 (by omega)
  obtain ⟨t, p4, s4, h4, ht, hp4⟩ := l01Text_some l hl p3 s3 (1 + z) (by omega) hp3
  refine ⟨1 + x, 1 + y, t, p4, s4, ?_, by omega, by omega, by omega, hp4⟩
  simp only [e1, e2, e3, Option.bind_some, w64 (x := 1 + x) (by omega) (by omega), w64 (x := 1 + y) (by omega) (by omega), w64 (x := 1 + z) (by omega) (by omega)]
  exact Ev.bind h4 (ev_some rfl)

/-! in -/
theorem impl_in_eq (a b c : Int) : impl_in.f a b c = some (decide (b ≤ a ∧ a ≤ c)) := by
  unfold impl_in.f
  by_cases h : a ≥ b <;> by_cases h2 : a ≤ c <;> simp [h, h2] <;> omega

/-! var -/
theorem impl_varText_l0 (n : Nat) : ∀ (acc : List Int), n < 9223372036854775808 → acc.length + (varL n).length < 140737488355328 →
    Ev (fun k => impl_varText.l0 k (n : Int) acc) (strOfNums (acc ++ varL n)) := by
  induction n using Nat.strongRecOn with
  | _ n ih =>
    intro acc hn hl
    refine ev_succ ?_
    by_cases h : 127 < n
    · rw [varL_big h] at hl ⊢
      rw [List.length_cons] at hl
      simp only [impl_varText.l0, if_pos (show (n : Int) > 127 from by omega), if_pos (show acc.length < 140737488355328 from by omega)]
      have e1 : (n : Int) / 128 = ((n / 128 : Nat) : Int) := by omega
      have e2 : (Go.bits .or .i64 (Go.bits .and .i64 (n : Int) 127) 128) % 256 = ((n % 128 + 128 : Nat) : Int) := by
        rw [b_and127 _ (by omega) (by omega), b_or128 _ (by omega) (by omega)]; omega
      simp only [e1, e2]
      have := ih (n / 128) (by omega) (acc ++ [((n % 128 + 128 : Nat) : Int)]) (by omega) (by simp; omega)
      simpa using this
    · rw [varL_small (by omega)] at hl ⊢
      have hl' : acc.length + 1 < 140737488355328 := by simpa using hl
      simp only [impl_varText.l0, if_neg (show ¬ (n : Int) > 127 from by omega), if_pos (show acc.length < 140737488355328 from by omega)]
      rw [show (n : Int) % 256 = (n : Int) from by omega]
      exact ev_some rfl
theorem impl_varText_ev (n : Nat) (h : n < 70368744177664) : Ev (fun k => impl_varText.f k (n : Int)) (varS n) := by
  have := varL_length n
  simpa [impl_varText.f, varS] using impl_varText_l0 n [] (by omega) (by simp; omega)
theorem impl_varText_ev' (a : Int) (h0 : 0 ≤ a) (h : a < 70368744177664) : Ev (fun k => impl_varText.f k a) (varS a.toNat) := by
  obtain ⟨n, rfl⟩ := Int.eq_ofNat_of_zero_le h0
  exact impl_varText_ev n (by omega)

/-! readvar -/
theorem or_comm_i64 (x y : Int) : Go.bits .or .i64 x y = Go.bits .or .i64 y x := by
  unfold bits
  simp only [BitVec.or_comm]
theorem shl7 (k : Nat) (hk : k < 5) (v : Int) (hv : 0 ≤ v ∧ v < 128) : shl .i64 v (wrap64 (7 * (k : Int))) = v * 128 ^ k := by
  rw [w64 (by omega) (by omega)]
  unfold shl
  have e : min (7 * (k : Int)).toNat IntKind.i64.bits = 7 * k := by
    have : IntKind.i64.bits = 64 := rfl
    omega
  rw [e, IntKind.wrap_i64]
  have h : k = 0 ∨ k = 1 ∨ k = 2 ∨ k = 3 ∨ k = 4 := by omega
  rcases h with rfl | rfl | rfl | rfl | rfl <;> omega
theorem or7 (k : Nat) (hk : k < 5) (n v : Int) (hn : 0 ≤ n ∧ n < 128 ^ k) (hv : 0 ≤ v ∧ v < 128) : Go.bits .or .i64 n (v * 128 ^ k) = n + v * 128 ^ k := by
  rw [or_comm_i64]
  have h : k = 0 ∨ k = 1 ∨ k = 2 ∨ k = 3 ∨ k = 4 := by omega
  rcases h with rfl | rfl | rfl | rfl | rfl
  · rw [bits_join .i64 63 (by decide) b_wraps_i64 0 (v * 128 ^ 0) n (by omega) (by omega) (by omega) hn.1 (by omega) (by omega)]; omega
  · rw [bits_join .i64 63 (by decide) b_wraps_i64 7 (v * 128 ^ 1) n (by omega) (by omega) (by omega) hn.1 (by omega) (by omega)]; omega
  · rw [bits_join .i64 63 (by decide) b_wraps_i64 14 (v * 128 ^ 2) n (by omega) (by omega) (by omega) hn.1 (by omega) (by omega)]; omega
  · rw [bits_join .i64 63 (by decide) b_wraps_i64 21 (v * 128 ^ 3) n (by omega) (by omega) (by omega) hn.1 (by omega) (by omega)]; omega
  · rw [bits_join .i64 63 (by decide) b_wraps_i64 28 (v * 128 ^ 4) n (by omega) (by omega) (by omega) hn.1 (by omega) (by omega)]; omega
theorem pow5 (k : Nat) (hk : k < 5) (n v : Int) (hn : 0 ≤ n ∧ n < 128 ^ k) (hv : 0 ≤ v ∧ v < 128) : 0 ≤ n + v * 128 ^ k ∧ n + v * 128 ^ k < 128 ^ (k + 1) ∧ 0 ≤ v * 128 ^ k ∧ v * 128 ^ k < 34359738368 ∧ n + v * 128 ^ k < 34359738368 ∧ (128 : Int) ^ k ≤ 268435456 ∧ 0 < (128 : Int) ^ k := by
  have h : k = 0 ∨ k = 1 ∨ k = 2 ∨ k = 3 ∨ k = 4 := by omega
  rcases h with rfl | rfl | rfl | rfl | rfl <;> omega
theorem impl_ReadVar_l0 (x : ByteArray) (hx : x.size ≤ 140737488351232) (a : Nat) (ha : a ≤ x.size) (f : Nat) : ∀ (k : Nat) (n : Int), k + f = 5 → 0 ≤ n ∧ n < 128 ^ k →
    Ev (fun r => impl_ReadVar.l0 r x (a : Int) n (k : Int)) (rvGo x a f k n) := by
  induction f with
  | zero =>
    intro k n hk hn
    refine ev_succ ?_
    simp only [impl_ReadVar.l0, if_neg (show ¬ (k : Int) < 5 from by omega)]
    refine ev_succ ?_
    simp only [impl_ReadVar.j1, Bool.false_eq_true, if_false]
    exact ev_some rfl
  | succ f ih =>
    intro k n hk hn
    refine ev_succ ?_
    have hk1' : k + 1 + f = 5 := by omega
    have e1 : wrap64 ((a : Int) + (k : Int)) = ((a + k : Nat) : Int) := by rw [w64 (by omega) (by omega)]; omega
    simp only [impl_ReadVar.l0, if_pos (show (k : Int) < 5 from by omega), e1]
    refine ev_succ ?_
    unfold rvGo
    by_cases h1 : a + k < x.size
    · have hb := bt_lt x ((a + k : Nat) : Int)
      have hv : 0 ≤ bt x ((a + k : Nat) : Int) % 128 ∧ bt x ((a + k : Nat) : Int) % 128 < 128 := by omega
      have g1 : ((a + k : Nat) : Int) < (x.size : Int) := by omega
      have g2 : (0 : Int) ≤ ((a + k : Nat) : Int) := by omega
      have g3 : (0 : Int) ≤ 7 * (k : Int) := by omega
      have g4 : bt x ((a + k : Nat) : Int) < 9223372036854775808 := by omega
      have g5 : k < 5 := by omega
      have g6 : x.size ≤ 140737488355328 := by omega
      have g7 : -9223372036854775808 ≤ bt x ((a + k : Nat) : Int) ∧ bt x ((a + k : Nat) : Int) ≤ 9223372036854775807 := by omega
      have g8 : -9223372036854775808 ≤ 7 * (k : Int) ∧ 7 * (k : Int) ≤ 9223372036854775807 := by omega
      have g9 : 5 ≤ 140737488355328 := by omega
      have e6 : wrap64 (((a + k : Nat) : Int) + 1) = ((a + k + 1 : Nat) : Int) := wn (a + k) h1 g6
      have e7 : wrap64 ((k : Int) + 1) = ((k + 1 : Nat) : Int) := wn k g5 g9
      have e2 : wrap64 (bt x ((a + k : Nat) : Int)) = bt x ((a + k : Nat) : Int) := w64 g7.1 g7.2
      have e3 : wrap64 (7 * (k : Int)) = 7 * (k : Int) := w64 g8.1 g8.2
      have e4 := shl7 k g5 _ hv
      rw [e3] at e4
      have e5 := or7 k g5 n _ hn hv
      have hp := pow5 k g5 n _ hn hv
      have hk1 : k + 1 + f = 5 := hk1'
      simp only [impl_ReadVar.j1, decide_eq_true g1, if_true, e1, e2, e3, b_and127 _ hb.1 g4, e4, e5, e6, e7, if_pos g2, if_pos g1, if_pos g3, if_pos h1]
      clear e1 e2 e3 e4 e5 e6 e7
      obtain ⟨p, hpp⟩ : ∃ p : Int, (128 : Int) ^ k = p := ⟨_, rfl⟩
      simp only [hpp] at hp ⊢
      by_cases h2 : bt x ((a + k : Nat) : Int) > 127
      · simp only [if_pos h2, if_neg (show ¬ bt x ((a + k : Nat) : Int) < 128 from by omega)]
        exact ih (k + 1) _ hk1 ⟨hp.1, hp.2.1⟩
      · simp only [if_neg h2, if_pos (show bt x ((a + k : Nat) : Int) < 128 from by omega)]
        by_cases h3 : bt x ((a + k : Nat) : Int) = 0
        · by_cases h4 : 0 < k
          · simp only [if_pos h3, if_pos (show (k : Int) > 0 from by omega), if_pos (show (bt x ((a + k : Nat) : Int) = 0 ∧ 0 < k) ∨ n + bt x ((a + k : Nat) : Int) % 128 * p > 1000000000 from .inl ⟨h3, h4⟩)]
            exact ev_some rfl
          · by_cases h5 : n + bt x ((a + k : Nat) : Int) % 128 * p > 1000000000
            · simp only [if_pos h3, if_neg (show ¬ (k : Int) > 0 from by omega), if_pos h5, if_pos (show (bt x ((a + k : Nat) : Int) = 0 ∧ 0 < k) ∨ n + bt x ((a + k : Nat) : Int) % 128 * p > 1000000000 from .inr h5)]
              exact ev_some rfl
            · simp only [if_pos h3, if_neg (show ¬ (k : Int) > 0 from by omega), if_neg h5, if_neg (show ¬ ((bt x ((a + k : Nat) : Int) = 0 ∧ 0 < k) ∨ n + bt x ((a + k : Nat) : Int) % 128 * p > 1000000000) from fun h => h.elim (fun h => h4 h.2) h5)]
              exact ev_some rfl
        · by_cases h5 : n + bt x ((a + k : Nat) : Int) % 128 * p > 1000000000
          · simp only [if_neg h3, if_pos h5, if_pos (show (bt x ((a + k : Nat) : Int) = 0 ∧ 0 < k) ∨ n + bt x ((a + k : Nat) : Int) % 128 * p > 1000000000 from .inr h5)]
            exact ev_some rfl
          · simp only [if_neg h3, if_neg h5, if_neg (show ¬ ((bt x ((a + k : Nat) : Int) = 0 ∧ 0 < k) ∨ n + bt x ((a + k : Nat) : Int) % 128 * p > 1000000000) from fun h => h.elim (fun h => h3 h.1) h5)]
            exact ev_some rfl
    · simp only [impl_ReadVar.j1, decide_eq_false (show ¬ ((a + k : Nat) : Int) < (x.size : Int) from by omega), Bool.false_eq_true, if_false, if_neg h1]
      exact ev_some rfl
theorem impl_ReadVar_ev (x : ByteArray) (hx : x.size ≤ 140737488351232) (a : Int) : Ev (fun r => impl_ReadVar.f r x a) (readVarM x a) := by
  unfold impl_ReadVar.f readVarM
  simp only [impl_in_eq, Option.bind_some]
  by_cases h : 0 ≤ a ∧ a ≤ (x.size : Int)
  · obtain ⟨m, rfl⟩ := Int.eq_ofNat_of_zero_le h.1
    simp only [decide_eq_true h, if_true, if_pos h]
    exact impl_ReadVar_l0 x hx m (by omega) 5 0 0 rfl (by omega)
  · simp only [decide_eq_false h, Bool.false_eq_true, if_false, if_neg h]
    exact ev_some rfl

/-! readshort -/
theorem impl_ReadShort_ev (x : ByteArray) (hx : x.size ≤ 140737488351232) (a : Int) : Ev (fun r => impl_ReadShort.f r x a) (readShortM x a) := by
  unfold impl_ReadShort.f readShortM
  refine Ev.bind (impl_ReadVar_ev x hx a) ?_
  obtain ⟨i1, i2, i3, i4, i5⟩ := readVarM_range x a
  obtain ⟨⟨n, e, ok⟩, hv⟩ : ∃ v, readVarM x a = v := ⟨_, rfl⟩
  simp only [hv] at i1 i2 i3 i4 i5 ⊢
  cases ok with
  | false => simp only [Bool.false_eq_true, if_false, false_and]; exact ev_some rfl
  | true =>
    simp only [if_true, true_and]
    by_cases h1 : n > 20000
    · simp only [if_pos h1, if_neg (show ¬ (n ≤ 20000 ∧ n ≤ (x.size : Int) - e) from by omega)]; exact ev_some rfl
    · rw [w64 (x := (x.size : Int) - e) (by omega) (by omega), w64 (x := e + n) (by omega) (by omega)]
      by_cases h2 : n > (x.size : Int) - e
      · simp only [if_neg h1, if_pos h2, if_neg (show ¬ (n ≤ 20000 ∧ n ≤ (x.size : Int) - e) from by omega)]; exact ev_some rfl
      · simp only [if_neg h1, if_neg h2, if_pos (show n ≤ 20000 ∧ n ≤ (x.size : Int) - e from by omega), if_pos i3, if_pos (show e ≤ e + n from by omega), if_pos (show e + n ≤ (x.size : Int) from by omega)]; exact ev_some rfl

/-! frameok -/
theorem impl_FrameOk_eq (a b : Int) (c : ByteArray) : impl_FrameOk.f a b c = some (frameOkM a b c) := by
  unfold impl_FrameOk.f frameOkM
  simp only [impl_in_eq, Option.bind_some]
  by_cases h1 : 1 ≤ a ∧ a ≤ 1000000000 <;> by_cases h2 : 1 ≤ b ∧ b ≤ 1000000000 <;> simp [h1, h2]

/-! sum -/
theorem impl_SumMore_l1 (x : ByteArray) (i : Nat) (hi : i < x.size) (hx : x.size ≤ 140737488351232) (r : Int) (n : Nat) : ∀ (s : Int) (j : Nat), 0 ≤ s ∧ s < 4294967296 → j + n = 8 →
    Ev (fun k => impl_SumMore.l0 k (sumBits n s) x (x.size : Int) ((i + 1 : Nat) : Int)) r → Ev (fun k => impl_SumMore.l1 k s x (x.size : Int) (i : Int) (j : Int)) r := by
  induction n with
  | zero =>
    intro s j hs hj h
    refine ev_succ ?_
    simp only [impl_SumMore.l1, if_neg (show ¬ (j : Int) < 8 from by omega), wn i hi (by omega)]
    exact h
  | succ n ih =>
    intro s j hs hj h
    refine ev_succ ?_
    simp only [impl_SumMore.l1, if_pos (show (j : Int) < 8 from by omega), b_and1 s hs.1 hs.2, wn j (show j < 8 from by omega) (by omega)]
    have := ih (sumBit s) (j + 1) (sumBit_range hs) (by omega) h
    unfold sumBit at this
    by_cases h2 : s % 2 = 1
    · simpa only [if_pos h2] using this
    · simpa only [if_neg h2] using this
theorem impl_SumMore_l0 (x : ByteArray) (hx : x.size ≤ 140737488351232) (d : Nat) : ∀ (i : Nat) (s : Int), 0 ≤ s ∧ s < 4294967296 → x.size - i = d → i ≤ x.size →
    Ev (fun k => impl_SumMore.l0 k s x (x.size : Int) (i : Int)) (sumL s ((bytesOf x).drop i)) := by
  induction d with
  | zero =>
    intro i s hs hd hi
    refine ev_succ ?_
    simp only [impl_SumMore.l0, if_neg (show ¬ (i : Int) < (x.size : Int) from by omega)]
    rw [bytes_end x i (by omega)]
    exact ev_some rfl
  | succ d ih =>
    intro i s hs hd hi
    refine ev_succ ?_
    have hb := bt_lt x (i : Int)
    simp only [impl_SumMore.l0, if_pos (show (i : Int) < (x.size : Int) from by omega), if_pos (show (0 : Int) ≤ (i : Int) from by omega), Int.emod_eq_of_lt hb.1 (show bt x (i : Int) < 4294967296 from by omega)]
    rw [bytes_drop x i (by omega)]
    exact impl_SumMore_l1 x i (by omega) hx _ 8 _ 0 (b_xor_range _ _) rfl (ih (i + 1) _ (sumByte_range s _) (by omega) (by omega))
theorem impl_SumMore_ev (s : Int) (x : ByteArray) (hs : 0 ≤ s ∧ s < 4294967296) (hx : x.size ≤ 140737488351232) : Ev (fun k => impl_SumMore.f k s x) (sumL s (bytesOf x)) := by
  simpa [impl_SumMore.f] using impl_SumMore_l0 x hx _ 0 s hs rfl (by omega)
theorem impl_SumOf_ev (x : ByteArray) (hx : x.size ≤ 140737488351232) : Ev (fun k => impl_SumOf.f k x) (sumOfM x) :=
  Ev.bind (impl_SumMore_ev _ x (by omega) hx) (ev_some rfl)
theorem impl_seal_ev (x : ByteArray) (hx : x.size ≤ 140737488351232) : Ev (fun k => impl_seal.f k x) (fourS (sumOfM x)) :=
  Ev.bind (impl_SumOf_ev x hx) (ev_some rfl)

/-! seal -/
theorem impl_Sealed_ev (x : ByteArray) : Ev (fun k => impl_Sealed.f k x) (sealedM x) := by
  unfold impl_Sealed.f sealedM
  by_cases h : (x.size : Int) > 20000
  · simp only [if_pos h]
    exact ev_some rfl
  · simp only [if_neg h]
    refine Ev.bind (impl_seal_ev x (by omega)) ?_
    have h1 := fourS_size (sumOfM x)
    simp only [if_pos (show x.size + (fourS (sumOfM x)).size ≤ 9223372036854775807 from by omega)]
    exact ev_some rfl

/-! frametext -/
theorem impl_FrameText_ev (a b : Int) (c : ByteArray) : Ev (fun k => impl_FrameText.f k a b c) (frameTextM a b c) := by
  unfold impl_FrameText.f frameTextM
  simp only [impl_FrameOk_eq, Option.bind_some]
  by_cases h : frameOkM a b c = true
  · simp only [if_pos h]
    have hr := of_decide_eq_true h
    have s1 := varS_size a.toNat
    have s2 := varS_size b.toNat
    have s3 := varS_size c.size
    have l1 := varL_length a.toNat
    have l2 := varL_length b.toNat
    have l3 := varL_length c.size
    refine Ev.bind (impl_varText_ev' a (by omega) (by omega)) ?_
    refine Ev.bind (impl_varText_ev' b (by omega) (by omega)) ?_
    simp only [if_pos (show (varS a.toNat).size + (varS b.toNat).size ≤ 9223372036854775807 from by omega)]
    refine Ev.bind (impl_varText_ev c.size (by omega)) ?_
    simp only [size_append, if_pos (show (varS a.toNat).size + (varS b.toNat).size + (varS c.size).size ≤ 9223372036854775807 from by omega), if_pos (show (varS a.toNat).size + (varS b.toNat).size + (varS c.size).size + c.size ≤ 9223372036854775807 from by omega)]
    exact Ev.bind (impl_Sealed_ev _) (ev_some rfl)
  · simp only [if_neg h]
    exact ev_some rfl
theorem impl_FrameSize_ev (a b : Int) (c : ByteArray) : Ev (fun k => impl_FrameSize.f k a b c) ((frameTextM a b c).1.size : Int) := Ev.bind (impl_FrameText_ev a b c) (ev_some rfl)

/-! readframe -/
theorem impl_ReadFrame_ev (x : ByteArray) (hx : x.size ≤ 140737488351232) (a : Int) : Ev (fun k => impl_ReadFrame.f k x a) (readFrameM x a) := by
  unfold impl_ReadFrame.f readFrameM
  refine Ev.bind (impl_ReadVar_ev x hx a) ?_
  refine Ev.bind (impl_ReadVar_ev x hx _) ?_
  refine Ev.bind (impl_ReadShort_ev x hx _) ?_
  obtain ⟨i1, i2, i3, i4, i5⟩ := readVarM_range x a
  obtain ⟨j1, j2, j3, j4, j5⟩ := readVarM_range x (readVarM x a).2.1
  obtain ⟨k1, k2, k3, k4⟩ := readShortM_range x (readVarM x (readVarM x a).2.1).2.1
  obtain ⟨⟨b, e3, ok3⟩, hv3⟩ : ∃ v, readShortM x (readVarM x (readVarM x a).2.1).2.1 = v := ⟨_, rfl⟩
  obtain ⟨⟨n2, e2, ok2⟩, hv2⟩ : ∃ v, readVarM x (readVarM x a).2.1 = v := ⟨_, rfl⟩
  obtain ⟨⟨n1, e1, ok1⟩, hv1⟩ : ∃ v, readVarM x a = v := ⟨_, rfl⟩
  simp only [hv1] at *
  simp only [hv2] at *
  simp only [hv3] at *
  simp only [impl_FrameOk_eq, Option.bind_some]
  rw [w64 (x := (x.size : Int) - e3) (by omega) (by omega)]
  refine ev_if (fun c1 => ?_) (fun c1 => ?_)
  rotate_left
  · refine ev_succ ?_
    simp only [impl_ReadFrame.j0, if_true, c1, false_and, if_false]
    exact ev_some rfl
  refine ev_if (fun c2 => ?_) (fun c2 => ?_)
  rotate_left
  · refine ev_succ ?_
    simp only [impl_ReadFrame.j0, if_true, c1, c2, false_and, and_false, if_false]
    exact ev_some rfl
  refine ev_if (fun c3 => ?_) (fun c3 => ?_)
  rotate_left
  · refine ev_succ ?_
    simp only [impl_ReadFrame.j0, if_true, c1, c2, c3, false_and, and_false, if_false]
    exact ev_some rfl
  have a0 := (i5 c1).1
  have a1 := (i5 c1).2
  have a2 := (j5 c2).2
  have a3 := (k4 c3).2
  refine ev_if (fun hok => ?_) (fun hok => ?_)
  rotate_left
  · refine ev_succ ?_
    simp only [impl_ReadFrame.j0, if_true]
    rw [if_neg (fun h => hok h.2.1)]
    exact ev_some rfl
  by_cases c4 : (x.size : Int) - e3 < 4
  · rw [if_neg (fun h => absurd h.2.2.1 (by omega))]
    refine ev_succ ?_
    simp only [impl_ReadFrame.j0, decide_eq_true c4, if_true]
    exact ev_some rfl
  refine ev_succ ?_
  simp only [impl_ReadFrame.j0, decide_eq_false c4, Bool.false_eq_true, if_false]
  refine Ev.bind (impl_FrameText_ev n1 n2 b) ?_
  rw [w64 (x := e3 + 4) (by omega) (by omega)]
  simp only [if_pos a0, if_pos (show a ≤ e3 + 4 from by omega), if_pos (show e3 + 4 ≤ (x.size : Int) from by omega), tl_iff]
  refine ev_if (fun c5 => ?_) (fun c5 => ?_)
  · rw [if_pos ⟨⟨c1, c2, c3⟩, hok, by omega, c5⟩]
    exact ev_some rfl
  · rw [if_neg (fun h => c5 h.2.2.2)]
    exact ev_some rfl

/-! scanframes -/
def toS (p : Int × Int × ByteArray) : S47 := ⟨p.1, p.2.1, p.2.2⟩
theorem impl_ScanFrames_l0 (x : ByteArray) (hx : x.size ≤ 1048576) (g : Int) (f : Nat) : ∀ (a : Int) (acc : List S47), 0 ≤ a → a ≤ (x.size : Int) → (x.size : Int) - a < (f : Int) → acc.length ≤ a →
    Ev (fun k => impl_ScanFrames.l0 k x g acc a) (acc ++ (scanGo x g f a).1.map toS, (scanGo x g f a).2) := by
  induction f with
  | zero => intro a acc h0 h1 h2; omega
  | succ f ih =>
    intro a acc h0 h1 h2 h3
    refine ev_succ ?_
    simp only [impl_ScanFrames.l0]
    refine Ev.bind (impl_ReadFrame_ev x (by omega) a) ?_
    unfold scanGo
    refine ev_if (fun c1 => ?_) (fun c1 => ?_)
    · rw [if_pos c1]
      obtain ⟨b0, b1, b2⟩ := readFrameM_adv x a c1
      refine ev_if (fun c2 => ?_) (fun c2 => ?_)
      · rw [if_pos c2]
        refine ev_if (fun _ => ?_) (fun h => absurd (by omega) h)
        have := ih (readFrameM x a).2.2.2.1 (acc ++ [toS ((readFrameM x a).1, (readFrameM x a).2.1, (readFrameM x a).2.2.1)]) (by omega) b2 (by omega) (by simp; omega)
        simpa [toS] using this
      · rw [if_neg c2]
        exact ev_some (by simp)
    · rw [if_neg c1]
      exact ev_some (by simp)
theorem impl_ScanFrames_ev (x : ByteArray) (hx : x.size ≤ 1048576) (g : Int) : Ev (fun k => impl_ScanFrames.f k x g) ((scanM x g).1.map toS, (scanM x g).2) := by
  unfold impl_ScanFrames.f scanM
  simpa using impl_ScanFrames_l0 x hx g (x.size + 1) 0 [] (by omega) (by omega) (by omega) (by simp)

/-! same -/
theorem sameFrames_l0 (l : List S47) (hl : l.length ≤ 104857600) (d : Nat) : ∀ i : Nat, l.length - i = d → i ≤ l.length → Ev (fun k => laws_sameFrames.l0 k l l (i : Int)) true := by
  induction d with
  | zero =>
    intro i hd hi
    refine ev_succ ?_
    simp only [laws_sameFrames.l0, if_neg (show ¬ (i : Int) < (l.length : Int) by omega)]
    exact ev_some rfl
  | succ d ih =>
    intro i hd hi
    refine ev_succ ?_
    simp only [laws_sameFrames.l0, if_pos (show (i : Int) < (l.length : Int) by omega), if_pos (show (0 : Int) ≤ (i : Int) by omega), beq_self_eq_true, Bool.not_true, Bool.or_self, Bool.false_eq_true, if_false, wn i (show i < l.length by omega) (by omega)]
    exact ih (i + 1) (by omega) (by omega)
theorem sameFrames_refl (l : List S47) (hl : l.length ≤ 104857600) : Ev (fun k => laws_sameFrames.f k l l) true := by
  unfold laws_sameFrames.f
  simp only [if_true]
  exact sameFrames_l0 l hl _ 0 rfl (by omega)

/-! places -/
theorem drawPlaces_l0 (l : List Int) (hl : l.length ≤ 1048576) (d : Nat) : ∀ (i : Nat) (acc : List Int) (p s : Int), 12 - i = d → i ≤ 12 → acc.length = i → (∀ x, x ∈ acc → 0 ≤ x ∧ x < 10000) → Inside l p →
    ∃ r : List Int, Ev (fun k => spec_DrawPlaces.l0 k acc (i : Int) l p s) r ∧ r.length = 12 ∧ ∀ x, x ∈ r → 0 ≤ x ∧ x < 10000 := by
  induction d with
  | zero =>
    intro i acc p s hd hi ha hx hp
    refine ⟨acc, ev_succ ?_, by omega, hx⟩
    simp only [spec_DrawPlaces.l0, if_neg (show ¬ (i : Int) < 12 by omega)]
    exact ev_some rfl
  | succ d ih =>
    intro i acc p s hd hi ha hx hp
    obtain ⟨b, p1, s1, e, hb, hp1⟩ := l01Below_some l hl p s 10000 hp
    have hb2 := hb.2 (by omega)
    obtain ⟨r, hr, hrl, hrx⟩ := ih (i + 1) (acc ++ [b]) p1 s1 (by omega) (by omega) (by simp; omega) (fun x hm => by
      rcases List.mem_append.1 hm with hm | hm
      · exact hx x hm
      · rw [List.mem_singleton.1 hm]; exact ⟨hb.1, hb2⟩) hp1
    refine ⟨r, ev_succ ?_, hrl, hrx⟩
    simp only [spec_DrawPlaces.l0, if_pos (show (i : Int) < 12 by omega), e, Option.bind_some, if_pos (show acc.length < 17592186044416 by omega), wn i (show i < 12 by omega) (by omega)]
    exact hr
theorem spec_DrawPlaces_some (l : List Int) (hl : l.length ≤ 1048576) : ∃ r : List Int, Ev (fun k => spec_DrawPlaces.f k l) r ∧ r.length = 12 ∧ ∀ x, x ∈ r → 0 ≤ x ∧ x < 10000 := by
  unfold spec_DrawPlaces.f
  obtain ⟨s, hs⟩ := l01New_some l hl
  obtain ⟨b, p1, s1, e, _, hp1⟩ := l01Byte_some l hl 0 s (inside0 l)
  obtain ⟨r, hr, hrl, hrx⟩ := drawPlaces_l0 l hl 12 0 [] p1 s1 (by omega) (by omega) rfl (fun x hm => by simp at hm) hp1
  refine ⟨r, ?_, hrl, hrx⟩
  refine Ev.bind hs ?_
  simp only [e, Option.bind_some]
  exact hr
theorem place_at {P : List Int} (hPl : P.length = 12) (hPx : ∀ x, x ∈ P → 0 ≤ x ∧ x < 10000) (i : Nat) (hi : i < 12) : 0 ≤ rd P (i : Int) ∧ rd P (i : Int) < 10000 := by
  refine hPx _ ?_
  unfold rd
  rw [Int.toNat_natCast, List.getD_eq_getElem?_getD, List.getElem?_eq_getElem (show i < P.length by omega)]
  exact List.getElem_mem _

def toF (x : S47) : Fr := (x.f0, x.f1, x.f2)
theorem toS_toF (L : List S47) : (L.map toF).map toS = L := by
  rw [List.map_map]
  conv => rhs; rw [← List.map_id L]
  rfl
def Right3 (L : List S47) : Prop := ∀ f, f ∈ L → f.f0 = 3 ∧ (1 ≤ f.f1 ∧ f.f1 ≤ 200) ∧ (1 ≤ f.f2.size ∧ f.f2.size ≤ 20)
theorem drawFrames_l0 (l : List Int) (hl : l.length ≤ 1048576) (d : Nat) : ∀ (i : Nat) (acc : List S47) (p s : Int), 6 - i = d → i ≤ 6 → acc.length = i → Right3 acc → Inside l p → ∃ L, Ev (fun k => spec_DrawFrames.l0 k acc (i : Int) l p s) L ∧ L.length ≤ 6 ∧ Right3 L := by
  induction d with
  | zero =>
    intro i acc p s hd hi ha hR hp
    obtain ⟨b, p1, s1, e, hb, hp1⟩ := l01Below_some l hl p s 6 hp
    have hb2 := hb.2 (by omega)
    refine ⟨acc, ev_succ ?_, by omega, hR⟩
    simp only [spec_DrawFrames.l0, e, Option.bind_some, if_neg (show ¬ (i : Int) < b by omega)]
    exact ev_some rfl
  | succ d ih =>
    intro i acc p s hd hi ha hR hp
    obtain ⟨b, p1, s1, e, hb, hp1⟩ := l01Below_some l hl p s 6 hp
    by_cases h : (i : Int) < b
    · obtain ⟨g, q, t, p2, s2, hf, h1, h2, h3, hp2⟩ := l04Frame_some l hl p1 s1 hp1
      obtain ⟨L, hL, hLl, hLR⟩ := ih (i + 1) (acc ++ [(⟨3, q, t⟩ : S47)]) p2 s2 (by omega) (by omega) (by simp; omega) (fun f hm => by
        rcases List.mem_append.1 hm with hm | hm
        · exact hR f hm
        · rw [List.mem_singleton.1 hm]; exact ⟨rfl, h2, h3⟩) hp2
      refine ⟨L, ev_succ ?_, hLl, hLR⟩
      simp only [spec_DrawFrames.l0, e, Option.bind_some, if_pos h]
      refine Ev.bind hf ?_
      simp only [if_pos (show acc.length < 4398046511104 by omega), wn i (show i < 6 by omega) (by omega)]
      exact hL
    · refine ⟨acc, ev_succ ?_, by omega, hR⟩
      simp only [spec_DrawFrames.l0, e, Option.bind_some, if_neg h]
      exact ev_some rfl
theorem spec_DrawFrames_some (l : List Int) (hl : l.length ≤ 1048576) : ∃ L, Ev (fun k => spec_DrawFrames.f k l) L ∧ L.length ≤ 6 ∧ Right3 L := by
  unfold spec_DrawFrames.f
  obtain ⟨s, hs⟩ := l01New_some l hl
  obtain ⟨L, h, h1, h2⟩ := drawFrames_l0 l hl 6 0 [] 0 s (by omega) (by omega) rfl (fun f hm => by simp at hm) (inside0 l)
  exact ⟨L, Ev.bind hs h, h1, h2⟩
def joined (L : List S47) (i : Nat) : ByteArray := joinT ByteArray.empty ((L.map toF).take i)
def ends (L : List S47) (i : Nat) : List Int := (List.range (i + 1)).map (fun j => ((joined L j).size : Int))
theorem ends_succ (L : List S47) (i : Nat) : ends L (i + 1) = ends L i ++ [((joined L (i + 1)).size : Int)] := by
  unfold ends
  rw [List.range_succ, List.map_append]
  rfl
theorem ends_length (L : List S47) (i : Nat) : (ends L i).length = i + 1 := by unfold ends; simp
theorem ends_rd (L : List S47) (i j : Nat) (h : j ≤ i) : rd (ends L i) (j : Int) = ((joined L j).size : Int) := by
  unfold rd ends
  rw [Int.toNat_natCast, List.getD_eq_getElem?_getD, List.getElem?_map, List.getElem?_range (show j < i + 1 by omega)]
  rfl
theorem joined_succ (L : List S47) (i : Nat) (h : i < L.length) : joined L (i + 1) = joined L i ++ frT (toF (L.getD i z47)) := by
  unfold joined
  rw [List.take_succ_eq_append_getElem (by rw [List.length_map]; exact h), joinT_snoc]
  congr 2
  rw [List.getElem_map, List.getD_eq_getElem?_getD, List.getElem?_eq_getElem h]
  rfl
theorem joined_size (L : List S47) : ∀ i : Nat, i ≤ L.length → (joined L i).size ≤ 20004 * i := by
  intro i
  induction i with
  | zero => intro _; exact Nat.le_refl _
  | succ i ih =>
    intro h
    have := ih (by omega)
    rw [joined_succ L i (by omega), size_append]
    have := frameTextM_size (toF (L.getD i z47)).1 (toF (L.getD i z47)).2.1 (toF (L.getD i z47)).2.2
    unfold frT
    omega
theorem rd_F (l : List S47) (i : Nat) : rd_T47 l (i : Int) = l.getD i z47 := by unfold rd_T47; rw [Int.toNat_natCast]
theorem FnFrames_end (l : List Int) (hl : l.length ≤ 1048576) (L : List S47) (hLl : L.length ≤ 6) (hok : ∀ x, x ∈ L.map toF → frameOkM x.1 x.2.1 x.2.2 = true ∧ x.1 = 3) :
    Ev (fun k => laws_FnFrames.j1 k l L (joined L L.length) (ends L L.length) false) true := by
  have hall : (L.map toF).take L.length = L.map toF := List.take_of_length_le (by rw [List.length_map]; exact Nat.le_refl _)
  have hz := joined_size L L.length (Nat.le_refl _)
  obtain ⟨S, hS⟩ : ∃ S, joined L L.length = S := ⟨_, rfl⟩
  rw [hS] at hz
  obtain ⟨P, hP, hPl, hPx⟩ := spec_DrawPlaces_some l hl
  have hP0 := place_at hPl hPx 0 (by omega)
  have ew : wrap64 ((S.size : Int) + 1) = (S.size : Int) + 1 := w64 (by omega) (by omega)
  have hp0 := Int.tmod_nonneg ((S.size : Int) + 1) hP0.1
  have hp1 := Int.tmod_lt_of_pos (rd P ((0 : Nat) : Int)) (show (0 : Int) < (S.size : Int) + 1 by omega)
  obtain ⟨k, hk⟩ := Int.eq_ofNat_of_zero_le hp0
  rw [hk] at hp1
  have hk' : Int.tmod (rd P 0) ((S.size : Int) + 1) = (k : Int) := hk
  have hxs : (S.extract 0 k).size = k := by rw [size_extract]; omega
  have hjoin : joinT ByteArray.empty (L.map toF) = S := by rw [← hS]; unfold joined; rw [hall]
  obtain ⟨m, hm1, hm2, hm3, hm4⟩ := scan_cut 3 k (L.map toF) ByteArray.empty (k + 1) hok (by show k < k + 1 + 0; omega) (Nat.zero_le _) (by rw [hjoin]; omega)
  rw [List.length_map] at hm1 hm4
  have hscan : scanM (S.extract 0 k) 3 = ((L.map toF).take m, ((joined L m).size : Int)) := by
    unfold scanM
    rw [hxs, ← hjoin]
    exact hm2
  have h1 := impl_ScanFrames_ev (S.extract 0 k) (by omega) 3
  rw [hscan] at h1
  simp only at h1
  have hmap : ((L.map toF).take m).map toS = L.take m := by rw [← List.map_take, toS_toF]
  rw [hmap] at h1
  have hlen : (L.take m).length = m := by rw [List.length_take]; omega
  have hjm : (joined L m).size ≤ k := hm3
  refine ev_succ ?_
  simp only [laws_FnFrames.j1, Bool.false_eq_true, if_false, hS]
  refine Ev.bind hP ?_
  simp only [hPl, if_pos (show (0 : Int) < ((12 : Nat) : Int) by omega), ew]
  clear ew
  simp only [hk', if_neg (show ¬ (S.size : Int) + 1 = 0 by omega), if_pos (show (0 : Int) ≤ (k : Int) by omega), if_pos (show (k : Int) ≤ (S.size : Int) by omega), Int.toNat_natCast]
  refine Ev.bind h1 ?_
  simp only [hlen, ends_length, if_pos (show (m : Int) < ((L.length + 1 : Nat) : Int) by omega), if_pos (show (0 : Int) ≤ (m : Int) by omega), ends_rd L L.length m hm1, if_true, if_pos (show ((joined L m).size : Int) ≤ (k : Int) by omega), if_pos (show (m : Int) ≤ (L.length : Int) by omega), Int.toNat_natCast]
  refine Ev.bind (sameFrames_refl (L.take m) (by omega)) ?_
  simp only [if_true]
  by_cases hmm : (m : Int) = (L.length : Int)
  · simp only [if_pos hmm]
    exact ev_some rfl
  · have hgt : k < (joined L (m + 1)).size := by
      rcases hm4 with h | h
      · omega
      · exact h
    have hml : m < L.length := by omega
    have f1 : (0 : Int) ≤ ((m + 1 : Nat) : Int) := by omega
    have f2 : ((m + 1 : Nat) : Int) < ((L.length + 1 : Nat) : Int) := by omega
    have f3 : ((joined L (m + 1)).size : Int) > (k : Int) := by omega
    simp only [if_neg hmm, wn m hml (show L.length ≤ 140737488355328 by omega), if_pos f1, if_pos f2, ends_rd L L.length (m + 1) hml, decide_eq_true f3]
    exact ev_some rfl
theorem FnFrames_l0 (l : List Int) (hl : l.length ≤ 1048576) (L : List S47) (hLl : L.length ≤ 6) (hok : ∀ x, x ∈ L.map toF → frameOkM x.1 x.2.1 x.2.2 = true ∧ x.1 = 3) (d : Nat) :
    ∀ i : Nat, L.length - i = d → i ≤ L.length → Ev (fun k => laws_FnFrames.l0 k l L (joined L i) (ends L i) (i : Int)) true := by
  induction d with
  | zero =>
    intro i hd hi
    obtain rfl : i = L.length := by omega
    have hz := joined_size L L.length (Nat.le_refl _)
    have h1 := impl_ScanFrames_ev (joined L L.length) (by omega) 3
    have hj : joined L L.length = joinT ByteArray.empty (L.map toF) := by
      unfold joined
      rw [List.take_of_length_le (by rw [List.length_map]; exact Nat.le_refl _)]
    have hs : scanM (joined L L.length) 3 = (L.map toF, ((joined L L.length).size : Int)) := by rw [hj]; exact scanM_all 3 _ hok
    rw [hs] at h1
    simp only [toS_toF] at h1
    refine ev_succ ?_
    simp only [laws_FnFrames.l0, if_neg (show ¬ (L.length : Int) < (L.length : Int) by omega)]
    refine Ev.bind h1 ?_
    refine Ev.bind (sameFrames_refl L (by omega)) ?_
    simp only [if_true, bne_self_eq_false]
    exact FnFrames_end l hl L hLl hok
  | succ d ih =>
    intro i hd hi
    have hlt : i < L.length := by omega
    have hmem : toF (L.getD i z47) ∈ L.map toF := by
      rw [List.getD_eq_getElem?_getD, List.getElem?_eq_getElem hlt]
      exact List.mem_map.2 ⟨_, List.getElem_mem hlt, rfl⟩
    obtain ⟨ho, hg⟩ := hok _ hmem
    have h1 := impl_FrameText_ev (L.getD i z47).f0 (L.getD i z47).f1 (L.getD i z47).f2
    have h2 := impl_FrameSize_ev (L.getD i z47).f0 (L.getD i z47).f1 (L.getD i z47).f2
    have hok2 : (frameTextM (L.getD i z47).f0 (L.getD i z47).f1 (L.getD i z47).f2).2 = true := by
      have ho2 : frameOkM (L.getD i z47).f0 (L.getD i z47).f1 (L.getD i z47).f2 = true := ho
      rw [frameTextM_ok _ _ _ ho2]
    have hft : (frameTextM (L.getD i z47).f0 (L.getD i z47).f1 (L.getD i z47).f2).1 = frT (toF (L.getD i z47)) := rfl
    have hz := joined_size L (i + 1) (by omega)
    have hj := joined_succ L i hlt
    have hz2 : (joined L i).size + (frT (toF (L.getD i z47))).size ≤ 9223372036854775807 := by rw [hj, size_append] at hz; omega
    refine ev_succ ?_
    simp only [laws_FnFrames.l0, if_pos (show (i : Int) < (L.length : Int) by omega), if_pos (show (0 : Int) ≤ (i : Int) by omega), rd_F]
    refine Ev.bind h1 ?_
    simp only [hok2, if_true]
    refine Ev.bind h2 ?_
    simp only [if_true, hft, if_pos hz2, ends_length, if_pos (show i + 1 < 17592186044416 by omega), wn i hlt (show L.length ≤ 140737488355328 by omega)]
    rw [← hj, ← ends_succ]
    exact ih (i + 1) (by omega) (by omega)
theorem FnFrames : laws_FnFrames.Pure := by
  intro l _ _ _
  refine Ev.rounds ?_
  unfold laws_FnFrames.f laws_big.f
  simp only [Option.bind_some]
  by_cases hz : (l.length : Int) > 1048576
  · simp only [decide_eq_true hz, if_true]
    exact ev_some rfl
  simp only [decide_eq_false hz, Bool.false_eq_true, if_false]
  have hl : l.length ≤ 1048576 := by omega
  obtain ⟨L, hL, hLl, hLR⟩ := spec_DrawFrames_some l hl
  refine Ev.bind hL ?_
  have hok : ∀ x, x ∈ L.map toF → frameOkM x.1 x.2.1 x.2.2 = true ∧ x.1 = 3 := by
    intro x hx
    obtain ⟨f, hf, rfl⟩ := List.mem_map.1 hx
    obtain ⟨h1, h2, h3⟩ := hLR f hf
    refine ⟨decide_eq_true ⟨?_, ?_, ?_⟩, h1⟩
    · show 1 ≤ f.f0 ∧ f.f0 ≤ 1000000000; omega
    · show 1 ≤ f.f1 ∧ f.f1 ≤ 1000000000; omega
    · show 1 ≤ (f.f2.size : Int) ∧ (f.f2.size : Int) ≤ 180; omega
  exact FnFrames_l0 l hl L hLl hok _ 0 rfl (by omega)

end Go.Proofs.Ytneffinmiffhpaa.Pure
