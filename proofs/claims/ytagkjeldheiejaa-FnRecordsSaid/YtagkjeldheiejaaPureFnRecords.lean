/- The pure statement of FnRecords, over numbers and lists: it is true of every argument; no condition but the bounds that the statement itself names. -/
import Derived.Test.YtagkjeldheiejaaPFnRecordsx15
import Derived.Test.YtagkjeldheiejaaVFnRecords1
set_option linter.unusedVariables false
set_option linter.unusedSimpArgs false
namespace Go.Proofs.Ytagkjeldheiejaa.Pure
open Go.RowKit Go.Proofs.Ytagkjeldheiejaa.PFnRecords Go.Proofs.YtagkjeldheiejaaW.PrintWords Go.Proofs.YtagkjeldheiejaaW.PrintLast Go.Proofs.YtagkjeldheiejaaW.PrintMore Go.Proofs.Ytagkjeldheiejaa.Base

/-! draws -/
theorem and255 (x : Int) : 0 ≤ bits .and .i64 x 255 ∧ bits .and .i64 x 255 ≤ 255 := by
  unfold bits
  have h : (BitVec.ofInt (IntKind.bits .i64) x &&& BitVec.ofInt (IntKind.bits .i64) 255).toNat ≤ 255 := by
    rw [BitVec.toNat_and]
    exact Nat.le_trans Nat.and_le_right (by decide)
  simp only
  rw [b_wraps_i64 _ (by omega) (by omega)]
  omega
/-- Where a drawing stands: inside its bytes. -/
def Inside (l : List Int) (p : Int) : Prop := 0 ≤ p ∧ p ≤ (l.length : Int)
theorem l01Byte_some (l : List Int) (hl : l.length ≤ 1048576) (p s : Int) (hp : Inside l p) : ∃ b p' s', spec_l01Byte.f l p s = some (b, p', s') ∧ (0 ≤ b ∧ b ≤ 255) ∧ Inside l p' := by
  obtain ⟨h0, h1⟩ := hp
  unfold spec_l01Byte.f
  by_cases h : p < (l.length : Int)
  · rw [if_pos h, if_pos h0]
    refine ⟨_, _, _, rfl, and255 _, ?_⟩
    have e := w64 (x := p + 1) (by omega) (by omega)
    rw [e]
    exact ⟨by omega, by omega⟩
  · rw [if_neg h]
    exact ⟨_, _, _, rfl, and255 _, h0, h1⟩
theorem l01Below_some (l : List Int) (hl : l.length ≤ 1048576) (p s n : Int) (hp : Inside l p) : ∃ b p' s', spec_l01Below.f l p s n = some (b, p', s') ∧ (0 ≤ b ∧ (0 < n → b < n)) ∧ Inside l p' := by
  unfold spec_l01Below.f
  by_cases h : n ≤ 0
  · rw [if_pos h]
    exact ⟨_, _, _, rfl, ⟨Int.le_refl _, fun h2 => by omega⟩, hp⟩
  · rw [if_neg h]
    by_cases h2 : n ≤ 256
    · rw [if_pos h2]
      obtain ⟨b, p', s', e, hb, hp'⟩ := l01Byte_some l hl p s hp
      simp only [e, Option.bind_some, if_neg (show ¬ n = 0 by omega)]
      exact ⟨_, _, _, rfl, ⟨Int.tmod_nonneg _ hb.1, fun h3 => Int.tmod_lt_of_pos _ h3⟩, hp'⟩
    · rw [if_neg h2]
      obtain ⟨b1, p1, s1, e1, hb1, hp1⟩ := l01Byte_some l hl p s hp
      obtain ⟨b2, p2, s2, e2, hb2, hp2⟩ := l01Byte_some l hl p1 s1 hp1
      obtain ⟨b3, p3, s3, e3, hb3, hp3⟩ := l01Byte_some l hl p2 s2 hp2
      obtain ⟨b4, p4, s4, e4, hb4, hp4⟩ := l01Byte_some l hl p3 s3 hp3
      simp only [e1, e2, e3, e4, Option.bind_some, if_neg (show ¬ n = 0 by omega)]
      refine ⟨_, _, _, rfl, ⟨Int.tmod_nonneg _ ?_, fun h3 => Int.tmod_lt_of_pos _ h3⟩, hp4⟩
      have a1 := w64 (x := b1 * 16777216) (by omega) (by omega)
      rw [a1]
      clear a1
      have a2 := w64 (x := b2 * 65536) (by omega) (by omega)
      rw [a2]
      clear a2
      have a3 := w64 (x := b3 * 256) (by omega) (by omega)
      rw [a3]
      clear a3
      have a4 := w64 (x := b1 * 16777216 + b2 * 65536) (by omega) (by omega)
      rw [a4]
      clear a4
      have a5 := w64 (x := b1 * 16777216 + b2 * 65536 + b3 * 256) (by omega) (by omega)
      rw [a5]
      clear a5
      have a6 := w64 (x := b1 * 16777216 + b2 * 65536 + b3 * 256 + b4) (by omega) (by omega)
      rw [a6]
      omega
theorem l01Text_l0 (l : List Int) (hl : l.length ≤ 1048576) (n : Nat) (hn : n ≤ 5000) (d : Nat) : ∀ (i : Nat) (acc : List Int) (p s : Int), n - i = d → i ≤ n → acc.length = i → Inside l p →
    ∃ (t : ByteArray) (p' s' : Int), Ev (fun k => spec_l01Text.l0 k (n : Int) acc (i : Int) l p s) (t, p', s') ∧ t.size = n ∧ Inside l p' := by
  induction d with
  | zero =>
    intro i acc p s hd hi ha hp
    refine ⟨strOfNums acc, p, s, ev_succ ?_, by rw [strOfNums_size]; omega, hp⟩
    simp only [spec_l01Text.l0, if_neg (show ¬ (i : Int) < (n : Int) by omega)]
    exact ev_some rfl
  | succ d ih =>
    intro i acc p s hd hi ha hp
    obtain ⟨b, p1, s1, e, hb, hp1⟩ := l01Byte_some l hl p s hp
    obtain ⟨t, p', s', h, hs, hp'⟩ := ih (i + 1) (acc ++ [b % 256]) p1 s1 (by omega) (by omega) (by simp; omega) hp1
    refine ⟨t, p', s', ev_succ ?_, hs, hp'⟩
    simp only [spec_l01Text.l0, if_pos (show (i : Int) < (n : Int) by omega), e, Option.bind_some, if_pos (show acc.length < 140737488355328 by omega), wn i (show i < n by omega) (by omega)]
    exact h
theorem l01Text_some (l : List Int) (hl : l.length ≤ 1048576) (p s n : Int) (hn : 0 ≤ n ∧ n ≤ 5000) (hp : Inside l p) : ∃ (t : ByteArray) (p' s' : Int), Ev (fun k => spec_l01Text.f k l p s n) (t, p', s') ∧ (t.size : Int) = n ∧ Inside l p' := by
  obtain ⟨m, rfl⟩ := Int.eq_ofNat_of_zero_le hn.1
  obtain ⟨t, p', s', h, hs, hp'⟩ := l01Text_l0 l hl m (by omega) m 0 [] p s (by omega) (by omega) rfl hp
  refine ⟨t, p', s', ?_, by omega, hp'⟩
  unfold spec_l01Text.f
  simp only [if_neg (show ¬ (m : Int) > 5000 by omega)]
  refine ev_succ ?_
  simp only [spec_l01Text.j0]
  exact h
theorem l01New_l0 (l : List Int) (hl : l.length ≤ 1048576) (d : Nat) : ∀ (i : Nat) (s : Int), l.length - i = d → i ≤ l.length → ∃ s', Ev (fun k => spec_l01New.l0 k l s (i : Int)) (l, 0, s') := by
  induction d with
  | zero =>
    intro i s hd hi
    refine ⟨s, ev_succ ?_⟩
    simp only [spec_l01New.l0, if_neg (show ¬ (i : Int) < (l.length : Int) by omega)]
    exact ev_some rfl
  | succ d ih =>
    intro i s hd hi
    by_cases h : (i : Int) < 4000
    · obtain ⟨s', hs⟩ := ih (i + 1) (bits .and .i64 (wrap64 ((wrap64 ((wrap64 (s * 131)) + (wrap64 (rd l (i : Int))))) + 7)) 1073741823) (by omega) (by omega)
      refine ⟨s', ev_succ ?_⟩
      simp only [spec_l01New.l0, if_pos (show (i : Int) < (l.length : Int) by omega), if_pos h, if_pos (show (0 : Int) ≤ (i : Int) by omega), wn i (show i < l.length by omega) (by omega)]
      exact hs
    · refine ⟨s, ev_succ ?_⟩
      simp only [spec_l01New.l0, if_pos (show (i : Int) < (l.length : Int) by omega), if_neg h]
      exact ev_some rfl
theorem l01New_some (l : List Int) (hl : l.length ≤ 1048576) : ∃ s', Ev (fun k => spec_l01New.f k l) (l, 0, s') := by
  unfold spec_l01New.f
  exact l01New_l0 l hl l.length 0 _ (by omega) (by omega)
theorem inside0 (l : List Int) : Inside l 0 := ⟨Int.le_refl _, by omega⟩

/-! pick -/
theorem l01Long_l0 (n : Nat) (v : Int) (hn : n ≤ 100000) (d : Nat) : ∀ (i : Nat) (acc : List Int), n - i = d → i ≤ n → acc.length = n → ∃ t : ByteArray, Ev (fun k => spec_l01Long.l0 k (n : Int) v acc (i : Int)) t ∧ t.size = n := by
  induction d with
  | zero =>
    intro i acc hd hi ha
    refine ⟨strOfNums acc, ev_succ ?_, by rw [strOfNums_size]; exact ha⟩
    simp only [spec_l01Long.l0, if_neg (show ¬ (i : Int) < (n : Int) by omega)]
    exact ev_some rfl
  | succ d ih =>
    intro i acc hd hi ha
    obtain ⟨t, h, hs⟩ := ih (i + 1) (acc.set i v) (by omega) (by omega) (by rw [List.length_set]; exact ha)
    refine ⟨t, ev_succ ?_, hs⟩
    simp only [spec_l01Long.l0, if_pos (show (i : Int) < (n : Int) by omega), if_pos (show (0 : Int) ≤ (i : Int) by omega), ha, Int.toNat_natCast, wn i (show i < n by omega) (by omega)]
    exact h
theorem l01Long_some (n : Int) (v : Int) (hn : 0 ≤ n ∧ n ≤ 100000) : ∃ t : ByteArray, Ev (fun k => spec_l01Long.f k n v) t ∧ (t.size : Int) = n := by
  obtain ⟨m, rfl⟩ := Int.eq_ofNat_of_zero_le hn.1
  obtain ⟨t, h, hs⟩ := l01Long_l0 m v (by omega) m 0 (List.replicate m 0) (by omega) (by omega) (by simp)
  refine ⟨t, ?_, by omega⟩
  unfold spec_l01Long.f
  simp only [if_pos hn.1, Int.toNat_natCast, if_pos (show m ≤ 281474976710656 by omega)]
  exact h
theorem l01PickInt_some (l : List Int) (hl : l.length ≤ 1048576) (p s : Int) (hp : Inside l p) (L : List Int) (hL : 0 < L.length) : ∃ v p' s', spec_l01PickInt.f l p s L = some (v, p', s') ∧ v ∈ L ∧ Inside l p' := by
  unfold spec_l01PickInt.f
  obtain ⟨b, p1, s1, e, hb, hp1⟩ := l01Below_some l hl p s (L.length : Int) hp
  have h2 := hb.2 (by omega)
  refine ⟨rd L b, p1, s1, ?_, ?_, hp1⟩
  · simp only [e, Option.bind_some, if_pos hb.1, if_pos h2]
  · unfold rd
    rw [List.getD_eq_getElem?_getD, List.getElem?_eq_getElem (show b.toNat < L.length by omega)]
    exact List.getElem_mem _

/-! drawframe -/

/-! in -/
theorem spec_in_eq (a b c : Int) : spec_l01In.f a b c = some (decide (b ≤ a ∧ a ≤ c)) := by
  unfold spec_l01In.f
  by_cases h : a ≥ b <;> by_cases h2 : a ≤ c <;> simp [h, h2] <;> omega
theorem impl_in_eq (a b c : Int) : impl_in.f a b c = some (decide (b ≤ a ∧ a ≤ c)) := by
  unfold impl_in.f
  by_cases h : a ≥ b <;> by_cases h2 : a ≤ c <;> simp [h, h2] <;> omega

/-! frameok -/
theorem impl_FrameOk_eq (a b : Int) (c : ByteArray) : impl_FrameOk.f a b c = some (frameOkM a b c) := by
  unfold impl_FrameOk.f frameOkM
  simp only [impl_in_eq, Option.bind_some]
  by_cases h1 : 1 ≤ a ∧ a ≤ 1000000000 <;> by_cases h2 : 1 ≤ b ∧ b ≤ 1000000000 <;> simp [h1, h2]

/-! sum -/

/-! seal -/

/-! var -/
theorem spec_l01Var_l0 (n : Nat) : ∀ (acc : List Int), n < 9223372036854775808 → acc.length + (varL n).length < 140737488355328 →
    Ev (fun k => spec_l01Var.l0 k (n : Int) acc) (strOfNums (acc ++ varL n)) := by
  induction n using Nat.strongRecOn with
  | _ n ih =>
    intro acc hn hl
    refine ev_succ ?_
    by_cases h : 127 < n
    · rw [varL_big h] at hl ⊢
      rw [List.length_cons] at hl
      simp only [spec_l01Var.l0, if_pos (show (n : Int) > 127 from by omega), if_pos (show acc.length < 140737488355328 from by omega)]
      have e1 : wrap64 (Int.tdiv (n : Int) 128) = ((n / 128 : Nat) : Int) := by
        rw [Int.tdiv_eq_ediv_of_nonneg (by omega), w64 (by omega) (by omega)]; omega
      have e2 : wrap64 (Int.tmod (n : Int) 128 + 128) % 256 = ((n % 128 + 128 : Nat) : Int) := by
        rw [Int.tmod_eq_emod_of_nonneg (by omega), w64 (by omega) (by omega)]; omega
      simp only [e1, e2]
      have := ih (n / 128) (by omega) (acc ++ [((n % 128 + 128 : Nat) : Int)]) (by omega) (by simp; omega)
      simpa using this
    · rw [varL_small (by omega)] at hl ⊢
      have hl' : acc.length + 1 < 140737488355328 := by simpa using hl
      simp only [spec_l01Var.l0, if_neg (show ¬ (n : Int) > 127 from by omega), if_pos (show acc.length < 140737488355328 from by omega)]
      rw [show (n : Int) % 256 = (n : Int) from by omega]
      exact ev_some rfl
theorem impl_varText_l0 (n : Nat) : ∀ (acc : List Int), n < 9223372036854775808 → acc.length + (varL n).length < 140737488355328 →
    Ev (fun k => impl_varText.l0 k (n : Int) acc) (strOfNums (acc ++ varL n)) := by
  induction n using Nat.strongRecOn with
  | _ n ih =>
    intro acc hn hl
    refine ev_succ ?_
    by_cases h : 127 < n
    · rw [varL_big h] at hl ⊢
      rw [List.length_cons] at hl
      simp only [impl_varText.l0, if_pos (show (n : Int) > 127 from by omega), if_pos (show acc.length < 140737488355328 from by omega)]
      have e1 : (n : Int) / 128 = ((n / 128 : Nat) : Int) := by omega
      have e2 : (Go.bits .or .i64 (Go.bits .and .i64 (n : Int) 127) 128) % 256 = ((n % 128 + 128 : Nat) : Int) := by
        rw [b_and127 _ (by omega) (by omega), b_or128 _ (by omega) (by omega)]; omega
      simp only [e1, e2]
      have := ih (n / 128) (by omega) (acc ++ [((n % 128 + 128 : Nat) : Int)]) (by omega) (by simp; omega)
      simpa using this
    · rw [varL_small (by omega)] at hl ⊢
      have hl' : acc.length + 1 < 140737488355328 := by simpa using hl
      simp only [impl_varText.l0, if_neg (show ¬ (n : Int) > 127 from by omega), if_pos (show acc.length < 140737488355328 from by omega)]
      rw [show (n : Int) % 256 = (n : Int) from by omega]
      exact ev_some rfl
theorem spec_l01Var_ev (n : Nat) (h : n < 70368744177664) : Ev (fun k => spec_l01Var.f k (n : Int)) (varS n) := by
  have := varL_length n
  simpa [spec_l01Var.f, varS] using spec_l01Var_l0 n [] (by omega) (by simp; omega)
theorem impl_varText_ev (n : Nat) (h : n < 70368744177664) : Ev (fun k => impl_varText.f k (n : Int)) (varS n) := by
  have := varL_length n
  simpa [impl_varText.f, varS] using impl_varText_l0 n [] (by omega) (by simp; omega)
theorem spec_l01Var_ev' (a : Int) (h0 : 0 ≤ a) (h : a < 70368744177664) : Ev (fun k => spec_l01Var.f k a) (varS a.toNat) := by
  obtain ⟨n, rfl⟩ := Int.eq_ofNat_of_zero_le h0
  exact spec_l01Var_ev n (by omega)
theorem impl_varText_ev' (a : Int) (h0 : 0 ≤ a) (h : a < 70368744177664) : Ev (fun k => impl_varText.f k a) (varS a.toNat) := by
  obtain ⟨n, rfl⟩ := Int.eq_ofNat_of_zero_le h0
  exact impl_varText_ev n (by omega)

/-! frametext -/

/-! drawfr -/
theorem l02Spoilt_some (l : List Int) (hl : l.length ≤ 1048576) (p s : Int) (hp : Inside l p) (x : ByteArray) (hx : x.size ≤ 1000000) : ∃ (t : ByteArray) (p' s' : Int), Ev (fun k => spec_l02Spoilt.f k l p s x) (t, p', s') ∧ t.size ≤ x.size + 1 ∧ Inside l p' := by
  unfold spec_l02Spoilt.f
  obtain ⟨k, p1, s1, e, hk, hp1⟩ := l01Below_some l hl p s 12 hp
  have hj : ∀ c : Bool, ∃ (t : ByteArray) (p' s' : Int), Ev (fun k => spec_l02Spoilt.j0 k x c l p1 s1) (t, p', s') ∧ t.size ≤ x.size + 1 ∧ Inside l p' := by
    intro c
    cases c with
    | false =>
      refine ⟨x, p1, s1, ev_succ ?_, by omega, hp1⟩
      simp only [spec_l02Spoilt.j0, Bool.false_eq_true, if_false]
      exact ev_some rfl
    | true =>
      by_cases h0 : (x.size : Int) > 0
      · obtain ⟨i, p2, s2, e2, hi, hp2⟩ := l01Below_some l hl p1 s1 (x.size : Int) hp1
        have hi2 := hi.2 (by omega)
        obtain ⟨t, p3, s3, ht, hts, hp3⟩ := l01Text_some l hl p2 s2 1 (by omega) hp2
        obtain ⟨n, rfl⟩ := Int.eq_ofNat_of_zero_le hi.1
        have e1 : Aside0 (wrap64 ((n : Int) + 1) = ((n + 1 : Nat) : Int)) := ⟨wn n (show n < x.size by omega) (by omega)⟩
        have z1 : (x.extract 0 n).size = n := by rw [size_extract]; omega
        have z2 : (x.extract (n + 1) x.size).size = x.size - (n + 1) := by rw [size_extract]; omega
        have g1 : (x.extract 0 n).size + t.size ≤ 9223372036854775807 := by omega
        have g2 : (x.extract 0 n).size + t.size + (x.extract (n + 1) x.size).size ≤ 9223372036854775807 := by omega
        refine ⟨((x.extract 0 n) ++ t) ++ (x.extract (n + 1) x.size), p3, s3, ev_succ ?_, by rw [size_append, size_append]; omega, hp3⟩
        have f1 : (0 : Int) ≤ (n : Int) := by omega
        have f2 : (n : Int) ≤ (x.size : Int) := by omega
        have f3 : (0 : Int) ≤ ((n + 1 : Nat) : Int) := by omega
        have f4 : ((n + 1 : Nat) : Int) ≤ (x.size : Int) := by omega
        simp only [spec_l02Spoilt.j0, if_true, if_pos h0, e2, Option.bind_some, if_pos f1, if_pos f2, Int.toNat_natCast]
        refine Ev.bind ht ?_
        simp only [if_pos g1, e1.out, if_pos f3, if_pos f4, Int.toNat_natCast, if_pos g2]
        exact ev_some rfl
      · refine ⟨x, p1, s1, ev_succ ?_, by omega, hp1⟩
        simp only [spec_l02Spoilt.j0, if_true, if_neg h0]
        exact ev_some rfl
  by_cases k0 : k = 0
  · obtain ⟨t, p2, s2, ht, hts, hp2⟩ := l01Text_some l hl p1 s1 1 (by omega) hp1
    have g1 : x.size + t.size ≤ 9223372036854775807 := by omega
    refine ⟨x ++ t, p2, s2, ?_, by rw [size_append]; omega, hp2⟩
    simp only [e, Option.bind_some, if_pos k0]
    refine Ev.bind ht ?_
    simp only [if_pos g1]
    exact ev_some rfl
  by_cases k1 : k = 1
  · obtain ⟨i, p2, s2, e2, hi, hp2⟩ := l01Below_some l hl p1 s1 ((x.size : Int) + 1) hp1
    have hi2 := hi.2 (by omega)
    obtain ⟨n, rfl⟩ := Int.eq_ofNat_of_zero_le hi.1
    have ew := w64 (x := (x.size : Int) + 1) (by omega) (by omega)
    refine ⟨x.extract 0 n, p2, s2, ?_, by rw [size_extract]; omega, hp2⟩
    simp only [e, Option.bind_some, if_neg k0, if_pos k1, ew]
    clear ew
    have f1 : (0 : Int) ≤ (n : Int) := by omega
    have f2 : (n : Int) ≤ (x.size : Int) := by omega
    simp only [e2, Option.bind_some, if_pos f1, if_pos f2, Int.toNat_natCast]
    exact ev_some rfl
  by_cases k2 : k = 2
  · obtain ⟨t, p2, s2, ht, hts, hp2⟩ := hj (k == 2)
    refine ⟨t, p2, s2, ?_, hts, hp2⟩
    simp only [e, Option.bind_some, if_neg k0, if_neg k1, if_pos k2]
    exact ht
  · obtain ⟨t, p2, s2, ht, hts, hp2⟩ := hj (k == 3)
    refine ⟨t, p2, s2, ?_, hts, hp2⟩
    simp only [e, Option.bind_some, if_neg k0, if_neg k1, if_neg k2]
    exact ht

/-! wordok -/
theorem spec_WordOk_l0 (x : ByteArray) (hx : x.size ≤ 140737488351232) (d : Nat) : ∀ i : Nat, x.size - i = d → i ≤ x.size →
    Ev (fun k => spec_WordOk.l0 k x (i : Int)) (wordB ((bytesOf x).drop i) && decide (1 ≤ (x.size : Int) ∧ (x.size : Int) ≤ 8)) := by
  induction d with
  | zero =>
    intro i hd hi
    refine ev_succ ?_
    simp only [spec_WordOk.l0, if_neg (show ¬ (i : Int) < (x.size : Int) from by omega), spec_in_eq, Option.bind_some]
    rw [bytes_end x i (by omega)]
    exact ev_some rfl
  | succ d ih =>
    intro i hd hi
    refine ev_succ ?_
    have hl : (i : Int) < (x.size : Int) := by omega
    rw [bytes_drop x i (by omega), wordB_cons]
    simp only [spec_WordOk.l0, if_pos hl, if_pos (show (0 : Int) ≤ (i : Int) from by omega), wn i (show i < x.size from by omega) (by omega)]
    by_cases h1 : bt x (i : Int) < 97
    · simp only [if_pos h1]
      rw [decide_eq_false (by omega)]
      exact ev_some rfl
    · by_cases h2 : bt x (i : Int) > 122
      · simp only [if_neg h1, if_pos h2]
        rw [decide_eq_false (by omega)]
        exact ev_some rfl
      · simp only [if_neg h1, if_neg h2]
        rw [decide_eq_true (by omega)]
        exact ih (i + 1) (by omega) (by omega)
theorem impl_WordOk_l0 (x : ByteArray) (hx : x.size ≤ 140737488351232) (d : Nat) : ∀ i : Nat, x.size - i = d → i ≤ x.size →
    Ev (fun k => impl_WordOk.l0 k x (x.size : Int) (i : Int)) (wordB ((bytesOf x).drop i)) := by
  induction d with
  | zero =>
    intro i hd hi
    refine ev_succ ?_
    simp only [impl_WordOk.l0, if_neg (show ¬ (i : Int) < (x.size : Int) from by omega)]
    rw [bytes_end x i (by omega)]
    exact ev_some rfl
  | succ d ih =>
    intro i hd hi
    refine ev_succ ?_
    have hl : (i : Int) < (x.size : Int) := by omega
    rw [bytes_drop x i (by omega), wordB_cons]
    simp only [impl_WordOk.l0, if_pos hl, if_pos (show (0 : Int) ≤ (i : Int) from by omega), wn i (show i < x.size from by omega) (by omega)]
    by_cases h1 : bt x (i : Int) < 97
    · simp only [if_pos h1]
      rw [decide_eq_false (by omega)]
      exact ev_some rfl
    · by_cases h2 : bt x (i : Int) > 122
      · simp only [if_neg h1, if_pos h2]
        rw [decide_eq_false (by omega)]
        exact ev_some rfl
      · simp only [if_neg h1, if_neg h2]
        rw [decide_eq_true (by omega)]
        exact ih (i + 1) (by omega) (by omega)
theorem spec_WordOk_ev (x : ByteArray) (hx : x.size ≤ 140737488351232) : Ev (fun k => spec_WordOk.f k x) (wordM x) := by
  simpa [spec_WordOk.f, wordM] using spec_WordOk_l0 x hx _ 0 rfl (by omega)
theorem impl_WordOk_ev (x : ByteArray) (hx : x.size ≤ 140737488351232) : Ev (fun k => impl_WordOk.f k x) (wordM x) := by
  simp only [impl_WordOk.f, impl_in_eq, Option.bind_some, wordM]
  by_cases h : 1 ≤ (x.size : Int) ∧ (x.size : Int) ≤ 8
  · simp only [decide_eq_true h, if_true, Bool.and_true]
    simpa using impl_WordOk_l0 x hx _ 0 rfl (by omega)
  · simp only [decide_eq_false h, Bool.false_eq_true, if_false, Bool.and_false]
    exact ev_some rfl

/-! recok -/
theorem spec_RecOk_ev (a0 a1 a2 a3 a4 : Int) (x5 x6 x7 : ByteArray) (h5 : x5.size ≤ 140737488351232) (h6 : x6.size ≤ 140737488351232) : Ev (fun k => spec_RecOk.f k a0 a1 a2 a3 a4 x5 x6 x7) (recOkM a0 a1 a2 a3 a4 x5 x6 x7) := by
  have t5 := tl_nil x5
  have t6 := tl_nil x6
  have t7 := tl_nil x7
  unfold spec_RecOk.f
  simp only [spec_in_eq, Option.bind_some]
  repeat' first
    | refine ev_if (fun _ => ?_) (fun _ => ?_)
    | refine Ev.bind (spec_WordOk_ev _ (by assumption)) ?_
    | refine ev_some ?_
  all_goals (unfold recOkM; grind)
def ri3 (g : Bool) (a0 a1 a2 a3 a4 : Int) (x5 x6 x7 : ByteArray) (b0 b1 b2 b3 b4 : Int) (y5 y6 y7 : ByteArray) : Bool := if a0 = 1 then (if wordM x5 = true then (if wordM x6 = true then (if decide (1 ≤ a3 ∧ a3 ≤ 10000) = true then (b0 == 0 && (b1 == 0 && (b2 == 0 && (b4 == 0 && (y7.toList == ([] : List UInt8)))))) else false) else false) else false) else if a0 = 3 then (if g = true then (if (x7.size : Int) ≤ 100 then (b0 == 0 && (b1 == 0 && (b2 == 0 && (b3 == 0 && (b4 == 0 && ((y5.toList == ([] : List UInt8)) && (y6.toList == ([] : List UInt8)))))))) else false) else false) else if a0 = 2 then (if g = true then (b0 == 0 && (b1 == 0 && (b2 == 0 && (b3 == 0 && (b4 == 0 && ((y5.toList == ([] : List UInt8)) && ((y6.toList == ([] : List UInt8)) && (y7.toList == ([] : List UInt8))))))))) else false) else if a0 = 4 then (if g = true then (b0 == 0 && (b1 == 0 && (b2 == 0 && (b3 == 0 && (b4 == 0 && ((y5.toList == ([] : List UInt8)) && ((y6.toList == ([] : List UInt8)) && (y7.toList == ([] : List UInt8))))))))) else false) else if a0 = 5 then (if g = true then (b0 == 0 && (b1 == 0 && (b2 == 0 && (b3 == 0 && (b4 == 0 && ((y5.toList == ([] : List UInt8)) && ((y6.toList == ([] : List UInt8)) && (y7.toList == ([] : List UInt8))))))))) else false) else false
def ri2 (g t : Bool) (a0 a1 a2 a3 a4 : Int) (x5 x6 x7 : ByteArray) (b0 b1 b2 b3 b4 : Int) (y5 y6 y7 : ByteArray) : Bool := if t = true then (if g = true then ri3 (decide (0 ≤ a4 ∧ a4 ≤ 7)) a0 a1 a2 a3 a4 x5 x6 x7 b0 b1 b2 b3 0 y5 y6 y7 else ri3 false a0 a1 a2 a3 a4 x5 x6 x7 b0 b1 b2 b3 0 y5 y6 y7) else ri3 g a0 a1 a2 a3 a4 x5 x6 x7 b0 b1 b2 b3 b4 y5 y6 y7
def ri1 (g : Bool) (a0 a1 a2 a3 a4 : Int) (x5 x6 x7 : ByteArray) (b0 b1 b2 b3 b4 : Int) (y5 y6 y7 : ByteArray) : Bool := if a0 = 3 then ri2 g true a0 a1 a2 a3 a4 x5 x6 x7 b0 b1 b2 b3 b4 y5 y6 y7 else ri2 g (a0 == 4) a0 a1 a2 a3 a4 x5 x6 x7 b0 b1 b2 b3 b4 y5 y6 y7
def ri0 (g t : Bool) (a0 a1 a2 a3 a4 : Int) (x5 x6 x7 : ByteArray) (b0 b1 b2 b3 b4 : Int) (y5 y6 y7 : ByteArray) : Bool := if t = true then ri1 (decide (1 ≤ a2 ∧ a2 ≤ 9999)) a0 a1 a2 a3 a4 x5 x6 x7 b0 b1 0 b3 b4 y5 y6 y7 else ri1 g a0 a1 a2 a3 a4 x5 x6 x7 b0 b1 b2 b3 b4 y5 y6 y7
def rif (a0 a1 a2 a3 a4 : Int) (x5 x6 x7 : ByteArray) : Bool := if decide (1 ≤ a1 ∧ a1 ≤ 9999) = true then (if a0 = 3 then ri0 true true a0 a1 a2 a3 a4 x5 x6 x7 0 0 a2 a3 a4 x5 x6 x7 else if a0 = 4 then ri0 true true a0 a1 a2 a3 a4 x5 x6 x7 0 0 a2 a3 a4 x5 x6 x7 else ri0 true (a0 == 5) a0 a1 a2 a3 a4 x5 x6 x7 0 0 a2 a3 a4 x5 x6 x7) else false
theorem impl_RecOk_j3 (g : Bool) (a0 a1 a2 a3 a4 : Int) (x5 x6 x7 : ByteArray) (b0 b1 b2 b3 b4 : Int) (y5 y6 y7 : ByteArray) (h5 : x5.size ≤ 140737488351232) (h6 : x6.size ≤ 140737488351232) : Ev (fun k => impl_RecOk.j3 k g a0 a1 a2 a3 a4 x5 x6 x7 b0 b1 b2 b3 b4 y5 y6 y7) (ri3 g a0 a1 a2 a3 a4 x5 x6 x7 b0 b1 b2 b3 b4 y5 y6 y7) := by
  refine ev_succ ?_
  simp only [impl_RecOk.j3, impl_in_eq, Option.bind_some]
  exact ev_ite (Ev.bind (impl_WordOk_ev x5 h5) (ev_ite (Ev.bind (impl_WordOk_ev x6 h6) (ev_ite (ev_ite (ev_some rfl) (ev_some rfl)) (ev_some rfl))) (ev_some rfl))) (ev_ite (ev_ite (ev_ite (ev_some rfl) (ev_some rfl)) (ev_some rfl)) (ev_ite (ev_ite (ev_some rfl) (ev_some rfl)) (ev_ite (ev_ite (ev_some rfl) (ev_some rfl)) (ev_ite (ev_ite (ev_some rfl) (ev_some rfl)) (ev_some rfl)))))
theorem impl_RecOk_j2 (g t : Bool) (a0 a1 a2 a3 a4 : Int) (x5 x6 x7 : ByteArray) (b0 b1 b2 b3 b4 : Int) (y5 y6 y7 : ByteArray) (h5 : x5.size ≤ 140737488351232) (h6 : x6.size ≤ 140737488351232) : Ev (fun k => impl_RecOk.j2 k g t a0 a1 a2 a3 a4 x5 x6 x7 b0 b1 b2 b3 b4 y5 y6 y7) (ri2 g t a0 a1 a2 a3 a4 x5 x6 x7 b0 b1 b2 b3 b4 y5 y6 y7) := by
  refine ev_succ ?_
  simp only [impl_RecOk.j2, impl_in_eq, Option.bind_some]
  exact ev_ite (ev_ite (impl_RecOk_j3 _ a0 a1 a2 a3 a4 x5 x6 x7 _ _ _ _ _ _ _ _ h5 h6) (impl_RecOk_j3 _ a0 a1 a2 a3 a4 x5 x6 x7 _ _ _ _ _ _ _ _ h5 h6)) (impl_RecOk_j3 _ a0 a1 a2 a3 a4 x5 x6 x7 _ _ _ _ _ _ _ _ h5 h6)
theorem impl_RecOk_j1 (g : Bool) (a0 a1 a2 a3 a4 : Int) (x5 x6 x7 : ByteArray) (b0 b1 b2 b3 b4 : Int) (y5 y6 y7 : ByteArray) (h5 : x5.size ≤ 140737488351232) (h6 : x6.size ≤ 140737488351232) : Ev (fun k => impl_RecOk.j1 k g a0 a1 a2 a3 a4 x5 x6 x7 b0 b1 b2 b3 b4 y5 y6 y7) (ri1 g a0 a1 a2 a3 a4 x5 x6 x7 b0 b1 b2 b3 b4 y5 y6 y7) := by
  refine ev_succ ?_
  simp only [impl_RecOk.j1, impl_in_eq, Option.bind_some]
  exact ev_ite (impl_RecOk_j2 _ _ a0 a1 a2 a3 a4 x5 x6 x7 _ _ _ _ _ _ _ _ h5 h6) (impl_RecOk_j2 _ _ a0 a1 a2 a3 a4 x5 x6 x7 _ _ _ _ _ _ _ _ h5 h6)
theorem impl_RecOk_j0 (g t : Bool) (a0 a1 a2 a3 a4 : Int) (x5 x6 x7 : ByteArray) (b0 b1 b2 b3 b4 : Int) (y5 y6 y7 : ByteArray) (h5 : x5.size ≤ 140737488351232) (h6 : x6.size ≤ 140737488351232) : Ev (fun k => impl_RecOk.j0 k g t a0 a1 a2 a3 a4 x5 x6 x7 b0 b1 b2 b3 b4 y5 y6 y7) (ri0 g t a0 a1 a2 a3 a4 x5 x6 x7 b0 b1 b2 b3 b4 y5 y6 y7) := by
  refine ev_succ ?_
  simp only [impl_RecOk.j0, impl_in_eq, Option.bind_some]
  exact ev_ite (impl_RecOk_j1 _ a0 a1 a2 a3 a4 x5 x6 x7 _ _ _ _ _ _ _ _ h5 h6) (impl_RecOk_j1 _ a0 a1 a2 a3 a4 x5 x6 x7 _ _ _ _ _ _ _ _ h5 h6)
theorem impl_rec_same (a0 a1 a2 a3 a4 : Int) (x5 x6 x7 : ByteArray) : rif a0 a1 a2 a3 a4 x5 x6 x7 = recOkM a0 a1 a2 a3 a4 x5 x6 x7 := by
  have t5 := tl_nil x5
  have t6 := tl_nil x6
  have t7 := tl_nil x7
  unfold rif ri0 ri1 ri2 ri3 recOkM
  grind
theorem impl_RecOk_ev (a0 a1 a2 a3 a4 : Int) (x5 x6 x7 : ByteArray) (h5 : x5.size ≤ 140737488351232) (h6 : x6.size ≤ 140737488351232) : Ev (fun k => impl_RecOk.f k a0 a1 a2 a3 a4 x5 x6 x7) (recOkM a0 a1 a2 a3 a4 x5 x6 x7) := by
  rw [← impl_rec_same]
  unfold impl_RecOk.f
  simp only [impl_in_eq, Option.bind_some]
  exact ev_ite (ev_ite (impl_RecOk_j0 _ _ a0 a1 a2 a3 a4 x5 x6 x7 _ _ _ _ _ _ _ _ h5 h6) (ev_ite (impl_RecOk_j0 _ _ a0 a1 a2 a3 a4 x5 x6 x7 _ _ _ _ _ _ _ _ h5 h6) (impl_RecOk_j0 _ _ a0 a1 a2 a3 a4 x5 x6 x7 _ _ _ _ _ _ _ _ h5 h6))) (ev_some rfl)

/-! rectext -/
theorem spec_l06Short_ev (x : ByteArray) (h : x.size ≤ 1000000) : Ev (fun k => spec_l06Short.f k x) (varS x.size ++ x) := by
  unfold spec_l06Short.f
  refine Ev.bind (spec_l01Var_ev _ (by omega)) ?_
  have := varS_small x.size (by omega)
  simp only [if_pos (show (varS x.size).size + x.size ≤ 9223372036854775807 from by omega)]
  exact ev_some rfl
theorem spec_RecText_ev (a0 a1 a2 a3 a4 : Int) (x5 x6 x7 : ByteArray) (h5 : x5.size ≤ 140737488351232) (h6 : x6.size ≤ 140737488351232) : Ev (fun k => spec_RecText.f k a0 a1 a2 a3 a4 x5 x6 x7) (recTextM a0 a1 a2 a3 a4 x5 x6 x7) := by
  unfold spec_RecText.f recTextM
  refine Ev.bind (spec_RecOk_ev a0 a1 a2 a3 a4 x5 x6 x7 h5 h6) ?_
  refine ev_if (fun hok => ?_) (fun hok => ?_)
  · obtain ⟨b0, b1, b2, b3, b4, b5, b6, b7⟩ := recOkM_bounds hok
    rw [if_pos hok]
    simp only [Option.bind_some]
    have s0 : (strOfNums [a0 % 256]).size = 1 := strOfNums_size _
    have s1 := varS_small a1.toNat (by omega)
    have s2 := varS_small a2.toNat (by omega)
    have s3 := varS_small a3.toNat (by omega)
    have s4 := varS_small a4.toNat (by omega)
    have s5 := varS_small x5.size (by omega)
    have s6 := varS_small x6.size (by omega)
    have s7 := varS_small x7.size (by omega)
    refine Ev.bind (spec_l01Var_ev' a1 (by omega) (by omega)) ?_
    refine ev_if (fun _ => ?_) (fun h => absurd (by first | omega | (simp only [size_append]; omega)) h)
    refine Ev.bind (spec_l01Var_ev' a2 (by omega) (by omega)) ?_
    refine ev_if (fun _ => ?_) (fun h => absurd (by first | omega | (simp only [size_append]; omega)) h)
    refine Ev.bind (spec_l01Var_ev' a3 (by omega) (by omega)) ?_
    refine ev_if (fun _ => ?_) (fun h => absurd (by first | omega | (simp only [size_append]; omega)) h)
    refine Ev.bind (spec_l01Var_ev' a4 (by omega) (by omega)) ?_
    refine ev_if (fun _ => ?_) (fun h => absurd (by first | omega | (simp only [size_append]; omega)) h)
    refine Ev.bind (spec_l06Short_ev x5 (by omega)) ?_
    refine ev_if (fun _ => ?_) (fun h => absurd (by first | omega | (simp only [size_append]; omega)) h)
    refine Ev.bind (spec_l06Short_ev x6 (by omega)) ?_
    refine ev_if (fun _ => ?_) (fun h => absurd (by first | omega | (simp only [size_append]; omega)) h)
    refine Ev.bind (spec_l06Short_ev x7 (by omega)) ?_
    refine ev_if (fun _ => ?_) (fun h => absurd (by first | omega | (simp only [size_append]; omega)) h)
    exact ev_some rfl
  · rw [if_neg hok]
    exact ev_some rfl
theorem impl_RecText_l0_next (acc : ByteArray) (l : List Int) (i : Nat) (v : Int) (hv : rd l (i : Int) = v) (hi : i < l.length) (hl : l.length ≤ 1000) (h0 : 0 ≤ v) (h1 : v < 70368744177664) (hs : acc.size ≤ 9000000000000000)
    (a0 a1 a2 a3 a4 : Int) (x5 x6 x7 : ByteArray) {r : ByteArray × Bool} (h : Ev (fun k => impl_RecText.l0 k (acc ++ varS v.toNat) l (l.length : Int) ((i + 1 : Nat) : Int) a0 a1 a2 a3 a4 x5 x6 x7) r) :
    Ev (fun k => impl_RecText.l0 k acc l (l.length : Int) (i : Int) a0 a1 a2 a3 a4 x5 x6 x7) r := by
  refine ev_succ ?_
  have s1 := varS_size v.toNat
  have s2 := varL_length v.toNat
  simp only [impl_RecText.l0, if_pos (show (i : Int) < (l.length : Int) from by omega), if_pos (show (0 : Int) ≤ (i : Int) from by omega), hv]
  refine Ev.bind (impl_varText_ev' v h0 h1) ?_
  simp only [if_pos (show acc.size + (varS v.toNat).size ≤ 9223372036854775807 from by omega), wn i hi (by omega)]
  exact h
theorem impl_RecText_l1_next (acc : ByteArray) (l : List ByteArray) (i : Nat) (v : ByteArray) (hv : rdOf ByteArray.empty l (i : Int) = v) (hi : i < l.length) (hl : l.length ≤ 1000) (h1 : v.size < 100000) (hs : acc.size ≤ 9000000000000000)
    {r : ByteArray × Bool} (h : Ev (fun k => impl_RecText.l1 k (acc ++ (varS v.size ++ v)) l (l.length : Int) ((i + 1 : Nat) : Int)) r) :
    Ev (fun k => impl_RecText.l1 k acc l (l.length : Int) (i : Int)) r := by
  refine ev_succ ?_
  have s1 := varS_size v.size
  have s2 := varL_length v.size
  simp only [impl_RecText.l1, if_pos (show (i : Int) < (l.length : Int) from by omega), if_pos (show (0 : Int) ≤ (i : Int) from by omega), hv]
  refine Ev.bind (impl_varText_ev v.size (by omega)) ?_
  have e4 := wn i hi (show l.length ≤ 140737488355328 from by omega)
  refine ev_if (fun _ => ?_) (fun h => absurd (by first | omega | (simp only [size_append]; omega)) h)
  refine ev_if (fun _ => ?_) (fun h => absurd (by first | omega | (simp only [size_append]; omega)) h)
  simp only [e4]
  exact h
theorem impl_RecText_ev (a0 a1 a2 a3 a4 : Int) (x5 x6 x7 : ByteArray) (h5 : x5.size ≤ 140737488351232) (h6 : x6.size ≤ 140737488351232) : Ev (fun k => impl_RecText.f k a0 a1 a2 a3 a4 x5 x6 x7) (recTextM a0 a1 a2 a3 a4 x5 x6 x7) := by
  unfold impl_RecText.f recTextM
  refine Ev.bind (impl_RecOk_ev a0 a1 a2 a3 a4 x5 x6 x7 h5 h6) ?_
  refine ev_if (fun hok => ?_) (fun hok => ?_)
  · obtain ⟨b0, b1, b2, b3, b4, b5, b6, b7⟩ := recOkM_bounds hok
    rw [if_pos hok]
    simp only [Option.bind_some]
    have s0 : (strOfNums [a0 % 256]).size = 1 := strOfNums_size _
    have s1 := varS_small a1.toNat (by omega)
    have s2 := varS_small a2.toNat (by omega)
    have s3 := varS_small a3.toNat (by omega)
    have s4 := varS_small a4.toNat (by omega)
    have s5 := varS_small x5.size (by omega)
    have s6 := varS_small x6.size (by omega)
    have s7 := varS_small x7.size (by omega)
    refine impl_RecText_l0_next _ [a1, a2, a3, a4] 0 a1 rfl (by simp) (by simp) (by omega) (by omega) (by omega) _ _ _ _ _ _ _ _ ?_
    refine impl_RecText_l0_next _ [a1, a2, a3, a4] (0 + 1) a2 rfl (by simp) (by simp) (by omega) (by omega) (by simp only [size_append]; omega) _ _ _ _ _ _ _ _ ?_
    refine impl_RecText_l0_next _ [a1, a2, a3, a4] (0 + 1 + 1) a3 rfl (by simp) (by simp) (by omega) (by omega) (by simp only [size_append]; omega) _ _ _ _ _ _ _ _ ?_
    refine impl_RecText_l0_next _ [a1, a2, a3, a4] (0 + 1 + 1 + 1) a4 rfl (by simp) (by simp) (by omega) (by omega) (by simp only [size_append]; omega) _ _ _ _ _ _ _ _ ?_
    refine ev_succ ?_
    simp only [impl_RecText.l0, if_neg (show ¬ (((0 + 1 + 1 + 1 + 1 : Nat) : Int) < ([a1, a2, a3, a4].length : Int)) from by simp), Option.bind_some]
    refine impl_RecText_l1_next _ [x5, x6, x7] 0 x5 rfl (by simp) (by simp) (by omega) (by simp only [size_append]; omega) ?_
    refine impl_RecText_l1_next _ [x5, x6, x7] (0 + 1) x6 rfl (by simp) (by simp) (by omega) (by simp only [size_append]; omega) ?_
    refine impl_RecText_l1_next _ [x5, x6, x7] (0 + 1 + 1) x7 rfl (by simp) (by simp) (by omega) (by simp only [size_append]; omega) ?_
    refine ev_succ ?_
    simp only [impl_RecText.l1, if_neg (show ¬ (((0 + 1 + 1 + 1 : Nat) : Int) < ([x5, x6, x7].length : Int)) from by simp)]
    exact ev_some rfl
  · rw [if_neg hok]
    exact ev_some rfl

/-! drawrec -/
theorem l01Pick_some (l : List Int) (hl : l.length ≤ 1048576) (p s : Int) (hp : Inside l p) (L : List ByteArray) (hL : 0 < L.length) : ∃ v p' s', spec_l01Pick.f l p s L = some (v, p', s') ∧ v ∈ L ∧ Inside l p' := by
  unfold spec_l01Pick.f
  obtain ⟨b, p1, s1, e, hb, hp1⟩ := l01Below_some l hl p s (L.length : Int) hp
  have h2 := hb.2 (by omega)
  refine ⟨rdOf ByteArray.empty L b, p1, s1, ?_, ?_, hp1⟩
  · simp only [e, Option.bind_some, if_pos hb.1, if_pos h2]
  · unfold rdOf
    rw [List.getD_eq_getElem?_getD, List.getElem?_eq_getElem (show b.toNat < L.length by omega)]
    exact List.getElem_mem _
theorem pick_size {L : List ByteArray} {v : ByteArray} (h : v ∈ L) (hL : (L.all fun x => decide (x.size ≤ 1000)) = true) : v.size ≤ 1000 := of_decide_eq_true (List.all_eq_true.1 hL v h)
theorem l06Text_some (l : List Int) (hl : l.length ≤ 1048576) (p s : Int) (hp : Inside l p) : ∃ v p' s', spec_l06Text.f l p s = some (v, p', s') ∧ v.size ≤ 1000 ∧ Inside l p' := by
  unfold spec_l06Text.f
  obtain ⟨v, p1, s1, e, hv, hp1⟩ := l01Pick_some l hl p s hp (([(⟨#[104, 101, 108, 108, 111]⟩ : ByteArray), (⟨#[102, 114, 111, 109, 58, 32, 97, 110, 110, 10, 10, 104, 105]⟩ : ByteArray), (⟨#[115, 117, 98, 106, 101, 99, 116, 58, 32, 120, 10, 10, 98, 111, 100, 121, 32, 111, 102, 32, 105, 116, 10, 46, 100, 111, 116, 10]⟩ : ByteArray), (⟨#[]⟩ : ByteArray), (⟨#[120, 10, 46, 46, 10]⟩ : ByteArray)] : List ByteArray)) (by simp)
  exact ⟨v, p1, s1, by simp only [e, Option.bind_some], pick_size hv (by decide), hp1⟩
theorem l06Rec_some (l : List Int) (hl : l.length ≤ 1048576) (p s : Int) (hp : Inside l p) : ∃ a0 a1 a2 a3 a4 x5 x6 x7 p' s', spec_l06Rec.f l p s = some (a0, a1, a2, a3, a4, x5, x6, x7, p', s') ∧ (x5.size ≤ 1000 ∧ x6.size ≤ 1000 ∧ x7.size ≤ 1000) ∧ Inside l p' := by
  have z : (⟨#[]⟩ : ByteArray).size ≤ 1000 := by decide
  unfold spec_l06Rec.f
  obtain ⟨k, p1, s1, e1, _, hp1⟩ := l01PickInt_some l hl p s hp (([1, 1, 2, 3, 3, 3, 3, 4, 4, 5, 5] : List Int)) (by simp)
  obtain ⟨v, p2, s2, e2, _, hp2⟩ := l01Below_some l hl p1 s1 3 hp1
  simp only [e1, e2, Option.bind_some]
  by_cases k1 : k = 1
  · obtain ⟨u, p3, s3, e3, hu, hp3⟩ := l01Pick_some l hl p2 s2 hp2 (([(⟨#[97, 110, 110]⟩ : ByteArray), (⟨#[98, 111, 98]⟩ : ByteArray)] : List ByteArray)) (by simp)
    obtain ⟨n, p4, s4, e4, hn, hp4⟩ := l01Pick_some l hl p3 s3 hp3 (([(⟨#[105, 110, 98, 111, 120]⟩ : ByteArray), (⟨#[119, 111, 114, 107]⟩ : ByteArray)] : List ByteArray)) (by simp)
    obtain ⟨b, p5, s5, e5, _, hp5⟩ := l01Below_some l hl p4 s4 6 hp4
    simp only [if_pos k1, e3, e4, e5, Option.bind_some]
    exact ⟨_, _, _, _, _, _, _, _, _, _, rfl, ⟨pick_size hu (by decide), pick_size hn (by decide), z⟩, hp5⟩
  by_cases k3 : k = 3
  · obtain ⟨u, p3, s3, e3, _, hp3⟩ := l01Below_some l hl p2 s2 5 hp2
    obtain ⟨n, p4, s4, e4, _, hp4⟩ := l01Below_some l hl p3 s3 8 hp3
    obtain ⟨t, p5, s5, e5, ht, hp5⟩ := l06Text_some l hl p4 s4 hp4
    simp only [if_neg k1, if_pos k3, e3, e4, e5, Option.bind_some]
    exact ⟨_, _, _, _, _, _, _, _, _, _, rfl, ⟨z, z, ht⟩, hp5⟩
  by_cases k4 : k = 4
  · obtain ⟨u, p3, s3, e3, _, hp3⟩ := l01Below_some l hl p2 s2 5 hp2
    obtain ⟨n, p4, s4, e4, _, hp4⟩ := l01Below_some l hl p3 s3 8 hp3
    simp only [if_neg k1, if_neg k3, if_pos k4, e3, e4, Option.bind_some]
    exact ⟨_, _, _, _, _, _, _, _, _, _, rfl, ⟨z, z, z⟩, hp4⟩
  by_cases k5 : k = 5
  · obtain ⟨u, p3, s3, e3, _, hp3⟩ := l01Below_some l hl p2 s2 5 hp2
    simp only [if_neg k1, if_neg k3, if_neg k4, if_pos k5, e3, Option.bind_some]
    exact ⟨_, _, _, _, _, _, _, _, _, _, rfl, ⟨z, z, z⟩, hp3⟩
  · simp only [if_neg k1, if_neg k3, if_neg k4, if_neg k5]
    exact ⟨_, _, _, _, _, _, _, _, _, _, rfl, ⟨z, z, z⟩, hp2⟩
theorem rdOf_size {L : List ByteArray} (hL : (L.all fun x => decide (x.size ≤ 1000)) = true) (i : Int) : (rdOf ByteArray.empty L i).size ≤ 1000 := by
  unfold rdOf
  rw [List.getD_eq_getElem?_getD]
  by_cases h : i.toNat < L.length
  · rw [List.getElem?_eq_getElem h]
    exact pick_size (List.getElem_mem h) hL
  · rw [List.getElem?_eq_none (by omega)]
    exact (by decide : ByteArray.empty.size ≤ 1000)
theorem l06Any_some (l : List Int) (hl : l.length ≤ 1048576) (p s : Int) (hp : Inside l p) : ∃ a0 a1 a2 a3 a4 x5 x6 x7 p' s', Ev (fun k => spec_l06Any.f k l p s) (a0, a1, a2, a3, a4, x5, x6, x7, p', s') ∧ (x5.size ≤ 1000 ∧ x6.size ≤ 1000 ∧ x7.size ≤ 1000) ∧ Inside l p' := by
  unfold spec_l06Any.f
  obtain ⟨k, p1, s1, e1, _, hp1⟩ := l01Below_some l hl p s 14 hp
  obtain ⟨x, p2, s2, e2, hx, hp2⟩ := l01Below_some l hl p1 s1 60 hp1
  obtain ⟨a0, a1, a2, a3, a4, x5, x6, x7, p3, s3, e3, hz, hp3⟩ := l06Rec_some l hl p2 s2 hp2
  simp only [e1, e2, e3, Option.bind_some]
  have m3 := Int.tmod_nonneg 3 hx.1
  have m3' := Int.tmod_lt_of_pos x (show (0 : Int) < 3 by decide)
  have m4 := Int.tmod_nonneg 4 hx.1
  have m4' := Int.tmod_lt_of_pos x (show (0 : Int) < 4 by decide)
  by_cases k0 : k = 0
  · simp only [if_pos k0]; exact ⟨_, _, _, _, _, _, _, _, _, _, ev_some rfl, hz, hp3⟩
  by_cases k1 : k = 1
  · simp only [if_neg k0, if_pos k1, if_pos m3, if_pos (show Int.tmod x 3 < (([0, 9999, 10000] : List Int).length : Int) from m3')]; exact ⟨_, _, _, _, _, _, _, _, _, _, ev_some rfl, hz, hp3⟩
  by_cases k2 : k = 2
  · simp only [if_neg k0, if_neg k1, if_pos k2, if_pos m4, if_pos (show Int.tmod x 4 < (([0, 9999, 10000, (-1)] : List Int).length : Int) from m4')]; exact ⟨_, _, _, _, _, _, _, _, _, _, ev_some rfl, hz, hp3⟩
  by_cases k3 : k = 3
  · simp only [if_neg k0, if_neg k1, if_neg k2, if_pos k3]; exact ⟨_, _, _, _, _, _, _, _, _, _, ev_some rfl, hz, hp3⟩
  by_cases k4 : k = 4
  · simp only [if_neg k0, if_neg k1, if_neg k2, if_neg k3, if_pos k4, if_pos m3, if_pos (show Int.tmod x 3 < (([(⟨#[]⟩ : ByteArray), (⟨#[65]⟩ : ByteArray), (⟨#[110, 105, 110, 101, 98, 121, 116, 101, 115]⟩ : ByteArray)] : List ByteArray).length : Int) from m3')]
    exact ⟨_, _, _, _, _, _, _, _, _, _, ev_some rfl, ⟨rdOf_size (by decide) _, hz.2⟩, hp3⟩
  by_cases k5 : k = 5
  · have m2 := Int.tmod_nonneg 2 hx.1
    have m2' := Int.tmod_lt_of_pos x (show (0 : Int) < 2 by decide)
    have ew := w64 (x := 100 + Int.tmod x 2) (by omega) (by omega)
    obtain ⟨t, ht, hts⟩ := l01Long_some (100 + Int.tmod x 2) 97 (by omega)
    simp only [if_neg k0, if_neg k1, if_neg k2, if_neg k3, if_neg k4, if_pos k5, ew]
    clear ew
    exact ⟨_, _, _, _, _, _, _, t, _, _, Ev.bind ht (ev_some rfl), ⟨hz.1, hz.2.1, by omega⟩, hp3⟩
  by_cases k6 : k = 6
  · simp only [if_neg k0, if_neg k1, if_neg k2, if_neg k3, if_neg k4, if_neg k5, if_pos k6]; exact ⟨_, _, _, _, _, _, _, _, _, _, ev_some rfl, hz, hp3⟩
  · simp only [if_neg k0, if_neg k1, if_neg k2, if_neg k3, if_neg k4, if_neg k5, if_neg k6]; exact ⟨_, _, _, _, _, _, _, _, _, _, ev_some rfl, hz, hp3⟩
theorem spec_DrawRecText_some (l : List Int) (hl : l.length ≤ 1048576) : ∃ a0 a1 a2 a3 a4 x5 x6 x7, Ev (fun k => spec_DrawRecText.f k l) (a0, a1, a2, a3, a4, x5, x6, x7) ∧ (x5.size ≤ 1000 ∧ x6.size ≤ 1000 ∧ x7.size ≤ 1000) := by
  unfold spec_DrawRecText.f
  obtain ⟨s, hs⟩ := l01New_some l hl
  obtain ⟨a0, a1, a2, a3, a4, x5, x6, x7, p3, s3, e3, hz, hp3⟩ := l06Any_some l hl 0 s (inside0 l)
  exact ⟨a0, a1, a2, a3, a4, x5, x6, x7, Ev.bind hs (Ev.bind e3 (ev_some rfl)), hz⟩
theorem spec_DrawWordOk_some (l : List Int) (hl : l.length ≤ 1048576) : ∃ t : ByteArray, Ev (fun k => spec_DrawWordOk.f k l) t ∧ t.size ≤ 1000 := by
  unfold spec_DrawWordOk.f
  obtain ⟨s, hs⟩ := l01New_some l hl
  obtain ⟨v, p1, s1, e, hv, hp1⟩ := l01Pick_some l hl 0 s (inside0 l) (([(⟨#[]⟩ : ByteArray), (⟨#[97]⟩ : ByteArray), (⟨#[101, 105, 103, 104, 116, 120, 120, 120]⟩ : ByteArray), (⟨#[110, 105, 110, 101, 98, 121, 116, 101, 115]⟩ : ByteArray), (⟨#[65]⟩ : ByteArray), (⟨#[97, 49]⟩ : ByteArray)] : List ByteArray)) (by simp)
  refine ⟨v, Ev.bind hs ?_, pick_size hv (by decide)⟩
  simp only [e, Option.bind_some]
  exact ev_some rfl
theorem spec_DrawReadRec_some (l : List Int) (hl : l.length ≤ 1048576) : ∃ t : ByteArray, Ev (fun k => spec_DrawReadRec.f k l) t ∧ t.size ≤ 1000000 := by
  unfold spec_DrawReadRec.f
  obtain ⟨s, hs⟩ := l01New_some l hl
  obtain ⟨k, p1, s1, e1, _, hp1⟩ := l01Below_some l hl 0 s 3 (inside0 l)
  obtain ⟨a0, a1, a2, a3, a4, x5, x6, x7, p3, s3, e3, hz, hp3⟩ := l06Any_some l hl p1 s1 hp1
  have ht := spec_RecText_ev a0 a1 a2 a3 a4 x5 x6 x7 (by omega) (by omega)
  obtain ⟨⟨T, ok⟩, hT⟩ : ∃ T, recTextM a0 a1 a2 a3 a4 x5 x6 x7 = T := ⟨_, rfl⟩
  have hsz : T.size ≤ 1000 := by
    have := hT
    unfold recTextM at this
    by_cases h : recOkM a0 a1 a2 a3 a4 x5 x6 x7 = true
    · rw [if_pos h] at this
      have h2 := recTextS_size a0 a1 a2 a3 a4 x5 x6 x7 h
      have h3 := congrArg Prod.fst this
      simp only at h3
      rw [h3] at h2
      omega
    · rw [if_neg h] at this
      have h3 := congrArg Prod.fst this
      simp only at h3
      rw [← h3]
      decide
  rw [hT] at ht
  by_cases k0 : k = 0
  · obtain ⟨t, p4, s4, hsp, hts, _⟩ := l02Spoilt_some l hl p3 s3 hp3 T (by omega)
    refine ⟨t, Ev.bind hs ?_, by omega⟩
    simp only [e1, Option.bind_some]
    refine Ev.bind e3 (Ev.bind ht ?_)
    simp only [if_pos k0]
    exact Ev.bind hsp (ev_some rfl)
  · refine ⟨T, Ev.bind hs ?_, by omega⟩
    simp only [e1, Option.bind_some]
    refine Ev.bind e3 (Ev.bind ht ?_)
    simp only [if_neg k0]
    exact ev_some rfl

/-! readvar -/
theorem or_comm_i64 (x y : Int) : Go.bits .or .i64 x y = Go.bits .or .i64 y x := by
  unfold bits
  simp only [BitVec.or_comm]
theorem shl7 (k : Nat) (hk : k < 5) (v : Int) (hv : 0 ≤ v ∧ v < 128) : shl .i64 v (wrap64 (7 * (k : Int))) = v * 128 ^ k := by
  rw [w64 (by omega) (by omega)]
  unfold shl
  have e : min (7 * (k : Int)).toNat IntKind.i64.bits = 7 * k := by
    have : IntKind.i64.bits = 64 := rfl
    omega
  rw [e, IntKind.wrap_i64]
  have h : k = 0 ∨ k = 1 ∨ k = 2 ∨ k = 3 ∨ k = 4 := by omega
  rcases h with rfl | rfl | rfl | rfl | rfl <;> omega
theorem or7 (k : Nat) (hk : k < 5) (n v : Int) (hn : 0 ≤ n ∧ n < 128 ^ k) (hv : 0 ≤ v ∧ v < 128) : Go.bits .or .i64 n (v * 128 ^ k) = n + v * 128 ^ k := by
  rw [or_comm_i64]
  have h : k = 0 ∨ k = 1 ∨ k = 2 ∨ k = 3 ∨ k = 4 := by omega
  rcases h with rfl | rfl | rfl | rfl | rfl
  · rw [bits_join .i64 63 (by decide) b_wraps_i64 0 (v * 128 ^ 0) n (by omega) (by omega) (by omega) hn.1 (by omega) (by omega)]; omega
  · rw [bits_join .i64 63 (by decide) b_wraps_i64 7 (v * 128 ^ 1) n (by omega) (by omega) (by omega) hn.1 (by omega) (by omega)]; omega
  · rw [bits_join .i64 63 (by decide) b_wraps_i64 14 (v * 128 ^ 2) n (by omega) (by omega) (by omega) hn.1 (by omega) (by omega)]; omega
  · rw [bits_join .i64 63 (by decide) b_wraps_i64 21 (v * 128 ^ 3) n (by omega) (by omega) (by omega) hn.1 (by omega) (by omega)]; omega
  · rw [bits_join .i64 63 (by decide) b_wraps_i64 28 (v * 128 ^ 4) n (by omega) (by omega) (by omega) hn.1 (by omega) (by omega)]; omega
theorem pow5 (k : Nat) (hk : k < 5) (n v : Int) (hn : 0 ≤ n ∧ n < 128 ^ k) (hv : 0 ≤ v ∧ v < 128) : 0 ≤ n + v * 128 ^ k ∧ n + v * 128 ^ k < 128 ^ (k + 1) ∧ 0 ≤ v * 128 ^ k ∧ v * 128 ^ k < 34359738368 ∧ n + v * 128 ^ k < 34359738368 ∧ (128 : Int) ^ k ≤ 268435456 ∧ 0 < (128 : Int) ^ k := by
  have h : k = 0 ∨ k = 1 ∨ k = 2 ∨ k = 3 ∨ k = 4 := by omega
  rcases h with rfl | rfl | rfl | rfl | rfl <;> omega
theorem impl_ReadVar_l0 (x : ByteArray) (hx : x.size ≤ 140737488351232) (a : Nat) (ha : a ≤ x.size) (f : Nat) : ∀ (k : Nat) (n : Int), k + f = 5 → 0 ≤ n ∧ n < 128 ^ k →
    Ev (fun r => impl_ReadVar.l0 r x (a : Int) n (k : Int)) (rvGo x a f k n) := by
  induction f with
  | zero =>
    intro k n hk hn
    refine ev_succ ?_
    simp only [impl_ReadVar.l0, if_neg (show ¬ (k : Int) < 5 from by omega)]
    refine ev_succ ?_
    simp only [impl_ReadVar.j1, Bool.false_eq_true, if_false]
    exact ev_some rfl
  | succ f ih =>
    intro k n hk hn
    refine ev_succ ?_
    have hk1' : k + 1 + f = 5 := by omega
    have e1 : wrap64 ((a : Int) + (k : Int)) = ((a + k : Nat) : Int) := by rw [w64 (by omega) (by omega)]; omega
    simp only [impl_ReadVar.l0, if_pos (show (k : Int) < 5 from by omega), e1]
    refine ev_succ ?_
    unfold rvGo
    by_cases h1 : a + k < x.size
    · have hb := bt_lt x ((a + k : Nat) : Int)
      have hv : 0 ≤ bt x ((a + k : Nat) : Int) % 128 ∧ bt x ((a + k : Nat) : Int) % 128 < 128 := by omega
      have g1 : ((a + k : Nat) : Int) < (x.size : Int) := by omega
      have g2 : (0 : Int) ≤ ((a + k : Nat) : Int) := by omega
      have g3 : (0 : Int) ≤ 7 * (k : Int) := by omega
      have g4 : bt x ((a + k : Nat) : Int) < 9223372036854775808 := by omega
      have g5 : k < 5 := by omega
      have g6 : x.size ≤ 140737488355328 := by omega
      have g7 : -9223372036854775808 ≤ bt x ((a + k : Nat) : Int) ∧ bt x ((a + k : Nat) : Int) ≤ 9223372036854775807 := by omega
      have g8 : -9223372036854775808 ≤ 7 * (k : Int) ∧ 7 * (k : Int) ≤ 9223372036854775807 := by omega
      have g9 : 5 ≤ 140737488355328 := by omega
      have e6 : wrap64 (((a + k : Nat) : Int) + 1) = ((a + k + 1 : Nat) : Int) := wn (a + k) h1 g6
      have e7 : wrap64 ((k : Int) + 1) = ((k + 1 : Nat) : Int) := wn k g5 g9
      have e2 : wrap64 (bt x ((a + k : Nat) : Int)) = bt x ((a + k : Nat) : Int) := w64 g7.1 g7.2
      have e3 : wrap64 (7 * (k : Int)) = 7 * (k : Int) := w64 g8.1 g8.2
      have e4 := shl7 k g5 _ hv
      rw [e3] at e4
      have e5 := or7 k g5 n _ hn hv
      have hp := pow5 k g5 n _ hn hv
      have hk1 : k + 1 + f = 5 := hk1'
      simp only [impl_ReadVar.j1, decide_eq_true g1, if_true, e1, e2, e3, b_and127 _ hb.1 g4, e4, e5, e6, e7, if_pos g2, if_pos g1, if_pos g3, if_pos h1]
      clear e1 e2 e3 e4 e5 e6 e7
      obtain ⟨p, hpp⟩ : ∃ p : Int, (128 : Int) ^ k = p := ⟨_, rfl⟩
      simp only [hpp] at hp ⊢
      by_cases h2 : bt x ((a + k : Nat) : Int) > 127
      · simp only [if_pos h2, if_neg (show ¬ bt x ((a + k : Nat) : Int) < 128 from by omega)]
        exact ih (k + 1) _ hk1 ⟨hp.1, hp.2.1⟩
      · simp only [if_neg h2, if_pos (show bt x ((a + k : Nat) : Int) < 128 from by omega)]
        by_cases h3 : bt x ((a + k : Nat) : Int) = 0
        · by_cases h4 : 0 < k
          · simp only [if_pos h3, if_pos (show (k : Int) > 0 from by omega), if_pos (show (bt x ((a + k : Nat) : Int) = 0 ∧ 0 < k) ∨ n + bt x ((a + k : Nat) : Int) % 128 * p > 1000000000 from .inl ⟨h3, h4⟩)]
            exact ev_some rfl
          · by_cases h5 : n + bt x ((a + k : Nat) : Int) % 128 * p > 1000000000
            · simp only [if_pos h3, if_neg (show ¬ (k : Int) > 0 from by omega), if_pos h5, if_pos (show (bt x ((a + k : Nat) : Int) = 0 ∧ 0 < k) ∨ n + bt x ((a + k : Nat) : Int) % 128 * p > 1000000000 from .inr h5)]
              exact ev_some rfl
            · simp only [if_pos h3, if_neg (show ¬ (k : Int) > 0 from by omega), if_neg h5, if_neg (show ¬ ((bt x ((a + k : Nat) : Int) = 0 ∧ 0 < k) ∨ n + bt x ((a + k : Nat) : Int) % 128 * p > 1000000000) from fun h => h.elim (fun h => h4 h.2) h5)]
              exact ev_some rfl
        · by_cases h5 : n + bt x ((a + k : Nat) : Int) % 128 * p > 1000000000
          · simp only [if_neg h3, if_pos h5, if_pos (show (bt x ((a + k : Nat) : Int) = 0 ∧ 0 < k) ∨ n + bt x ((a + k : Nat) : Int) % 128 * p > 1000000000 from .inr h5)]
            exact ev_some rfl
          · simp only [if_neg h3, if_neg h5, if_neg (show ¬ ((bt x ((a + k : Nat) : Int) = 0 ∧ 0 < k) ∨ n + bt x ((a + k : Nat) : Int) % 128 * p > 1000000000) from fun h => h.elim (fun h => h3 h.1) h5)]
            exact ev_some rfl
    · simp only [impl_ReadVar.j1, decide_eq_false (show ¬ ((a + k : Nat) : Int) < (x.size : Int) from by omega), Bool.false_eq_true, if_false, if_neg h1]
      exact ev_some rfl
theorem impl_ReadVar_ev (x : ByteArray) (hx : x.size ≤ 140737488351232) (a : Int) : Ev (fun r => impl_ReadVar.f r x a) (readVarM x a) := by
  unfold impl_ReadVar.f readVarM
  simp only [impl_in_eq, Option.bind_some]
  by_cases h : 0 ≤ a ∧ a ≤ (x.size : Int)
  · obtain ⟨m, rfl⟩ := Int.eq_ofNat_of_zero_le h.1
    simp only [decide_eq_true h, if_true, if_pos h]
    exact impl_ReadVar_l0 x hx m (by omega) 5 0 0 rfl (by omega)
  · simp only [decide_eq_false h, Bool.false_eq_true, if_false, if_neg h]
    exact ev_some rfl
theorem spec_ReadVar_l0 (x : ByteArray) (hx : x.size ≤ 140737488351232) (a : Nat) (ha : a ≤ x.size) (f : Nat) : ∀ (k : Nat), k + f = 5 → a + k ≤ x.size → (∀ b, b ∈ runL x a k → 128 ≤ b ∧ b < 256) →
    Ev (fun r => spec_ReadVar.l0 r x (a : Int) (valL (runL x a k) : Int) (128 ^ k) ((a + k : Nat) : Int)) (rvGo x a f k (valL (runL x a k) : Int)) := by
  induction f with
  | zero =>
    intro k hk hak hp
    refine ev_succ ?_
    have e0 : wrap64 ((a : Int) + 5) = (a : Int) + 5 := w64 (by omega) (by omega)
    by_cases h1 : ((a + k : Nat) : Int) < (x.size : Int)
    · simp only [spec_ReadVar.l0, if_pos h1, e0, decide_eq_false (show ¬ ((a + k : Nat) : Int) < (a : Int) + 5 from by omega)]
      refine ev_succ ?_
      simp only [spec_ReadVar.j1, Bool.false_eq_true, if_false]
      exact ev_some rfl
    · simp only [spec_ReadVar.l0, if_neg h1]
      refine ev_succ ?_
      simp only [spec_ReadVar.j1, Bool.false_eq_true, if_false]
      exact ev_some rfl
  | succ f ih =>
    intro k hk hak hp
    refine ev_succ ?_
    have e0 : wrap64 ((a : Int) + 5) = (a : Int) + 5 := w64 (by omega) (by omega)
    unfold rvGo
    by_cases h1 : a + k < x.size
    · have hl := runL_length x a k hak
      have hlt := valL_lt (runL x a k)
      rw [hl] at hlt
      have hb := bt_lt x ((a + k : Nat) : Int)
      have e3 : Int.tmod (bt x ((a + k : Nat) : Int)) 128 = bt x ((a + k : Nat) : Int) % 128 := Int.tmod_eq_emod_of_nonneg hb.1
      have hv : 0 ≤ bt x ((a + k : Nat) : Int) % 128 ∧ bt x ((a + k : Nat) : Int) % 128 < 128 := by omega
      have g5 : k < 5 := by omega
      have hn : 0 ≤ (valL (runL x a k) : Int) ∧ (valL (runL x a k) : Int) < 128 ^ k := ⟨by omega, by exact_mod_cast hlt⟩
      have hpw := pow5 k g5 _ _ hn hv
      have g1 : ((a + k : Nat) : Int) < (x.size : Int) := by omega
      have g2 : (0 : Int) ≤ ((a + k : Nat) : Int) := by omega
      have g3 : ((a + k : Nat) : Int) < (a : Int) + 5 := by omega
      have g6 : x.size ≤ 140737488355328 := by omega
      have g7 : -9223372036854775808 ≤ bt x ((a + k : Nat) : Int) ∧ bt x ((a + k : Nat) : Int) ≤ 9223372036854775807 := by omega
      have g10 : (0 : Int) ≤ (a : Int) := by omega
      have g11 : (a : Int) ≤ ((a + (k + 1) : Nat) : Int) := by omega
      have g12 : ((a + (k + 1) : Nat) : Int) ≤ (x.size : Int) := by omega
      have g13 : k + 1 + f = 5 := by omega
      have g14 : a + (k + 1) ≤ x.size := by omega
      have e8 : (valL (runL x a k) : Int) + bt x ((a + k : Nat) : Int) % 128 * 128 ^ k = (valL (runL x a (k + 1)) : Int) := by
        rw [runL_succ x a k h1, valL_snoc, hl]
        have : ((bt x ((a + k : Nat) : Int)).toNat % 128 : Nat) = ((bt x ((a + k : Nat) : Int) % 128).toNat) := by omega
        rw [this]
        obtain ⟨v, hvd⟩ : ∃ v, bt x ((a + k : Nat) : Int) % 128 = v := ⟨_, rfl⟩
        rw [hvd] at hv ⊢
        push_cast
        rw [Int.toNat_of_nonneg hv.1]
      obtain ⟨p, hpp⟩ : ∃ p : Int, (128 : Int) ^ k = p := ⟨_, rfl⟩
      have g8 : -9223372036854775808 ≤ bt x ((a + k : Nat) : Int) % 128 * 128 ^ k ∧ bt x ((a + k : Nat) : Int) % 128 * 128 ^ k ≤ 9223372036854775807 := by rw [hpp] at hpw ⊢; omega
      have g9 : -9223372036854775808 ≤ (valL (runL x a k) : Int) + bt x ((a + k : Nat) : Int) % 128 * 128 ^ k ∧ (valL (runL x a k) : Int) + bt x ((a + k : Nat) : Int) % 128 * 128 ^ k ≤ 9223372036854775807 := by rw [hpp] at hpw ⊢; omega
      have g15 : -9223372036854775808 ≤ (128 : Int) ^ k * 128 ∧ (128 : Int) ^ k * 128 ≤ 9223372036854775807 := by rw [hpp] at hpw ⊢; omega
      have e2 : wrap64 (bt x ((a + k : Nat) : Int)) = bt x ((a + k : Nat) : Int) := w64 g7.1 g7.2
      have e4 : wrap64 (bt x ((a + k : Nat) : Int) % 128 * 128 ^ k) = bt x ((a + k : Nat) : Int) % 128 * 128 ^ k := w64 g8.1 g8.2
      have e5 : wrap64 ((valL (runL x a k) : Int) + bt x ((a + k : Nat) : Int) % 128 * 128 ^ k) = (valL (runL x a k) : Int) + bt x ((a + k : Nat) : Int) % 128 * 128 ^ k := w64 g9.1 g9.2
      have e6 : wrap64 (((a + k : Nat) : Int) + 1) = ((a + (k + 1) : Nat) : Int) := wn (a + k) h1 g6
      have e7 : wrap64 ((128 : Int) ^ k * 128) = 128 ^ (k + 1) := by rw [w64 g15.1 g15.2, Int.pow_succ]
      simp only [spec_ReadVar.l0, if_pos g1, e0, decide_eq_true g3]
      refine ev_succ ?_
      simp only [spec_ReadVar.j1, if_true, if_pos g2, if_pos g1, e2, e3, e4, e5, e6, e7, if_pos h1]
      rw [e8]
      clear e0 e2 e3 e4 e5 e6 e7 e8 g8 g9 g15 hpw hpp
      by_cases h2 : bt x ((a + k : Nat) : Int) < 128
      · simp only [if_pos h2]
        have hc := canon x a k h1 hp h2
        by_cases h5 : (valL (runL x a (k + 1)) : Int) > 1000000000
        · simp only [if_pos h5, if_pos (show (bt x ((a + k : Nat) : Int) = 0 ∧ 0 < k) ∨ (valL (runL x a (k + 1)) : Int) > 1000000000 from .inr h5)]
          exact ev_some rfl
        · simp only [if_neg h5]
          refine Ev.bind (spec_l01Var_ev _ (by omega)) ?_
          simp only [if_pos g10, if_pos g11, if_pos g12, tl_iff, Int.toNat_natCast]
          by_cases h6 : bt x ((a + k : Nat) : Int) = 0 ∧ 0 < k
          · simp only [if_neg (fun h => hc.1 h h6), if_pos (show (bt x ((a + k : Nat) : Int) = 0 ∧ 0 < k) ∨ (valL (runL x a (k + 1)) : Int) > 1000000000 from .inl h6)]
            exact ev_some rfl
          · simp only [if_pos (hc.2 h6), if_neg (show ¬ ((bt x ((a + k : Nat) : Int) = 0 ∧ 0 < k) ∨ (valL (runL x a (k + 1)) : Int) > 1000000000) from fun h => h.elim h6 h5)]
            exact ev_some rfl
      · simp only [if_neg h2]
        refine ih (k + 1) g13 g14 ?_
        intro b hb'
        rw [runL_succ x a k h1] at hb'
        rcases List.mem_append.1 hb' with hb' | hb'
        · exact hp b hb'
        · have := List.mem_singleton.1 hb'
          omega
    · simp only [spec_ReadVar.l0, if_neg (show ¬ ((a + k : Nat) : Int) < (x.size : Int) from by omega)]
      refine ev_succ ?_
      simp only [spec_ReadVar.j1, Bool.false_eq_true, if_false, if_neg h1]
      exact ev_some rfl
theorem spec_ReadVar_ev (x : ByteArray) (hx : x.size ≤ 140737488351232) (a : Int) : Ev (fun r => spec_ReadVar.f r x a) (readVarM x a) := by
  unfold spec_ReadVar.f readVarM
  simp only [spec_in_eq, Option.bind_some]
  by_cases h : 0 ≤ a ∧ a ≤ (x.size : Int)
  · obtain ⟨m, rfl⟩ := Int.eq_ofNat_of_zero_le h.1
    simp only [decide_eq_true h, if_true, if_pos h]
    have := spec_ReadVar_l0 x hx m (by omega) 5 0 rfl (by omega) (by intro b hb; simp [runL] at hb)
    simpa [runL, valL] using this
  · simp only [decide_eq_false h, Bool.false_eq_true, if_false, if_neg h]
    exact ev_some rfl

/-! readshort -/
theorem impl_ReadShort_ev (x : ByteArray) (hx : x.size ≤ 140737488351232) (a : Int) : Ev (fun r => impl_ReadShort.f r x a) (readShortM x a) := by
  unfold impl_ReadShort.f readShortM
  refine Ev.bind (impl_ReadVar_ev x hx a) ?_
  obtain ⟨i1, i2, i3, i4, i5⟩ := readVarM_range x a
  obtain ⟨⟨n, e, ok⟩, hv⟩ : ∃ v, readVarM x a = v := ⟨_, rfl⟩
  simp only [hv] at i1 i2 i3 i4 i5 ⊢
  cases ok with
  | false => simp only [Bool.false_eq_true, if_false, false_and]; exact ev_some rfl
  | true =>
    simp only [if_true, true_and]
    by_cases h1 : n > 20000
    · simp only [if_pos h1, if_neg (show ¬ (n ≤ 20000 ∧ n ≤ (x.size : Int) - e) from by omega)]; exact ev_some rfl
    · rw [w64 (x := (x.size : Int) - e) (by omega) (by omega), w64 (x := e + n) (by omega) (by omega)]
      by_cases h2 : n > (x.size : Int) - e
      · simp only [if_neg h1, if_pos h2, if_neg (show ¬ (n ≤ 20000 ∧ n ≤ (x.size : Int) - e) from by omega)]; exact ev_some rfl
      · simp only [if_neg h1, if_neg h2, if_pos (show n ≤ 20000 ∧ n ≤ (x.size : Int) - e from by omega), if_pos i3, if_pos (show e ≤ e + n from by omega), if_pos (show e + n ≤ (x.size : Int) from by omega)]; exact ev_some rfl
theorem spec_ReadShort_ev (x : ByteArray) (hx : x.size ≤ 140737488351232) (a : Int) : Ev (fun r => spec_ReadShort.f r x a) (readShortM x a) := by
  unfold spec_ReadShort.f readShortM
  refine Ev.bind (spec_ReadVar_ev x hx a) ?_
  obtain ⟨i1, i2, i3, i4, i5⟩ := readVarM_range x a
  obtain ⟨⟨n, e, ok⟩, hv⟩ : ∃ v, readVarM x a = v := ⟨_, rfl⟩
  simp only [hv] at i1 i2 i3 i4 i5 ⊢
  cases ok with
  | false => simp only [Bool.false_eq_true, if_false, false_and]; exact ev_some rfl
  | true =>
    simp only [if_true, true_and]
    by_cases h1 : n > 20000
    · simp only [if_pos h1, if_neg (show ¬ (n ≤ 20000 ∧ n ≤ (x.size : Int) - e) from by omega)]; exact ev_some rfl
    · rw [w64 (x := (x.size : Int) - e) (by omega) (by omega), w64 (x := e + n) (by omega) (by omega)]
      by_cases h2 : n > (x.size : Int) - e
      · simp only [if_neg h1, if_pos h2, if_neg (show ¬ (n ≤ 20000 ∧ n ≤ (x.size : Int) - e) from by omega)]; exact ev_some rfl
      · simp only [if_neg h1, if_neg h2, if_pos (show n ≤ 20000 ∧ n ≤ (x.size : Int) - e from by omega), if_pos i3, if_pos (show e ≤ e + n from by omega), if_pos (show e + n ≤ (x.size : Int) from by omega)]; exact ev_some rfl

/-! readrec -/
def svM (x : ByteArray) (a : Int) (b : Bool) : Int × ByteArray × Int × Bool := if b = true then (0, x, a, true) else if (readVarM x a).2.2 = true then ((readVarM x a).1, x, (readVarM x a).2.1, b) else (0, x, a, true)
def ssM (x : ByteArray) (a : Int) (b : Bool) : ByteArray × ByteArray × Int × Bool := if b = true then ((⟨#[]⟩ : ByteArray), x, a, true) else if (readShortM x a).2.2 = true then ((readShortM x a).1, x, (readShortM x a).2.1, b) else ((⟨#[]⟩ : ByteArray), x, a, true)
theorem spec_l06Var_ev (x : ByteArray) (hx : x.size ≤ 140737488351232) (a : Int) (b : Bool) : Ev (fun k => spec_l06Var.f k x a b) (svM x a b) := by
  unfold spec_l06Var.f svM
  exact Ev.bind (spec_ReadVar_ev x hx a) (ev_ite (ev_some rfl) (ev_ite (ev_some rfl) (ev_some rfl)))
theorem spec_l06ReadShort_ev (x : ByteArray) (hx : x.size ≤ 140737488351232) (a : Int) (b : Bool) : Ev (fun k => spec_l06ReadShort.f k x a b) (ssM x a b) := by
  unfold spec_l06ReadShort.f ssM
  exact Ev.bind (spec_ReadShort_ev x hx a) (ev_ite (ev_some rfl) (ev_ite (ev_some rfl) (ev_some rfl)))
def Fv (x : ByteArray) (a : Int) (b : Bool) (n e : Int) (c : Bool) : Prop := (b = true → c = true) ∧ (b = false → (c = false ∧ readVarM x a = (n, e, true)) ∨ (c = true ∧ ¬ (readVarM x a).2.2 = true))
def Fs (x : ByteArray) (a : Int) (b : Bool) (s : ByteArray) (e : Int) (c : Bool) : Prop := s.size ≤ 20000 ∧ (b = true → c = true) ∧ (b = false → (c = false ∧ readShortM x a = (s, e, true)) ∨ (c = true ∧ ¬ (readShortM x a).2.2 = true))
theorem svM_form (x : ByteArray) (a : Int) (b : Bool) : ∃ n e c, svM x a b = (n, x, e, c) ∧ Fv x a b n e c := by
  unfold svM Fv
  cases b with
  | true => exact ⟨_, _, _, rfl, fun _ => rfl, fun h => by simp at h⟩
  | false =>
    obtain ⟨⟨n, e, ok⟩, hv⟩ : ∃ v, readVarM x a = v := ⟨_, rfl⟩
    cases ok with
    | true => exact ⟨n, e, false, by simp [hv], by simp, fun _ => .inl ⟨rfl, hv⟩⟩
    | false => exact ⟨0, a, true, by simp [hv], by simp, fun _ => .inr ⟨rfl, by simp [hv]⟩⟩
theorem ssM_form (x : ByteArray) (a : Int) (b : Bool) : ∃ s e c, ssM x a b = (s, x, e, c) ∧ Fs x a b s e c := by
  unfold ssM Fs
  have hr := (readShortM_range x a).1
  cases b with
  | true => exact ⟨_, _, _, rfl, by decide, fun _ => rfl, fun h => by simp at h⟩
  | false =>
    obtain ⟨⟨n, e, ok⟩, hv⟩ : ∃ v, readShortM x a = v := ⟨_, rfl⟩
    rw [hv] at hr
    cases ok with
    | true => exact ⟨n, e, false, by simp [hv], hr, by simp, fun _ => .inl ⟨rfl, hv⟩⟩
    | false => exact ⟨⟨#[]⟩, a, true, by simp [hv], by decide, by simp, fun _ => .inr ⟨rfl, by simp [hv]⟩⟩
theorem readRecM_chain (x : ByteArray) (h0 : ¬ x.size = 0) (n1 n2 n3 n4 e1 e2 e3 e4 e5 e6 e7 : Int) (s5 s6 s7 : ByteArray) (b1 b2 b3 b4 b5 b6 b7 : Bool)
    (F1 : Fv x 1 false n1 e1 b1) (F2 : Fv x e1 b1 n2 e2 b2) (F3 : Fv x e2 b2 n3 e3 b3) (F4 : Fv x e3 b3 n4 e4 b4) (F5 : Fs x e4 b4 s5 e5 b5) (F6 : Fs x e5 b5 s6 e6 b6) (F7 : Fs x e6 b6 s7 e7 b7) :
    readRecM x = if b7 = true then recZ else if (recTextM (bt x 0) n1 n2 n3 n4 s5 s6 s7).2 = true then (if (recTextM (bt x 0) n1 n2 n3 n4 s5 s6 s7).1 = x then (bt x 0, n1, n2, n3, n4, s5, s6, s7, true) else recZ) else recZ := by
  unfold readRecM
  rw [if_neg h0]
  rcases F1.2 rfl with ⟨rfl, q1⟩ | ⟨rfl, q1⟩
  rotate_left
  · rw [if_neg q1, if_pos (F7.2.1 (F6.2.1 (F5.2.1 (F4.1 (F3.1 (F2.1 rfl))))))]
  rcases F2.2 rfl with ⟨rfl, q2⟩ | ⟨rfl, q2⟩
  rotate_left
  · rw [q1, if_pos rfl, if_neg q2, if_pos (F7.2.1 (F6.2.1 (F5.2.1 (F4.1 (F3.1 rfl)))))]
  rcases F3.2 rfl with ⟨rfl, q3⟩ | ⟨rfl, q3⟩
  rotate_left
  · rw [q1, if_pos rfl]
    simp only [q2, if_true]
    rw [if_neg q3, if_pos (F7.2.1 (F6.2.1 (F5.2.1 (F4.1 rfl))))]
  rcases F4.2 rfl with ⟨rfl, q4⟩ | ⟨rfl, q4⟩
  rotate_left
  · rw [q1, if_pos rfl]
    simp only [q2, q3, if_true]
    rw [if_neg q4, if_pos (F7.2.1 (F6.2.1 (F5.2.1 rfl)))]
  rcases F5.2.2 rfl with ⟨rfl, q5⟩ | ⟨rfl, q5⟩
  rotate_left
  · rw [q1, if_pos rfl]
    simp only [q2, q3, q4, if_true]
    rw [if_neg q5, if_pos (F7.2.1 (F6.2.1 rfl))]
  rcases F6.2.2 rfl with ⟨rfl, q6⟩ | ⟨rfl, q6⟩
  rotate_left
  · rw [q1, if_pos rfl]
    simp only [q2, q3, q4, q5, if_true]
    rw [if_neg q6, if_pos (F7.2.1 rfl)]
  rcases F7.2.2 rfl with ⟨rfl, q7⟩ | ⟨rfl, q7⟩
  rotate_left
  · rw [q1, if_pos rfl]
    simp only [q2, q3, q4, q5, q6, if_true]
    rw [if_neg q7]
  rw [q1, if_pos rfl]
  simp only [q2, q3, q4, q5, q6, q7, if_true, Bool.false_eq_true, if_false]
  have hS := recTextS_read x e1 e2 e3 e4 e5 e6 e7 n1 n2 n3 n4 s5 s6 s7 (by omega) q1 q2 q3 q4 q5 q6 q7
  have r7 := readShortM_range x e6
  rw [q7] at r7
  have hw := ext_whole x e7 r7.2.1 r7.2.2.1
  unfold recTextM
  by_cases hok : recOkM (bt x 0) n1 n2 n3 n4 s5 s6 s7 = true
  · simp only [if_pos hok, if_true, hS]
    by_cases he : e7 = (x.size : Int)
    · rw [if_pos ⟨he, hok⟩, if_pos (hw.2 he)]
    · rw [if_neg (fun h => he h.1), if_neg (fun h => he (hw.1 h))]
  · simp only [if_neg hok, Bool.false_eq_true, if_false]
    rw [if_neg (fun h => hok h.2)]
theorem spec_ReadRec_ev (x : ByteArray) (hx : x.size ≤ 140737488351232) : Ev (fun k => spec_ReadRec.f k x) (readRecM x) := by
  unfold spec_ReadRec.f
  by_cases h0 : x.size = 0
  · simp only [if_pos ((tl_nil x).2 h0)]
    exact ev_some (by unfold readRecM; rw [if_pos h0]; rfl)
  · simp only [if_neg (fun h => h0 ((tl_nil x).1 h)), if_pos (show 0 < (x.size : Int) by omega)]
    have hb := bt_lt x 0
    rw [show wrap64 (bt x 0) = bt x 0 from w64 (by omega) (by omega)]
    obtain ⟨n1, e1, b1, g1, F1⟩ := svM_form x 1 false
    obtain ⟨n2, e2, b2, g2, F2⟩ := svM_form x e1 b1
    obtain ⟨n3, e3, b3, g3, F3⟩ := svM_form x e2 b2
    obtain ⟨n4, e4, b4, g4, F4⟩ := svM_form x e3 b3
    obtain ⟨s5, e5, b5, g5, F5⟩ := ssM_form x e4 b4
    obtain ⟨s6, e6, b6, g6, F6⟩ := ssM_form x e5 b5
    obtain ⟨s7, e7, b7, g7, F7⟩ := ssM_form x e6 b6
    rw [readRecM_chain x h0 n1 n2 n3 n4 e1 e2 e3 e4 e5 e6 e7 s5 s6 s7 b1 b2 b3 b4 b5 b6 b7 F1 F2 F3 F4 F5 F6 F7]
    refine Ev.bind (g1 ▸ spec_l06Var_ev x hx 1 false) ?_
    refine Ev.bind (g2 ▸ spec_l06Var_ev x hx e1 b1) ?_
    refine Ev.bind (g3 ▸ spec_l06Var_ev x hx e2 b2) ?_
    refine Ev.bind (g4 ▸ spec_l06Var_ev x hx e3 b3) ?_
    refine Ev.bind (g5 ▸ spec_l06ReadShort_ev x hx e4 b4) ?_
    refine Ev.bind (g6 ▸ spec_l06ReadShort_ev x hx e5 b5) ?_
    refine Ev.bind (g7 ▸ spec_l06ReadShort_ev x hx e6 b6) ?_
    refine Ev.bind (spec_RecText_ev (bt x 0) n1 n2 n3 n4 s5 s6 s7 (by have := F5.1; omega) (by have := F6.1; omega)) ?_
    refine ev_ite (ev_some rfl) (ev_ite ?_ (ev_some rfl))
    simp only [tl_iff]
    exact ev_ite (ev_some rfl) (ev_some rfl)
theorem impl_ReadRec_ev (x : ByteArray) (hx : x.size ≤ 140737488351232) : Ev (fun k => impl_ReadRec.f k x) (readRecM x) := by
  unfold impl_ReadRec.f
  by_cases h0 : x.size = 0
  · simp only [if_pos ((tl_nil x).2 h0)]
    exact ev_some (by unfold readRecM; rw [if_pos h0]; rfl)
  · simp only [if_neg (fun h => h0 ((tl_nil x).1 h)), if_pos (show 0 < (x.size : Int) by omega)]
    have hb := bt_lt x 0
    have hwb : wrap64 (bt x 0) = bt x 0 := w64 (by omega) (by omega)
    unfold readRecM
    rw [if_neg h0]
    refine Ev.bind (impl_ReadVar_ev x hx 1) (ev_ite ?_ (ev_some rfl))
    refine Ev.bind (impl_ReadVar_ev x hx _) (ev_ite ?_ (ev_some rfl))
    refine Ev.bind (impl_ReadVar_ev x hx _) (ev_ite ?_ (ev_some rfl))
    refine Ev.bind (impl_ReadVar_ev x hx _) (ev_ite ?_ (ev_some rfl))
    refine Ev.bind (impl_ReadShort_ev x hx _) (ev_ite ?_ (ev_some rfl))
    refine Ev.bind (impl_ReadShort_ev x hx _) (ev_ite ?_ (ev_some rfl))
    refine Ev.bind (impl_ReadShort_ev x hx _) (ev_ite ?_ (ev_some rfl))
    simp only [impl_ReadRec.rs, impl_ReadRec.fin, List.nil_append, List.cons_append, List.getD_cons_zero, List.getD_cons_succ, hwb]
    have s5 := (readShortM_range x (readVarM x (readVarM x (readVarM x (readVarM x 1).2.1).2.1).2.1).2.1).1
    have s6 := (readShortM_range x (readShortM x (readVarM x (readVarM x (readVarM x (readVarM x 1).2.1).2.1).2.1).2.1).2.1).1
    refine ev_if (fun he => ?_) (fun he => ?_)
    · refine Ev.bind (impl_RecOk_ev _ _ _ _ _ _ _ _ (by omega) (by omega)) ?_
      refine ev_if (fun hok => ?_) (fun hok => ?_)
      · rw [if_pos ⟨he, hok⟩]; exact ev_some rfl
      · rw [if_neg (fun h => hok h.2)]; exact ev_some rfl
    · rw [if_neg (fun h => he h.1)]; exact ev_some rfl

/-! frameitem -/
def frameItemM (a b : Int) (c : ByteArray) : Int × Int × Int × Int × Int × Int × ByteArray × ByteArray × ByteArray × Bool :=
  if (readRecM c).2.2.2.2.2.2.2.2 = true then (if frameOkM a b c = true then (b, (readRecM c).1, (readRecM c).2.1, (readRecM c).2.2.1, (readRecM c).2.2.2.1, (readRecM c).2.2.2.2.1, (readRecM c).2.2.2.2.2.1, (readRecM c).2.2.2.2.2.2.1, (readRecM c).2.2.2.2.2.2.2.1, true) else (0, 0, 0, 0, 0, 0, (⟨#[]⟩ : ByteArray), (⟨#[]⟩ : ByteArray), (⟨#[]⟩ : ByteArray), false)) else (0, 0, 0, 0, 0, 0, (⟨#[]⟩ : ByteArray), (⟨#[]⟩ : ByteArray), (⟨#[]⟩ : ByteArray), false)
theorem impl_FrameItem_ev (a b : Int) (c : ByteArray) (hc : c.size ≤ 140737488351232) : Ev (fun k => impl_FrameItem.f k a b c) (frameItemM a b c) := by
  unfold impl_FrameItem.f frameItemM
  refine Ev.bind (impl_ReadRec_ev c hc) ?_
  simp only [impl_FrameOk_eq, Option.bind_some]
  exact ev_ite (ev_ite (ev_some rfl) (ev_some rfl)) (ev_some rfl)

/-! itemframe -/
def itemFrameM (a0 a1 a2 a3 a4 a5 : Int) (x6 x7 x8 : ByteArray) (g : Int) : Int × Int × ByteArray × Bool :=
  if (recTextM a1 a2 a3 a4 a5 x6 x7 x8).2 = true then (if frameOkM g a0 (recTextM a1 a2 a3 a4 a5 x6 x7 x8).1 = true then (g, a0, (recTextM a1 a2 a3 a4 a5 x6 x7 x8).1, true) else (0, 0, (⟨#[]⟩ : ByteArray), false)) else (0, 0, (⟨#[]⟩ : ByteArray), false)
theorem impl_ItemFrame_ev (a0 a1 a2 a3 a4 a5 : Int) (x6 x7 x8 : ByteArray) (g : Int) (h6 : x6.size ≤ 1048576) (h7 : x7.size ≤ 1048576) : Ev (fun k => impl_ItemFrame.f k a0 a1 a2 a3 a4 a5 x6 x7 x8 g) (itemFrameM a0 a1 a2 a3 a4 a5 x6 x7 x8 g) := by
  unfold impl_ItemFrame.f itemFrameM
  refine Ev.bind (impl_RecText_ev a1 a2 a3 a4 a5 x6 x7 x8 (by omega) (by omega)) ?_
  simp only [impl_FrameOk_eq, Option.bind_some]
  refine ev_ite ?_ (ev_some rfl)
  refine ev_ite (ev_some rfl) (ev_some rfl)

theorem impl_RecText_any (a0 a1 a2 a3 a4 : Int) (x5 x6 x7 : ByteArray) (h5 : x5.size ≤ 140737488351232) (h6 : x6.size ≤ 140737488351232) : ∃ r, Ev (fun k => impl_RecText.f k a0 a1 a2 a3 a4 x5 x6 x7) r := ⟨_, impl_RecText_ev a0 a1 a2 a3 a4 x5 x6 x7 h5 h6⟩
theorem readRecM_sizes (t : ByteArray) : (readRecM t).2.2.2.2.2.1.size ≤ 1000 ∧ (readRecM t).2.2.2.2.2.2.1.size ≤ 1000 := by
  by_cases h : (readRecM t).2.2.2.2.2.2.2.2 = true
  · have hb := recOkM_bounds (readRecM_back t h).1
    omega
  · have : readRecM t = recZ := by
      unfold readRecM at h ⊢
      repeat' split
      all_goals first | rfl | (simp_all; done)
    rw [this]
    decide
theorem records_j0 (l : List Int) (hl : l.length ≤ 1048576) (a0 a1 a2 a3 a4 : Int) (x5 x6 x7 : ByteArray) (h5 : x5.size ≤ 1000) (h6 : x6.size ≤ 1000) :
    Ev (fun k => laws_FnRecords.j0 k l (recOkM a0 a1 a2 a3 a4 x5 x6 x7) false a0 a1 a2 a3 a4 x5 x6 x7) true := by
  refine ev_succ ?_
  simp only [laws_FnRecords.j0, Bool.false_eq_true, if_false]
  obtain ⟨u, hu, hus⟩ := spec_DrawWordOk_some l hl
  refine Ev.bind (impl_ItemFrame_ev 7 a0 a1 a2 a3 a4 x5 x6 x7 3 (by omega) (by omega)) ?_
  have hw1 := impl_WordOk_ev u (by omega)
  have hw2 := spec_WordOk_ev u (by omega)
  by_cases hok : recOkM a0 a1 a2 a3 a4 x5 x6 x7 = true
  · have hsz := recTextS_size a0 a1 a2 a3 a4 x5 x6 x7 hok
    have hT : recTextM a0 a1 a2 a3 a4 x5 x6 x7 = (recTextS a0 a1 a2 a3 a4 x5 x6 x7, true) := by unfold recTextM; rw [if_pos hok]
    have hF : frameOkM 3 7 (recTextS a0 a1 a2 a3 a4 x5 x6 x7) = true := by
      unfold frameOkM
      exact decide_eq_true ⟨by omega, by omega, by omega, by omega⟩
    have hI : itemFrameM 7 a0 a1 a2 a3 a4 x5 x6 x7 3 = (3, 7, recTextS a0 a1 a2 a3 a4 x5 x6 x7, true) := by
      unfold itemFrameM
      rw [hT]
      simp only [if_true]
      rw [if_pos hF]
    have hB : frameItemM 3 7 (recTextS a0 a1 a2 a3 a4 x5 x6 x7) = (7, a0, a1, a2, a3, a4, x5, x6, x7, true) := by
      unfold frameItemM
      rw [readRecM_trip a0 a1 a2 a3 a4 x5 x6 x7 hok]
      simp only [if_true]
      rw [if_pos hF]
    have hfi := impl_FrameItem_ev 3 7 (recTextS a0 a1 a2 a3 a4 x5 x6 x7) (by omega)
    rw [hB] at hfi
    rw [hI, hok]
    simp only
    refine Ev.bind hfi ?_
    refine Ev.bind hu ?_
    simp only [beq_self_eq_true, Bool.and_self, if_true]
    exact Ev.bind hw1 (Ev.bind hw2 (ev_some (by simp)))
  · have hok' : recOkM a0 a1 a2 a3 a4 x5 x6 x7 = false := by simpa using hok
    have hT : recTextM a0 a1 a2 a3 a4 x5 x6 x7 = ((⟨#[]⟩ : ByteArray), false) := by unfold recTextM; rw [if_neg hok]
    have hI : itemFrameM 7 a0 a1 a2 a3 a4 x5 x6 x7 3 = (0, 0, (⟨#[]⟩ : ByteArray), false) := by
      unfold itemFrameM
      rw [hT]
      rfl
    rw [hI, hok']
    simp only
    refine Ev.bind (impl_FrameItem_ev 0 0 (⟨#[]⟩ : ByteArray) (by decide)) ?_
    refine Ev.bind hu ?_
    simp only [beq_self_eq_true, if_true, Bool.false_eq_true, if_false]
    exact Ev.bind hw1 (Ev.bind hw2 (ev_some (by simp)))
theorem FnRecords : laws_FnRecords.Pure := by
  intro l _ _ _
  refine Ev.rounds ?_
  unfold laws_FnRecords.f laws_big.f
  simp only [Option.bind_some]
  refine ev_if (fun _ => ev_some rfl) (fun hbig => ?_)
  have hl : l.length ≤ 1048576 := by simp only [decide_eq_true_eq] at hbig; omega
  obtain ⟨a0, a1, a2, a3, a4, x5, x6, x7, hd, h5, h6, h7⟩ := spec_DrawRecText_some l hl
  obtain ⟨u, hu, hus⟩ := spec_DrawReadRec_some l hl
  have hj := records_j0 l hl a0 a1 a2 a3 a4 x5 x6 x7 h5 h6
  refine Ev.bind hd ?_
  refine Ev.bind (impl_RecText_ev a0 a1 a2 a3 a4 x5 x6 x7 (by omega) (by omega)) ?_
  have hts : (recTextM a0 a1 a2 a3 a4 x5 x6 x7).1.size ≤ 1000 := by
    unfold recTextM
    by_cases h : recOkM a0 a1 a2 a3 a4 x5 x6 x7 = true
    · rw [if_pos h]
      have h2 := recTextS_size a0 a1 a2 a3 a4 x5 x6 x7 h
      simp only
      omega
    · rw [if_neg h]
      decide
  refine Ev.bind (impl_ReadRec_ev _ (by omega)) ?_
  refine Ev.bind hu ?_
  refine Ev.bind (impl_ReadRec_ev u (by omega)) ?_
  refine Ev.bind (spec_ReadRec_ev u (by omega)) ?_
  have hz := readRecM_sizes u
  refine Ev.bind (impl_RecText_ev _ _ _ _ _ _ _ _ (by omega) (by omega)) ?_
  refine Ev.bind (spec_RecOk_ev a0 a1 a2 a3 a4 x5 x6 x7 (by omega) (by omega)) ?_
  have e2 : (recTextM a0 a1 a2 a3 a4 x5 x6 x7).2 = recOkM a0 a1 a2 a3 a4 x5 x6 x7 := by
    unfold recTextM
    by_cases h : recOkM a0 a1 a2 a3 a4 x5 x6 x7 = true
    · rw [if_pos h, h]
    · rw [if_neg h]; simpa using h
  simp only [e2, bne_self_eq_false, Bool.false_eq_true, if_false]
  refine Ev.bind (impl_RecOk_ev a0 a1 a2 a3 a4 x5 x6 x7 (by omega) (by omega)) ?_
  simp only [bne_self_eq_false, Bool.false_eq_true, if_false]
  have hback : ∀ h : (readRecM u).2.2.2.2.2.2.2.2 = true, ((recTextM (readRecM u).1 (readRecM u).2.1 (readRecM u).2.2.1 (readRecM u).2.2.2.1 (readRecM u).2.2.2.2.1 (readRecM u).2.2.2.2.2.1 (readRecM u).2.2.2.2.2.2.1 (readRecM u).2.2.2.2.2.2.2.1).1.toList != u.toList) = false := by
    intro h
    obtain ⟨hok, hb⟩ := readRecM_back u h
    unfold recTextM
    rw [if_pos hok]
    simp only [hb, bne_self_eq_false]
  have hend : Ev (fun k => if (readRecM u).2.2.2.2.2.2.2.2 = true then laws_FnRecords.j0 k l (recOkM a0 a1 a2 a3 a4 x5 x6 x7) ((recTextM (readRecM u).1 (readRecM u).2.1 (readRecM u).2.2.1 (readRecM u).2.2.2.1 (readRecM u).2.2.2.2.1 (readRecM u).2.2.2.2.2.1 (readRecM u).2.2.2.2.2.2.1 (readRecM u).2.2.2.2.2.2.2.1).1.toList != u.toList) a0 a1 a2 a3 a4 x5 x6 x7 else laws_FnRecords.j0 k l (recOkM a0 a1 a2 a3 a4 x5 x6 x7) false a0 a1 a2 a3 a4 x5 x6 x7) true := by
    refine ev_if (fun h => ?_) (fun _ => hj)
    rw [hback h]
    exact hj
  refine ev_if (fun hok => ?_) (fun _ => hend)
  have hR : readRecM (recTextM a0 a1 a2 a3 a4 x5 x6 x7).1 = (a0, a1, a2, a3, a4, x5, x6, x7, true) := by
    unfold recTextM
    rw [if_pos hok]
    exact readRecM_trip a0 a1 a2 a3 a4 x5 x6 x7 hok
  rw [hR]
  simp only [beq_self_eq_true, Bool.not_true, Bool.or_self, Bool.false_eq_true, if_false, if_true]
  exact hend

end Go.Proofs.Ytagkjeldheiejaa.Pure
