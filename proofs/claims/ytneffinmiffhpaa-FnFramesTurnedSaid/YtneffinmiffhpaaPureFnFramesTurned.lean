/- The pure statement of FnFramesTurned, over numbers and lists: it is true of every argument; no condition but the bounds that the statement itself names. -/
import Derived.Test.YtneffinmiffhpaaPFnFramesTurnedx8
import Derived.Test.YtneffinmiffhpaaVFnFramesTurned1
set_option linter.unusedVariables false
set_option linter.unusedSimpArgs false
namespace Go.Proofs.Ytneffinmiffhpaa.Pure
open Go.RowKit Go.Proofs.Ytneffinmiffhpaa.PFnFramesTurned Go.Proofs.YtneffinmiffhpaaW.PrintWords Go.Proofs.YtneffinmiffhpaaW.PrintLast Go.Proofs.YtneffinmiffhpaaW.PrintMore Go.Proofs.Ytneffinmiffhpaa.Base

/-! draws -/
theorem and255 (x : Int) : 0 ≤ bits .and .i64 x 255 ∧ bits .and .i64 x 255 ≤ 255 := by
  unfold bits
  have h : (BitVec.ofInt (IntKind.bits .i64) x &&& BitVec.ofInt (IntKind.bits .i64) 255).toNat ≤ 255 := by
    rw [BitVec.toNat_and]
    exact Nat.le_trans Nat.and_le_right (by decide)
  simp only
  rw [b_wraps_i64 _ (by omega) (by omega)]
  omega
/-- Where a drawing stands: inside its bytes. -/
def Inside (l : List Int) (p : Int) : Prop := 0 ≤ p ∧ p ≤ (l.length : Int)
theorem l01Byte_some (l : List Int) (hl : l.length ≤ 1048576) (p s : Int) (hp : Inside l p) : ∃ b p' s', spec_l01Byte.f l p s = some (b, p', s') ∧ (0 ≤ b ∧ b ≤ 255) ∧ Inside l p' := by
  obtain ⟨h0, h1⟩ := hp
  unfold spec_l01Byte.f
  by_cases h : p < (l.length : Int)
  · rw [if_pos h, if_pos h0]
    refine ⟨_, _, _, rfl, and255 _, ?_⟩
    have e := w64 (x := p + 1) (by omega) (by omega)
    rw [e]
    exact ⟨by omega, by omega⟩
  · rw [if_neg h]
    exact ⟨_, _, _, rfl, and255 _, h0, h1⟩
theorem l01Below_some (l : List Int) (hl : l.length ≤ 1048576) (p s n : Int) (hp : Inside l p) : ∃ b p' s', spec_l01Below.f l p s n = some (b, p', s') ∧ (0 ≤ b ∧ (0 < n → b < n)) ∧ Inside l p' := by
  unfold spec_l01Below.f
  by_cases h : n ≤ 0
  · rw [if_pos h]
    exact ⟨_, _, _, rfl, ⟨Int.le_refl _, fun h2 => by omega⟩, hp⟩
  · rw [if_neg h]
    by_cases h2 : n ≤ 256
    · rw [if_pos h2]
      obtain ⟨b, p', s', e, hb, hp'⟩ := l01Byte_some l hl p s hp
      simp only [e, Option.bind_some, if_neg (show ¬ n = 0 by omega)]
      exact ⟨_, _, _, rfl, ⟨Int.tmod_nonneg _ hb.1, fun h3 => Int.tmod_lt_of_pos _ h3⟩, hp'⟩
    · rw [if_neg h2]
      obtain ⟨b1, p1, s1, e1, hb1, hp1⟩ := l01Byte_some l hl p s hp
      obtain ⟨b2, p2, s2, e2, hb2, hp2⟩ := l01Byte_some l hl p1 s1 hp1
      obtain ⟨b3, p3, s3, e3, hb3, hp3⟩ := l01Byte_some l hl p2 s2 hp2
      obtain ⟨b4, p4, s4, e4, hb4, hp4⟩ := l01Byte_some l hl p3 s3 hp3
      simp only [e1, e2, e3, e4, Option.bind_some, if_neg (show ¬ n = 0 by omega)]
      refine ⟨_, _, _, rfl, ⟨Int.tmod_nonneg _ ?_, fun h3 => Int.tmod_lt_of_pos _ h3⟩, hp4⟩
      have a1 := w64 (x := b1 * 16777216) (by omega) (by omega)
      rw [a1]
      clear a1
      have a2 := w64 (x := b2 * 65536) (by omega) (by omega)
      rw [a2]
      clear a2
      have a3 := w64 (x := b3 * 256) (by omega) (by omega)
      rw [a3]
      clear a3
      have a4 := w64 (x := b1 * 16777216 + b2 * 65536) (by omega) (by omega)
      rw [a4]
      clear a4
      have a5 := w64 (x := b1 * 16777216 + b2 * 65536 + b3 * 256) (by omega) (by omega)
      rw [a5]
      clear a5
      have a6 := w64 (x := b1 * 16777216 + b2 * 65536 + b3 * 256 + b4) (by omega) (by omega)
      rw [a6]
      omega
theorem l01Once_some (l : List Int) (hl : l.length ≤ 1048576) (p s n : Int) (hp : Inside l p) : ∃ (b : Bool) (p' s' : Int), spec_l01Once.f l p s n = some (b, p', s') ∧ Inside l p' := by
  unfold spec_l01Once.f
  obtain ⟨b, p', s', e, _, hp'⟩ := l01Below_some l hl p s n hp
  simp only [e, Option.bind_some]
  exact ⟨_, _, _, rfl, hp'⟩
theorem l01Text_l0 (l : List Int) (hl : l.length ≤ 1048576) (n : Nat) (hn : n ≤ 5000) (d : Nat) : ∀ (i : Nat) (acc : List Int) (p s : Int), n - i = d → i ≤ n → acc.length = i → Inside l p →
    ∃ (t : ByteArray) (p' s' : Int), Ev (fun k => spec_l01Text.l0 k (n : Int) acc (i : Int) l p s) (t, p', s') ∧ t.size = n ∧ Inside l p' := by
  induction d with
  | zero =>
    intro i acc p s hd hi ha hp
    refine ⟨strOfNums acc, p, s, ev_succ ?_, by rw [strOfNums_size]; omega, hp⟩
    simp only [spec_l01Text.l0, if_neg (show ¬ (i : Int) < (n : Int) by omega)]
    exact ev_some rfl
  | succ d ih =>
    intro i acc p s hd hi ha hp
    obtain ⟨b, p1, s1, e, hb, hp1⟩ := l01Byte_some l hl p s hp
    obtain ⟨t, p', s', h, hs, hp'⟩ := ih (i + 1) (acc ++ [b % 256]) p1 s1 (by omega) (by omega) (by simp; omega) hp1
    refine ⟨t, p', s', ev_succ ?_, hs, hp'⟩
    simp only [spec_l01Text.l0, if_pos (show (i : Int) < (n : Int) by omega), e, Option.bind_some, if_pos (show acc.length < 140737488355328 by omega), wn i (show i < n by omega) (by omega)]
    exact h
theorem l01Text_some (l : List Int) (hl : l.length ≤ 1048576) (p s n : Int) (hn : 0 ≤ n ∧ n ≤ 5000) (hp : Inside l p) : ∃ (t : ByteArray) (p' s' : Int), Ev (fun k => spec_l01Text.f k l p s n) (t, p', s') ∧ (t.size : Int) = n ∧ Inside l p' := by
  obtain ⟨m, rfl⟩ := Int.eq_ofNat_of_zero_le hn.1
  obtain ⟨t, p', s', h, hs, hp'⟩ := l01Text_l0 l hl m (by omega) m 0 [] p s (by omega) (by omega) rfl hp
  refine ⟨t, p', s', ?_, by omega, hp'⟩
  unfold spec_l01Text.f
  simp only [if_neg (show ¬ (m : Int) > 5000 by omega)]
  refine ev_succ ?_
  simp only [spec_l01Text.j0]
  exact h
theorem l01New_l0 (l : List Int) (hl : l.length ≤ 1048576) (d : Nat) : ∀ (i : Nat) (s : Int), l.length - i = d → i ≤ l.length → ∃ s', Ev (fun k => spec_l01New.l0 k l s (i : Int)) (l, 0, s') := by
  induction d with
  | zero =>
    intro i s hd hi
    refine ⟨s, ev_succ ?_⟩
    simp only [spec_l01New.l0, if_neg (show ¬ (i : Int) < (l.length : Int) by omega)]
    exact ev_some rfl
  | succ d ih =>
    intro i s hd hi
    by_cases h : (i : Int) < 4000
    · obtain ⟨s', hs⟩ := ih (i + 1) (bits .and .i64 (wrap64 ((wrap64 ((wrap64 (s * 131)) + (wrap64 (rd l (i : Int))))) + 7)) 1073741823) (by omega) (by omega)
      refine ⟨s', ev_succ ?_⟩
      simp only [spec_l01New.l0, if_pos (show (i : Int) < (l.length : Int) by omega), if_pos h, if_pos (show (0 : Int) ≤ (i : Int) by omega), wn i (show i < l.length by omega) (by omega)]
      exact hs
    · refine ⟨s, ev_succ ?_⟩
      simp only [spec_l01New.l0, if_pos (show (i : Int) < (l.length : Int) by omega), if_neg h]
      exact ev_some rfl
theorem l01New_some (l : List Int) (hl : l.length ≤ 1048576) : ∃ s', Ev (fun k => spec_l01New.f k l) (l, 0, s') := by
  unfold spec_l01New.f
  exact l01New_l0 l hl l.length 0 _ (by omega) (by omega)
theorem inside0 (l : List Int) : Inside l 0 := ⟨Int.le_refl _, by omega⟩

/-! drawframe -/
theorem l04Frame_some (l : List Int) (hl : l.length ≤ 1048576) (p s : Int) (hp : Inside l p) : ∃ (g q : Int) (b : ByteArray) (p' s' : Int), Ev (fun k => spec_l04Frame.f k l p s) (g, q, b, p', s') ∧ (1 ≤ g ∧ g ≤ 3) ∧ (1 ≤ q ∧ q ≤ 200) ∧ (1 ≤ b.size ∧ b.size ≤ 20) ∧ Inside l p' := by
  unfold spec_l04Frame.f
  obtain ⟨x, p1, s1, e1, hx, hp1⟩ := l01Below_some l hl p s 3 hp
  obtain ⟨y, p2, s2, e2, hy, hp2⟩ := l01Below_some l hl p1 s1 200 hp1
  obtain ⟨z, p3, s3, e3, hz, hp3⟩ := l01Below_some l hl p2 s2 20 hp2
  have hx2 := hx.2 (by omega)
  have hy2 := hy.2 (by omega)
  have hz2 := hz.2 (by omega)
  obtain ⟨t, p4, s4, h4, ht, hp4⟩ := l01Text_some l hl p3 s3 (1 + z) (by omega) hp3
  refine ⟨1 + x, 1 + y, t, p4, s4, ?_, by omega, by omega, by omega, hp4⟩
  simp only [e1, e2, e3, Option.bind_some, w64 (x := 1 + x) (by omega) (by omega), w64 (x := 1 + y) (by omega) (by omega), w64 (x := 1 + z) (by omega) (by omega)]
  exact Ev.bind h4 (ev_some rfl)

/-! pick -/
theorem l01Long_l0 (n : Nat) (v : Int) (hn : n ≤ 100000) (d : Nat) : ∀ (i : Nat) (acc : List Int), n - i = d → i ≤ n → acc.length = n → ∃ t : ByteArray, Ev (fun k => spec_l01Long.l0 k (n : Int) v acc (i : Int)) t ∧ t.size = n := by
  induction d with
  | zero =>
    intro i acc hd hi ha
    refine ⟨strOfNums acc, ev_succ ?_, by rw [strOfNums_size]; exact ha⟩
    simp only [spec_l01Long.l0, if_neg (show ¬ (i : Int) < (n : Int) by omega)]
    exact ev_some rfl
  | succ d ih =>
    intro i acc hd hi ha
    obtain ⟨t, h, hs⟩ := ih (i + 1) (acc.set i v) (by omega) (by omega) (by rw [List.length_set]; exact ha)
    refine ⟨t, ev_succ ?_, hs⟩
    simp only [spec_l01Long.l0, if_pos (show (i : Int) < (n : Int) by omega), if_pos (show (0 : Int) ≤ (i : Int) by omega), ha, Int.toNat_natCast, wn i (show i < n by omega) (by omega)]
    exact h
theorem l01Long_some (n : Int) (v : Int) (hn : 0 ≤ n ∧ n ≤ 100000) : ∃ t : ByteArray, Ev (fun k => spec_l01Long.f k n v) t ∧ (t.size : Int) = n := by
  obtain ⟨m, rfl⟩ := Int.eq_ofNat_of_zero_le hn.1
  obtain ⟨t, h, hs⟩ := l01Long_l0 m v (by omega) m 0 (List.replicate m 0) (by omega) (by omega) (by simp)
  refine ⟨t, ?_, by omega⟩
  unfold spec_l01Long.f
  simp only [if_pos hn.1, Int.toNat_natCast, if_pos (show m ≤ 281474976710656 by omega)]
  exact h
theorem l01PickInt_some (l : List Int) (hl : l.length ≤ 1048576) (p s : Int) (hp : Inside l p) (L : List Int) (hL : 0 < L.length) : ∃ v p' s', spec_l01PickInt.f l p s L = some (v, p', s') ∧ v ∈ L ∧ Inside l p' := by
  unfold spec_l01PickInt.f
  obtain ⟨b, p1, s1, e, hb, hp1⟩ := l01Below_some l hl p s (L.length : Int) hp
  have h2 := hb.2 (by omega)
  refine ⟨rd L b, p1, s1, ?_, ?_, hp1⟩
  · simp only [e, Option.bind_some, if_pos hb.1, if_pos h2]
  · unfold rd
    rw [List.getD_eq_getElem?_getD, List.getElem?_eq_getElem (show b.toNat < L.length by omega)]
    exact List.getElem_mem _
theorem l01Place_some (l : List Int) (hl : l.length ≤ 1048576) (p s n : Int) (hp : Inside l p) : ∃ v p' s', spec_l01Place.f l p s n = some (v, p', s') ∧ Inside l p' := by
  unfold spec_l01Place.f
  obtain ⟨b, p1, s1, e, hp1⟩ := l01Once_some l hl p s 15 hp
  cases b with
  | true =>
    obtain ⟨v, p2, s2, hv, _, hp2⟩ := l01PickInt_some l hl p1 s1 hp1 (([(-1), n, wrap64 (n + 1), 9223372036854775807, (-9223372036854775808)] : List Int)) (by simp)
    exact ⟨v, p2, s2, by simp only [e, Option.bind_some, if_true, hv], hp2⟩
  | false =>
    obtain ⟨v, p2, s2, hv, _, hp2⟩ := l01Below_some l hl p1 s1 n hp1
    exact ⟨v, p2, s2, by simp only [e, Option.bind_some, Bool.false_eq_true, if_false, hv], hp2⟩

/-! in -/
theorem spec_in_eq (a b c : Int) : spec_l01In.f a b c = some (decide (b ≤ a ∧ a ≤ c)) := by
  unfold spec_l01In.f
  by_cases h : a ≥ b <;> by_cases h2 : a ≤ c <;> simp [h, h2] <;> omega
theorem impl_in_eq (a b c : Int) : impl_in.f a b c = some (decide (b ≤ a ∧ a ≤ c)) := by
  unfold impl_in.f
  by_cases h : a ≥ b <;> by_cases h2 : a ≤ c <;> simp [h, h2] <;> omega

/-! frameok -/
theorem spec_FrameOk_eq (a b : Int) (c : ByteArray) : spec_FrameOk.f a b c = some (frameOkM a b c) := by
  unfold spec_FrameOk.f frameOkM
  simp only [spec_in_eq, Option.bind_some]
  by_cases h1 : 1 ≤ a ∧ a ≤ 1000000000 <;> by_cases h2 : 1 ≤ b ∧ b ≤ 1000000000 <;> simp [h1, h2]
theorem impl_FrameOk_eq (a b : Int) (c : ByteArray) : impl_FrameOk.f a b c = some (frameOkM a b c) := by
  unfold impl_FrameOk.f frameOkM
  simp only [impl_in_eq, Option.bind_some]
  by_cases h1 : 1 ≤ a ∧ a ≤ 1000000000 <;> by_cases h2 : 1 ≤ b ∧ b ≤ 1000000000 <;> simp [h1, h2]

/-! sum -/
theorem spec_SumMore_l1 (x : ByteArray) (i : Nat) (hi : i < x.size) (hx : x.size ≤ 140737488351232) (r : Int) (n : Nat) : ∀ (s : Int) (j : Nat), 0 ≤ s ∧ s < 4294967296 → j + n = 8 →
    Ev (fun k => spec_SumMore.l0 k (sumBits n s) x ((i + 1 : Nat) : Int)) r → Ev (fun k => spec_SumMore.l1 k s x (i : Int) (j : Int)) r := by
  induction n with
  | zero =>
    intro s j hs hj h
    refine ev_succ ?_
    simp only [spec_SumMore.l1, if_neg (show ¬ (j : Int) < 8 from by omega), wn i hi (by omega)]
    exact h
  | succ n ih =>
    intro s j hs hj h
    refine ev_succ ?_
    have e1 : Int.tmod s 2 = s % 2 := Int.tmod_eq_emod_of_nonneg hs.1
    have e2 : Int.tdiv s 2 % 4294967296 = s / 2 := by rw [Int.tdiv_eq_ediv_of_nonneg hs.1]; omega
    simp only [spec_SumMore.l1, if_pos (show (j : Int) < 8 from by omega), e1, e2, wn j (show j < 8 from by omega) (by omega)]
    have := ih (sumBit s) (j + 1) (sumBit_range hs) (by omega) h
    unfold sumBit at this
    by_cases h2 : s % 2 = 1
    · simpa only [if_pos h2] using this
    · simpa only [if_neg h2] using this
theorem spec_SumMore_l0 (x : ByteArray) (hx : x.size ≤ 140737488351232) (d : Nat) : ∀ (i : Nat) (s : Int), 0 ≤ s ∧ s < 4294967296 → x.size - i = d → i ≤ x.size →
    Ev (fun k => spec_SumMore.l0 k s x (i : Int)) (sumL s ((bytesOf x).drop i)) := by
  induction d with
  | zero =>
    intro i s hs hd hi
    refine ev_succ ?_
    simp only [spec_SumMore.l0, if_neg (show ¬ (i : Int) < (x.size : Int) from by omega)]
    rw [bytes_end x i (by omega)]
    exact ev_some rfl
  | succ d ih =>
    intro i s hs hd hi
    refine ev_succ ?_
    have hb := bt_lt x (i : Int)
    simp only [spec_SumMore.l0, if_pos (show (i : Int) < (x.size : Int) from by omega), if_pos (show (0 : Int) ≤ (i : Int) from by omega), Int.emod_eq_of_lt hb.1 (show bt x (i : Int) < 4294967296 from by omega)]
    rw [bytes_drop x i (by omega)]
    exact spec_SumMore_l1 x i (by omega) hx _ 8 _ 0 (b_xor_range _ _) rfl (ih (i + 1) _ (sumByte_range s _) (by omega) (by omega))
theorem spec_SumMore_ev (s : Int) (x : ByteArray) (hs : 0 ≤ s ∧ s < 4294967296) (hx : x.size ≤ 140737488351232) : Ev (fun k => spec_SumMore.f k s x) (sumL s (bytesOf x)) := by
  simpa [spec_SumMore.f] using spec_SumMore_l0 x hx _ 0 s hs rfl (by omega)
theorem impl_SumMore_l1 (x : ByteArray) (i : Nat) (hi : i < x.size) (hx : x.size ≤ 140737488351232) (r : Int) (n : Nat) : ∀ (s : Int) (j : Nat), 0 ≤ s ∧ s < 4294967296 → j + n = 8 →
    Ev (fun k => impl_SumMore.l0 k (sumBits n s) x (x.size : Int) ((i + 1 : Nat) : Int)) r → Ev (fun k => impl_SumMore.l1 k s x (x.size : Int) (i : Int) (j : Int)) r := by
  induction n with
  | zero =>
    intro s j hs hj h
    refine ev_succ ?_
    simp only [impl_SumMore.l1, if_neg (show ¬ (j : Int) < 8 from by omega), wn i hi (by omega)]
    exact h
  | succ n ih =>
    intro s j hs hj h
    refine ev_succ ?_
    simp only [impl_SumMore.l1, if_pos (show (j : Int) < 8 from by omega), b_and1 s hs.1 hs.2, wn j (show j < 8 from by omega) (by omega)]
    have := ih (sumBit s) (j + 1) (sumBit_range hs) (by omega) h
    unfold sumBit at this
    by_cases h2 : s % 2 = 1
    · simpa only [if_pos h2] using this
    · simpa only [if_neg h2] using this
theorem impl_SumMore_l0 (x : ByteArray) (hx : x.size ≤ 140737488351232) (d : Nat) : ∀ (i : Nat) (s : Int), 0 ≤ s ∧ s < 4294967296 → x.size - i = d → i ≤ x.size →
    Ev (fun k => impl_SumMore.l0 k s x (x.size : Int) (i : Int)) (sumL s ((bytesOf x).drop i)) := by
  induction d with
  | zero =>
    intro i s hs hd hi
    refine ev_succ ?_
    simp only [impl_SumMore.l0, if_neg (show ¬ (i : Int) < (x.size : Int) from by omega)]
    rw [bytes_end x i (by omega)]
    exact ev_some rfl
  | succ d ih =>
    intro i s hs hd hi
    refine ev_succ ?_
    have hb := bt_lt x (i : Int)
    simp only [impl_SumMore.l0, if_pos (show (i : Int) < (x.size : Int) from by omega), if_pos (show (0 : Int) ≤ (i : Int) from by omega), Int.emod_eq_of_lt hb.1 (show bt x (i : Int) < 4294967296 from by omega)]
    rw [bytes_drop x i (by omega)]
    exact impl_SumMore_l1 x i (by omega) hx _ 8 _ 0 (b_xor_range _ _) rfl (ih (i + 1) _ (sumByte_range s _) (by omega) (by omega))
theorem impl_SumMore_ev (s : Int) (x : ByteArray) (hs : 0 ≤ s ∧ s < 4294967296) (hx : x.size ≤ 140737488351232) : Ev (fun k => impl_SumMore.f k s x) (sumL s (bytesOf x)) := by
  simpa [impl_SumMore.f] using impl_SumMore_l0 x hx _ 0 s hs rfl (by omega)
theorem spec_SumOf_ev (x : ByteArray) (hx : x.size ≤ 140737488351232) : Ev (fun k => spec_SumOf.f k x) (sumOfM x) :=
  Ev.bind (spec_SumMore_ev _ x (by omega) hx) (ev_some rfl)
theorem impl_SumOf_ev (x : ByteArray) (hx : x.size ≤ 140737488351232) : Ev (fun k => impl_SumOf.f k x) (sumOfM x) :=
  Ev.bind (impl_SumMore_ev _ x (by omega) hx) (ev_some rfl)
theorem impl_seal_ev (x : ByteArray) (hx : x.size ≤ 140737488351232) : Ev (fun k => impl_seal.f k x) (fourS (sumOfM x)) :=
  Ev.bind (impl_SumOf_ev x hx) (ev_some rfl)
theorem spec_l02Four_eq (s : Int) : spec_l02Four.f s = some (fourS s) := rfl

/-! seal -/
theorem spec_Sealed_ev (x : ByteArray) : Ev (fun k => spec_Sealed.f k x) (sealedM x) := by
  unfold spec_Sealed.f sealedM
  by_cases h : (x.size : Int) > 20000
  · simp only [if_pos h]
    exact ev_some rfl
  · simp only [if_neg h]
    refine Ev.bind (spec_SumOf_ev x (by omega)) ?_
    have h1 := fourS_size (sumOfM x)
    simp only [spec_l02Four_eq, Option.bind_some, if_pos (show x.size + (fourS (sumOfM x)).size ≤ 9223372036854775807 from by omega)]
    exact ev_some rfl
theorem impl_Sealed_ev (x : ByteArray) : Ev (fun k => impl_Sealed.f k x) (sealedM x) := by
  unfold impl_Sealed.f sealedM
  by_cases h : (x.size : Int) > 20000
  · simp only [if_pos h]
    exact ev_some rfl
  · simp only [if_neg h]
    refine Ev.bind (impl_seal_ev x (by omega)) ?_
    have h1 := fourS_size (sumOfM x)
    simp only [if_pos (show x.size + (fourS (sumOfM x)).size ≤ 9223372036854775807 from by omega)]
    exact ev_some rfl

/-! var -/
theorem spec_l01Var_l0 (n : Nat) : ∀ (acc : List Int), n < 9223372036854775808 → acc.length + (varL n).length < 140737488355328 →
    Ev (fun k => spec_l01Var.l0 k (n : Int) acc) (strOfNums (acc ++ varL n)) := by
  induction n using Nat.strongRecOn with
  | _ n ih =>
    intro acc hn hl
    refine ev_succ ?_
    by_cases h : 127 < n
    · rw [varL_big h] at hl ⊢
      rw [List.length_cons] at hl
      simp only [spec_l01Var.l0, if_pos (show (n : Int) > 127 from by omega), if_pos (show acc.length < 140737488355328 from by omega)]
      have e1 : wrap64 (Int.tdiv (n : Int) 128) = ((n / 128 : Nat) : Int) := by
        rw [Int.tdiv_eq_ediv_of_nonneg (by omega), w64 (by omega) (by omega)]; omega
      have e2 : wrap64 (Int.tmod (n : Int) 128 + 128) % 256 = ((n % 128 + 128 : Nat) : Int) := by
        rw [Int.tmod_eq_emod_of_nonneg (by omega), w64 (by omega) (by omega)]; omega
      simp only [e1, e2]
      have := ih (n / 128) (by omega) (acc ++ [((n % 128 + 128 : Nat) : Int)]) (by omega) (by simp; omega)
      simpa using this
    · rw [varL_small (by omega)] at hl ⊢
      have hl' : acc.length + 1 < 140737488355328 := by simpa using hl
      simp only [spec_l01Var.l0, if_neg (show ¬ (n : Int) > 127 from by omega), if_pos (show acc.length < 140737488355328 from by omega)]
      rw [show (n : Int) % 256 = (n : Int) from by omega]
      exact ev_some rfl
theorem impl_varText_l0 (n : Nat) : ∀ (acc : List Int), n < 9223372036854775808 → acc.length + (varL n).length < 140737488355328 →
    Ev (fun k => impl_varText.l0 k (n : Int) acc) (strOfNums (acc ++ varL n)) := by
  induction n using Nat.strongRecOn with
  | _ n ih =>
    intro acc hn hl
    refine ev_succ ?_
    by_cases h : 127 < n
    · rw [varL_big h] at hl ⊢
      rw [List.length_cons] at hl
      simp only [impl_varText.l0, if_pos (show (n : Int) > 127 from by omega), if_pos (show acc.length < 140737488355328 from by omega)]
      have e1 : (n : Int) / 128 = ((n / 128 : Nat) : Int) := by omega
      have e2 : (Go.bits .or .i64 (Go.bits .and .i64 (n : Int) 127) 128) % 256 = ((n % 128 + 128 : Nat) : Int) := by
        rw [b_and127 _ (by omega) (by omega), b_or128 _ (by omega) (by omega)]; omega
      simp only [e1, e2]
      have := ih (n / 128) (by omega) (acc ++ [((n % 128 + 128 : Nat) : Int)]) (by omega) (by simp; omega)
      simpa using this
    · rw [varL_small (by omega)] at hl ⊢
      have hl' : acc.length + 1 < 140737488355328 := by simpa using hl
      simp only [impl_varText.l0, if_neg (show ¬ (n : Int) > 127 from by omega), if_pos (show acc.length < 140737488355328 from by omega)]
      rw [show (n : Int) % 256 = (n : Int) from by omega]
      exact ev_some rfl
theorem spec_l01Var_ev (n : Nat) (h : n < 70368744177664) : Ev (fun k => spec_l01Var.f k (n : Int)) (varS n) := by
  have := varL_length n
  simpa [spec_l01Var.f, varS] using spec_l01Var_l0 n [] (by omega) (by simp; omega)
theorem impl_varText_ev (n : Nat) (h : n < 70368744177664) : Ev (fun k => impl_varText.f k (n : Int)) (varS n) := by
  have := varL_length n
  simpa [impl_varText.f, varS] using impl_varText_l0 n [] (by omega) (by simp; omega)
theorem spec_l01Var_ev' (a : Int) (h0 : 0 ≤ a) (h : a < 70368744177664) : Ev (fun k => spec_l01Var.f k a) (varS a.toNat) := by
  obtain ⟨n, rfl⟩ := Int.eq_ofNat_of_zero_le h0
  exact spec_l01Var_ev n (by omega)
theorem impl_varText_ev' (a : Int) (h0 : 0 ≤ a) (h : a < 70368744177664) : Ev (fun k => impl_varText.f k a) (varS a.toNat) := by
  obtain ⟨n, rfl⟩ := Int.eq_ofNat_of_zero_le h0
  exact impl_varText_ev n (by omega)

/-! frametext -/
theorem spec_FrameText_ev (a b : Int) (c : ByteArray) : Ev (fun k => spec_FrameText.f k a b c) (frameTextM a b c) := by
  unfold spec_FrameText.f frameTextM
  simp only [spec_FrameOk_eq, Option.bind_some]
  by_cases h : frameOkM a b c = true
  · simp only [if_pos h]
    have hr := of_decide_eq_true h
    have s1 := varS_size a.toNat
    have s2 := varS_size b.toNat
    have s3 := varS_size c.size
    have l1 := varL_length a.toNat
    have l2 := varL_length b.toNat
    have l3 := varL_length c.size
    refine Ev.bind (spec_l01Var_ev' a (by omega) (by omega)) ?_
    refine Ev.bind (spec_l01Var_ev' b (by omega) (by omega)) ?_
    simp only [if_pos (show (varS a.toNat).size + (varS b.toNat).size ≤ 9223372036854775807 from by omega)]
    refine Ev.bind (spec_l01Var_ev c.size (by omega)) ?_
    simp only [size_append, if_pos (show (varS a.toNat).size + (varS b.toNat).size + (varS c.size).size ≤ 9223372036854775807 from by omega), if_pos (show (varS a.toNat).size + (varS b.toNat).size + (varS c.size).size + c.size ≤ 9223372036854775807 from by omega)]
    exact Ev.bind (spec_Sealed_ev _) (ev_some rfl)
  · simp only [if_neg h]
    exact ev_some rfl
theorem impl_FrameText_ev (a b : Int) (c : ByteArray) : Ev (fun k => impl_FrameText.f k a b c) (frameTextM a b c) := by
  unfold impl_FrameText.f frameTextM
  simp only [impl_FrameOk_eq, Option.bind_some]
  by_cases h : frameOkM a b c = true
  · simp only [if_pos h]
    have hr := of_decide_eq_true h
    have s1 := varS_size a.toNat
    have s2 := varS_size b.toNat
    have s3 := varS_size c.size
    have l1 := varL_length a.toNat
    have l2 := varL_length b.toNat
    have l3 := varL_length c.size
    refine Ev.bind (impl_varText_ev' a (by omega) (by omega)) ?_
    refine Ev.bind (impl_varText_ev' b (by omega) (by omega)) ?_
    simp only [if_pos (show (varS a.toNat).size + (varS b.toNat).size ≤ 9223372036854775807 from by omega)]
    refine Ev.bind (impl_varText_ev c.size (by omega)) ?_
    simp only [size_append, if_pos (show (varS a.toNat).size + (varS b.toNat).size + (varS c.size).size ≤ 9223372036854775807 from by omega), if_pos (show (varS a.toNat).size + (varS b.toNat).size + (varS c.size).size + c.size ≤ 9223372036854775807 from by omega)]
    exact Ev.bind (impl_Sealed_ev _) (ev_some rfl)
  · simp only [if_neg h]
    exact ev_some rfl

/-! drawfr -/
theorem l04Any_some (l : List Int) (hl : l.length ≤ 1048576) (p s : Int) (hp : Inside l p) : ∃ (g q : Int) (b : ByteArray) (p' s' : Int), Ev (fun k => spec_l04Any.f k l p s) (g, q, b, p', s') ∧ Inside l p' := by
  unfold spec_l04Any.f
  obtain ⟨g, q, t, p1, s1, hf, h1, h2, h3, hp1⟩ := l04Frame_some l hl p s hp
  obtain ⟨k, p2, s2, e, hk, hp2⟩ := l01Below_some l hl p1 s1 10 hp1
  by_cases k0 : k = 0
  · obtain ⟨v, p3, s3, hv, _, hp3⟩ := l01PickInt_some l hl p2 s2 hp2 (([0, 1000000000, 1000000001] : List Int)) (by decide)
    refine ⟨v, q, t, p3, s3, Ev.bind hf ?_, hp3⟩
    simp only [e, Option.bind_some, if_pos k0, hv]
    exact ev_some rfl
  by_cases k1 : k = 1
  · obtain ⟨v, p3, s3, hv, _, hp3⟩ := l01PickInt_some l hl p2 s2 hp2 (([0, 1000000000, (-1)] : List Int)) (by decide)
    refine ⟨g, v, t, p3, s3, Ev.bind hf ?_, hp3⟩
    simp only [e, Option.bind_some, if_neg k0, if_pos k1, hv]
    exact ev_some rfl
  by_cases k2 : k = 2
  · obtain ⟨v, p3, s3, hv, hm, hp3⟩ := l01PickInt_some l hl p2 s2 hp2 (([0, 180, 181] : List Int)) (by decide)
    have hv2 : 0 ≤ v ∧ v ≤ 100000 := by simp at hm; omega
    obtain ⟨u, hu, _⟩ := l01Long_some v 97 hv2
    refine ⟨g, q, u, p3, s3, Ev.bind hf ?_, hp3⟩
    simp only [e, Option.bind_some, if_neg k0, if_neg k1, if_pos k2, hv]
    exact Ev.bind hu (ev_some rfl)
  · refine ⟨g, q, t, p2, s2, Ev.bind hf ?_, hp2⟩
    simp only [e, Option.bind_some, if_neg k0, if_neg k1, if_neg k2]
    exact ev_some rfl
theorem l02Spoilt_some (l : List Int) (hl : l.length ≤ 1048576) (p s : Int) (hp : Inside l p) (x : ByteArray) (hx : x.size ≤ 1000000) : ∃ (t : ByteArray) (p' s' : Int), Ev (fun k => spec_l02Spoilt.f k l p s x) (t, p', s') ∧ t.size ≤ x.size + 1 ∧ Inside l p' := by
  unfold spec_l02Spoilt.f
  obtain ⟨k, p1, s1, e, hk, hp1⟩ := l01Below_some l hl p s 12 hp
  have hj : ∀ c : Bool, ∃ (t : ByteArray) (p' s' : Int), Ev (fun k => spec_l02Spoilt.j0 k x c l p1 s1) (t, p', s') ∧ t.size ≤ x.size + 1 ∧ Inside l p' := by
    intro c
    cases c with
    | false =>
      refine ⟨x, p1, s1, ev_succ ?_, by omega, hp1⟩
      simp only [spec_l02Spoilt.j0, Bool.false_eq_true, if_false]
      exact ev_some rfl
    | true =>
      by_cases h0 : (x.size : Int) > 0
      · obtain ⟨i, p2, s2, e2, hi, hp2⟩ := l01Below_some l hl p1 s1 (x.size : Int) hp1
        have hi2 := hi.2 (by omega)
        obtain ⟨t, p3, s3, ht, hts, hp3⟩ := l01Text_some l hl p2 s2 1 (by omega) hp2
        obtain ⟨n, rfl⟩ := Int.eq_ofNat_of_zero_le hi.1
        have e1 : Aside0 (wrap64 ((n : Int) + 1) = ((n + 1 : Nat) : Int)) := ⟨wn n (show n < x.size by omega) (by omega)⟩
        have z1 : (x.extract 0 n).size = n := by rw [size_extract]; omega
        have z2 : (x.extract (n + 1) x.size).size = x.size - (n + 1) := by rw [size_extract]; omega
        have g1 : (x.extract 0 n).size + t.size ≤ 9223372036854775807 := by omega
        have g2 : (x.extract 0 n).size + t.size + (x.extract (n + 1) x.size).size ≤ 9223372036854775807 := by omega
        refine ⟨((x.extract 0 n) ++ t) ++ (x.extract (n + 1) x.size), p3, s3, ev_succ ?_, by rw [size_append, size_append]; omega, hp3⟩
        have f1 : (0 : Int) ≤ (n : Int) := by omega
        have f2 : (n : Int) ≤ (x.size : Int) := by omega
        have f3 : (0 : Int) ≤ ((n + 1 : Nat) : Int) := by omega
        have f4 : ((n + 1 : Nat) : Int) ≤ (x.size : Int) := by omega
        simp only [spec_l02Spoilt.j0, if_true, if_pos h0, e2, Option.bind_some, if_pos f1, if_pos f2, Int.toNat_natCast]
        refine Ev.bind ht ?_
        simp only [if_pos g1, e1.out, if_pos f3, if_pos f4, Int.toNat_natCast, if_pos g2]
        exact ev_some rfl
      · refine ⟨x, p1, s1, ev_succ ?_, by omega, hp1⟩
        simp only [spec_l02Spoilt.j0, if_true, if_neg h0]
        exact ev_some rfl
  by_cases k0 : k = 0
  · obtain ⟨t, p2, s2, ht, hts, hp2⟩ := l01Text_some l hl p1 s1 1 (by omega) hp1
    have g1 : x.size + t.size ≤ 9223372036854775807 := by omega
    refine ⟨x ++ t, p2, s2, ?_, by rw [size_append]; omega, hp2⟩
    simp only [e, Option.bind_some, if_pos k0]
    refine Ev.bind ht ?_
    simp only [if_pos g1]
    exact ev_some rfl
  by_cases k1 : k = 1
  · obtain ⟨i, p2, s2, e2, hi, hp2⟩ := l01Below_some l hl p1 s1 ((x.size : Int) + 1) hp1
    have hi2 := hi.2 (by omega)
    obtain ⟨n, rfl⟩ := Int.eq_ofNat_of_zero_le hi.1
    have ew := w64 (x := (x.size : Int) + 1) (by omega) (by omega)
    refine ⟨x.extract 0 n, p2, s2, ?_, by rw [size_extract]; omega, hp2⟩
    simp only [e, Option.bind_some, if_neg k0, if_pos k1, ew]
    clear ew
    have f1 : (0 : Int) ≤ (n : Int) := by omega
    have f2 : (n : Int) ≤ (x.size : Int) := by omega
    simp only [e2, Option.bind_some, if_pos f1, if_pos f2, Int.toNat_natCast]
    exact ev_some rfl
  by_cases k2 : k = 2
  · obtain ⟨t, p2, s2, ht, hts, hp2⟩ := hj (k == 2)
    refine ⟨t, p2, s2, ?_, hts, hp2⟩
    simp only [e, Option.bind_some, if_neg k0, if_neg k1, if_pos k2]
    exact ht
  · obtain ⟨t, p2, s2, ht, hts, hp2⟩ := hj (k == 3)
    refine ⟨t, p2, s2, ?_, hts, hp2⟩
    simp only [e, Option.bind_some, if_neg k0, if_neg k1, if_neg k2]
    exact ht
theorem spec_DrawFrameText_some (l : List Int) (hl : l.length ≤ 1048576) : ∃ (g q : Int) (b : ByteArray), Ev (fun k => spec_DrawFrameText.f k l) (g, q, b) := by
  unfold spec_DrawFrameText.f
  obtain ⟨s, hs⟩ := l01New_some l hl
  obtain ⟨g, q, b, p1, s1, h, _⟩ := l04Any_some l hl 0 s (inside0 l)
  exact ⟨g, q, b, Ev.bind hs (Ev.bind h (ev_some rfl))⟩
theorem spec_DrawReadFrame_some (l : List Int) (hl : l.length ≤ 1048576) : ∃ (x : ByteArray) (a : Int), Ev (fun k => spec_DrawReadFrame.f k l) (x, a) ∧ x.size ≤ 1000000 := by
  unfold spec_DrawReadFrame.f
  obtain ⟨s, hs⟩ := l01New_some l hl
  obtain ⟨k, p1, s1, e, hk, hp1⟩ := l01Below_some l hl 0 s 6 (inside0 l)
  obtain ⟨g, q, b, p2, s2, h2, hp2⟩ := l04Any_some l hl p1 s1 hp1
  obtain ⟨g', q', b', p3, s3, h3, hp3⟩ := l04Any_some l hl p2 s2 hp2
  have t1 := spec_FrameText_ev g q b
  have t2 := spec_FrameText_ev g' q' b'
  have z1 := frameTextM_size g q b
  have z2 := frameTextM_size g' q' b'
  obtain ⟨T, hT⟩ : ∃ T, frameTextM g q b = T := ⟨_, rfl⟩
  obtain ⟨U, hU⟩ : ∃ U, frameTextM g' q' b' = U := ⟨_, rfl⟩
  rw [hT] at t1 z1
  rw [hU] at t2 z2
  have gg : T.1.size + U.1.size ≤ 9223372036854775807 := by omega
  have hz : (T.1 ++ U.1).size ≤ 1000000 := by rw [size_append]; omega
  by_cases k0 : k = 0
  · obtain ⟨t, p4, s4, ht, hts, _⟩ := l02Spoilt_some l hl p3 s3 hp3 T.1 (by omega)
    refine ⟨t, 0, Ev.bind hs ?_, by omega⟩
    simp only [e, Option.bind_some]
    refine Ev.bind h2 (Ev.bind t1 (Ev.bind h3 (Ev.bind t2 ?_)))
    simp only [if_pos k0]
    exact Ev.bind ht (ev_some rfl)
  by_cases k1 : k = 1
  · refine ⟨T.1 ++ U.1, (T.1.size : Int), Ev.bind hs ?_, hz⟩
    simp only [e, Option.bind_some]
    refine Ev.bind h2 (Ev.bind t1 (Ev.bind h3 (Ev.bind t2 ?_)))
    simp only [if_neg k0, if_pos k1, if_pos gg]
    exact ev_some rfl
  by_cases k2 : k = 2
  · obtain ⟨v, p4, s4, hv, _⟩ := l01Place_some l hl p3 s3 30 hp3
    refine ⟨T.1 ++ U.1, v, Ev.bind hs ?_, hz⟩
    simp only [e, Option.bind_some]
    refine Ev.bind h2 (Ev.bind t1 (Ev.bind h3 (Ev.bind t2 ?_)))
    simp only [if_neg k0, if_neg k1, if_pos k2, if_pos gg, hv, Option.bind_some]
    exact ev_some rfl
  · refine ⟨T.1 ++ U.1, 0, Ev.bind hs ?_, hz⟩
    simp only [e, Option.bind_some]
    refine Ev.bind h2 (Ev.bind t1 (Ev.bind h3 (Ev.bind t2 ?_)))
    simp only [if_neg k0, if_neg k1, if_neg k2, if_pos gg]
    exact ev_some rfl
theorem drawScanFrames_l0 (l : List Int) (hl : l.length ≤ 1048576) (x5 : Int) (d : Nat) : ∀ (i : Nat) (x : ByteArray) (p s : Int), 5 - i = d → i ≤ 5 → x.size ≤ 20004 * i → Inside l p →
    ∃ t : ByteArray, Ev (fun k => spec_DrawScanFrames.l0 k x5 x (i : Int) l p s) (t, 2) ∧ t.size ≤ 1000000 := by
  have z0 : (⟨#[0, 0]⟩ : ByteArray).size = 2 := rfl
  have hend : ∀ (i : Nat) (x : ByteArray) (p s b p1 s1 : Int), x.size ≤ 20004 * 5 → Inside l p1 → spec_l01Below.f l p s 5 = some (b, p1, s1) → ¬ (i : Int) < b →
      ∃ t : ByteArray, Ev (fun k => spec_DrawScanFrames.l0 k x5 x (i : Int) l p s) (t, 2) ∧ t.size ≤ 1000000 := by
    intro i x p s b p1 s1 hx hp1 e hnb
    have gx : x.size + 2 ≤ 9223372036854775807 := by omega
    by_cases h5 : x5 = 0
    · by_cases h0 : (x.size : Int) > 0
      · obtain ⟨j, p2, s2, e2, hj, _⟩ := l01Below_some l hl p1 s1 (x.size : Int) hp1
        have hj2 := hj.2 (by omega)
        obtain ⟨n, rfl⟩ := Int.eq_ofNat_of_zero_le hj.1
        have z1 : (x.extract 0 n).size = n := by rw [size_extract]; omega
        have g1 : (x.extract 0 n).size + 2 ≤ 9223372036854775807 := by omega
        have f1 : (0 : Int) ≤ (n : Int) := by omega
        have f2 : (n : Int) ≤ (x.size : Int) := by omega
        refine ⟨(x.extract 0 n) ++ (⟨#[0, 0]⟩ : ByteArray), ev_succ ?_, by rw [size_append]; omega⟩
        simp only [spec_DrawScanFrames.l0, e, Option.bind_some, if_neg hnb, if_pos h5, if_pos h0, e2, if_pos f1, if_pos f2, Int.toNat_natCast, if_pos g1]
        exact ev_some rfl
      · refine ⟨x ++ (⟨#[0, 0]⟩ : ByteArray), ev_succ ?_, by rw [size_append]; omega⟩
        simp only [spec_DrawScanFrames.l0, e, Option.bind_some, if_neg hnb, if_pos h5, if_neg h0, if_pos gx]
        exact ev_some rfl
    · refine ⟨x ++ (⟨#[0, 0]⟩ : ByteArray), ev_succ ?_, by rw [size_append]; omega⟩
      simp only [spec_DrawScanFrames.l0, e, Option.bind_some, if_neg hnb, if_neg h5, if_pos gx]
      exact ev_some rfl
  induction d with
  | zero =>
    intro i x p s hd hi hx hp
    obtain ⟨b, p1, s1, e, hb, hp1⟩ := l01Below_some l hl p s 5 hp
    have hb2 := hb.2 (by omega)
    exact hend i x p s b p1 s1 (by omega) hp1 e (by omega)
  | succ d ih =>
    intro i x p s hd hi hx hp
    obtain ⟨b, p1, s1, e, hb, hp1⟩ := l01Below_some l hl p s 5 hp
    by_cases h : (i : Int) < b
    · obtain ⟨g, q, t, p2, s2, hf, _, _, _, hp2⟩ := l04Frame_some l hl p1 s1 hp1
      obtain ⟨o, p3, s3, e3, hp3⟩ := l01Once_some l hl p2 s2 6 hp2
      have key : ∀ g' : Int, ∃ r : ByteArray, Ev (fun k => spec_DrawScanFrames.l0 k x5 (x ++ (frameTextM g' q t).1) ((i + 1 : Nat) : Int) l p3 s3) (r, 2) ∧ r.size ≤ 1000000 := by
        intro g'
        have := frameTextM_size g' q t
        exact ih (i + 1) _ p3 s3 (by omega) (by omega) (by rw [size_append]; omega) hp3
      have gz : ∀ g' : Int, x.size + (frameTextM g' q t).1.size ≤ 9223372036854775807 := by
        intro g'
        have := frameTextM_size g' q t
        omega
      have hw := wn i (show i < 5 by omega) (by omega)
      cases o with
      | true =>
        obtain ⟨r, hr, hrs⟩ := key g
        refine ⟨r, ev_succ ?_, hrs⟩
        simp only [spec_DrawScanFrames.l0, e, Option.bind_some, if_pos h]
        refine Ev.bind hf ?_
        simp only [e3, Option.bind_some, if_true]
        refine Ev.bind (spec_FrameText_ev g q t) ?_
        simp only [if_pos (gz g), hw]
        exact hr
      | false =>
        obtain ⟨r, hr, hrs⟩ := key 2
        refine ⟨r, ev_succ ?_, hrs⟩
        simp only [spec_DrawScanFrames.l0, e, Option.bind_some, if_pos h]
        refine Ev.bind hf ?_
        simp only [e3, Option.bind_some, Bool.false_eq_true, if_false]
        refine Ev.bind (spec_FrameText_ev 2 q t) ?_
        simp only [if_pos (gz 2), hw]
        exact hr
    · exact hend i x p s b p1 s1 (by omega) hp1 e h
theorem spec_DrawScanFrames_some (l : List Int) (hl : l.length ≤ 1048576) : ∃ t : ByteArray, Ev (fun k => spec_DrawScanFrames.f k l) (t, 2) ∧ t.size ≤ 1000000 := by
  unfold spec_DrawScanFrames.f
  obtain ⟨s, hs⟩ := l01New_some l hl
  obtain ⟨k, p1, s1, e, hk, hp1⟩ := l01Below_some l hl 0 s 4 (inside0 l)
  obtain ⟨t, h, hz⟩ := drawScanFrames_l0 l hl k 5 0 (⟨#[]⟩ : ByteArray) p1 s1 (by omega) (by omega) (Nat.zero_le _) hp1
  refine ⟨t, Ev.bind hs ?_, hz⟩
  simp only [e, Option.bind_some]
  exact h

/-! readvar -/
theorem or_comm_i64 (x y : Int) : Go.bits .or .i64 x y = Go.bits .or .i64 y x := by
  unfold bits
  simp only [BitVec.or_comm]
theorem shl7 (k : Nat) (hk : k < 5) (v : Int) (hv : 0 ≤ v ∧ v < 128) : shl .i64 v (wrap64 (7 * (k : Int))) = v * 128 ^ k := by
  rw [w64 (by omega) (by omega)]
  unfold shl
  have e : min (7 * (k : Int)).toNat IntKind.i64.bits = 7 * k := by
    have : IntKind.i64.bits = 64 := rfl
    omega
  rw [e, IntKind.wrap_i64]
  have h : k = 0 ∨ k = 1 ∨ k = 2 ∨ k = 3 ∨ k = 4 := by omega
  rcases h with rfl | rfl | rfl | rfl | rfl <;> omega
theorem or7 (k : Nat) (hk : k < 5) (n v : Int) (hn : 0 ≤ n ∧ n < 128 ^ k) (hv : 0 ≤ v ∧ v < 128) : Go.bits .or .i64 n (v * 128 ^ k) = n + v * 128 ^ k := by
  rw [or_comm_i64]
  have h : k = 0 ∨ k = 1 ∨ k = 2 ∨ k = 3 ∨ k = 4 := by omega
  rcases h with rfl | rfl | rfl | rfl | rfl
  · rw [bits_join .i64 63 (by decide) b_wraps_i64 0 (v * 128 ^ 0) n (by omega) (by omega) (by omega) hn.1 (by omega) (by omega)]; omega
  · rw [bits_join .i64 63 (by decide) b_wraps_i64 7 (v * 128 ^ 1) n (by omega) (by omega) (by omega) hn.1 (by omega) (by omega)]; omega
  · rw [bits_join .i64 63 (by decide) b_wraps_i64 14 (v * 128 ^ 2) n (by omega) (by omega) (by omega) hn.1 (by omega) (by omega)]; omega
  · rw [bits_join .i64 63 (by decide) b_wraps_i64 21 (v * 128 ^ 3) n (by omega) (by omega) (by omega) hn.1 (by omega) (by omega)]; omega
  · rw [bits_join .i64 63 (by decide) b_wraps_i64 28 (v * 128 ^ 4) n (by omega) (by omega) (by omega) hn.1 (by omega) (by omega)]; omega
theorem pow5 (k : Nat) (hk : k < 5) (n v : Int) (hn : 0 ≤ n ∧ n < 128 ^ k) (hv : 0 ≤ v ∧ v < 128) : 0 ≤ n + v * 128 ^ k ∧ n + v * 128 ^ k < 128 ^ (k + 1) ∧ 0 ≤ v * 128 ^ k ∧ v * 128 ^ k < 34359738368 ∧ n + v * 128 ^ k < 34359738368 ∧ (128 : Int) ^ k ≤ 268435456 ∧ 0 < (128 : Int) ^ k := by
  have h : k = 0 ∨ k = 1 ∨ k = 2 ∨ k = 3 ∨ k = 4 := by omega
  rcases h with rfl | rfl | rfl | rfl | rfl <;> omega
theorem impl_ReadVar_l0 (x : ByteArray) (hx : x.size ≤ 140737488351232) (a : Nat) (ha : a ≤ x.size) (f : Nat) : ∀ (k : Nat) (n : Int), k + f = 5 → 0 ≤ n ∧ n < 128 ^ k →
    Ev (fun r => impl_ReadVar.l0 r x (a : Int) n (k : Int)) (rvGo x a f k n) := by
  induction f with
  | zero =>
    intro k n hk hn
    refine ev_succ ?_
    simp only [impl_ReadVar.l0, if_neg (show ¬ (k : Int) < 5 from by omega)]
    refine ev_succ ?_
    simp only [impl_ReadVar.j1, Bool.false_eq_true, if_false]
    exact ev_some rfl
  | succ f ih =>
    intro k n hk hn
    refine ev_succ ?_
    have hk1' : k + 1 + f = 5 := by omega
    have e1 : wrap64 ((a : Int) + (k : Int)) = ((a + k : Nat) : Int) := by rw [w64 (by omega) (by omega)]; omega
    simp only [impl_ReadVar.l0, if_pos (show (k : Int) < 5 from by omega), e1]
    refine ev_succ ?_
    unfold rvGo
    by_cases h1 : a + k < x.size
    · have hb := bt_lt x ((a + k : Nat) : Int)
      have hv : 0 ≤ bt x ((a + k : Nat) : Int) % 128 ∧ bt x ((a + k : Nat) : Int) % 128 < 128 := by omega
      have g1 : ((a + k : Nat) : Int) < (x.size : Int) := by omega
      have g2 : (0 : Int) ≤ ((a + k : Nat) : Int) := by omega
      have g3 : (0 : Int) ≤ 7 * (k : Int) := by omega
      have g4 : bt x ((a + k : Nat) : Int) < 9223372036854775808 := by omega
      have g5 : k < 5 := by omega
      have g6 : x.size ≤ 140737488355328 := by omega
      have g7 : -9223372036854775808 ≤ bt x ((a + k : Nat) : Int) ∧ bt x ((a + k : Nat) : Int) ≤ 9223372036854775807 := by omega
      have g8 : -9223372036854775808 ≤ 7 * (k : Int) ∧ 7 * (k : Int) ≤ 9223372036854775807 := by omega
      have g9 : 5 ≤ 140737488355328 := by omega
      have e6 : wrap64 (((a + k : Nat) : Int) + 1) = ((a + k + 1 : Nat) : Int) := wn (a + k) h1 g6
      have e7 : wrap64 ((k : Int) + 1) = ((k + 1 : Nat) : Int) := wn k g5 g9
      have e2 : wrap64 (bt x ((a + k : Nat) : Int)) = bt x ((a + k : Nat) : Int) := w64 g7.1 g7.2
      have e3 : wrap64 (7 * (k : Int)) = 7 * (k : Int) := w64 g8.1 g8.2
      have e4 := shl7 k g5 _ hv
      rw [e3] at e4
      have e5 := or7 k g5 n _ hn hv
      have hp := pow5 k g5 n _ hn hv
      have hk1 : k + 1 + f = 5 := hk1'
      simp only [impl_ReadVar.j1, decide_eq_true g1, if_true, e1, e2, e3, b_and127 _ hb.1 g4, e4, e5, e6, e7, if_pos g2, if_pos g1, if_pos g3, if_pos h1]
      clear e1 e2 e3 e4 e5 e6 e7
      obtain ⟨p, hpp⟩ : ∃ p : Int, (128 : Int) ^ k = p := ⟨_, rfl⟩
      simp only [hpp] at hp ⊢
      by_cases h2 : bt x ((a + k : Nat) : Int) > 127
      · simp only [if_pos h2, if_neg (show ¬ bt x ((a + k : Nat) : Int) < 128 from by omega)]
        exact ih (k + 1) _ hk1 ⟨hp.1, hp.2.1⟩
      · simp only [if_neg h2, if_pos (show bt x ((a + k : Nat) : Int) < 128 from by omega)]
        by_cases h3 : bt x ((a + k : Nat) : Int) = 0
        · by_cases h4 : 0 < k
          · simp only [if_pos h3, if_pos (show (k : Int) > 0 from by omega), if_pos (show (bt x ((a + k : Nat) : Int) = 0 ∧ 0 < k) ∨ n + bt x ((a + k : Nat) : Int) % 128 * p > 1000000000 from .inl ⟨h3, h4⟩)]
            exact ev_some rfl
          · by_cases h5 : n + bt x ((a + k : Nat) : Int) % 128 * p > 1000000000
            · simp only [if_pos h3, if_neg (show ¬ (k : Int) > 0 from by omega), if_pos h5, if_pos (show (bt x ((a + k : Nat) : Int) = 0 ∧ 0 < k) ∨ n + bt x ((a + k : Nat) : Int) % 128 * p > 1000000000 from .inr h5)]
              exact ev_some rfl
            · simp only [if_pos h3, if_neg (show ¬ (k : Int) > 0 from by omega), if_neg h5, if_neg (show ¬ ((bt x ((a + k : Nat) : Int) = 0 ∧ 0 < k) ∨ n + bt x ((a + k : Nat) : Int) % 128 * p > 1000000000) from fun h => h.elim (fun h => h4 h.2) h5)]
              exact ev_some rfl
        · by_cases h5 : n + bt x ((a + k : Nat) : Int) % 128 * p > 1000000000
          · simp only [if_neg h3, if_pos h5, if_pos (show (bt x ((a + k : Nat) : Int) = 0 ∧ 0 < k) ∨ n + bt x ((a + k : Nat) : Int) % 128 * p > 1000000000 from .inr h5)]
            exact ev_some rfl
          · simp only [if_neg h3, if_neg h5, if_neg (show ¬ ((bt x ((a + k : Nat) : Int) = 0 ∧ 0 < k) ∨ n + bt x ((a + k : Nat) : Int) % 128 * p > 1000000000) from fun h => h.elim (fun h => h3 h.1) h5)]
            exact ev_some rfl
    · simp only [impl_ReadVar.j1, decide_eq_false (show ¬ ((a + k : Nat) : Int) < (x.size : Int) from by omega), Bool.false_eq_true, if_false, if_neg h1]
      exact ev_some rfl
theorem impl_ReadVar_ev (x : ByteArray) (hx : x.size ≤ 140737488351232) (a : Int) : Ev (fun r => impl_ReadVar.f r x a) (readVarM x a) := by
  unfold impl_ReadVar.f readVarM
  simp only [impl_in_eq, Option.bind_some]
  by_cases h : 0 ≤ a ∧ a ≤ (x.size : Int)
  · obtain ⟨m, rfl⟩ := Int.eq_ofNat_of_zero_le h.1
    simp only [decide_eq_true h, if_true, if_pos h]
    exact impl_ReadVar_l0 x hx m (by omega) 5 0 0 rfl (by omega)
  · simp only [decide_eq_false h, Bool.false_eq_true, if_false, if_neg h]
    exact ev_some rfl
theorem spec_ReadVar_l0 (x : ByteArray) (hx : x.size ≤ 140737488351232) (a : Nat) (ha : a ≤ x.size) (f : Nat) : ∀ (k : Nat), k + f = 5 → a + k ≤ x.size → (∀ b, b ∈ runL x a k → 128 ≤ b ∧ b < 256) →
    Ev (fun r => spec_ReadVar.l0 r x (a : Int) (valL (runL x a k) : Int) (128 ^ k) ((a + k : Nat) : Int)) (rvGo x a f k (valL (runL x a k) : Int)) := by
  induction f with
  | zero =>
    intro k hk hak hp
    refine ev_succ ?_
    have e0 : wrap64 ((a : Int) + 5) = (a : Int) + 5 := w64 (by omega) (by omega)
    by_cases h1 : ((a + k : Nat) : Int) < (x.size : Int)
    · simp only [spec_ReadVar.l0, if_pos h1, e0, decide_eq_false (show ¬ ((a + k : Nat) : Int) < (a : Int) + 5 from by omega)]
      refine ev_succ ?_
      simp only [spec_ReadVar.j1, Bool.false_eq_true, if_false]
      exact ev_some rfl
    · simp only [spec_ReadVar.l0, if_neg h1]
      refine ev_succ ?_
      simp only [spec_ReadVar.j1, Bool.false_eq_true, if_false]
      exact ev_some rfl
  | succ f ih =>
    intro k hk hak hp
    refine ev_succ ?_
    have e0 : wrap64 ((a : Int) + 5) = (a : Int) + 5 := w64 (by omega) (by omega)
    unfold rvGo
    by_cases h1 : a + k < x.size
    · have hl := runL_length x a k hak
      have hlt := valL_lt (runL x a k)
      rw [hl] at hlt
      have hb := bt_lt x ((a + k : Nat) : Int)
      have e3 : Int.tmod (bt x ((a + k : Nat) : Int)) 128 = bt x ((a + k : Nat) : Int) % 128 := Int.tmod_eq_emod_of_nonneg hb.1
      have hv : 0 ≤ bt x ((a + k : Nat) : Int) % 128 ∧ bt x ((a + k : Nat) : Int) % 128 < 128 := by omega
      have g5 : k < 5 := by omega
      have hn : 0 ≤ (valL (runL x a k) : Int) ∧ (valL (runL x a k) : Int) < 128 ^ k := ⟨by omega, by exact_mod_cast hlt⟩
      have hpw := pow5 k g5 _ _ hn hv
      have g1 : ((a + k : Nat) : Int) < (x.size : Int) := by omega
      have g2 : (0 : Int) ≤ ((a + k : Nat) : Int) := by omega
      have g3 : ((a + k : Nat) : Int) < (a : Int) + 5 := by omega
      have g6 : x.size ≤ 140737488355328 := by omega
      have g7 : -9223372036854775808 ≤ bt x ((a + k : Nat) : Int) ∧ bt x ((a + k : Nat) : Int) ≤ 9223372036854775807 := by omega
      have g10 : (0 : Int) ≤ (a : Int) := by omega
      have g11 : (a : Int) ≤ ((a + (k + 1) : Nat) : Int) := by omega
      have g12 : ((a + (k + 1) : Nat) : Int) ≤ (x.size : Int) := by omega
      have g13 : k + 1 + f = 5 := by omega
      have g14 : a + (k + 1) ≤ x.size := by omega
      have e8 : (valL (runL x a k) : Int) + bt x ((a + k : Nat) : Int) % 128 * 128 ^ k = (valL (runL x a (k + 1)) : Int) := by
        rw [runL_succ x a k h1, valL_snoc, hl]
        have : ((bt x ((a + k : Nat) : Int)).toNat % 128 : Nat) = ((bt x ((a + k : Nat) : Int) % 128).toNat) := by omega
        rw [this]
        obtain ⟨v, hvd⟩ : ∃ v, bt x ((a + k : Nat) : Int) % 128 = v := ⟨_, rfl⟩
        rw [hvd] at hv ⊢
        push_cast
        rw [Int.toNat_of_nonneg hv.1]
      obtain ⟨p, hpp⟩ : ∃ p : Int, (128 : Int) ^ k = p := ⟨_, rfl⟩
      have g8 : -9223372036854775808 ≤ bt x ((a + k : Nat) : Int) % 128 * 128 ^ k ∧ bt x ((a + k : Nat) : Int) % 128 * 128 ^ k ≤ 9223372036854775807 := by rw [hpp] at hpw ⊢; omega
      have g9 : -9223372036854775808 ≤ (valL (runL x a k) : Int) + bt x ((a + k : Nat) : Int) % 128 * 128 ^ k ∧ (valL (runL x a k) : Int) + bt x ((a + k : Nat) : Int) % 128 * 128 ^ k ≤ 9223372036854775807 := by rw [hpp] at hpw ⊢; omega
      have g15 : -9223372036854775808 ≤ (128 : Int) ^ k * 128 ∧ (128 : Int) ^ k * 128 ≤ 9223372036854775807 := by rw [hpp] at hpw ⊢; omega
      have e2 : wrap64 (bt x ((a + k : Nat) : Int)) = bt x ((a + k : Nat) : Int) := w64 g7.1 g7.2
      have e4 : wrap64 (bt x ((a + k : Nat) : Int) % 128 * 128 ^ k) = bt x ((a + k : Nat) : Int) % 128 * 128 ^ k := w64 g8.1 g8.2
      have e5 : wrap64 ((valL (runL x a k) : Int) + bt x ((a + k : Nat) : Int) % 128 * 128 ^ k) = (valL (runL x a k) : Int) + bt x ((a + k : Nat) : Int) % 128 * 128 ^ k := w64 g9.1 g9.2
      have e6 : wrap64 (((a + k : Nat) : Int) + 1) = ((a + (k + 1) : Nat) : Int) := wn (a + k) h1 g6
      have e7 : wrap64 ((128 : Int) ^ k * 128) = 128 ^ (k + 1) := by rw [w64 g15.1 g15.2, Int.pow_succ]
      simp only [spec_ReadVar.l0, if_pos g1, e0, decide_eq_true g3]
      refine ev_succ ?_
      simp only [spec_ReadVar.j1, if_true, if_pos g2, if_pos g1, e2, e3, e4, e5, e6, e7, if_pos h1]
      rw [e8]
      clear e0 e2 e3 e4 e5 e6 e7 e8 g8 g9 g15 hpw hpp
      by_cases h2 : bt x ((a + k : Nat) : Int) < 128
      · simp only [if_pos h2]
        have hc := canon x a k h1 hp h2
        by_cases h5 : (valL (runL x a (k + 1)) : Int) > 1000000000
        · simp only [if_pos h5, if_pos (show (bt x ((a + k : Nat) : Int) = 0 ∧ 0 < k) ∨ (valL (runL x a (k + 1)) : Int) > 1000000000 from .inr h5)]
          exact ev_some rfl
        · simp only [if_neg h5]
          refine Ev.bind (spec_l01Var_ev _ (by omega)) ?_
          simp only [if_pos g10, if_pos g11, if_pos g12, tl_iff, Int.toNat_natCast]
          by_cases h6 : bt x ((a + k : Nat) : Int) = 0 ∧ 0 < k
          · simp only [if_neg (fun h => hc.1 h h6), if_pos (show (bt x ((a + k : Nat) : Int) = 0 ∧ 0 < k) ∨ (valL (runL x a (k + 1)) : Int) > 1000000000 from .inl h6)]
            exact ev_some rfl
          · simp only [if_pos (hc.2 h6), if_neg (show ¬ ((bt x ((a + k : Nat) : Int) = 0 ∧ 0 < k) ∨ (valL (runL x a (k + 1)) : Int) > 1000000000) from fun h => h.elim h6 h5)]
            exact ev_some rfl
      · simp only [if_neg h2]
        refine ih (k + 1) g13 g14 ?_
        intro b hb'
        rw [runL_succ x a k h1] at hb'
        rcases List.mem_append.1 hb' with hb' | hb'
        · exact hp b hb'
        · have := List.mem_singleton.1 hb'
          omega
    · simp only [spec_ReadVar.l0, if_neg (show ¬ ((a + k : Nat) : Int) < (x.size : Int) from by omega)]
      refine ev_succ ?_
      simp only [spec_ReadVar.j1, Bool.false_eq_true, if_false, if_neg h1]
      exact ev_some rfl
theorem spec_ReadVar_ev (x : ByteArray) (hx : x.size ≤ 140737488351232) (a : Int) : Ev (fun r => spec_ReadVar.f r x a) (readVarM x a) := by
  unfold spec_ReadVar.f readVarM
  simp only [spec_in_eq, Option.bind_some]
  by_cases h : 0 ≤ a ∧ a ≤ (x.size : Int)
  · obtain ⟨m, rfl⟩ := Int.eq_ofNat_of_zero_le h.1
    simp only [decide_eq_true h, if_true, if_pos h]
    have := spec_ReadVar_l0 x hx m (by omega) 5 0 rfl (by omega) (by intro b hb; simp [runL] at hb)
    simpa [runL, valL] using this
  · simp only [decide_eq_false h, Bool.false_eq_true, if_false, if_neg h]
    exact ev_some rfl

/-! readshort -/
theorem impl_ReadShort_ev (x : ByteArray) (hx : x.size ≤ 140737488351232) (a : Int) : Ev (fun r => impl_ReadShort.f r x a) (readShortM x a) := by
  unfold impl_ReadShort.f readShortM
  refine Ev.bind (impl_ReadVar_ev x hx a) ?_
  obtain ⟨i1, i2, i3, i4, i5⟩ := readVarM_range x a
  obtain ⟨⟨n, e, ok⟩, hv⟩ : ∃ v, readVarM x a = v := ⟨_, rfl⟩
  simp only [hv] at i1 i2 i3 i4 i5 ⊢
  cases ok with
  | false => simp only [Bool.false_eq_true, if_false, false_and]; exact ev_some rfl
  | true =>
    simp only [if_true, true_and]
    by_cases h1 : n > 20000
    · simp only [if_pos h1, if_neg (show ¬ (n ≤ 20000 ∧ n ≤ (x.size : Int) - e) from by omega)]; exact ev_some rfl
    · rw [w64 (x := (x.size : Int) - e) (by omega) (by omega), w64 (x := e + n) (by omega) (by omega)]
      by_cases h2 : n > (x.size : Int) - e
      · simp only [if_neg h1, if_pos h2, if_neg (show ¬ (n ≤ 20000 ∧ n ≤ (x.size : Int) - e) from by omega)]; exact ev_some rfl
      · simp only [if_neg h1, if_neg h2, if_pos (show n ≤ 20000 ∧ n ≤ (x.size : Int) - e from by omega), if_pos i3, if_pos (show e ≤ e + n from by omega), if_pos (show e + n ≤ (x.size : Int) from by omega)]; exact ev_some rfl
theorem spec_ReadShort_ev (x : ByteArray) (hx : x.size ≤ 140737488351232) (a : Int) : Ev (fun r => spec_ReadShort.f r x a) (readShortM x a) := by
  unfold spec_ReadShort.f readShortM
  refine Ev.bind (spec_ReadVar_ev x hx a) ?_
  obtain ⟨i1, i2, i3, i4, i5⟩ := readVarM_range x a
  obtain ⟨⟨n, e, ok⟩, hv⟩ : ∃ v, readVarM x a = v := ⟨_, rfl⟩
  simp only [hv] at i1 i2 i3 i4 i5 ⊢
  cases ok with
  | false => simp only [Bool.false_eq_true, if_false, false_and]; exact ev_some rfl
  | true =>
    simp only [if_true, true_and]
    by_cases h1 : n > 20000
    · simp only [if_pos h1, if_neg (show ¬ (n ≤ 20000 ∧ n ≤ (x.size : Int) - e) from by omega)]; exact ev_some rfl
    · rw [w64 (x := (x.size : Int) - e) (by omega) (by omega), w64 (x := e + n) (by omega) (by omega)]
      by_cases h2 : n > (x.size : Int) - e
      · simp only [if_neg h1, if_pos h2, if_neg (show ¬ (n ≤ 20000 ∧ n ≤ (x.size : Int) - e) from by omega)]; exact ev_some rfl
      · simp only [if_neg h1, if_neg h2, if_pos (show n ≤ 20000 ∧ n ≤ (x.size : Int) - e from by omega), if_pos i3, if_pos (show e ≤ e + n from by omega), if_pos (show e + n ≤ (x.size : Int) from by omega)]; exact ev_some rfl

/-! readframe -/
theorem spec_ReadFrame_ev (x : ByteArray) (hx : x.size ≤ 140737488351232) (a : Int) : Ev (fun k => spec_ReadFrame.f k x a) (readFrameM x a) := by
  unfold spec_ReadFrame.f readFrameM
  refine Ev.bind (spec_ReadVar_ev x hx a) ?_
  refine Ev.bind (spec_ReadVar_ev x hx _) ?_
  refine Ev.bind (spec_ReadShort_ev x hx _) ?_
  obtain ⟨i1, i2, i3, i4, i5⟩ := readVarM_range x a
  obtain ⟨j1, j2, j3, j4, j5⟩ := readVarM_range x (readVarM x a).2.1
  obtain ⟨k1, k2, k3, k4⟩ := readShortM_range x (readVarM x (readVarM x a).2.1).2.1
  obtain ⟨⟨b, e3, ok3⟩, hv3⟩ : ∃ v, readShortM x (readVarM x (readVarM x a).2.1).2.1 = v := ⟨_, rfl⟩
  obtain ⟨⟨n2, e2, ok2⟩, hv2⟩ : ∃ v, readVarM x (readVarM x a).2.1 = v := ⟨_, rfl⟩
  obtain ⟨⟨n1, e1, ok1⟩, hv1⟩ : ∃ v, readVarM x a = v := ⟨_, rfl⟩
  simp only [hv1] at *
  simp only [hv2] at *
  simp only [hv3] at *
  rw [w64 (x := (x.size : Int) - 4) (by omega) (by omega)]
  refine ev_if (fun c1 => ?_) (fun c1 => ?_)
  rotate_left
  · refine ev_succ ?_
    simp only [spec_ReadFrame.j0, if_true, c1, false_and, if_false]
    exact ev_some rfl
  refine ev_if (fun c2 => ?_) (fun c2 => ?_)
  rotate_left
  · refine ev_succ ?_
    simp only [spec_ReadFrame.j0, if_true, c1, c2, false_and, and_false, if_false]
    exact ev_some rfl
  refine ev_if (fun c3 => ?_) (fun c3 => ?_)
  rotate_left
  · refine ev_succ ?_
    simp only [spec_ReadFrame.j0, if_true, c1, c2, c3, false_and, and_false, if_false]
    exact ev_some rfl
  have a0 := (i5 c1).1
  have a1 := (i5 c1).2
  have a2 := (j5 c2).2
  have a3 := (k4 c3).2
  refine ev_if (fun c4 => ?_) (fun c4 => ?_)
  · refine ev_succ ?_
    simp only [spec_ReadFrame.j0, if_true]
    rw [if_neg (fun h => absurd h.2.2.1 (by omega))]
    exact ev_some rfl
  refine ev_succ ?_
  simp only [spec_ReadFrame.j0, decide_eq_false (show ¬ a < 0 from by omega), Bool.false_eq_true, if_false]
  refine Ev.bind (spec_FrameText_ev n1 n2 b) ?_
  by_cases hok : frameOkM n1 n2 b = true
  · have ht := frameTextM_ok n1 n2 b hok
    have ht2 : (frameTextM n1 n2 b).2 = true := by rw [ht]
    rw [w64 (x := e3 + 4) (by omega) (by omega)]
    simp only [if_pos ht2, if_pos a0, if_pos (show a ≤ e3 + 4 from by omega), if_pos (show e3 + 4 ≤ (x.size : Int) from by omega), tl_iff]
    refine ev_if (fun c5 => ?_) (fun c5 => ?_)
    · rw [if_pos ⟨⟨c1, c2, c3⟩, hok, by omega, c5.symm⟩]
      exact ev_some rfl
    · rw [if_neg (fun h => c5 h.2.2.2.symm)]
      exact ev_some rfl
  · have ht2 : ¬ (frameTextM n1 n2 b).2 = true := by unfold frameTextM; rw [if_neg hok]; simp
    simp only [if_neg ht2]
    rw [if_neg (fun h => hok h.2.1)]
    exact ev_some rfl
theorem impl_ReadFrame_ev (x : ByteArray) (hx : x.size ≤ 140737488351232) (a : Int) : Ev (fun k => impl_ReadFrame.f k x a) (readFrameM x a) := by
  unfold impl_ReadFrame.f readFrameM
  refine Ev.bind (impl_ReadVar_ev x hx a) ?_
  refine Ev.bind (impl_ReadVar_ev x hx _) ?_
  refine Ev.bind (impl_ReadShort_ev x hx _) ?_
  obtain ⟨i1, i2, i3, i4, i5⟩ := readVarM_range x a
  obtain ⟨j1, j2, j3, j4, j5⟩ := readVarM_range x (readVarM x a).2.1
  obtain ⟨k1, k2, k3, k4⟩ := readShortM_range x (readVarM x (readVarM x a).2.1).2.1
  obtain ⟨⟨b, e3, ok3⟩, hv3⟩ : ∃ v, readShortM x (readVarM x (readVarM x a).2.1).2.1 = v := ⟨_, rfl⟩
  obtain ⟨⟨n2, e2, ok2⟩, hv2⟩ : ∃ v, readVarM x (readVarM x a).2.1 = v := ⟨_, rfl⟩
  obtain ⟨⟨n1, e1, ok1⟩, hv1⟩ : ∃ v, readVarM x a = v := ⟨_, rfl⟩
  simp only [hv1] at *
  simp only [hv2] at *
  simp only [hv3] at *
  simp only [impl_FrameOk_eq, Option.bind_some]
  rw [w64 (x := (x.size : Int) - e3) (by omega) (by omega)]
  refine ev_if (fun c1 => ?_) (fun c1 => ?_)
  rotate_left
  · refine ev_succ ?_
    simp only [impl_ReadFrame.j0, if_true, c1, false_and, if_false]
    exact ev_some rfl
  refine ev_if (fun c2 => ?_) (fun c2 => ?_)
  rotate_left
  · refine ev_succ ?_
    simp only [impl_ReadFrame.j0, if_true, c1, c2, false_and, and_false, if_false]
    exact ev_some rfl
  refine ev_if (fun c3 => ?_) (fun c3 => ?_)
  rotate_left
  · refine ev_succ ?_
    simp only [impl_ReadFrame.j0, if_true, c1, c2, c3, false_and, and_false, if_false]
    exact ev_some rfl
  have a0 := (i5 c1).1
  have a1 := (i5 c1).2
  have a2 := (j5 c2).2
  have a3 := (k4 c3).2
  refine ev_if (fun hok => ?_) (fun hok => ?_)
  rotate_left
  · refine ev_succ ?_
    simp only [impl_ReadFrame.j0, if_true]
    rw [if_neg (fun h => hok h.2.1)]
    exact ev_some rfl
  by_cases c4 : (x.size : Int) - e3 < 4
  · rw [if_neg (fun h => absurd h.2.2.1 (by omega))]
    refine ev_succ ?_
    simp only [impl_ReadFrame.j0, decide_eq_true c4, if_true]
    exact ev_some rfl
  refine ev_succ ?_
  simp only [impl_ReadFrame.j0, decide_eq_false c4, Bool.false_eq_true, if_false]
  refine Ev.bind (impl_FrameText_ev n1 n2 b) ?_
  rw [w64 (x := e3 + 4) (by omega) (by omega)]
  simp only [if_pos a0, if_pos (show a ≤ e3 + 4 from by omega), if_pos (show e3 + 4 ≤ (x.size : Int) from by omega), tl_iff]
  refine ev_if (fun c5 => ?_) (fun c5 => ?_)
  · rw [if_pos ⟨⟨c1, c2, c3⟩, hok, by omega, c5⟩]
    exact ev_some rfl
  · rw [if_neg (fun h => c5 h.2.2.2)]
    exact ev_some rfl

/-! scanframes -/
def toS (p : Int × Int × ByteArray) : S47 := ⟨p.1, p.2.1, p.2.2⟩
theorem spec_ScanFrames_l0 (x : ByteArray) (hx : x.size ≤ 1048576) (g : Int) (f : Nat) : ∀ (a : Int) (acc : List S47), 0 ≤ a → a ≤ (x.size : Int) → (x.size : Int) - a < (f : Int) → acc.length ≤ a →
    Ev (fun k => spec_ScanFrames.l0 k x g acc a) (acc ++ (scanGo x g f a).1.map toS, (scanGo x g f a).2) := by
  induction f with
  | zero => intro a acc h0 h1 h2; omega
  | succ f ih =>
    intro a acc h0 h1 h2 h3
    refine ev_succ ?_
    simp only [spec_ScanFrames.l0]
    refine Ev.bind (spec_ReadFrame_ev x (by omega) a) ?_
    unfold scanGo
    refine ev_if (fun c1 => ?_) (fun c1 => ?_)
    · rw [if_pos c1]
      obtain ⟨b0, b1, b2⟩ := readFrameM_adv x a c1
      refine ev_if (fun c2 => ?_) (fun c2 => ?_)
      · rw [if_pos c2]
        refine ev_if (fun _ => ?_) (fun h => absurd (by omega) h)
        have := ih (readFrameM x a).2.2.2.1 (acc ++ [toS ((readFrameM x a).1, (readFrameM x a).2.1, (readFrameM x a).2.2.1)]) (by omega) b2 (by omega) (by simp; omega)
        simpa [toS] using this
      · rw [if_neg c2]
        exact ev_some (by simp)
    · rw [if_neg c1]
      exact ev_some (by simp)
theorem spec_ScanFrames_ev (x : ByteArray) (hx : x.size ≤ 1048576) (g : Int) : Ev (fun k => spec_ScanFrames.f k x g) ((scanM x g).1.map toS, (scanM x g).2) := by
  unfold spec_ScanFrames.f scanM
  simpa using spec_ScanFrames_l0 x hx g (x.size + 1) 0 [] (by omega) (by omega) (by omega) (by simp)
theorem impl_ScanFrames_l0 (x : ByteArray) (hx : x.size ≤ 1048576) (g : Int) (f : Nat) : ∀ (a : Int) (acc : List S47), 0 ≤ a → a ≤ (x.size : Int) → (x.size : Int) - a < (f : Int) → acc.length ≤ a →
    Ev (fun k => impl_ScanFrames.l0 k x g acc a) (acc ++ (scanGo x g f a).1.map toS, (scanGo x g f a).2) := by
  induction f with
  | zero => intro a acc h0 h1 h2; omega
  | succ f ih =>
    intro a acc h0 h1 h2 h3
    refine ev_succ ?_
    simp only [impl_ScanFrames.l0]
    refine Ev.bind (impl_ReadFrame_ev x (by omega) a) ?_
    unfold scanGo
    refine ev_if (fun c1 => ?_) (fun c1 => ?_)
    · rw [if_pos c1]
      obtain ⟨b0, b1, b2⟩ := readFrameM_adv x a c1
      refine ev_if (fun c2 => ?_) (fun c2 => ?_)
      · rw [if_pos c2]
        refine ev_if (fun _ => ?_) (fun h => absurd (by omega) h)
        have := ih (readFrameM x a).2.2.2.1 (acc ++ [toS ((readFrameM x a).1, (readFrameM x a).2.1, (readFrameM x a).2.2.1)]) (by omega) b2 (by omega) (by simp; omega)
        simpa [toS] using this
      · rw [if_neg c2]
        exact ev_some (by simp)
    · rw [if_neg c1]
      exact ev_some (by simp)
theorem impl_ScanFrames_ev (x : ByteArray) (hx : x.size ≤ 1048576) (g : Int) : Ev (fun k => impl_ScanFrames.f k x g) ((scanM x g).1.map toS, (scanM x g).2) := by
  unfold impl_ScanFrames.f scanM
  simpa using impl_ScanFrames_l0 x hx g (x.size + 1) 0 [] (by omega) (by omega) (by omega) (by simp)

/-! same -/
theorem sameFrames_l0 (l : List S47) (hl : l.length ≤ 104857600) (d : Nat) : ∀ i : Nat, l.length - i = d → i ≤ l.length → Ev (fun k => laws_sameFrames.l0 k l l (i : Int)) true := by
  induction d with
  | zero =>
    intro i hd hi
    refine ev_succ ?_
    simp only [laws_sameFrames.l0, if_neg (show ¬ (i : Int) < (l.length : Int) by omega)]
    exact ev_some rfl
  | succ d ih =>
    intro i hd hi
    refine ev_succ ?_
    simp only [laws_sameFrames.l0, if_pos (show (i : Int) < (l.length : Int) by omega), if_pos (show (0 : Int) ≤ (i : Int) by omega), beq_self_eq_true, Bool.not_true, Bool.or_self, Bool.false_eq_true, if_false, wn i (show i < l.length by omega) (by omega)]
    exact ih (i + 1) (by omega) (by omega)
theorem sameFrames_refl (l : List S47) (hl : l.length ≤ 104857600) : Ev (fun k => laws_sameFrames.f k l l) true := by
  unfold laws_sameFrames.f
  simp only [if_true]
  exact sameFrames_l0 l hl _ 0 rfl (by omega)

theorem FnFramesTurned : laws_FnFramesTurned.Pure := by
  intro l _ _ _
  refine Ev.rounds ?_
  unfold laws_FnFramesTurned.f laws_big.f
  simp only [Option.bind_some]
  by_cases hz : (l.length : Int) > 1048576
  · simp only [decide_eq_true hz, if_true]
    exact ev_some rfl
  simp only [decide_eq_false hz, Bool.false_eq_true, if_false]
  have hl : l.length ≤ 1048576 := by omega
  obtain ⟨g, q, b, h1⟩ := spec_DrawFrameText_some l hl
  obtain ⟨x, a, h2, hx⟩ := spec_DrawReadFrame_some l hl
  obtain ⟨t, h3, ht⟩ := spec_DrawScanFrames_some l hl
  have hT := frameTextM_size g q b
  have hlen := scanGo_length t 2 (t.size + 1) 0 (by omega) (by omega)
  have hlen2 : ((scanM t 2).1.map toS).length ≤ 104857600 := by rw [List.length_map]; unfold scanM; omega
  refine Ev.bind h1 ?_
  refine Ev.bind (impl_FrameText_ev g q b) ?_
  refine Ev.bind (impl_ReadFrame_ev (frameTextM g q b).1 (by omega) 0) ?_
  refine Ev.bind h2 ?_
  refine Ev.bind (impl_ReadFrame_ev x (by omega) a) ?_
  refine Ev.bind (spec_ReadFrame_ev x (by omega) a) ?_
  refine Ev.bind h3 ?_
  refine Ev.bind (impl_ScanFrames_ev t (by omega) 2) ?_
  refine Ev.bind (spec_ScanFrames_ev t (by omega) 2) ?_
  have h4 := sameFrames_refl ((scanM t 2).1.map toS) hlen2
  simp only [spec_FrameOk_eq, impl_FrameOk_eq, Option.bind_some]
  by_cases hok : frameOkM g q b = true
  · have hr := readFrameM_trip (frameTextM g q b).1 0 g q b [] hok (by rw [List.append_nil]; rfl)
    have hr2 : readFrameM (frameTextM g q b).1 0 = (g, q, b, ((frameTextM g q b).1.size : Int), true) := by
      have e : ((0 + (frameTextM g q b).1.size : Nat) : Int) = ((frameTextM g q b).1.size : Int) := by omega
      rw [e] at hr
      exact hr
    have ho2 : (frameTextM g q b).2 = true := by rw [frameTextM_ok g q b hok]
    simp only [hr2, ho2, hok, beq_self_eq_true, Bool.and_self, if_true]
    exact Ev.bind h4 (by simp only [if_true]; exact ev_some rfl)
  · have ho2 : (frameTextM g q b).2 = false := by unfold frameTextM; rw [if_neg hok]
    have ho3 : frameOkM g q b = false := by simpa using hok
    simp only [ho2, ho3, beq_self_eq_true, Bool.and_self, if_true, Bool.false_eq_true, if_false]
    exact Ev.bind h4 (by simp only [if_true]; exact ev_some rfl)

end Go.Proofs.Ytneffinmiffhpaa.Pure
