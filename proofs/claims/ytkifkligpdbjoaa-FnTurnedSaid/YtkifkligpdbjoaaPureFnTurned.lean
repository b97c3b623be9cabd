/- The pure statement of FnTurned, over numbers and lists: it is true of every argument; no condition but the bounds that the statement itself names. -/
import Derived.Test.YtkifkligpdbjoaaPFnTurnedx3
import Derived.Test.YtkifkligpdbjoaaVFnTurned1
set_option linter.unusedVariables false
set_option linter.unusedSimpArgs false
namespace Go.Proofs.Ytkifkligpdbjoaa.Pure
open Go.RowKit Go.Proofs.Ytkifkligpdbjoaa.PFnTurned Go.Proofs.YtkifkligpdbjoaaW.PrintWords Go.Proofs.YtkifkligpdbjoaaW.PrintLast Go.Proofs.YtkifkligpdbjoaaW.PrintMore Go.Proofs.Ytkifkligpdbjoaa.Base

/-! in -/
theorem impl_in_eq (a b c : Int) : impl_in.f a b c = some (decide (b ≤ a ∧ a ≤ c)) := by
  unfold impl_in.f
  by_cases h : a ≥ b <;> by_cases h2 : a ≤ c <;> simp [h, h2] <;> omega

/-! sum -/
theorem impl_SumMore_l1 (x : ByteArray) (i : Nat) (hi : i < x.size) (hx : x.size ≤ 140737488351232) (r : Int) (n : Nat) : ∀ (s : Int) (j : Nat), 0 ≤ s ∧ s < 4294967296 → j + n = 8 →
    Ev (fun k => impl_SumMore.l0 k (sumBits n s) x (x.size : Int) ((i + 1 : Nat) : Int)) r → Ev (fun k => impl_SumMore.l1 k s x (x.size : Int) (i : Int) (j : Int)) r := by
  induction n with
  | zero =>
    intro s j hs hj h
    refine ev_succ ?_
    simp only [impl_SumMore.l1, if_neg (show ¬ (j : Int) < 8 from by omega), wn i hi (by omega)]
    exact h
  | succ n ih =>
    intro s j hs hj h
    refine ev_succ ?_
    simp only [impl_SumMore.l1, if_pos (show (j : Int) < 8 from by omega), b_and1 s hs.1 hs.2, wn j (show j < 8 from by omega) (by omega)]
    have := ih (sumBit s) (j + 1) (sumBit_range hs) (by omega) h
    unfold sumBit at this
    by_cases h2 : s % 2 = 1
    · simpa only [if_pos h2] using this
    · simpa only [if_neg h2] using this
theorem impl_SumMore_l0 (x : ByteArray) (hx : x.size ≤ 140737488351232) (d : Nat) : ∀ (i : Nat) (s : Int), 0 ≤ s ∧ s < 4294967296 → x.size - i = d → i ≤ x.size →
    Ev (fun k => impl_SumMore.l0 k s x (x.size : Int) (i : Int)) (sumL s ((bytesOf x).drop i)) := by
  induction d with
  | zero =>
    intro i s hs hd hi
    refine ev_succ ?_
    simp only [impl_SumMore.l0, if_neg (show ¬ (i : Int) < (x.size : Int) from by omega)]
    rw [bytes_end x i (by omega)]
    exact ev_some rfl
  | succ d ih =>
    intro i s hs hd hi
    refine ev_succ ?_
    have hb := bt_lt x (i : Int)
    simp only [impl_SumMore.l0, if_pos (show (i : Int) < (x.size : Int) from by omega), if_pos (show (0 : Int) ≤ (i : Int) from by omega), Int.emod_eq_of_lt hb.1 (show bt x (i : Int) < 4294967296 from by omega)]
    rw [bytes_drop x i (by omega)]
    exact impl_SumMore_l1 x i (by omega) hx _ 8 _ 0 (b_xor_range _ _) rfl (ih (i + 1) _ (sumByte_range s _) (by omega) (by omega))
theorem impl_SumMore_ev (s : Int) (x : ByteArray) (hs : 0 ≤ s ∧ s < 4294967296) (hx : x.size ≤ 140737488351232) : Ev (fun k => impl_SumMore.f k s x) (sumL s (bytesOf x)) := by
  simpa [impl_SumMore.f] using impl_SumMore_l0 x hx _ 0 s hs rfl (by omega)
theorem impl_SumOf_ev (x : ByteArray) (hx : x.size ≤ 140737488351232) : Ev (fun k => impl_SumOf.f k x) (sumOfM x) :=
  Ev.bind (impl_SumMore_ev _ x (by omega) hx) (ev_some rfl)
theorem impl_seal_ev (x : ByteArray) (hx : x.size ≤ 140737488351232) : Ev (fun k => impl_seal.f k x) (fourS (sumOfM x)) :=
  Ev.bind (impl_SumOf_ev x hx) (ev_some rfl)

/-! seal -/
theorem impl_Sealed_ev (x : ByteArray) : Ev (fun k => impl_Sealed.f k x) (sealedM x) := by
  unfold impl_Sealed.f sealedM
  by_cases h : (x.size : Int) > 20000
  · simp only [if_pos h]
    exact ev_some rfl
  · simp only [if_neg h]
    refine Ev.bind (impl_seal_ev x (by omega)) ?_
    have h1 := fourS_size (sumOfM x)
    simp only [if_pos (show x.size + (fourS (sumOfM x)).size ≤ 9223372036854775807 from by omega)]
    exact ev_some rfl
theorem impl_Unsealed_ev (x : ByteArray) (hx : x.size ≤ 140737488351232) : Ev (fun k => impl_Unsealed.f k x) (unsealedM x) := by
  unfold impl_Unsealed.f unsealedM
  rw [w64 (x := (x.size : Int) - 4) (by omega) (by omega), impl_in_eq]
  simp only [Option.bind_some]
  by_cases h1 : 0 ≤ (x.size : Int) - 4 ∧ (x.size : Int) - 4 ≤ 20000
  · have e : ((x.size : Int) - 4).toNat = x.size - 4 := by omega
    simp only [decide_eq_true h1, if_true, if_pos h1.1, if_pos (show (x.size : Int) - 4 ≤ (x.size : Int) from by omega), e]
    refine Ev.bind (impl_seal_ev _ (by rw [size_extract]; omega)) ?_
    simp only [tl_iff]
    by_cases h3 : x.extract (x.size - 4) x.size = fourS (sumOfM (x.extract 0 (x.size - 4)))
    · simp only [if_pos h3, if_pos (show 4 ≤ x.size ∧ x.size ≤ 20004 ∧ x.extract (x.size - 4) x.size = fourS (sumOfM (x.extract 0 (x.size - 4))) from ⟨by omega, by omega, h3⟩)]
      exact ev_some rfl
    · simp only [if_neg h3, if_neg (show ¬ (4 ≤ x.size ∧ x.size ≤ 20004 ∧ x.extract (x.size - 4) x.size = fourS (sumOfM (x.extract 0 (x.size - 4)))) from fun h => h3 h.2.2)]
      exact ev_some rfl
  · simp only [decide_eq_false h1, Bool.false_eq_true, if_false, if_neg (show ¬ (4 ≤ x.size ∧ x.size ≤ 20004 ∧ x.extract (x.size - 4) x.size = fourS (sumOfM (x.extract 0 (x.size - 4)))) from by omega)]
    exact ev_some rfl

/-! draws -/
theorem and255 (x : Int) : 0 ≤ bits .and .i64 x 255 ∧ bits .and .i64 x 255 ≤ 255 := by
  unfold bits
  have h : (BitVec.ofInt (IntKind.bits .i64) x &&& BitVec.ofInt (IntKind.bits .i64) 255).toNat ≤ 255 := by
    rw [BitVec.toNat_and]
    exact Nat.le_trans Nat.and_le_right (by decide)
  simp only
  rw [b_wraps_i64 _ (by omega) (by omega)]
  omega
/-- Where a drawing stands: inside its bytes. -/
def Inside (l : List Int) (p : Int) : Prop := 0 ≤ p ∧ p ≤ (l.length : Int)
theorem l01Byte_some (l : List Int) (hl : l.length ≤ 1048576) (p s : Int) (hp : Inside l p) : ∃ b p' s', spec_l01Byte.f l p s = some (b, p', s') ∧ (0 ≤ b ∧ b ≤ 255) ∧ Inside l p' := by
  obtain ⟨h0, h1⟩ := hp
  unfold spec_l01Byte.f
  by_cases h : p < (l.length : Int)
  · rw [if_pos h, if_pos h0]
    refine ⟨_, _, _, rfl, and255 _, ?_⟩
    have e := w64 (x := p + 1) (by omega) (by omega)
    rw [e]
    exact ⟨by omega, by omega⟩
  · rw [if_neg h]
    exact ⟨_, _, _, rfl, and255 _, h0, h1⟩
theorem l01Below_some (l : List Int) (hl : l.length ≤ 1048576) (p s n : Int) (hp : Inside l p) : ∃ b p' s', spec_l01Below.f l p s n = some (b, p', s') ∧ (0 ≤ b ∧ (0 < n → b < n)) ∧ Inside l p' := by
  unfold spec_l01Below.f
  by_cases h : n ≤ 0
  · rw [if_pos h]
    exact ⟨_, _, _, rfl, ⟨Int.le_refl _, fun h2 => by omega⟩, hp⟩
  · rw [if_neg h]
    by_cases h2 : n ≤ 256
    · rw [if_pos h2]
      obtain ⟨b, p', s', e, hb, hp'⟩ := l01Byte_some l hl p s hp
      simp only [e, Option.bind_some, if_neg (show ¬ n = 0 by omega)]
      exact ⟨_, _, _, rfl, ⟨Int.tmod_nonneg _ hb.1, fun h3 => Int.tmod_lt_of_pos _ h3⟩, hp'⟩
    · rw [if_neg h2]
      obtain ⟨b1, p1, s1, e1, hb1, hp1⟩ := l01Byte_some l hl p s hp
      obtain ⟨b2, p2, s2, e2, hb2, hp2⟩ := l01Byte_some l hl p1 s1 hp1
      obtain ⟨b3, p3, s3, e3, hb3, hp3⟩ := l01Byte_some l hl p2 s2 hp2
      obtain ⟨b4, p4, s4, e4, hb4, hp4⟩ := l01Byte_some l hl p3 s3 hp3
      simp only [e1, e2, e3, e4, Option.bind_some, if_neg (show ¬ n = 0 by omega)]
      refine ⟨_, _, _, rfl, ⟨Int.tmod_nonneg _ ?_, fun h3 => Int.tmod_lt_of_pos _ h3⟩, hp4⟩
      have a1 := w64 (x := b1 * 16777216) (by omega) (by omega)
      rw [a1]
      clear a1
      have a2 := w64 (x := b2 * 65536) (by omega) (by omega)
      rw [a2]
      clear a2
      have a3 := w64 (x := b3 * 256) (by omega) (by omega)
      rw [a3]
      clear a3
      have a4 := w64 (x := b1 * 16777216 + b2 * 65536) (by omega) (by omega)
      rw [a4]
      clear a4
      have a5 := w64 (x := b1 * 16777216 + b2 * 65536 + b3 * 256) (by omega) (by omega)
      rw [a5]
      clear a5
      have a6 := w64 (x := b1 * 16777216 + b2 * 65536 + b3 * 256 + b4) (by omega) (by omega)
      rw [a6]
      omega
theorem l01Text_l0 (l : List Int) (hl : l.length ≤ 1048576) (n : Nat) (hn : n ≤ 5000) (d : Nat) : ∀ (i : Nat) (acc : List Int) (p s : Int), n - i = d → i ≤ n → acc.length = i → Inside l p →
    ∃ (t : ByteArray) (p' s' : Int), Ev (fun k => spec_l01Text.l0 k (n : Int) acc (i : Int) l p s) (t, p', s') ∧ t.size = n ∧ Inside l p' := by
  induction d with
  | zero =>
    intro i acc p s hd hi ha hp
    refine ⟨strOfNums acc, p, s, ev_succ ?_, by rw [strOfNums_size]; omega, hp⟩
    simp only [spec_l01Text.l0, if_neg (show ¬ (i : Int) < (n : Int) by omega)]
    exact ev_some rfl
  | succ d ih =>
    intro i acc p s hd hi ha hp
    obtain ⟨b, p1, s1, e, hb, hp1⟩ := l01Byte_some l hl p s hp
    obtain ⟨t, p', s', h, hs, hp'⟩ := ih (i + 1) (acc ++ [b % 256]) p1 s1 (by omega) (by omega) (by simp; omega) hp1
    refine ⟨t, p', s', ev_succ ?_, hs, hp'⟩
    simp only [spec_l01Text.l0, if_pos (show (i : Int) < (n : Int) by omega), e, Option.bind_some, if_pos (show acc.length < 140737488355328 by omega), wn i (show i < n by omega) (by omega)]
    exact h
theorem l01Text_some (l : List Int) (hl : l.length ≤ 1048576) (p s n : Int) (hn : 0 ≤ n ∧ n ≤ 5000) (hp : Inside l p) : ∃ (t : ByteArray) (p' s' : Int), Ev (fun k => spec_l01Text.f k l p s n) (t, p', s') ∧ (t.size : Int) = n ∧ Inside l p' := by
  obtain ⟨m, rfl⟩ := Int.eq_ofNat_of_zero_le hn.1
  obtain ⟨t, p', s', h, hs, hp'⟩ := l01Text_l0 l hl m (by omega) m 0 [] p s (by omega) (by omega) rfl hp
  refine ⟨t, p', s', ?_, by omega, hp'⟩
  unfold spec_l01Text.f
  simp only [if_neg (show ¬ (m : Int) > 5000 by omega)]
  refine ev_succ ?_
  simp only [spec_l01Text.j0]
  exact h
theorem l01New_l0 (l : List Int) (hl : l.length ≤ 1048576) (d : Nat) : ∀ (i : Nat) (s : Int), l.length - i = d → i ≤ l.length → ∃ s', Ev (fun k => spec_l01New.l0 k l s (i : Int)) (l, 0, s') := by
  induction d with
  | zero =>
    intro i s hd hi
    refine ⟨s, ev_succ ?_⟩
    simp only [spec_l01New.l0, if_neg (show ¬ (i : Int) < (l.length : Int) by omega)]
    exact ev_some rfl
  | succ d ih =>
    intro i s hd hi
    by_cases h : (i : Int) < 4000
    · obtain ⟨s', hs⟩ := ih (i + 1) (bits .and .i64 (wrap64 ((wrap64 ((wrap64 (s * 131)) + (wrap64 (rd l (i : Int))))) + 7)) 1073741823) (by omega) (by omega)
      refine ⟨s', ev_succ ?_⟩
      simp only [spec_l01New.l0, if_pos (show (i : Int) < (l.length : Int) by omega), if_pos h, if_pos (show (0 : Int) ≤ (i : Int) by omega), wn i (show i < l.length by omega) (by omega)]
      exact hs
    · refine ⟨s, ev_succ ?_⟩
      simp only [spec_l01New.l0, if_pos (show (i : Int) < (l.length : Int) by omega), if_neg h]
      exact ev_some rfl
theorem l01New_some (l : List Int) (hl : l.length ≤ 1048576) : ∃ s', Ev (fun k => spec_l01New.f k l) (l, 0, s') := by
  unfold spec_l01New.f
  exact l01New_l0 l hl l.length 0 _ (by omega) (by omega)
theorem inside0 (l : List Int) : Inside l 0 := ⟨Int.le_refl _, by omega⟩

/-! places -/
theorem drawPlaces_l0 (l : List Int) (hl : l.length ≤ 1048576) (d : Nat) : ∀ (i : Nat) (acc : List Int) (p s : Int), 12 - i = d → i ≤ 12 → acc.length = i → (∀ x, x ∈ acc → 0 ≤ x ∧ x < 10000) → Inside l p →
    ∃ r : List Int, Ev (fun k => spec_DrawPlaces.l0 k acc (i : Int) l p s) r ∧ r.length = 12 ∧ ∀ x, x ∈ r → 0 ≤ x ∧ x < 10000 := by
  induction d with
  | zero =>
    intro i acc p s hd hi ha hx hp
    refine ⟨acc, ev_succ ?_, by omega, hx⟩
    simp only [spec_DrawPlaces.l0, if_neg (show ¬ (i : Int) < 12 by omega)]
    exact ev_some rfl
  | succ d ih =>
    intro i acc p s hd hi ha hx hp
    obtain ⟨b, p1, s1, e, hb, hp1⟩ := l01Below_some l hl p s 10000 hp
    have hb2 := hb.2 (by omega)
    obtain ⟨r, hr, hrl, hrx⟩ := ih (i + 1) (acc ++ [b]) p1 s1 (by omega) (by omega) (by simp; omega) (fun x hm => by
      rcases List.mem_append.1 hm with hm | hm
      · exact hx x hm
      · rw [List.mem_singleton.1 hm]; exact ⟨hb.1, hb2⟩) hp1
    refine ⟨r, ev_succ ?_, hrl, hrx⟩
    simp only [spec_DrawPlaces.l0, if_pos (show (i : Int) < 12 by omega), e, Option.bind_some, if_pos (show acc.length < 17592186044416 by omega), wn i (show i < 12 by omega) (by omega)]
    exact hr
theorem spec_DrawPlaces_some (l : List Int) (hl : l.length ≤ 1048576) : ∃ r : List Int, Ev (fun k => spec_DrawPlaces.f k l) r ∧ r.length = 12 ∧ ∀ x, x ∈ r → 0 ≤ x ∧ x < 10000 := by
  unfold spec_DrawPlaces.f
  obtain ⟨s, hs⟩ := l01New_some l hl
  obtain ⟨b, p1, s1, e, _, hp1⟩ := l01Byte_some l hl 0 s (inside0 l)
  obtain ⟨r, hr, hrl, hrx⟩ := drawPlaces_l0 l hl 12 0 [] p1 s1 (by omega) (by omega) rfl (fun x hm => by simp at hm) hp1
  refine ⟨r, ?_, hrl, hrx⟩
  refine Ev.bind hs ?_
  simp only [e, Option.bind_some]
  exact hr
theorem place_at {P : List Int} (hPl : P.length = 12) (hPx : ∀ x, x ∈ P → 0 ≤ x ∧ x < 10000) (i : Nat) (hi : i < 12) : 0 ≤ rd P (i : Int) ∧ rd P (i : Int) < 10000 := by
  refine hPx _ ?_
  unfold rd
  rw [Int.toNat_natCast, List.getD_eq_getElem?_getD, List.getElem?_eq_getElem (show i < P.length by omega)]
  exact List.getElem_mem _

theorem xor_nat8 (a b : Nat) (ha : a < 256) (hb : b < 256) : Go.bits .xor .u8 (a : Int) (b : Int) = ((a ^^^ b : Nat) : Int) ∧ a ^^^ b < 256 := by
  have hx : a ^^^ b < 2 ^ 8 := Nat.xor_lt_two_pow (by omega) (by omega)
  refine ⟨?_, by omega⟩
  unfold bits
  have e1 : IntKind.u8.bits = 8 := rfl
  simp only [BitVec.ofInt_natCast, BitVec.toNat_xor, BitVec.toNat_ofNat, e1]
  rw [Nat.mod_eq_of_lt (show a < 2 ^ 8 by omega), Nat.mod_eq_of_lt (show b < 2 ^ 8 by omega), IntKind.wrap_u8]
  omega
theorem xor8_ne {a x : Int} (ha : 0 ≤ a ∧ a < 256) (hx : 1 ≤ x ∧ x ≤ 255) : a ≠ Go.bits .xor .u8 a x ∧ 0 ≤ Go.bits .xor .u8 a x ∧ Go.bits .xor .u8 a x < 256 := by
  obtain ⟨a', rfl⟩ := Int.eq_ofNat_of_zero_le ha.1
  obtain ⟨x', rfl⟩ := Int.eq_ofNat_of_zero_le (show 0 ≤ x by omega)
  obtain ⟨h1, h2⟩ := xor_nat8 a' x' (by omega) (by omega)
  rw [h1]
  refine ⟨fun h => ?_, by omega, by omega⟩
  have h3 : a' = a' ^^^ x' := Int.ofNat.inj h
  have h4 : (0 : Nat) ^^^ a' = x' ^^^ a' := by rw [Nat.zero_xor, Nat.xor_comm x' a']; exact h3
  have := xor_inj_nat h4
  omega
theorem drawSumOf_some (l : List Int) (hl : l.length ≤ 1048576) : ∃ t : ByteArray, Ev (fun k => spec_DrawSumOf.f k l) t ∧ t.size ≤ 40 := by
  unfold spec_DrawSumOf.f
  obtain ⟨s, hs⟩ := l01New_some l hl
  obtain ⟨n, p1, s1, e, hn, hp1⟩ := l01Below_some l hl 0 s 40 (inside0 l)
  have hn2 := hn.2 (by omega)
  obtain ⟨t, p2, s2, ht, hts, _⟩ := l01Text_some l hl p1 s1 n ⟨hn.1, by omega⟩ hp1
  refine ⟨t, Ev.bind hs ?_, by omega⟩
  simp only [e, Option.bind_some]
  exact Ev.bind ht (ev_some rfl)
theorem unsealed_sealed (s : ByteArray) (h : s.size ≤ 20000) : unsealedM (s ++ fourS (sumOfM s)) = (s, true) := by
  have h4 := fourS_size (sumOfM s)
  have e1 : (s ++ fourS (sumOfM s)).size - 4 = s.size := by rw [size_append]; omega
  have e2 : (s ++ fourS (sumOfM s)).extract 0 s.size = s := by
    apply bytes_eq
    rw [bytes_extract, bytes_append, List.drop_zero, ← bytesOf_length s, List.take_left]
  have e3 : (s ++ fourS (sumOfM s)).extract s.size (s ++ fourS (sumOfM s)).size = fourS (sumOfM s) := by
    apply bytes_eq
    have hl : (bytesOf (s ++ fourS (sumOfM s))).length = (s ++ fourS (sumOfM s)).size := bytesOf_length _
    rw [bytes_extract, List.take_of_length_le (by omega), bytes_append, ← bytesOf_length s, List.drop_left]
  unfold unsealedM
  rw [e1, e2, e3, if_pos ⟨by rw [size_append]; omega, by rw [size_append]; omega, rfl⟩]
theorem FnTurned : laws_FnTurned.Pure := by
  intro l _ _ _
  refine Ev.rounds ?_
  unfold laws_FnTurned.f laws_big.f
  simp only [Option.bind_some]
  by_cases hz : (l.length : Int) > 1048576
  · simp only [decide_eq_true hz, if_true]
    exact ev_some rfl
  simp only [decide_eq_false hz, Bool.false_eq_true, if_false]
  have hl : l.length ≤ 1048576 := by omega
  obtain ⟨s, hs, hss⟩ := drawSumOf_some l hl
  obtain ⟨p, hp, hpl, hpx⟩ := spec_DrawPlaces_some l hl
  have q0 := place_at hpl hpx 0 (by omega)
  have q1 := place_at hpl hpx 1 (by omega)
  have z0 : ((0 : Nat) : Int) = 0 := rfl
  have z1 : ((1 : Nat) : Int) = 1 := rfl
  rw [z0] at q0
  rw [z1] at q1
  have h4 := fourS_size (sumOfM s)
  have hsd : sealedM s = (s ++ fourS (sumOfM s), true) := by unfold sealedM; rw [if_neg (by omega)]
  have hus := unsealed_sealed s (by omega)
  have e1 := impl_Sealed_ev s
  rw [hsd] at e1
  have hts : (s ++ fourS (sumOfM s)).size = s.size + 4 := by rw [size_append, h4]
  have e2 := impl_Unsealed_ev (s ++ fourS (sumOfM s)) (by omega)
  rw [hus] at e2
  refine Ev.bind hs (Ev.bind hp (Ev.bind e1 (Ev.bind e2 ?_)))
  simp only
  have hcnd : (True ∧ True ∧ True) ∧ ((s ++ fourS (sumOfM s)).size = s.size + 4 ∧ s.size ≤ 1000000) ∧ (2 ≤ p.length ∧ p.length ≤ 1000) ∧ 0 ≤ rd p 0 ∧ rd p 0 ≤ 1000000000 ∧ 0 ≤ rd p 1 ∧ rd p 1 ≤ 1000000000 :=
    ⟨⟨trivial, trivial, trivial⟩, ⟨hts, by omega⟩, ⟨by omega, by omega⟩, q0.1, by omega, q1.1, by omega⟩
  refine ev_if (fun _ => ?_) (fun h => absurd hcnd h)
  obtain ⟨ix, hix⟩ : ∃ ix : Int, Int.tmod (rd p 0) ((s ++ fourS (sumOfM s)).size : Int) = ix := ⟨_, rfl⟩
  have hi : 0 ≤ ix ∧ ix < ((s ++ fourS (sumOfM s)).size : Int) := by
    rw [← hix]
    exact ⟨Int.tmod_nonneg _ q0.1, Int.tmod_lt_of_pos _ (by omega)⟩
  have m0 := Int.tmod_nonneg 255 q1.1
  have m1 := Int.tmod_lt_of_pos (rd p 1) (show (0 : Int) < 255 by decide)
  have ew : IntKind.u8.wrap (wrap64 (1 + Int.tmod (rd p 1) 255)) = 1 + Int.tmod (rd p 1) 255 := by
    rw [w64 (by omega) (by omega), IntKind.wrap_u8]
    omega
  have hb := bt_lt (s ++ fourS (sumOfM s)) ix
  obtain ⟨hne, hc0, hc1⟩ := xor8_ne hb (x := 1 + Int.tmod (rd p 1) 255) ⟨by omega, by omega⟩
  have hxs : strOfNums (laws_FnTurned.xs (s ++ fourS (sumOfM s)) p) = turnM (s ++ fourS (sumOfM s)) ix.toNat (Go.bits .xor .u8 (bt (s ++ fourS (sumOfM s)) ix) (1 + Int.tmod (rd p 1) 255)) := by
    unfold laws_FnTurned.xs turnM
    rw [hix, ew]
  have hix2 : ((ix.toNat : Nat) : Int) = ix := by omega
  have hno := turned_not s ix.toNat _ (by omega) ⟨hc0, hc1⟩ (by rw [hix2]; exact hne)
  have e3 := impl_Unsealed_ev (turnM (s ++ fourS (sumOfM s)) ix.toNat (Go.bits .xor .u8 (bt (s ++ fourS (sumOfM s)) ix) (1 + Int.tmod (rd p 1) 255))) (by rw [turnM_size]; omega)
  rw [hxs]
  refine Ev.bind e3 ?_
  simp only [hno, if_true]
  have hone : (⟨#[120]⟩ : ByteArray).size = 1 := rfl
  refine Ev.bind (impl_SumOf_ev s (by omega)) ?_
  refine Ev.bind (impl_SumMore_ev (sumOfM s) _ (sumOfM_range s) (by rw [hone]; omega)) ?_
  refine Ev.bind (impl_SumOf_ev (s ++ (⟨#[120]⟩ : ByteArray)) (by rw [size_append, hone]; omega)) ?_
  have hsum : sumL (sumOfM s) (bytesOf (⟨#[120]⟩ : ByteArray)) = sumOfM (s ++ (⟨#[120]⟩ : ByteArray)) := by
    unfold sumOfM sumL
    rw [bytes_append, List.foldl_append]
  simp only [hsum, if_true]
  exact ev_some rfl

end Go.Proofs.Ytkifkligpdbjoaa.Pure
