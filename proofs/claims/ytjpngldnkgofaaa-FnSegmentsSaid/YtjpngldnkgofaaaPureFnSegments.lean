/- The pure statement of FnSegments, over numbers and lists: it is true of every argument; no condition but the bounds that the statement itself names. -/
import Derived.Test.YtjpngldnkgofaaaPFnSegmentsx12
import Derived.Test.YtjpngldnkgofaaaVFnSegments1
set_option linter.unusedVariables false
set_option linter.unusedSimpArgs false
namespace Go.Proofs.Ytjpngldnkgofaaa.Pure
open Go.RowKit Go.Proofs.Ytjpngldnkgofaaa.PFnSegments Go.Proofs.YtjpngldnkgofaaaW.PrintWords Go.Proofs.YtjpngldnkgofaaaW.PrintLast Go.Proofs.YtjpngldnkgofaaaW.PrintMore Go.Proofs.Ytjpngldnkgofaaa.Base

/-! draws -/
theorem and255 (x : Int) : 0 ≤ bits .and .i64 x 255 ∧ bits .and .i64 x 255 ≤ 255 := by
  unfold bits
  have h : (BitVec.ofInt (IntKind.bits .i64) x &&& BitVec.ofInt (IntKind.bits .i64) 255).toNat ≤ 255 := by
    rw [BitVec.toNat_and]
    exact Nat.le_trans Nat.and_le_right (by decide)
  simp only
  rw [b_wraps_i64 _ (by omega) (by omega)]
  omega
/-- Where a drawing stands: inside its bytes. -/
def Inside (l : List Int) (p : Int) : Prop := 0 ≤ p ∧ p ≤ (l.length : Int)
theorem l01Byte_some (l : List Int) (hl : l.length ≤ 1048576) (p s : Int) (hp : Inside l p) : ∃ b p' s', spec_l01Byte.f l p s = some (b, p', s') ∧ (0 ≤ b ∧ b ≤ 255) ∧ Inside l p' := by
  obtain ⟨h0, h1⟩ := hp
  unfold spec_l01Byte.f
  by_cases h : p < (l.length : Int)
  · rw [if_pos h, if_pos h0]
    refine ⟨_, _, _, rfl, and255 _, ?_⟩
    have e := w64 (x := p + 1) (by omega) (by omega)
    rw [e]
    exact ⟨by omega, by omega⟩
  · rw [if_neg h]
    exact ⟨_, _, _, rfl, and255 _, h0, h1⟩
theorem l01Below_some (l : List Int) (hl : l.length ≤ 1048576) (p s n : Int) (hp : Inside l p) : ∃ b p' s', spec_l01Below.f l p s n = some (b, p', s') ∧ (0 ≤ b ∧ (0 < n → b < n)) ∧ Inside l p' := by
  unfold spec_l01Below.f
  by_cases h : n ≤ 0
  · rw [if_pos h]
    exact ⟨_, _, _, rfl, ⟨Int.le_refl _, fun h2 => by omega⟩, hp⟩
  · rw [if_neg h]
    by_cases h2 : n ≤ 256
    · rw [if_pos h2]
      obtain ⟨b, p', s', e, hb, hp'⟩ := l01Byte_some l hl p s hp
      simp only [e, Option.bind_some, if_neg (show ¬ n = 0 by omega)]
      exact ⟨_, _, _, rfl, ⟨Int.tmod_nonneg _ hb.1, fun h3 => Int.tmod_lt_of_pos _ h3⟩, hp'⟩
    · rw [if_neg h2]
      obtain ⟨b1, p1, s1, e1, hb1, hp1⟩ := l01Byte_some l hl p s hp
      obtain ⟨b2, p2, s2, e2, hb2, hp2⟩ := l01Byte_some l hl p1 s1 hp1
      obtain ⟨b3, p3, s3, e3, hb3, hp3⟩ := l01Byte_some l hl p2 s2 hp2
      obtain ⟨b4, p4, s4, e4, hb4, hp4⟩ := l01Byte_some l hl p3 s3 hp3
      simp only [e1, e2, e3, e4, Option.bind_some, if_neg (show ¬ n = 0 by omega)]
      refine ⟨_, _, _, rfl, ⟨Int.tmod_nonneg _ ?_, fun h3 => Int.tmod_lt_of_pos _ h3⟩, hp4⟩
      have a1 := w64 (x := b1 * 16777216) (by omega) (by omega)
      rw [a1]
      clear a1
      have a2 := w64 (x := b2 * 65536) (by omega) (by omega)
      rw [a2]
      clear a2
      have a3 := w64 (x := b3 * 256) (by omega) (by omega)
      rw [a3]
      clear a3
      have a4 := w64 (x := b1 * 16777216 + b2 * 65536) (by omega) (by omega)
      rw [a4]
      clear a4
      have a5 := w64 (x := b1 * 16777216 + b2 * 65536 + b3 * 256) (by omega) (by omega)
      rw [a5]
      clear a5
      have a6 := w64 (x := b1 * 16777216 + b2 * 65536 + b3 * 256 + b4) (by omega) (by omega)
      rw [a6]
      omega
theorem l01Text_l0 (l : List Int) (hl : l.length ≤ 1048576) (n : Nat) (hn : n ≤ 5000) (d : Nat) : ∀ (i : Nat) (acc : List Int) (p s : Int), n - i = d → i ≤ n → acc.length = i → Inside l p →
    ∃ (t : ByteArray) (p' s' : Int), Ev (fun k => spec_l01Text.l0 k (n : Int) acc (i : Int) l p s) (t, p', s') ∧ t.size = n ∧ Inside l p' := by
  induction d with
  | zero =>
    intro i acc p s hd hi ha hp
    refine ⟨strOfNums acc, p, s, ev_succ ?_, by rw [strOfNums_size]; omega, hp⟩
    simp only [spec_l01Text.l0, if_neg (show ¬ (i : Int) < (n : Int) by omega)]
    exact ev_some rfl
  | succ d ih =>
    intro i acc p s hd hi ha hp
    obtain ⟨b, p1, s1, e, hb, hp1⟩ := l01Byte_some l hl p s hp
    obtain ⟨t, p', s', h, hs, hp'⟩ := ih (i + 1) (acc ++ [b % 256]) p1 s1 (by omega) (by omega) (by simp; omega) hp1
    refine ⟨t, p', s', ev_succ ?_, hs, hp'⟩
    simp only [spec_l01Text.l0, if_pos (show (i : Int) < (n : Int) by omega), e, Option.bind_some, if_pos (show acc.length < 140737488355328 by omega), wn i (show i < n by omega) (by omega)]
    exact h
theorem l01Text_some (l : List Int) (hl : l.length ≤ 1048576) (p s n : Int) (hn : 0 ≤ n ∧ n ≤ 5000) (hp : Inside l p) : ∃ (t : ByteArray) (p' s' : Int), Ev (fun k => spec_l01Text.f k l p s n) (t, p', s') ∧ (t.size : Int) = n ∧ Inside l p' := by
  obtain ⟨m, rfl⟩ := Int.eq_ofNat_of_zero_le hn.1
  obtain ⟨t, p', s', h, hs, hp'⟩ := l01Text_l0 l hl m (by omega) m 0 [] p s (by omega) (by omega) rfl hp
  refine ⟨t, p', s', ?_, by omega, hp'⟩
  unfold spec_l01Text.f
  simp only [if_neg (show ¬ (m : Int) > 5000 by omega)]
  refine ev_succ ?_
  simp only [spec_l01Text.j0]
  exact h
theorem l01New_l0 (l : List Int) (hl : l.length ≤ 1048576) (d : Nat) : ∀ (i : Nat) (s : Int), l.length - i = d → i ≤ l.length → ∃ s', Ev (fun k => spec_l01New.l0 k l s (i : Int)) (l, 0, s') := by
  induction d with
  | zero =>
    intro i s hd hi
    refine ⟨s, ev_succ ?_⟩
    simp only [spec_l01New.l0, if_neg (show ¬ (i : Int) < (l.length : Int) by omega)]
    exact ev_some rfl
  | succ d ih =>
    intro i s hd hi
    by_cases h : (i : Int) < 4000
    · obtain ⟨s', hs⟩ := ih (i + 1) (bits .and .i64 (wrap64 ((wrap64 ((wrap64 (s * 131)) + (wrap64 (rd l (i : Int))))) + 7)) 1073741823) (by omega) (by omega)
      refine ⟨s', ev_succ ?_⟩
      simp only [spec_l01New.l0, if_pos (show (i : Int) < (l.length : Int) by omega), if_pos h, if_pos (show (0 : Int) ≤ (i : Int) by omega), wn i (show i < l.length by omega) (by omega)]
      exact hs
    · refine ⟨s, ev_succ ?_⟩
      simp only [spec_l01New.l0, if_pos (show (i : Int) < (l.length : Int) by omega), if_neg h]
      exact ev_some rfl
theorem l01New_some (l : List Int) (hl : l.length ≤ 1048576) : ∃ s', Ev (fun k => spec_l01New.f k l) (l, 0, s') := by
  unfold spec_l01New.f
  exact l01New_l0 l hl l.length 0 _ (by omega) (by omega)
theorem inside0 (l : List Int) : Inside l 0 := ⟨Int.le_refl _, by omega⟩

/-! pick -/
theorem l01Long_l0 (n : Nat) (v : Int) (hn : n ≤ 100000) (d : Nat) : ∀ (i : Nat) (acc : List Int), n - i = d → i ≤ n → acc.length = n → ∃ t : ByteArray, Ev (fun k => spec_l01Long.l0 k (n : Int) v acc (i : Int)) t ∧ t.size = n := by
  induction d with
  | zero =>
    intro i acc hd hi ha
    refine ⟨strOfNums acc, ev_succ ?_, by rw [strOfNums_size]; exact ha⟩
    simp only [spec_l01Long.l0, if_neg (show ¬ (i : Int) < (n : Int) by omega)]
    exact ev_some rfl
  | succ d ih =>
    intro i acc hd hi ha
    obtain ⟨t, h, hs⟩ := ih (i + 1) (acc.set i v) (by omega) (by omega) (by rw [List.length_set]; exact ha)
    refine ⟨t, ev_succ ?_, hs⟩
    simp only [spec_l01Long.l0, if_pos (show (i : Int) < (n : Int) by omega), if_pos (show (0 : Int) ≤ (i : Int) by omega), ha, Int.toNat_natCast, wn i (show i < n by omega) (by omega)]
    exact h
theorem l01Long_some (n : Int) (v : Int) (hn : 0 ≤ n ∧ n ≤ 100000) : ∃ t : ByteArray, Ev (fun k => spec_l01Long.f k n v) t ∧ (t.size : Int) = n := by
  obtain ⟨m, rfl⟩ := Int.eq_ofNat_of_zero_le hn.1
  obtain ⟨t, h, hs⟩ := l01Long_l0 m v (by omega) m 0 (List.replicate m 0) (by omega) (by omega) (by simp)
  refine ⟨t, ?_, by omega⟩
  unfold spec_l01Long.f
  simp only [if_pos hn.1, Int.toNat_natCast, if_pos (show m ≤ 281474976710656 by omega)]
  exact h

/-! places -/
theorem drawPlaces_l0 (l : List Int) (hl : l.length ≤ 1048576) (d : Nat) : ∀ (i : Nat) (acc : List Int) (p s : Int), 12 - i = d → i ≤ 12 → acc.length = i → (∀ x, x ∈ acc → 0 ≤ x ∧ x < 10000) → Inside l p →
    ∃ r : List Int, Ev (fun k => spec_DrawPlaces.l0 k acc (i : Int) l p s) r ∧ r.length = 12 ∧ ∀ x, x ∈ r → 0 ≤ x ∧ x < 10000 := by
  induction d with
  | zero =>
    intro i acc p s hd hi ha hx hp
    refine ⟨acc, ev_succ ?_, by omega, hx⟩
    simp only [spec_DrawPlaces.l0, if_neg (show ¬ (i : Int) < 12 by omega)]
    exact ev_some rfl
  | succ d ih =>
    intro i acc p s hd hi ha hx hp
    obtain ⟨b, p1, s1, e, hb, hp1⟩ := l01Below_some l hl p s 10000 hp
    have hb2 := hb.2 (by omega)
    obtain ⟨r, hr, hrl, hrx⟩ := ih (i + 1) (acc ++ [b]) p1 s1 (by omega) (by omega) (by simp; omega) (fun x hm => by
      rcases List.mem_append.1 hm with hm | hm
      · exact hx x hm
      · rw [List.mem_singleton.1 hm]; exact ⟨hb.1, hb2⟩) hp1
    refine ⟨r, ev_succ ?_, hrl, hrx⟩
    simp only [spec_DrawPlaces.l0, if_pos (show (i : Int) < 12 by omega), e, Option.bind_some, if_pos (show acc.length < 17592186044416 by omega), wn i (show i < 12 by omega) (by omega)]
    exact hr
theorem spec_DrawPlaces_some (l : List Int) (hl : l.length ≤ 1048576) : ∃ r : List Int, Ev (fun k => spec_DrawPlaces.f k l) r ∧ r.length = 12 ∧ ∀ x, x ∈ r → 0 ≤ x ∧ x < 10000 := by
  unfold spec_DrawPlaces.f
  obtain ⟨s, hs⟩ := l01New_some l hl
  obtain ⟨b, p1, s1, e, _, hp1⟩ := l01Byte_some l hl 0 s (inside0 l)
  obtain ⟨r, hr, hrl, hrx⟩ := drawPlaces_l0 l hl 12 0 [] p1 s1 (by omega) (by omega) rfl (fun x hm => by simp at hm) hp1
  refine ⟨r, ?_, hrl, hrx⟩
  refine Ev.bind hs ?_
  simp only [e, Option.bind_some]
  exact hr
theorem place_at {P : List Int} (hPl : P.length = 12) (hPx : ∀ x, x ∈ P → 0 ≤ x ∧ x < 10000) (i : Nat) (hi : i < 12) : 0 ≤ rd P (i : Int) ∧ rd P (i : Int) < 10000 := by
  refine hPx _ ?_
  unfold rd
  rw [Int.toNat_natCast, List.getD_eq_getElem?_getD, List.getElem?_eq_getElem (show i < P.length by omega)]
  exact List.getElem_mem _

/-! in -/
theorem spec_in_eq (a b c : Int) : spec_l01In.f a b c = some (decide (b ≤ a ∧ a ≤ c)) := by
  unfold spec_l01In.f
  by_cases h : a ≥ b <;> by_cases h2 : a ≤ c <;> simp [h, h2] <;> omega
theorem impl_in_eq (a b c : Int) : impl_in.f a b c = some (decide (b ≤ a ∧ a ≤ c)) := by
  unfold impl_in.f
  by_cases h : a ≥ b <;> by_cases h2 : a ≤ c <;> simp [h, h2] <;> omega

/-! disk -/
def W2 (x : S63) : Wr := (x.f0, x.f1)
theorem rdOf_nat {α : Type} (d : α) (l : List α) (i : Nat) : rdOf d l (i : Int) = l.getD i d := by unfold rdOf; rw [Int.toNat_natCast]
theorem getD_drop {α : Type} (d : α) (l : List α) (i : Nat) (h : i < l.length) : l.drop i = l.getD i d :: l.drop (i + 1) := by
  rw [List.drop_eq_getElem_cons h, List.getD_eq_getElem?_getD, List.getElem?_eq_getElem h]
  rfl
theorem set_mid {α : Type} (l r : List α) (x v : α) (i : Nat) (h : l.length = i) : (l ++ x :: r).set i v = l ++ v :: r := by
  rw [List.set_append_right _ _ (by omega), h, Nat.sub_self]
  rfl

/-! diskok -/
def sOk (s : ByteArray) : Bool := decide (s.size = 32)
def wOk (n : Nat) (w : S63) : Bool := decide (0 ≤ w.f0 ∧ w.f0 ≤ (n : Int) - 1) && decide (w.f1.size = 32)
/-- What a right disk is. -/
def diskOkM (l0 : List ByteArray) (l1 : List S63) : Bool := decide ((1 ≤ l0.length ∧ l0.length ≤ 100) ∧ l1.length ≤ 60) && (l0.all sOk && l1.all (wOk l0.length))
theorem rd_W (l : List S63) (i : Nat) : rd_T63 l (i : Int) = l.getD i z63 := by unfold rd_T63; rw [Int.toNat_natCast]
theorem l01In_dec (a b c : Int) : spec_l01In.f a b c = some (decide (b ≤ a ∧ a ≤ c)) := by
  unfold spec_l01In.f
  by_cases h : a ≥ b
  · rw [if_pos h]; congr 1; apply Bool.eq_iff_iff.2; simp; omega
  · rw [if_neg h]; congr 1; apply Bool.eq_iff_iff.2; simp; omega
theorem diskOk_l1 (l0 : List ByteArray) (l1 : List S63) (h0 : l0.length ≤ 100) (h1 : l1.length ≤ 60) (d : Nat) : ∀ i : Nat, l1.length - i = d → i ≤ l1.length → Ev (fun k => spec_DiskOk.l1 k (i : Int) l0 l1) ((l1.drop i).all (wOk l0.length)) := by
  induction d with
  | zero =>
    intro i hd hi
    refine ev_succ ?_
    simp only [spec_DiskOk.l1, if_neg (show ¬ (i : Int) < (l1.length : Int) from by omega)]
    rw [List.drop_eq_nil_of_le (by omega)]
    exact ev_some rfl
  | succ d ih =>
    intro i hd hi
    have hlt : i < l1.length := by omega
    refine ev_succ ?_
    have g1 : (i : Int) < (l1.length : Int) := by omega
    have g2 : (0 : Int) ≤ (i : Int) := by omega
    have e1 := w64 (x := (l0.length : Int) - 1) (by omega) (by omega)
    simp only [spec_DiskOk.l1, if_pos g1, if_pos g2, rd_W, l01In_dec, e1, Option.bind_some, wn i hlt (show l1.length ≤ 140737488355328 by omega)]
    rw [getD_drop z63 l1 i hlt, List.all_cons]
    have hw : wOk l0.length (l1.getD i z63) = (decide (0 ≤ (l1.getD i z63).f0 ∧ (l1.getD i z63).f0 ≤ (l0.length : Int) - 1) && decide ((l1.getD i z63).f1.size = 32)) := rfl
    by_cases c1 : 0 ≤ (l1.getD i z63).f0 ∧ (l1.getD i z63).f0 ≤ (l0.length : Int) - 1
    · rw [decide_eq_true c1] at hw
      simp only [decide_eq_true c1, if_true]
      by_cases c2 : (l1.getD i z63).f1.size = 32
      · rw [decide_eq_true c2] at hw
        simp only [if_pos (show ((l1.getD i z63).f1.size : Int) = 32 by omega)]
        rw [hw]
        simpa using ih (i + 1) (by omega) (by omega)
      · rw [decide_eq_false c2] at hw
        simp only [if_neg (show ¬ ((l1.getD i z63).f1.size : Int) = 32 by omega)]
        rw [hw]
        exact ev_some rfl
    · rw [decide_eq_false c1] at hw
      simp only [decide_eq_false c1, Bool.false_eq_true, if_false]
      rw [hw]
      exact ev_some rfl
theorem diskOk_l0 (l0 : List ByteArray) (l1 : List S63) (h0 : l0.length ≤ 100) (h1 : l1.length ≤ 60) (d : Nat) : ∀ i : Nat, l0.length - i = d → i ≤ l0.length → Ev (fun k => spec_DiskOk.l0 k (i : Int) l0 l1) ((l0.drop i).all sOk && l1.all (wOk l0.length)) := by
  induction d with
  | zero =>
    intro i hd hi
    refine ev_succ ?_
    simp only [spec_DiskOk.l0, if_neg (show ¬ (i : Int) < (l0.length : Int) from by omega)]
    rw [List.drop_eq_nil_of_le (by omega)]
    simpa using diskOk_l1 l0 l1 h0 h1 _ 0 rfl (by omega)
  | succ d ih =>
    intro i hd hi
    have hlt : i < l0.length := by omega
    refine ev_succ ?_
    have g1 : (i : Int) < (l0.length : Int) := by omega
    have g2 : (0 : Int) ≤ (i : Int) := by omega
    simp only [spec_DiskOk.l0, if_pos g1, if_pos g2, rdOf_nat, wn i hlt (show l0.length ≤ 140737488355328 by omega)]
    rw [getD_drop ByteArray.empty l0 i hlt, List.all_cons]
    have hw : sOk (l0.getD i ByteArray.empty) = decide ((l0.getD i ByteArray.empty).size = 32) := rfl
    by_cases c2 : (l0.getD i ByteArray.empty).size = 32
    · rw [decide_eq_true c2] at hw
      simp only [if_pos (show ((l0.getD i ByteArray.empty).size : Int) = 32 by omega)]
      rw [hw]
      simpa using ih (i + 1) (by omega) (by omega)
    · rw [decide_eq_false c2] at hw
      simp only [if_neg (show ¬ ((l0.getD i ByteArray.empty).size : Int) = 32 by omega)]
      rw [hw]
      exact ev_some rfl
theorem spec_DiskOk_ev (l0 : List ByteArray) (l1 : List S63) : Ev (fun k => spec_DiskOk.f k l0 l1) (diskOkM l0 l1) := by
  unfold spec_DiskOk.f diskOkM
  simp only [l01In_dec, Option.bind_some]
  by_cases c1 : 1 ≤ l0.length ∧ l0.length ≤ 100
  · simp only [decide_eq_true (show 1 ≤ (l0.length : Int) ∧ (l0.length : Int) ≤ 100 by omega), if_true]
    by_cases c2 : l1.length ≤ 60
    · rw [decide_eq_true (show (1 ≤ l0.length ∧ l0.length ≤ 100) ∧ l1.length ≤ 60 from ⟨c1, c2⟩), Bool.true_and]
      refine ev_succ ?_
      simp only [spec_DiskOk.j0, decide_eq_false (show ¬ (l1.length : Int) > 60 by omega), Bool.false_eq_true, if_false]
      simpa using diskOk_l0 l0 l1 c1.2 c2 _ 0 rfl (by omega)
    · rw [decide_eq_false (show ¬ ((1 ≤ l0.length ∧ l0.length ≤ 100) ∧ l1.length ≤ 60) from fun h => c2 h.2), Bool.false_and]
      refine ev_succ ?_
      simp only [spec_DiskOk.j0, decide_eq_true (show (l1.length : Int) > 60 by omega), if_true]
      exact ev_some rfl
  · simp only [decide_eq_false (show ¬ (1 ≤ (l0.length : Int) ∧ (l0.length : Int) ≤ 100) by omega), Bool.false_eq_true, if_false]
    rw [decide_eq_false (show ¬ ((1 ≤ l0.length ∧ l0.length ≤ 100) ∧ l1.length ≤ 60) from fun h => c1 h.1), Bool.false_and]
    refine ev_succ ?_
    simp only [spec_DiskOk.j0, if_true]
    exact ev_some rfl
theorem strBad_not (s : ByteArray) : strBad s = !sOk s := by unfold strBad sOk; by_cases h : s.size = 32 <;> simp [h]
theorem wrBad_not (n : Nat) (w : S63) : wrBad n w = !wOk n w := by
  unfold wrBad wOk
  by_cases h : 0 ≤ w.f0 ∧ w.f0 ≤ (n : Int) - 1 <;> by_cases h2 : w.f1.size = 32 <;> simp [h, h2]
theorem any_not {α : Type} (l : List α) (p q : α → Bool) (h : ∀ x, p x = !q x) : (!l.any p) = l.all q := by
  induction l with
  | nil => rfl
  | cons x l ih => rw [List.any_cons, List.all_cons, Bool.not_or, ih, h x, Bool.not_not]
theorem impl_DiskOk_f (l0 : List ByteArray) (l1 : List S63) : impl_DiskOk.f l0 l1 = some (diskOkM l0 l1) := by
  unfold impl_DiskOk.f diskOkM
  rw [any_not l0 _ _ strBad_not, any_not l1 _ _ (wrBad_not l0.length)]

/-! clone -/
theorem spec_l03Copy_f (l0 : List ByteArray) (l1 : List S63) (h0 : l0.length ≤ 1048576) (h1 : l1.length ≤ 1048576) : spec_l03Copy.f l0 l1 = some (l0, l1) := by
  unfold spec_l03Copy.f
  simp only [Option.bind_some, List.length_nil, Nat.zero_add, if_pos (show l0.length < 8796093022208 by omega), if_pos (show l1.length < 5864062014805 by omega), List.nil_append]
theorem impl_cloneDisk_f (l0 : List ByteArray) (l1 : List S63) (h0 : l0.length ≤ 1048576) (h1 : l1.length ≤ 1048576) : impl_cloneDisk.f l0 l1 = some (l0, l1) := by
  unfold impl_cloneDisk.f slices_Clone_string_string.f impl_Write_75.f
  simp only [Option.bind_some, List.length_nil, Nat.zero_add, if_pos (show l0.length < 8796093022208 by omega), if_pos (show l1.length < 5864062014805 by omega), List.nil_append]

/-! flushdisk -/
def putW (ss : List ByteArray) (w : S63) : List ByteArray := ss.set w.f0.toNat w.f1
theorem putW_length (ss : List ByteArray) (w : S63) : (putW ss w).length = ss.length := List.length_set
theorem foldW_length (c : List S63) : ∀ ss : List ByteArray, (c.foldl putW ss).length = ss.length := by
  induction c with
  | nil => intro ss; rfl
  | cons w c ih => intro ss; rw [List.foldl_cons, ih, putW_length]
def flushM (l0 : List ByteArray) (l1 : List S63) : List ByteArray × List S63 := if diskOkM l0 l1 = true then (l1.foldl putW l0, []) else (l0, l1)
theorem flushM_length (l0 : List ByteArray) (l1 : List S63) : (flushM l0 l1).1.length = l0.length ∧ (flushM l0 l1).2.length ≤ l1.length := by
  unfold flushM
  split
  · exact ⟨foldW_length _ _, by simp⟩
  · exact ⟨rfl, Nat.le_refl _⟩
theorem diskOkM_parts (l0 : List ByteArray) (l1 : List S63) (h : diskOkM l0 l1 = true) : (1 ≤ l0.length ∧ l0.length ≤ 100) ∧ l1.length ≤ 60 ∧ (∀ s, s ∈ l0 → s.size = 32) ∧ ∀ w, w ∈ l1 → (0 ≤ w.f0 ∧ w.f0 ≤ (l0.length : Int) - 1) ∧ w.f1.size = 32 := by
  unfold diskOkM at h
  simp only [Bool.and_eq_true, decide_eq_true_eq, List.all_eq_true, sOk, wOk] at h
  exact ⟨h.1.1, h.1.2, h.2.1, h.2.2⟩
def All32 (ss : List ByteArray) : Prop := ∀ s, s ∈ ss → s.size = 32
theorem all32_getD (ss : List ByteArray) (h : All32 ss) (i : Nat) (hi : i < ss.length) : (ss.getD i ByteArray.empty).size = 32 := by
  rw [List.getD_eq_getElem?_getD, List.getElem?_eq_getElem hi]
  exact h _ (List.getElem_mem hi)
theorem all32_set (ss : List ByteArray) (h : All32 ss) (i : Nat) (x : ByteArray) (hx : x.size = 32) : All32 (ss.set i x) := by
  intro s hs
  rcases List.mem_or_eq_of_mem_set hs with h1 | h1
  · exact h s h1
  · rw [h1]; exact hx
theorem spec_FlushDisk_l0 (l0 : List ByteArray) (l1 c1 : List S63) (n : Nat) (hl : l1.length ≤ 60) (hw : ∀ w, w ∈ l1 → 0 ≤ w.f0 ∧ w.f0 ≤ (n : Int) - 1) (d : Nat) : ∀ (i : Nat) (cur : List ByteArray), cur.length = n → l1.length - i = d → i ≤ l1.length →
    Ev (fun k => spec_FlushDisk.l0 k (i : Int) l0 l1 cur c1) ((l1.drop i).foldl putW cur, []) := by
  induction d with
  | zero =>
    intro i cur hc hd hi
    refine ev_succ ?_
    simp only [spec_FlushDisk.l0, if_neg (show ¬ (i : Int) < (l1.length : Int) from by omega)]
    rw [List.drop_eq_nil_of_le (by omega)]
    exact ev_some rfl
  | succ d ih =>
    intro i cur hc hd hi
    have hlt : i < l1.length := by omega
    have hm : l1.getD i z63 ∈ l1 := by
      rw [List.getD_eq_getElem?_getD, List.getElem?_eq_getElem hlt]
      exact List.getElem_mem hlt
    have hb := hw _ hm
    refine ev_succ ?_
    have g1 : (i : Int) < (l1.length : Int) := by omega
    have g2 : (0 : Int) ≤ (i : Int) := by omega
    have g3 : (l1.getD i z63).f0 < (cur.length : Int) := by omega
    simp only [spec_FlushDisk.l0, if_pos g1, if_pos g2, rd_W, if_pos hb.1, if_pos g3, wn i hlt (show l1.length ≤ 140737488355328 by omega)]
    rw [getD_drop z63 l1 i hlt, List.foldl_cons]
    exact ih (i + 1) _ (by rw [List.length_set]; exact hc) (by omega) (by omega)
theorem spec_FlushDisk_ev (l0 : List ByteArray) (l1 : List S63) (h0 : l0.length ≤ 1048576) (h1 : l1.length ≤ 1048576) : Ev (fun k => spec_FlushDisk.f k l0 l1) (flushM l0 l1) := by
  unfold spec_FlushDisk.f flushM
  simp only [spec_l03Copy_f l0 l1 h0 h1, Option.bind_some]
  refine Ev.bind (spec_DiskOk_ev l0 l1) ?_
  refine ev_if (fun h => ?_) (fun h => ?_)
  · rw [if_pos h]
    obtain ⟨p1, p2, p3, p4⟩ := diskOkM_parts l0 l1 h
    simpa using spec_FlushDisk_l0 l0 l1 l1 l0.length p2 (fun w hw => (p4 w hw).1) _ 0 l0 rfl rfl (by omega)
  · rw [if_neg h]; exact ev_some rfl

/-! writesector -/
def writeSectorM (l0 : List ByteArray) (l1 : List S63) (a : Int) (s : ByteArray) : List ByteArray × List S63 × Bool :=
  if diskOkM l0 l1 = true ∧ (0 ≤ a ∧ a ≤ (l0.length : Int) - 1) ∧ s.size = 32 ∧ l1.length < 60 then (l0, l1 ++ [⟨a, s⟩], true) else (l0, l1, false)
theorem spec_WriteSector_ev (l0 : List ByteArray) (l1 : List S63) (h0 : l0.length ≤ 1048576) (h1 : l1.length ≤ 1048576) (a : Int) (s : ByteArray) : Ev (fun k => spec_WriteSector.f k l0 l1 a s) (writeSectorM l0 l1 a s) := by
  unfold spec_WriteSector.f writeSectorM
  simp only [spec_l03Copy_f l0 l1 h0 h1, Option.bind_some]
  refine Ev.bind (spec_DiskOk_ev l0 l1) ?_
  simp only [l01In_dec, Option.bind_some]
  have e := w64 (x := (l0.length : Int) - 1) (by omega) (by omega)
  simp only [e]
  clear e
  by_cases c1 : diskOkM l0 l1 = true
  · simp only [c1, if_true, true_and]
    by_cases c2 : 0 ≤ a ∧ a ≤ (l0.length : Int) - 1
    · simp only [decide_eq_true c2, if_true, if_pos c2]
      by_cases c3 : s.size = 32
      · simp only [if_pos (show (s.size : Int) = 32 by omega)]
        by_cases c4 : l1.length < 60
        · simp only [if_neg (show ¬ (l1.length : Int) ≥ 60 by omega), if_pos (show l1.length < 5864062014805 by omega)]
          exact ev_some (by rw [if_pos ⟨c2, c3, c4⟩])
        · simp only [if_pos (show (l1.length : Int) ≥ 60 by omega)]
          exact ev_some (by rw [if_neg (fun h => c4 h.2.2)])
      · simp only [if_neg (show ¬ (s.size : Int) = 32 by omega)]
        exact ev_some (by rw [if_neg (fun h => c3 h.2.1)])
    · simp only [decide_eq_false c2, Bool.false_eq_true, if_false]
      exact ev_some (by rw [if_neg (fun h => c2 h.1)])
  · simp only [if_neg c1]
    exact ev_some (by rw [if_neg (fun h => c1 h.1)])
theorem diskOkM_snoc (l0 : List ByteArray) (l1 : List S63) (a : Int) (s : ByteArray) (h : diskOkM l0 l1 = true) : diskOkM l0 (l1 ++ [⟨a, s⟩]) = decide ((0 ≤ a ∧ a ≤ (l0.length : Int) - 1) ∧ s.size = 32 ∧ l1.length < 60) := by
  unfold diskOkM at h ⊢
  simp only [Bool.and_eq_true, decide_eq_true_eq] at h
  obtain ⟨⟨h1, h2⟩, h3, h4⟩ := h
  apply Bool.eq_iff_iff.2
  simp only [Bool.and_eq_true, decide_eq_true_eq, List.all_append, List.length_append, List.all_cons, List.all_nil, List.length_cons, List.length_nil, h3, h4, wOk]
  constructor
  · rintro ⟨⟨_, c⟩, _, _, ⟨c1, c2⟩, _⟩; exact ⟨c1, c2, by omega⟩
  · rintro ⟨c1, c2, c3⟩; exact ⟨⟨h1, by omega⟩, trivial, trivial, ⟨c1, c2⟩, trivial⟩
theorem impl_WriteSector_f (l0 : List ByteArray) (l1 : List S63) (h0 : l0.length ≤ 1048576) (h1 : l1.length ≤ 1048576) (a : Int) (s : ByteArray) : impl_WriteSector.f l0 l1 a s = some (writeSectorM l0 l1 a s) := by
  unfold impl_WriteSector.f writeSectorM
  simp only [impl_cloneDisk_f l0 l1 h0 h1, Option.bind_some, if_pos (show l1.length < 5864062014805 by omega), impl_DiskOk_f]
  by_cases c1 : diskOkM l0 l1 = true
  · simp only [c1, if_true, true_and, diskOkM_snoc l0 l1 a s c1, decide_eq_true_eq]
    by_cases c2 : (0 ≤ a ∧ a ≤ (l0.length : Int) - 1) ∧ s.size = 32 ∧ l1.length < 60
    · rw [if_pos c2, if_pos c2]
    · rw [if_neg c2, if_neg c2]
  · rw [if_neg c1, if_neg (fun h => c1 h.1)]

/-! readsector -/
theorem impl_ReadSector_l0 (c : List S63) (hc : c.length ≤ 1048576) (a : Int) (d : Nat) : ∀ (i : Nat) (acc : ByteArray), c.length - i = d → i ≤ c.length →
    Ev (fun k => impl_ReadSector.l0 k a acc c (c.length : Int) (i : Int)) (wrLast a ((c.drop i).map W2) acc, true) := by
  induction d with
  | zero =>
    intro i acc hd hi
    refine ev_succ ?_
    simp only [impl_ReadSector.l0, if_neg (show ¬ (i : Int) < (c.length : Int) from by omega)]
    rw [List.drop_eq_nil_of_le (by omega)]
    exact ev_some rfl
  | succ d ih =>
    intro i acc hd hi
    have hlt : i < c.length := by omega
    have hrd : rd_T63 c (i : Int) = c.getD i z63 := by unfold rd_T63; rw [Int.toNat_natCast]
    refine ev_succ ?_
    simp only [impl_ReadSector.l0, if_pos (show (i : Int) < (c.length : Int) from by omega), if_pos (show (0 : Int) ≤ (i : Int) from by omega), hrd, wn i hlt (show c.length ≤ 140737488355328 from Nat.le_trans hc (by decide))]
    rw [getD_drop z63 c i hlt, List.map_cons, wrLast_cons]
    refine ev_if (fun h => ?_) (fun h => ?_)
    · rw [if_pos (show (W2 (c.getD i z63)).1 = a from h)]
      exact ih (i + 1) _ (by omega) (by omega)
    · rw [if_neg (show ¬ (W2 (c.getD i z63)).1 = a from h)]
      exact ih (i + 1) _ (by omega) (by omega)
theorem impl_ReadSector_ev (ss : List ByteArray) (c : List S63) (hs : ss.length ≤ 1048576) (hc : c.length ≤ 1048576) (a : Int) : Ev (fun k => impl_ReadSector.f k ss c a) (readSectorM ss (c.map W2) a) := by
  unfold impl_ReadSector.f readSectorM
  rw [w64 (x := (ss.length : Int) - 1) (by omega) (by omega)]
  simp only [impl_in_eq, Option.bind_some]
  by_cases h : 0 ≤ a ∧ a ≤ (ss.length : Int) - 1
  · simp only [decide_eq_true h, if_true, if_pos h, if_pos h.1, if_pos (show a < (ss.length : Int) from by omega)]
    have := impl_ReadSector_l0 c hc a _ 0 (rdOf ByteArray.empty ss a) rfl (by omega)
    simpa [rdOf] using this
  · simp only [decide_eq_false h, Bool.false_eq_true, if_false, if_neg h]
    exact ev_some rfl
theorem spec_ReadSector_l0 (ss : List ByteArray) (c : List S63) (hc : c.length ≤ 1048576) (a : Int) (h0 : 0 ≤ a) (h1 : a < (ss.length : Int)) (n : Nat) : n ≤ c.length →
    Ev (fun k => spec_ReadSector.l0 k a ((n : Int) - 1) ss c) (wrLast a ((c.take n).map W2) (ss.getD a.toNat ByteArray.empty), true) := by
  induction n with
  | zero =>
    intro hn
    refine ev_succ ?_
    simp only [spec_ReadSector.l0, if_neg (show ¬ ((0 : Nat) : Int) - 1 ≥ 0 from by omega), if_pos h0, if_pos h1]
    exact ev_some (by simp [wrLast, rdOf])
  | succ n ih =>
    intro hn
    have hlt : n < c.length := by omega
    have e0 : ((n + 1 : Nat) : Int) - 1 = (n : Int) := by omega
    have hrd : rd_T63 c (n : Int) = c.getD n z63 := by unfold rd_T63; rw [Int.toNat_natCast]
    have e1 := w64 (x := (n : Int) - 1) (by omega) (by omega)
    refine ev_succ ?_
    simp only [spec_ReadSector.l0, e0, if_pos (show (n : Int) ≥ 0 from by omega), if_pos (show (0 : Int) ≤ (n : Int) from by omega), if_pos (show (n : Int) < (c.length : Int) from by omega), hrd, e1]
    rw [List.take_succ_eq_append_getElem hlt, List.map_append, List.map_cons, List.map_nil, wrLast_snoc]
    have e2 : c.getD n z63 = c[n] := by rw [List.getD_eq_getElem?_getD, List.getElem?_eq_getElem hlt]; rfl
    rw [e2]
    refine ev_if (fun h => ?_) (fun h => ?_)
    · rw [if_pos (show (W2 c[n]).1 = a from h)]
      exact ev_some rfl
    · rw [if_neg (show ¬ (W2 c[n]).1 = a from h)]
      exact ih (by omega)
theorem spec_ReadSector_ev (ss : List ByteArray) (c : List S63) (hs : ss.length ≤ 1048576) (hc : c.length ≤ 1048576) (a : Int) : Ev (fun k => spec_ReadSector.f k ss c a) (readSectorM ss (c.map W2) a) := by
  unfold spec_ReadSector.f readSectorM
  rw [w64 (x := (ss.length : Int) - 1) (by omega) (by omega), w64 (x := (c.length : Int) - 1) (by omega) (by omega)]
  simp only [spec_in_eq, Option.bind_some]
  by_cases h : 0 ≤ a ∧ a ≤ (ss.length : Int) - 1
  · simp only [decide_eq_true h, if_true, if_pos h]
    simpa using spec_ReadSector_l0 ss c hc a h.1 (by omega) c.length (Nat.le_refl _)
  · simp only [decide_eq_false h, Bool.false_eq_true, if_false, if_neg h]
    exact ev_some rfl

/-! drawdisk -/
theorem l03Zero_some : ∃ t : ByteArray, Ev (fun k => spec_l03Zero.f k) t ∧ t.size = 32 := by
  unfold spec_l03Zero.f spec_l01Long.f
  obtain ⟨t, h, hs⟩ := l01Long_l0 32 0 (by omega) 32 0 (List.replicate 32 0) (by omega) (by omega) (by simp)
  refine ⟨t, ?_, hs⟩
  simp only [if_pos (show (0 : Int) ≤ 32 by decide), if_pos (show (32 : Int).toNat ≤ 281474976710656 by decide)]
  exact Ev.bind h (ev_some rfl)
theorem diskNew_l0 (n : Nat) (hn : n ≤ 100) (d : Nat) : ∀ (i : Nat) (acc : List ByteArray), n - i = d → i ≤ n → acc.length = i → All32 acc → ∃ ss : List ByteArray, Ev (fun k => spec_DiskNew.l0 k (n : Int) (i : Int) acc) (ss, [], true) ∧ ss.length = n ∧ All32 ss := by
  obtain ⟨z, hz, hzs⟩ := l03Zero_some
  induction d with
  | zero =>
    intro i acc hd hi ha h32
    refine ⟨acc, ev_succ ?_, by omega, h32⟩
    simp only [spec_DiskNew.l0, if_neg (show ¬ (i : Int) < (n : Int) by omega)]
    exact ev_some rfl
  | succ d ih =>
    intro i acc hd hi ha h32
    obtain ⟨ss, h, hl, hs⟩ := ih (i + 1) (acc ++ [z]) (by omega) (by omega) (by simp; omega) (fun s hs => by
      rcases List.mem_append.1 hs with h | h
      · exact h32 s h
      · rw [List.mem_singleton.1 h]; exact hzs)
    refine ⟨ss, ev_succ ?_, hl, hs⟩
    simp only [spec_DiskNew.l0, if_pos (show (i : Int) < (n : Int) by omega), wn i (show i < n by omega) (by omega), if_pos (show acc.length < 8796093022208 by omega)]
    exact Ev.bind hz h
theorem spec_DiskNew_some (n : Int) (hn : 1 ≤ n ∧ n ≤ 100) : ∃ ss : List ByteArray, Ev (fun k => spec_DiskNew.f k n) (ss, [], true) ∧ (ss.length : Int) = n ∧ All32 ss := by
  obtain ⟨m, rfl⟩ := Int.eq_ofNat_of_zero_le (show 0 ≤ n by omega)
  obtain ⟨ss, h, hl, hs⟩ := diskNew_l0 m (by omega) m 0 [] (by omega) (by omega) rfl (fun s hs => by simp at hs)
  refine ⟨ss, ?_, by omega, hs⟩
  unfold spec_DiskNew.f
  simp only [l01In_dec, Option.bind_some, decide_eq_true hn, if_true]
  exact h
theorem diskOkM_of (l0 : List ByteArray) (l1 : List S63) (h1 : 1 ≤ l0.length ∧ l0.length ≤ 100) (h2 : l1.length ≤ 60) (h3 : All32 l0) (h4 : ∀ w, w ∈ l1 → (0 ≤ w.f0 ∧ w.f0 ≤ (l0.length : Int) - 1) ∧ w.f1.size = 32) : diskOkM l0 l1 = true := by
  unfold diskOkM
  simp only [Bool.and_eq_true, decide_eq_true_eq, List.all_eq_true, sOk, wOk]
  exact ⟨⟨h1, h2⟩, h3, h4⟩
/-- A right disk of n sectors with at most m writes that wait. -/
def RightD (n m : Nat) (l0 : List ByteArray) (l1 : List S63) : Prop := l0.length = n ∧ (1 ≤ n ∧ n ≤ 100) ∧ l1.length ≤ m ∧ All32 l0 ∧ ∀ w, w ∈ l1 → (0 ≤ w.f0 ∧ w.f0 ≤ (n : Int) - 1) ∧ w.f1.size = 32
theorem rightD_ok {n m : Nat} {l0 : List ByteArray} {l1 : List S63} (h : RightD n m l0 l1) (hm : m ≤ 60) : diskOkM l0 l1 = true := by
  obtain ⟨h1, h2, h3, h4, h5⟩ := h
  exact diskOkM_of l0 l1 (by omega) (by omega) h4 (by rw [h1]; exact h5)
theorem rightD_le {n m m' : Nat} {l0 : List ByteArray} {l1 : List S63} (h : RightD n m l0 l1) (hm : m ≤ m') : RightD n m' l0 l1 := ⟨h.1, h.2.1, Nat.le_trans h.2.2.1 hm, h.2.2.2⟩
theorem rightD_snoc {n m : Nat} {l0 : List ByteArray} {l1 : List S63} (h : RightD n m l0 l1) (a : Int) (s : ByteArray) (ha : 0 ≤ a ∧ a ≤ (n : Int) - 1) (hs : s.size = 32) : RightD n (m + 1) l0 (l1 ++ [⟨a, s⟩]) := by
  obtain ⟨h1, h2, h3, h4, h5⟩ := h
  refine ⟨h1, h2, by simp; omega, h4, fun w hw => ?_⟩
  rcases List.mem_append.1 hw with hw | hw
  · exact h5 w hw
  · rw [List.mem_singleton.1 hw]; exact ⟨ha, hs⟩
theorem wrLast_32 (a : Int) (c : List Wr) : ∀ (s : ByteArray), s.size = 32 → (∀ w, w ∈ c → w.2.size = 32) → (wrLast a c s).size = 32 := by
  induction c with
  | nil => intro s hs _; exact hs
  | cons w c ih =>
    intro s hs hc
    rw [wrLast_cons]
    refine ih _ ?_ (fun w hw => hc w (by simp [hw]))
    by_cases h : w.1 = a
    · rw [if_pos h]; exact hc w (by simp)
    · rw [if_neg h]; exact hs
theorem readSectorM_32 {n m : Nat} {l0 : List ByteArray} {l1 : List S63} (h : RightD n m l0 l1) (a : Int) (ha : 0 ≤ a ∧ a ≤ (n : Int) - 1) : (readSectorM l0 (l1.map W2) a).2 = true ∧ (readSectorM l0 (l1.map W2) a).1.size = 32 := by
  obtain ⟨h1, h2, h3, h4, h5⟩ := h
  unfold readSectorM
  rw [if_pos (by omega)]
  refine ⟨rfl, wrLast_32 _ _ _ (all32_getD l0 h4 _ (by omega)) (fun w hw => ?_)⟩
  obtain ⟨w', hw', rfl⟩ := List.mem_map.1 hw
  exact (h5 w' hw').2
theorem flush_right {n m : Nat} {l0 : List ByteArray} {l1 : List S63} (h : RightD n m l0 l1) (hm : m ≤ 60) : RightD n 0 (flushM l0 l1).1 (flushM l0 l1).2 := by
  have ho := rightD_ok h hm
  obtain ⟨h1, h2, h3, h4, h5⟩ := h
  unfold flushM
  rw [if_pos ho]
  refine ⟨by rw [foldW_length]; exact h1, h2, by simp, ?_, fun w hw => by simp at hw⟩
  have : ∀ (c : List S63) (ss : List ByteArray), All32 ss → (∀ w, w ∈ c → w.f1.size = 32) → All32 (c.foldl putW ss) := by
    intro c
    induction c with
    | nil => intro ss hs _; exact hs
    | cons w c ih =>
      intro ss hs hc
      exact ih _ (all32_set ss hs _ _ (hc w (by simp))) (fun w hw => hc w (by simp [hw]))
  exact this l1 l0 h4 (fun w hw => (h5 w hw).2)
theorem writeBytes_l0 (l0 : List ByteArray) (l1 : List S63) (n m M : Nat) (h : RightD n m l0 l1) (hmM : m ≤ M) (hM : M ≤ 60) (a b : Nat) (ha : a ≤ 100000) (hb : b ≤ 100000) (t : ByteArray) (ht : t.size ≤ 100000) (d : Nat) :
    ∀ (i q : Nat) (c0 : List ByteArray) (c1 : List S63), t.size - i = d → i ≤ t.size → RightD n q c0 c1 → q ≤ M → (i < t.size → q + ((b + t.size + 31) / 32 - (b + i) / 32) ≤ M) →
    ∃ r0 r1 ok, Ev (fun k => spec_WriteBytes.l0 k (a : Int) (b : Int) t (i : Int) l0 l1 c0 c1) (r0, r1, ok) ∧ RightD n M r0 r1 := by
  have hcopy : spec_l03Copy.f l0 l1 = some (l0, l1) := spec_l03Copy_f l0 l1 (by have := h.1; have := h.2.1; omega) (by have := h.2.2.1; omega)
  induction d using Nat.strongRecOn with
  | _ d ih =>
    intro i q c0 c1 hd hi hc hq hB
    by_cases hlt : i < t.size
    · obtain ⟨p, hp⟩ : ∃ p : Nat, b + i = p := ⟨_, rfl⟩
      have eP : Aside0 (wrap64 ((b : Int) + (i : Int)) = ((p : Nat) : Int)) := ⟨by rw [w64 (by omega) (by omega)]; omega⟩
      have eD : Aside0 (wrap64 (Int.tdiv (p : Int) 32) = ((p / 32 : Nat) : Int)) := ⟨by rw [Int.tdiv_eq_ediv_of_nonneg (by omega), w64 (by omega) (by omega)]; omega⟩
      have eM : Aside0 (Int.tmod (p : Int) 32 = ((p % 32 : Nat) : Int)) := ⟨by rw [Int.tmod_eq_emod_of_nonneg (by omega)]; omega⟩
      have e1 : Aside0 (wrap64 (32 - ((p % 32 : Nat) : Int)) = ((32 - p % 32 : Nat) : Int)) := ⟨by rw [w64 (by omega) (by omega)]; omega⟩
      have e2 : Aside0 (wrap64 ((t.size : Int) - (i : Int)) = ((t.size - i : Nat) : Int)) := ⟨by rw [w64 (by omega) (by omega)]; omega⟩
      have e3 : Aside0 (wrap64 ((a : Int) + ((p / 32 : Nat) : Int)) = ((a + p / 32 : Nat) : Int)) := ⟨by rw [w64 (by omega) (by omega)]; omega⟩
      have key : ∀ x : Nat, (1 ≤ x ∧ x ≤ 32 - p % 32 ∧ i + x ≤ t.size) → (x = 32 - p % 32 ∨ i + x = t.size) → ∃ r0 r1 ok, Ev (fun k => spec_WriteBytes.j2 k (a : Int) (b : Int) t (i : Int) ((a + p / 32 : Nat) : Int) ((p % 32 : Nat) : Int) (x : Int) l0 l1 c0 c1) (r0, r1, ok) ∧ RightD n M r0 r1 := by
        intro x hx hx2
        have hread := spec_ReadSector_ev c0 c1 (by have := hc.1; have := hc.2.1; omega) (by have := hc.2.2.1; omega) ((a + p / 32 : Nat) : Int)
        have hbad : ∀ s : ByteArray, ∃ r0 r1 ok, Ev (fun k => spec_WriteBytes.j3 k (a : Int) (b : Int) t (i : Int) ((a + p / 32 : Nat) : Int) ((p % 32 : Nat) : Int) (x : Int) s true l0 l1 c0 c1) (r0, r1, ok) ∧ RightD n M r0 r1 := by
          intro s
          refine ⟨l0, l1, false, ev_succ ?_, rightD_le h hmM⟩
          simp only [spec_WriteBytes.j3, if_true, hcopy, Option.bind_some]
          exact ev_some rfl
        by_cases hr : ((a + p / 32 : Nat) : Int) ≤ (n : Int) - 1
        · obtain ⟨ok1, hs⟩ := readSectorM_32 hc ((a + p / 32 : Nat) : Int) ⟨by omega, hr⟩
          obtain ⟨s, hsv⟩ : ∃ s, (readSectorM c0 (c1.map W2) ((a + p / 32 : Nat) : Int)).1 = s := ⟨_, rfl⟩
          rw [hsv] at hs
          have hnew : ((s.extract 0 (p % 32) ++ t.extract i (i + x)) ++ s.extract (p % 32 + x) s.size).size = 32 := by
            rw [size_append, size_append, size_extract, size_extract, size_extract]; omega
          have hws := spec_WriteSector_ev c0 c1 (by have := hc.1; have := hc.2.1; omega) (by have := hc.2.2.1; omega) ((a + p / 32 : Nat) : Int) ((s.extract 0 (p % 32) ++ t.extract i (i + x)) ++ s.extract (p % 32 + x) s.size)
          have hB' := hB hlt
          have hq1 : q + 1 ≤ M := by omega
          have hwm : writeSectorM c0 c1 ((a + p / 32 : Nat) : Int) ((s.extract 0 (p % 32) ++ t.extract i (i + x)) ++ s.extract (p % 32 + x) s.size) = (c0, c1 ++ [⟨((a + p / 32 : Nat) : Int), (s.extract 0 (p % 32) ++ t.extract i (i + x)) ++ s.extract (p % 32 + x) s.size⟩], true) := by
            unfold writeSectorM
            rw [if_pos ⟨rightD_ok hc (by omega), ⟨by omega, by rw [hc.1]; exact hr⟩, hnew, by have := hc.2.2.1; omega⟩]
          rw [hwm] at hws
          obtain ⟨r0, r1, ok, hr0, hr1⟩ := ih (t.size - (i + x)) (by omega) (i + x) (q + 1) c0 _ rfl (by omega) (rightD_snoc hc ((a + p / 32 : Nat) : Int) _ ⟨by omega, hr⟩ hnew) hq1 (fun hlt2 => by omega)
          refine ⟨r0, r1, ok, ev_succ ?_, hr1⟩
          simp only [spec_WriteBytes.j2]
          refine Ev.bind hread ?_
          simp only [ok1, if_true, hsv]
          have e5 : ((s.size : Int) != 32) = false := by rw [hs]; rfl
          rw [e5]
          clear e5
          refine ev_succ ?_
          have e4 : Aside0 (wrap64 ((i : Int) + (x : Int)) = ((i + x : Nat) : Int)) := ⟨by rw [w64 (by omega) (by omega)]; omega⟩
          have e6 : Aside0 (wrap64 (((p % 32 : Nat) : Int) + (x : Int)) = ((p % 32 + x : Nat) : Int)) := ⟨by rw [w64 (by omega) (by omega)]; omega⟩
          have k1 : (s.extract 0 (p % 32)).size + (t.extract i (i + x)).size ≤ 9223372036854775807 := by rw [size_append, size_append] at hnew; omega
          have k2 : (s.extract 0 (p % 32)).size + (t.extract i (i + x)).size + (s.extract (p % 32 + x) s.size).size ≤ 9223372036854775807 := by rw [size_append, size_append] at hnew; omega
          have g1 : (0 : Int) ≤ ((p % 32 : Nat) : Int) := by omega
          have g2 : ((p % 32 : Nat) : Int) ≤ (s.size : Int) := by omega
          have g3 : (0 : Int) ≤ (i : Int) := by omega
          have g4 : (i : Int) ≤ ((i + x : Nat) : Int) := by omega
          have g5 : ((i + x : Nat) : Int) ≤ (t.size : Int) := by omega
          have g6 : (0 : Int) ≤ ((p % 32 + x : Nat) : Int) := by omega
          have g7 : ((p % 32 + x : Nat) : Int) ≤ (s.size : Int) := by omega
          simp only [spec_WriteBytes.j3, Bool.false_eq_true, if_false, e4.out, e6.out, if_pos g1, if_pos g2, if_pos g3, if_pos g4, if_pos g5, if_pos g6, if_pos g7, Int.toNat_natCast, if_pos k1, if_pos k2]
          refine Ev.bind hws ?_
          simp only [if_true]
          exact hr0
        · obtain ⟨r0, r1, ok, hr0, hr1⟩ := hbad (⟨#[]⟩ : ByteArray)
          refine ⟨r0, r1, ok, ev_succ ?_, hr1⟩
          have hno : readSectorM c0 (c1.map W2) ((a + p / 32 : Nat) : Int) = ((⟨#[]⟩ : ByteArray), false) := by
            unfold readSectorM
            rw [if_neg (by rw [hc.1]; omega)]
          rw [hno] at hread
          simp only [spec_WriteBytes.j2]
          refine Ev.bind hread ?_
          simp only [Bool.false_eq_true, if_false]
          exact hr0
      by_cases hx : 32 - p % 32 > t.size - i
      · obtain ⟨r0, r1, ok, hr0, hr1⟩ := key (t.size - i) (by omega) (by omega)
        refine ⟨r0, r1, ok, ev_succ ?_, hr1⟩
        simp only [spec_WriteBytes.l0, if_pos (show (i : Int) < (t.size : Int) by omega), eP.out, eD.out, eM.out, e1.out, e2.out, e3.out, if_pos (show ((32 - p % 32 : Nat) : Int) > ((t.size - i : Nat) : Int) by omega)]
        exact hr0
      · obtain ⟨r0, r1, ok, hr0, hr1⟩ := key (32 - p % 32) (by omega) (by omega)
        refine ⟨r0, r1, ok, ev_succ ?_, hr1⟩
        simp only [spec_WriteBytes.l0, if_pos (show (i : Int) < (t.size : Int) by omega), eP.out, eD.out, eM.out, e1.out, e2.out, e3.out, if_neg (show ¬ ((32 - p % 32 : Nat) : Int) > ((t.size - i : Nat) : Int) by omega)]
        exact hr0
    · refine ⟨c0, c1, true, ev_succ ?_, rightD_le hc hq⟩
      simp only [spec_WriteBytes.l0, if_neg (show ¬ (i : Int) < (t.size : Int) by omega)]
      exact ev_some rfl
theorem spec_WriteBytes_some (l0 : List ByteArray) (l1 : List S63) (n m : Nat) (h : RightD n m l0 l1) (hm : m + 3 ≤ 60) (a b : Nat) (ha : a ≤ 100000) (hb : b ≤ 3000) (t : ByteArray) (ht : t.size ≤ 60) :
    ∃ r0 r1 ok, Ev (fun k => spec_WriteBytes.f k l0 l1 (a : Int) (b : Int) t) (r0, r1, ok) ∧ RightD n (m + 3) r0 r1 := by
  have hcopy : spec_l03Copy.f l0 l1 = some (l0, l1) := spec_l03Copy_f l0 l1 (by have := h.1; have := h.2.1; omega) (by have := h.2.2.1; omega)
  have hno : ∃ r0 r1 ok, Ev (fun k => spec_WriteBytes.j0 k (a : Int) (b : Int) t true l0 l1 l0 l1) (r0, r1, ok) ∧ RightD n (m + 3) r0 r1 := by
    refine ⟨l0, l1, false, ev_succ ?_, rightD_le h (by omega)⟩
    simp only [spec_WriteBytes.j0, if_true]
    exact ev_some rfl
  unfold spec_WriteBytes.f
  simp only [hcopy, Option.bind_some, l01In_dec, decide_eq_true (show (0 : Int) ≤ (b : Int) ∧ (b : Int) ≤ 3200 by omega), if_true]
  by_cases c1 : 0 ≤ (a : Int) ∧ (a : Int) ≤ wrap64 ((l0.length : Int) - 1)
  · simp only [decide_eq_true c1, if_true]
    obtain ⟨r0, r1, ok, hr0, hr1⟩ := writeBytes_l0 l0 l1 n m (m + 3) h (by omega) hm a b ha (by omega) t (by omega) t.size 0 m l0 l1 (by omega) (by omega) h (by omega) (fun _ => by omega)
    refine ⟨r0, r1, ok, ?_, hr1⟩
    refine Ev.bind (spec_DiskOk_ev l0 l1) ?_
    rw [rightD_ok h (by omega)]
    refine ev_succ ?_
    simp only [spec_WriteBytes.j0, Bool.not_true, Bool.false_eq_true, if_false]
    exact hr0
  · simp only [decide_eq_false c1, Bool.false_eq_true, if_false]
    exact hno
theorem getD_set_eq (ss : List ByteArray) (i : Nat) (x : ByteArray) (h : i < ss.length) : (ss.set i x).getD i ByteArray.empty = x := by
  rw [List.getD_eq_getElem?_getD, List.getElem?_set_self h]; rfl
theorem getD_set_ne (ss : List ByteArray) (i j : Nat) (x : ByteArray) (h : i ≠ j) : (ss.set i x).getD j ByteArray.empty = ss.getD j ByteArray.empty := by
  rw [List.getD_eq_getElem?_getD, List.getD_eq_getElem?_getD, List.getElem?_set_ne h]
theorem foldW_getD (c : List S63) (i : Nat) : ∀ ss : List ByteArray, i < ss.length → (∀ w, w ∈ c → 0 ≤ w.f0) → (c.foldl putW ss).getD i ByteArray.empty = wrLast (i : Int) (c.map W2) (ss.getD i ByteArray.empty) := by
  induction c with
  | nil => intro ss _ _; rfl
  | cons w c ih =>
    intro ss hi hc
    have h0 := hc w (by simp)
    rw [List.foldl_cons, ih _ (by rw [putW_length]; exact hi) (fun w hw => hc w (by simp [hw])), List.map_cons, wrLast_cons]
    congr 1
    unfold putW W2
    by_cases h : w.f0 = (i : Int)
    · rw [if_pos h, show w.f0.toNat = i by omega, getD_set_eq ss i _ hi]
    · rw [if_neg h, getD_set_ne ss _ _ _ (by omega)]
theorem readSectorM_nil (ss : List ByteArray) (i : Nat) (h : i < ss.length) : readSectorM ss [] (i : Int) = (ss.getD i ByteArray.empty, true) := by
  unfold readSectorM
  rw [if_pos (by omega), Int.toNat_natCast]
  rfl
theorem readSectorM_at (ss : List ByteArray) (c : List Wr) (i : Nat) (h : i < ss.length) : readSectorM ss c (i : Int) = (wrLast (i : Int) c (ss.getD i ByteArray.empty), true) := by
  unfold readSectorM
  rw [if_pos (by omega), Int.toNat_natCast]

/-! sectortext -/
theorem impl_SectorText_l0 (ss : List ByteArray) (c : List S63) (hs : ss.length ≤ 1048576) (hc : c.length ≤ 1048576) (zs : ∀ s, s ∈ ss → s.size ≤ 1048576) (zc : ∀ w, w ∈ c → w.f1.size ≤ 1048576) (a : Int) (ha : -9223372036854775808 ≤ a ∧ a ≤ 9223372036854775807) (n : Nat) (hn : n ≤ 100) (f : Nat) :
    ∀ (i : Nat) (acc : ByteArray), i + f = n → acc.size ≤ i * 1048576 → (i = 0 ∨ (0 ≤ a ∧ a + i ≤ (ss.length : Int))) →
    Ev (fun k => impl_SectorText.l0 k a acc (n : Int) (i : Int) ss c) (stGo ss (c.map W2) a f i acc) := by
  induction f with
  | zero =>
    intro i acc hi hz hr
    refine ev_succ ?_
    simp only [impl_SectorText.l0, if_neg (show ¬ (i : Int) < (n : Int) from by omega)]
    exact ev_some rfl
  | succ f ih =>
    intro i acc hi hz hr
    have e1 : wrap64 (a + (i : Int)) = a + (i : Int) := by
      rcases hr with rfl | hr
      · exact w64 (by omega) (by omega)
      · exact w64 (by omega) (by omega)
    have g1 : (i : Int) < (n : Int) := by omega
    have hsz := readSectorM_size ss (c.map W2) (a + (i : Int)) 1048576 zs (by intro w hw; obtain ⟨w', h1, rfl⟩ := List.mem_map.1 hw; exact zc w' h1)
    have hin : (readSectorM ss (c.map W2) (a + (i : Int))).2 = true → 0 ≤ a + (i : Int) ∧ a + (i : Int) < (ss.length : Int) := by
      unfold readSectorM
      by_cases h : 0 ≤ a + (i : Int) ∧ a + (i : Int) ≤ (ss.length : Int) - 1
      · intro _; omega
      · rw [if_neg h]; intro h2; simp at h2
    have hi1 : i < n := by omega
    have e2 : wrap64 ((i : Int) + 1) = ((i + 1 : Nat) : Int) := wn i hi1 (Nat.le_trans hn (by decide))
    refine ev_succ ?_
    simp only [impl_SectorText.l0, if_pos g1, e1, e2]
    clear e1 e2
    refine Ev.bind (impl_ReadSector_ev ss c hs hc _) ?_
    unfold stGo
    refine ev_if (fun h => ?_) (fun h => ?_)
    · rw [if_pos h]
      have h3 := hin h
      have hz2 : acc.size + (readSectorM ss (c.map W2) (a + (i : Int))).1.size ≤ (i + 1) * 1048576 := by rw [Nat.add_mul]; omega
      refine ev_if (fun _ => ?_) (fun hh => absurd (by have : (i + 1) * 1048576 ≤ 101 * 1048576 := Nat.mul_le_mul_right _ (by omega); omega) hh)
      refine ih (i + 1) _ (by omega) (by rw [size_append]; exact hz2) (.inr ?_)
      rcases hr with rfl | hr
      · exact ⟨by omega, by omega⟩
      · exact ⟨by omega, by omega⟩
    · rw [if_neg h]
      exact ev_some rfl
theorem impl_SectorText_ev (ss : List ByteArray) (c : List S63) (hs : ss.length ≤ 1048576) (hc : c.length ≤ 1048576) (zs : ∀ s, s ∈ ss → s.size ≤ 1048576) (zc : ∀ w, w ∈ c → w.f1.size ≤ 1048576) (a n : Int) (ha : -9223372036854775808 ≤ a ∧ a ≤ 9223372036854775807) :
    Ev (fun k => impl_SectorText.f k ss c a n) (sectorTextM ss (c.map W2) a n) := by
  unfold impl_SectorText.f sectorTextM
  simp only [impl_in_eq, Option.bind_some]
  by_cases h : 0 ≤ n ∧ n ≤ 100
  · obtain ⟨m, rfl⟩ := Int.eq_ofNat_of_zero_le h.1
    simp only [decide_eq_true h, if_true, if_pos h, Int.toNat_natCast]
    exact impl_SectorText_l0 ss c hs hc zs zc a ha m (by omega) m 0 _ (by omega) (by decide) (.inl rfl)
  · simp only [decide_eq_false h, Bool.false_eq_true, if_false, if_neg h]
    exact ev_some rfl
theorem spec_SectorText_l0 (ss : List ByteArray) (c : List S63) (hs : ss.length ≤ 1048576) (hc : c.length ≤ 1048576) (zs : ∀ s, s ∈ ss → s.size ≤ 1048576) (zc : ∀ w, w ∈ c → w.f1.size ≤ 1048576) (a : Int) (ha : -9223372036854775808 ≤ a ∧ a ≤ 9223372036854775807) (n : Nat) (hn : n ≤ 100) (f : Nat) :
    ∀ (i : Nat) (acc : ByteArray), i + f = n → acc.size ≤ i * 1048576 → (i = 0 ∨ (0 ≤ a ∧ a + i ≤ (ss.length : Int))) →
    Ev (fun k => spec_SectorText.l0 k a (n : Int) acc (i : Int) ss c) (stGo ss (c.map W2) a f i acc) := by
  induction f with
  | zero =>
    intro i acc hi hz hr
    refine ev_succ ?_
    simp only [spec_SectorText.l0, if_neg (show ¬ (i : Int) < (n : Int) from by omega)]
    exact ev_some rfl
  | succ f ih =>
    intro i acc hi hz hr
    have g1 : (i : Int) < (n : Int) := by omega
    have hsz := readSectorM_size ss (c.map W2) (a + (i : Int)) 1048576 zs (by intro w hw; obtain ⟨w', h1, rfl⟩ := List.mem_map.1 hw; exact zc w' h1)
    have hin : (readSectorM ss (c.map W2) (a + (i : Int))).2 = true ↔ 0 ≤ a + (i : Int) ∧ a + (i : Int) ≤ (ss.length : Int) - 1 := by
      unfold readSectorM
      by_cases h : 0 ≤ a + (i : Int) ∧ a + (i : Int) ≤ (ss.length : Int) - 1
      · rw [if_pos h]; simp; omega
      · rw [if_neg h]; simp; omega
    have hi1 : i < n := by omega
    unfold stGo
    refine ev_succ ?_
    simp only [spec_SectorText.l0, if_pos g1]
    by_cases hbad : a < 0 ∨ a > (ss.length : Int)
    · rw [if_neg (fun h => by have := hin.1 h; omega)]
      refine ev_if (fun h => ?_) (fun h => ?_)
      · refine ev_succ ?_
        simp only [spec_SectorText.j1, if_true]
        exact ev_some rfl
      · refine ev_succ ?_
        simp only [spec_SectorText.j1, decide_eq_true (show a > (ss.length : Int) from by omega), if_true]
        exact ev_some rfl
    have e1 : wrap64 (a + (i : Int)) = a + (i : Int) := w64 (by omega) (by omega)
    have g2 : ¬ a < 0 := by omega
    have g3 : ¬ a > (ss.length : Int) := by omega
    have e2 : wrap64 ((i : Int) + 1) = ((i + 1 : Nat) : Int) := wn i hi1 (Nat.le_trans hn (by decide))
    simp only [if_neg g2, decide_eq_false g3]
    refine ev_succ ?_
    simp only [spec_SectorText.j1, Bool.false_eq_true, if_false, e1, e2]
    clear e1 e2
    refine Ev.bind (spec_ReadSector_ev ss c hs hc _) ?_
    refine ev_if (fun h => ?_) (fun h => ?_)
    · rw [if_pos h]
      have h3 := hin.1 h
      have hz2 : acc.size + (readSectorM ss (c.map W2) (a + (i : Int))).1.size ≤ (i + 1) * 1048576 := by rw [Nat.add_mul]; omega
      refine ev_if (fun _ => ?_) (fun hh => absurd (by have : (i + 1) * 1048576 ≤ 101 * 1048576 := Nat.mul_le_mul_right _ (by omega); omega) hh)
      exact ih (i + 1) _ (by omega) (by rw [size_append]; exact hz2) (.inr ⟨by omega, by omega⟩)
    · rw [if_neg h]
      exact ev_some rfl
theorem spec_SectorText_ev (ss : List ByteArray) (c : List S63) (hs : ss.length ≤ 1048576) (hc : c.length ≤ 1048576) (zs : ∀ s, s ∈ ss → s.size ≤ 1048576) (zc : ∀ w, w ∈ c → w.f1.size ≤ 1048576) (a n : Int) (ha : -9223372036854775808 ≤ a ∧ a ≤ 9223372036854775807) :
    Ev (fun k => spec_SectorText.f k ss c a n) (sectorTextM ss (c.map W2) a n) := by
  unfold spec_SectorText.f sectorTextM
  simp only [spec_in_eq, Option.bind_some]
  by_cases h : 0 ≤ n ∧ n ≤ 100
  · obtain ⟨m, rfl⟩ := Int.eq_ofNat_of_zero_le h.1
    simp only [decide_eq_true h, if_true, if_pos h, Int.toNat_natCast]
    exact spec_SectorText_l0 ss c hs hc zs zc a ha m (by omega) m 0 _ (by omega) (by decide) (.inl rfl)
  · simp only [decide_eq_false h, Bool.false_eq_true, if_false, if_neg h]
    exact ev_some rfl
theorem impl_SegFirst_in (g : Int) (h : 0 ≤ g ∧ g ≤ 10) : impl_SegFirst.f g = some (8 + g * 8) := by
  unfold impl_SegFirst.f
  rw [impl_in_eq, Option.bind_some, if_pos (decide_eq_true h), w64 (x := g * 8) (by omega) (by omega), w64 (by omega) (by omega)]
theorem spec_SegFirst_in (g : Int) (h : 0 ≤ g ∧ g ≤ 10) : spec_SegFirst.f g = some (8 + g * 8) := by
  unfold spec_SegFirst.f
  rw [spec_in_eq, Option.bind_some, if_pos (decide_eq_true h), w64 (x := g * 8) (by omega) (by omega), w64 (by omega) (by omega)]
theorem impl_SegText_ev (ss : List ByteArray) (c : List S63) (hs : ss.length ≤ 1048576) (hc : c.length ≤ 1048576) (zs : ∀ s, s ∈ ss → s.size ≤ 1048576) (zc : ∀ w, w ∈ c → w.f1.size ≤ 1048576) (g : Int) :
    Ev (fun k => impl_SegText.f k ss c g) (segTextM ss (c.map W2) g) := by
  unfold impl_SegText.f segTextM
  simp only [impl_in_eq, Option.bind_some]
  by_cases h : 0 ≤ g ∧ g ≤ 10
  · simp only [decide_eq_true h, if_true, if_pos h, impl_SegFirst_in g h, Option.bind_some]
    exact Ev.bind (impl_SectorText_ev ss c hs hc zs zc _ _ (by omega)) (ev_some rfl)
  · simp only [decide_eq_false h, Bool.false_eq_true, if_false, if_neg h]
    exact ev_some rfl
theorem spec_SegText_ev (ss : List ByteArray) (c : List S63) (hs : ss.length ≤ 1048576) (hc : c.length ≤ 1048576) (zs : ∀ s, s ∈ ss → s.size ≤ 1048576) (zc : ∀ w, w ∈ c → w.f1.size ≤ 1048576) (g : Int) :
    Ev (fun k => spec_SegText.f k ss c g) (segTextM ss (c.map W2) g) := by
  unfold spec_SegText.f segTextM
  simp only [spec_in_eq, Option.bind_some]
  by_cases h : 0 ≤ g ∧ g ≤ 10
  · simp only [decide_eq_true h, if_true, if_pos h, spec_SegFirst_in g h, Option.bind_some]
    exact Ev.bind (spec_SectorText_ev ss c hs hc zs zc _ _ (by omega)) (ev_some rfl)
  · simp only [decide_eq_false h, Bool.false_eq_true, if_false, if_neg h]
    exact ev_some rfl

/-! segwrite -/
theorem mn_min (a b : Nat) : mn (a : Int) (b : Int) = ((min a b : Nat) : Int) := by
  unfold mn
  by_cases h : (b : Int) < (a : Int)
  · rw [if_pos h]; omega
  · rw [if_neg h]; omega
theorem wb_end (t : ByteArray) (ht : t.size = 0) (a b : Int) (d0 : List ByteArray) (d1 : List S63) (S : List ByteArray) (c : List S63) : Ev (fun k => impl_WriteBytes.l0 k a b t d0 d1 S c) (S, c, true) := by
  refine ev_succ ?_
  have he : t.toList = ([] : List UInt8) := by
    rw [ByteArray.toList_eq]
    apply List.eq_nil_of_length_eq_zero
    rw [Array.length_toList]
    exact ht
  simp only [impl_WriteBytes.l0, if_pos he]
  exact ev_some rfl
theorem wb_step (S : List ByteArray) (c : List S63) (n m : Nat) (hR : RightD n m S c) (hm : m + 1 ≤ 59) (a b : Nat) (ha : a + b / 32 < n) (hb : b ≤ 100000) (t : ByteArray) (ht : 0 < t.size ∧ t.size ≤ 1000) (s : ByteArray)
    (hs : wrLast ((a + b / 32 : Nat) : Int) (c.map W2) (S.getD (a + b / 32) ByteArray.empty) = s) (x : Nat) (hx : x = min t.size (32 - b % 32)) (d0 : List ByteArray) (d1 : List S63) (r : List ByteArray × List S63 × Bool)
    (k : Ev (fun k => impl_WriteBytes.l0 k (a : Int) ((b + x : Nat) : Int) (t.extract x t.size) d0 d1 S (c ++ [(⟨((a + b / 32 : Nat) : Int), patchM s (b % 32) (t.extract 0 x)⟩ : S63)])) r) :
    Ev (fun k => impl_WriteBytes.l0 k (a : Int) (b : Int) t d0 d1 S c) r := by
  obtain ⟨hn, hn2, hc, h32, hw⟩ := id hR
  have hne : ¬ t.toList = ([] : List UInt8) := by
    intro h
    rw [ByteArray.toList_eq] at h
    have h0 := congrArg List.length h
    rw [Array.length_toList] at h0
    have h1 : t.size = 0 := h0
    omega
  have hsz : s.size = 32 := by
    rw [← hs]
    refine wrLast_32 _ _ _ (all32_getD S h32 _ (by omega)) (fun w hm => ?_)
    obtain ⟨w', hw', rfl⟩ := List.mem_map.1 hm
    exact (hw w' hw').2
  have hread := impl_ReadSector_ev S c (by omega) (by omega) ((a + b / 32 : Nat) : Int)
  rw [readSectorM_at _ _ _ (by omega), hs] at hread
  have hxz : (t.extract 0 x).size = x := by rw [size_extract]; omega
  have hpz := patchM_size s (t.extract 0 x) (b % 32) (by omega)
  have hws := impl_WriteSector_f S c (by omega) (by omega) ((a + b / 32 : Nat) : Int) (patchM s (b % 32) (t.extract 0 x))
  have hwm : writeSectorM S c ((a + b / 32 : Nat) : Int) (patchM s (b % 32) (t.extract 0 x)) = (S, c ++ [⟨((a + b / 32 : Nat) : Int), patchM s (b % 32) (t.extract 0 x)⟩], true) := by
    unfold writeSectorM
    rw [if_pos ⟨rightD_ok hR (by omega), by omega, by omega, by omega⟩]
  rw [hwm] at hws
  have hpe : (s.extract 0 (b % 32) ++ t.extract 0 x) ++ s.extract (b % 32 + x) s.size = patchM s (b % 32) (t.extract 0 x) := by
    unfold patchM
    rw [hxz]
  have eD : Aside0 (wrap64 ((a : Int) + wrap64 (Int.tdiv (b : Int) 32)) = ((a + b / 32 : Nat) : Int)) := ⟨by
    have e : wrap64 (Int.tdiv (b : Int) 32) = ((b / 32 : Nat) : Int) := by rw [Int.tdiv_eq_ediv_of_nonneg (by omega), w64 (by omega) (by omega)]; omega
    rw [e]
    clear e
    rw [w64 (by omega) (by omega)]
    omega⟩
  have eM : Aside0 (Int.tmod (b : Int) 32 = ((b % 32 : Nat) : Int)) := ⟨by rw [Int.tmod_eq_emod_of_nonneg (by omega)]; omega⟩
  have e1 : Aside0 (mn (t.size : Int) (wrap64 (32 - ((b % 32 : Nat) : Int))) = (x : Int)) := ⟨by
    have e : wrap64 (32 - ((b % 32 : Nat) : Int)) = ((32 - b % 32 : Nat) : Int) := by rw [w64 (by omega) (by omega)]; omega
    rw [e, mn_min, hx]⟩
  have e2 : Aside0 (wrap64 (((b % 32 : Nat) : Int) + (x : Int)) = ((b % 32 + x : Nat) : Int)) := ⟨by rw [w64 (by omega) (by omega)]; omega⟩
  have e3 : Aside0 (wrap64 ((b : Int) + (x : Int)) = ((b + x : Nat) : Int)) := ⟨by rw [w64 (by omega) (by omega)]; omega⟩
  have z1 : (s.extract 0 (b % 32)).size = b % 32 := by rw [size_extract]; omega
  have z2 : (s.extract (b % 32 + x) s.size).size = 32 - (b % 32 + x) := by rw [size_extract]; omega
  have g1 : (0 : Int) ≤ ((b % 32 : Nat) : Int) := by omega
  have g2 : ((b % 32 : Nat) : Int) ≤ (s.size : Int) := by omega
  have g3 : (0 : Int) ≤ (x : Int) := by omega
  have g4 : (x : Int) ≤ (t.size : Int) := by omega
  have g5 : (s.extract 0 (b % 32)).size + (t.extract 0 x).size ≤ 9223372036854775807 := by omega
  have g6 : (0 : Int) ≤ ((b % 32 + x : Nat) : Int) := by omega
  have g7 : ((b % 32 + x : Nat) : Int) ≤ (s.size : Int) := by omega
  have g8 : (s.extract 0 (b % 32)).size + (t.extract 0 x).size + (s.extract (b % 32 + x) s.size).size ≤ 9223372036854775807 := by omega
  have hs32 : ((s.size : Int) != 32) = false := by rw [hsz]; rfl
  refine ev_succ ?_
  simp only [impl_WriteBytes.l0, if_neg hne, eD.out]
  refine Ev.bind hread ?_
  simp only [if_true, hs32]
  refine ev_succ ?_
  simp only [impl_WriteBytes.j2, Bool.false_eq_true, if_false, eM.out, e1.out, e2.out, e3.out, Int.toNat_natCast, if_pos g1, if_pos g2, if_pos g3, if_pos g4, if_pos g5, if_pos g6, if_pos g7, if_pos g8, hpe, hws, Option.bind_some, if_true]
  exact k
theorem impl_SegWrite_ok (S : List ByteArray) (n v : Nat) (hv : 5 ≤ v ∧ v ≤ 7) (hn : n = 8 + 8 * v) (hR : RightD n 0 S []) (g p : Nat) (hg : g < v) (hp : p < 200) (t : ByteArray) (ht : t.size = 7) :
    ∃ c : List S63, Ev (fun k => impl_SegWrite.f k S [] (g : Int) (p : Int) t) (S, c, true) ∧ RightD n 2 S c ∧ (∀ i : Nat, i < v → i ≠ g → segTextM S (c.map W2) (i : Int) = segTextM S [] (i : Int)) ∧ segTextM S (c.map W2) (g : Int) = patchM (segTextM S [] (g : Int)) p t := by
  obtain ⟨hn1, hn2, hc, h32, hw⟩ := id hR
  obtain ⟨q, hq⟩ : ∃ q, p / 32 = q := ⟨_, rfl⟩
  obtain ⟨o, ho⟩ : ∃ o, p % 32 = o := ⟨_, rfl⟩
  have hpq : p = 32 * q + o := by omega
  have hempty : ∀ x : Nat, t.size ≤ x → (t.extract x t.size).size = 0 := fun x hx => by rw [size_extract]; omega
  have hf32 : ∀ i : Nat, i < v → ∀ j : Nat, j < 8 → (S.getD (8 + i * 8 + j) ByteArray.empty).size = 32 := fun i hi j hj => all32_getD S h32 _ (by omega)
  have hsw : ∀ c : List S63, Ev (fun k => impl_WriteBytes.l0 k ((8 + g * 8 : Nat) : Int) (p : Int) t S [] S []) (S, c, true) → Ev (fun k => impl_SegWrite.f k S [] (g : Int) (p : Int) t) (S, c, true) := by
    intro c hl
    have e1 : Aside0 (wrap64 (256 - (p : Int)) = 256 - (p : Int)) := ⟨w64 (by omega) (by omega)⟩
    have e2 : (8 : Int) + (g : Int) * 8 = ((8 + g * 8 : Nat) : Int) := by omega
    have e3 : Aside0 (wrap64 ((S.length : Int) - 1) = (S.length : Int) - 1) := ⟨w64 (by omega) (by omega)⟩
    have b1 : (0 : Int) ≤ (g : Int) ∧ (g : Int) ≤ 10 := by omega
    have b2 : (0 : Int) ≤ (p : Int) ∧ (p : Int) ≤ 256 := by omega
    have b3 : ¬ (t.size : Int) > 256 - (p : Int) := by omega
    have b4 : (0 : Int) ≤ (p : Int) ∧ (p : Int) ≤ 3200 := by omega
    have b5 : (0 : Int) ≤ ((8 + g * 8 : Nat) : Int) ∧ ((8 + g * 8 : Nat) : Int) ≤ (S.length : Int) - 1 := by omega
    have hcl : impl_cloneDisk.f S ([] : List S63) = some (S, []) := impl_cloneDisk_f S [] (by omega) (by simp)
    unfold impl_SegWrite.f
    simp only [impl_in_eq, Option.bind_some, decide_eq_true b1, decide_eq_true b2, if_true, e1.out]
    refine ev_succ ?_
    simp only [impl_SegWrite.j0, decide_eq_false b3, Bool.false_eq_true, if_false, impl_SegFirst_in (g : Int) b1, Option.bind_some, e2]
    refine Ev.bind (r := (S, c, true)) (a := (S, c, true)) ?_ (ev_some rfl)
    unfold impl_WriteBytes.f
    simp only [hcl, impl_in_eq, Option.bind_some, decide_eq_true b4, if_true, e3.out, decide_eq_true b5]
    refine ev_succ ?_
    simp only [impl_WriteBytes.j0, Bool.not_true, Bool.false_eq_true, if_false, hcl, Option.bind_some]
    exact hl
  by_cases hfit : o + 7 ≤ 32
  · -- in one sector
    obtain ⟨s, hs⟩ : ∃ s, S.getD (8 + g * 8 + q) ByteArray.empty = s := ⟨_, rfl⟩
    have hte : t.extract 0 7 = t := by rw [← ht]; exact extract_all t
    refine ⟨[(⟨((8 + g * 8 + q : Nat) : Int), patchM s o t⟩ : S63)], hsw _ ?_, ?_, ?_, ?_⟩
    · refine wb_step S [] n 0 hR (by omega) (8 + g * 8) p (by omega) (by omega) t (by omega) s (by rw [hq]; exact hs) 7 (by omega) S [] _ ?_
      rw [ho, hq, hte, List.nil_append]
      exact wb_end _ (hempty 7 (by omega)) _ _ _ _ _ _
    · have := rightD_snoc hR ((8 + g * 8 + q : Nat) : Int) (patchM s o t) (by omega) (by rw [patchM_size _ _ _ (by rw [← hs, hf32 g hg q (by omega)]; omega), ← hs, hf32 g hg q (by omega)])
      exact rightD_le this (by omega)
    · intro i hi hne
      rw [segTextM_cat S _ i (by omega) (by omega), segTextM_cat S _ i (by omega) (by omega)]
      refine catS_congr _ _ 8 (fun j hj => ?_)
      rw [List.map_cons, List.map_nil, wrLast_cons, wrLast_nil, wrLast_nil, if_neg (by show ¬ ((8 + g * 8 + q : Nat) : Int) = _; omega)]
    · rw [segTextM_cat S _ g (by omega) (by omega), segTextM_cat S _ g (by omega) (by omega), hpq]
      refine cat_one _ _ 8 q o t (fun j hj => by rw [wrLast_nil]; exact hf32 g hg j hj) (by omega) (by omega) ?_ (fun j hj hne => ?_)
      · rw [List.map_cons, List.map_nil, wrLast_cons, wrLast_nil, wrLast_nil]
        show (if ((8 + g * 8 + q : Nat) : Int) = ((8 + g * 8 + q : Nat) : Int) then patchM s o t else _) = _
        rw [if_pos rfl, hs]
      · rw [List.map_cons, List.map_nil, wrLast_cons, wrLast_nil, wrLast_nil, if_neg (by show ¬ ((8 + g * 8 + q : Nat) : Int) = _; omega)]
  · -- over two sectors
    obtain ⟨x, hx⟩ : ∃ x, 32 - o = x := ⟨_, rfl⟩
    obtain ⟨s, hs⟩ : ∃ s, S.getD (8 + g * 8 + q) ByteArray.empty = s := ⟨_, rfl⟩
    obtain ⟨s2, hs2⟩ : ∃ s2, S.getD (8 + g * 8 + (q + 1)) ByteArray.empty = s2 := ⟨_, rfl⟩
    have hz1 : (t.extract 0 x).size = x := by rw [size_extract]; omega
    have hz2 : (t.extract x t.size).size = 7 - x := by rw [size_extract]; omega
    have hte : (t.extract x t.size).extract 0 (7 - x) = t.extract x t.size := by
      have := extract_all (t.extract x t.size)
      rw [hz2] at this
      exact this
    have hsz : s.size = 32 := by rw [← hs]; exact hf32 g hg q (by omega)
    have hsz2 : s2.size = 32 := by rw [← hs2]; exact hf32 g hg (q + 1) (by omega)
    have hR1 := rightD_snoc hR ((8 + g * 8 + q : Nat) : Int) (patchM s o (t.extract 0 x)) (by omega) (by rw [patchM_size _ _ _ (by omega)]; exact hsz)
    rw [List.nil_append] at hR1
    have hR2 := rightD_snoc hR1 ((8 + g * 8 + (q + 1) : Nat) : Int) (patchM s2 0 (t.extract x t.size)) (by omega) (by rw [patchM_size _ _ _ (by omega)]; exact hsz2)
    refine ⟨[(⟨((8 + g * 8 + q : Nat) : Int), patchM s o (t.extract 0 x)⟩ : S63), (⟨((8 + g * 8 + (q + 1) : Nat) : Int), patchM s2 0 (t.extract x t.size)⟩ : S63)], hsw _ ?_, hR2, ?_, ?_⟩
    · refine wb_step S [] n 0 hR (by omega) (8 + g * 8) p (by omega) (by omega) t (by omega) s (by rw [hq]; exact hs) x (by omega) S [] _ ?_
      rw [ho, hq, List.nil_append]
      have d1 : (p + x) / 32 = q + 1 := by omega
      have d2 : (p + x) % 32 = 0 := by omega
      refine wb_step S _ n 1 hR1 (by omega) (8 + g * 8) (p + x) (by omega) (by omega) _ (by omega) s2 ?_ (7 - x) (by omega) S [] _ ?_
      · rw [d1, List.map_cons, List.map_nil, wrLast_cons, wrLast_nil, if_neg (by show ¬ ((8 + g * 8 + q : Nat) : Int) = _; omega)]
        exact hs2
      · rw [d1, d2, hte]
        refine wb_end _ ?_ _ _ _ _ _ _
        rw [size_extract, hz2]
        omega
    · intro i hi hne
      rw [segTextM_cat S _ i (by omega) (by omega), segTextM_cat S _ i (by omega) (by omega)]
      refine catS_congr _ _ 8 (fun j hj => ?_)
      rw [List.map_cons, List.map_cons, List.map_nil, wrLast_cons, wrLast_cons, wrLast_nil, wrLast_nil, if_neg (by show ¬ ((8 + g * 8 + (q + 1) : Nat) : Int) = _; omega), if_neg (by show ¬ ((8 + g * 8 + q : Nat) : Int) = _; omega)]
    · have h0 : ∀ j, j < 8 → ((fun j => wrLast ((8 + g * 8 + j : Nat) : Int) [] (S.getD (8 + g * 8 + j) ByteArray.empty)) j).size = 32 := fun j hj => by simp only [wrLast_nil]; exact hf32 g hg j hj
      have c1 := cat_one (fun j => wrLast ((8 + g * 8 + j : Nat) : Int) [] (S.getD (8 + g * 8 + j) ByteArray.empty)) (fun j => if j = q then patchM s o (t.extract 0 x) else S.getD (8 + g * 8 + j) ByteArray.empty) 8 q o (t.extract 0 x) h0 (by omega) (by omega) (by simp only [if_true, wrLast_nil, hs]) (fun j hj hne => by simp only [if_neg hne, wrLast_nil])
      have h1 : ∀ j, j < 8 → ((fun j => if j = q then patchM s o (t.extract 0 x) else S.getD (8 + g * 8 + j) ByteArray.empty) j).size = 32 := by
        intro j hj
        by_cases e : j = q
        · simp only [if_pos e]; rw [patchM_size _ _ _ (by omega)]; exact hsz
        · simp only [if_neg e]; exact hf32 g hg j hj
      have c2 := cat_one (fun j => if j = q then patchM s o (t.extract 0 x) else S.getD (8 + g * 8 + j) ByteArray.empty) (fun j => wrLast ((8 + g * 8 + j : Nat) : Int) [(((8 + g * 8 + q : Nat) : Int), patchM s o (t.extract 0 x)), (((8 + g * 8 + (q + 1) : Nat) : Int), patchM s2 0 (t.extract x t.size))] (S.getD (8 + g * 8 + j) ByteArray.empty)) 8 (q + 1) 0 (t.extract x t.size) h1 (by omega) (by omega)
        (by simp only [wrLast_cons, wrLast_nil, if_true, if_neg (show ¬ q + 1 = q by omega), hs2])
        (fun j hj hne => by
          simp only [wrLast_cons, wrLast_nil]
          rw [if_neg (by omega)]
          by_cases e : j = q
          · rw [if_pos (by omega), if_pos e]
          · rw [if_neg (by omega), if_neg e])
      rw [segTextM_cat S _ g (by omega) (by omega), segTextM_cat S _ g (by omega) (by omega)]
      have hz8 := catS_size _ 8 h0
      have hpt := patch_two (catS (fun j => wrLast ((8 + g * 8 + j : Nat) : Int) [] (S.getD (8 + g * 8 + j) ByteArray.empty)) 8) t (32 * q + o) x (by omega) (by omega)
      rw [c1] at c2
      have ei : 32 * (q + 1) + 0 = 32 * q + o + x := by omega
      rw [ei, hpt] at c2
      rw [hpq]
      exact c2
theorem impl_SegWrite_far (S : List ByteArray) (n v : Nat) (hv : 5 ≤ v ∧ v ≤ 7) (hn : n = 8 + 8 * v) (hR : RightD n 0 S []) (g : Nat) (hg : g < v) (t : ByteArray) (ht : t.size = 7) : Ev (fun k => impl_SegWrite.f k S [] (g : Int) 253 t) (S, [], false) := by
  obtain ⟨hn1, hn2, hc, h32, hw⟩ := id hR
  have b1 : (0 : Int) ≤ (g : Int) ∧ (g : Int) ≤ 10 := by omega
  have e1 : Aside0 (wrap64 (256 - 253) = 3) := ⟨by rw [w64 (by omega) (by omega)]; rfl⟩
  have b3 : (t.size : Int) > 3 := by omega
  have hcl : impl_cloneDisk.f S ([] : List S63) = some (S, []) := impl_cloneDisk_f S [] (by omega) (by simp)
  unfold impl_SegWrite.f
  simp only [impl_in_eq, Option.bind_some, decide_eq_true b1, decide_eq_true (show (0 : Int) ≤ 253 ∧ (253 : Int) ≤ 256 by decide), if_true, e1.out]
  refine ev_succ ?_
  simp only [impl_SegWrite.j0, decide_eq_true b3, if_true, hcl, Option.bind_some]
  exact ev_some rfl

/-! drawany -/

/-! drawframe -/
theorem l04Frame_some (l : List Int) (hl : l.length ≤ 1048576) (p s : Int) (hp : Inside l p) : ∃ (g q : Int) (b : ByteArray) (p' s' : Int), Ev (fun k => spec_l04Frame.f k l p s) (g, q, b, p', s') ∧ (1 ≤ g ∧ g ≤ 3) ∧ (1 ≤ q ∧ q ≤ 200) ∧ (1 ≤ b.size ∧ b.size ≤ 20) ∧ Inside l p' := by
  unfold spec_l04Frame.f
  obtain ⟨x, p1, s1, e1, hx, hp1⟩ := l01Below_some l hl p s 3 hp
  obtain ⟨y, p2, s2, e2, hy, hp2⟩ := l01Below_some l hl p1 s1 200 hp1
  obtain ⟨z, p3, s3, e3, hz, hp3⟩ := l01Below_some l hl p2 s2 20 hp2
  have hx2 := hx.2 (by omega)
  have hy2 := hy.2 (by omega)
  have hz2 := hz.2 (by omega)
  obtain ⟨t, p4, s4, h4, ht, hp4⟩ := l01Text_some l hl p3 s3 (1 + z) (by omega) hp3
  refine ⟨1 + x, 1 + y, t, p4, s4, ?_, by omega, by omega, by omega, hp4⟩
  simp only [e1, e2, e3, Option.bind_some, w64 (x := 1 + x) (by omega) (by omega), w64 (x := 1 + y) (by omega) (by omega), w64 (x := 1 + z) (by omega) (by omega)]
  exact Ev.bind h4 (ev_some rfl)

/-! frameok -/
theorem spec_FrameOk_eq (a b : Int) (c : ByteArray) : spec_FrameOk.f a b c = some (frameOkM a b c) := by
  unfold spec_FrameOk.f frameOkM
  simp only [spec_in_eq, Option.bind_some]
  by_cases h1 : 1 ≤ a ∧ a ≤ 1000000000 <;> by_cases h2 : 1 ≤ b ∧ b ≤ 1000000000 <;> simp [h1, h2]

/-! sum -/
theorem spec_SumMore_l1 (x : ByteArray) (i : Nat) (hi : i < x.size) (hx : x.size ≤ 140737488351232) (r : Int) (n : Nat) : ∀ (s : Int) (j : Nat), 0 ≤ s ∧ s < 4294967296 → j + n = 8 →
    Ev (fun k => spec_SumMore.l0 k (sumBits n s) x ((i + 1 : Nat) : Int)) r → Ev (fun k => spec_SumMore.l1 k s x (i : Int) (j : Int)) r := by
  induction n with
  | zero =>
    intro s j hs hj h
    refine ev_succ ?_
    simp only [spec_SumMore.l1, if_neg (show ¬ (j : Int) < 8 from by omega), wn i hi (by omega)]
    exact h
  | succ n ih =>
    intro s j hs hj h
    refine ev_succ ?_
    have e1 : Int.tmod s 2 = s % 2 := Int.tmod_eq_emod_of_nonneg hs.1
    have e2 : Int.tdiv s 2 % 4294967296 = s / 2 := by rw [Int.tdiv_eq_ediv_of_nonneg hs.1]; omega
    simp only [spec_SumMore.l1, if_pos (show (j : Int) < 8 from by omega), e1, e2, wn j (show j < 8 from by omega) (by omega)]
    have := ih (sumBit s) (j + 1) (sumBit_range hs) (by omega) h
    unfold sumBit at this
    by_cases h2 : s % 2 = 1
    · simpa only [if_pos h2] using this
    · simpa only [if_neg h2] using this
theorem spec_SumMore_l0 (x : ByteArray) (hx : x.size ≤ 140737488351232) (d : Nat) : ∀ (i : Nat) (s : Int), 0 ≤ s ∧ s < 4294967296 → x.size - i = d → i ≤ x.size →
    Ev (fun k => spec_SumMore.l0 k s x (i : Int)) (sumL s ((bytesOf x).drop i)) := by
  induction d with
  | zero =>
    intro i s hs hd hi
    refine ev_succ ?_
    simp only [spec_SumMore.l0, if_neg (show ¬ (i : Int) < (x.size : Int) from by omega)]
    rw [bytes_end x i (by omega)]
    exact ev_some rfl
  | succ d ih =>
    intro i s hs hd hi
    refine ev_succ ?_
    have hb := bt_lt x (i : Int)
    simp only [spec_SumMore.l0, if_pos (show (i : Int) < (x.size : Int) from by omega), if_pos (show (0 : Int) ≤ (i : Int) from by omega), Int.emod_eq_of_lt hb.1 (show bt x (i : Int) < 4294967296 from by omega)]
    rw [bytes_drop x i (by omega)]
    exact spec_SumMore_l1 x i (by omega) hx _ 8 _ 0 (b_xor_range _ _) rfl (ih (i + 1) _ (sumByte_range s _) (by omega) (by omega))
theorem spec_SumMore_ev (s : Int) (x : ByteArray) (hs : 0 ≤ s ∧ s < 4294967296) (hx : x.size ≤ 140737488351232) : Ev (fun k => spec_SumMore.f k s x) (sumL s (bytesOf x)) := by
  simpa [spec_SumMore.f] using spec_SumMore_l0 x hx _ 0 s hs rfl (by omega)
theorem spec_SumOf_ev (x : ByteArray) (hx : x.size ≤ 140737488351232) : Ev (fun k => spec_SumOf.f k x) (sumOfM x) :=
  Ev.bind (spec_SumMore_ev _ x (by omega) hx) (ev_some rfl)
theorem spec_l02Four_eq (s : Int) : spec_l02Four.f s = some (fourS s) := rfl

/-! seal -/
theorem spec_Sealed_ev (x : ByteArray) : Ev (fun k => spec_Sealed.f k x) (sealedM x) := by
  unfold spec_Sealed.f sealedM
  by_cases h : (x.size : Int) > 20000
  · simp only [if_pos h]
    exact ev_some rfl
  · simp only [if_neg h]
    refine Ev.bind (spec_SumOf_ev x (by omega)) ?_
    have h1 := fourS_size (sumOfM x)
    simp only [spec_l02Four_eq, Option.bind_some, if_pos (show x.size + (fourS (sumOfM x)).size ≤ 9223372036854775807 from by omega)]
    exact ev_some rfl

/-! var -/
theorem spec_l01Var_l0 (n : Nat) : ∀ (acc : List Int), n < 9223372036854775808 → acc.length + (varL n).length < 140737488355328 →
    Ev (fun k => spec_l01Var.l0 k (n : Int) acc) (strOfNums (acc ++ varL n)) := by
  induction n using Nat.strongRecOn with
  | _ n ih =>
    intro acc hn hl
    refine ev_succ ?_
    by_cases h : 127 < n
    · rw [varL_big h] at hl ⊢
      rw [List.length_cons] at hl
      simp only [spec_l01Var.l0, if_pos (show (n : Int) > 127 from by omega), if_pos (show acc.length < 140737488355328 from by omega)]
      have e1 : wrap64 (Int.tdiv (n : Int) 128) = ((n / 128 : Nat) : Int) := by
        rw [Int.tdiv_eq_ediv_of_nonneg (by omega), w64 (by omega) (by omega)]; omega
      have e2 : wrap64 (Int.tmod (n : Int) 128 + 128) % 256 = ((n % 128 + 128 : Nat) : Int) := by
        rw [Int.tmod_eq_emod_of_nonneg (by omega), w64 (by omega) (by omega)]; omega
      simp only [e1, e2]
      have := ih (n / 128) (by omega) (acc ++ [((n % 128 + 128 : Nat) : Int)]) (by omega) (by simp; omega)
      simpa using this
    · rw [varL_small (by omega)] at hl ⊢
      have hl' : acc.length + 1 < 140737488355328 := by simpa using hl
      simp only [spec_l01Var.l0, if_neg (show ¬ (n : Int) > 127 from by omega), if_pos (show acc.length < 140737488355328 from by omega)]
      rw [show (n : Int) % 256 = (n : Int) from by omega]
      exact ev_some rfl
theorem spec_l01Var_ev (n : Nat) (h : n < 70368744177664) : Ev (fun k => spec_l01Var.f k (n : Int)) (varS n) := by
  have := varL_length n
  simpa [spec_l01Var.f, varS] using spec_l01Var_l0 n [] (by omega) (by simp; omega)
theorem spec_l01Var_ev' (a : Int) (h0 : 0 ≤ a) (h : a < 70368744177664) : Ev (fun k => spec_l01Var.f k a) (varS a.toNat) := by
  obtain ⟨n, rfl⟩ := Int.eq_ofNat_of_zero_le h0
  exact spec_l01Var_ev n (by omega)

/-! frametext -/
theorem spec_FrameText_ev (a b : Int) (c : ByteArray) : Ev (fun k => spec_FrameText.f k a b c) (frameTextM a b c) := by
  unfold spec_FrameText.f frameTextM
  simp only [spec_FrameOk_eq, Option.bind_some]
  by_cases h : frameOkM a b c = true
  · simp only [if_pos h]
    have hr := of_decide_eq_true h
    have s1 := varS_size a.toNat
    have s2 := varS_size b.toNat
    have s3 := varS_size c.size
    have l1 := varL_length a.toNat
    have l2 := varL_length b.toNat
    have l3 := varL_length c.size
    refine Ev.bind (spec_l01Var_ev' a (by omega) (by omega)) ?_
    refine Ev.bind (spec_l01Var_ev' b (by omega) (by omega)) ?_
    simp only [if_pos (show (varS a.toNat).size + (varS b.toNat).size ≤ 9223372036854775807 from by omega)]
    refine Ev.bind (spec_l01Var_ev c.size (by omega)) ?_
    simp only [size_append, if_pos (show (varS a.toNat).size + (varS b.toNat).size + (varS c.size).size ≤ 9223372036854775807 from by omega), if_pos (show (varS a.toNat).size + (varS b.toNat).size + (varS c.size).size + c.size ≤ 9223372036854775807 from by omega)]
    exact Ev.bind (spec_Sealed_ev _) (ev_some rfl)
  · simp only [if_neg h]
    exact ev_some rfl

/-! drawseg -/
theorem spec_WriteBytes_some2 (l0 : List ByteArray) (l1 : List S63) (n m : Nat) (h : RightD n m l0 l1) (hm : m + 9 ≤ 60) (a b : Nat) (ha : a ≤ 100000) (hb : b ≤ 256) (t : ByteArray) (ht : t.size ≤ 256) :
    ∃ r0 r1 ok, Ev (fun k => spec_WriteBytes.f k l0 l1 (a : Int) (b : Int) t) (r0, r1, ok) ∧ RightD n (m + 9) r0 r1 := by
  have hcopy : spec_l03Copy.f l0 l1 = some (l0, l1) := spec_l03Copy_f l0 l1 (by have := h.1; have := h.2.1; omega) (by have := h.2.2.1; omega)
  have hno : ∃ r0 r1 ok, Ev (fun k => spec_WriteBytes.j0 k (a : Int) (b : Int) t true l0 l1 l0 l1) (r0, r1, ok) ∧ RightD n (m + 9) r0 r1 := by
    refine ⟨l0, l1, false, ev_succ ?_, rightD_le h (by omega)⟩
    simp only [spec_WriteBytes.j0, if_true]
    exact ev_some rfl
  unfold spec_WriteBytes.f
  simp only [hcopy, Option.bind_some, l01In_dec, decide_eq_true (show (0 : Int) ≤ (b : Int) ∧ (b : Int) ≤ 3200 by omega), if_true]
  by_cases c1 : 0 ≤ (a : Int) ∧ (a : Int) ≤ wrap64 ((l0.length : Int) - 1)
  · simp only [decide_eq_true c1, if_true]
    obtain ⟨r0, r1, ok, hr0, hr1⟩ := writeBytes_l0 l0 l1 n m (m + 9) h (by omega) hm a b ha (by omega) t (by omega) t.size 0 m l0 l1 (by omega) (by omega) h (by omega) (fun _ => by omega)
    refine ⟨r0, r1, ok, ?_, hr1⟩
    refine Ev.bind (spec_DiskOk_ev l0 l1) ?_
    rw [rightD_ok h (by omega)]
    refine ev_succ ?_
    simp only [spec_WriteBytes.j0, Bool.not_true, Bool.false_eq_true, if_false]
    exact hr0
  · simp only [decide_eq_false c1, Bool.false_eq_true, if_false]
    exact hno
theorem spec_SegWrite_some (l0 : List ByteArray) (l1 : List S63) (n m : Nat) (h : RightD n m l0 l1) (hm : m + 9 ≤ 60) (g : Int) (hg : 0 ≤ g ∧ g ≤ 10) (t : ByteArray) (ht : t.size ≤ 140737488351232) :
    ∃ r0 r1 ok, Ev (fun k => spec_SegWrite.f k l0 l1 g 0 t) (r0, r1, ok) ∧ RightD n (m + 9) r0 r1 := by
  have hcopy : spec_l03Copy.f l0 l1 = some (l0, l1) := spec_l03Copy_f l0 l1 (by have := h.1; have := h.2.1; omega) (by have := h.2.2.1; omega)
  have e256 : wrap64 (256 - 0) = 256 := by rw [w64 (by omega) (by omega)]; rfl
  unfold spec_SegWrite.f
  simp only [l01In_dec, Option.bind_some, decide_eq_true hg, decide_eq_true (show (0 : Int) ≤ 0 ∧ (0 : Int) ≤ 256 by decide), if_true, e256]
  by_cases h1 : (t.size : Int) > 256
  · refine ⟨l0, l1, false, ev_succ ?_, rightD_le h (by omega)⟩
    simp only [spec_SegWrite.j0, decide_eq_true h1, if_true, hcopy, Option.bind_some]
    exact ev_some rfl
  · obtain ⟨g', rfl⟩ := Int.eq_ofNat_of_zero_le hg.1
    obtain ⟨r0, r1, ok, hr, hR⟩ := spec_WriteBytes_some2 l0 l1 n m h hm (8 + g' * 8) 0 (by omega) (by omega) t (by omega)
    refine ⟨r0, r1, ok, ev_succ ?_, hR⟩
    have e8 : (8 : Int) + (g' : Int) * 8 = ((8 + g' * 8 : Nat) : Int) := by omega
    simp only [spec_SegWrite.j0, decide_eq_false h1, Bool.false_eq_true, if_false, spec_SegFirst_in (g' : Int) hg, Option.bind_some, e8]
    exact Ev.bind hr (ev_some rfl)
theorem l05Disk_l1 (l : List Int) (hl : l.length ≤ 1048576) (n : Nat) (i : Nat) (hi : i < 4) (g q : Int) (hg : 0 ≤ g ∧ g ≤ 10)
    (hk : ∀ (p s : Int) (c0 : List ByteArray) (c1 : List S63), Inside l p → RightD n 0 c0 c1 → ∃ r0 r1 p' s', Ev (fun k => spec_l05Disk.l0 k ((i + 1 : Nat) : Int) l p s c0 c1) (r0, r1, p', s') ∧ RightD n 0 r0 r1 ∧ Inside l p') (d : Nat) :
    ∀ (j : Nat) (T : ByteArray) (p s : Int) (c0 : List ByteArray) (c1 : List S63), 4 - j = d → j ≤ 4 → T.size ≤ 20004 * (j + 1) → Inside l p → RightD n 0 c0 c1 →
    ∃ r0 r1 p' s', Ev (fun k => spec_l05Disk.l1 k (i : Int) g q T (j : Int) l p s c0 c1) (r0, r1, p', s') ∧ RightD n 0 r0 r1 ∧ Inside l p' := by
  have hend : ∀ (j : Nat) (T : ByteArray) (p s p1 s1 b : Int) (c0 : List ByteArray) (c1 : List S63), T.size ≤ 20004 * 5 → RightD n 0 c0 c1 → spec_l01Below.f l p s 4 = some (b, p1, s1) → Inside l p1 → ¬ (j : Int) < b →
      ∃ r0 r1 p' s', Ev (fun k => spec_l05Disk.l1 k (i : Int) g q T (j : Int) l p s c0 c1) (r0, r1, p', s') ∧ RightD n 0 r0 r1 ∧ Inside l p' := by
    intro j T p s p1 s1 b c0 c1 hT hR e hp1 hnb
    obtain ⟨w0, w1, ok, hw, hwR⟩ := spec_SegWrite_some c0 c1 n 0 hR (by omega) g hg T (by omega)
    have hf := spec_FlushDisk_ev w0 w1 (by have := hwR.1; have := hwR.2.1; omega) (by have := hwR.2.2.1; omega)
    have hF := flush_right hwR (by omega)
    obtain ⟨f, hfv⟩ : ∃ f, flushM w0 w1 = f := ⟨_, rfl⟩
    rw [hfv] at hf hF
    obtain ⟨f0, f1⟩ := f
    obtain ⟨r0, r1, p', s', hgo, hr, hp'⟩ := hk p1 s1 f0 f1 hp1 hF
    refine ⟨r0, r1, p', s', ev_succ ?_, hr, hp'⟩
    simp only [spec_l05Disk.l1, e, Option.bind_some, if_neg hnb]
    refine Ev.bind hw ?_
    refine Ev.bind hf ?_
    simp only [wn i (show i < 4 from hi) (by omega)]
    exact hgo
  induction d with
  | zero =>
    intro j T p s c0 c1 hd hj hT hp hR
    obtain ⟨b, p1, s1, e, hb, hp1⟩ := l01Below_some l hl p s 4 hp
    have hb2 := hb.2 (by omega)
    exact hend j T p s p1 s1 b c0 c1 (by omega) hR e hp1 (by omega)
  | succ d ih =>
    intro j T p s c0 c1 hd hj hT hp hR
    obtain ⟨b, p1, s1, e, hb, hp1⟩ := l01Below_some l hl p s 4 hp
    by_cases h : (j : Int) < b
    · obtain ⟨fg, fq, fb, p2, s2, hfr, h1, h2, h3, hp2⟩ := l04Frame_some l hl p1 s1 hp1
      have hft := spec_FrameText_ev q fq fb
      have hfs := frameTextM_size q fq fb
      obtain ⟨r0, r1, p', s', hgo, hr, hp'⟩ := ih (j + 1) (T ++ (frameTextM q fq fb).1) p2 s2 c0 c1 (by omega) (by omega) (by rw [size_append]; omega) hp2 hR
      refine ⟨r0, r1, p', s', ev_succ ?_, hr, hp'⟩
      simp only [spec_l05Disk.l1, e, Option.bind_some, if_pos h]
      refine Ev.bind hfr ?_
      refine Ev.bind hft ?_
      simp only [if_pos (show T.size + (frameTextM q fq fb).1.size ≤ 9223372036854775807 by omega), wn j (show j < 4 by omega) (by omega)]
      exact hgo
    · exact hend j T p s p1 s1 b c0 c1 (by omega) hR e hp1 h
theorem l05Disk_l0 (l : List Int) (hl : l.length ≤ 1048576) (n : Nat) (d : Nat) : ∀ (i : Nat) (p s : Int) (c0 : List ByteArray) (c1 : List S63), 4 - i = d → i ≤ 4 → Inside l p → RightD n 0 c0 c1 →
    ∃ r0 r1 p' s', Ev (fun k => spec_l05Disk.l0 k (i : Int) l p s c0 c1) (r0, r1, p', s') ∧ RightD n 0 r0 r1 ∧ Inside l p' := by
  induction d with
  | zero =>
    intro i p s c0 c1 hd hi hp hR
    obtain ⟨b, p1, s1, e, hb, hp1⟩ := l01Below_some l hl p s 4 hp
    have hb2 := hb.2 (by omega)
    refine ⟨c0, c1, p1, s1, ev_succ ?_, hR, hp1⟩
    simp only [spec_l05Disk.l0, e, Option.bind_some, if_neg (show ¬ (i : Int) < b by omega)]
    exact ev_some rfl
  | succ d ih =>
    intro i p s c0 c1 hd hi hp hR
    obtain ⟨b, p1, s1, e, hb, hp1⟩ := l01Below_some l hl p s 4 hp
    by_cases h : (i : Int) < b
    · obtain ⟨c, p2, s2, e2, hc, hp2⟩ := l01Below_some l hl p1 s1 5 hp1
      have hc2 := hc.2 (by omega)
      have hft := spec_FrameText_ev ((i + 1 : Nat) : Int) 1 (⟨#[115, 101, 103]⟩ : ByteArray)
      have hfs := frameTextM_size ((i + 1 : Nat) : Int) 1 (⟨#[115, 101, 103]⟩ : ByteArray)
      obtain ⟨r0, r1, p', s', hgo, hr, hp'⟩ := l05Disk_l1 l hl n i (by omega) c ((i + 1 : Nat) : Int) (by omega) (fun p s c0 c1 h1 h2 => ih (i + 1) p s c0 c1 (by omega) (by omega) h1 h2) 4 0 _ p2 s2 c0 c1 (by omega) (by omega) hfs hp2 hR
      refine ⟨r0, r1, p', s', ev_succ ?_, hr, hp'⟩
      have ew : wrap64 (1 + (i : Int)) = ((i + 1 : Nat) : Int) := by rw [w64 (by omega) (by omega)]; omega
      simp only [spec_l05Disk.l0, e, e2, Option.bind_some, if_pos h, ew]
      refine Ev.bind hft ?_
      exact hgo
    · refine ⟨c0, c1, p1, s1, ev_succ ?_, hR, hp1⟩
      simp only [spec_l05Disk.l0, e, Option.bind_some, if_neg h]
      exact ev_some rfl
theorem l05Disk_some (l : List Int) (hl : l.length ≤ 1048576) (p s : Int) (hp : Inside l p) : ∃ n r0 r1 p' s', Ev (fun k => spec_l05Disk.f k l p s) (r0, r1, p', s') ∧ (n = 48 ∨ n = 56 ∨ n = 64) ∧ RightD n 0 r0 r1 ∧ Inside l p' := by
  unfold spec_l05Disk.f
  obtain ⟨b, p1, s1, e, hb, hp1⟩ := l01Below_some l hl p s 3 hp
  have hb2 := hb.2 (by omega)
  have ew : wrap64 (8 + (wrap64 ((wrap64 (5 + b)) * 8))) = 8 + (5 + b) * 8 := by
    rw [w64 (x := 5 + b) (by omega) (by omega), w64 (x := (5 + b) * 8) (by omega) (by omega), w64 (by omega) (by omega)]
  simp only [e, Option.bind_some, ew]
  clear ew
  obtain ⟨ss, hss, hlen, h32⟩ := spec_DiskNew_some (8 + (5 + b) * 8) (by omega)
  obtain ⟨r0, r1, p', s', hgo, hr, hp'⟩ := l05Disk_l0 l hl ss.length 4 0 p1 s1 ss [] (by omega) (by omega) hp1 ⟨rfl, by omega, by simp, h32, fun w hw => by simp at hw⟩
  exact ⟨ss.length, r0, r1, p', s', Ev.bind hss hgo, by omega, hr, hp'⟩
theorem spec_DrawSegDisk_some (l : List Int) (hl : l.length ≤ 1048576) : ∃ n r0 r1, Ev (fun k => spec_DrawSegDisk.f k l) (r0, r1) ∧ (n = 48 ∨ n = 56 ∨ n = 64) ∧ RightD n 0 r0 r1 := by
  unfold spec_DrawSegDisk.f
  obtain ⟨s, hs⟩ := l01New_some l hl
  obtain ⟨n, r0, r1, p', s', h, hn, hr, _⟩ := l05Disk_some l hl 0 s (inside0 l)
  exact ⟨n, r0, r1, Ev.bind hs (Ev.bind h (ev_some rfl)), hn, hr⟩

theorem FnSegments_l0 (S : List ByteArray) (c : List S63) (n v : Nat) (hv : 5 ≤ v ∧ v ≤ 7) (hn : n = 8 + 8 * v) (hR : RightD n 0 S []) (hR2 : RightD n 2 S c) (g p : Nat) (hg : g < v) (hp : p < 200) (t : ByteArray) (ht : t.size = 7)
    (h1 : ∀ i : Nat, i < v → i ≠ g → segTextM S (c.map W2) (i : Int) = segTextM S [] (i : Int)) (h2 : segTextM S (c.map W2) (g : Int) = patchM (segTextM S [] (g : Int)) p t) (hso : spec_SegsOf.f S [] = some (v : Int)) (d : Nat) :
    ∀ i : Nat, v - i = d → i ≤ v → Ev (fun k => laws_FnSegments.l0 k (v : Int) (g : Int) (p : Int) t true false (i : Int) S [] S c) true := by
  obtain ⟨hn1, hn2, hc, h32, hw⟩ := id hR
  obtain ⟨_, _, hc2, _, hw2⟩ := id hR2
  have zs : ∀ s, s ∈ S → s.size ≤ 1048576 := fun s h => by rw [h32 s h]; omega
  have zc : ∀ w, w ∈ c → w.f1.size ≤ 1048576 := fun w h => by rw [(hw2 w h).2]; omega
  induction d with
  | zero =>
    intro i hd hi
    have e8 : Aside0 (wrap64 (8 + wrap64 (8 * (g : Int))) = 8 + (g : Int) * 8) := ⟨by
      have e : wrap64 (8 * (g : Int)) = 8 * (g : Int) := w64 (by omega) (by omega)
      rw [e]
      clear e
      rw [w64 (by omega) (by omega)]
      omega⟩
    refine ev_succ ?_
    simp only [laws_FnSegments.l0, if_neg (show ¬ (i : Int) < (v : Int) by omega), if_true, Bool.false_eq_true, if_false, hso, Option.bind_some, impl_SegFirst_in (g : Int) (by omega), e8.out, beq_self_eq_true]
    exact ev_some rfl
  | succ d ih =>
    intro i hd hi
    have hlt : i < v := by omega
    have a1 := spec_SegText_ev S [] (by omega) (by simp) zs (fun w h => by simp at h) (i : Int)
    have a2 := impl_SegText_ev S c (by omega) (by omega) zs zc (i : Int)
    rw [List.map_nil] at a1
    have hz : (segTextM S [] (i : Int)).size = 256 := by
      rw [segTextM_cat S _ i (by omega) (by omega)]
      exact catS_size _ 8 (fun j hj => by rw [wrLast_nil]; exact all32_getD S h32 _ (by omega))
    have g0 : (i : Int) < (v : Int) := by omega
    have hwn := wn i hlt (show v ≤ 140737488355328 by omega)
    refine ev_succ ?_
    simp only [laws_FnSegments.l0, if_pos g0, hwn]
    clear hwn
    refine Ev.bind a1 ?_
    refine Ev.bind a2 ?_
    by_cases e : i = g
    · subst e
      have e1 : Aside0 (wrap64 ((p : Int) + (t.size : Int)) = ((p + t.size : Nat) : Int)) := ⟨by rw [w64 (by omega) (by omega)]; omega⟩
      have g1 : (0 : Int) ≤ (p : Int) := by omega
      have g2 : (p : Int) ≤ ((segTextM S [] (i : Int)).size : Int) := by omega
      have z1 : ((segTextM S [] (i : Int)).extract 0 p).size = p := by rw [size_extract]; omega
      have z2 : ((segTextM S [] (i : Int)).extract (p + t.size) (segTextM S [] (i : Int)).size).size = 256 - (p + t.size) := by rw [size_extract]; omega
      have g3 : ((segTextM S [] (i : Int)).extract 0 p).size + t.size ≤ 9223372036854775807 := by omega
      have g4 : (0 : Int) ≤ ((p + t.size : Nat) : Int) := by omega
      have g5 : ((p + t.size : Nat) : Int) ≤ ((segTextM S [] (i : Int)).size : Int) := by omega
      have g6 : ((segTextM S [] (i : Int)).extract 0 p).size + t.size + ((segTextM S [] (i : Int)).extract (p + t.size) (segTextM S [] (i : Int)).size).size ≤ 9223372036854775807 := by omega
      have hpm : (segTextM S [] (i : Int)).extract 0 p ++ t ++ (segTextM S [] (i : Int)).extract (p + t.size) (segTextM S [] (i : Int)).size = patchM (segTextM S [] (i : Int)) p t := rfl
      simp only [if_true, if_pos g1, if_pos g2, Int.toNat_natCast, if_pos g3, e1.out, if_pos g4, if_pos g5, if_pos g6, hpm, h2]
      exact ih (i + 1) (by omega) (by omega)
    · rw [h1 i hlt e]
      simp only [if_neg (show ¬ (i : Int) = (g : Int) by omega), if_true]
      exact ih (i + 1) (by omega) (by omega)
theorem FnSegments : laws_FnSegments.Pure := by
  intro l _ _ _
  refine Ev.rounds ?_
  unfold laws_FnSegments.f laws_big.f
  simp only [Option.bind_some]
  by_cases hz : (l.length : Int) > 1048576
  · simp only [decide_eq_true hz, if_true]
    exact ev_some rfl
  simp only [decide_eq_false hz, Bool.false_eq_true, if_false]
  have hl : l.length ≤ 1048576 := by omega
  obtain ⟨n, S, c0, hD, hn, hR⟩ := spec_DrawSegDisk_some l hl
  obtain ⟨P, hP, hPl, hPx⟩ := spec_DrawPlaces_some l hl
  obtain rfl : c0 = [] := List.eq_nil_of_length_eq_zero (by have := hR.2.2.1; omega)
  obtain ⟨v, hv, hnv⟩ : ∃ v : Nat, (5 ≤ v ∧ v ≤ 7) ∧ n = 8 + 8 * v := by
    rcases hn with h | h | h
    · exact ⟨5, by omega, by omega⟩
    · exact ⟨6, by omega, by omega⟩
    · exact ⟨7, by omega, by omega⟩
  have hlen := hR.1
  have e1 : Aside0 (wrap64 (Int.tdiv (wrap64 ((S.length : Int) - 8)) 8) = (v : Int)) := ⟨by
    have e : wrap64 ((S.length : Int) - 8) = ((8 * v : Nat) : Int) := by rw [w64 (by omega) (by omega)]; omega
    rw [e]
    clear e
    have e : Int.tdiv ((8 * v : Nat) : Int) 8 = (v : Int) := by rw [Int.tdiv_eq_ediv_of_nonneg (by omega)]; omega
    rw [e]
    clear e
    exact w64 (by omega) (by omega)⟩
  have b1 : (5 : Int) ≤ (v : Int) ∧ (v : Int) ≤ 11 := by omega
  have hso : spec_SegsOf.f S ([] : List S63) = some (v : Int) := by
    unfold spec_SegsOf.f
    simp only [spec_in_eq, e1.out, Option.bind_some, decide_eq_true b1, if_true]
  have hio : impl_SegsOf.f S ([] : List S63) = some (v : Int) := by
    unfold impl_SegsOf.f
    simp only [impl_in_eq, e1.out, Option.bind_some, decide_eq_true b1, if_true]
  have hP0 := place_at hPl hPx 0 (by omega)
  have hP1 := place_at hPl hPx 1 (by omega)
  have hp0 := Int.tmod_nonneg (v : Int) hP0.1
  have hp1 := Int.tmod_lt_of_pos (rd P ((0 : Nat) : Int)) (show (0 : Int) < (v : Int) by omega)
  obtain ⟨g, hg⟩ := Int.eq_ofNat_of_zero_le hp0
  rw [hg] at hp1
  have ht0 := Int.tmod_nonneg 200 hP1.1
  have ht1 := Int.tmod_lt_of_pos (rd P ((1 : Nat) : Int)) (show (0 : Int) < 200 by decide)
  obtain ⟨p, hp⟩ := Int.eq_ofNat_of_zero_le ht0
  rw [hp] at ht1
  have hg' : Int.tmod (rd P 0) (v : Int) = (g : Int) := hg
  have hp' : Int.tmod (rd P 1) 200 = (p : Int) := hp
  obtain ⟨t, htv⟩ : ∃ t : ByteArray, (⟨#[119, 114, 105, 116, 116, 101, 110]⟩ : ByteArray) = t := ⟨_, rfl⟩
  have hts : t.size = 7 := by rw [← htv]; rfl
  obtain ⟨c, hw, hR2, k1, k2⟩ := impl_SegWrite_ok S n v hv hnv hR g p (by omega) (by omega) t hts
  have hfar := impl_SegWrite_far S n v hv hnv hR g (by omega) t hts
  refine Ev.bind hD ?_
  refine Ev.bind hP ?_
  simp only [hio, Option.bind_some, hPl, if_pos (show (0 : Int) < ((12 : Nat) : Int) by omega), if_neg (show ¬ (v : Int) = 0 by omega), if_pos (show (1 : Int) < ((12 : Nat) : Int) by omega), hg', hp', htv]
  refine Ev.bind hw ?_
  refine Ev.bind hfar ?_
  exact FnSegments_l0 S c n v hv hnv hR hR2 g p (by omega) (by omega) t hts k1 k2 hso _ 0 rfl (by omega)

end Go.Proofs.Ytjpngldnkgofaaa.Pure
