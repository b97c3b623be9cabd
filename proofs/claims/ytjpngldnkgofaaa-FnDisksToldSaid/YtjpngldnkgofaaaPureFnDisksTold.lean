/- The pure statement of FnDisksTold, over numbers and lists: it is true of every argument; no condition but the bounds that the statement itself names. -/
import Derived.Test.YtjpngldnkgofaaaPFnDisksToldx17
import Derived.Test.YtjpngldnkgofaaaVFnDisksTold1
set_option linter.unusedVariables false
set_option linter.unusedSimpArgs false
namespace Go.Proofs.Ytjpngldnkgofaaa.Pure
open Go.RowKit Go.Proofs.Ytjpngldnkgofaaa.PFnDisksTold Go.Proofs.YtjpngldnkgofaaaW.PrintWords Go.Proofs.YtjpngldnkgofaaaW.PrintLast Go.Proofs.YtjpngldnkgofaaaW.PrintMore Go.Proofs.Ytjpngldnkgofaaa.Base

/-! draws -/
theorem and255 (x : Int) : 0 ≤ bits .and .i64 x 255 ∧ bits .and .i64 x 255 ≤ 255 := by
  unfold bits
  have h : (BitVec.ofInt (IntKind.bits .i64) x &&& BitVec.ofInt (IntKind.bits .i64) 255).toNat ≤ 255 := by
    rw [BitVec.toNat_and]
    exact Nat.le_trans Nat.and_le_right (by decide)
  simp only
  rw [b_wraps_i64 _ (by omega) (by omega)]
  omega
/-- Where a drawing stands: inside its bytes. -/
def Inside (l : List Int) (p : Int) : Prop := 0 ≤ p ∧ p ≤ (l.length : Int)
theorem l01Byte_some (l : List Int) (hl : l.length ≤ 1048576) (p s : Int) (hp : Inside l p) : ∃ b p' s', spec_l01Byte.f l p s = some (b, p', s') ∧ (0 ≤ b ∧ b ≤ 255) ∧ Inside l p' := by
  obtain ⟨h0, h1⟩ := hp
  unfold spec_l01Byte.f
  by_cases h : p < (l.length : Int)
  · rw [if_pos h, if_pos h0]
    refine ⟨_, _, _, rfl, and255 _, ?_⟩
    have e := w64 (x := p + 1) (by omega) (by omega)
    rw [e]
    exact ⟨by omega, by omega⟩
  · rw [if_neg h]
    exact ⟨_, _, _, rfl, and255 _, h0, h1⟩
theorem l01Below_some (l : List Int) (hl : l.length ≤ 1048576) (p s n : Int) (hp : Inside l p) : ∃ b p' s', spec_l01Below.f l p s n = some (b, p', s') ∧ (0 ≤ b ∧ (0 < n → b < n)) ∧ Inside l p' := by
  unfold spec_l01Below.f
  by_cases h : n ≤ 0
  · rw [if_pos h]
    exact ⟨_, _, _, rfl, ⟨Int.le_refl _, fun h2 => by omega⟩, hp⟩
  · rw [if_neg h]
    by_cases h2 : n ≤ 256
    · rw [if_pos h2]
      obtain ⟨b, p', s', e, hb, hp'⟩ := l01Byte_some l hl p s hp
      simp only [e, Option.bind_some, if_neg (show ¬ n = 0 by omega)]
      exact ⟨_, _, _, rfl, ⟨Int.tmod_nonneg _ hb.1, fun h3 => Int.tmod_lt_of_pos _ h3⟩, hp'⟩
    · rw [if_neg h2]
      obtain ⟨b1, p1, s1, e1, hb1, hp1⟩ := l01Byte_some l hl p s hp
      obtain ⟨b2, p2, s2, e2, hb2, hp2⟩ := l01Byte_some l hl p1 s1 hp1
      obtain ⟨b3, p3, s3, e3, hb3, hp3⟩ := l01Byte_some l hl p2 s2 hp2
      obtain ⟨b4, p4, s4, e4, hb4, hp4⟩ := l01Byte_some l hl p3 s3 hp3
      simp only [e1, e2, e3, e4, Option.bind_some, if_neg (show ¬ n = 0 by omega)]
      refine ⟨_, _, _, rfl, ⟨Int.tmod_nonneg _ ?_, fun h3 => Int.tmod_lt_of_pos _ h3⟩, hp4⟩
      have a1 := w64 (x := b1 * 16777216) (by omega) (by omega)
      rw [a1]
      clear a1
      have a2 := w64 (x := b2 * 65536) (by omega) (by omega)
      rw [a2]
      clear a2
      have a3 := w64 (x := b3 * 256) (by omega) (by omega)
      rw [a3]
      clear a3
      have a4 := w64 (x := b1 * 16777216 + b2 * 65536) (by omega) (by omega)
      rw [a4]
      clear a4
      have a5 := w64 (x := b1 * 16777216 + b2 * 65536 + b3 * 256) (by omega) (by omega)
      rw [a5]
      clear a5
      have a6 := w64 (x := b1 * 16777216 + b2 * 65536 + b3 * 256 + b4) (by omega) (by omega)
      rw [a6]
      omega
theorem l01Once_some (l : List Int) (hl : l.length ≤ 1048576) (p s n : Int) (hp : Inside l p) : ∃ (b : Bool) (p' s' : Int), spec_l01Once.f l p s n = some (b, p', s') ∧ Inside l p' := by
  unfold spec_l01Once.f
  obtain ⟨b, p', s', e, _, hp'⟩ := l01Below_some l hl p s n hp
  simp only [e, Option.bind_some]
  exact ⟨_, _, _, rfl, hp'⟩
theorem l01Text_l0 (l : List Int) (hl : l.length ≤ 1048576) (n : Nat) (hn : n ≤ 5000) (d : Nat) : ∀ (i : Nat) (acc : List Int) (p s : Int), n - i = d → i ≤ n → acc.length = i → Inside l p →
    ∃ (t : ByteArray) (p' s' : Int), Ev (fun k => spec_l01Text.l0 k (n : Int) acc (i : Int) l p s) (t, p', s') ∧ t.size = n ∧ Inside l p' := by
  induction d with
  | zero =>
    intro i acc p s hd hi ha hp
    refine ⟨strOfNums acc, p, s, ev_succ ?_, by rw [strOfNums_size]; omega, hp⟩
    simp only [spec_l01Text.l0, if_neg (show ¬ (i : Int) < (n : Int) by omega)]
    exact ev_some rfl
  | succ d ih =>
    intro i acc p s hd hi ha hp
    obtain ⟨b, p1, s1, e, hb, hp1⟩ := l01Byte_some l hl p s hp
    obtain ⟨t, p', s', h, hs, hp'⟩ := ih (i + 1) (acc ++ [b % 256]) p1 s1 (by omega) (by omega) (by simp; omega) hp1
    refine ⟨t, p', s', ev_succ ?_, hs, hp'⟩
    simp only [spec_l01Text.l0, if_pos (show (i : Int) < (n : Int) by omega), e, Option.bind_some, if_pos (show acc.length < 140737488355328 by omega), wn i (show i < n by omega) (by omega)]
    exact h
theorem l01Text_some (l : List Int) (hl : l.length ≤ 1048576) (p s n : Int) (hn : 0 ≤ n ∧ n ≤ 5000) (hp : Inside l p) : ∃ (t : ByteArray) (p' s' : Int), Ev (fun k => spec_l01Text.f k l p s n) (t, p', s') ∧ (t.size : Int) = n ∧ Inside l p' := by
  obtain ⟨m, rfl⟩ := Int.eq_ofNat_of_zero_le hn.1
  obtain ⟨t, p', s', h, hs, hp'⟩ := l01Text_l0 l hl m (by omega) m 0 [] p s (by omega) (by omega) rfl hp
  refine ⟨t, p', s', ?_, by omega, hp'⟩
  unfold spec_l01Text.f
  simp only [if_neg (show ¬ (m : Int) > 5000 by omega)]
  refine ev_succ ?_
  simp only [spec_l01Text.j0]
  exact h
theorem l01New_l0 (l : List Int) (hl : l.length ≤ 1048576) (d : Nat) : ∀ (i : Nat) (s : Int), l.length - i = d → i ≤ l.length → ∃ s', Ev (fun k => spec_l01New.l0 k l s (i : Int)) (l, 0, s') := by
  induction d with
  | zero =>
    intro i s hd hi
    refine ⟨s, ev_succ ?_⟩
    simp only [spec_l01New.l0, if_neg (show ¬ (i : Int) < (l.length : Int) by omega)]
    exact ev_some rfl
  | succ d ih =>
    intro i s hd hi
    by_cases h : (i : Int) < 4000
    · obtain ⟨s', hs⟩ := ih (i + 1) (bits .and .i64 (wrap64 ((wrap64 ((wrap64 (s * 131)) + (wrap64 (rd l (i : Int))))) + 7)) 1073741823) (by omega) (by omega)
      refine ⟨s', ev_succ ?_⟩
      simp only [spec_l01New.l0, if_pos (show (i : Int) < (l.length : Int) by omega), if_pos h, if_pos (show (0 : Int) ≤ (i : Int) by omega), wn i (show i < l.length by omega) (by omega)]
      exact hs
    · refine ⟨s, ev_succ ?_⟩
      simp only [spec_l01New.l0, if_pos (show (i : Int) < (l.length : Int) by omega), if_neg h]
      exact ev_some rfl
theorem l01New_some (l : List Int) (hl : l.length ≤ 1048576) : ∃ s', Ev (fun k => spec_l01New.f k l) (l, 0, s') := by
  unfold spec_l01New.f
  exact l01New_l0 l hl l.length 0 _ (by omega) (by omega)
theorem inside0 (l : List Int) : Inside l 0 := ⟨Int.le_refl _, by omega⟩

/-! pick -/
theorem l01Long_l0 (n : Nat) (v : Int) (hn : n ≤ 100000) (d : Nat) : ∀ (i : Nat) (acc : List Int), n - i = d → i ≤ n → acc.length = n → ∃ t : ByteArray, Ev (fun k => spec_l01Long.l0 k (n : Int) v acc (i : Int)) t ∧ t.size = n := by
  induction d with
  | zero =>
    intro i acc hd hi ha
    refine ⟨strOfNums acc, ev_succ ?_, by rw [strOfNums_size]; exact ha⟩
    simp only [spec_l01Long.l0, if_neg (show ¬ (i : Int) < (n : Int) by omega)]
    exact ev_some rfl
  | succ d ih =>
    intro i acc hd hi ha
    obtain ⟨t, h, hs⟩ := ih (i + 1) (acc.set i v) (by omega) (by omega) (by rw [List.length_set]; exact ha)
    refine ⟨t, ev_succ ?_, hs⟩
    simp only [spec_l01Long.l0, if_pos (show (i : Int) < (n : Int) by omega), if_pos (show (0 : Int) ≤ (i : Int) by omega), ha, Int.toNat_natCast, wn i (show i < n by omega) (by omega)]
    exact h
theorem l01Long_some (n : Int) (v : Int) (hn : 0 ≤ n ∧ n ≤ 100000) : ∃ t : ByteArray, Ev (fun k => spec_l01Long.f k n v) t ∧ (t.size : Int) = n := by
  obtain ⟨m, rfl⟩ := Int.eq_ofNat_of_zero_le hn.1
  obtain ⟨t, h, hs⟩ := l01Long_l0 m v (by omega) m 0 (List.replicate m 0) (by omega) (by omega) (by simp)
  refine ⟨t, ?_, by omega⟩
  unfold spec_l01Long.f
  simp only [if_pos hn.1, Int.toNat_natCast, if_pos (show m ≤ 281474976710656 by omega)]
  exact h
theorem l01PickInt_some (l : List Int) (hl : l.length ≤ 1048576) (p s : Int) (hp : Inside l p) (L : List Int) (hL : 0 < L.length) : ∃ v p' s', spec_l01PickInt.f l p s L = some (v, p', s') ∧ v ∈ L ∧ Inside l p' := by
  unfold spec_l01PickInt.f
  obtain ⟨b, p1, s1, e, hb, hp1⟩ := l01Below_some l hl p s (L.length : Int) hp
  have h2 := hb.2 (by omega)
  refine ⟨rd L b, p1, s1, ?_, ?_, hp1⟩
  · simp only [e, Option.bind_some, if_pos hb.1, if_pos h2]
  · unfold rd
    rw [List.getD_eq_getElem?_getD, List.getElem?_eq_getElem (show b.toNat < L.length by omega)]
    exact List.getElem_mem _
theorem l01Place_range (l : List Int) (hl : l.length ≤ 1048576) (p s n : Int) (hn : 0 ≤ n ∧ n ≤ 100000) (hp : Inside l p) : ∃ v p' s', spec_l01Place.f l p s n = some (v, p', s') ∧ (-9223372036854775808 ≤ v ∧ v ≤ 9223372036854775807) ∧ Inside l p' := by
  unfold spec_l01Place.f
  obtain ⟨b, p1, s1, e, hp1⟩ := l01Once_some l hl p s 15 hp
  cases b with
  | true =>
    have ew := w64 (x := n + 1) (by omega) (by omega)
    obtain ⟨v, p2, s2, hv, hm, hp2⟩ := l01PickInt_some l hl p1 s1 hp1 (([(-1), n, n + 1, 9223372036854775807, (-9223372036854775808)] : List Int)) (by simp)
    refine ⟨v, p2, s2, by simp only [e, Option.bind_some, if_true, ew, hv], ?_, hp2⟩
    simp at hm
    clear ew
    omega
  | false =>
    obtain ⟨v, p2, s2, hv, hb, hp2⟩ := l01Below_some l hl p1 s1 n hp1
    refine ⟨v, p2, s2, by simp only [e, Option.bind_some, Bool.false_eq_true, if_false, hv], ?_, hp2⟩
    by_cases h : 0 < n
    · have := hb.2 h; omega
    · have h0 : n = 0 := by omega
      subst h0
      unfold spec_l01Below.f at hv
      simp at hv
      omega
theorem l01Place_some (l : List Int) (hl : l.length ≤ 1048576) (p s n : Int) (hn : 0 ≤ n ∧ n ≤ 100000) (hp : Inside l p) : ∃ v p' s', spec_l01Place.f l p s n = some (v, p', s') ∧ Inside l p' := by
  obtain ⟨v, p', s', h, _, h2⟩ := l01Place_range l hl p s n hn hp
  exact ⟨v, p', s', h, h2⟩

/-! places -/

/-! in -/
theorem spec_in_eq (a b c : Int) : spec_l01In.f a b c = some (decide (b ≤ a ∧ a ≤ c)) := by
  unfold spec_l01In.f
  by_cases h : a ≥ b <;> by_cases h2 : a ≤ c <;> simp [h, h2] <;> omega
theorem impl_in_eq (a b c : Int) : impl_in.f a b c = some (decide (b ≤ a ∧ a ≤ c)) := by
  unfold impl_in.f
  by_cases h : a ≥ b <;> by_cases h2 : a ≤ c <;> simp [h, h2] <;> omega

/-! disk -/
def W2 (x : S63) : Wr := (x.f0, x.f1)
theorem rdOf_nat {α : Type} (d : α) (l : List α) (i : Nat) : rdOf d l (i : Int) = l.getD i d := by unfold rdOf; rw [Int.toNat_natCast]
theorem getD_drop {α : Type} (d : α) (l : List α) (i : Nat) (h : i < l.length) : l.drop i = l.getD i d :: l.drop (i + 1) := by
  rw [List.drop_eq_getElem_cons h, List.getD_eq_getElem?_getD, List.getElem?_eq_getElem h]
  rfl
theorem set_mid {α : Type} (l r : List α) (x v : α) (i : Nat) (h : l.length = i) : (l ++ x :: r).set i v = l ++ v :: r := by
  rw [List.set_append_right _ _ (by omega), h, Nat.sub_self]
  rfl

/-! diskok -/
def sOk (s : ByteArray) : Bool := decide (s.size = 32)
def wOk (n : Nat) (w : S63) : Bool := decide (0 ≤ w.f0 ∧ w.f0 ≤ (n : Int) - 1) && decide (w.f1.size = 32)
/-- What a right disk is. -/
def diskOkM (l0 : List ByteArray) (l1 : List S63) : Bool := decide ((1 ≤ l0.length ∧ l0.length ≤ 100) ∧ l1.length ≤ 60) && (l0.all sOk && l1.all (wOk l0.length))
theorem rd_W (l : List S63) (i : Nat) : rd_T63 l (i : Int) = l.getD i z63 := by unfold rd_T63; rw [Int.toNat_natCast]
theorem l01In_dec (a b c : Int) : spec_l01In.f a b c = some (decide (b ≤ a ∧ a ≤ c)) := by
  unfold spec_l01In.f
  by_cases h : a ≥ b
  · rw [if_pos h]; congr 1; apply Bool.eq_iff_iff.2; simp; omega
  · rw [if_neg h]; congr 1; apply Bool.eq_iff_iff.2; simp; omega
theorem diskOk_l1 (l0 : List ByteArray) (l1 : List S63) (h0 : l0.length ≤ 100) (h1 : l1.length ≤ 60) (d : Nat) : ∀ i : Nat, l1.length - i = d → i ≤ l1.length → Ev (fun k => spec_DiskOk.l1 k (i : Int) l0 l1) ((l1.drop i).all (wOk l0.length)) := by
  induction d with
  | zero =>
    intro i hd hi
    refine ev_succ ?_
    simp only [spec_DiskOk.l1, if_neg (show ¬ (i : Int) < (l1.length : Int) from by omega)]
    rw [List.drop_eq_nil_of_le (by omega)]
    exact ev_some rfl
  | succ d ih =>
    intro i hd hi
    have hlt : i < l1.length := by omega
    refine ev_succ ?_
    have g1 : (i : Int) < (l1.length : Int) := by omega
    have g2 : (0 : Int) ≤ (i : Int) := by omega
    have e1 := w64 (x := (l0.length : Int) - 1) (by omega) (by omega)
    simp only [spec_DiskOk.l1, if_pos g1, if_pos g2, rd_W, l01In_dec, e1, Option.bind_some, wn i hlt (show l1.length ≤ 140737488355328 by omega)]
    rw [getD_drop z63 l1 i hlt, List.all_cons]
    have hw : wOk l0.length (l1.getD i z63) = (decide (0 ≤ (l1.getD i z63).f0 ∧ (l1.getD i z63).f0 ≤ (l0.length : Int) - 1) && decide ((l1.getD i z63).f1.size = 32)) := rfl
    by_cases c1 : 0 ≤ (l1.getD i z63).f0 ∧ (l1.getD i z63).f0 ≤ (l0.length : Int) - 1
    · rw [decide_eq_true c1] at hw
      simp only [decide_eq_true c1, if_true]
      by_cases c2 : (l1.getD i z63).f1.size = 32
      · rw [decide_eq_true c2] at hw
        simp only [if_pos (show ((l1.getD i z63).f1.size : Int) = 32 by omega)]
        rw [hw]
        simpa using ih (i + 1) (by omega) (by omega)
      · rw [decide_eq_false c2] at hw
        simp only [if_neg (show ¬ ((l1.getD i z63).f1.size : Int) = 32 by omega)]
        rw [hw]
        exact ev_some rfl
    · rw [decide_eq_false c1] at hw
      simp only [decide_eq_false c1, Bool.false_eq_true, if_false]
      rw [hw]
      exact ev_some rfl
theorem diskOk_l0 (l0 : List ByteArray) (l1 : List S63) (h0 : l0.length ≤ 100) (h1 : l1.length ≤ 60) (d : Nat) : ∀ i : Nat, l0.length - i = d → i ≤ l0.length → Ev (fun k => spec_DiskOk.l0 k (i : Int) l0 l1) ((l0.drop i).all sOk && l1.all (wOk l0.length)) := by
  induction d with
  | zero =>
    intro i hd hi
    refine ev_succ ?_
    simp only [spec_DiskOk.l0, if_neg (show ¬ (i : Int) < (l0.length : Int) from by omega)]
    rw [List.drop_eq_nil_of_le (by omega)]
    simpa using diskOk_l1 l0 l1 h0 h1 _ 0 rfl (by omega)
  | succ d ih =>
    intro i hd hi
    have hlt : i < l0.length := by omega
    refine ev_succ ?_
    have g1 : (i : Int) < (l0.length : Int) := by omega
    have g2 : (0 : Int) ≤ (i : Int) := by omega
    simp only [spec_DiskOk.l0, if_pos g1, if_pos g2, rdOf_nat, wn i hlt (show l0.length ≤ 140737488355328 by omega)]
    rw [getD_drop ByteArray.empty l0 i hlt, List.all_cons]
    have hw : sOk (l0.getD i ByteArray.empty) = decide ((l0.getD i ByteArray.empty).size = 32) := rfl
    by_cases c2 : (l0.getD i ByteArray.empty).size = 32
    · rw [decide_eq_true c2] at hw
      simp only [if_pos (show ((l0.getD i ByteArray.empty).size : Int) = 32 by omega)]
      rw [hw]
      simpa using ih (i + 1) (by omega) (by omega)
    · rw [decide_eq_false c2] at hw
      simp only [if_neg (show ¬ ((l0.getD i ByteArray.empty).size : Int) = 32 by omega)]
      rw [hw]
      exact ev_some rfl
theorem spec_DiskOk_ev (l0 : List ByteArray) (l1 : List S63) : Ev (fun k => spec_DiskOk.f k l0 l1) (diskOkM l0 l1) := by
  unfold spec_DiskOk.f diskOkM
  simp only [l01In_dec, Option.bind_some]
  by_cases c1 : 1 ≤ l0.length ∧ l0.length ≤ 100
  · simp only [decide_eq_true (show 1 ≤ (l0.length : Int) ∧ (l0.length : Int) ≤ 100 by omega), if_true]
    by_cases c2 : l1.length ≤ 60
    · rw [decide_eq_true (show (1 ≤ l0.length ∧ l0.length ≤ 100) ∧ l1.length ≤ 60 from ⟨c1, c2⟩), Bool.true_and]
      refine ev_succ ?_
      simp only [spec_DiskOk.j0, decide_eq_false (show ¬ (l1.length : Int) > 60 by omega), Bool.false_eq_true, if_false]
      simpa using diskOk_l0 l0 l1 c1.2 c2 _ 0 rfl (by omega)
    · rw [decide_eq_false (show ¬ ((1 ≤ l0.length ∧ l0.length ≤ 100) ∧ l1.length ≤ 60) from fun h => c2 h.2), Bool.false_and]
      refine ev_succ ?_
      simp only [spec_DiskOk.j0, decide_eq_true (show (l1.length : Int) > 60 by omega), if_true]
      exact ev_some rfl
  · simp only [decide_eq_false (show ¬ (1 ≤ (l0.length : Int) ∧ (l0.length : Int) ≤ 100) by omega), Bool.false_eq_true, if_false]
    rw [decide_eq_false (show ¬ ((1 ≤ l0.length ∧ l0.length ≤ 100) ∧ l1.length ≤ 60) from fun h => c1 h.1), Bool.false_and]
    refine ev_succ ?_
    simp only [spec_DiskOk.j0, if_true]
    exact ev_some rfl
theorem strBad_not (s : ByteArray) : strBad s = !sOk s := by unfold strBad sOk; by_cases h : s.size = 32 <;> simp [h]
theorem wrBad_not (n : Nat) (w : S63) : wrBad n w = !wOk n w := by
  unfold wrBad wOk
  by_cases h : 0 ≤ w.f0 ∧ w.f0 ≤ (n : Int) - 1 <;> by_cases h2 : w.f1.size = 32 <;> simp [h, h2]
theorem any_not {α : Type} (l : List α) (p q : α → Bool) (h : ∀ x, p x = !q x) : (!l.any p) = l.all q := by
  induction l with
  | nil => rfl
  | cons x l ih => rw [List.any_cons, List.all_cons, Bool.not_or, ih, h x, Bool.not_not]
theorem impl_DiskOk_f (l0 : List ByteArray) (l1 : List S63) : impl_DiskOk.f l0 l1 = some (diskOkM l0 l1) := by
  unfold impl_DiskOk.f diskOkM
  rw [any_not l0 _ _ strBad_not, any_not l1 _ _ (wrBad_not l0.length)]

/-! clone -/
theorem spec_l03Copy_f (l0 : List ByteArray) (l1 : List S63) (h0 : l0.length ≤ 1048576) (h1 : l1.length ≤ 1048576) : spec_l03Copy.f l0 l1 = some (l0, l1) := by
  unfold spec_l03Copy.f
  simp only [Option.bind_some, List.length_nil, Nat.zero_add, if_pos (show l0.length < 8796093022208 by omega), if_pos (show l1.length < 5864062014805 by omega), List.nil_append]
theorem impl_cloneDisk_f (l0 : List ByteArray) (l1 : List S63) (h0 : l0.length ≤ 1048576) (h1 : l1.length ≤ 1048576) : impl_cloneDisk.f l0 l1 = some (l0, l1) := by
  unfold impl_cloneDisk.f slices_Clone_string_string.f impl_Write_75.f
  simp only [Option.bind_some, List.length_nil, Nat.zero_add, if_pos (show l0.length < 8796093022208 by omega), if_pos (show l1.length < 5864062014805 by omega), List.nil_append]

/-! flushdisk -/
def putW (ss : List ByteArray) (w : S63) : List ByteArray := ss.set w.f0.toNat w.f1
theorem putW_length (ss : List ByteArray) (w : S63) : (putW ss w).length = ss.length := List.length_set
theorem foldW_length (c : List S63) : ∀ ss : List ByteArray, (c.foldl putW ss).length = ss.length := by
  induction c with
  | nil => intro ss; rfl
  | cons w c ih => intro ss; rw [List.foldl_cons, ih, putW_length]
def flushM (l0 : List ByteArray) (l1 : List S63) : List ByteArray × List S63 := if diskOkM l0 l1 = true then (l1.foldl putW l0, []) else (l0, l1)
theorem flushM_length (l0 : List ByteArray) (l1 : List S63) : (flushM l0 l1).1.length = l0.length ∧ (flushM l0 l1).2.length ≤ l1.length := by
  unfold flushM
  split
  · exact ⟨foldW_length _ _, by simp⟩
  · exact ⟨rfl, Nat.le_refl _⟩
theorem diskOkM_parts (l0 : List ByteArray) (l1 : List S63) (h : diskOkM l0 l1 = true) : (1 ≤ l0.length ∧ l0.length ≤ 100) ∧ l1.length ≤ 60 ∧ (∀ s, s ∈ l0 → s.size = 32) ∧ ∀ w, w ∈ l1 → (0 ≤ w.f0 ∧ w.f0 ≤ (l0.length : Int) - 1) ∧ w.f1.size = 32 := by
  unfold diskOkM at h
  simp only [Bool.and_eq_true, decide_eq_true_eq, List.all_eq_true, sOk, wOk] at h
  exact ⟨h.1.1, h.1.2, h.2.1, h.2.2⟩
def All32 (ss : List ByteArray) : Prop := ∀ s, s ∈ ss → s.size = 32
theorem all32_getD (ss : List ByteArray) (h : All32 ss) (i : Nat) (hi : i < ss.length) : (ss.getD i ByteArray.empty).size = 32 := by
  rw [List.getD_eq_getElem?_getD, List.getElem?_eq_getElem hi]
  exact h _ (List.getElem_mem hi)
theorem all32_set (ss : List ByteArray) (h : All32 ss) (i : Nat) (x : ByteArray) (hx : x.size = 32) : All32 (ss.set i x) := by
  intro s hs
  rcases List.mem_or_eq_of_mem_set hs with h1 | h1
  · exact h s h1
  · rw [h1]; exact hx
theorem spec_FlushDisk_l0 (l0 : List ByteArray) (l1 c1 : List S63) (n : Nat) (hl : l1.length ≤ 60) (hw : ∀ w, w ∈ l1 → 0 ≤ w.f0 ∧ w.f0 ≤ (n : Int) - 1) (d : Nat) : ∀ (i : Nat) (cur : List ByteArray), cur.length = n → l1.length - i = d → i ≤ l1.length →
    Ev (fun k => spec_FlushDisk.l0 k (i : Int) l0 l1 cur c1) ((l1.drop i).foldl putW cur, []) := by
  induction d with
  | zero =>
    intro i cur hc hd hi
    refine ev_succ ?_
    simp only [spec_FlushDisk.l0, if_neg (show ¬ (i : Int) < (l1.length : Int) from by omega)]
    rw [List.drop_eq_nil_of_le (by omega)]
    exact ev_some rfl
  | succ d ih =>
    intro i cur hc hd hi
    have hlt : i < l1.length := by omega
    have hm : l1.getD i z63 ∈ l1 := by
      rw [List.getD_eq_getElem?_getD, List.getElem?_eq_getElem hlt]
      exact List.getElem_mem hlt
    have hb := hw _ hm
    refine ev_succ ?_
    have g1 : (i : Int) < (l1.length : Int) := by omega
    have g2 : (0 : Int) ≤ (i : Int) := by omega
    have g3 : (l1.getD i z63).f0 < (cur.length : Int) := by omega
    simp only [spec_FlushDisk.l0, if_pos g1, if_pos g2, rd_W, if_pos hb.1, if_pos g3, wn i hlt (show l1.length ≤ 140737488355328 by omega)]
    rw [getD_drop z63 l1 i hlt, List.foldl_cons]
    exact ih (i + 1) _ (by rw [List.length_set]; exact hc) (by omega) (by omega)
theorem spec_FlushDisk_ev (l0 : List ByteArray) (l1 : List S63) (h0 : l0.length ≤ 1048576) (h1 : l1.length ≤ 1048576) : Ev (fun k => spec_FlushDisk.f k l0 l1) (flushM l0 l1) := by
  unfold spec_FlushDisk.f flushM
  simp only [spec_l03Copy_f l0 l1 h0 h1, Option.bind_some]
  refine Ev.bind (spec_DiskOk_ev l0 l1) ?_
  refine ev_if (fun h => ?_) (fun h => ?_)
  · rw [if_pos h]
    obtain ⟨p1, p2, p3, p4⟩ := diskOkM_parts l0 l1 h
    simpa using spec_FlushDisk_l0 l0 l1 l1 l0.length p2 (fun w hw => (p4 w hw).1) _ 0 l0 rfl rfl (by omega)
  · rw [if_neg h]; exact ev_some rfl
theorem impl_FlushDisk_l0 (l1 c1 : List S63) (n : Nat) (hl : l1.length ≤ 60) (hw : ∀ w, w ∈ l1 → 0 ≤ w.f0 ∧ w.f0 ≤ (n : Int) - 1) (d : Nat) : ∀ (i : Nat) (cur : List ByteArray), cur.length = n → l1.length - i = d → i ≤ l1.length →
    Ev (fun k => impl_FlushDisk.l0 k l1 (l1.length : Int) (i : Int) cur c1) ((l1.drop i).foldl putW cur, []) := by
  induction d with
  | zero =>
    intro i cur hc hd hi
    refine ev_succ ?_
    simp only [impl_FlushDisk.l0, if_neg (show ¬ (i : Int) < (l1.length : Int) from by omega)]
    rw [List.drop_eq_nil_of_le (by omega)]
    exact ev_some rfl
  | succ d ih =>
    intro i cur hc hd hi
    have hlt : i < l1.length := by omega
    have hm : l1.getD i z63 ∈ l1 := by
      rw [List.getD_eq_getElem?_getD, List.getElem?_eq_getElem hlt]
      exact List.getElem_mem hlt
    have hb := hw _ hm
    refine ev_succ ?_
    have g1 : (i : Int) < (l1.length : Int) := by omega
    have g2 : (0 : Int) ≤ (i : Int) := by omega
    have g3 : (l1.getD i z63).f0 < (cur.length : Int) := by omega
    simp only [impl_FlushDisk.l0, if_pos g1, if_pos g2, rd_W, if_pos hb.1, if_pos g3, wn i hlt (show l1.length ≤ 140737488355328 by omega)]
    rw [getD_drop z63 l1 i hlt, List.foldl_cons]
    exact ih (i + 1) _ (by rw [List.length_set]; exact hc) (by omega) (by omega)
theorem impl_FlushDisk_ev (l0 : List ByteArray) (l1 : List S63) (h0 : l0.length ≤ 1048576) (h1 : l1.length ≤ 1048576) : Ev (fun k => impl_FlushDisk.f k l0 l1) (flushM l0 l1) := by
  unfold impl_FlushDisk.f flushM
  simp only [impl_cloneDisk_f l0 l1 h0 h1, impl_DiskOk_f, Option.bind_some]
  refine ev_if (fun h => ?_) (fun h => ?_)
  · rw [if_pos h]
    obtain ⟨p1, p2, p3, p4⟩ := diskOkM_parts l0 l1 h
    simpa using impl_FlushDisk_l0 l1 l1 l0.length p2 (fun w hw => (p4 w hw).1) _ 0 l0 rfl rfl (by omega)
  · rw [if_neg h]; exact ev_some rfl

/-! writesector -/
def writeSectorM (l0 : List ByteArray) (l1 : List S63) (a : Int) (s : ByteArray) : List ByteArray × List S63 × Bool :=
  if diskOkM l0 l1 = true ∧ (0 ≤ a ∧ a ≤ (l0.length : Int) - 1) ∧ s.size = 32 ∧ l1.length < 60 then (l0, l1 ++ [⟨a, s⟩], true) else (l0, l1, false)
theorem spec_WriteSector_ev (l0 : List ByteArray) (l1 : List S63) (h0 : l0.length ≤ 1048576) (h1 : l1.length ≤ 1048576) (a : Int) (s : ByteArray) : Ev (fun k => spec_WriteSector.f k l0 l1 a s) (writeSectorM l0 l1 a s) := by
  unfold spec_WriteSector.f writeSectorM
  simp only [spec_l03Copy_f l0 l1 h0 h1, Option.bind_some]
  refine Ev.bind (spec_DiskOk_ev l0 l1) ?_
  simp only [l01In_dec, Option.bind_some]
  have e := w64 (x := (l0.length : Int) - 1) (by omega) (by omega)
  simp only [e]
  clear e
  by_cases c1 : diskOkM l0 l1 = true
  · simp only [c1, if_true, true_and]
    by_cases c2 : 0 ≤ a ∧ a ≤ (l0.length : Int) - 1
    · simp only [decide_eq_true c2, if_true, if_pos c2]
      by_cases c3 : s.size = 32
      · simp only [if_pos (show (s.size : Int) = 32 by omega)]
        by_cases c4 : l1.length < 60
        · simp only [if_neg (show ¬ (l1.length : Int) ≥ 60 by omega), if_pos (show l1.length < 5864062014805 by omega)]
          exact ev_some (by rw [if_pos ⟨c2, c3, c4⟩])
        · simp only [if_pos (show (l1.length : Int) ≥ 60 by omega)]
          exact ev_some (by rw [if_neg (fun h => c4 h.2.2)])
      · simp only [if_neg (show ¬ (s.size : Int) = 32 by omega)]
        exact ev_some (by rw [if_neg (fun h => c3 h.2.1)])
    · simp only [decide_eq_false c2, Bool.false_eq_true, if_false]
      exact ev_some (by rw [if_neg (fun h => c2 h.1)])
  · simp only [if_neg c1]
    exact ev_some (by rw [if_neg (fun h => c1 h.1)])

/-! readsector -/
theorem impl_ReadSector_l0 (c : List S63) (hc : c.length ≤ 1048576) (a : Int) (d : Nat) : ∀ (i : Nat) (acc : ByteArray), c.length - i = d → i ≤ c.length →
    Ev (fun k => impl_ReadSector.l0 k a acc c (c.length : Int) (i : Int)) (wrLast a ((c.drop i).map W2) acc, true) := by
  induction d with
  | zero =>
    intro i acc hd hi
    refine ev_succ ?_
    simp only [impl_ReadSector.l0, if_neg (show ¬ (i : Int) < (c.length : Int) from by omega)]
    rw [List.drop_eq_nil_of_le (by omega)]
    exact ev_some rfl
  | succ d ih =>
    intro i acc hd hi
    have hlt : i < c.length := by omega
    have hrd : rd_T63 c (i : Int) = c.getD i z63 := by unfold rd_T63; rw [Int.toNat_natCast]
    refine ev_succ ?_
    simp only [impl_ReadSector.l0, if_pos (show (i : Int) < (c.length : Int) from by omega), if_pos (show (0 : Int) ≤ (i : Int) from by omega), hrd, wn i hlt (show c.length ≤ 140737488355328 from Nat.le_trans hc (by decide))]
    rw [getD_drop z63 c i hlt, List.map_cons, wrLast_cons]
    refine ev_if (fun h => ?_) (fun h => ?_)
    · rw [if_pos (show (W2 (c.getD i z63)).1 = a from h)]
      exact ih (i + 1) _ (by omega) (by omega)
    · rw [if_neg (show ¬ (W2 (c.getD i z63)).1 = a from h)]
      exact ih (i + 1) _ (by omega) (by omega)
theorem impl_ReadSector_ev (ss : List ByteArray) (c : List S63) (hs : ss.length ≤ 1048576) (hc : c.length ≤ 1048576) (a : Int) : Ev (fun k => impl_ReadSector.f k ss c a) (readSectorM ss (c.map W2) a) := by
  unfold impl_ReadSector.f readSectorM
  rw [w64 (x := (ss.length : Int) - 1) (by omega) (by omega)]
  simp only [impl_in_eq, Option.bind_some]
  by_cases h : 0 ≤ a ∧ a ≤ (ss.length : Int) - 1
  · simp only [decide_eq_true h, if_true, if_pos h, if_pos h.1, if_pos (show a < (ss.length : Int) from by omega)]
    have := impl_ReadSector_l0 c hc a _ 0 (rdOf ByteArray.empty ss a) rfl (by omega)
    simpa [rdOf] using this
  · simp only [decide_eq_false h, Bool.false_eq_true, if_false, if_neg h]
    exact ev_some rfl
theorem spec_ReadSector_l0 (ss : List ByteArray) (c : List S63) (hc : c.length ≤ 1048576) (a : Int) (h0 : 0 ≤ a) (h1 : a < (ss.length : Int)) (n : Nat) : n ≤ c.length →
    Ev (fun k => spec_ReadSector.l0 k a ((n : Int) - 1) ss c) (wrLast a ((c.take n).map W2) (ss.getD a.toNat ByteArray.empty), true) := by
  induction n with
  | zero =>
    intro hn
    refine ev_succ ?_
    simp only [spec_ReadSector.l0, if_neg (show ¬ ((0 : Nat) : Int) - 1 ≥ 0 from by omega), if_pos h0, if_pos h1]
    exact ev_some (by simp [wrLast, rdOf])
  | succ n ih =>
    intro hn
    have hlt : n < c.length := by omega
    have e0 : ((n + 1 : Nat) : Int) - 1 = (n : Int) := by omega
    have hrd : rd_T63 c (n : Int) = c.getD n z63 := by unfold rd_T63; rw [Int.toNat_natCast]
    have e1 := w64 (x := (n : Int) - 1) (by omega) (by omega)
    refine ev_succ ?_
    simp only [spec_ReadSector.l0, e0, if_pos (show (n : Int) ≥ 0 from by omega), if_pos (show (0 : Int) ≤ (n : Int) from by omega), if_pos (show (n : Int) < (c.length : Int) from by omega), hrd, e1]
    rw [List.take_succ_eq_append_getElem hlt, List.map_append, List.map_cons, List.map_nil, wrLast_snoc]
    have e2 : c.getD n z63 = c[n] := by rw [List.getD_eq_getElem?_getD, List.getElem?_eq_getElem hlt]; rfl
    rw [e2]
    refine ev_if (fun h => ?_) (fun h => ?_)
    · rw [if_pos (show (W2 c[n]).1 = a from h)]
      exact ev_some rfl
    · rw [if_neg (show ¬ (W2 c[n]).1 = a from h)]
      exact ih (by omega)
theorem spec_ReadSector_ev (ss : List ByteArray) (c : List S63) (hs : ss.length ≤ 1048576) (hc : c.length ≤ 1048576) (a : Int) : Ev (fun k => spec_ReadSector.f k ss c a) (readSectorM ss (c.map W2) a) := by
  unfold spec_ReadSector.f readSectorM
  rw [w64 (x := (ss.length : Int) - 1) (by omega) (by omega), w64 (x := (c.length : Int) - 1) (by omega) (by omega)]
  simp only [spec_in_eq, Option.bind_some]
  by_cases h : 0 ≤ a ∧ a ≤ (ss.length : Int) - 1
  · simp only [decide_eq_true h, if_true, if_pos h]
    simpa using spec_ReadSector_l0 ss c hc a h.1 (by omega) c.length (Nat.le_refl _)
  · simp only [decide_eq_false h, Bool.false_eq_true, if_false, if_neg h]
    exact ev_some rfl

/-! drawdisk -/
theorem l03Zero_some : ∃ t : ByteArray, Ev (fun k => spec_l03Zero.f k) t ∧ t.size = 32 := by
  unfold spec_l03Zero.f spec_l01Long.f
  obtain ⟨t, h, hs⟩ := l01Long_l0 32 0 (by omega) 32 0 (List.replicate 32 0) (by omega) (by omega) (by simp)
  refine ⟨t, ?_, hs⟩
  simp only [if_pos (show (0 : Int) ≤ 32 by decide), if_pos (show (32 : Int).toNat ≤ 281474976710656 by decide)]
  exact Ev.bind h (ev_some rfl)
theorem diskNew_l0 (n : Nat) (hn : n ≤ 100) (d : Nat) : ∀ (i : Nat) (acc : List ByteArray), n - i = d → i ≤ n → acc.length = i → All32 acc → ∃ ss : List ByteArray, Ev (fun k => spec_DiskNew.l0 k (n : Int) (i : Int) acc) (ss, [], true) ∧ ss.length = n ∧ All32 ss := by
  obtain ⟨z, hz, hzs⟩ := l03Zero_some
  induction d with
  | zero =>
    intro i acc hd hi ha h32
    refine ⟨acc, ev_succ ?_, by omega, h32⟩
    simp only [spec_DiskNew.l0, if_neg (show ¬ (i : Int) < (n : Int) by omega)]
    exact ev_some rfl
  | succ d ih =>
    intro i acc hd hi ha h32
    obtain ⟨ss, h, hl, hs⟩ := ih (i + 1) (acc ++ [z]) (by omega) (by omega) (by simp; omega) (fun s hs => by
      rcases List.mem_append.1 hs with h | h
      · exact h32 s h
      · rw [List.mem_singleton.1 h]; exact hzs)
    refine ⟨ss, ev_succ ?_, hl, hs⟩
    simp only [spec_DiskNew.l0, if_pos (show (i : Int) < (n : Int) by omega), wn i (show i < n by omega) (by omega), if_pos (show acc.length < 8796093022208 by omega)]
    exact Ev.bind hz h
theorem spec_DiskNew_some (n : Int) (hn : 1 ≤ n ∧ n ≤ 100) : ∃ ss : List ByteArray, Ev (fun k => spec_DiskNew.f k n) (ss, [], true) ∧ (ss.length : Int) = n ∧ All32 ss := by
  obtain ⟨m, rfl⟩ := Int.eq_ofNat_of_zero_le (show 0 ≤ n by omega)
  obtain ⟨ss, h, hl, hs⟩ := diskNew_l0 m (by omega) m 0 [] (by omega) (by omega) rfl (fun s hs => by simp at hs)
  refine ⟨ss, ?_, by omega, hs⟩
  unfold spec_DiskNew.f
  simp only [l01In_dec, Option.bind_some, decide_eq_true hn, if_true]
  exact h
theorem diskOkM_of (l0 : List ByteArray) (l1 : List S63) (h1 : 1 ≤ l0.length ∧ l0.length ≤ 100) (h2 : l1.length ≤ 60) (h3 : All32 l0) (h4 : ∀ w, w ∈ l1 → (0 ≤ w.f0 ∧ w.f0 ≤ (l0.length : Int) - 1) ∧ w.f1.size = 32) : diskOkM l0 l1 = true := by
  unfold diskOkM
  simp only [Bool.and_eq_true, decide_eq_true_eq, List.all_eq_true, sOk, wOk]
  exact ⟨⟨h1, h2⟩, h3, h4⟩
/-- A right disk of n sectors with at most m writes that wait. -/
def RightD (n m : Nat) (l0 : List ByteArray) (l1 : List S63) : Prop := l0.length = n ∧ (1 ≤ n ∧ n ≤ 100) ∧ l1.length ≤ m ∧ All32 l0 ∧ ∀ w, w ∈ l1 → (0 ≤ w.f0 ∧ w.f0 ≤ (n : Int) - 1) ∧ w.f1.size = 32
theorem rightD_ok {n m : Nat} {l0 : List ByteArray} {l1 : List S63} (h : RightD n m l0 l1) (hm : m ≤ 60) : diskOkM l0 l1 = true := by
  obtain ⟨h1, h2, h3, h4, h5⟩ := h
  exact diskOkM_of l0 l1 (by omega) (by omega) h4 (by rw [h1]; exact h5)
theorem rightD_le {n m m' : Nat} {l0 : List ByteArray} {l1 : List S63} (h : RightD n m l0 l1) (hm : m ≤ m') : RightD n m' l0 l1 := ⟨h.1, h.2.1, Nat.le_trans h.2.2.1 hm, h.2.2.2⟩
theorem rightD_snoc {n m : Nat} {l0 : List ByteArray} {l1 : List S63} (h : RightD n m l0 l1) (a : Int) (s : ByteArray) (ha : 0 ≤ a ∧ a ≤ (n : Int) - 1) (hs : s.size = 32) : RightD n (m + 1) l0 (l1 ++ [⟨a, s⟩]) := by
  obtain ⟨h1, h2, h3, h4, h5⟩ := h
  refine ⟨h1, h2, by simp; omega, h4, fun w hw => ?_⟩
  rcases List.mem_append.1 hw with hw | hw
  · exact h5 w hw
  · rw [List.mem_singleton.1 hw]; exact ⟨ha, hs⟩
theorem wrLast_32 (a : Int) (c : List Wr) : ∀ (s : ByteArray), s.size = 32 → (∀ w, w ∈ c → w.2.size = 32) → (wrLast a c s).size = 32 := by
  induction c with
  | nil => intro s hs _; exact hs
  | cons w c ih =>
    intro s hs hc
    rw [wrLast_cons]
    refine ih _ ?_ (fun w hw => hc w (by simp [hw]))
    by_cases h : w.1 = a
    · rw [if_pos h]; exact hc w (by simp)
    · rw [if_neg h]; exact hs
theorem readSectorM_32 {n m : Nat} {l0 : List ByteArray} {l1 : List S63} (h : RightD n m l0 l1) (a : Int) (ha : 0 ≤ a ∧ a ≤ (n : Int) - 1) : (readSectorM l0 (l1.map W2) a).2 = true ∧ (readSectorM l0 (l1.map W2) a).1.size = 32 := by
  obtain ⟨h1, h2, h3, h4, h5⟩ := h
  unfold readSectorM
  rw [if_pos (by omega)]
  refine ⟨rfl, wrLast_32 _ _ _ (all32_getD l0 h4 _ (by omega)) (fun w hw => ?_)⟩
  obtain ⟨w', hw', rfl⟩ := List.mem_map.1 hw
  exact (h5 w' hw').2
theorem flush_right {n m : Nat} {l0 : List ByteArray} {l1 : List S63} (h : RightD n m l0 l1) (hm : m ≤ 60) : RightD n 0 (flushM l0 l1).1 (flushM l0 l1).2 := by
  have ho := rightD_ok h hm
  obtain ⟨h1, h2, h3, h4, h5⟩ := h
  unfold flushM
  rw [if_pos ho]
  refine ⟨by rw [foldW_length]; exact h1, h2, by simp, ?_, fun w hw => by simp at hw⟩
  have : ∀ (c : List S63) (ss : List ByteArray), All32 ss → (∀ w, w ∈ c → w.f1.size = 32) → All32 (c.foldl putW ss) := by
    intro c
    induction c with
    | nil => intro ss hs _; exact hs
    | cons w c ih =>
      intro ss hs hc
      exact ih _ (all32_set ss hs _ _ (hc w (by simp))) (fun w hw => hc w (by simp [hw]))
  exact this l1 l0 h4 (fun w hw => (h5 w hw).2)
theorem writeBytes_l0 (l0 : List ByteArray) (l1 : List S63) (n m M : Nat) (h : RightD n m l0 l1) (hmM : m ≤ M) (hM : M ≤ 60) (a b : Nat) (ha : a ≤ 100000) (hb : b ≤ 100000) (t : ByteArray) (ht : t.size ≤ 100000) (d : Nat) :
    ∀ (i q : Nat) (c0 : List ByteArray) (c1 : List S63), t.size - i = d → i ≤ t.size → RightD n q c0 c1 → q ≤ M → (i < t.size → q + ((b + t.size + 31) / 32 - (b + i) / 32) ≤ M) →
    ∃ r0 r1 ok, Ev (fun k => spec_WriteBytes.l0 k (a : Int) (b : Int) t (i : Int) l0 l1 c0 c1) (r0, r1, ok) ∧ RightD n M r0 r1 := by
  have hcopy : spec_l03Copy.f l0 l1 = some (l0, l1) := spec_l03Copy_f l0 l1 (by have := h.1; have := h.2.1; omega) (by have := h.2.2.1; omega)
  induction d using Nat.strongRecOn with
  | _ d ih =>
    intro i q c0 c1 hd hi hc hq hB
    by_cases hlt : i < t.size
    · obtain ⟨p, hp⟩ : ∃ p : Nat, b + i = p := ⟨_, rfl⟩
      have eP : Aside0 (wrap64 ((b : Int) + (i : Int)) = ((p : Nat) : Int)) := ⟨by rw [w64 (by omega) (by omega)]; omega⟩
      have eD : Aside0 (wrap64 (Int.tdiv (p : Int) 32) = ((p / 32 : Nat) : Int)) := ⟨by rw [Int.tdiv_eq_ediv_of_nonneg (by omega), w64 (by omega) (by omega)]; omega⟩
      have eM : Aside0 (Int.tmod (p : Int) 32 = ((p % 32 : Nat) : Int)) := ⟨by rw [Int.tmod_eq_emod_of_nonneg (by omega)]; omega⟩
      have e1 : Aside0 (wrap64 (32 - ((p % 32 : Nat) : Int)) = ((32 - p % 32 : Nat) : Int)) := ⟨by rw [w64 (by omega) (by omega)]; omega⟩
      have e2 : Aside0 (wrap64 ((t.size : Int) - (i : Int)) = ((t.size - i : Nat) : Int)) := ⟨by rw [w64 (by omega) (by omega)]; omega⟩
      have e3 : Aside0 (wrap64 ((a : Int) + ((p / 32 : Nat) : Int)) = ((a + p / 32 : Nat) : Int)) := ⟨by rw [w64 (by omega) (by omega)]; omega⟩
      have key : ∀ x : Nat, (1 ≤ x ∧ x ≤ 32 - p % 32 ∧ i + x ≤ t.size) → (x = 32 - p % 32 ∨ i + x = t.size) → ∃ r0 r1 ok, Ev (fun k => spec_WriteBytes.j2 k (a : Int) (b : Int) t (i : Int) ((a + p / 32 : Nat) : Int) ((p % 32 : Nat) : Int) (x : Int) l0 l1 c0 c1) (r0, r1, ok) ∧ RightD n M r0 r1 := by
        intro x hx hx2
        have hread := spec_ReadSector_ev c0 c1 (by have := hc.1; have := hc.2.1; omega) (by have := hc.2.2.1; omega) ((a + p / 32 : Nat) : Int)
        have hbad : ∀ s : ByteArray, ∃ r0 r1 ok, Ev (fun k => spec_WriteBytes.j3 k (a : Int) (b : Int) t (i : Int) ((a + p / 32 : Nat) : Int) ((p % 32 : Nat) : Int) (x : Int) s true l0 l1 c0 c1) (r0, r1, ok) ∧ RightD n M r0 r1 := by
          intro s
          refine ⟨l0, l1, false, ev_succ ?_, rightD_le h hmM⟩
          simp only [spec_WriteBytes.j3, if_true, hcopy, Option.bind_some]
          exact ev_some rfl
        by_cases hr : ((a + p / 32 : Nat) : Int) ≤ (n : Int) - 1
        · obtain ⟨ok1, hs⟩ := readSectorM_32 hc ((a + p / 32 : Nat) : Int) ⟨by omega, hr⟩
          obtain ⟨s, hsv⟩ : ∃ s, (readSectorM c0 (c1.map W2) ((a + p / 32 : Nat) : Int)).1 = s := ⟨_, rfl⟩
          rw [hsv] at hs
          have hnew : ((s.extract 0 (p % 32) ++ t.extract i (i + x)) ++ s.extract (p % 32 + x) s.size).size = 32 := by
            rw [size_append, size_append, size_extract, size_extract, size_extract]; omega
          have hws := spec_WriteSector_ev c0 c1 (by have := hc.1; have := hc.2.1; omega) (by have := hc.2.2.1; omega) ((a + p / 32 : Nat) : Int) ((s.extract 0 (p % 32) ++ t.extract i (i + x)) ++ s.extract (p % 32 + x) s.size)
          have hB' := hB hlt
          have hq1 : q + 1 ≤ M := by omega
          have hwm : writeSectorM c0 c1 ((a + p / 32 : Nat) : Int) ((s.extract 0 (p % 32) ++ t.extract i (i + x)) ++ s.extract (p % 32 + x) s.size) = (c0, c1 ++ [⟨((a + p / 32 : Nat) : Int), (s.extract 0 (p % 32) ++ t.extract i (i + x)) ++ s.extract (p % 32 + x) s.size⟩], true) := by
            unfold writeSectorM
            rw [if_pos ⟨rightD_ok hc (by omega), ⟨by omega, by rw [hc.1]; exact hr⟩, hnew, by have := hc.2.2.1; omega⟩]
          rw [hwm] at hws
          obtain ⟨r0, r1, ok, hr0, hr1⟩ := ih (t.size - (i + x)) (by omega) (i + x) (q + 1) c0 _ rfl (by omega) (rightD_snoc hc ((a + p / 32 : Nat) : Int) _ ⟨by omega, hr⟩ hnew) hq1 (fun hlt2 => by omega)
          refine ⟨r0, r1, ok, ev_succ ?_, hr1⟩
          simp only [spec_WriteBytes.j2]
          refine Ev.bind hread ?_
          simp only [ok1, if_true, hsv]
          have e5 : ((s.size : Int) != 32) = false := by rw [hs]; rfl
          rw [e5]
          clear e5
          refine ev_succ ?_
          have e4 : Aside0 (wrap64 ((i : Int) + (x : Int)) = ((i + x : Nat) : Int)) := ⟨by rw [w64 (by omega) (by omega)]; omega⟩
          have e6 : Aside0 (wrap64 (((p % 32 : Nat) : Int) + (x : Int)) = ((p % 32 + x : Nat) : Int)) := ⟨by rw [w64 (by omega) (by omega)]; omega⟩
          have k1 : (s.extract 0 (p % 32)).size + (t.extract i (i + x)).size ≤ 9223372036854775807 := by rw [size_append, size_append] at hnew; omega
          have k2 : (s.extract 0 (p % 32)).size + (t.extract i (i + x)).size + (s.extract (p % 32 + x) s.size).size ≤ 9223372036854775807 := by rw [size_append, size_append] at hnew; omega
          have g1 : (0 : Int) ≤ ((p % 32 : Nat) : Int) := by omega
          have g2 : ((p % 32 : Nat) : Int) ≤ (s.size : Int) := by omega
          have g3 : (0 : Int) ≤ (i : Int) := by omega
          have g4 : (i : Int) ≤ ((i + x : Nat) : Int) := by omega
          have g5 : ((i + x : Nat) : Int) ≤ (t.size : Int) := by omega
          have g6 : (0 : Int) ≤ ((p % 32 + x : Nat) : Int) := by omega
          have g7 : ((p % 32 + x : Nat) : Int) ≤ (s.size : Int) := by omega
          simp only [spec_WriteBytes.j3, Bool.false_eq_true, if_false, e4.out, e6.out, if_pos g1, if_pos g2, if_pos g3, if_pos g4, if_pos g5, if_pos g6, if_pos g7, Int.toNat_natCast, if_pos k1, if_pos k2]
          refine Ev.bind hws ?_
          simp only [if_true]
          exact hr0
        · obtain ⟨r0, r1, ok, hr0, hr1⟩ := hbad (⟨#[]⟩ : ByteArray)
          refine ⟨r0, r1, ok, ev_succ ?_, hr1⟩
          have hno : readSectorM c0 (c1.map W2) ((a + p / 32 : Nat) : Int) = ((⟨#[]⟩ : ByteArray), false) := by
            unfold readSectorM
            rw [if_neg (by rw [hc.1]; omega)]
          rw [hno] at hread
          simp only [spec_WriteBytes.j2]
          refine Ev.bind hread ?_
          simp only [Bool.false_eq_true, if_false]
          exact hr0
      by_cases hx : 32 - p % 32 > t.size - i
      · obtain ⟨r0, r1, ok, hr0, hr1⟩ := key (t.size - i) (by omega) (by omega)
        refine ⟨r0, r1, ok, ev_succ ?_, hr1⟩
        simp only [spec_WriteBytes.l0, if_pos (show (i : Int) < (t.size : Int) by omega), eP.out, eD.out, eM.out, e1.out, e2.out, e3.out, if_pos (show ((32 - p % 32 : Nat) : Int) > ((t.size - i : Nat) : Int) by omega)]
        exact hr0
      · obtain ⟨r0, r1, ok, hr0, hr1⟩ := key (32 - p % 32) (by omega) (by omega)
        refine ⟨r0, r1, ok, ev_succ ?_, hr1⟩
        simp only [spec_WriteBytes.l0, if_pos (show (i : Int) < (t.size : Int) by omega), eP.out, eD.out, eM.out, e1.out, e2.out, e3.out, if_neg (show ¬ ((32 - p % 32 : Nat) : Int) > ((t.size - i : Nat) : Int) by omega)]
        exact hr0
    · refine ⟨c0, c1, true, ev_succ ?_, rightD_le hc hq⟩
      simp only [spec_WriteBytes.l0, if_neg (show ¬ (i : Int) < (t.size : Int) by omega)]
      exact ev_some rfl
theorem spec_WriteBytes_some (l0 : List ByteArray) (l1 : List S63) (n m : Nat) (h : RightD n m l0 l1) (hm : m + 3 ≤ 60) (a b : Nat) (ha : a ≤ 100000) (hb : b ≤ 3000) (t : ByteArray) (ht : t.size ≤ 60) :
    ∃ r0 r1 ok, Ev (fun k => spec_WriteBytes.f k l0 l1 (a : Int) (b : Int) t) (r0, r1, ok) ∧ RightD n (m + 3) r0 r1 := by
  have hcopy : spec_l03Copy.f l0 l1 = some (l0, l1) := spec_l03Copy_f l0 l1 (by have := h.1; have := h.2.1; omega) (by have := h.2.2.1; omega)
  have hno : ∃ r0 r1 ok, Ev (fun k => spec_WriteBytes.j0 k (a : Int) (b : Int) t true l0 l1 l0 l1) (r0, r1, ok) ∧ RightD n (m + 3) r0 r1 := by
    refine ⟨l0, l1, false, ev_succ ?_, rightD_le h (by omega)⟩
    simp only [spec_WriteBytes.j0, if_true]
    exact ev_some rfl
  unfold spec_WriteBytes.f
  simp only [hcopy, Option.bind_some, l01In_dec, decide_eq_true (show (0 : Int) ≤ (b : Int) ∧ (b : Int) ≤ 3200 by omega), if_true]
  by_cases c1 : 0 ≤ (a : Int) ∧ (a : Int) ≤ wrap64 ((l0.length : Int) - 1)
  · simp only [decide_eq_true c1, if_true]
    obtain ⟨r0, r1, ok, hr0, hr1⟩ := writeBytes_l0 l0 l1 n m (m + 3) h (by omega) hm a b ha (by omega) t (by omega) t.size 0 m l0 l1 (by omega) (by omega) h (by omega) (fun _ => by omega)
    refine ⟨r0, r1, ok, ?_, hr1⟩
    refine Ev.bind (spec_DiskOk_ev l0 l1) ?_
    rw [rightD_ok h (by omega)]
    refine ev_succ ?_
    simp only [spec_WriteBytes.j0, Bool.not_true, Bool.false_eq_true, if_false]
    exact hr0
  · simp only [decide_eq_false c1, Bool.false_eq_true, if_false]
    exact hno
theorem l03Disk_l0 (l : List Int) (hl : l.length ≤ 1048576) (n : Nat) (d : Nat) : ∀ (i m : Nat) (p s : Int) (c0 : List ByteArray) (c1 : List S63), 9 - i = d → i ≤ 9 → m ≤ 3 * i → Inside l p → RightD n m c0 c1 →
    ∃ r0 r1 p' s', Ev (fun k => spec_l03Disk.l0 k (i : Int) l p s c0 c1) (r0, r1, p', s') ∧ RightD n 27 r0 r1 ∧ Inside l p' := by
  induction d with
  | zero =>
    intro i m p s c0 c1 hd hi hm hp hc
    obtain ⟨b, p', s', e, hb, hp'⟩ := l01Below_some l hl p s 9 hp
    refine ⟨c0, c1, p', s', ev_succ ?_, rightD_le hc (by omega), hp'⟩
    have := hb.2 (by omega)
    simp only [spec_l03Disk.l0, e, Option.bind_some, if_neg (show ¬ (i : Int) < b by omega)]
    exact ev_some rfl
  | succ d ih =>
    intro i m p s c0 c1 hd hi hm hp hc
    obtain ⟨b, p1, s1, e, hb, hp1⟩ := l01Below_some l hl p s 9 hp
    by_cases h : (i : Int) < b
    · obtain ⟨x1, p2, s2, e2, hx1, hp2⟩ := l01Below_some l hl p1 s1 (c0.length : Int) hp1
      obtain ⟨x2, p3, s3, e3, hx2, hp3⟩ := l01Below_some l hl p2 s2 40 hp2
      obtain ⟨x3, p4, s4, e4, hx3, hp4⟩ := l01Below_some l hl p3 s3 50 hp3
      have b1 := hx1.2 (by have := hc.1; have := hc.2.1; omega)
      have b2 := hx2.2 (by omega)
      have b3 := hx3.2 (by omega)
      obtain ⟨t, p5, s5, ht, hts, hp5⟩ := l01Text_some l hl p4 s4 x3 (by omega) hp4
      obtain ⟨a, rfl⟩ := Int.eq_ofNat_of_zero_le hx1.1
      obtain ⟨bb, rfl⟩ := Int.eq_ofNat_of_zero_le hx2.1
      obtain ⟨r0, r1, ok, hw, hrd⟩ := spec_WriteBytes_some c0 c1 n m hc (by omega) a bb (by have := hc.1; have := hc.2.1; omega) (by omega) t (by omega)
      obtain ⟨o, p6, s6, e6, hp6⟩ := l01Once_some l hl p5 s5 4 hp5
      cases o with
      | true =>
        have hf := flush_right hrd (by omega)
        obtain ⟨q0, q1, p', s', hgo, hq, hp'⟩ := ih (i + 1) 0 p6 s6 _ _ (by omega) (by omega) (by omega) hp6 hf
        refine ⟨q0, q1, p', s', ev_succ ?_, hq, hp'⟩
        simp only [spec_l03Disk.l0, e, Option.bind_some, if_pos h, e2, e3, e4]
        refine Ev.bind ht ?_
        refine Ev.bind hw ?_
        simp only [e6, Option.bind_some, if_true]
        refine Ev.bind (spec_FlushDisk_ev r0 r1 (by have := hrd.1; have := hrd.2.1; omega) (by have := hrd.2.2.1; omega)) ?_
        simp only [wn i (show i < 9 by omega) (by omega)]
        exact hgo
      | false =>
        obtain ⟨q0, q1, p', s', hgo, hq, hp'⟩ := ih (i + 1) (m + 3) p6 s6 r0 r1 (by omega) (by omega) (by omega) hp6 hrd
        refine ⟨q0, q1, p', s', ev_succ ?_, hq, hp'⟩
        simp only [spec_l03Disk.l0, e, Option.bind_some, if_pos h, e2, e3, e4]
        refine Ev.bind ht ?_
        refine Ev.bind hw ?_
        simp only [e6, Option.bind_some, Bool.false_eq_true, if_false, wn i (show i < 9 by omega) (by omega)]
        exact hgo
    · refine ⟨c0, c1, p1, s1, ev_succ ?_, rightD_le hc (by omega), hp1⟩
      simp only [spec_l03Disk.l0, e, Option.bind_some, if_neg h]
      exact ev_some rfl
theorem l03Disk_some (l : List Int) (hl : l.length ≤ 1048576) (p s : Int) (hp : Inside l p) : ∃ n r0 r1 p' s', Ev (fun k => spec_l03Disk.f k l p s) (r0, r1, p', s') ∧ RightD n 27 r0 r1 ∧ Inside l p' := by
  unfold spec_l03Disk.f
  obtain ⟨b, p1, s1, e, hb, hp1⟩ := l01Below_some l hl p s 6 hp
  have := hb.2 (by omega)
  have ew := w64 (x := 1 + b) (by omega) (by omega)
  simp only [e, Option.bind_some, ew]
  clear ew
  obtain ⟨ss, hss, hlen, h32⟩ := spec_DiskNew_some (1 + b) (by omega)
  obtain ⟨r0, r1, p', s', hgo, hr, hp'⟩ := l03Disk_l0 l hl ss.length 9 0 0 p1 s1 ss [] (by omega) (by omega) (by omega) hp1 ⟨rfl, by omega, by simp, h32, fun w hw => by simp at hw⟩
  refine ⟨ss.length, r0, r1, p', s', ?_, hr, hp'⟩
  exact Ev.bind hss hgo
theorem getD_set_eq (ss : List ByteArray) (i : Nat) (x : ByteArray) (h : i < ss.length) : (ss.set i x).getD i ByteArray.empty = x := by
  rw [List.getD_eq_getElem?_getD, List.getElem?_set_self h]; rfl
theorem getD_set_ne (ss : List ByteArray) (i j : Nat) (x : ByteArray) (h : i ≠ j) : (ss.set i x).getD j ByteArray.empty = ss.getD j ByteArray.empty := by
  rw [List.getD_eq_getElem?_getD, List.getD_eq_getElem?_getD, List.getElem?_set_ne h]
theorem foldW_getD (c : List S63) (i : Nat) : ∀ ss : List ByteArray, i < ss.length → (∀ w, w ∈ c → 0 ≤ w.f0) → (c.foldl putW ss).getD i ByteArray.empty = wrLast (i : Int) (c.map W2) (ss.getD i ByteArray.empty) := by
  induction c with
  | nil => intro ss _ _; rfl
  | cons w c ih =>
    intro ss hi hc
    have h0 := hc w (by simp)
    rw [List.foldl_cons, ih _ (by rw [putW_length]; exact hi) (fun w hw => hc w (by simp [hw])), List.map_cons, wrLast_cons]
    congr 1
    unfold putW W2
    by_cases h : w.f0 = (i : Int)
    · rw [if_pos h, show w.f0.toNat = i by omega, getD_set_eq ss i _ hi]
    · rw [if_neg h, getD_set_ne ss _ _ _ (by omega)]
theorem readSectorM_nil (ss : List ByteArray) (i : Nat) (h : i < ss.length) : readSectorM ss [] (i : Int) = (ss.getD i ByteArray.empty, true) := by
  unfold readSectorM
  rw [if_pos (by omega), Int.toNat_natCast]
  rfl
theorem readSectorM_at (ss : List ByteArray) (c : List Wr) (i : Nat) (h : i < ss.length) : readSectorM ss c (i : Int) = (wrLast (i : Int) c (ss.getD i ByteArray.empty), true) := by
  unfold readSectorM
  rw [if_pos (by omega), Int.toNat_natCast]

/-! drawany -/
/-- Any disk that is drawn: not too many sectors and writes, none too long. -/
def AnyD (r0 : List ByteArray) (r1 : List S63) : Prop := r0.length ≤ 100 ∧ r1.length ≤ 61 ∧ (∀ s, s ∈ r0 → s.size ≤ 33) ∧ ∀ w, w ∈ r1 → w.f1.size ≤ 33
theorem rightD_any {n m : Nat} {r0 : List ByteArray} {r1 : List S63} (h : RightD n m r0 r1) (hm : m ≤ 60) : AnyD r0 r1 := by
  obtain ⟨h1, h2, h3, h4, h5⟩ := h
  exact ⟨by omega, by omega, fun s hs => by rw [h4 s hs]; omega, fun w hw => by rw [(h5 w hw).2]; omega⟩
theorem l03Any_l0 (l : List Int) (x : Int) (hx : 0 ≤ x) (p s : Int) (d : Nat) : ∀ (r0 : List ByteArray) (r1 : List S63), 61 - r1.length = d → AnyD r0 r1 → ∃ q1, Ev (fun k => spec_l03Any.l0 k x l p s r0 r1) (r0, q1, p, s) ∧ AnyD r0 q1 := by
  have m0 := Int.tmod_nonneg 3 hx
  have m1 := Int.tmod_lt_of_pos x (show (0 : Int) < 3 by decide)
  have ew := w64 (x := 59 + Int.tmod x 3) (by omega) (by omega)
  obtain ⟨z, hz, hzs⟩ := l03Zero_some
  induction d with
  | zero =>
    intro r0 r1 hd h
    refine ⟨r1, ev_succ ?_, h⟩
    simp only [spec_l03Any.l0, ew, if_neg (show ¬ (r1.length : Int) < 59 + Int.tmod x 3 by omega)]
    exact ev_some rfl
  | succ d ih =>
    intro r0 r1 hd h
    by_cases hc : (r1.length : Int) < 59 + Int.tmod x 3
    · obtain ⟨q1, h1, h2⟩ := ih r0 (r1 ++ [(⟨0, z⟩ : S63)]) (by simp; omega) ⟨h.1, by simp; omega, h.2.2.1, fun w hw => by
        rcases List.mem_append.1 hw with hw | hw
        · exact h.2.2.2 w hw
        · rw [List.mem_singleton.1 hw]; simp only; omega⟩
      refine ⟨q1, ev_succ ?_, h2⟩
      simp only [spec_l03Any.l0, ew, if_pos hc]
      refine Ev.bind hz ?_
      simp only [if_pos (show r1.length < 5864062014805 by omega)]
      exact h1
    · refine ⟨r1, ev_succ ?_, h⟩
      simp only [spec_l03Any.l0, ew, if_neg hc]
      exact ev_some rfl
theorem l03Any_some (l : List Int) (hl : l.length ≤ 1048576) (p s : Int) (hp : Inside l p) : ∃ r0 r1 p' s', Ev (fun k => spec_l03Any.f k l p s) (r0, r1, p', s') ∧ AnyD r0 r1 ∧ Inside l p' := by
  unfold spec_l03Any.f
  obtain ⟨k, p1, s1, e1, hk, hp1⟩ := l01Below_some l hl p s 12 hp
  obtain ⟨x, p2, s2, e2, hx, hp2⟩ := l01Below_some l hl p1 s1 60 hp1
  obtain ⟨n, q0, q1, p3, s3, h3, hR, hp3⟩ := l03Disk_some l hl p2 s2 hp2
  obtain ⟨hn, hn2, hc, h32, hw⟩ := id hR
  have hA := rightD_any hR (by omega)
  have m0 := Int.tmod_nonneg 3 hx.1
  have m1 := Int.tmod_lt_of_pos x (show (0 : Int) < 3 by decide)
  have ew := w64 (x := 31 + Int.tmod x 3) (by omega) (by omega)
  simp only [e1, e2, Option.bind_some, ew]
  clear ew
  have hcopy : spec_l03Copy.f q0 q1 = some (q0, q1) := spec_l03Copy_f q0 q1 (by omega) (by omega)
  by_cases k0 : k = 0
  · obtain ⟨t, ht, hts⟩ := l01Long_some (31 + Int.tmod x 3) 97 (by omega)
    have i0 := Int.tmod_nonneg (q0.length : Int) hx.1
    have i1 := Int.tmod_lt_of_pos x (show (0 : Int) < (q0.length : Int) by omega)
    refine ⟨q0.set (Int.tmod x (q0.length : Int)).toNat t, q1, p3, s3, ?_, ⟨by rw [List.length_set]; omega, by omega, fun s hs => ?_, fun w hw => hA.2.2.2 w hw⟩, hp3⟩
    · refine Ev.bind h3 ?_
      simp only [hcopy, Option.bind_some, if_pos k0, if_neg (show ¬ (q0.length : Int) = 0 by omega)]
      refine Ev.bind ht ?_
      simp only [if_pos i0, if_pos i1]
      exact ev_some rfl
    · rcases List.mem_or_eq_of_mem_set hs with h | h
      · exact hA.2.2.1 s h
      · rw [h]; omega
  by_cases k1 : k = 1
  · obtain ⟨t, ht, hts⟩ := l01Long_some (31 + Int.tmod x 3) 98 (by omega)
    refine ⟨q0, q1 ++ [(⟨wrap64 (Int.tmod x 9 - 1), t⟩ : S63)], p3, s3, ?_, ⟨by omega, by simp; omega, hA.2.2.1, fun w hw => ?_⟩, hp3⟩
    · refine Ev.bind h3 ?_
      simp only [hcopy, Option.bind_some, if_neg k0, if_pos k1]
      refine Ev.bind ht ?_
      simp only [if_pos (show q1.length < 5864062014805 by omega)]
      exact ev_some rfl
    · rcases List.mem_append.1 hw with hw | hw
      · exact hA.2.2.2 w hw
      · rw [List.mem_singleton.1 hw]; simp only; omega
  by_cases k2 : k = 2
  · obtain ⟨r1, hr, hrA⟩ := l03Any_l0 l x hx.1 p3 s3 _ q0 q1 rfl hA
    refine ⟨q0, r1, p3, s3, ?_, hrA, hp3⟩
    refine Ev.bind h3 ?_
    simp only [hcopy, Option.bind_some, if_neg k0, if_neg k1, if_pos k2]
    exact hr
  by_cases k3 : k = 3
  · refine ⟨[], q1, p3, s3, ?_, ⟨by simp, by omega, fun s hs => by simp at hs, hA.2.2.2⟩, hp3⟩
    refine Ev.bind h3 ?_
    simp only [hcopy, Option.bind_some, if_neg k0, if_neg k1, if_neg k2, if_pos k3, if_pos (show (0 : Int) ≤ (q0.length : Int) by omega)]
    exact ev_some rfl
  · refine ⟨q0, q1, p3, s3, ?_, hA, hp3⟩
    refine Ev.bind h3 ?_
    simp only [hcopy, Option.bind_some, if_neg k0, if_neg k1, if_neg k2, if_neg k3]
    exact ev_some rfl

/-! disknew -/
theorem l01Zero_l0 (n : Nat) (hn : n ≤ 100000) (d : Nat) : ∀ i : Nat, n - i = d → i ≤ n → Ev (fun k => spec_l01Long.l0 k (n : Int) 0 (List.replicate n 0) (i : Int)) (strOfNums (List.replicate n 0)) := by
  induction d with
  | zero =>
    intro i hd hi
    refine ev_succ ?_
    simp only [spec_l01Long.l0, if_neg (show ¬ (i : Int) < (n : Int) by omega)]
    exact ev_some rfl
  | succ d ih =>
    intro i hd hi
    refine ev_succ ?_
    simp only [spec_l01Long.l0, if_pos (show (i : Int) < (n : Int) by omega), if_pos (show (0 : Int) ≤ (i : Int) by omega), List.length_replicate, Int.toNat_natCast, wn i (show i < n by omega) (by omega), List.set_replicate_self]
    exact ih (i + 1) (by omega) (by omega)
def zero32 : ByteArray := strOfNums (List.replicate 32 0)
theorem zero32_size : zero32.size = 32 := strOfNums_size _
theorem l03Zero_ev : Ev (fun k => spec_l03Zero.f k) zero32 := by
  unfold spec_l03Zero.f spec_l01Long.f
  simp only [if_pos (show (0 : Int) ≤ 32 by decide), if_pos (show (32 : Int).toNat ≤ 281474976710656 by decide)]
  exact Ev.bind (l01Zero_l0 32 (by omega) 32 0 (by omega) (by omega)) (ev_some rfl)
theorem repeat_zero : strings_Repeat.f (⟨#[0]⟩ : ByteArray) 32 = some zero32 := by
  unfold strings_Repeat.f zero32
  rw [if_pos (by decide)]
  rfl
theorem spec_DiskNew_l0 (n : Nat) (hn : n ≤ 100) (d : Nat) : ∀ i : Nat, n - i = d → i ≤ n → Ev (fun k => spec_DiskNew.l0 k (n : Int) (i : Int) (List.replicate i zero32)) (List.replicate n zero32, [], true) := by
  induction d with
  | zero =>
    intro i hd hi
    obtain rfl : i = n := by omega
    refine ev_succ ?_
    simp only [spec_DiskNew.l0, if_neg (show ¬ (i : Int) < (i : Int) by omega)]
    exact ev_some rfl
  | succ d ih =>
    intro i hd hi
    refine ev_succ ?_
    simp only [spec_DiskNew.l0, if_pos (show (i : Int) < (n : Int) by omega), wn i (show i < n by omega) (by omega), List.length_replicate, if_pos (show i < 8796093022208 by omega)]
    refine Ev.bind l03Zero_ev ?_
    rw [← List.replicate_succ']
    exact ih (i + 1) (by omega) (by omega)
theorem impl_DiskNew_l0 (n : Nat) (hn : n ≤ 100) (d : Nat) : ∀ i : Nat, n - i = d → i ≤ n → Ev (fun k => impl_DiskNew.l0 k (n : Int) (i : Int) (List.replicate i zero32)) (List.replicate n zero32, [], true) := by
  induction d with
  | zero =>
    intro i hd hi
    obtain rfl : i = n := by omega
    refine ev_succ ?_
    simp only [impl_DiskNew.l0, if_neg (show ¬ (i : Int) < (i : Int) by omega)]
    exact ev_some rfl
  | succ d ih =>
    intro i hd hi
    refine ev_succ ?_
    simp only [impl_DiskNew.l0, if_pos (show (i : Int) < (n : Int) by omega), repeat_zero, Option.bind_some, wn i (show i < n by omega) (by omega), List.length_replicate, if_pos (show i < 8796093022208 by omega)]
    rw [← List.replicate_succ']
    exact ih (i + 1) (by omega) (by omega)
def diskNewM (n : Int) : List ByteArray × List S63 × Bool := if 1 ≤ n ∧ n ≤ 100 then (List.replicate n.toNat zero32, [], true) else ([], [], false)
theorem spec_DiskNew_ev (n : Int) : Ev (fun k => spec_DiskNew.f k n) (diskNewM n) := by
  unfold spec_DiskNew.f diskNewM
  simp only [spec_in_eq, Option.bind_some]
  by_cases h : 1 ≤ n ∧ n ≤ 100
  · obtain ⟨m, rfl⟩ := Int.eq_ofNat_of_zero_le (show 0 ≤ n by omega)
    simp only [decide_eq_true h, if_true, if_pos h, Int.toNat_natCast]
    exact spec_DiskNew_l0 m (by omega) m 0 (by omega) (by omega)
  · simp only [decide_eq_false h, Bool.false_eq_true, if_false, if_neg h]
    exact ev_some rfl
theorem impl_DiskNew_ev (n : Int) : Ev (fun k => impl_DiskNew.f k n) (diskNewM n) := by
  unfold impl_DiskNew.f diskNewM
  simp only [impl_in_eq, Option.bind_some]
  by_cases h : 1 ≤ n ∧ n ≤ 100
  · obtain ⟨m, rfl⟩ := Int.eq_ofNat_of_zero_le (show 0 ≤ n by omega)
    simp only [decide_eq_true h, if_true, if_pos h, Int.toNat_natCast]
    exact impl_DiskNew_l0 m (by omega) m 0 (by omega) (by omega)
  · simp only [decide_eq_false h, Bool.false_eq_true, if_false, if_neg h]
    exact ev_some rfl

/-! sectortext -/
theorem impl_SectorText_l0 (ss : List ByteArray) (c : List S63) (hs : ss.length ≤ 1048576) (hc : c.length ≤ 1048576) (zs : ∀ s, s ∈ ss → s.size ≤ 1048576) (zc : ∀ w, w ∈ c → w.f1.size ≤ 1048576) (a : Int) (ha : -9223372036854775808 ≤ a ∧ a ≤ 9223372036854775807) (n : Nat) (hn : n ≤ 100) (f : Nat) :
    ∀ (i : Nat) (acc : ByteArray), i + f = n → acc.size ≤ i * 1048576 → (i = 0 ∨ (0 ≤ a ∧ a + i ≤ (ss.length : Int))) →
    Ev (fun k => impl_SectorText.l0 k a acc (n : Int) (i : Int) ss c) (stGo ss (c.map W2) a f i acc) := by
  induction f with
  | zero =>
    intro i acc hi hz hr
    refine ev_succ ?_
    simp only [impl_SectorText.l0, if_neg (show ¬ (i : Int) < (n : Int) from by omega)]
    exact ev_some rfl
  | succ f ih =>
    intro i acc hi hz hr
    have e1 : wrap64 (a + (i : Int)) = a + (i : Int) := by
      rcases hr with rfl | hr
      · exact w64 (by omega) (by omega)
      · exact w64 (by omega) (by omega)
    have g1 : (i : Int) < (n : Int) := by omega
    have hsz := readSectorM_size ss (c.map W2) (a + (i : Int)) 1048576 zs (by intro w hw; obtain ⟨w', h1, rfl⟩ := List.mem_map.1 hw; exact zc w' h1)
    have hin : (readSectorM ss (c.map W2) (a + (i : Int))).2 = true → 0 ≤ a + (i : Int) ∧ a + (i : Int) < (ss.length : Int) := by
      unfold readSectorM
      by_cases h : 0 ≤ a + (i : Int) ∧ a + (i : Int) ≤ (ss.length : Int) - 1
      · intro _; omega
      · rw [if_neg h]; intro h2; simp at h2
    have hi1 : i < n := by omega
    have e2 : wrap64 ((i : Int) + 1) = ((i + 1 : Nat) : Int) := wn i hi1 (Nat.le_trans hn (by decide))
    refine ev_succ ?_
    simp only [impl_SectorText.l0, if_pos g1, e1, e2]
    clear e1 e2
    refine Ev.bind (impl_ReadSector_ev ss c hs hc _) ?_
    unfold stGo
    refine ev_if (fun h => ?_) (fun h => ?_)
    · rw [if_pos h]
      have h3 := hin h
      have hz2 : acc.size + (readSectorM ss (c.map W2) (a + (i : Int))).1.size ≤ (i + 1) * 1048576 := by rw [Nat.add_mul]; omega
      refine ev_if (fun _ => ?_) (fun hh => absurd (by have : (i + 1) * 1048576 ≤ 101 * 1048576 := Nat.mul_le_mul_right _ (by omega); omega) hh)
      refine ih (i + 1) _ (by omega) (by rw [size_append]; exact hz2) (.inr ?_)
      rcases hr with rfl | hr
      · exact ⟨by omega, by omega⟩
      · exact ⟨by omega, by omega⟩
    · rw [if_neg h]
      exact ev_some rfl
theorem impl_SectorText_ev (ss : List ByteArray) (c : List S63) (hs : ss.length ≤ 1048576) (hc : c.length ≤ 1048576) (zs : ∀ s, s ∈ ss → s.size ≤ 1048576) (zc : ∀ w, w ∈ c → w.f1.size ≤ 1048576) (a n : Int) (ha : -9223372036854775808 ≤ a ∧ a ≤ 9223372036854775807) :
    Ev (fun k => impl_SectorText.f k ss c a n) (sectorTextM ss (c.map W2) a n) := by
  unfold impl_SectorText.f sectorTextM
  simp only [impl_in_eq, Option.bind_some]
  by_cases h : 0 ≤ n ∧ n ≤ 100
  · obtain ⟨m, rfl⟩ := Int.eq_ofNat_of_zero_le h.1
    simp only [decide_eq_true h, if_true, if_pos h, Int.toNat_natCast]
    exact impl_SectorText_l0 ss c hs hc zs zc a ha m (by omega) m 0 _ (by omega) (by decide) (.inl rfl)
  · simp only [decide_eq_false h, Bool.false_eq_true, if_false, if_neg h]
    exact ev_some rfl
theorem spec_SectorText_l0 (ss : List ByteArray) (c : List S63) (hs : ss.length ≤ 1048576) (hc : c.length ≤ 1048576) (zs : ∀ s, s ∈ ss → s.size ≤ 1048576) (zc : ∀ w, w ∈ c → w.f1.size ≤ 1048576) (a : Int) (ha : -9223372036854775808 ≤ a ∧ a ≤ 9223372036854775807) (n : Nat) (hn : n ≤ 100) (f : Nat) :
    ∀ (i : Nat) (acc : ByteArray), i + f = n → acc.size ≤ i * 1048576 → (i = 0 ∨ (0 ≤ a ∧ a + i ≤ (ss.length : Int))) →
    Ev (fun k => spec_SectorText.l0 k a (n : Int) acc (i : Int) ss c) (stGo ss (c.map W2) a f i acc) := by
  induction f with
  | zero =>
    intro i acc hi hz hr
    refine ev_succ ?_
    simp only [spec_SectorText.l0, if_neg (show ¬ (i : Int) < (n : Int) from by omega)]
    exact ev_some rfl
  | succ f ih =>
    intro i acc hi hz hr
    have g1 : (i : Int) < (n : Int) := by omega
    have hsz := readSectorM_size ss (c.map W2) (a + (i : Int)) 1048576 zs (by intro w hw; obtain ⟨w', h1, rfl⟩ := List.mem_map.1 hw; exact zc w' h1)
    have hin : (readSectorM ss (c.map W2) (a + (i : Int))).2 = true ↔ 0 ≤ a + (i : Int) ∧ a + (i : Int) ≤ (ss.length : Int) - 1 := by
      unfold readSectorM
      by_cases h : 0 ≤ a + (i : Int) ∧ a + (i : Int) ≤ (ss.length : Int) - 1
      · rw [if_pos h]; simp; omega
      · rw [if_neg h]; simp; omega
    have hi1 : i < n := by omega
    unfold stGo
    refine ev_succ ?_
    simp only [spec_SectorText.l0, if_pos g1]
    by_cases hbad : a < 0 ∨ a > (ss.length : Int)
    · rw [if_neg (fun h => by have := hin.1 h; omega)]
      refine ev_if (fun h => ?_) (fun h => ?_)
      · refine ev_succ ?_
        simp only [spec_SectorText.j1, if_true]
        exact ev_some rfl
      · refine ev_succ ?_
        simp only [spec_SectorText.j1, decide_eq_true (show a > (ss.length : Int) from by omega), if_true]
        exact ev_some rfl
    have e1 : wrap64 (a + (i : Int)) = a + (i : Int) := w64 (by omega) (by omega)
    have g2 : ¬ a < 0 := by omega
    have g3 : ¬ a > (ss.length : Int) := by omega
    have e2 : wrap64 ((i : Int) + 1) = ((i + 1 : Nat) : Int) := wn i hi1 (Nat.le_trans hn (by decide))
    simp only [if_neg g2, decide_eq_false g3]
    refine ev_succ ?_
    simp only [spec_SectorText.j1, Bool.false_eq_true, if_false, e1, e2]
    clear e1 e2
    refine Ev.bind (spec_ReadSector_ev ss c hs hc _) ?_
    refine ev_if (fun h => ?_) (fun h => ?_)
    · rw [if_pos h]
      have h3 := hin.1 h
      have hz2 : acc.size + (readSectorM ss (c.map W2) (a + (i : Int))).1.size ≤ (i + 1) * 1048576 := by rw [Nat.add_mul]; omega
      refine ev_if (fun _ => ?_) (fun hh => absurd (by have : (i + 1) * 1048576 ≤ 101 * 1048576 := Nat.mul_le_mul_right _ (by omega); omega) hh)
      exact ih (i + 1) _ (by omega) (by rw [size_append]; exact hz2) (.inr ⟨by omega, by omega⟩)
    · rw [if_neg h]
      exact ev_some rfl
theorem spec_SectorText_ev (ss : List ByteArray) (c : List S63) (hs : ss.length ≤ 1048576) (hc : c.length ≤ 1048576) (zs : ∀ s, s ∈ ss → s.size ≤ 1048576) (zc : ∀ w, w ∈ c → w.f1.size ≤ 1048576) (a n : Int) (ha : -9223372036854775808 ≤ a ∧ a ≤ 9223372036854775807) :
    Ev (fun k => spec_SectorText.f k ss c a n) (sectorTextM ss (c.map W2) a n) := by
  unfold spec_SectorText.f sectorTextM
  simp only [spec_in_eq, Option.bind_some]
  by_cases h : 0 ≤ n ∧ n ≤ 100
  · obtain ⟨m, rfl⟩ := Int.eq_ofNat_of_zero_le h.1
    simp only [decide_eq_true h, if_true, if_pos h, Int.toNat_natCast]
    exact spec_SectorText_l0 ss c hs hc zs zc a ha m (by omega) m 0 _ (by omega) (by decide) (.inl rfl)
  · simp only [decide_eq_false h, Bool.false_eq_true, if_false, if_neg h]
    exact ev_some rfl

/-! same -/
theorem sameTexts_l0 (l : List ByteArray) (hl : l.length ≤ 1048576) (d : Nat) : ∀ i : Nat, l.length - i = d → i ≤ l.length → Ev (fun k => laws_sameTexts.l0 k l l (i : Int)) true := by
  induction d with
  | zero =>
    intro i hd hi
    refine ev_succ ?_
    simp only [laws_sameTexts.l0, if_neg (show ¬ (i : Int) < (l.length : Int) by omega)]
    exact ev_some rfl
  | succ d ih =>
    intro i hd hi
    refine ev_succ ?_
    simp only [laws_sameTexts.l0, if_pos (show (i : Int) < (l.length : Int) by omega), if_pos (show (0 : Int) ≤ (i : Int) by omega), if_true, wn i (show i < l.length by omega) (by omega)]
    exact ih (i + 1) (by omega) (by omega)
theorem sameTexts_refl (l : List ByteArray) (hl : l.length ≤ 1048576) : Ev (fun k => laws_sameTexts.f k l l) true := by
  unfold laws_sameTexts.f
  simp only [if_true]
  exact sameTexts_l0 l hl _ 0 rfl (by omega)
theorem sameDisk_l0 (s : List ByteArray) (l : List S63) (hl : l.length ≤ 1048576) (d : Nat) : ∀ i : Nat, l.length - i = d → i ≤ l.length → Ev (fun k => laws_sameDisk.l0 k (i : Int) s l s l) true := by
  induction d with
  | zero =>
    intro i hd hi
    refine ev_succ ?_
    simp only [laws_sameDisk.l0, if_neg (show ¬ (i : Int) < (l.length : Int) by omega)]
    exact ev_some rfl
  | succ d ih =>
    intro i hd hi
    refine ev_succ ?_
    simp only [laws_sameDisk.l0, if_pos (show (i : Int) < (l.length : Int) by omega), if_pos (show (0 : Int) ≤ (i : Int) by omega), beq_self_eq_true, Bool.not_true, Bool.or_self, Bool.false_eq_true, if_false, wn i (show i < l.length by omega) (by omega)]
    exact ih (i + 1) (by omega) (by omega)
theorem sameDisk_refl (s : List ByteArray) (l : List S63) (hs : s.length ≤ 1048576) (hl : l.length ≤ 1048576) : Ev (fun k => laws_sameDisk.f k s l s l) true := by
  unfold laws_sameDisk.f
  refine Ev.bind (sameTexts_refl s hs) ?_
  simp only [if_true, bne_self_eq_false]
  refine ev_succ ?_
  simp only [laws_sameDisk.j0, Bool.false_eq_true, if_false]
  exact sameDisk_l0 s l hl _ 0 rfl (by omega)

theorem FnDisksTold : laws_FnDisksTold.Pure := by
  intro l _ _ _
  refine Ev.rounds ?_
  unfold laws_FnDisksTold.f laws_big.f
  simp only [Option.bind_some]
  by_cases hz : (l.length : Int) > 1048576
  · simp only [decide_eq_true hz, if_true]
    exact ev_some rfl
  simp only [decide_eq_false hz, Bool.false_eq_true, if_false]
  have hl : l.length ≤ 1048576 := by omega
  obtain ⟨s, hs⟩ := l01New_some l hl
  obtain ⟨d0, d1, p1, s1, hd, hA, _⟩ := l03Any_some l hl 0 s (inside0 l)
  have h1 : Ev (fun k => spec_DrawDiskOk.f k l) (d0, d1) := by
    unfold spec_DrawDiskOk.f
    exact Ev.bind hs (Ev.bind hd (ev_some rfl))
  obtain ⟨a, p2, s2, ha, _, hp2⟩ := l01Place_range l hl 0 s 5 (by omega) (inside0 l)
  obtain ⟨x0, x1, p3, s3, hx, hB, _⟩ := l03Any_some l hl p2 s2 hp2
  have h2 : Ev (fun k => spec_DrawReadSector.f k l) (x0, x1, a) := by
    unfold spec_DrawReadSector.f
    refine Ev.bind hs ?_
    simp only [ha, Option.bind_some]
    exact Ev.bind hx (ev_some rfl)
  obtain ⟨b, p4, s4, hb, hbr, hp4⟩ := l01Place_range l hl 0 s 5 (by omega) (inside0 l)
  obtain ⟨n, p5, s5, hn, _, hp5⟩ := l01PickInt_some l hl p4 s4 hp4 ([0, 1, 2, 3, (-1), 101] : List Int) (by decide)
  obtain ⟨y0, y1, p6, s6, hy, hC, _⟩ := l03Any_some l hl p5 s5 hp5
  have h3 : Ev (fun k => spec_DrawSectorText.f k l) (y0, y1, b, n) := by
    unfold spec_DrawSectorText.f
    refine Ev.bind hs ?_
    simp only [hb, hn, Option.bind_some]
    exact Ev.bind hy (ev_some rfl)
  obtain ⟨a1, a2, a3, a4⟩ := id hA
  obtain ⟨b1, b2, b3, b4⟩ := id hB
  obtain ⟨c1, c2, c3, c4⟩ := id hC
  have c5 : ∀ s, s ∈ y0 → s.size ≤ 1048576 := fun s h => by have := c3 s h; omega
  have c6 : ∀ w, w ∈ y1 → w.f1.size ≤ 1048576 := fun s h => by have := c4 s h; omega
  have hn3 := impl_DiskNew_ev 3
  have hn0 := impl_DiskNew_ev 0
  have e3 : diskNewM 3 = (List.replicate 3 zero32, [], true) := by unfold diskNewM; rw [if_pos (by decide)]; rfl
  have e0 : diskNewM 0 = ([], [], false) := by unfold diskNewM; rw [if_neg (by decide)]
  rw [e3] at hn3
  rw [e0] at hn0
  have hf1 := impl_FlushDisk_ev d0 d1 (by omega) (by omega)
  have hf2 := spec_FlushDisk_ev d0 d1 (by omega) (by omega)
  have hfl := flushM_length d0 d1
  refine Ev.bind h1 ?_
  refine Ev.bind h2 ?_
  refine Ev.bind (impl_ReadSector_ev x0 x1 (by omega) (by omega) a) ?_
  refine Ev.bind (spec_ReadSector_ev x0 x1 (by omega) (by omega) a) ?_
  refine Ev.bind h3 ?_
  refine Ev.bind (impl_SectorText_ev y0 y1 (by omega) (by omega) c5 c6 b n hbr) ?_
  refine Ev.bind (spec_SectorText_ev y0 y1 (by omega) (by omega) c5 c6 b n hbr) ?_
  refine Ev.bind hn3 ?_
  refine Ev.bind hn0 ?_
  simp only [impl_DiskOk_f, Option.bind_some]
  refine Ev.bind (spec_DiskOk_ev d0 d1) ?_
  simp only [beq_self_eq_true, if_true]
  refine Ev.bind hf1 ?_
  refine Ev.bind hf2 ?_
  refine Ev.bind (sameDisk_refl _ _ (by omega) (by omega)) ?_
  simp only [if_true, Bool.false_eq_true, if_false]
  exact ev_some rfl

end Go.Proofs.Ytjpngldnkgofaaa.Pure
