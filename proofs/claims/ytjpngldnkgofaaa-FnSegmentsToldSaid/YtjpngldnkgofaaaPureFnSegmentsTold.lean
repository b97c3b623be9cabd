/- The pure statement of FnSegmentsTold, over numbers and lists: it is true of every argument; no condition but the bounds that the statement itself names. -/
import Derived.Test.YtjpngldnkgofaaaPFnSegmentsToldx19
import Derived.Test.YtjpngldnkgofaaaVFnSegmentsTold1
set_option linter.unusedVariables false
set_option linter.unusedSimpArgs false
namespace Go.Proofs.Ytjpngldnkgofaaa.Pure
open Go.RowKit Go.Proofs.Ytjpngldnkgofaaa.PFnSegmentsTold Go.Proofs.YtjpngldnkgofaaaW.PrintWords Go.Proofs.YtjpngldnkgofaaaW.PrintLast Go.Proofs.YtjpngldnkgofaaaW.PrintMore Go.Proofs.Ytjpngldnkgofaaa.Base

/-! draws -/
theorem and255 (x : Int) : 0 ≤ bits .and .i64 x 255 ∧ bits .and .i64 x 255 ≤ 255 := by
 unfold bits
 have h : (BitVec.ofInt (IntKind.bits .i64) x &&& BitVec.ofInt (IntKind.bits .i64) 255).toNat ≤ 255 := by
  rw [BitVec.toNat_and]
  exact Nat.le_trans Nat.and_le_right (by decide)
 simp only
 rw [b_wraps_i64 _ (by omega) (by omega)]
 omega
def Inside (l : List Int) (p : Int) : Prop := 0 ≤ p ∧ p ≤ (l.length : Int)
theorem l01Byte_some (l : List Int) (hl : l.length ≤ 1048576) (p s : Int) (hp : Inside l p) : ∃ b p' s', spec_l01Byte.f l p s = some (b, p', s') ∧ (0 ≤ b ∧ b ≤ 255) ∧ Inside l p' := by
 obtain ⟨h0, h1⟩ := hp
 unfold spec_l01Byte.f
 by_cases h : p < (l.length : Int)
 ·rw [if_pos h, if_pos h0]
  refine ⟨_, _, _, rfl, and255 _, ?_⟩
  have e := w64 (x := p + 1) (by omega) (by omega)
  rw [e]
  exact ⟨by omega, by omega⟩
 ·rw [if_neg h]
  exact ⟨_, _, _, rfl, and255 _, h0, h1⟩
theorem l01Below_some (l : List Int) (hl : l.length ≤ 1048576) (p s n : Int) (hp : Inside l p) : ∃ b p' s', spec_l01Below.f l p s n = some (b, p', s') ∧ (0 ≤ b ∧ (0 < n → b < n)) ∧ Inside l p' := by
 unfold spec_l01Below.f
 by_cases h : n ≤ 0
 ·rw [if_pos h]
  exact ⟨_, _, _, rfl, ⟨Int.le_refl _, fun h2 => by omega⟩, hp⟩
 ·rw [if_neg h]
  by_cases h2 : n ≤ 256
  ·rw [if_pos h2]
   obtain ⟨b, p', s', e, hb, hp'⟩ := l01Byte_some l hl p s hp
   simp only [e, Option.bind_some, if_neg (show ¬ n = 0 by omega)]
   exact ⟨_, _, _, rfl, ⟨Int.tmod_nonneg _ hb.1, fun h3 => Int.tmod_lt_of_pos _ h3⟩, hp'⟩
  ·rw [if_neg h2]
   obtain ⟨b1, p1, s1, e1, hb1, hp1⟩ := l01Byte_some l hl p s hp
   obtain ⟨b2, p2, s2, e2, hb2, hp2⟩ := l01Byte_some l hl p1 s1 hp1
   obtain ⟨b3, p3, s3, e3, hb3, hp3⟩ := l01Byte_some l hl p2 s2 hp2
   obtain ⟨b4, p4, s4, e4, hb4, hp4⟩ := l01Byte_some l hl p3 s3 hp3
   simp only [e1, e2, e3, e4, Option.bind_some, if_neg (show ¬ n = 0 by omega)]
   refine ⟨_, _, _, rfl, ⟨Int.tmod_nonneg _ ?_, fun h3 => Int.tmod_lt_of_pos _ h3⟩, hp4⟩
   have a1 := w64 (x := b1 * 16777216) (by omega) (by omega)
   rw [a1]
   clear a1
   have a2 := w64 (x := b2 * 65536) (by omega) (by omega)
   rw [a2]
   clear a2
   have a3 := w64 (x := b3 * 256) (by omega) (by omega)
   rw [a3]
   clear a3
   have a4 := w64 (x := b1 * 16777216 + b2 * 65536) (by omega) (by omega)
   rw [a4]
   clear a4
   have a5 := w64 (x := b1 * 16777216 + b2 * 65536 + b3 * 256) (by omega) (by omega)
   rw [a5]
   clear a5
   have a6 := w64 (x := b1 * 16777216 + b2 * 65536 + b3 * 256 + b4) (by omega) (by omega)
   rw [a6]
   omega
theorem l01Once_some (l : List Int) (hl : l.length ≤ 1048576) (p s n : Int) (hp : Inside l p) : ∃ (b : Bool) (p' s' : Int), spec_l01Once.f l p s n = some (b, p', s') ∧ Inside l p' := by
 unfold spec_l01Once.f
 obtain ⟨b, p', s', e, _, hp'⟩ := l01Below_some l hl p s n hp
 simp only [e, Option.bind_some]
 exact ⟨_, _, _, rfl, hp'⟩
theorem l01Text_l0 (l : List Int) (hl : l.length ≤ 1048576) (n : Nat) (hn : n ≤ 5000) (d : Nat) : ∀ (i : Nat) (acc : List Int) (p s : Int), n - i = d → i ≤ n → acc.length = i → Inside l p →
  ∃ (t : ByteArray) (p' s' : Int), Ev (fun k => spec_l01Text.l0 k (n : Int) acc (i : Int) l p s) (t, p', s') ∧ t.size = n ∧ Inside l p' := by
 induction d with
 | zero =>
  intro i acc p s hd hi ha hp
  refine ⟨strOfNums acc, p, s, ev_succ ?_, by rw [strOfNums_size]; omega, hp⟩
  simp only [spec_l01Text.l0, if_neg (show ¬ (i : Int) < (n : Int) by omega)]
  exact ev_some rfl
 | succ d ih =>
  intro i acc p s hd hi ha hp
  obtain ⟨b, p1, s1, e, hb, hp1⟩ := l01Byte_some l hl p s hp
  obtain ⟨t, p', s', h, hs, hp'⟩ := ih (i + 1) (acc ++ [b % 256]) p1 s1 (by omega) (by omega) (by simp; omega) hp1
  refine ⟨t, p', s', ev_succ ?_, hs, hp'⟩
  simp only [spec_l01Text.l0, if_pos (show (i : Int) < (n : Int) by omega), e, Option.bind_some, if_pos (show acc.length < 140737488355328 by omega), wn i (show i < n by omega) (by omega)]
  exact h
theorem l01Text_some (l : List Int) (hl : l.length ≤ 1048576) (p s n : Int) (hn : 0 ≤ n ∧ n ≤ 5000) (hp : Inside l p) : ∃ (t : ByteArray) (p' s' : Int), Ev (fun k => spec_l01Text.f k l p s n) (t, p', s') ∧ (t.size : Int) = n ∧ Inside l p' := by
 obtain ⟨m, rfl⟩ := Int.eq_ofNat_of_zero_le hn.1
 obtain ⟨t, p', s', h, hs, hp'⟩ := l01Text_l0 l hl m (by omega) m 0 [] p s (by omega) (by omega) rfl hp
 refine ⟨t, p', s', ?_, by omega, hp'⟩
 unfold spec_l01Text.f
 simp only [if_neg (show ¬ (m : Int) > 5000 by omega)]
 refine ev_succ ?_
 simp only [spec_l01Text.j0]
 exact h
theorem l01New_l0 (l : List Int) (hl : l.length ≤ 1048576) (d : Nat) : ∀ (i : Nat) (s : Int), l.length - i = d → i ≤ l.length → ∃ s', Ev (fun k => spec_l01New.l0 k l s (i : Int)) (l, 0, s') := by
 induction d with
 | zero =>
  intro i s hd hi
  refine ⟨s, ev_succ ?_⟩
  simp only [spec_l01New.l0, if_neg (show ¬ (i : Int) < (l.length : Int) by omega)]
  exact ev_some rfl
 | succ d ih =>
  intro i s hd hi
  by_cases h : (i : Int) < 4000
  ·obtain ⟨s', hs⟩ := ih (i + 1) (bits .and .i64 (wrap64 ((wrap64 ((wrap64 (s * 131)) + (wrap64 (rd l (i : Int))))) + 7)) 1073741823) (by omega) (by omega)
   refine ⟨s', ev_succ ?_⟩
   simp only [spec_l01New.l0, if_pos (show (i : Int) < (l.length : Int) by omega), if_pos h, if_pos (show (0 : Int) ≤ (i : Int) by omega), wn i (show i < l.length by omega) (by omega)]
   exact hs
  ·refine ⟨s, ev_succ ?_⟩
   simp only [spec_l01New.l0, if_pos (show (i : Int) < (l.length : Int) by omega), if_neg h]
   exact ev_some rfl
theorem l01New_some (l : List Int) (hl : l.length ≤ 1048576) : ∃ s', Ev (fun k => spec_l01New.f k l) (l, 0, s') := by
 unfold spec_l01New.f
 exact l01New_l0 l hl l.length 0 _ (by omega) (by omega)
theorem inside0 (l : List Int) : Inside l 0 := ⟨Int.le_refl _, by omega⟩

/-! pick -/
theorem l01Long_l0 (n : Nat) (v : Int) (hn : n ≤ 100000) (d : Nat) : ∀ (i : Nat) (acc : List Int), n - i = d → i ≤ n → acc.length = n → ∃ t : ByteArray, Ev (fun k => spec_l01Long.l0 k (n : Int) v acc (i : Int)) t ∧ t.size = n := by
 induction d with
 | zero =>
  intro i acc hd hi ha
  refine ⟨strOfNums acc, ev_succ ?_, by rw [strOfNums_size]; exact ha⟩
  simp only [spec_l01Long.l0, if_neg (show ¬ (i : Int) < (n : Int) by omega)]
  exact ev_some rfl
 | succ d ih =>
  intro i acc hd hi ha
  obtain ⟨t, h, hs⟩ := ih (i + 1) (acc.set i v) (by omega) (by omega) (by rw [List.length_set]; exact ha)
  refine ⟨t, ev_succ ?_, hs⟩
  simp only [spec_l01Long.l0, if_pos (show (i : Int) < (n : Int) by omega), if_pos (show (0 : Int) ≤ (i : Int) by omega), ha, Int.toNat_natCast, wn i (show i < n by omega) (by omega)]
  exact h
theorem l01Long_some (n : Int) (v : Int) (hn : 0 ≤ n ∧ n ≤ 100000) : ∃ t : ByteArray, Ev (fun k => spec_l01Long.f k n v) t ∧ (t.size : Int) = n := by
 obtain ⟨m, rfl⟩ := Int.eq_ofNat_of_zero_le hn.1
 obtain ⟨t, h, hs⟩ := l01Long_l0 m v (by omega) m 0 (List.replicate m 0) (by omega) (by omega) (by simp)
 refine ⟨t, ?_, by omega⟩
 unfold spec_l01Long.f
 simp only [if_pos hn.1, Int.toNat_natCast, if_pos (show m ≤ 281474976710656 by omega)]
 exact h
theorem l01PickInt_some (l : List Int) (hl : l.length ≤ 1048576) (p s : Int) (hp : Inside l p) (L : List Int) (hL : 0 < L.length) : ∃ v p' s', spec_l01PickInt.f l p s L = some (v, p', s') ∧ v ∈ L ∧ Inside l p' := by
 unfold spec_l01PickInt.f
 obtain ⟨b, p1, s1, e, hb, hp1⟩ := l01Below_some l hl p s (L.length : Int) hp
 have h2 := hb.2 (by omega)
 refine ⟨rd L b, p1, s1, ?_, ?_, hp1⟩
 ·simp only [e, Option.bind_some, if_pos hb.1, if_pos h2]
 ·unfold rd
  rw [List.getD_eq_getElem?_getD, List.getElem?_eq_getElem (show b.toNat < L.length by omega)]
  exact List.getElem_mem _

/-! places -/

/-! in -/
theorem spec_in_eq (a b c : Int) : spec_l01In.f a b c = some (decide (b ≤ a ∧ a ≤ c)) := by
 unfold spec_l01In.f
 by_cases h : a ≥ b <;> by_cases h2 : a ≤ c <;> simp [h, h2] <;> omega
theorem impl_in_eq (a b c : Int) : impl_in.f a b c = some (decide (b ≤ a ∧ a ≤ c)) := by
 unfold impl_in.f
 by_cases h : a ≥ b <;> by_cases h2 : a ≤ c <;> simp [h, h2] <;> omega

/-! disk -/
def W2 (x : S63) : Wr := (x.f0, x.f1)
theorem rdOf_nat {α : Type} (d : α) (l : List α) (i : Nat) : rdOf d l (i : Int) = l.getD i d := by unfold rdOf; rw [Int.toNat_natCast]
theorem getD_drop {α : Type} (d : α) (l : List α) (i : Nat) (h : i < l.length) : l.drop i = l.getD i d :: l.drop (i + 1) := by
 rw [List.drop_eq_getElem_cons h, List.getD_eq_getElem?_getD, List.getElem?_eq_getElem h]
 rfl
def sOk (s : ByteArray) : Bool := decide (s.size = 32)
def wOk (n : Nat) (w : S63) : Bool := decide (0 ≤ w.f0 ∧ w.f0 ≤ (n : Int) - 1) && decide (w.f1.size = 32)
def diskOkM (l0 : List ByteArray) (l1 : List S63) : Bool := decide ((1 ≤ l0.length ∧ l0.length ≤ 100) ∧ l1.length ≤ 60) && (l0.all sOk && l1.all (wOk l0.length))
theorem rd_W (l : List S63) (i : Nat) : rd_T63 l (i : Int) = l.getD i z63 := by unfold rd_T63; rw [Int.toNat_natCast]
theorem l01In_dec (a b c : Int) : spec_l01In.f a b c = some (decide (b ≤ a ∧ a ≤ c)) := by
 unfold spec_l01In.f
 by_cases h : a ≥ b
 ·rw [if_pos h]; congr 1; apply Bool.eq_iff_iff.2; simp; omega
 ·rw [if_neg h]; congr 1; apply Bool.eq_iff_iff.2; simp; omega
theorem diskOk_l1 (l0 : List ByteArray) (l1 : List S63) (h0 : l0.length ≤ 100) (h1 : l1.length ≤ 60) (d : Nat) : ∀ i : Nat, l1.length - i = d → i ≤ l1.length → Ev (fun k => spec_DiskOk.l1 k (i : Int) l0 l1) ((l1.drop i).all (wOk l0.length)) := by
 induction d with
 | zero =>
  intro i hd hi
  refine ev_succ ?_
  simp only [spec_DiskOk.l1, if_neg (show ¬ (i : Int) < (l1.length : Int) from by omega)]
  rw [List.drop_eq_nil_of_le (by omega)]
  exact ev_some rfl
 | succ d ih =>
  intro i hd hi
  have hlt : i < l1.length := by omega
  refine ev_succ ?_
  have g1 : (i : Int) < (l1.length : Int) := by omega
  have g2 : (0 : Int) ≤ (i : Int) := by omega
  have e1 := w64 (x := (l0.length : Int) - 1) (by omega) (by omega)
  simp only [spec_DiskOk.l1, if_pos g1, if_pos g2, rd_W, l01In_dec, e1, Option.bind_some, wn i hlt (show l1.length ≤ 140737488355328 by omega)]
  rw [getD_drop z63 l1 i hlt, List.all_cons]
  have hw : wOk l0.length (l1.getD i z63) = (decide (0 ≤ (l1.getD i z63).f0 ∧ (l1.getD i z63).f0 ≤ (l0.length : Int) - 1) && decide ((l1.getD i z63).f1.size = 32)) := rfl
  by_cases c1 : 0 ≤ (l1.getD i z63).f0 ∧ (l1.getD i z63).f0 ≤ (l0.length : Int) - 1
  ·rw [decide_eq_true c1] at hw
   simp only [decide_eq_true c1, if_true]
   by_cases c2 : (l1.getD i z63).f1.size = 32
   ·rw [decide_eq_true c2] at hw
    simp only [if_pos (show ((l1.getD i z63).f1.size : Int) = 32 by omega)]
    rw [hw]
    simpa using ih (i + 1) (by omega) (by omega)
   ·rw [decide_eq_false c2] at hw
    simp only [if_neg (show ¬ ((l1.getD i z63).f1.size : Int) = 32 by omega)]
    rw [hw]
    exact ev_some rfl
  ·rw [decide_eq_false c1] at hw
   simp only [decide_eq_false c1, Bool.false_eq_true, if_false]
   rw [hw]
   exact ev_some rfl
theorem diskOk_l0 (l0 : List ByteArray) (l1 : List S63) (h0 : l0.length ≤ 100) (h1 : l1.length ≤ 60) (d : Nat) : ∀ i : Nat, l0.length - i = d → i ≤ l0.length → Ev (fun k => spec_DiskOk.l0 k (i : Int) l0 l1) ((l0.drop i).all sOk && l1.all (wOk l0.length)) := by
 induction d with
 | zero =>
  intro i hd hi
  refine ev_succ ?_
  simp only [spec_DiskOk.l0, if_neg (show ¬ (i : Int) < (l0.length : Int) from by omega)]
  rw [List.drop_eq_nil_of_le (by omega)]
  simpa using diskOk_l1 l0 l1 h0 h1 _ 0 rfl (by omega)
 | succ d ih =>
  intro i hd hi
  have hlt : i < l0.length := by omega
  refine ev_succ ?_
  have g1 : (i : Int) < (l0.length : Int) := by omega
  have g2 : (0 : Int) ≤ (i : Int) := by omega
  simp only [spec_DiskOk.l0, if_pos g1, if_pos g2, rdOf_nat, wn i hlt (show l0.length ≤ 140737488355328 by omega)]
  rw [getD_drop ByteArray.empty l0 i hlt, List.all_cons]
  have hw : sOk (l0.getD i ByteArray.empty) = decide ((l0.getD i ByteArray.empty).size = 32) := rfl
  by_cases c2 : (l0.getD i ByteArray.empty).size = 32
  ·rw [decide_eq_true c2] at hw
   simp only [if_pos (show ((l0.getD i ByteArray.empty).size : Int) = 32 by omega)]
   rw [hw]
   simpa using ih (i + 1) (by omega) (by omega)
  ·rw [decide_eq_false c2] at hw
   simp only [if_neg (show ¬ ((l0.getD i ByteArray.empty).size : Int) = 32 by omega)]
   rw [hw]
   exact ev_some rfl
theorem spec_DiskOk_ev (l0 : List ByteArray) (l1 : List S63) : Ev (fun k => spec_DiskOk.f k l0 l1) (diskOkM l0 l1) := by
 unfold spec_DiskOk.f diskOkM
 simp only [l01In_dec, Option.bind_some]
 by_cases c1 : 1 ≤ l0.length ∧ l0.length ≤ 100
 ·simp only [decide_eq_true (show 1 ≤ (l0.length : Int) ∧ (l0.length : Int) ≤ 100 by omega), if_true]
  by_cases c2 : l1.length ≤ 60
  ·rw [decide_eq_true (show (1 ≤ l0.length ∧ l0.length ≤ 100) ∧ l1.length ≤ 60 from ⟨c1, c2⟩), Bool.true_and]
   refine ev_succ ?_
   simp only [spec_DiskOk.j0, decide_eq_false (show ¬ (l1.length : Int) > 60 by omega), Bool.false_eq_true, if_false]
   simpa using diskOk_l0 l0 l1 c1.2 c2 _ 0 rfl (by omega)
  ·rw [decide_eq_false (show ¬ ((1 ≤ l0.length ∧ l0.length ≤ 100) ∧ l1.length ≤ 60) from fun h => c2 h.2), Bool.false_and]
   refine ev_succ ?_
   simp only [spec_DiskOk.j0, decide_eq_true (show (l1.length : Int) > 60 by omega), if_true]
   exact ev_some rfl
 ·simp only [decide_eq_false (show ¬ (1 ≤ (l0.length : Int) ∧ (l0.length : Int) ≤ 100) by omega), Bool.false_eq_true, if_false]
  rw [decide_eq_false (show ¬ ((1 ≤ l0.length ∧ l0.length ≤ 100) ∧ l1.length ≤ 60) from fun h => c1 h.1), Bool.false_and]
  refine ev_succ ?_
  simp only [spec_DiskOk.j0, if_true]
  exact ev_some rfl

/-! clone -/
theorem spec_l03Copy_f (l0 : List ByteArray) (l1 : List S63) (h0 : l0.length ≤ 1048576) (h1 : l1.length ≤ 1048576) : spec_l03Copy.f l0 l1 = some (l0, l1) := by
 unfold spec_l03Copy.f
 simp only [Option.bind_some, List.length_nil, Nat.zero_add, if_pos (show l0.length < 8796093022208 by omega), if_pos (show l1.length < 5864062014805 by omega), List.nil_append]

/-! flushdisk -/
def putW (ss : List ByteArray) (w : S63) : List ByteArray := ss.set w.f0.toNat w.f1
theorem putW_length (ss : List ByteArray) (w : S63) : (putW ss w).length = ss.length := List.length_set
theorem foldW_length (c : List S63) : ∀ ss : List ByteArray, (c.foldl putW ss).length = ss.length := by
 induction c with
 | nil => intro ss; rfl
 | cons w c ih => intro ss; rw [List.foldl_cons, ih, putW_length]
def flushM (l0 : List ByteArray) (l1 : List S63) : List ByteArray × List S63 := if diskOkM l0 l1 = true then (l1.foldl putW l0, []) else (l0, l1)
theorem diskOkM_parts (l0 : List ByteArray) (l1 : List S63) (h : diskOkM l0 l1 = true) : (1 ≤ l0.length ∧ l0.length ≤ 100) ∧ l1.length ≤ 60 ∧ (∀ s, s ∈ l0 → s.size = 32) ∧ ∀ w, w ∈ l1 → (0 ≤ w.f0 ∧ w.f0 ≤ (l0.length : Int) - 1) ∧ w.f1.size = 32 := by
 unfold diskOkM at h
 simp only [Bool.and_eq_true, decide_eq_true_eq, List.all_eq_true, sOk, wOk] at h
 exact ⟨h.1.1, h.1.2, h.2.1, h.2.2⟩
def All32 (ss : List ByteArray) : Prop := ∀ s, s ∈ ss → s.size = 32
theorem all32_getD (ss : List ByteArray) (h : All32 ss) (i : Nat) (hi : i < ss.length) : (ss.getD i ByteArray.empty).size = 32 := by
 rw [List.getD_eq_getElem?_getD, List.getElem?_eq_getElem hi]
 exact h _ (List.getElem_mem hi)
theorem all32_set (ss : List ByteArray) (h : All32 ss) (i : Nat) (x : ByteArray) (hx : x.size = 32) : All32 (ss.set i x) := by
 intro s hs
 rcases List.mem_or_eq_of_mem_set hs with h1 | h1
 ·exact h s h1
 ·rw [h1]; exact hx
theorem spec_FlushDisk_l0 (l0 : List ByteArray) (l1 c1 : List S63) (n : Nat) (hl : l1.length ≤ 60) (hw : ∀ w, w ∈ l1 → 0 ≤ w.f0 ∧ w.f0 ≤ (n : Int) - 1) (d : Nat) : ∀ (i : Nat) (cur : List ByteArray), cur.length = n → l1.length - i = d → i ≤ l1.length →
  Ev (fun k => spec_FlushDisk.l0 k (i : Int) l0 l1 cur c1) ((l1.drop i).foldl putW cur, []) := by
 induction d with
 | zero =>
  intro i cur hc hd hi
  refine ev_succ ?_
  simp only [spec_FlushDisk.l0, if_neg (show ¬ (i : Int) < (l1.length : Int) from by omega)]
  rw [List.drop_eq_nil_of_le (by omega)]
  exact ev_some rfl
 | succ d ih =>
  intro i cur hc hd hi
  have hlt : i < l1.length := by omega
  have hm : l1.getD i z63 ∈ l1 := by
   rw [List.getD_eq_getElem?_getD, List.getElem?_eq_getElem hlt]
   exact List.getElem_mem hlt
  have hb := hw _ hm
  refine ev_succ ?_
  have g1 : (i : Int) < (l1.length : Int) := by omega
  have g2 : (0 : Int) ≤ (i : Int) := by omega
  have g3 : (l1.getD i z63).f0 < (cur.length : Int) := by omega
  simp only [spec_FlushDisk.l0, if_pos g1, if_pos g2, rd_W, if_pos hb.1, if_pos g3, wn i hlt (show l1.length ≤ 140737488355328 by omega)]
  rw [getD_drop z63 l1 i hlt, List.foldl_cons]
  exact ih (i + 1) _ (by rw [List.length_set]; exact hc) (by omega) (by omega)
theorem spec_FlushDisk_ev (l0 : List ByteArray) (l1 : List S63) (h0 : l0.length ≤ 1048576) (h1 : l1.length ≤ 1048576) : Ev (fun k => spec_FlushDisk.f k l0 l1) (flushM l0 l1) := by
 unfold spec_FlushDisk.f flushM
 simp only [spec_l03Copy_f l0 l1 h0 h1, Option.bind_some]
 refine Ev.bind (spec_DiskOk_ev l0 l1) ?_
 refine ev_if (fun h => ?_) (fun h => ?_)
 ·rw [if_pos h]
  obtain ⟨p1, p2, p3, p4⟩ := diskOkM_parts l0 l1 h
  simpa using spec_FlushDisk_l0 l0 l1 l1 l0.length p2 (fun w hw => (p4 w hw).1) _ 0 l0 rfl rfl (by omega)
 ·rw [if_neg h]; exact ev_some rfl

/-! writesector -/
def writeSectorM (l0 : List ByteArray) (l1 : List S63) (a : Int) (s : ByteArray) : List ByteArray × List S63 × Bool :=
 if diskOkM l0 l1 = true ∧ (0 ≤ a ∧ a ≤ (l0.length : Int) - 1) ∧ s.size = 32 ∧ l1.length < 60 then (l0, l1 ++ [⟨a, s⟩], true) else (l0, l1, false)
theorem spec_WriteSector_ev (l0 : List ByteArray) (l1 : List S63) (h0 : l0.length ≤ 1048576) (h1 : l1.length ≤ 1048576) (a : Int) (s : ByteArray) : Ev (fun k => spec_WriteSector.f k l0 l1 a s) (writeSectorM l0 l1 a s) := by
 unfold spec_WriteSector.f writeSectorM
 simp only [spec_l03Copy_f l0 l1 h0 h1, Option.bind_some]
 refine Ev.bind (spec_DiskOk_ev l0 l1) ?_
 simp only [l01In_dec, Option.bind_some]
 have e := w64 (x := (l0.length : Int) - 1) (by omega) (by omega)
 simp only [e]
 clear e
 by_cases c1 : diskOkM l0 l1 = true
 ·simp only [c1, if_true, true_and]
  by_cases c2 : 0 ≤ a ∧ a ≤ (l0.length : Int) - 1
  ·simp only [decide_eq_true c2, if_true, if_pos c2]
   by_cases c3 : s.size = 32
   ·simp only [if_pos (show (s.size : Int) = 32 by omega)]
    by_cases c4 : l1.length < 60
    ·simp only [if_neg (show ¬ (l1.length : Int) ≥ 60 by omega), if_pos (show l1.length < 5864062014805 by omega)]
     exact ev_some (by rw [if_pos ⟨c2, c3, c4⟩])
    ·simp only [if_pos (show (l1.length : Int) ≥ 60 by omega)]
     exact ev_some (by rw [if_neg (fun h => c4 h.2.2)])
   ·simp only [if_neg (show ¬ (s.size : Int) = 32 by omega)]
    exact ev_some (by rw [if_neg (fun h => c3 h.2.1)])
  ·simp only [decide_eq_false c2, Bool.false_eq_true, if_false]
   exact ev_some (by rw [if_neg (fun h => c2 h.1)])
 ·simp only [if_neg c1]
  exact ev_some (by rw [if_neg (fun h => c1 h.1)])

/-! readsector -/
theorem impl_ReadSector_l0 (c : List S63) (hc : c.length ≤ 1048576) (a : Int) (d : Nat) : ∀ (i : Nat) (acc : ByteArray), c.length - i = d → i ≤ c.length →
  Ev (fun k => impl_ReadSector.l0 k a acc c (c.length : Int) (i : Int)) (wrLast a ((c.drop i).map W2) acc, true) := by
 induction d with
 | zero =>
  intro i acc hd hi
  refine ev_succ ?_
  simp only [impl_ReadSector.l0, if_neg (show ¬ (i : Int) < (c.length : Int) from by omega)]
  rw [List.drop_eq_nil_of_le (by omega)]
  exact ev_some rfl
 | succ d ih =>
  intro i acc hd hi
  have hlt : i < c.length := by omega
  have hrd : rd_T63 c (i : Int) = c.getD i z63 := by unfold rd_T63; rw [Int.toNat_natCast]
  refine ev_succ ?_
  simp only [impl_ReadSector.l0, if_pos (show (i : Int) < (c.length : Int) from by omega), if_pos (show (0 : Int) ≤ (i : Int) from by omega), hrd, wn i hlt (show c.length ≤ 140737488355328 from Nat.le_trans hc (by decide))]
  rw [getD_drop z63 c i hlt, List.map_cons, wrLast_cons]
  refine ev_if (fun h => ?_) (fun h => ?_)
  ·rw [if_pos (show (W2 (c.getD i z63)).1 = a from h)]
   exact ih (i + 1) _ (by omega) (by omega)
  ·rw [if_neg (show ¬ (W2 (c.getD i z63)).1 = a from h)]
   exact ih (i + 1) _ (by omega) (by omega)
theorem impl_ReadSector_ev (ss : List ByteArray) (c : List S63) (hs : ss.length ≤ 1048576) (hc : c.length ≤ 1048576) (a : Int) : Ev (fun k => impl_ReadSector.f k ss c a) (readSectorM ss (c.map W2) a) := by
 unfold impl_ReadSector.f readSectorM
 rw [w64 (x := (ss.length : Int) - 1) (by omega) (by omega)]
 simp only [impl_in_eq, Option.bind_some]
 by_cases h : 0 ≤ a ∧ a ≤ (ss.length : Int) - 1
 ·simp only [decide_eq_true h, if_true, if_pos h, if_pos h.1, if_pos (show a < (ss.length : Int) from by omega)]
  have := impl_ReadSector_l0 c hc a _ 0 (rdOf ByteArray.empty ss a) rfl (by omega)
  simpa [rdOf] using this
 ·simp only [decide_eq_false h, Bool.false_eq_true, if_false, if_neg h]
  exact ev_some rfl
theorem spec_ReadSector_l0 (ss : List ByteArray) (c : List S63) (hc : c.length ≤ 1048576) (a : Int) (h0 : 0 ≤ a) (h1 : a < (ss.length : Int)) (n : Nat) : n ≤ c.length →
  Ev (fun k => spec_ReadSector.l0 k a ((n : Int) - 1) ss c) (wrLast a ((c.take n).map W2) (ss.getD a.toNat ByteArray.empty), true) := by
 induction n with
 | zero =>
  intro hn
  refine ev_succ ?_
  simp only [spec_ReadSector.l0, if_neg (show ¬ ((0 : Nat) : Int) - 1 ≥ 0 from by omega), if_pos h0, if_pos h1]
  exact ev_some (by simp [wrLast, rdOf])
 | succ n ih =>
  intro hn
  have hlt : n < c.length := by omega
  have e0 : ((n + 1 : Nat) : Int) - 1 = (n : Int) := by omega
  have hrd : rd_T63 c (n : Int) = c.getD n z63 := by unfold rd_T63; rw [Int.toNat_natCast]
  have e1 := w64 (x := (n : Int) - 1) (by omega) (by omega)
  refine ev_succ ?_
  simp only [spec_ReadSector.l0, e0, if_pos (show (n : Int) ≥ 0 from by omega), if_pos (show (0 : Int) ≤ (n : Int) from by omega), if_pos (show (n : Int) < (c.length : Int) from by omega), hrd, e1]
  rw [List.take_succ_eq_append_getElem hlt, List.map_append, List.map_cons, List.map_nil, wrLast_snoc]
  have e2 : c.getD n z63 = c[n] := by rw [List.getD_eq_getElem?_getD, List.getElem?_eq_getElem hlt]; rfl
  rw [e2]
  refine ev_if (fun h => ?_) (fun h => ?_)
  ·rw [if_pos (show (W2 c[n]).1 = a from h)]
   exact ev_some rfl
  ·rw [if_neg (show ¬ (W2 c[n]).1 = a from h)]
   exact ih (by omega)
theorem spec_ReadSector_ev (ss : List ByteArray) (c : List S63) (hs : ss.length ≤ 1048576) (hc : c.length ≤ 1048576) (a : Int) : Ev (fun k => spec_ReadSector.f k ss c a) (readSectorM ss (c.map W2) a) := by
 unfold spec_ReadSector.f readSectorM
 rw [w64 (x := (ss.length : Int) - 1) (by omega) (by omega), w64 (x := (c.length : Int) - 1) (by omega) (by omega)]
 simp only [spec_in_eq, Option.bind_some]
 by_cases h : 0 ≤ a ∧ a ≤ (ss.length : Int) - 1
 ·simp only [decide_eq_true h, if_true, if_pos h]
  simpa using spec_ReadSector_l0 ss c hc a h.1 (by omega) c.length (Nat.le_refl _)
 ·simp only [decide_eq_false h, Bool.false_eq_true, if_false, if_neg h]
  exact ev_some rfl

/-! drawdisk -/
theorem l03Zero_some : ∃ t : ByteArray, Ev (fun k => spec_l03Zero.f k) t ∧ t.size = 32 := by
 unfold spec_l03Zero.f spec_l01Long.f
 obtain ⟨t, h, hs⟩ := l01Long_l0 32 0 (by omega) 32 0 (List.replicate 32 0) (by omega) (by omega) (by simp)
 refine ⟨t, ?_, hs⟩
 simp only [if_pos (show (0 : Int) ≤ 32 by decide), if_pos (show (32 : Int).toNat ≤ 281474976710656 by decide)]
 exact Ev.bind h (ev_some rfl)
theorem diskNew_l0 (n : Nat) (hn : n ≤ 100) (d : Nat) : ∀ (i : Nat) (acc : List ByteArray), n - i = d → i ≤ n → acc.length = i → All32 acc → ∃ ss : List ByteArray, Ev (fun k => spec_DiskNew.l0 k (n : Int) (i : Int) acc) (ss, [], true) ∧ ss.length = n ∧ All32 ss := by
 obtain ⟨z, hz, hzs⟩ := l03Zero_some
 induction d with
 | zero =>
  intro i acc hd hi ha h32
  refine ⟨acc, ev_succ ?_, by omega, h32⟩
  simp only [spec_DiskNew.l0, if_neg (show ¬ (i : Int) < (n : Int) by omega)]
  exact ev_some rfl
 | succ d ih =>
  intro i acc hd hi ha h32
  obtain ⟨ss, h, hl, hs⟩ := ih (i + 1) (acc ++ [z]) (by omega) (by omega) (by simp; omega) (fun s hs => by
   rcases List.mem_append.1 hs with h | h
   ·exact h32 s h
   ·rw [List.mem_singleton.1 h]; exact hzs)
  refine ⟨ss, ev_succ ?_, hl, hs⟩
  simp only [spec_DiskNew.l0, if_pos (show (i : Int) < (n : Int) by omega), wn i (show i < n by omega) (by omega), if_pos (show acc.length < 8796093022208 by omega)]
  exact Ev.bind hz h
theorem spec_DiskNew_some (n : Int) (hn : 1 ≤ n ∧ n ≤ 100) : ∃ ss : List ByteArray, Ev (fun k => spec_DiskNew.f k n) (ss, [], true) ∧ (ss.length : Int) = n ∧ All32 ss := by
 obtain ⟨m, rfl⟩ := Int.eq_ofNat_of_zero_le (show 0 ≤ n by omega)
 obtain ⟨ss, h, hl, hs⟩ := diskNew_l0 m (by omega) m 0 [] (by omega) (by omega) rfl (fun s hs => by simp at hs)
 refine ⟨ss, ?_, by omega, hs⟩
 unfold spec_DiskNew.f
 simp only [l01In_dec, Option.bind_some, decide_eq_true hn, if_true]
 exact h
theorem diskOkM_of (l0 : List ByteArray) (l1 : List S63) (h1 : 1 ≤ l0.length ∧ l0.length ≤ 100) (h2 : l1.length ≤ 60) (h3 : All32 l0) (h4 : ∀ w, w ∈ l1 → (0 ≤ w.f0 ∧ w.f0 ≤ (l0.length : Int) - 1) ∧ w.f1.size = 32) : diskOkM l0 l1 = true := by
 unfold diskOkM
 simp only [Bool.and_eq_true, decide_eq_true_eq, List.all_eq_true, sOk, wOk]
 exact ⟨⟨h1, h2⟩, h3, h4⟩
def RightD (n m : Nat) (l0 : List ByteArray) (l1 : List S63) : Prop := l0.length = n ∧ (1 ≤ n ∧ n ≤ 100) ∧ l1.length ≤ m ∧ All32 l0 ∧ ∀ w, w ∈ l1 → (0 ≤ w.f0 ∧ w.f0 ≤ (n : Int) - 1) ∧ w.f1.size = 32
theorem rightD_ok {n m : Nat} {l0 : List ByteArray} {l1 : List S63} (h : RightD n m l0 l1) (hm : m ≤ 60) : diskOkM l0 l1 = true := by
 obtain ⟨h1, h2, h3, h4, h5⟩ := h
 exact diskOkM_of l0 l1 (by omega) (by omega) h4 (by rw [h1]; exact h5)
theorem rightD_le {n m m' : Nat} {l0 : List ByteArray} {l1 : List S63} (h : RightD n m l0 l1) (hm : m ≤ m') : RightD n m' l0 l1 := ⟨h.1, h.2.1, Nat.le_trans h.2.2.1 hm, h.2.2.2⟩
theorem rightD_snoc {n m : Nat} {l0 : List ByteArray} {l1 : List S63} (h : RightD n m l0 l1) (a : Int) (s : ByteArray) (ha : 0 ≤ a ∧ a ≤ (n : Int) - 1) (hs : s.size = 32) : RightD n (m + 1) l0 (l1 ++ [⟨a, s⟩]) := by
 obtain ⟨h1, h2, h3, h4, h5⟩ := h
 refine ⟨h1, h2, by simp; omega, h4, fun w hw => ?_⟩
 rcases List.mem_append.1 hw with hw | hw
 ·exact h5 w hw
 ·rw [List.mem_singleton.1 hw]; exact ⟨ha, hs⟩
theorem wrLast_32 (a : Int) (c : List Wr) : ∀ (s : ByteArray), s.size = 32 → (∀ w, w ∈ c → w.2.size = 32) → (wrLast a c s).size = 32 := by
 induction c with
 | nil => intro s hs _; exact hs
 | cons w c ih =>
  intro s hs hc
  rw [wrLast_cons]
  refine ih _ ?_ (fun w hw => hc w (by simp [hw]))
  by_cases h : w.1 = a
  ·rw [if_pos h]; exact hc w (by simp)
  ·rw [if_neg h]; exact hs
theorem readSectorM_32 {n m : Nat} {l0 : List ByteArray} {l1 : List S63} (h : RightD n m l0 l1) (a : Int) (ha : 0 ≤ a ∧ a ≤ (n : Int) - 1) : (readSectorM l0 (l1.map W2) a).2 = true ∧ (readSectorM l0 (l1.map W2) a).1.size = 32 := by
 obtain ⟨h1, h2, h3, h4, h5⟩ := h
 unfold readSectorM
 rw [if_pos (by omega)]
 refine ⟨rfl, wrLast_32 _ _ _ (all32_getD l0 h4 _ (by omega)) (fun w hw => ?_)⟩
 obtain ⟨w', hw', rfl⟩ := List.mem_map.1 hw
 exact (h5 w' hw').2
theorem flush_right {n m : Nat} {l0 : List ByteArray} {l1 : List S63} (h : RightD n m l0 l1) (hm : m ≤ 60) : RightD n 0 (flushM l0 l1).1 (flushM l0 l1).2 := by
 have ho := rightD_ok h hm
 obtain ⟨h1, h2, h3, h4, h5⟩ := h
 unfold flushM
 rw [if_pos ho]
 refine ⟨by rw [foldW_length]; exact h1, h2, by simp, ?_, fun w hw => by simp at hw⟩
 have : ∀ (c : List S63) (ss : List ByteArray), All32 ss → (∀ w, w ∈ c → w.f1.size = 32) → All32 (c.foldl putW ss) := by
  intro c
  induction c with
  | nil => intro ss hs _; exact hs
  | cons w c ih =>
   intro ss hs hc
   exact ih _ (all32_set ss hs _ _ (hc w (by simp))) (fun w hw => hc w (by simp [hw]))
 exact this l1 l0 h4 (fun w hw => (h5 w hw).2)
theorem writeBytes_l0 (l0 : List ByteArray) (l1 : List S63) (n m M : Nat) (h : RightD n m l0 l1) (hmM : m ≤ M) (hM : M ≤ 60) (a b : Nat) (ha : a ≤ 100000) (hb : b ≤ 100000) (t : ByteArray) (ht : t.size ≤ 100000) (d : Nat) :
  ∀ (i q : Nat) (c0 : List ByteArray) (c1 : List S63), t.size - i = d → i ≤ t.size → RightD n q c0 c1 → q ≤ M → (i < t.size → q + ((b + t.size + 31) / 32 - (b + i) / 32) ≤ M) →
  ∃ r0 r1 ok, Ev (fun k => spec_WriteBytes.l0 k (a : Int) (b : Int) t (i : Int) l0 l1 c0 c1) (r0, r1, ok) ∧ RightD n M r0 r1 := by
 have hcopy : spec_l03Copy.f l0 l1 = some (l0, l1) := spec_l03Copy_f l0 l1 (by have := h.1; have := h.2.1; omega) (by have := h.2.2.1; omega)
 induction d using Nat.strongRecOn with
 | _ d ih =>
  intro i q c0 c1 hd hi hc hq hB
  by_cases hlt : i < t.size
  ·obtain ⟨p, hp⟩ : ∃ p : Nat, b + i = p := ⟨_, rfl⟩
   have eP : Aside0 (wrap64 ((b : Int) + (i : Int)) = ((p : Nat) : Int)) := ⟨by rw [w64 (by omega) (by omega)]; omega⟩
   have eD : Aside0 (wrap64 (Int.tdiv (p : Int) 32) = ((p / 32 : Nat) : Int)) := ⟨by rw [Int.tdiv_eq_ediv_of_nonneg (by omega), w64 (by omega) (by omega)]; omega⟩
   have eM : Aside0 (Int.tmod (p : Int) 32 = ((p % 32 : Nat) : Int)) := ⟨by rw [Int.tmod_eq_emod_of_nonneg (by omega)]; omega⟩
   have e1 : Aside0 (wrap64 (32 - ((p % 32 : Nat) : Int)) = ((32 - p % 32 : Nat) : Int)) := ⟨by rw [w64 (by omega) (by omega)]; omega⟩
   have e2 : Aside0 (wrap64 ((t.size : Int) - (i : Int)) = ((t.size - i : Nat) : Int)) := ⟨by rw [w64 (by omega) (by omega)]; omega⟩
   have e3 : Aside0 (wrap64 ((a : Int) + ((p / 32 : Nat) : Int)) = ((a + p / 32 : Nat) : Int)) := ⟨by rw [w64 (by omega) (by omega)]; omega⟩
   have key : ∀ x : Nat, (1 ≤ x ∧ x ≤ 32 - p % 32 ∧ i + x ≤ t.size) → (x = 32 - p % 32 ∨ i + x = t.size) → ∃ r0 r1 ok, Ev (fun k => spec_WriteBytes.j2 k (a : Int) (b : Int) t (i : Int) ((a + p / 32 : Nat) : Int) ((p % 32 : Nat) : Int) (x : Int) l0 l1 c0 c1) (r0, r1, ok) ∧ RightD n M r0 r1 := by
    intro x hx hx2
    have hread := spec_ReadSector_ev c0 c1 (by have := hc.1; have := hc.2.1; omega) (by have := hc.2.2.1; omega) ((a + p / 32 : Nat) : Int)
    have hbad : ∀ s : ByteArray, ∃ r0 r1 ok, Ev (fun k => spec_WriteBytes.j3 k (a : Int) (b : Int) t (i : Int) ((a + p / 32 : Nat) : Int) ((p % 32 : Nat) : Int) (x : Int) s true l0 l1 c0 c1) (r0, r1, ok) ∧ RightD n M r0 r1 := by
     intro s
     refine ⟨l0, l1, false, ev_succ ?_, rightD_le h hmM⟩
     simp only [spec_WriteBytes.j3, if_true, hcopy, Option.bind_some]
     exact ev_some rfl
    by_cases hr : ((a + p / 32 : Nat) : Int) ≤ (n : Int) - 1
    ·obtain ⟨ok1, hs⟩ := readSectorM_32 hc ((a + p / 32 : Nat) : Int) ⟨by omega, hr⟩
     obtain ⟨s, hsv⟩ : ∃ s, (readSectorM c0 (c1.map W2) ((a + p / 32 : Nat) : Int)).1 = s := ⟨_, rfl⟩
     rw [hsv] at hs
     have hnew : ((s.extract 0 (p % 32) ++ t.extract i (i + x)) ++ s.extract (p % 32 + x) s.size).size = 32 := by
      rw [size_append, size_append, size_extract, size_extract, size_extract]; omega
     have hws := spec_WriteSector_ev c0 c1 (by have := hc.1; have := hc.2.1; omega) (by have := hc.2.2.1; omega) ((a + p / 32 : Nat) : Int) ((s.extract 0 (p % 32) ++ t.extract i (i + x)) ++ s.extract (p % 32 + x) s.size)
     have hB' := hB hlt
     have hq1 : q + 1 ≤ M := by omega
     have hwm : writeSectorM c0 c1 ((a + p / 32 : Nat) : Int) ((s.extract 0 (p % 32) ++ t.extract i (i + x)) ++ s.extract (p % 32 + x) s.size) = (c0, c1 ++ [⟨((a + p / 32 : Nat) : Int), (s.extract 0 (p % 32) ++ t.extract i (i + x)) ++ s.extract (p % 32 + x) s.size⟩], true) := by
      unfold writeSectorM
      rw [if_pos ⟨rightD_ok hc (by omega), ⟨by omega, by rw [hc.1]; exact hr⟩, hnew, by have := hc.2.2.1; omega⟩]
     rw [hwm] at hws
     obtain ⟨r0, r1, ok, hr0, hr1⟩ := ih (t.size - (i + x)) (by omega) (i + x) (q + 1) c0 _ rfl (by omega) (rightD_snoc hc ((a + p / 32 : Nat) : Int) _ ⟨by omega, hr⟩ hnew) hq1 (fun hlt2 => by omega)
     refine ⟨r0, r1, ok, ev_succ ?_, hr1⟩
     simp only [spec_WriteBytes.j2]
     refine Ev.bind hread ?_
     simp only [ok1, if_true, hsv]
     have e5 : ((s.size : Int) != 32) = false := by rw [hs]; rfl
     rw [e5]
     clear e5
     refine ev_succ ?_
     have e4 : Aside0 (wrap64 ((i : Int) + (x : Int)) = ((i + x : Nat) : Int)) := ⟨by rw [w64 (by omega) (by omega)]; omega⟩
     have e6 : Aside0 (wrap64 (((p % 32 : Nat) : Int) + (x : Int)) = ((p % 32 + x : Nat) : Int)) := ⟨by rw [w64 (by omega) (by omega)]; omega⟩
     have k1 : (s.extract 0 (p % 32)).size + (t.extract i (i + x)).size ≤ 9223372036854775807 := by rw [size_append, size_append] at hnew; omega
     have k2 : (s.extract 0 (p % 32)).size + (t.extract i (i + x)).size + (s.extract (p % 32 + x) s.size).size ≤ 9223372036854775807 := by rw [size_append, size_append] at hnew; omega
     have g1 : (0 : Int) ≤ ((p % 32 : Nat) : Int) := by omega
     have g2 : ((p % 32 : Nat) : Int) ≤ (s.size : Int) := by omega
     have g3 : (0 : Int) ≤ (i : Int) := by omega
     have g4 : (i : Int) ≤ ((i + x : Nat) : Int) := by omega
     have g5 : ((i + x : Nat) : Int) ≤ (t.size : Int) := by omega
     have g6 : (0 : Int) ≤ ((p % 32 + x : Nat) : Int) := by omega
     have g7 : ((p % 32 + x : Nat) : Int) ≤ (s.size : Int) := by omega
     simp only [spec_WriteBytes.j3, Bool.false_eq_true, if_false, e4.out, e6.out, if_pos g1, if_pos g2, if_pos g3, if_pos g4, if_pos g5, if_pos g6, if_pos g7, Int.toNat_natCast, if_pos k1, if_pos k2]
     refine Ev.bind hws ?_
     simp only [if_true]
     exact hr0
    ·obtain ⟨r0, r1, ok, hr0, hr1⟩ := hbad (⟨#[]⟩ : ByteArray)
     refine ⟨r0, r1, ok, ev_succ ?_, hr1⟩
     have hno : readSectorM c0 (c1.map W2) ((a + p / 32 : Nat) : Int) = ((⟨#[]⟩ : ByteArray), false) := by
      unfold readSectorM
      rw [if_neg (by rw [hc.1]; omega)]
     rw [hno] at hread
     simp only [spec_WriteBytes.j2]
     refine Ev.bind hread ?_
     simp only [Bool.false_eq_true, if_false]
     exact hr0
   by_cases hx : 32 - p % 32 > t.size - i
   ·obtain ⟨r0, r1, ok, hr0, hr1⟩ := key (t.size - i) (by omega) (by omega)
    refine ⟨r0, r1, ok, ev_succ ?_, hr1⟩
    simp only [spec_WriteBytes.l0, if_pos (show (i : Int) < (t.size : Int) by omega), eP.out, eD.out, eM.out, e1.out, e2.out, e3.out, if_pos (show ((32 - p % 32 : Nat) : Int) > ((t.size - i : Nat) : Int) by omega)]
    exact hr0
   ·obtain ⟨r0, r1, ok, hr0, hr1⟩ := key (32 - p % 32) (by omega) (by omega)
    refine ⟨r0, r1, ok, ev_succ ?_, hr1⟩
    simp only [spec_WriteBytes.l0, if_pos (show (i : Int) < (t.size : Int) by omega), eP.out, eD.out, eM.out, e1.out, e2.out, e3.out, if_neg (show ¬ ((32 - p % 32 : Nat) : Int) > ((t.size - i : Nat) : Int) by omega)]
    exact hr0
  ·refine ⟨c0, c1, true, ev_succ ?_, rightD_le hc hq⟩
   simp only [spec_WriteBytes.l0, if_neg (show ¬ (i : Int) < (t.size : Int) by omega)]
   exact ev_some rfl
theorem spec_WriteBytes_some (l0 : List ByteArray) (l1 : List S63) (n m : Nat) (h : RightD n m l0 l1) (hm : m + 3 ≤ 60) (a b : Nat) (ha : a ≤ 100000) (hb : b ≤ 3000) (t : ByteArray) (ht : t.size ≤ 60) :
  ∃ r0 r1 ok, Ev (fun k => spec_WriteBytes.f k l0 l1 (a : Int) (b : Int) t) (r0, r1, ok) ∧ RightD n (m + 3) r0 r1 := by
 have hcopy : spec_l03Copy.f l0 l1 = some (l0, l1) := spec_l03Copy_f l0 l1 (by have := h.1; have := h.2.1; omega) (by have := h.2.2.1; omega)
 have hno : ∃ r0 r1 ok, Ev (fun k => spec_WriteBytes.j0 k (a : Int) (b : Int) t true l0 l1 l0 l1) (r0, r1, ok) ∧ RightD n (m + 3) r0 r1 := by
  refine ⟨l0, l1, false, ev_succ ?_, rightD_le h (by omega)⟩
  simp only [spec_WriteBytes.j0, if_true]
  exact ev_some rfl
 unfold spec_WriteBytes.f
 simp only [hcopy, Option.bind_some, l01In_dec, decide_eq_true (show (0 : Int) ≤ (b : Int) ∧ (b : Int) ≤ 3200 by omega), if_true]
 by_cases c1 : 0 ≤ (a : Int) ∧ (a : Int) ≤ wrap64 ((l0.length : Int) - 1)
 ·simp only [decide_eq_true c1, if_true]
  obtain ⟨r0, r1, ok, hr0, hr1⟩ := writeBytes_l0 l0 l1 n m (m + 3) h (by omega) hm a b ha (by omega) t (by omega) t.size 0 m l0 l1 (by omega) (by omega) h (by omega) (fun _ => by omega)
  refine ⟨r0, r1, ok, ?_, hr1⟩
  refine Ev.bind (spec_DiskOk_ev l0 l1) ?_
  rw [rightD_ok h (by omega)]
  refine ev_succ ?_
  simp only [spec_WriteBytes.j0, Bool.not_true, Bool.false_eq_true, if_false]
  exact hr0
 ·simp only [decide_eq_false c1, Bool.false_eq_true, if_false]
  exact hno
theorem l03Disk_l0 (l : List Int) (hl : l.length ≤ 1048576) (n : Nat) (d : Nat) : ∀ (i m : Nat) (p s : Int) (c0 : List ByteArray) (c1 : List S63), 9 - i = d → i ≤ 9 → m ≤ 3 * i → Inside l p → RightD n m c0 c1 →
  ∃ r0 r1 p' s', Ev (fun k => spec_l03Disk.l0 k (i : Int) l p s c0 c1) (r0, r1, p', s') ∧ RightD n 27 r0 r1 ∧ Inside l p' := by
 induction d with
 | zero =>
  intro i m p s c0 c1 hd hi hm hp hc
  obtain ⟨b, p', s', e, hb, hp'⟩ := l01Below_some l hl p s 9 hp
  refine ⟨c0, c1, p', s', ev_succ ?_, rightD_le hc (by omega), hp'⟩
  have := hb.2 (by omega)
  simp only [spec_l03Disk.l0, e, Option.bind_some, if_neg (show ¬ (i : Int) < b by omega)]
  exact ev_some rfl
 | succ d ih =>
  intro i m p s c0 c1 hd hi hm hp hc
  obtain ⟨b, p1, s1, e, hb, hp1⟩ := l01Below_some l hl p s 9 hp
  by_cases h : (i : Int) < b
  ·obtain ⟨x1, p2, s2, e2, hx1, hp2⟩ := l01Below_some l hl p1 s1 (c0.length : Int) hp1
   obtain ⟨x2, p3, s3, e3, hx2, hp3⟩ := l01Below_some l hl p2 s2 40 hp2
   obtain ⟨x3, p4, s4, e4, hx3, hp4⟩ := l01Below_some l hl p3 s3 50 hp3
   have b1 := hx1.2 (by have := hc.1; have := hc.2.1; omega)
   have b2 := hx2.2 (by omega)
   have b3 := hx3.2 (by omega)
   obtain ⟨t, p5, s5, ht, hts, hp5⟩ := l01Text_some l hl p4 s4 x3 (by omega) hp4
   obtain ⟨a, rfl⟩ := Int.eq_ofNat_of_zero_le hx1.1
   obtain ⟨bb, rfl⟩ := Int.eq_ofNat_of_zero_le hx2.1
   obtain ⟨r0, r1, ok, hw, hrd⟩ := spec_WriteBytes_some c0 c1 n m hc (by omega) a bb (by have := hc.1; have := hc.2.1; omega) (by omega) t (by omega)
   obtain ⟨o, p6, s6, e6, hp6⟩ := l01Once_some l hl p5 s5 4 hp5
   cases o with
   | true =>
    have hf := flush_right hrd (by omega)
    obtain ⟨q0, q1, p', s', hgo, hq, hp'⟩ := ih (i + 1) 0 p6 s6 _ _ (by omega) (by omega) (by omega) hp6 hf
    refine ⟨q0, q1, p', s', ev_succ ?_, hq, hp'⟩
    simp only [spec_l03Disk.l0, e, Option.bind_some, if_pos h, e2, e3, e4]
    refine Ev.bind ht ?_
    refine Ev.bind hw ?_
    simp only [e6, Option.bind_some, if_true]
    refine Ev.bind (spec_FlushDisk_ev r0 r1 (by have := hrd.1; have := hrd.2.1; omega) (by have := hrd.2.2.1; omega)) ?_
    simp only [wn i (show i < 9 by omega) (by omega)]
    exact hgo
   | false =>
    obtain ⟨q0, q1, p', s', hgo, hq, hp'⟩ := ih (i + 1) (m + 3) p6 s6 r0 r1 (by omega) (by omega) (by omega) hp6 hrd
    refine ⟨q0, q1, p', s', ev_succ ?_, hq, hp'⟩
    simp only [spec_l03Disk.l0, e, Option.bind_some, if_pos h, e2, e3, e4]
    refine Ev.bind ht ?_
    refine Ev.bind hw ?_
    simp only [e6, Option.bind_some, Bool.false_eq_true, if_false, wn i (show i < 9 by omega) (by omega)]
    exact hgo
  ·refine ⟨c0, c1, p1, s1, ev_succ ?_, rightD_le hc (by omega), hp1⟩
   simp only [spec_l03Disk.l0, e, Option.bind_some, if_neg h]
   exact ev_some rfl
theorem l03Disk_some (l : List Int) (hl : l.length ≤ 1048576) (p s : Int) (hp : Inside l p) : ∃ n r0 r1 p' s', Ev (fun k => spec_l03Disk.f k l p s) (r0, r1, p', s') ∧ RightD n 27 r0 r1 ∧ Inside l p' := by
 unfold spec_l03Disk.f
 obtain ⟨b, p1, s1, e, hb, hp1⟩ := l01Below_some l hl p s 6 hp
 have := hb.2 (by omega)
 have ew := w64 (x := 1 + b) (by omega) (by omega)
 simp only [e, Option.bind_some, ew]
 clear ew
 obtain ⟨ss, hss, hlen, h32⟩ := spec_DiskNew_some (1 + b) (by omega)
 obtain ⟨r0, r1, p', s', hgo, hr, hp'⟩ := l03Disk_l0 l hl ss.length 9 0 0 p1 s1 ss [] (by omega) (by omega) (by omega) hp1 ⟨rfl, by omega, by simp, h32, fun w hw => by simp at hw⟩
 refine ⟨ss.length, r0, r1, p', s', ?_, hr, hp'⟩
 exact Ev.bind hss hgo
def AnyD (r0 : List ByteArray) (r1 : List S63) : Prop := r0.length ≤ 100 ∧ r1.length ≤ 61 ∧ (∀ s, s ∈ r0 → s.size ≤ 33) ∧ ∀ w, w ∈ r1 → w.f1.size ≤ 33
theorem rightD_any {n m : Nat} {r0 : List ByteArray} {r1 : List S63} (h : RightD n m r0 r1) (hm : m ≤ 60) : AnyD r0 r1 := by
 obtain ⟨h1, h2, h3, h4, h5⟩ := h
 exact ⟨by omega, by omega, fun s hs => by rw [h4 s hs]; omega, fun w hw => by rw [(h5 w hw).2]; omega⟩
theorem l03Any_l0 (l : List Int) (x : Int) (hx : 0 ≤ x) (p s : Int) (d : Nat) : ∀ (r0 : List ByteArray) (r1 : List S63), 61 - r1.length = d → AnyD r0 r1 → ∃ q1, Ev (fun k => spec_l03Any.l0 k x l p s r0 r1) (r0, q1, p, s) ∧ AnyD r0 q1 := by
 have m0 := Int.tmod_nonneg 3 hx
 have m1 := Int.tmod_lt_of_pos x (show (0 : Int) < 3 by decide)
 have ew := w64 (x := 59 + Int.tmod x 3) (by omega) (by omega)
 obtain ⟨z, hz, hzs⟩ := l03Zero_some
 induction d with
 | zero =>
  intro r0 r1 hd h
  refine ⟨r1, ev_succ ?_, h⟩
  simp only [spec_l03Any.l0, ew, if_neg (show ¬ (r1.length : Int) < 59 + Int.tmod x 3 by omega)]
  exact ev_some rfl
 | succ d ih =>
  intro r0 r1 hd h
  by_cases hc : (r1.length : Int) < 59 + Int.tmod x 3
  ·obtain ⟨q1, h1, h2⟩ := ih r0 (r1 ++ [(⟨0, z⟩ : S63)]) (by simp; omega) ⟨h.1, by simp; omega, h.2.2.1, fun w hw => by
    rcases List.mem_append.1 hw with hw | hw
    ·exact h.2.2.2 w hw
    ·rw [List.mem_singleton.1 hw]; simp only; omega⟩
   refine ⟨q1, ev_succ ?_, h2⟩
   simp only [spec_l03Any.l0, ew, if_pos hc]
   refine Ev.bind hz ?_
   simp only [if_pos (show r1.length < 5864062014805 by omega)]
   exact h1
  ·refine ⟨r1, ev_succ ?_, h⟩
   simp only [spec_l03Any.l0, ew, if_neg hc]
   exact ev_some rfl
theorem l03Any_some (l : List Int) (hl : l.length ≤ 1048576) (p s : Int) (hp : Inside l p) : ∃ r0 r1 p' s', Ev (fun k => spec_l03Any.f k l p s) (r0, r1, p', s') ∧ AnyD r0 r1 ∧ Inside l p' := by
 unfold spec_l03Any.f
 obtain ⟨k, p1, s1, e1, hk, hp1⟩ := l01Below_some l hl p s 12 hp
 obtain ⟨x, p2, s2, e2, hx, hp2⟩ := l01Below_some l hl p1 s1 60 hp1
 obtain ⟨n, q0, q1, p3, s3, h3, hR, hp3⟩ := l03Disk_some l hl p2 s2 hp2
 obtain ⟨hn, hn2, hc, h32, hw⟩ := id hR
 have hA := rightD_any hR (by omega)
 have m0 := Int.tmod_nonneg 3 hx.1
 have m1 := Int.tmod_lt_of_pos x (show (0 : Int) < 3 by decide)
 have ew := w64 (x := 31 + Int.tmod x 3) (by omega) (by omega)
 simp only [e1, e2, Option.bind_some, ew]
 clear ew
 have hcopy : spec_l03Copy.f q0 q1 = some (q0, q1) := spec_l03Copy_f q0 q1 (by omega) (by omega)
 by_cases k0 : k = 0
 ·obtain ⟨t, ht, hts⟩ := l01Long_some (31 + Int.tmod x 3) 97 (by omega)
  have i0 := Int.tmod_nonneg (q0.length : Int) hx.1
  have i1 := Int.tmod_lt_of_pos x (show (0 : Int) < (q0.length : Int) by omega)
  refine ⟨q0.set (Int.tmod x (q0.length : Int)).toNat t, q1, p3, s3, ?_, ⟨by rw [List.length_set]; omega, by omega, fun s hs => ?_, fun w hw => hA.2.2.2 w hw⟩, hp3⟩
  ·refine Ev.bind h3 ?_
   simp only [hcopy, Option.bind_some, if_pos k0, if_neg (show ¬ (q0.length : Int) = 0 by omega)]
   refine Ev.bind ht ?_
   simp only [if_pos i0, if_pos i1]
   exact ev_some rfl
  ·rcases List.mem_or_eq_of_mem_set hs with h | h
   ·exact hA.2.2.1 s h
   ·rw [h]; omega
 by_cases k1 : k = 1
 ·obtain ⟨t, ht, hts⟩ := l01Long_some (31 + Int.tmod x 3) 98 (by omega)
  refine ⟨q0, q1 ++ [(⟨wrap64 (Int.tmod x 9 - 1), t⟩ : S63)], p3, s3, ?_, ⟨by omega, by simp; omega, hA.2.2.1, fun w hw => ?_⟩, hp3⟩
  ·refine Ev.bind h3 ?_
   simp only [hcopy, Option.bind_some, if_neg k0, if_pos k1]
   refine Ev.bind ht ?_
   simp only [if_pos (show q1.length < 5864062014805 by omega)]
   exact ev_some rfl
  ·rcases List.mem_append.1 hw with hw | hw
   ·exact hA.2.2.2 w hw
   ·rw [List.mem_singleton.1 hw]; simp only; omega
 by_cases k2 : k = 2
 ·obtain ⟨r1, hr, hrA⟩ := l03Any_l0 l x hx.1 p3 s3 _ q0 q1 rfl hA
  refine ⟨q0, r1, p3, s3, ?_, hrA, hp3⟩
  refine Ev.bind h3 ?_
  simp only [hcopy, Option.bind_some, if_neg k0, if_neg k1, if_pos k2]
  exact hr
 by_cases k3 : k = 3
 ·refine ⟨[], q1, p3, s3, ?_, ⟨by simp, by omega, fun s hs => by simp at hs, hA.2.2.2⟩, hp3⟩
  refine Ev.bind h3 ?_
  simp only [hcopy, Option.bind_some, if_neg k0, if_neg k1, if_neg k2, if_pos k3, if_pos (show (0 : Int) ≤ (q0.length : Int) by omega)]
  exact ev_some rfl
 ·refine ⟨q0, q1, p3, s3, ?_, hA, hp3⟩
  refine Ev.bind h3 ?_
  simp only [hcopy, Option.bind_some, if_neg k0, if_neg k1, if_neg k2, if_neg k3]
  exact ev_some rfl

/-! drawframe -/
theorem l04Frame_some (l : List Int) (hl : l.length ≤ 1048576) (p s : Int) (hp : Inside l p) : ∃ (g q : Int) (b : ByteArray) (p' s' : Int), Ev (fun k => spec_l04Frame.f k l p s) (g, q, b, p', s') ∧ (1 ≤ g ∧ g ≤ 3) ∧ (1 ≤ q ∧ q ≤ 200) ∧ (1 ≤ b.size ∧ b.size ≤ 20) ∧ Inside l p' := by
 unfold spec_l04Frame.f
 obtain ⟨x, p1, s1, e1, hx, hp1⟩ := l01Below_some l hl p s 3 hp
 obtain ⟨y, p2, s2, e2, hy, hp2⟩ := l01Below_some l hl p1 s1 200 hp1
 obtain ⟨z, p3, s3, e3, hz, hp3⟩ := l01Below_some l hl p2 s2 20 hp2
 have hx2 := hx.2 (by omega)
 have hy2 := hy.2 (by omega)
 have hz2 := hz.2 (by omega)
 obtain ⟨t, p4, s4, h4, ht, hp4⟩ := l01Text_some l hl p3 s3 (1 + z) (by omega) hp3
 refine ⟨1 + x, 1 + y, t, p4, s4, ?_, by omega, by omega, by omega, hp4⟩
 simp only [e1, e2, e3, Option.bind_some, w64 (x := 1 + x) (by omega) (by omega), w64 (x := 1 + y) (by omega) (by omega), w64 (x := 1 + z) (by omega) (by omega)]
 exact Ev.bind h4 (ev_some rfl)

/-! frameok -/
theorem spec_FrameOk_eq (a b : Int) (c : ByteArray) : spec_FrameOk.f a b c = some (frameOkM a b c) := by
 unfold spec_FrameOk.f frameOkM
 simp only [spec_in_eq, Option.bind_some]
 by_cases h1 : 1 ≤ a ∧ a ≤ 1000000000 <;> by_cases h2 : 1 ≤ b ∧ b ≤ 1000000000 <;> simp [h1, h2]
theorem impl_FrameOk_eq (a b : Int) (c : ByteArray) : impl_FrameOk.f a b c = some (frameOkM a b c) := by
 unfold impl_FrameOk.f frameOkM
 simp only [impl_in_eq, Option.bind_some]
 by_cases h1 : 1 ≤ a ∧ a ≤ 1000000000 <;> by_cases h2 : 1 ≤ b ∧ b ≤ 1000000000 <;> simp [h1, h2]

/-! sum -/
theorem spec_SumMore_l1 (x : ByteArray) (i : Nat) (hi : i < x.size) (hx : x.size ≤ 140737488351232) (r : Int) (n : Nat) : ∀ (s : Int) (j : Nat), 0 ≤ s ∧ s < 4294967296 → j + n = 8 →
  Ev (fun k => spec_SumMore.l0 k (sumBits n s) x ((i + 1 : Nat) : Int)) r → Ev (fun k => spec_SumMore.l1 k s x (i : Int) (j : Int)) r := by
 induction n with
 | zero =>
  intro s j hs hj h
  refine ev_succ ?_
  simp only [spec_SumMore.l1, if_neg (show ¬ (j : Int) < 8 from by omega), wn i hi (by omega)]
  exact h
 | succ n ih =>
  intro s j hs hj h
  refine ev_succ ?_
  have e1 : Int.tmod s 2 = s % 2 := Int.tmod_eq_emod_of_nonneg hs.1
  have e2 : Int.tdiv s 2 % 4294967296 = s / 2 := by rw [Int.tdiv_eq_ediv_of_nonneg hs.1]; omega
  simp only [spec_SumMore.l1, if_pos (show (j : Int) < 8 from by omega), e1, e2, wn j (show j < 8 from by omega) (by omega)]
  have := ih (sumBit s) (j + 1) (sumBit_range hs) (by omega) h
  unfold sumBit at this
  by_cases h2 : s % 2 = 1
  ·simpa only [if_pos h2] using this
  ·simpa only [if_neg h2] using this
theorem spec_SumMore_l0 (x : ByteArray) (hx : x.size ≤ 140737488351232) (d : Nat) : ∀ (i : Nat) (s : Int), 0 ≤ s ∧ s < 4294967296 → x.size - i = d → i ≤ x.size →
  Ev (fun k => spec_SumMore.l0 k s x (i : Int)) (sumL s ((bytesOf x).drop i)) := by
 induction d with
 | zero =>
  intro i s hs hd hi
  refine ev_succ ?_
  simp only [spec_SumMore.l0, if_neg (show ¬ (i : Int) < (x.size : Int) from by omega)]
  rw [bytes_end x i (by omega)]
  exact ev_some rfl
 | succ d ih =>
  intro i s hs hd hi
  refine ev_succ ?_
  have hb := bt_lt x (i : Int)
  simp only [spec_SumMore.l0, if_pos (show (i : Int) < (x.size : Int) from by omega), if_pos (show (0 : Int) ≤ (i : Int) from by omega), Int.emod_eq_of_lt hb.1 (show bt x (i : Int) < 4294967296 from by omega)]
  rw [bytes_drop x i (by omega)]
  exact spec_SumMore_l1 x i (by omega) hx _ 8 _ 0 (b_xor_range _ _) rfl (ih (i + 1) _ (sumByte_range s _) (by omega) (by omega))
theorem spec_SumMore_ev (s : Int) (x : ByteArray) (hs : 0 ≤ s ∧ s < 4294967296) (hx : x.size ≤ 140737488351232) : Ev (fun k => spec_SumMore.f k s x) (sumL s (bytesOf x)) := by
 simpa [spec_SumMore.f] using spec_SumMore_l0 x hx _ 0 s hs rfl (by omega)
theorem impl_SumMore_l1 (x : ByteArray) (i : Nat) (hi : i < x.size) (hx : x.size ≤ 140737488351232) (r : Int) (n : Nat) : ∀ (s : Int) (j : Nat), 0 ≤ s ∧ s < 4294967296 → j + n = 8 →
  Ev (fun k => impl_SumMore.l0 k (sumBits n s) x (x.size : Int) ((i + 1 : Nat) : Int)) r → Ev (fun k => impl_SumMore.l1 k s x (x.size : Int) (i : Int) (j : Int)) r := by
 induction n with
 | zero =>
  intro s j hs hj h
  refine ev_succ ?_
  simp only [impl_SumMore.l1, if_neg (show ¬ (j : Int) < 8 from by omega), wn i hi (by omega)]
  exact h
 | succ n ih =>
  intro s j hs hj h
  refine ev_succ ?_
  simp only [impl_SumMore.l1, if_pos (show (j : Int) < 8 from by omega), b_and1 s hs.1 hs.2, wn j (show j < 8 from by omega) (by omega)]
  have := ih (sumBit s) (j + 1) (sumBit_range hs) (by omega) h
  unfold sumBit at this
  by_cases h2 : s % 2 = 1
  ·simpa only [if_pos h2] using this
  ·simpa only [if_neg h2] using this
theorem impl_SumMore_l0 (x : ByteArray) (hx : x.size ≤ 140737488351232) (d : Nat) : ∀ (i : Nat) (s : Int), 0 ≤ s ∧ s < 4294967296 → x.size - i = d → i ≤ x.size →
  Ev (fun k => impl_SumMore.l0 k s x (x.size : Int) (i : Int)) (sumL s ((bytesOf x).drop i)) := by
 induction d with
 | zero =>
  intro i s hs hd hi
  refine ev_succ ?_
  simp only [impl_SumMore.l0, if_neg (show ¬ (i : Int) < (x.size : Int) from by omega)]
  rw [bytes_end x i (by omega)]
  exact ev_some rfl
 | succ d ih =>
  intro i s hs hd hi
  refine ev_succ ?_
  have hb := bt_lt x (i : Int)
  simp only [impl_SumMore.l0, if_pos (show (i : Int) < (x.size : Int) from by omega), if_pos (show (0 : Int) ≤ (i : Int) from by omega), Int.emod_eq_of_lt hb.1 (show bt x (i : Int) < 4294967296 from by omega)]
  rw [bytes_drop x i (by omega)]
  exact impl_SumMore_l1 x i (by omega) hx _ 8 _ 0 (b_xor_range _ _) rfl (ih (i + 1) _ (sumByte_range s _) (by omega) (by omega))
theorem impl_SumMore_ev (s : Int) (x : ByteArray) (hs : 0 ≤ s ∧ s < 4294967296) (hx : x.size ≤ 140737488351232) : Ev (fun k => impl_SumMore.f k s x) (sumL s (bytesOf x)) := by
 simpa [impl_SumMore.f] using impl_SumMore_l0 x hx _ 0 s hs rfl (by omega)
theorem spec_SumOf_ev (x : ByteArray) (hx : x.size ≤ 140737488351232) : Ev (fun k => spec_SumOf.f k x) (sumOfM x) :=
 Ev.bind (spec_SumMore_ev _ x (by omega) hx) (ev_some rfl)
theorem impl_SumOf_ev (x : ByteArray) (hx : x.size ≤ 140737488351232) : Ev (fun k => impl_SumOf.f k x) (sumOfM x) :=
 Ev.bind (impl_SumMore_ev _ x (by omega) hx) (ev_some rfl)
theorem impl_seal_ev (x : ByteArray) (hx : x.size ≤ 140737488351232) : Ev (fun k => impl_seal.f k x) (fourS (sumOfM x)) :=
 Ev.bind (impl_SumOf_ev x hx) (ev_some rfl)
theorem spec_l02Four_eq (s : Int) : spec_l02Four.f s = some (fourS s) := rfl

/-! seal -/
theorem spec_Sealed_ev (x : ByteArray) : Ev (fun k => spec_Sealed.f k x) (sealedM x) := by
 unfold spec_Sealed.f sealedM
 by_cases h : (x.size : Int) > 20000
 ·simp only [if_pos h]
  exact ev_some rfl
 ·simp only [if_neg h]
  refine Ev.bind (spec_SumOf_ev x (by omega)) ?_
  have h1 := fourS_size (sumOfM x)
  simp only [spec_l02Four_eq, Option.bind_some, if_pos (show x.size + (fourS (sumOfM x)).size ≤ 9223372036854775807 from by omega)]
  exact ev_some rfl
theorem impl_Sealed_ev (x : ByteArray) : Ev (fun k => impl_Sealed.f k x) (sealedM x) := by
 unfold impl_Sealed.f sealedM
 by_cases h : (x.size : Int) > 20000
 ·simp only [if_pos h]
  exact ev_some rfl
 ·simp only [if_neg h]
  refine Ev.bind (impl_seal_ev x (by omega)) ?_
  have h1 := fourS_size (sumOfM x)
  simp only [if_pos (show x.size + (fourS (sumOfM x)).size ≤ 9223372036854775807 from by omega)]
  exact ev_some rfl

/-! var -/
theorem spec_l01Var_l0 (n : Nat) : ∀ (acc : List Int), n < 9223372036854775808 → acc.length + (varL n).length < 140737488355328 →
  Ev (fun k => spec_l01Var.l0 k (n : Int) acc) (strOfNums (acc ++ varL n)) := by
 induction n using Nat.strongRecOn with
 | _ n ih =>
  intro acc hn hl
  refine ev_succ ?_
  by_cases h : 127 < n
  ·rw [varL_big h] at hl ⊢
   rw [List.length_cons] at hl
   simp only [spec_l01Var.l0, if_pos (show (n : Int) > 127 from by omega), if_pos (show acc.length < 140737488355328 from by omega)]
   have e1 : wrap64 (Int.tdiv (n : Int) 128) = ((n / 128 : Nat) : Int) := by
    rw [Int.tdiv_eq_ediv_of_nonneg (by omega), w64 (by omega) (by omega)]; omega
   have e2 : wrap64 (Int.tmod (n : Int) 128 + 128) % 256 = ((n % 128 + 128 : Nat) : Int) := by
    rw [Int.tmod_eq_emod_of_nonneg (by omega), w64 (by omega) (by omega)]; omega
   simp only [e1, e2]
   have := ih (n / 128) (by omega) (acc ++ [((n % 128 + 128 : Nat) : Int)]) (by omega) (by simp; omega)
   simpa using this
  ·rw [varL_small (by omega)] at hl ⊢
   have hl' : acc.length + 1 < 140737488355328 := by simpa using hl
   simp only [spec_l01Var.l0, if_neg (show ¬ (n : Int) > 127 from by omega), if_pos (show acc.length < 140737488355328 from by omega)]
   rw [show (n : Int) % 256 = (n : Int) from by omega]
   exact ev_some rfl
theorem impl_varText_l0 (n : Nat) : ∀ (acc : List Int), n < 9223372036854775808 → acc.length + (varL n).length < 140737488355328 →
  Ev (fun k => impl_varText.l0 k (n : Int) acc) (strOfNums (acc ++ varL n)) := by
 induction n using Nat.strongRecOn with
 | _ n ih =>
  intro acc hn hl
  refine ev_succ ?_
  by_cases h : 127 < n
  ·rw [varL_big h] at hl ⊢
   rw [List.length_cons] at hl
   simp only [impl_varText.l0, if_pos (show (n : Int) > 127 from by omega), if_pos (show acc.length < 140737488355328 from by omega)]
   have e1 : (n : Int) / 128 = ((n / 128 : Nat) : Int) := by omega
   have e2 : (Go.bits .or .i64 (Go.bits .and .i64 (n : Int) 127) 128) % 256 = ((n % 128 + 128 : Nat) : Int) := by
    rw [b_and127 _ (by omega) (by omega), b_or128 _ (by omega) (by omega)]; omega
   simp only [e1, e2]
   have := ih (n / 128) (by omega) (acc ++ [((n % 128 + 128 : Nat) : Int)]) (by omega) (by simp; omega)
   simpa using this
  ·rw [varL_small (by omega)] at hl ⊢
   have hl' : acc.length + 1 < 140737488355328 := by simpa using hl
   simp only [impl_varText.l0, if_neg (show ¬ (n : Int) > 127 from by omega), if_pos (show acc.length < 140737488355328 from by omega)]
   rw [show (n : Int) % 256 = (n : Int) from by omega]
   exact ev_some rfl
theorem spec_l01Var_ev (n : Nat) (h : n < 70368744177664) : Ev (fun k => spec_l01Var.f k (n : Int)) (varS n) := by
 have := varL_length n
 simpa [spec_l01Var.f, varS] using spec_l01Var_l0 n [] (by omega) (by simp; omega)
theorem impl_varText_ev (n : Nat) (h : n < 70368744177664) : Ev (fun k => impl_varText.f k (n : Int)) (varS n) := by
 have := varL_length n
 simpa [impl_varText.f, varS] using impl_varText_l0 n [] (by omega) (by simp; omega)
theorem spec_l01Var_ev' (a : Int) (h0 : 0 ≤ a) (h : a < 70368744177664) : Ev (fun k => spec_l01Var.f k a) (varS a.toNat) := by
 obtain ⟨n, rfl⟩ := Int.eq_ofNat_of_zero_le h0
 exact spec_l01Var_ev n (by omega)
theorem impl_varText_ev' (a : Int) (h0 : 0 ≤ a) (h : a < 70368744177664) : Ev (fun k => impl_varText.f k a) (varS a.toNat) := by
 obtain ⟨n, rfl⟩ := Int.eq_ofNat_of_zero_le h0
 exact impl_varText_ev n (by omega)

/-! frametext -/
theorem spec_FrameText_ev (a b : Int) (c : ByteArray) : Ev (fun k => spec_FrameText.f k a b c) (frameTextM a b c) := by
 unfold spec_FrameText.f frameTextM
 simp only [spec_FrameOk_eq, Option.bind_some]
 by_cases h : frameOkM a b c = true
 ·simp only [if_pos h]
  have hr := of_decide_eq_true h
  have s1 := varS_size a.toNat
  have s2 := varS_size b.toNat
  have s3 := varS_size c.size
  have l1 := varL_length a.toNat
  have l2 := varL_length b.toNat
  have l3 := varL_length c.size
  refine Ev.bind (spec_l01Var_ev' a (by omega) (by omega)) ?_
  refine Ev.bind (spec_l01Var_ev' b (by omega) (by omega)) ?_
  simp only [if_pos (show (varS a.toNat).size + (varS b.toNat).size ≤ 9223372036854775807 from by omega)]
  refine Ev.bind (spec_l01Var_ev c.size (by omega)) ?_
  simp only [size_append, if_pos (show (varS a.toNat).size + (varS b.toNat).size + (varS c.size).size ≤ 9223372036854775807 from by omega), if_pos (show (varS a.toNat).size + (varS b.toNat).size + (varS c.size).size + c.size ≤ 9223372036854775807 from by omega)]
  exact Ev.bind (spec_Sealed_ev _) (ev_some rfl)
 ·simp only [if_neg h]
  exact ev_some rfl
theorem impl_FrameText_ev (a b : Int) (c : ByteArray) : Ev (fun k => impl_FrameText.f k a b c) (frameTextM a b c) := by
 unfold impl_FrameText.f frameTextM
 simp only [impl_FrameOk_eq, Option.bind_some]
 by_cases h : frameOkM a b c = true
 ·simp only [if_pos h]
  have hr := of_decide_eq_true h
  have s1 := varS_size a.toNat
  have s2 := varS_size b.toNat
  have s3 := varS_size c.size
  have l1 := varL_length a.toNat
  have l2 := varL_length b.toNat
  have l3 := varL_length c.size
  refine Ev.bind (impl_varText_ev' a (by omega) (by omega)) ?_
  refine Ev.bind (impl_varText_ev' b (by omega) (by omega)) ?_
  simp only [if_pos (show (varS a.toNat).size + (varS b.toNat).size ≤ 9223372036854775807 from by omega)]
  refine Ev.bind (impl_varText_ev c.size (by omega)) ?_
  simp only [size_append, if_pos (show (varS a.toNat).size + (varS b.toNat).size + (varS c.size).size ≤ 9223372036854775807 from by omega), if_pos (show (varS a.toNat).size + (varS b.toNat).size + (varS c.size).size + c.size ≤ 9223372036854775807 from by omega)]
  exact Ev.bind (impl_Sealed_ev _) (ev_some rfl)
 ·simp only [if_neg h]
  exact ev_some rfl

/-! sectortext -/
theorem impl_SectorText_l0 (ss : List ByteArray) (c : List S63) (hs : ss.length ≤ 1048576) (hc : c.length ≤ 1048576) (zs : ∀ s, s ∈ ss → s.size ≤ 1048576) (zc : ∀ w, w ∈ c → w.f1.size ≤ 1048576) (a : Int) (ha : -9223372036854775808 ≤ a ∧ a ≤ 9223372036854775807) (n : Nat) (hn : n ≤ 100) (f : Nat) :
  ∀ (i : Nat) (acc : ByteArray), i + f = n → acc.size ≤ i * 1048576 → (i = 0 ∨ (0 ≤ a ∧ a + i ≤ (ss.length : Int))) →
  Ev (fun k => impl_SectorText.l0 k a acc (n : Int) (i : Int) ss c) (stGo ss (c.map W2) a f i acc) := by
 induction f with
 | zero =>
  intro i acc hi hz hr
  refine ev_succ ?_
  simp only [impl_SectorText.l0, if_neg (show ¬ (i : Int) < (n : Int) from by omega)]
  exact ev_some rfl
 | succ f ih =>
  intro i acc hi hz hr
  have e1 : wrap64 (a + (i : Int)) = a + (i : Int) := by
   rcases hr with rfl | hr
   ·exact w64 (by omega) (by omega)
   ·exact w64 (by omega) (by omega)
  have g1 : (i : Int) < (n : Int) := by omega
  have hsz := readSectorM_size ss (c.map W2) (a + (i : Int)) 1048576 zs (by intro w hw; obtain ⟨w', h1, rfl⟩ := List.mem_map.1 hw; exact zc w' h1)
  have hin : (readSectorM ss (c.map W2) (a + (i : Int))).2 = true → 0 ≤ a + (i : Int) ∧ a + (i : Int) < (ss.length : Int) := by
   unfold readSectorM
   by_cases h : 0 ≤ a + (i : Int) ∧ a + (i : Int) ≤ (ss.length : Int) - 1
   ·intro _; omega
   ·rw [if_neg h]; intro h2; simp at h2
  have hi1 : i < n := by omega
  have e2 : wrap64 ((i : Int) + 1) = ((i + 1 : Nat) : Int) := wn i hi1 (Nat.le_trans hn (by decide))
  refine ev_succ ?_
  simp only [impl_SectorText.l0, if_pos g1, e1, e2]
  clear e1 e2
  refine Ev.bind (impl_ReadSector_ev ss c hs hc _) ?_
  unfold stGo
  refine ev_if (fun h => ?_) (fun h => ?_)
  ·rw [if_pos h]
   have h3 := hin h
   have hz2 : acc.size + (readSectorM ss (c.map W2) (a + (i : Int))).1.size ≤ (i + 1) * 1048576 := by rw [Nat.add_mul]; omega
   refine ev_if (fun _ => ?_) (fun hh => absurd (by have : (i + 1) * 1048576 ≤ 101 * 1048576 := Nat.mul_le_mul_right _ (by omega); omega) hh)
   refine ih (i + 1) _ (by omega) (by rw [size_append]; exact hz2) (.inr ?_)
   rcases hr with rfl | hr
   ·exact ⟨by omega, by omega⟩
   ·exact ⟨by omega, by omega⟩
  ·rw [if_neg h]
   exact ev_some rfl
theorem impl_SectorText_ev (ss : List ByteArray) (c : List S63) (hs : ss.length ≤ 1048576) (hc : c.length ≤ 1048576) (zs : ∀ s, s ∈ ss → s.size ≤ 1048576) (zc : ∀ w, w ∈ c → w.f1.size ≤ 1048576) (a n : Int) (ha : -9223372036854775808 ≤ a ∧ a ≤ 9223372036854775807) :
  Ev (fun k => impl_SectorText.f k ss c a n) (sectorTextM ss (c.map W2) a n) := by
 unfold impl_SectorText.f sectorTextM
 simp only [impl_in_eq, Option.bind_some]
 by_cases h : 0 ≤ n ∧ n ≤ 100
 ·obtain ⟨m, rfl⟩ := Int.eq_ofNat_of_zero_le h.1
  simp only [decide_eq_true h, if_true, if_pos h, Int.toNat_natCast]
  exact impl_SectorText_l0 ss c hs hc zs zc a ha m (by omega) m 0 _ (by omega) (by decide) (.inl rfl)
 ·simp only [decide_eq_false h, Bool.false_eq_true, if_false, if_neg h]
  exact ev_some rfl
theorem spec_SectorText_l0 (ss : List ByteArray) (c : List S63) (hs : ss.length ≤ 1048576) (hc : c.length ≤ 1048576) (zs : ∀ s, s ∈ ss → s.size ≤ 1048576) (zc : ∀ w, w ∈ c → w.f1.size ≤ 1048576) (a : Int) (ha : -9223372036854775808 ≤ a ∧ a ≤ 9223372036854775807) (n : Nat) (hn : n ≤ 100) (f : Nat) :
  ∀ (i : Nat) (acc : ByteArray), i + f = n → acc.size ≤ i * 1048576 → (i = 0 ∨ (0 ≤ a ∧ a + i ≤ (ss.length : Int))) →
  Ev (fun k => spec_SectorText.l0 k a (n : Int) acc (i : Int) ss c) (stGo ss (c.map W2) a f i acc) := by
 induction f with
 | zero =>
  intro i acc hi hz hr
  refine ev_succ ?_
  simp only [spec_SectorText.l0, if_neg (show ¬ (i : Int) < (n : Int) from by omega)]
  exact ev_some rfl
 | succ f ih =>
  intro i acc hi hz hr
  have g1 : (i : Int) < (n : Int) := by omega
  have hsz := readSectorM_size ss (c.map W2) (a + (i : Int)) 1048576 zs (by intro w hw; obtain ⟨w', h1, rfl⟩ := List.mem_map.1 hw; exact zc w' h1)
  have hin : (readSectorM ss (c.map W2) (a + (i : Int))).2 = true ↔ 0 ≤ a + (i : Int) ∧ a + (i : Int) ≤ (ss.length : Int) - 1 := by
   unfold readSectorM
   by_cases h : 0 ≤ a + (i : Int) ∧ a + (i : Int) ≤ (ss.length : Int) - 1
   ·rw [if_pos h]; simp; omega
   ·rw [if_neg h]; simp; omega
  have hi1 : i < n := by omega
  unfold stGo
  refine ev_succ ?_
  simp only [spec_SectorText.l0, if_pos g1]
  by_cases hbad : a < 0 ∨ a > (ss.length : Int)
  ·rw [if_neg (fun h => by have := hin.1 h; omega)]
   refine ev_if (fun h => ?_) (fun h => ?_)
   ·refine ev_succ ?_
    simp only [spec_SectorText.j1, if_true]
    exact ev_some rfl
   ·refine ev_succ ?_
    simp only [spec_SectorText.j1, decide_eq_true (show a > (ss.length : Int) from by omega), if_true]
    exact ev_some rfl
  have e1 : wrap64 (a + (i : Int)) = a + (i : Int) := w64 (by omega) (by omega)
  have g2 : ¬ a < 0 := by omega
  have g3 : ¬ a > (ss.length : Int) := by omega
  have e2 : wrap64 ((i : Int) + 1) = ((i + 1 : Nat) : Int) := wn i hi1 (Nat.le_trans hn (by decide))
  simp only [if_neg g2, decide_eq_false g3]
  refine ev_succ ?_
  simp only [spec_SectorText.j1, Bool.false_eq_true, if_false, e1, e2]
  clear e1 e2
  refine Ev.bind (spec_ReadSector_ev ss c hs hc _) ?_
  refine ev_if (fun h => ?_) (fun h => ?_)
  ·rw [if_pos h]
   have h3 := hin.1 h
   have hz2 : acc.size + (readSectorM ss (c.map W2) (a + (i : Int))).1.size ≤ (i + 1) * 1048576 := by rw [Nat.add_mul]; omega
   refine ev_if (fun _ => ?_) (fun hh => absurd (by have : (i + 1) * 1048576 ≤ 101 * 1048576 := Nat.mul_le_mul_right _ (by omega); omega) hh)
   exact ih (i + 1) _ (by omega) (by rw [size_append]; exact hz2) (.inr ⟨by omega, by omega⟩)
  ·rw [if_neg h]
   exact ev_some rfl
theorem spec_SectorText_ev (ss : List ByteArray) (c : List S63) (hs : ss.length ≤ 1048576) (hc : c.length ≤ 1048576) (zs : ∀ s, s ∈ ss → s.size ≤ 1048576) (zc : ∀ w, w ∈ c → w.f1.size ≤ 1048576) (a n : Int) (ha : -9223372036854775808 ≤ a ∧ a ≤ 9223372036854775807) :
  Ev (fun k => spec_SectorText.f k ss c a n) (sectorTextM ss (c.map W2) a n) := by
 unfold spec_SectorText.f sectorTextM
 simp only [spec_in_eq, Option.bind_some]
 by_cases h : 0 ≤ n ∧ n ≤ 100
 ·obtain ⟨m, rfl⟩ := Int.eq_ofNat_of_zero_le h.1
  simp only [decide_eq_true h, if_true, if_pos h, Int.toNat_natCast]
  exact spec_SectorText_l0 ss c hs hc zs zc a ha m (by omega) m 0 _ (by omega) (by decide) (.inl rfl)
 ·simp only [decide_eq_false h, Bool.false_eq_true, if_false, if_neg h]
  exact ev_some rfl
theorem impl_SegFirst_in (g : Int) (h : 0 ≤ g ∧ g ≤ 10) : impl_SegFirst.f g = some (8 + g * 8) := by
 unfold impl_SegFirst.f
 rw [impl_in_eq, Option.bind_some, if_pos (decide_eq_true h), w64 (x := g * 8) (by omega) (by omega), w64 (by omega) (by omega)]
theorem spec_SegFirst_in (g : Int) (h : 0 ≤ g ∧ g ≤ 10) : spec_SegFirst.f g = some (8 + g * 8) := by
 unfold spec_SegFirst.f
 rw [spec_in_eq, Option.bind_some, if_pos (decide_eq_true h), w64 (x := g * 8) (by omega) (by omega), w64 (by omega) (by omega)]
theorem impl_SegText_ev (ss : List ByteArray) (c : List S63) (hs : ss.length ≤ 1048576) (hc : c.length ≤ 1048576) (zs : ∀ s, s ∈ ss → s.size ≤ 1048576) (zc : ∀ w, w ∈ c → w.f1.size ≤ 1048576) (g : Int) :
  Ev (fun k => impl_SegText.f k ss c g) (segTextM ss (c.map W2) g) := by
 unfold impl_SegText.f segTextM
 simp only [impl_in_eq, Option.bind_some]
 by_cases h : 0 ≤ g ∧ g ≤ 10
 ·simp only [decide_eq_true h, if_true, if_pos h, impl_SegFirst_in g h, Option.bind_some]
  exact Ev.bind (impl_SectorText_ev ss c hs hc zs zc _ _ (by omega)) (ev_some rfl)
 ·simp only [decide_eq_false h, Bool.false_eq_true, if_false, if_neg h]
  exact ev_some rfl
theorem spec_SegText_ev (ss : List ByteArray) (c : List S63) (hs : ss.length ≤ 1048576) (hc : c.length ≤ 1048576) (zs : ∀ s, s ∈ ss → s.size ≤ 1048576) (zc : ∀ w, w ∈ c → w.f1.size ≤ 1048576) (g : Int) :
  Ev (fun k => spec_SegText.f k ss c g) (segTextM ss (c.map W2) g) := by
 unfold spec_SegText.f segTextM
 simp only [spec_in_eq, Option.bind_some]
 by_cases h : 0 ≤ g ∧ g ≤ 10
 ·simp only [decide_eq_true h, if_true, if_pos h, spec_SegFirst_in g h, Option.bind_some]
  exact Ev.bind (spec_SectorText_ev ss c hs hc zs zc _ _ (by omega)) (ev_some rfl)
 ·simp only [decide_eq_false h, Bool.false_eq_true, if_false, if_neg h]
  exact ev_some rfl

/-! drawseg -/
theorem spec_WriteBytes_some2 (l0 : List ByteArray) (l1 : List S63) (n m : Nat) (h : RightD n m l0 l1) (hm : m + 9 ≤ 60) (a b : Nat) (ha : a ≤ 100000) (hb : b ≤ 256) (t : ByteArray) (ht : t.size ≤ 256) :
  ∃ r0 r1 ok, Ev (fun k => spec_WriteBytes.f k l0 l1 (a : Int) (b : Int) t) (r0, r1, ok) ∧ RightD n (m + 9) r0 r1 := by
 have hcopy : spec_l03Copy.f l0 l1 = some (l0, l1) := spec_l03Copy_f l0 l1 (by have := h.1; have := h.2.1; omega) (by have := h.2.2.1; omega)
 have hno : ∃ r0 r1 ok, Ev (fun k => spec_WriteBytes.j0 k (a : Int) (b : Int) t true l0 l1 l0 l1) (r0, r1, ok) ∧ RightD n (m + 9) r0 r1 := by
  refine ⟨l0, l1, false, ev_succ ?_, rightD_le h (by omega)⟩
  simp only [spec_WriteBytes.j0, if_true]
  exact ev_some rfl
 unfold spec_WriteBytes.f
 simp only [hcopy, Option.bind_some, l01In_dec, decide_eq_true (show (0 : Int) ≤ (b : Int) ∧ (b : Int) ≤ 3200 by omega), if_true]
 by_cases c1 : 0 ≤ (a : Int) ∧ (a : Int) ≤ wrap64 ((l0.length : Int) - 1)
 ·simp only [decide_eq_true c1, if_true]
  obtain ⟨r0, r1, ok, hr0, hr1⟩ := writeBytes_l0 l0 l1 n m (m + 9) h (by omega) hm a b ha (by omega) t (by omega) t.size 0 m l0 l1 (by omega) (by omega) h (by omega) (fun _ => by omega)
  refine ⟨r0, r1, ok, ?_, hr1⟩
  refine Ev.bind (spec_DiskOk_ev l0 l1) ?_
  rw [rightD_ok h (by omega)]
  refine ev_succ ?_
  simp only [spec_WriteBytes.j0, Bool.not_true, Bool.false_eq_true, if_false]
  exact hr0
 ·simp only [decide_eq_false c1, Bool.false_eq_true, if_false]
  exact hno
theorem spec_SegWrite_some (l0 : List ByteArray) (l1 : List S63) (n m : Nat) (h : RightD n m l0 l1) (hm : m + 9 ≤ 60) (g : Int) (hg : 0 ≤ g ∧ g ≤ 10) (t : ByteArray) (ht : t.size ≤ 140737488351232) :
  ∃ r0 r1 ok, Ev (fun k => spec_SegWrite.f k l0 l1 g 0 t) (r0, r1, ok) ∧ RightD n (m + 9) r0 r1 := by
 have hcopy : spec_l03Copy.f l0 l1 = some (l0, l1) := spec_l03Copy_f l0 l1 (by have := h.1; have := h.2.1; omega) (by have := h.2.2.1; omega)
 have e256 : wrap64 (256 - 0) = 256 := by rw [w64 (by omega) (by omega)]; rfl
 unfold spec_SegWrite.f
 simp only [l01In_dec, Option.bind_some, decide_eq_true hg, decide_eq_true (show (0 : Int) ≤ 0 ∧ (0 : Int) ≤ 256 by decide), if_true, e256]
 by_cases h1 : (t.size : Int) > 256
 ·refine ⟨l0, l1, false, ev_succ ?_, rightD_le h (by omega)⟩
  simp only [spec_SegWrite.j0, decide_eq_true h1, if_true, hcopy, Option.bind_some]
  exact ev_some rfl
 ·obtain ⟨g', rfl⟩ := Int.eq_ofNat_of_zero_le hg.1
  obtain ⟨r0, r1, ok, hr, hR⟩ := spec_WriteBytes_some2 l0 l1 n m h hm (8 + g' * 8) 0 (by omega) (by omega) t (by omega)
  refine ⟨r0, r1, ok, ev_succ ?_, hR⟩
  have e8 : (8 : Int) + (g' : Int) * 8 = ((8 + g' * 8 : Nat) : Int) := by omega
  simp only [spec_SegWrite.j0, decide_eq_false h1, Bool.false_eq_true, if_false, spec_SegFirst_in (g' : Int) hg, Option.bind_some, e8]
  exact Ev.bind hr (ev_some rfl)
theorem l05Disk_l1 (l : List Int) (hl : l.length ≤ 1048576) (n : Nat) (i : Nat) (hi : i < 4) (g q : Int) (hg : 0 ≤ g ∧ g ≤ 10)
  (hk : ∀ (p s : Int) (c0 : List ByteArray) (c1 : List S63), Inside l p → RightD n 0 c0 c1 → ∃ r0 r1 p' s', Ev (fun k => spec_l05Disk.l0 k ((i + 1 : Nat) : Int) l p s c0 c1) (r0, r1, p', s') ∧ RightD n 0 r0 r1 ∧ Inside l p') (d : Nat) :
  ∀ (j : Nat) (T : ByteArray) (p s : Int) (c0 : List ByteArray) (c1 : List S63), 4 - j = d → j ≤ 4 → T.size ≤ 20004 * (j + 1) → Inside l p → RightD n 0 c0 c1 →
  ∃ r0 r1 p' s', Ev (fun k => spec_l05Disk.l1 k (i : Int) g q T (j : Int) l p s c0 c1) (r0, r1, p', s') ∧ RightD n 0 r0 r1 ∧ Inside l p' := by
 have hend : ∀ (j : Nat) (T : ByteArray) (p s p1 s1 b : Int) (c0 : List ByteArray) (c1 : List S63), T.size ≤ 20004 * 5 → RightD n 0 c0 c1 → spec_l01Below.f l p s 4 = some (b, p1, s1) → Inside l p1 → ¬ (j : Int) < b →
   ∃ r0 r1 p' s', Ev (fun k => spec_l05Disk.l1 k (i : Int) g q T (j : Int) l p s c0 c1) (r0, r1, p', s') ∧ RightD n 0 r0 r1 ∧ Inside l p' := by
  intro j T p s p1 s1 b c0 c1 hT hR e hp1 hnb
  obtain ⟨w0, w1, ok, hw, hwR⟩ := spec_SegWrite_some c0 c1 n 0 hR (by omega) g hg T (by omega)
  have hf := spec_FlushDisk_ev w0 w1 (by have := hwR.1; have := hwR.2.1; omega) (by have := hwR.2.2.1; omega)
  have hF := flush_right hwR (by omega)
  obtain ⟨f, hfv⟩ : ∃ f, flushM w0 w1 = f := ⟨_, rfl⟩
  rw [hfv] at hf hF
  obtain ⟨f0, f1⟩ := f
  obtain ⟨r0, r1, p', s', hgo, hr, hp'⟩ := hk p1 s1 f0 f1 hp1 hF
  refine ⟨r0, r1, p', s', ev_succ ?_, hr, hp'⟩
  simp only [spec_l05Disk.l1, e, Option.bind_some, if_neg hnb]
  refine Ev.bind hw ?_
  refine Ev.bind hf ?_
  simp only [wn i (show i < 4 from hi) (by omega)]
  exact hgo
 induction d with
 | zero =>
  intro j T p s c0 c1 hd hj hT hp hR
  obtain ⟨b, p1, s1, e, hb, hp1⟩ := l01Below_some l hl p s 4 hp
  have hb2 := hb.2 (by omega)
  exact hend j T p s p1 s1 b c0 c1 (by omega) hR e hp1 (by omega)
 | succ d ih =>
  intro j T p s c0 c1 hd hj hT hp hR
  obtain ⟨b, p1, s1, e, hb, hp1⟩ := l01Below_some l hl p s 4 hp
  by_cases h : (j : Int) < b
  ·obtain ⟨fg, fq, fb, p2, s2, hfr, h1, h2, h3, hp2⟩ := l04Frame_some l hl p1 s1 hp1
   have hft := spec_FrameText_ev q fq fb
   have hfs := frameTextM_size q fq fb
   obtain ⟨r0, r1, p', s', hgo, hr, hp'⟩ := ih (j + 1) (T ++ (frameTextM q fq fb).1) p2 s2 c0 c1 (by omega) (by omega) (by rw [size_append]; omega) hp2 hR
   refine ⟨r0, r1, p', s', ev_succ ?_, hr, hp'⟩
   simp only [spec_l05Disk.l1, e, Option.bind_some, if_pos h]
   refine Ev.bind hfr ?_
   refine Ev.bind hft ?_
   simp only [if_pos (show T.size + (frameTextM q fq fb).1.size ≤ 9223372036854775807 by omega), wn j (show j < 4 by omega) (by omega)]
   exact hgo
  ·exact hend j T p s p1 s1 b c0 c1 (by omega) hR e hp1 h
theorem l05Disk_l0 (l : List Int) (hl : l.length ≤ 1048576) (n : Nat) (d : Nat) : ∀ (i : Nat) (p s : Int) (c0 : List ByteArray) (c1 : List S63), 4 - i = d → i ≤ 4 → Inside l p → RightD n 0 c0 c1 →
  ∃ r0 r1 p' s', Ev (fun k => spec_l05Disk.l0 k (i : Int) l p s c0 c1) (r0, r1, p', s') ∧ RightD n 0 r0 r1 ∧ Inside l p' := by
 induction d with
 | zero =>
  intro i p s c0 c1 hd hi hp hR
  obtain ⟨b, p1, s1, e, hb, hp1⟩ := l01Below_some l hl p s 4 hp
  have hb2 := hb.2 (by omega)
  refine ⟨c0, c1, p1, s1, ev_succ ?_, hR, hp1⟩
  simp only [spec_l05Disk.l0, e, Option.bind_some, if_neg (show ¬ (i : Int) < b by omega)]
  exact ev_some rfl
 | succ d ih =>
  intro i p s c0 c1 hd hi hp hR
  obtain ⟨b, p1, s1, e, hb, hp1⟩ := l01Below_some l hl p s 4 hp
  by_cases h : (i : Int) < b
  ·obtain ⟨c, p2, s2, e2, hc, hp2⟩ := l01Below_some l hl p1 s1 5 hp1
   have hc2 := hc.2 (by omega)
   have hft := spec_FrameText_ev ((i + 1 : Nat) : Int) 1 (⟨#[115, 101, 103]⟩ : ByteArray)
   have hfs := frameTextM_size ((i + 1 : Nat) : Int) 1 (⟨#[115, 101, 103]⟩ : ByteArray)
   obtain ⟨r0, r1, p', s', hgo, hr, hp'⟩ := l05Disk_l1 l hl n i (by omega) c ((i + 1 : Nat) : Int) (by omega) (fun p s c0 c1 h1 h2 => ih (i + 1) p s c0 c1 (by omega) (by omega) h1 h2) 4 0 _ p2 s2 c0 c1 (by omega) (by omega) hfs hp2 hR
   refine ⟨r0, r1, p', s', ev_succ ?_, hr, hp'⟩
   have ew : wrap64 (1 + (i : Int)) = ((i + 1 : Nat) : Int) := by rw [w64 (by omega) (by omega)]; omega
   simp only [spec_l05Disk.l0, e, e2, Option.bind_some, if_pos h, ew]
   refine Ev.bind hft ?_
   exact hgo
  ·refine ⟨c0, c1, p1, s1, ev_succ ?_, hR, hp1⟩
   simp only [spec_l05Disk.l0, e, Option.bind_some, if_neg h]
   exact ev_some rfl
theorem l05Disk_some (l : List Int) (hl : l.length ≤ 1048576) (p s : Int) (hp : Inside l p) : ∃ n r0 r1 p' s', Ev (fun k => spec_l05Disk.f k l p s) (r0, r1, p', s') ∧ (n = 48 ∨ n = 56 ∨ n = 64) ∧ RightD n 0 r0 r1 ∧ Inside l p' := by
 unfold spec_l05Disk.f
 obtain ⟨b, p1, s1, e, hb, hp1⟩ := l01Below_some l hl p s 3 hp
 have hb2 := hb.2 (by omega)
 have ew : wrap64 (8 + (wrap64 ((wrap64 (5 + b)) * 8))) = 8 + (5 + b) * 8 := by
  rw [w64 (x := 5 + b) (by omega) (by omega), w64 (x := (5 + b) * 8) (by omega) (by omega), w64 (by omega) (by omega)]
 simp only [e, Option.bind_some, ew]
 clear ew
 obtain ⟨ss, hss, hlen, h32⟩ := spec_DiskNew_some (8 + (5 + b) * 8) (by omega)
 obtain ⟨r0, r1, p', s', hgo, hr, hp'⟩ := l05Disk_l0 l hl ss.length 4 0 p1 s1 ss [] (by omega) (by omega) hp1 ⟨rfl, by omega, by simp, h32, fun w hw => by simp at hw⟩
 exact ⟨ss.length, r0, r1, p', s', Ev.bind hss hgo, by omega, hr, hp'⟩
theorem spec_DrawSegDisk_some (l : List Int) (hl : l.length ≤ 1048576) : ∃ n r0 r1, Ev (fun k => spec_DrawSegDisk.f k l) (r0, r1) ∧ (n = 48 ∨ n = 56 ∨ n = 64) ∧ RightD n 0 r0 r1 := by
 unfold spec_DrawSegDisk.f
 obtain ⟨s, hs⟩ := l01New_some l hl
 obtain ⟨n, r0, r1, p', s', h, hn, hr, _⟩ := l05Disk_some l hl 0 s (inside0 l)
 exact ⟨n, r0, r1, Ev.bind hs (Ev.bind h (ev_some rfl)), hn, hr⟩
theorem l05Any_some (l : List Int) (hl : l.length ≤ 1048576) (p s : Int) (hp : Inside l p) : ∃ r0 r1 p' s', Ev (fun k => spec_l05Any.f k l p s) (r0, r1, p', s') ∧ AnyD r0 r1 ∧ Inside l p' := by
 unfold spec_l05Any.f
 obtain ⟨k, p1, s1, e1, hk, hp1⟩ := l01Below_some l hl p s 10 hp
 obtain ⟨x, p2, s2, e2, hx, hp2⟩ := l01Below_some l hl p1 s1 60 hp1
 obtain ⟨n, q0, q1, p3, s3, h3, hn48, hR, hp3⟩ := l05Disk_some l hl p2 s2 hp2
 obtain ⟨hn, hn2, hc, h32, hw⟩ := id hR
 have hA := rightD_any hR (by omega)
 have m0 := Int.tmod_nonneg 30 hx.1
 have m1 := Int.tmod_lt_of_pos x (show (0 : Int) < 30 by decide)
 have ew := w64 (x := 8 + Int.tmod x 30) (by omega) (by omega)
 simp only [e1, e2, Option.bind_some, ew]
 clear ew
 have hcopy : spec_l03Copy.f q0 q1 = some (q0, q1) := spec_l03Copy_f q0 q1 (by omega) (by omega)
 by_cases k0 : k = 0
 ·have i0 := Int.tmod_nonneg (q0.length : Int) hx.1
  have i1 := Int.tmod_lt_of_pos x (show (0 : Int) < (q0.length : Int) by omega)
  refine ⟨q0.take (Int.tmod x (q0.length : Int)).toNat, q1, p3, s3, ?_, ⟨by rw [List.length_take]; omega, by omega, fun s hs => hA.2.2.1 s (List.mem_of_mem_take hs), hA.2.2.2⟩, hp3⟩
  refine Ev.bind h3 ?_
  simp only [hcopy, Option.bind_some, if_pos k0, if_neg (show ¬ (q0.length : Int) = 0 by omega), if_pos i0, if_pos (show Int.tmod x (q0.length : Int) ≤ (q0.length : Int) by omega)]
  exact ev_some rfl
 by_cases k1 : k = 1
 ·by_cases hlt : 8 + Int.tmod x 30 < (q0.length : Int)
  ·obtain ⟨t, ht, hts⟩ := l01Long_some 32 (x % 256) (by omega)
   refine ⟨q0.set (8 + Int.tmod x 30).toNat t, q1, p3, s3, ?_, ⟨by rw [List.length_set]; omega, by omega, fun s hs => ?_, hA.2.2.2⟩, hp3⟩
   ·refine Ev.bind h3 ?_
    simp only [hcopy, Option.bind_some, if_neg k0, if_pos k1, if_pos hlt]
    refine Ev.bind ht ?_
    simp only [if_pos (show 0 ≤ 8 + Int.tmod x 30 by omega)]
    exact ev_some rfl
   ·rcases List.mem_or_eq_of_mem_set hs with h | h
    ·exact hA.2.2.1 s h
    ·rw [h]; omega
  ·refine ⟨q0, q1, p3, s3, ?_, hA, hp3⟩
   refine Ev.bind h3 ?_
   simp only [hcopy, Option.bind_some, if_neg k0, if_pos k1, if_neg hlt]
   exact ev_some rfl
 by_cases k2 : k = 2
 ·obtain ⟨r0, r1, p4, s4, hr, hrA, hp4⟩ := l03Any_some l hl p3 s3 hp3
  refine ⟨r0, r1, p4, s4, ?_, hrA, hp4⟩
  refine Ev.bind h3 ?_
  simp only [hcopy, Option.bind_some, if_neg k0, if_neg k1, if_pos k2]
  exact Ev.bind hr (ev_some rfl)
 ·refine ⟨q0, q1, p3, s3, ?_, hA, hp3⟩
  refine Ev.bind h3 ?_
  simp only [hcopy, Option.bind_some, if_neg k0, if_neg k1, if_neg k2]
  exact ev_some rfl
theorem l05Pair_some (l : List Int) (hl : l.length ≤ 1048576) : ∃ r0 r1 g, Ev (fun k => spec_l05Pair.f k l) (r0, r1, g) ∧ AnyD r0 r1 := by
 unfold spec_l05Pair.f
 obtain ⟨s, hs⟩ := l01New_some l hl
 obtain ⟨v, p2, s2, hv, _, hp2⟩ := l01PickInt_some l hl 0 s (inside0 l) ([0, 1, 2, 3, 4, 5, 10, 11, (-1)] : List Int) (by decide)
 obtain ⟨x0, x1, p3, s3, hx, hA, _⟩ := l05Any_some l hl p2 s2 hp2
 refine ⟨x0, x1, v, ?_, hA⟩
 refine Ev.bind hs ?_
 simp only [hv, Option.bind_some]
 exact Ev.bind hx (ev_some rfl)
theorem spec_DrawSegsOf_some (l : List Int) (hl : l.length ≤ 1048576) : ∃ r0 r1, Ev (fun k => spec_DrawSegsOf.f k l) (r0, r1) ∧ AnyD r0 r1 := by
 unfold spec_DrawSegsOf.f
 obtain ⟨s, hs⟩ := l01New_some l hl
 obtain ⟨b, p1, s1, e, hb, hp1⟩ := l01Below_some l hl 0 s 3 (inside0 l)
 by_cases h : b = 0
 ·obtain ⟨v, p2, s2, hv, hm, hp2⟩ := l01PickInt_some l hl p1 s1 hp1 ([1, 47, 48, 55, 96, 97, 100, 8, 7] : List Int) (by decide)
  have hv2 : 1 ≤ v ∧ v ≤ 100 := by simp at hm; omega
  obtain ⟨ss, hss, hlen, h32⟩ := spec_DiskNew_some v hv2
  refine ⟨ss, [], ?_, ⟨by omega, by simp, fun s hs => by rw [h32 s hs]; omega, fun w hw => by simp at hw⟩⟩
  refine Ev.bind hs ?_
  simp only [e, Option.bind_some, if_pos h, hv]
  exact Ev.bind hss (ev_some rfl)
 ·obtain ⟨x0, x1, p3, s3, hx, hA, _⟩ := l05Any_some l hl p1 s1 hp1
  refine ⟨x0, x1, ?_, hA⟩
  refine Ev.bind hs ?_
  simp only [e, Option.bind_some, if_neg h]
  exact Ev.bind hx (ev_some rfl)

/-! readvar -/
theorem or_comm_i64 (x y : Int) : Go.bits .or .i64 x y = Go.bits .or .i64 y x := by
 unfold bits
 simp only [BitVec.or_comm]
theorem shl7 (k : Nat) (hk : k < 5) (v : Int) (hv : 0 ≤ v ∧ v < 128) : shl .i64 v (wrap64 (7 * (k : Int))) = v * 128 ^ k := by
 rw [w64 (by omega) (by omega)]
 unfold shl
 have e : min (7 * (k : Int)).toNat IntKind.i64.bits = 7 * k := by
  have : IntKind.i64.bits = 64 := rfl
  omega
 rw [e, IntKind.wrap_i64]
 have h : k = 0 ∨ k = 1 ∨ k = 2 ∨ k = 3 ∨ k = 4 := by omega
 rcases h with rfl | rfl | rfl | rfl | rfl <;> omega
theorem or7 (k : Nat) (hk : k < 5) (n v : Int) (hn : 0 ≤ n ∧ n < 128 ^ k) (hv : 0 ≤ v ∧ v < 128) : Go.bits .or .i64 n (v * 128 ^ k) = n + v * 128 ^ k := by
 rw [or_comm_i64]
 have h : k = 0 ∨ k = 1 ∨ k = 2 ∨ k = 3 ∨ k = 4 := by omega
 rcases h with rfl | rfl | rfl | rfl | rfl
 ·rw [bits_join .i64 63 (by decide) b_wraps_i64 0 (v * 128 ^ 0) n (by omega) (by omega) (by omega) hn.1 (by omega) (by omega)]; omega
 ·rw [bits_join .i64 63 (by decide) b_wraps_i64 7 (v * 128 ^ 1) n (by omega) (by omega) (by omega) hn.1 (by omega) (by omega)]; omega
 ·rw [bits_join .i64 63 (by decide) b_wraps_i64 14 (v * 128 ^ 2) n (by omega) (by omega) (by omega) hn.1 (by omega) (by omega)]; omega
 ·rw [bits_join .i64 63 (by decide) b_wraps_i64 21 (v * 128 ^ 3) n (by omega) (by omega) (by omega) hn.1 (by omega) (by omega)]; omega
 ·rw [bits_join .i64 63 (by decide) b_wraps_i64 28 (v * 128 ^ 4) n (by omega) (by omega) (by omega) hn.1 (by omega) (by omega)]; omega
theorem pow5 (k : Nat) (hk : k < 5) (n v : Int) (hn : 0 ≤ n ∧ n < 128 ^ k) (hv : 0 ≤ v ∧ v < 128) : 0 ≤ n + v * 128 ^ k ∧ n + v * 128 ^ k < 128 ^ (k + 1) ∧ 0 ≤ v * 128 ^ k ∧ v * 128 ^ k < 34359738368 ∧ n + v * 128 ^ k < 34359738368 ∧ (128 : Int) ^ k ≤ 268435456 ∧ 0 < (128 : Int) ^ k := by
 have h : k = 0 ∨ k = 1 ∨ k = 2 ∨ k = 3 ∨ k = 4 := by omega
 rcases h with rfl | rfl | rfl | rfl | rfl <;> omega
theorem impl_ReadVar_l0 (x : ByteArray) (hx : x.size ≤ 140737488351232) (a : Nat) (ha : a ≤ x.size) (f : Nat) : ∀ (k : Nat) (n : Int), k + f = 5 → 0 ≤ n ∧ n < 128 ^ k →
  Ev (fun r => impl_ReadVar.l0 r x (a : Int) n (k : Int)) (rvGo x a f k n) := by
 induction f with
 | zero =>
  intro k n hk hn
  refine ev_succ ?_
  simp only [impl_ReadVar.l0, if_neg (show ¬ (k : Int) < 5 from by omega)]
  refine ev_succ ?_
  simp only [impl_ReadVar.j1, Bool.false_eq_true, if_false]
  exact ev_some rfl
 | succ f ih =>
  intro k n hk hn
  refine ev_succ ?_
  have hk1' : k + 1 + f = 5 := by omega
  have e1 : wrap64 ((a : Int) + (k : Int)) = ((a + k : Nat) : Int) := by rw [w64 (by omega) (by omega)]; omega
  simp only [impl_ReadVar.l0, if_pos (show (k : Int) < 5 from by omega), e1]
  refine ev_succ ?_
  unfold rvGo
  by_cases h1 : a + k < x.size
  ·have hb := bt_lt x ((a + k : Nat) : Int)
   have hv : 0 ≤ bt x ((a + k : Nat) : Int) % 128 ∧ bt x ((a + k : Nat) : Int) % 128 < 128 := by omega
   have g1 : ((a + k : Nat) : Int) < (x.size : Int) := by omega
   have g2 : (0 : Int) ≤ ((a + k : Nat) : Int) := by omega
   have g3 : (0 : Int) ≤ 7 * (k : Int) := by omega
   have g4 : bt x ((a + k : Nat) : Int) < 9223372036854775808 := by omega
   have g5 : k < 5 := by omega
   have g6 : x.size ≤ 140737488355328 := by omega
   have g7 : -9223372036854775808 ≤ bt x ((a + k : Nat) : Int) ∧ bt x ((a + k : Nat) : Int) ≤ 9223372036854775807 := by omega
   have g8 : -9223372036854775808 ≤ 7 * (k : Int) ∧ 7 * (k : Int) ≤ 9223372036854775807 := by omega
   have g9 : 5 ≤ 140737488355328 := by omega
   have e6 : wrap64 (((a + k : Nat) : Int) + 1) = ((a + k + 1 : Nat) : Int) := wn (a + k) h1 g6
   have e7 : wrap64 ((k : Int) + 1) = ((k + 1 : Nat) : Int) := wn k g5 g9
   have e2 : wrap64 (bt x ((a + k : Nat) : Int)) = bt x ((a + k : Nat) : Int) := w64 g7.1 g7.2
   have e3 : wrap64 (7 * (k : Int)) = 7 * (k : Int) := w64 g8.1 g8.2
   have e4 := shl7 k g5 _ hv
   rw [e3] at e4
   have e5 := or7 k g5 n _ hn hv
   have hp := pow5 k g5 n _ hn hv
   have hk1 : k + 1 + f = 5 := hk1'
   simp only [impl_ReadVar.j1, decide_eq_true g1, if_true, e1, e2, e3, b_and127 _ hb.1 g4, e4, e5, e6, e7, if_pos g2, if_pos g1, if_pos g3, if_pos h1]
   clear e1 e2 e3 e4 e5 e6 e7
   obtain ⟨p, hpp⟩ : ∃ p : Int, (128 : Int) ^ k = p := ⟨_, rfl⟩
   simp only [hpp] at hp ⊢
   by_cases h2 : bt x ((a + k : Nat) : Int) > 127
   ·simp only [if_pos h2, if_neg (show ¬ bt x ((a + k : Nat) : Int) < 128 from by omega)]
    exact ih (k + 1) _ hk1 ⟨hp.1, hp.2.1⟩
   ·simp only [if_neg h2, if_pos (show bt x ((a + k : Nat) : Int) < 128 from by omega)]
    by_cases h3 : bt x ((a + k : Nat) : Int) = 0
    ·by_cases h4 : 0 < k
     ·simp only [if_pos h3, if_pos (show (k : Int) > 0 from by omega), if_pos (show (bt x ((a + k : Nat) : Int) = 0 ∧ 0 < k) ∨ n + bt x ((a + k : Nat) : Int) % 128 * p > 1000000000 from .inl ⟨h3, h4⟩)]
      exact ev_some rfl
     ·by_cases h5 : n + bt x ((a + k : Nat) : Int) % 128 * p > 1000000000
      ·simp only [if_pos h3, if_neg (show ¬ (k : Int) > 0 from by omega), if_pos h5, if_pos (show (bt x ((a + k : Nat) : Int) = 0 ∧ 0 < k) ∨ n + bt x ((a + k : Nat) : Int) % 128 * p > 1000000000 from .inr h5)]
       exact ev_some rfl
      ·simp only [if_pos h3, if_neg (show ¬ (k : Int) > 0 from by omega), if_neg h5, if_neg (show ¬ ((bt x ((a + k : Nat) : Int) = 0 ∧ 0 < k) ∨ n + bt x ((a + k : Nat) : Int) % 128 * p > 1000000000) from fun h => h.elim (fun h => h4 h.2) h5)]
       exact ev_some rfl
    ·by_cases h5 : n + bt x ((a + k : Nat) : Int) % 128 * p > 1000000000
     ·simp only [if_neg h3, if_pos h5, if_pos (show (bt x ((a + k : Nat) : Int) = 0 ∧ 0 < k) ∨ n + bt x ((a + k : Nat) : Int) % 128 * p > 1000000000 from .inr h5)]
      exact ev_some rfl
     ·simp only [if_neg h3, if_neg h5, if_neg (show ¬ ((bt x ((a + k : Nat) : Int) = 0 ∧ 0 < k) ∨ n + bt x ((a + k : Nat) : Int) % 128 * p > 1000000000) from fun h => h.elim (fun h => h3 h.1) h5)]
      exact ev_some rfl
  ·simp only [impl_ReadVar.j1, decide_eq_false (show ¬ ((a + k : Nat) : Int) < (x.size : Int) from by omega), Bool.false_eq_true, if_false, if_neg h1]
   exact ev_some rfl
theorem impl_ReadVar_ev (x : ByteArray) (hx : x.size ≤ 140737488351232) (a : Int) : Ev (fun r => impl_ReadVar.f r x a) (readVarM x a) := by
 unfold impl_ReadVar.f readVarM
 simp only [impl_in_eq, Option.bind_some]
 by_cases h : 0 ≤ a ∧ a ≤ (x.size : Int)
 ·obtain ⟨m, rfl⟩ := Int.eq_ofNat_of_zero_le h.1
  simp only [decide_eq_true h, if_true, if_pos h]
  exact impl_ReadVar_l0 x hx m (by omega) 5 0 0 rfl (by omega)
 ·simp only [decide_eq_false h, Bool.false_eq_true, if_false, if_neg h]
  exact ev_some rfl
theorem spec_ReadVar_l0 (x : ByteArray) (hx : x.size ≤ 140737488351232) (a : Nat) (ha : a ≤ x.size) (f : Nat) : ∀ (k : Nat), k + f = 5 → a + k ≤ x.size → (∀ b, b ∈ runL x a k → 128 ≤ b ∧ b < 256) →
  Ev (fun r => spec_ReadVar.l0 r x (a : Int) (valL (runL x a k) : Int) (128 ^ k) ((a + k : Nat) : Int)) (rvGo x a f k (valL (runL x a k) : Int)) := by
 induction f with
 | zero =>
  intro k hk hak hp
  refine ev_succ ?_
  have e0 : wrap64 ((a : Int) + 5) = (a : Int) + 5 := w64 (by omega) (by omega)
  by_cases h1 : ((a + k : Nat) : Int) < (x.size : Int)
  ·simp only [spec_ReadVar.l0, if_pos h1, e0, decide_eq_false (show ¬ ((a + k : Nat) : Int) < (a : Int) + 5 from by omega)]
   refine ev_succ ?_
   simp only [spec_ReadVar.j1, Bool.false_eq_true, if_false]
   exact ev_some rfl
  ·simp only [spec_ReadVar.l0, if_neg h1]
   refine ev_succ ?_
   simp only [spec_ReadVar.j1, Bool.false_eq_true, if_false]
   exact ev_some rfl
 | succ f ih =>
  intro k hk hak hp
  refine ev_succ ?_
  have e0 : wrap64 ((a : Int) + 5) = (a : Int) + 5 := w64 (by omega) (by omega)
  unfold rvGo
  by_cases h1 : a + k < x.size
  ·have hl := runL_length x a k hak
   have hlt := valL_lt (runL x a k)
   rw [hl] at hlt
   have hb := bt_lt x ((a + k : Nat) : Int)
   have e3 : Int.tmod (bt x ((a + k : Nat) : Int)) 128 = bt x ((a + k : Nat) : Int) % 128 := Int.tmod_eq_emod_of_nonneg hb.1
   have hv : 0 ≤ bt x ((a + k : Nat) : Int) % 128 ∧ bt x ((a + k : Nat) : Int) % 128 < 128 := by omega
   have g5 : k < 5 := by omega
   have hn : 0 ≤ (valL (runL x a k) : Int) ∧ (valL (runL x a k) : Int) < 128 ^ k := ⟨by omega, by exact_mod_cast hlt⟩
   have hpw := pow5 k g5 _ _ hn hv
   have g1 : ((a + k : Nat) : Int) < (x.size : Int) := by omega
   have g2 : (0 : Int) ≤ ((a + k : Nat) : Int) := by omega
   have g3 : ((a + k : Nat) : Int) < (a : Int) + 5 := by omega
   have g6 : x.size ≤ 140737488355328 := by omega
   have g7 : -9223372036854775808 ≤ bt x ((a + k : Nat) : Int) ∧ bt x ((a + k : Nat) : Int) ≤ 9223372036854775807 := by omega
   have g10 : (0 : Int) ≤ (a : Int) := by omega
   have g11 : (a : Int) ≤ ((a + (k + 1) : Nat) : Int) := by omega
   have g12 : ((a + (k + 1) : Nat) : Int) ≤ (x.size : Int) := by omega
   have g13 : k + 1 + f = 5 := by omega
   have g14 : a + (k + 1) ≤ x.size := by omega
   have e8 : (valL (runL x a k) : Int) + bt x ((a + k : Nat) : Int) % 128 * 128 ^ k = (valL (runL x a (k + 1)) : Int) := by
    rw [runL_succ x a k h1, valL_snoc, hl]
    have : ((bt x ((a + k : Nat) : Int)).toNat % 128 : Nat) = ((bt x ((a + k : Nat) : Int) % 128).toNat) := by omega
    rw [this]
    obtain ⟨v, hvd⟩ : ∃ v, bt x ((a + k : Nat) : Int) % 128 = v := ⟨_, rfl⟩
    rw [hvd] at hv ⊢
    push_cast
    rw [Int.toNat_of_nonneg hv.1]
   obtain ⟨p, hpp⟩ : ∃ p : Int, (128 : Int) ^ k = p := ⟨_, rfl⟩
   have g8 : -9223372036854775808 ≤ bt x ((a + k : Nat) : Int) % 128 * 128 ^ k ∧ bt x ((a + k : Nat) : Int) % 128 * 128 ^ k ≤ 9223372036854775807 := by rw [hpp] at hpw ⊢; omega
   have g9 : -9223372036854775808 ≤ (valL (runL x a k) : Int) + bt x ((a + k : Nat) : Int) % 128 * 128 ^ k ∧ (valL (runL x a k) : Int) + bt x ((a + k : Nat) : Int) % 128 * 128 ^ k ≤ 9223372036854775807 := by rw [hpp] at hpw ⊢; omega
   have g15 : -9223372036854775808 ≤ (128 : Int) ^ k * 128 ∧ (128 : Int) ^ k * 128 ≤ 9223372036854775807 := by rw [hpp] at hpw ⊢; omega
   have e2 : wrap64 (bt x ((a + k : Nat) : Int)) = bt x ((a + k : Nat) : Int) := w64 g7.1 g7.2
   have e4 : wrap64 (bt x ((a + k : Nat) : Int) % 128 * 128 ^ k) = bt x ((a + k : Nat) : Int) % 128 * 128 ^ k := w64 g8.1 g8.2
   have e5 : wrap64 ((valL (runL x a k) : Int) + bt x ((a + k : Nat) : Int) % 128 * 128 ^ k) = (valL (runL x a k) : Int) + bt x ((a + k : Nat) : Int) % 128 * 128 ^ k := w64 g9.1 g9.2
   have e6 : wrap64 (((a + k : Nat) : Int) + 1) = ((a + (k + 1) : Nat) : Int) := wn (a + k) h1 g6
   have e7 : wrap64 ((128 : Int) ^ k * 128) = 128 ^ (k + 1) := by rw [w64 g15.1 g15.2, Int.pow_succ]
   simp only [spec_ReadVar.l0, if_pos g1, e0, decide_eq_true g3]
   refine ev_succ ?_
   simp only [spec_ReadVar.j1, if_true, if_pos g2, if_pos g1, e2, e3, e4, e5, e6, e7, if_pos h1]
   rw [e8]
   clear e0 e2 e3 e4 e5 e6 e7 e8 g8 g9 g15 hpw hpp
   by_cases h2 : bt x ((a + k : Nat) : Int) < 128
   ·simp only [if_pos h2]
    have hc := canon x a k h1 hp h2
    by_cases h5 : (valL (runL x a (k + 1)) : Int) > 1000000000
    ·simp only [if_pos h5, if_pos (show (bt x ((a + k : Nat) : Int) = 0 ∧ 0 < k) ∨ (valL (runL x a (k + 1)) : Int) > 1000000000 from .inr h5)]
     exact ev_some rfl
    ·simp only [if_neg h5]
     refine Ev.bind (spec_l01Var_ev _ (by omega)) ?_
     simp only [if_pos g10, if_pos g11, if_pos g12, tl_iff, Int.toNat_natCast]
     by_cases h6 : bt x ((a + k : Nat) : Int) = 0 ∧ 0 < k
     ·simp only [if_neg (fun h => hc.1 h h6), if_pos (show (bt x ((a + k : Nat) : Int) = 0 ∧ 0 < k) ∨ (valL (runL x a (k + 1)) : Int) > 1000000000 from .inl h6)]
      exact ev_some rfl
     ·simp only [if_pos (hc.2 h6), if_neg (show ¬ ((bt x ((a + k : Nat) : Int) = 0 ∧ 0 < k) ∨ (valL (runL x a (k + 1)) : Int) > 1000000000) from fun h => h.elim h6 h5)]
      exact ev_some rfl
   ·simp only [if_neg h2]
    refine ih (k + 1) g13 g14 ?_
    intro b hb'
    rw [runL_succ x a k h1] at hb'
    rcases List.mem_append.1 hb' with hb' | hb'
    ·exact hp b hb'
    ·have := List.mem_singleton.1 hb'
     omega
  ·simp only [spec_ReadVar.l0, if_neg (show ¬ ((a + k : Nat) : Int) < (x.size : Int) from by omega)]
   refine ev_succ ?_
   simp only [spec_ReadVar.j1, Bool.false_eq_true, if_false, if_neg h1]
   exact ev_some rfl
theorem spec_ReadVar_ev (x : ByteArray) (hx : x.size ≤ 140737488351232) (a : Int) : Ev (fun r => spec_ReadVar.f r x a) (readVarM x a) := by
 unfold spec_ReadVar.f readVarM
 simp only [spec_in_eq, Option.bind_some]
 by_cases h : 0 ≤ a ∧ a ≤ (x.size : Int)
 ·obtain ⟨m, rfl⟩ := Int.eq_ofNat_of_zero_le h.1
  simp only [decide_eq_true h, if_true, if_pos h]
  have := spec_ReadVar_l0 x hx m (by omega) 5 0 rfl (by omega) (by intro b hb; simp [runL] at hb)
  simpa [runL, valL] using this
 ·simp only [decide_eq_false h, Bool.false_eq_true, if_false, if_neg h]
  exact ev_some rfl

/-! readshort -/
theorem impl_ReadShort_ev (x : ByteArray) (hx : x.size ≤ 140737488351232) (a : Int) : Ev (fun r => impl_ReadShort.f r x a) (readShortM x a) := by
 unfold impl_ReadShort.f readShortM
 refine Ev.bind (impl_ReadVar_ev x hx a) ?_
 obtain ⟨i1, i2, i3, i4, i5⟩ := readVarM_range x a
 obtain ⟨⟨n, e, ok⟩, hv⟩ : ∃ v, readVarM x a = v := ⟨_, rfl⟩
 simp only [hv] at i1 i2 i3 i4 i5 ⊢
 cases ok with
 | false => simp only [Bool.false_eq_true, if_false, false_and]; exact ev_some rfl
 | true =>
  simp only [if_true, true_and]
  by_cases h1 : n > 20000
  ·simp only [if_pos h1, if_neg (show ¬ (n ≤ 20000 ∧ n ≤ (x.size : Int) - e) from by omega)]; exact ev_some rfl
  ·rw [w64 (x := (x.size : Int) - e) (by omega) (by omega), w64 (x := e + n) (by omega) (by omega)]
   by_cases h2 : n > (x.size : Int) - e
   ·simp only [if_neg h1, if_pos h2, if_neg (show ¬ (n ≤ 20000 ∧ n ≤ (x.size : Int) - e) from by omega)]; exact ev_some rfl
   ·simp only [if_neg h1, if_neg h2, if_pos (show n ≤ 20000 ∧ n ≤ (x.size : Int) - e from by omega), if_pos i3, if_pos (show e ≤ e + n from by omega), if_pos (show e + n ≤ (x.size : Int) from by omega)]; exact ev_some rfl
theorem spec_ReadShort_ev (x : ByteArray) (hx : x.size ≤ 140737488351232) (a : Int) : Ev (fun r => spec_ReadShort.f r x a) (readShortM x a) := by
 unfold spec_ReadShort.f readShortM
 refine Ev.bind (spec_ReadVar_ev x hx a) ?_
 obtain ⟨i1, i2, i3, i4, i5⟩ := readVarM_range x a
 obtain ⟨⟨n, e, ok⟩, hv⟩ : ∃ v, readVarM x a = v := ⟨_, rfl⟩
 simp only [hv] at i1 i2 i3 i4 i5 ⊢
 cases ok with
 | false => simp only [Bool.false_eq_true, if_false, false_and]; exact ev_some rfl
 | true =>
  simp only [if_true, true_and]
  by_cases h1 : n > 20000
  ·simp only [if_pos h1, if_neg (show ¬ (n ≤ 20000 ∧ n ≤ (x.size : Int) - e) from by omega)]; exact ev_some rfl
  ·rw [w64 (x := (x.size : Int) - e) (by omega) (by omega), w64 (x := e + n) (by omega) (by omega)]
   by_cases h2 : n > (x.size : Int) - e
   ·simp only [if_neg h1, if_pos h2, if_neg (show ¬ (n ≤ 20000 ∧ n ≤ (x.size : Int) - e) from by omega)]; exact ev_some rfl
   ·simp only [if_neg h1, if_neg h2, if_pos (show n ≤ 20000 ∧ n ≤ (x.size : Int) - e from by omega), if_pos i3, if_pos (show e ≤ e + n from by omega), if_pos (show e + n ≤ (x.size : Int) from by omega)]; exact ev_some rfl

/-! readframe -/
theorem spec_ReadFrame_ev (x : ByteArray) (hx : x.size ≤ 140737488351232) (a : Int) : Ev (fun k => spec_ReadFrame.f k x a) (readFrameM x a) := by
 unfold spec_ReadFrame.f readFrameM
 refine Ev.bind (spec_ReadVar_ev x hx a) ?_
 refine Ev.bind (spec_ReadVar_ev x hx _) ?_
 refine Ev.bind (spec_ReadShort_ev x hx _) ?_
 obtain ⟨i1, i2, i3, i4, i5⟩ := readVarM_range x a
 obtain ⟨j1, j2, j3, j4, j5⟩ := readVarM_range x (readVarM x a).2.1
 obtain ⟨k1, k2, k3, k4⟩ := readShortM_range x (readVarM x (readVarM x a).2.1).2.1
 obtain ⟨⟨b, e3, ok3⟩, hv3⟩ : ∃ v, readShortM x (readVarM x (readVarM x a).2.1).2.1 = v := ⟨_, rfl⟩
 obtain ⟨⟨n2, e2, ok2⟩, hv2⟩ : ∃ v, readVarM x (readVarM x a).2.1 = v := ⟨_, rfl⟩
 obtain ⟨⟨n1, e1, ok1⟩, hv1⟩ : ∃ v, readVarM x a = v := ⟨_, rfl⟩
 simp only [hv1] at *
 simp only [hv2] at *
 simp only [hv3] at *
 rw [w64 (x := (x.size : Int) - 4) (by omega) (by omega)]
 refine ev_if (fun c1 => ?_) (fun c1 => ?_)
 rotate_left
 ·refine ev_succ ?_
  simp only [spec_ReadFrame.j0, if_true, c1, false_and, if_false]
  exact ev_some rfl
 refine ev_if (fun c2 => ?_) (fun c2 => ?_)
 rotate_left
 ·refine ev_succ ?_
  simp only [spec_ReadFrame.j0, if_true, c1, c2, false_and, and_false, if_false]
  exact ev_some rfl
 refine ev_if (fun c3 => ?_) (fun c3 => ?_)
 rotate_left
 ·refine ev_succ ?_
  simp only [spec_ReadFrame.j0, if_true, c1, c2, c3, false_and, and_false, if_false]
  exact ev_some rfl
 have a0 := (i5 c1).1
 have a1 := (i5 c1).2
 have a2 := (j5 c2).2
 have a3 := (k4 c3).2
 refine ev_if (fun c4 => ?_) (fun c4 => ?_)
 ·refine ev_succ ?_
  simp only [spec_ReadFrame.j0, if_true]
  rw [if_neg (fun h => absurd h.2.2.1 (by omega))]
  exact ev_some rfl
 refine ev_succ ?_
 simp only [spec_ReadFrame.j0, decide_eq_false (show ¬ a < 0 from by omega), Bool.false_eq_true, if_false]
 refine Ev.bind (spec_FrameText_ev n1 n2 b) ?_
 by_cases hok : frameOkM n1 n2 b = true
 ·have ht := frameTextM_ok n1 n2 b hok
  have ht2 : (frameTextM n1 n2 b).2 = true := by rw [ht]
  rw [w64 (x := e3 + 4) (by omega) (by omega)]
  simp only [if_pos ht2, if_pos a0, if_pos (show a ≤ e3 + 4 from by omega), if_pos (show e3 + 4 ≤ (x.size : Int) from by omega), tl_iff]
  refine ev_if (fun c5 => ?_) (fun c5 => ?_)
  ·rw [if_pos ⟨⟨c1, c2, c3⟩, hok, by omega, c5.symm⟩]
   exact ev_some rfl
  ·rw [if_neg (fun h => c5 h.2.2.2.symm)]
   exact ev_some rfl
 ·have ht2 : ¬ (frameTextM n1 n2 b).2 = true := by unfold frameTextM; rw [if_neg hok]; simp
  simp only [if_neg ht2]
  rw [if_neg (fun h => hok h.2.1)]
  exact ev_some rfl
theorem impl_ReadFrame_ev (x : ByteArray) (hx : x.size ≤ 140737488351232) (a : Int) : Ev (fun k => impl_ReadFrame.f k x a) (readFrameM x a) := by
 unfold impl_ReadFrame.f readFrameM
 refine Ev.bind (impl_ReadVar_ev x hx a) ?_
 refine Ev.bind (impl_ReadVar_ev x hx _) ?_
 refine Ev.bind (impl_ReadShort_ev x hx _) ?_
 obtain ⟨i1, i2, i3, i4, i5⟩ := readVarM_range x a
 obtain ⟨j1, j2, j3, j4, j5⟩ := readVarM_range x (readVarM x a).2.1
 obtain ⟨k1, k2, k3, k4⟩ := readShortM_range x (readVarM x (readVarM x a).2.1).2.1
 obtain ⟨⟨b, e3, ok3⟩, hv3⟩ : ∃ v, readShortM x (readVarM x (readVarM x a).2.1).2.1 = v := ⟨_, rfl⟩
 obtain ⟨⟨n2, e2, ok2⟩, hv2⟩ : ∃ v, readVarM x (readVarM x a).2.1 = v := ⟨_, rfl⟩
 obtain ⟨⟨n1, e1, ok1⟩, hv1⟩ : ∃ v, readVarM x a = v := ⟨_, rfl⟩
 simp only [hv1] at *
 simp only [hv2] at *
 simp only [hv3] at *
 simp only [impl_FrameOk_eq, Option.bind_some]
 rw [w64 (x := (x.size : Int) - e3) (by omega) (by omega)]
 refine ev_if (fun c1 => ?_) (fun c1 => ?_)
 rotate_left
 ·refine ev_succ ?_
  simp only [impl_ReadFrame.j0, if_true, c1, false_and, if_false]
  exact ev_some rfl
 refine ev_if (fun c2 => ?_) (fun c2 => ?_)
 rotate_left
 ·refine ev_succ ?_
  simp only [impl_ReadFrame.j0, if_true, c1, c2, false_and, and_false, if_false]
  exact ev_some rfl
 refine ev_if (fun c3 => ?_) (fun c3 => ?_)
 rotate_left
 ·refine ev_succ ?_
  simp only [impl_ReadFrame.j0, if_true, c1, c2, c3, false_and, and_false, if_false]
  exact ev_some rfl
 have a0 := (i5 c1).1
 have a1 := (i5 c1).2
 have a2 := (j5 c2).2
 have a3 := (k4 c3).2
 refine ev_if (fun hok => ?_) (fun hok => ?_)
 rotate_left
 ·refine ev_succ ?_
  simp only [impl_ReadFrame.j0, if_true]
  rw [if_neg (fun h => hok h.2.1)]
  exact ev_some rfl
 by_cases c4 : (x.size : Int) - e3 < 4
 ·rw [if_neg (fun h => absurd h.2.2.1 (by omega))]
  refine ev_succ ?_
  simp only [impl_ReadFrame.j0, decide_eq_true c4, if_true]
  exact ev_some rfl
 refine ev_succ ?_
 simp only [impl_ReadFrame.j0, decide_eq_false c4, Bool.false_eq_true, if_false]
 refine Ev.bind (impl_FrameText_ev n1 n2 b) ?_
 rw [w64 (x := e3 + 4) (by omega) (by omega)]
 simp only [if_pos a0, if_pos (show a ≤ e3 + 4 from by omega), if_pos (show e3 + 4 ≤ (x.size : Int) from by omega), tl_iff]
 refine ev_if (fun c5 => ?_) (fun c5 => ?_)
 ·rw [if_pos ⟨⟨c1, c2, c3⟩, hok, by omega, c5⟩]
  exact ev_some rfl
 ·rw [if_neg (fun h => c5 h.2.2.2)]
  exact ev_some rfl

/-! seggen -/
theorem impl_SegGen_ev (ss : List ByteArray) (c : List S63) (hs : ss.length ≤ 1048576) (hc : c.length ≤ 1048576) (zs : ∀ s, s ∈ ss → s.size ≤ 1048576) (zc : ∀ w, w ∈ c → w.f1.size ≤ 1048576) (g : Int) :
  Ev (fun k => impl_SegGen.f k ss c g) (segGenM ss (c.map W2) g) := by
 unfold impl_SegGen.f segGenM
 have hz := segTextM_size ss (c.map W2) g 1048576 zs (by intro w hw; obtain ⟨w', h1, rfl⟩ := List.mem_map.1 hw; exact zc w' h1)
 refine Ev.bind (impl_SegText_ev ss c hs hc zs zc g) ?_
 refine Ev.bind (impl_ReadFrame_ev _ (by omega) 0) ?_
 exact ev_ite (ev_some rfl) (ev_some rfl)
theorem spec_SegGen_ev (ss : List ByteArray) (c : List S63) (hs : ss.length ≤ 1048576) (hc : c.length ≤ 1048576) (zs : ∀ s, s ∈ ss → s.size ≤ 1048576) (zc : ∀ w, w ∈ c → w.f1.size ≤ 1048576) (g : Int) :
  Ev (fun k => spec_SegGen.f k ss c g) (segGenM ss (c.map W2) g) := by
 unfold spec_SegGen.f segGenM
 have hz := segTextM_size ss (c.map W2) g 1048576 zs (by intro w hw; obtain ⟨w', h1, rfl⟩ := List.mem_map.1 hw; exact zc w' h1)
 refine Ev.bind (spec_SegText_ev ss c hs hc zs zc g) ?_
 refine Ev.bind (spec_ReadFrame_ev _ (by omega) 0) ?_
 refine ev_if (fun h => ?_) (fun h => ?_)
 ·exact ev_ite (ev_some rfl) (ev_some rfl)
 ·rw [readFrameM_no _ _ h]
  exact ev_some (by rw [if_neg (by rw [ByteArray.toList_eq]; simp)])

/-! scanframes -/
def toS (p : Int × Int × ByteArray) : S74 := ⟨p.1, p.2.1, p.2.2⟩
theorem spec_ScanFrames_l0 (x : ByteArray) (hx : x.size ≤ 1048576) (g : Int) (f : Nat) : ∀ (a : Int) (acc : List S74), 0 ≤ a → a ≤ (x.size : Int) → (x.size : Int) - a < (f : Int) → acc.length ≤ a →
  Ev (fun k => spec_ScanFrames.l0 k x g acc a) (acc ++ (scanGo x g f a).1.map toS, (scanGo x g f a).2) := by
 induction f with
 | zero => intro a acc h0 h1 h2; omega
 | succ f ih =>
  intro a acc h0 h1 h2 h3
  refine ev_succ ?_
  simp only [spec_ScanFrames.l0]
  refine Ev.bind (spec_ReadFrame_ev x (by omega) a) ?_
  unfold scanGo
  refine ev_if (fun c1 => ?_) (fun c1 => ?_)
  ·rw [if_pos c1]
   obtain ⟨b0, b1, b2⟩ := readFrameM_adv x a c1
   refine ev_if (fun c2 => ?_) (fun c2 => ?_)
   ·rw [if_pos c2]
    refine ev_if (fun _ => ?_) (fun h => absurd (by omega) h)
    have := ih (readFrameM x a).2.2.2.1 (acc ++ [toS ((readFrameM x a).1, (readFrameM x a).2.1, (readFrameM x a).2.2.1)]) (by omega) b2 (by omega) (by simp; omega)
    simpa [toS] using this
   ·rw [if_neg c2]
    exact ev_some (by simp)
  ·rw [if_neg c1]
   exact ev_some (by simp)
theorem spec_ScanFrames_ev (x : ByteArray) (hx : x.size ≤ 1048576) (g : Int) : Ev (fun k => spec_ScanFrames.f k x g) ((scanM x g).1.map toS, (scanM x g).2) := by
 unfold spec_ScanFrames.f scanM
 simpa using spec_ScanFrames_l0 x hx g (x.size + 1) 0 [] (by omega) (by omega) (by omega) (by simp)
theorem impl_ScanFrames_l0 (x : ByteArray) (hx : x.size ≤ 1048576) (g : Int) (f : Nat) : ∀ (a : Int) (acc : List S74), 0 ≤ a → a ≤ (x.size : Int) → (x.size : Int) - a < (f : Int) → acc.length ≤ a →
  Ev (fun k => impl_ScanFrames.l0 k x g acc a) (acc ++ (scanGo x g f a).1.map toS, (scanGo x g f a).2) := by
 induction f with
 | zero => intro a acc h0 h1 h2; omega
 | succ f ih =>
  intro a acc h0 h1 h2 h3
  refine ev_succ ?_
  simp only [impl_ScanFrames.l0]
  refine Ev.bind (impl_ReadFrame_ev x (by omega) a) ?_
  unfold scanGo
  refine ev_if (fun c1 => ?_) (fun c1 => ?_)
  ·rw [if_pos c1]
   obtain ⟨b0, b1, b2⟩ := readFrameM_adv x a c1
   refine ev_if (fun c2 => ?_) (fun c2 => ?_)
   ·rw [if_pos c2]
    refine ev_if (fun _ => ?_) (fun h => absurd (by omega) h)
    have := ih (readFrameM x a).2.2.2.1 (acc ++ [toS ((readFrameM x a).1, (readFrameM x a).2.1, (readFrameM x a).2.2.1)]) (by omega) b2 (by omega) (by simp; omega)
    simpa [toS] using this
   ·rw [if_neg c2]
    exact ev_some (by simp)
  ·rw [if_neg c1]
   exact ev_some (by simp)
theorem impl_ScanFrames_ev (x : ByteArray) (hx : x.size ≤ 1048576) (g : Int) : Ev (fun k => impl_ScanFrames.f k x g) ((scanM x g).1.map toS, (scanM x g).2) := by
 unfold impl_ScanFrames.f scanM
 simpa using impl_ScanFrames_l0 x hx g (x.size + 1) 0 [] (by omega) (by omega) (by omega) (by simp)

/-! segframes -/
def segFramesM (ss : List ByteArray) (c : List Wr) (g : Int) : List (Int × Int × ByteArray) × Int :=
 if segGenM ss c g = 0 then ([], 0) else ((scanM (segTextM ss c g) (segGenM ss c g)).1.drop 1, (scanM (segTextM ss c g) (segGenM ss c g)).2)
theorem scanM_one (ss : List ByteArray) (c : List Wr) (g : Int) (h : ¬ segGenM ss c g = 0) : 1 ≤ (scanM (segTextM ss c g) (segGenM ss c g)).1.length := by
 unfold segGenM at h ⊢
 by_cases h1 : (readFrameM (segTextM ss c g) 0).2.2.1.toList = ([115, 101, 103] : List UInt8)
 ·rw [if_pos h1] at h ⊢
  unfold scanM scanGo
  by_cases h2 : (readFrameM (segTextM ss c g) 0).2.2.2.2 = true
  ·rw [if_pos h2, if_pos rfl]
   simp
  ·rw [readFrameM_no _ _ h2] at h
   exact absurd rfl h
 ·rw [if_neg h1] at h
  exact absurd rfl h
theorem segFramesM_length (ss : List ByteArray) (c : List Wr) (g : Int) : (segFramesM ss c g).1.length ≤ (segTextM ss c g).size := by
 unfold segFramesM
 split
 ·simp
 ·have := scanGo_length (segTextM ss c g) (segGenM ss c g) ((segTextM ss c g).size + 1) 0 (by omega) (by omega)
  simp only [List.length_drop]
  unfold scanM
  omega
theorem impl_SegFrames_ev (ss : List ByteArray) (c : List S63) (hs : ss.length ≤ 1048576) (hc : c.length ≤ 1048576) (zs : ∀ s, s ∈ ss → s.size ≤ 10000) (zc : ∀ w, w ∈ c → w.f1.size ≤ 10000) (g : Int) :
  Ev (fun k => impl_SegFrames.f k ss c g) ((segFramesM ss (c.map W2) g).1.map toS, (segFramesM ss (c.map W2) g).2) := by
 unfold impl_SegFrames.f segFramesM
 have hz := segTextM_size ss (c.map W2) g 10000 zs (by intro w hw; obtain ⟨w', h1, rfl⟩ := List.mem_map.1 hw; exact zc w' h1)
 refine Ev.bind (impl_SegGen_ev ss c hs hc (fun s h => by have := zs s h; omega) (fun s h => by have := zc s h; omega) g) ?_
 refine ev_if (fun h => ?_) (fun h => ?_)
 ·rw [if_pos h]; exact ev_some rfl
 ·have h1 := scanM_one ss (c.map W2) g h
  rw [if_neg h]
  refine Ev.bind (impl_SegText_ev ss c hs hc (fun s h => by have := zs s h; omega) (fun s h => by have := zc s h; omega) g) ?_
  refine Ev.bind (impl_ScanFrames_ev _ (by omega) _) ?_
  simp only [List.length_map, if_pos (show (1 : Int) ≤ ((scanM (segTextM ss (c.map W2) g) (segGenM ss (c.map W2) g)).1.length : Int) by omega)]
  exact ev_some (by rw [List.map_drop]; rfl)
theorem spec_SegFrames_ev (ss : List ByteArray) (c : List S63) (hs : ss.length ≤ 1048576) (hc : c.length ≤ 1048576) (zs : ∀ s, s ∈ ss → s.size ≤ 10000) (zc : ∀ w, w ∈ c → w.f1.size ≤ 10000) (g : Int) :
  Ev (fun k => spec_SegFrames.f k ss c g) ((segFramesM ss (c.map W2) g).1.map toS, (segFramesM ss (c.map W2) g).2) := by
 unfold spec_SegFrames.f segFramesM
 have hz := segTextM_size ss (c.map W2) g 10000 zs (by intro w hw; obtain ⟨w', h1, rfl⟩ := List.mem_map.1 hw; exact zc w' h1)
 have hl := scanGo_length (segTextM ss (c.map W2) g) (segGenM ss (c.map W2) g) ((segTextM ss (c.map W2) g).size + 1) 0 (by omega) (by omega)
 have hl2 : (scanM (segTextM ss (c.map W2) g) (segGenM ss (c.map W2) g)).1.length ≤ 1048576 := by unfold scanM; omega
 refine Ev.bind (spec_SegGen_ev ss c hs hc (fun s h => by have := zs s h; omega) (fun s h => by have := zc s h; omega) g) ?_
 refine ev_if (fun h => ?_) (fun h => ?_)
 ·rw [if_pos h]; exact ev_some rfl
 ·have h1 := scanM_one ss (c.map W2) g h
  rw [if_neg h]
  refine Ev.bind (spec_SegText_ev ss c hs hc (fun s h => by have := zs s h; omega) (fun s h => by have := zc s h; omega) g) ?_
  refine Ev.bind (spec_ScanFrames_ev _ (by omega) _) ?_
  simp only [Option.bind_some, List.length_map, List.length_nil, List.length_drop, if_pos (show (1 : Int) ≤ ((scanM (segTextM ss (c.map W2) g) (segGenM ss (c.map W2) g)).1.length : Int) by omega), if_pos (show 0 + ((scanM (segTextM ss (c.map W2) g) (segGenM ss (c.map W2) g)).1.length - 1) < 4398046511104 by omega)]
  exact ev_some (by rw [List.map_drop]; rfl)

/-! same -/
theorem sameFrames_l0 (l : List S74) (hl : l.length ≤ 104857600) (d : Nat) : ∀ i : Nat, l.length - i = d → i ≤ l.length → Ev (fun k => laws_sameFrames.l0 k l l (i : Int)) true := by
 induction d with
 | zero =>
  intro i hd hi
  refine ev_succ ?_
  simp only [laws_sameFrames.l0, if_neg (show ¬ (i : Int) < (l.length : Int) by omega)]
  exact ev_some rfl
 | succ d ih =>
  intro i hd hi
  refine ev_succ ?_
  simp only [laws_sameFrames.l0, if_pos (show (i : Int) < (l.length : Int) by omega), if_pos (show (0 : Int) ≤ (i : Int) by omega), beq_self_eq_true, Bool.not_true, Bool.or_self, Bool.false_eq_true, if_false, wn i (show i < l.length by omega) (by omega)]
  exact ih (i + 1) (by omega) (by omega)
theorem sameFrames_refl (l : List S74) (hl : l.length ≤ 104857600) : Ev (fun k => laws_sameFrames.f k l l) true := by
 unfold laws_sameFrames.f
 simp only [if_true]
 exact sameFrames_l0 l hl _ 0 rfl (by omega)

theorem segsOf_same (r0 : List ByteArray) (r1 : List S63) : ∃ v, impl_SegsOf.f r0 r1 = some v ∧ spec_SegsOf.f r0 r1 = some v := by
 unfold impl_SegsOf.f spec_SegsOf.f
 simp only [impl_in_eq, spec_in_eq, Option.bind_some]
 by_cases h : 5 ≤ wrap64 (Int.tdiv (wrap64 ((r0.length : Int) - 8)) 8) ∧ wrap64 (Int.tdiv (wrap64 ((r0.length : Int) - 8)) 8) ≤ 11
 ·simp only [decide_eq_true h, if_true]
  exact ⟨_, rfl, rfl⟩
 ·simp only [decide_eq_false h, Bool.false_eq_true, if_false]
  exact ⟨_, rfl, rfl⟩
theorem FnSegmentsTold_l0 (g : Int) (F : List S74) (e : Int) (hF : F.length ≤ 104857600) (x0 : List ByteArray) (x1 : List S63) (hx : AnyD x0 x1) (y0 : List ByteArray) (y1 : List S63) (z0 : List ByteArray) (z1 : List S63) (hz : AnyD z0 z1) (d : Nat) :
  ∀ i : Nat, 11 - i = d → i ≤ 11 → Ev (fun k => laws_FnSegmentsTold.l0 k g F e F e false (i : Int) x0 x1 y0 y1 z0 z1) true := by
 obtain ⟨a1, a2, a3, a4⟩ := hx
 obtain ⟨b1, b2, b3, b4⟩ := hz
 obtain ⟨v, hv1, hv2⟩ := segsOf_same y0 y1
 have a5 : ∀ s, s ∈ x0 → s.size ≤ 1048576 := fun s h => by have := a3 s h; omega
 have a6 : ∀ w, w ∈ x1 → w.f1.size ≤ 1048576 := fun s h => by have := a4 s h; omega
 have b5 : ∀ s, s ∈ z0 → s.size ≤ 1048576 := fun s h => by have := b3 s h; omega
 have b6 : ∀ w, w ∈ z1 → w.f1.size ≤ 1048576 := fun s h => by have := b4 s h; omega
 induction d with
 | zero =>
  intro i hd hi
  refine ev_succ ?_
  simp only [laws_FnSegmentsTold.l0, if_neg (show ¬ (i : Int) < 11 by omega), Bool.false_eq_true, if_false]
  refine Ev.bind (sameFrames_refl F hF) ?_
  simp only [if_true]
  refine Ev.bind (impl_SegGen_ev x0 x1 (by omega) (by omega) a5 a6 g) ?_
  refine Ev.bind (spec_SegGen_ev x0 x1 (by omega) (by omega) a5 a6 g) ?_
  simp only [if_true]
  refine Ev.bind (impl_SegText_ev x0 x1 (by omega) (by omega) a5 a6 g) ?_
  refine Ev.bind (spec_SegText_ev x0 x1 (by omega) (by omega) a5 a6 g) ?_
  simp only [if_true, hv1, hv2, Option.bind_some, impl_SegFirst_in 1 (by decide)]
  exact ev_some rfl
 | succ d ih =>
  intro i hd hi
  refine ev_succ ?_
  simp only [laws_FnSegmentsTold.l0, if_pos (show (i : Int) < 11 by omega), Bool.false_eq_true, if_false]
  refine Ev.bind (impl_SegGen_ev z0 z1 (by omega) (by omega) b5 b6 (i : Int)) ?_
  refine Ev.bind (spec_SegGen_ev z0 z1 (by omega) (by omega) b5 b6 (i : Int)) ?_
  simp only [bne_self_eq_false, wn i (show i < 11 by omega) (by omega)]
  exact ih (i + 1) (by omega) (by omega)
theorem FnSegmentsTold : laws_FnSegmentsTold.Pure := by
 intro l _ _ _
 refine Ev.rounds ?_
 unfold laws_FnSegmentsTold.f laws_big.f
 simp only [Option.bind_some]
 by_cases hz : (l.length : Int) > 1048576
 ·simp only [decide_eq_true hz, if_true]
  exact ev_some rfl
 simp only [decide_eq_false hz, Bool.false_eq_true, if_false]
 have hl : l.length ≤ 1048576 := by omega
 obtain ⟨x0, x1, g, hx, hA⟩ := l05Pair_some l hl
 obtain ⟨y0, y1, hy, hB⟩ := spec_DrawSegsOf_some l hl
 obtain ⟨n, z0, z1, hzd, hn, hR⟩ := spec_DrawSegDisk_some l hl
 obtain ⟨a1, a2, a3, a4⟩ := id hA
 have a5 : ∀ s, s ∈ x0 → s.size ≤ 10000 := fun s h => by have := a3 s h; omega
 have a6 : ∀ w, w ∈ x1 → w.f1.size ≤ 10000 := fun s h => by have := a4 s h; omega
 have hdr : Ev (fun k => spec_DrawSegFrames.f k l) (x0, x1, g) := by
  unfold spec_DrawSegFrames.f
  exact Ev.bind hx (ev_some rfl)
 refine Ev.bind hdr ?_
 refine Ev.bind (impl_SegFrames_ev x0 x1 (by omega) (by omega) a5 a6 g) ?_
 refine Ev.bind (spec_SegFrames_ev x0 x1 (by omega) (by omega) a5 a6 g) ?_
 refine Ev.bind hy ?_
 refine Ev.bind hzd ?_
 have h1 := segFramesM_length x0 (x1.map W2) g
 have h2 := segTextM_size x0 (x1.map W2) g 10000 a5 (by intro w hw; obtain ⟨w', h1, rfl⟩ := List.mem_map.1 hw; exact a6 w' h1)
 exact FnSegmentsTold_l0 g _ _ (by rw [List.length_map]; omega) x0 x1 hA y0 y1 z0 z1 (rightD_any hR (by omega)) 11 0 (by omega) (by omega)

end Go.Proofs.Ytjpngldnkgofaaa.Pure
