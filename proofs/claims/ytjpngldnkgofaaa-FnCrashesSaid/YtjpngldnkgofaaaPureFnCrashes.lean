/- The pure statement of FnCrashes, over numbers and lists: it is true of every argument; no condition but the bounds that the statement itself names. -/
import Derived.Test.YtjpngldnkgofaaaPFnCrashesx17
import Derived.Test.YtjpngldnkgofaaaVFnCrashes1
set_option linter.unusedVariables false
set_option linter.unusedSimpArgs false
namespace Go.Proofs.Ytjpngldnkgofaaa.Pure
open Go.RowKit Go.Proofs.Ytjpngldnkgofaaa.PFnCrashes Go.Proofs.YtjpngldnkgofaaaW.PrintWords Go.Proofs.YtjpngldnkgofaaaW.PrintLast Go.Proofs.YtjpngldnkgofaaaW.PrintMore Go.Proofs.Ytjpngldnkgofaaa.Base

/-! draws -/
theorem and255 (x : Int) : 0 ≤ bits .and .i64 x 255 ∧ bits .and .i64 x 255 ≤ 255 := by
  unfold bits
  have h : (BitVec.ofInt (IntKind.bits .i64) x &&& BitVec.ofInt (IntKind.bits .i64) 255).toNat ≤ 255 := by
    rw [BitVec.toNat_and]
    exact Nat.le_trans Nat.and_le_right (by decide)
  simp only
  rw [b_wraps_i64 _ (by omega) (by omega)]
  omega
/-- Where a drawing stands: inside its bytes. -/
def Inside (l : List Int) (p : Int) : Prop := 0 ≤ p ∧ p ≤ (l.length : Int)
theorem l01Byte_some (l : List Int) (hl : l.length ≤ 1048576) (p s : Int) (hp : Inside l p) : ∃ b p' s', spec_l01Byte.f l p s = some (b, p', s') ∧ (0 ≤ b ∧ b ≤ 255) ∧ Inside l p' := by
  obtain ⟨h0, h1⟩ := hp
  unfold spec_l01Byte.f
  by_cases h : p < (l.length : Int)
  · rw [if_pos h, if_pos h0]
    refine ⟨_, _, _, rfl, and255 _, ?_⟩
    have e := w64 (x := p + 1) (by omega) (by omega)
    rw [e]
    exact ⟨by omega, by omega⟩
  · rw [if_neg h]
    exact ⟨_, _, _, rfl, and255 _, h0, h1⟩
theorem l01Below_some (l : List Int) (hl : l.length ≤ 1048576) (p s n : Int) (hp : Inside l p) : ∃ b p' s', spec_l01Below.f l p s n = some (b, p', s') ∧ (0 ≤ b ∧ (0 < n → b < n)) ∧ Inside l p' := by
  unfold spec_l01Below.f
  by_cases h : n ≤ 0
  · rw [if_pos h]
    exact ⟨_, _, _, rfl, ⟨Int.le_refl _, fun h2 => by omega⟩, hp⟩
  · rw [if_neg h]
    by_cases h2 : n ≤ 256
    · rw [if_pos h2]
      obtain ⟨b, p', s', e, hb, hp'⟩ := l01Byte_some l hl p s hp
      simp only [e, Option.bind_some, if_neg (show ¬ n = 0 by omega)]
      exact ⟨_, _, _, rfl, ⟨Int.tmod_nonneg _ hb.1, fun h3 => Int.tmod_lt_of_pos _ h3⟩, hp'⟩
    · rw [if_neg h2]
      obtain ⟨b1, p1, s1, e1, hb1, hp1⟩ := l01Byte_some l hl p s hp
      obtain ⟨b2, p2, s2, e2, hb2, hp2⟩ := l01Byte_some l hl p1 s1 hp1
      obtain ⟨b3, p3, s3, e3, hb3, hp3⟩ := l01Byte_some l hl p2 s2 hp2
      obtain ⟨b4, p4, s4, e4, hb4, hp4⟩ := l01Byte_some l hl p3 s3 hp3
      simp only [e1, e2, e3, e4, Option.bind_some, if_neg (show ¬ n = 0 by omega)]
      refine ⟨_, _, _, rfl, ⟨Int.tmod_nonneg _ ?_, fun h3 => Int.tmod_lt_of_pos _ h3⟩, hp4⟩
      have a1 := w64 (x := b1 * 16777216) (by omega) (by omega)
      rw [a1]
      clear a1
      have a2 := w64 (x := b2 * 65536) (by omega) (by omega)
      rw [a2]
      clear a2
      have a3 := w64 (x := b3 * 256) (by omega) (by omega)
      rw [a3]
      clear a3
      have a4 := w64 (x := b1 * 16777216 + b2 * 65536) (by omega) (by omega)
      rw [a4]
      clear a4
      have a5 := w64 (x := b1 * 16777216 + b2 * 65536 + b3 * 256) (by omega) (by omega)
      rw [a5]
      clear a5
      have a6 := w64 (x := b1 * 16777216 + b2 * 65536 + b3 * 256 + b4) (by omega) (by omega)
      rw [a6]
      omega
theorem l01Once_some (l : List Int) (hl : l.length ≤ 1048576) (p s n : Int) (hp : Inside l p) : ∃ (b : Bool) (p' s' : Int), spec_l01Once.f l p s n = some (b, p', s') ∧ Inside l p' := by
  unfold spec_l01Once.f
  obtain ⟨b, p', s', e, _, hp'⟩ := l01Below_some l hl p s n hp
  simp only [e, Option.bind_some]
  exact ⟨_, _, _, rfl, hp'⟩
theorem l01Text_l0 (l : List Int) (hl : l.length ≤ 1048576) (n : Nat) (hn : n ≤ 5000) (d : Nat) : ∀ (i : Nat) (acc : List Int) (p s : Int), n - i = d → i ≤ n → acc.length = i → Inside l p →
    ∃ (t : ByteArray) (p' s' : Int), Ev (fun k => spec_l01Text.l0 k (n : Int) acc (i : Int) l p s) (t, p', s') ∧ t.size = n ∧ Inside l p' := by
  induction d with
  | zero =>
    intro i acc p s hd hi ha hp
    refine ⟨strOfNums acc, p, s, ev_succ ?_, by rw [strOfNums_size]; omega, hp⟩
    simp only [spec_l01Text.l0, if_neg (show ¬ (i : Int) < (n : Int) by omega)]
    exact ev_some rfl
  | succ d ih =>
    intro i acc p s hd hi ha hp
    obtain ⟨b, p1, s1, e, hb, hp1⟩ := l01Byte_some l hl p s hp
    obtain ⟨t, p', s', h, hs, hp'⟩ := ih (i + 1) (acc ++ [b % 256]) p1 s1 (by omega) (by omega) (by simp; omega) hp1
    refine ⟨t, p', s', ev_succ ?_, hs, hp'⟩
    simp only [spec_l01Text.l0, if_pos (show (i : Int) < (n : Int) by omega), e, Option.bind_some, if_pos (show acc.length < 140737488355328 by omega), wn i (show i < n by omega) (by omega)]
    exact h
theorem l01Text_some (l : List Int) (hl : l.length ≤ 1048576) (p s n : Int) (hn : 0 ≤ n ∧ n ≤ 5000) (hp : Inside l p) : ∃ (t : ByteArray) (p' s' : Int), Ev (fun k => spec_l01Text.f k l p s n) (t, p', s') ∧ (t.size : Int) = n ∧ Inside l p' := by
  obtain ⟨m, rfl⟩ := Int.eq_ofNat_of_zero_le hn.1
  obtain ⟨t, p', s', h, hs, hp'⟩ := l01Text_l0 l hl m (by omega) m 0 [] p s (by omega) (by omega) rfl hp
  refine ⟨t, p', s', ?_, by omega, hp'⟩
  unfold spec_l01Text.f
  simp only [if_neg (show ¬ (m : Int) > 5000 by omega)]
  refine ev_succ ?_
  simp only [spec_l01Text.j0]
  exact h
theorem l01New_l0 (l : List Int) (hl : l.length ≤ 1048576) (d : Nat) : ∀ (i : Nat) (s : Int), l.length - i = d → i ≤ l.length → ∃ s', Ev (fun k => spec_l01New.l0 k l s (i : Int)) (l, 0, s') := by
  induction d with
  | zero =>
    intro i s hd hi
    refine ⟨s, ev_succ ?_⟩
    simp only [spec_l01New.l0, if_neg (show ¬ (i : Int) < (l.length : Int) by omega)]
    exact ev_some rfl
  | succ d ih =>
    intro i s hd hi
    by_cases h : (i : Int) < 4000
    · obtain ⟨s', hs⟩ := ih (i + 1) (bits .and .i64 (wrap64 ((wrap64 ((wrap64 (s * 131)) + (wrap64 (rd l (i : Int))))) + 7)) 1073741823) (by omega) (by omega)
      refine ⟨s', ev_succ ?_⟩
      simp only [spec_l01New.l0, if_pos (show (i : Int) < (l.length : Int) by omega), if_pos h, if_pos (show (0 : Int) ≤ (i : Int) by omega), wn i (show i < l.length by omega) (by omega)]
      exact hs
    · refine ⟨s, ev_succ ?_⟩
      simp only [spec_l01New.l0, if_pos (show (i : Int) < (l.length : Int) by omega), if_neg h]
      exact ev_some rfl
theorem l01New_some (l : List Int) (hl : l.length ≤ 1048576) : ∃ s', Ev (fun k => spec_l01New.f k l) (l, 0, s') := by
  unfold spec_l01New.f
  exact l01New_l0 l hl l.length 0 _ (by omega) (by omega)
theorem inside0 (l : List Int) : Inside l 0 := ⟨Int.le_refl _, by omega⟩

/-! places -/

/-! in -/
theorem spec_in_eq (a b c : Int) : spec_l01In.f a b c = some (decide (b ≤ a ∧ a ≤ c)) := by
  unfold spec_l01In.f
  by_cases h : a ≥ b <;> by_cases h2 : a ≤ c <;> simp [h, h2] <;> omega
theorem impl_in_eq (a b c : Int) : impl_in.f a b c = some (decide (b ≤ a ∧ a ≤ c)) := by
  unfold impl_in.f
  by_cases h : a ≥ b <;> by_cases h2 : a ≤ c <;> simp [h, h2] <;> omega

/-! disk -/
def W2 (x : S63) : Wr := (x.f0, x.f1)
theorem rdOf_nat {α : Type} (d : α) (l : List α) (i : Nat) : rdOf d l (i : Int) = l.getD i d := by unfold rdOf; rw [Int.toNat_natCast]
theorem getD_drop {α : Type} (d : α) (l : List α) (i : Nat) (h : i < l.length) : l.drop i = l.getD i d :: l.drop (i + 1) := by
  rw [List.drop_eq_getElem_cons h, List.getD_eq_getElem?_getD, List.getElem?_eq_getElem h]
  rfl
theorem set_mid {α : Type} (l r : List α) (x v : α) (i : Nat) (h : l.length = i) : (l ++ x :: r).set i v = l ++ v :: r := by
  rw [List.set_append_right _ _ (by omega), h, Nat.sub_self]
  rfl

/-! diskok -/
def sOk (s : ByteArray) : Bool := decide (s.size = 32)
def wOk (n : Nat) (w : S63) : Bool := decide (0 ≤ w.f0 ∧ w.f0 ≤ (n : Int) - 1) && decide (w.f1.size = 32)
/-- What a right disk is. -/
def diskOkM (l0 : List ByteArray) (l1 : List S63) : Bool := decide ((1 ≤ l0.length ∧ l0.length ≤ 100) ∧ l1.length ≤ 60) && (l0.all sOk && l1.all (wOk l0.length))
theorem rd_W (l : List S63) (i : Nat) : rd_T63 l (i : Int) = l.getD i z63 := by unfold rd_T63; rw [Int.toNat_natCast]
theorem l01In_dec (a b c : Int) : spec_l01In.f a b c = some (decide (b ≤ a ∧ a ≤ c)) := by
  unfold spec_l01In.f
  by_cases h : a ≥ b
  · rw [if_pos h]; congr 1; apply Bool.eq_iff_iff.2; simp; omega
  · rw [if_neg h]; congr 1; apply Bool.eq_iff_iff.2; simp; omega
theorem diskOk_l1 (l0 : List ByteArray) (l1 : List S63) (h0 : l0.length ≤ 100) (h1 : l1.length ≤ 60) (d : Nat) : ∀ i : Nat, l1.length - i = d → i ≤ l1.length → Ev (fun k => spec_DiskOk.l1 k (i : Int) l0 l1) ((l1.drop i).all (wOk l0.length)) := by
  induction d with
  | zero =>
    intro i hd hi
    refine ev_succ ?_
    simp only [spec_DiskOk.l1, if_neg (show ¬ (i : Int) < (l1.length : Int) from by omega)]
    rw [List.drop_eq_nil_of_le (by omega)]
    exact ev_some rfl
  | succ d ih =>
    intro i hd hi
    have hlt : i < l1.length := by omega
    refine ev_succ ?_
    have g1 : (i : Int) < (l1.length : Int) := by omega
    have g2 : (0 : Int) ≤ (i : Int) := by omega
    have e1 := w64 (x := (l0.length : Int) - 1) (by omega) (by omega)
    simp only [spec_DiskOk.l1, if_pos g1, if_pos g2, rd_W, l01In_dec, e1, Option.bind_some, wn i hlt (show l1.length ≤ 140737488355328 by omega)]
    rw [getD_drop z63 l1 i hlt, List.all_cons]
    have hw : wOk l0.length (l1.getD i z63) = (decide (0 ≤ (l1.getD i z63).f0 ∧ (l1.getD i z63).f0 ≤ (l0.length : Int) - 1) && decide ((l1.getD i z63).f1.size = 32)) := rfl
    by_cases c1 : 0 ≤ (l1.getD i z63).f0 ∧ (l1.getD i z63).f0 ≤ (l0.length : Int) - 1
    · rw [decide_eq_true c1] at hw
      simp only [decide_eq_true c1, if_true]
      by_cases c2 : (l1.getD i z63).f1.size = 32
      · rw [decide_eq_true c2] at hw
        simp only [if_pos (show ((l1.getD i z63).f1.size : Int) = 32 by omega)]
        rw [hw]
        simpa using ih (i + 1) (by omega) (by omega)
      · rw [decide_eq_false c2] at hw
        simp only [if_neg (show ¬ ((l1.getD i z63).f1.size : Int) = 32 by omega)]
        rw [hw]
        exact ev_some rfl
    · rw [decide_eq_false c1] at hw
      simp only [decide_eq_false c1, Bool.false_eq_true, if_false]
      rw [hw]
      exact ev_some rfl
theorem diskOk_l0 (l0 : List ByteArray) (l1 : List S63) (h0 : l0.length ≤ 100) (h1 : l1.length ≤ 60) (d : Nat) : ∀ i : Nat, l0.length - i = d → i ≤ l0.length → Ev (fun k => spec_DiskOk.l0 k (i : Int) l0 l1) ((l0.drop i).all sOk && l1.all (wOk l0.length)) := by
  induction d with
  | zero =>
    intro i hd hi
    refine ev_succ ?_
    simp only [spec_DiskOk.l0, if_neg (show ¬ (i : Int) < (l0.length : Int) from by omega)]
    rw [List.drop_eq_nil_of_le (by omega)]
    simpa using diskOk_l1 l0 l1 h0 h1 _ 0 rfl (by omega)
  | succ d ih =>
    intro i hd hi
    have hlt : i < l0.length := by omega
    refine ev_succ ?_
    have g1 : (i : Int) < (l0.length : Int) := by omega
    have g2 : (0 : Int) ≤ (i : Int) := by omega
    simp only [spec_DiskOk.l0, if_pos g1, if_pos g2, rdOf_nat, wn i hlt (show l0.length ≤ 140737488355328 by omega)]
    rw [getD_drop ByteArray.empty l0 i hlt, List.all_cons]
    have hw : sOk (l0.getD i ByteArray.empty) = decide ((l0.getD i ByteArray.empty).size = 32) := rfl
    by_cases c2 : (l0.getD i ByteArray.empty).size = 32
    · rw [decide_eq_true c2] at hw
      simp only [if_pos (show ((l0.getD i ByteArray.empty).size : Int) = 32 by omega)]
      rw [hw]
      simpa using ih (i + 1) (by omega) (by omega)
    · rw [decide_eq_false c2] at hw
      simp only [if_neg (show ¬ ((l0.getD i ByteArray.empty).size : Int) = 32 by omega)]
      rw [hw]
      exact ev_some rfl
theorem spec_DiskOk_ev (l0 : List ByteArray) (l1 : List S63) : Ev (fun k => spec_DiskOk.f k l0 l1) (diskOkM l0 l1) := by
  unfold spec_DiskOk.f diskOkM
  simp only [l01In_dec, Option.bind_some]
  by_cases c1 : 1 ≤ l0.length ∧ l0.length ≤ 100
  · simp only [decide_eq_true (show 1 ≤ (l0.length : Int) ∧ (l0.length : Int) ≤ 100 by omega), if_true]
    by_cases c2 : l1.length ≤ 60
    · rw [decide_eq_true (show (1 ≤ l0.length ∧ l0.length ≤ 100) ∧ l1.length ≤ 60 from ⟨c1, c2⟩), Bool.true_and]
      refine ev_succ ?_
      simp only [spec_DiskOk.j0, decide_eq_false (show ¬ (l1.length : Int) > 60 by omega), Bool.false_eq_true, if_false]
      simpa using diskOk_l0 l0 l1 c1.2 c2 _ 0 rfl (by omega)
    · rw [decide_eq_false (show ¬ ((1 ≤ l0.length ∧ l0.length ≤ 100) ∧ l1.length ≤ 60) from fun h => c2 h.2), Bool.false_and]
      refine ev_succ ?_
      simp only [spec_DiskOk.j0, decide_eq_true (show (l1.length : Int) > 60 by omega), if_true]
      exact ev_some rfl
  · simp only [decide_eq_false (show ¬ (1 ≤ (l0.length : Int) ∧ (l0.length : Int) ≤ 100) by omega), Bool.false_eq_true, if_false]
    rw [decide_eq_false (show ¬ ((1 ≤ l0.length ∧ l0.length ≤ 100) ∧ l1.length ≤ 60) from fun h => c1 h.1), Bool.false_and]
    refine ev_succ ?_
    simp only [spec_DiskOk.j0, if_true]
    exact ev_some rfl
theorem strBad_not (s : ByteArray) : strBad s = !sOk s := by unfold strBad sOk; by_cases h : s.size = 32 <;> simp [h]
theorem wrBad_not (n : Nat) (w : S63) : wrBad n w = !wOk n w := by
  unfold wrBad wOk
  by_cases h : 0 ≤ w.f0 ∧ w.f0 ≤ (n : Int) - 1 <;> by_cases h2 : w.f1.size = 32 <;> simp [h, h2]
theorem any_not {α : Type} (l : List α) (p q : α → Bool) (h : ∀ x, p x = !q x) : (!l.any p) = l.all q := by
  induction l with
  | nil => rfl
  | cons x l ih => rw [List.any_cons, List.all_cons, Bool.not_or, ih, h x, Bool.not_not]
theorem impl_DiskOk_f (l0 : List ByteArray) (l1 : List S63) : impl_DiskOk.f l0 l1 = some (diskOkM l0 l1) := by
  unfold impl_DiskOk.f diskOkM
  rw [any_not l0 _ _ strBad_not, any_not l1 _ _ (wrBad_not l0.length)]

/-! clone -/
theorem spec_l03Copy_f (l0 : List ByteArray) (l1 : List S63) (h0 : l0.length ≤ 1048576) (h1 : l1.length ≤ 1048576) : spec_l03Copy.f l0 l1 = some (l0, l1) := by
  unfold spec_l03Copy.f
  simp only [Option.bind_some, List.length_nil, Nat.zero_add, if_pos (show l0.length < 8796093022208 by omega), if_pos (show l1.length < 5864062014805 by omega), List.nil_append]
theorem impl_cloneDisk_f (l0 : List ByteArray) (l1 : List S63) (h0 : l0.length ≤ 1048576) (h1 : l1.length ≤ 1048576) : impl_cloneDisk.f l0 l1 = some (l0, l1) := by
  unfold impl_cloneDisk.f slices_Clone_string_string.f impl_Write_75.f
  simp only [Option.bind_some, List.length_nil, Nat.zero_add, if_pos (show l0.length < 8796093022208 by omega), if_pos (show l1.length < 5864062014805 by omega), List.nil_append]

/-! flushdisk -/
def putW (ss : List ByteArray) (w : S63) : List ByteArray := ss.set w.f0.toNat w.f1
theorem putW_length (ss : List ByteArray) (w : S63) : (putW ss w).length = ss.length := List.length_set
theorem foldW_length (c : List S63) : ∀ ss : List ByteArray, (c.foldl putW ss).length = ss.length := by
  induction c with
  | nil => intro ss; rfl
  | cons w c ih => intro ss; rw [List.foldl_cons, ih, putW_length]
def flushM (l0 : List ByteArray) (l1 : List S63) : List ByteArray × List S63 := if diskOkM l0 l1 = true then (l1.foldl putW l0, []) else (l0, l1)
theorem flushM_length (l0 : List ByteArray) (l1 : List S63) : (flushM l0 l1).1.length = l0.length ∧ (flushM l0 l1).2.length ≤ l1.length := by
  unfold flushM
  split
  · exact ⟨foldW_length _ _, by simp⟩
  · exact ⟨rfl, Nat.le_refl _⟩
theorem diskOkM_parts (l0 : List ByteArray) (l1 : List S63) (h : diskOkM l0 l1 = true) : (1 ≤ l0.length ∧ l0.length ≤ 100) ∧ l1.length ≤ 60 ∧ (∀ s, s ∈ l0 → s.size = 32) ∧ ∀ w, w ∈ l1 → (0 ≤ w.f0 ∧ w.f0 ≤ (l0.length : Int) - 1) ∧ w.f1.size = 32 := by
  unfold diskOkM at h
  simp only [Bool.and_eq_true, decide_eq_true_eq, List.all_eq_true, sOk, wOk] at h
  exact ⟨h.1.1, h.1.2, h.2.1, h.2.2⟩
def All32 (ss : List ByteArray) : Prop := ∀ s, s ∈ ss → s.size = 32
theorem all32_getD (ss : List ByteArray) (h : All32 ss) (i : Nat) (hi : i < ss.length) : (ss.getD i ByteArray.empty).size = 32 := by
  rw [List.getD_eq_getElem?_getD, List.getElem?_eq_getElem hi]
  exact h _ (List.getElem_mem hi)
theorem all32_set (ss : List ByteArray) (h : All32 ss) (i : Nat) (x : ByteArray) (hx : x.size = 32) : All32 (ss.set i x) := by
  intro s hs
  rcases List.mem_or_eq_of_mem_set hs with h1 | h1
  · exact h s h1
  · rw [h1]; exact hx
theorem spec_FlushDisk_l0 (l0 : List ByteArray) (l1 c1 : List S63) (n : Nat) (hl : l1.length ≤ 60) (hw : ∀ w, w ∈ l1 → 0 ≤ w.f0 ∧ w.f0 ≤ (n : Int) - 1) (d : Nat) : ∀ (i : Nat) (cur : List ByteArray), cur.length = n → l1.length - i = d → i ≤ l1.length →
    Ev (fun k => spec_FlushDisk.l0 k (i : Int) l0 l1 cur c1) ((l1.drop i).foldl putW cur, []) := by
  induction d with
  | zero =>
    intro i cur hc hd hi
    refine ev_succ ?_
    simp only [spec_FlushDisk.l0, if_neg (show ¬ (i : Int) < (l1.length : Int) from by omega)]
    rw [List.drop_eq_nil_of_le (by omega)]
    exact ev_some rfl
  | succ d ih =>
    intro i cur hc hd hi
    have hlt : i < l1.length := by omega
    have hm : l1.getD i z63 ∈ l1 := by
      rw [List.getD_eq_getElem?_getD, List.getElem?_eq_getElem hlt]
      exact List.getElem_mem hlt
    have hb := hw _ hm
    refine ev_succ ?_
    have g1 : (i : Int) < (l1.length : Int) := by omega
    have g2 : (0 : Int) ≤ (i : Int) := by omega
    have g3 : (l1.getD i z63).f0 < (cur.length : Int) := by omega
    simp only [spec_FlushDisk.l0, if_pos g1, if_pos g2, rd_W, if_pos hb.1, if_pos g3, wn i hlt (show l1.length ≤ 140737488355328 by omega)]
    rw [getD_drop z63 l1 i hlt, List.foldl_cons]
    exact ih (i + 1) _ (by rw [List.length_set]; exact hc) (by omega) (by omega)
theorem spec_FlushDisk_ev (l0 : List ByteArray) (l1 : List S63) (h0 : l0.length ≤ 1048576) (h1 : l1.length ≤ 1048576) : Ev (fun k => spec_FlushDisk.f k l0 l1) (flushM l0 l1) := by
  unfold spec_FlushDisk.f flushM
  simp only [spec_l03Copy_f l0 l1 h0 h1, Option.bind_some]
  refine Ev.bind (spec_DiskOk_ev l0 l1) ?_
  refine ev_if (fun h => ?_) (fun h => ?_)
  · rw [if_pos h]
    obtain ⟨p1, p2, p3, p4⟩ := diskOkM_parts l0 l1 h
    simpa using spec_FlushDisk_l0 l0 l1 l1 l0.length p2 (fun w hw => (p4 w hw).1) _ 0 l0 rfl rfl (by omega)
  · rw [if_neg h]; exact ev_some rfl
theorem impl_FlushDisk_l0 (l1 c1 : List S63) (n : Nat) (hl : l1.length ≤ 60) (hw : ∀ w, w ∈ l1 → 0 ≤ w.f0 ∧ w.f0 ≤ (n : Int) - 1) (d : Nat) : ∀ (i : Nat) (cur : List ByteArray), cur.length = n → l1.length - i = d → i ≤ l1.length →
    Ev (fun k => impl_FlushDisk.l0 k l1 (l1.length : Int) (i : Int) cur c1) ((l1.drop i).foldl putW cur, []) := by
  induction d with
  | zero =>
    intro i cur hc hd hi
    refine ev_succ ?_
    simp only [impl_FlushDisk.l0, if_neg (show ¬ (i : Int) < (l1.length : Int) from by omega)]
    rw [List.drop_eq_nil_of_le (by omega)]
    exact ev_some rfl
  | succ d ih =>
    intro i cur hc hd hi
    have hlt : i < l1.length := by omega
    have hm : l1.getD i z63 ∈ l1 := by
      rw [List.getD_eq_getElem?_getD, List.getElem?_eq_getElem hlt]
      exact List.getElem_mem hlt
    have hb := hw _ hm
    refine ev_succ ?_
    have g1 : (i : Int) < (l1.length : Int) := by omega
    have g2 : (0 : Int) ≤ (i : Int) := by omega
    have g3 : (l1.getD i z63).f0 < (cur.length : Int) := by omega
    simp only [impl_FlushDisk.l0, if_pos g1, if_pos g2, rd_W, if_pos hb.1, if_pos g3, wn i hlt (show l1.length ≤ 140737488355328 by omega)]
    rw [getD_drop z63 l1 i hlt, List.foldl_cons]
    exact ih (i + 1) _ (by rw [List.length_set]; exact hc) (by omega) (by omega)
theorem impl_FlushDisk_ev (l0 : List ByteArray) (l1 : List S63) (h0 : l0.length ≤ 1048576) (h1 : l1.length ≤ 1048576) : Ev (fun k => impl_FlushDisk.f k l0 l1) (flushM l0 l1) := by
  unfold impl_FlushDisk.f flushM
  simp only [impl_cloneDisk_f l0 l1 h0 h1, impl_DiskOk_f, Option.bind_some]
  refine ev_if (fun h => ?_) (fun h => ?_)
  · rw [if_pos h]
    obtain ⟨p1, p2, p3, p4⟩ := diskOkM_parts l0 l1 h
    simpa using impl_FlushDisk_l0 l1 l1 l0.length p2 (fun w hw => (p4 w hw).1) _ 0 l0 rfl rfl (by omega)
  · rw [if_neg h]; exact ev_some rfl

/-! writesector -/
def writeSectorM (l0 : List ByteArray) (l1 : List S63) (a : Int) (s : ByteArray) : List ByteArray × List S63 × Bool :=
  if diskOkM l0 l1 = true ∧ (0 ≤ a ∧ a ≤ (l0.length : Int) - 1) ∧ s.size = 32 ∧ l1.length < 60 then (l0, l1 ++ [⟨a, s⟩], true) else (l0, l1, false)
theorem spec_WriteSector_ev (l0 : List ByteArray) (l1 : List S63) (h0 : l0.length ≤ 1048576) (h1 : l1.length ≤ 1048576) (a : Int) (s : ByteArray) : Ev (fun k => spec_WriteSector.f k l0 l1 a s) (writeSectorM l0 l1 a s) := by
  unfold spec_WriteSector.f writeSectorM
  simp only [spec_l03Copy_f l0 l1 h0 h1, Option.bind_some]
  refine Ev.bind (spec_DiskOk_ev l0 l1) ?_
  simp only [l01In_dec, Option.bind_some]
  have e := w64 (x := (l0.length : Int) - 1) (by omega) (by omega)
  simp only [e]
  clear e
  by_cases c1 : diskOkM l0 l1 = true
  · simp only [c1, if_true, true_and]
    by_cases c2 : 0 ≤ a ∧ a ≤ (l0.length : Int) - 1
    · simp only [decide_eq_true c2, if_true, if_pos c2]
      by_cases c3 : s.size = 32
      · simp only [if_pos (show (s.size : Int) = 32 by omega)]
        by_cases c4 : l1.length < 60
        · simp only [if_neg (show ¬ (l1.length : Int) ≥ 60 by omega), if_pos (show l1.length < 5864062014805 by omega)]
          exact ev_some (by rw [if_pos ⟨c2, c3, c4⟩])
        · simp only [if_pos (show (l1.length : Int) ≥ 60 by omega)]
          exact ev_some (by rw [if_neg (fun h => c4 h.2.2)])
      · simp only [if_neg (show ¬ (s.size : Int) = 32 by omega)]
        exact ev_some (by rw [if_neg (fun h => c3 h.2.1)])
    · simp only [decide_eq_false c2, Bool.false_eq_true, if_false]
      exact ev_some (by rw [if_neg (fun h => c2 h.1)])
  · simp only [if_neg c1]
    exact ev_some (by rw [if_neg (fun h => c1 h.1)])

/-! readsector -/
theorem spec_ReadSector_l0 (ss : List ByteArray) (c : List S63) (hc : c.length ≤ 1048576) (a : Int) (h0 : 0 ≤ a) (h1 : a < (ss.length : Int)) (n : Nat) : n ≤ c.length →
    Ev (fun k => spec_ReadSector.l0 k a ((n : Int) - 1) ss c) (wrLast a ((c.take n).map W2) (ss.getD a.toNat ByteArray.empty), true) := by
  induction n with
  | zero =>
    intro hn
    refine ev_succ ?_
    simp only [spec_ReadSector.l0, if_neg (show ¬ ((0 : Nat) : Int) - 1 ≥ 0 from by omega), if_pos h0, if_pos h1]
    exact ev_some (by simp [wrLast, rdOf])
  | succ n ih =>
    intro hn
    have hlt : n < c.length := by omega
    have e0 : ((n + 1 : Nat) : Int) - 1 = (n : Int) := by omega
    have hrd : rd_T63 c (n : Int) = c.getD n z63 := by unfold rd_T63; rw [Int.toNat_natCast]
    have e1 := w64 (x := (n : Int) - 1) (by omega) (by omega)
    refine ev_succ ?_
    simp only [spec_ReadSector.l0, e0, if_pos (show (n : Int) ≥ 0 from by omega), if_pos (show (0 : Int) ≤ (n : Int) from by omega), if_pos (show (n : Int) < (c.length : Int) from by omega), hrd, e1]
    rw [List.take_succ_eq_append_getElem hlt, List.map_append, List.map_cons, List.map_nil, wrLast_snoc]
    have e2 : c.getD n z63 = c[n] := by rw [List.getD_eq_getElem?_getD, List.getElem?_eq_getElem hlt]; rfl
    rw [e2]
    refine ev_if (fun h => ?_) (fun h => ?_)
    · rw [if_pos (show (W2 c[n]).1 = a from h)]
      exact ev_some rfl
    · rw [if_neg (show ¬ (W2 c[n]).1 = a from h)]
      exact ih (by omega)
theorem spec_ReadSector_ev (ss : List ByteArray) (c : List S63) (hs : ss.length ≤ 1048576) (hc : c.length ≤ 1048576) (a : Int) : Ev (fun k => spec_ReadSector.f k ss c a) (readSectorM ss (c.map W2) a) := by
  unfold spec_ReadSector.f readSectorM
  rw [w64 (x := (ss.length : Int) - 1) (by omega) (by omega), w64 (x := (c.length : Int) - 1) (by omega) (by omega)]
  simp only [spec_in_eq, Option.bind_some]
  by_cases h : 0 ≤ a ∧ a ≤ (ss.length : Int) - 1
  · simp only [decide_eq_true h, if_true, if_pos h]
    simpa using spec_ReadSector_l0 ss c hc a h.1 (by omega) c.length (Nat.le_refl _)
  · simp only [decide_eq_false h, Bool.false_eq_true, if_false, if_neg h]
    exact ev_some rfl

/-! drawdisk -/
theorem l01Long_l0 (n : Nat) (v : Int) (hn : n ≤ 100000) (d : Nat) : ∀ (i : Nat) (acc : List Int), n - i = d → i ≤ n → acc.length = n → ∃ t : ByteArray, Ev (fun k => spec_l01Long.l0 k (n : Int) v acc (i : Int)) t ∧ t.size = n := by
  induction d with
  | zero =>
    intro i acc hd hi ha
    refine ⟨strOfNums acc, ev_succ ?_, by rw [strOfNums_size]; exact ha⟩
    simp only [spec_l01Long.l0, if_neg (show ¬ (i : Int) < (n : Int) by omega)]
    exact ev_some rfl
  | succ d ih =>
    intro i acc hd hi ha
    obtain ⟨t, h, hs⟩ := ih (i + 1) (acc.set i v) (by omega) (by omega) (by rw [List.length_set]; exact ha)
    refine ⟨t, ev_succ ?_, hs⟩
    simp only [spec_l01Long.l0, if_pos (show (i : Int) < (n : Int) by omega), if_pos (show (0 : Int) ≤ (i : Int) by omega), ha, Int.toNat_natCast, wn i (show i < n by omega) (by omega)]
    exact h
theorem l03Zero_some : ∃ t : ByteArray, Ev (fun k => spec_l03Zero.f k) t ∧ t.size = 32 := by
  unfold spec_l03Zero.f spec_l01Long.f
  obtain ⟨t, h, hs⟩ := l01Long_l0 32 0 (by omega) 32 0 (List.replicate 32 0) (by omega) (by omega) (by simp)
  refine ⟨t, ?_, hs⟩
  simp only [if_pos (show (0 : Int) ≤ 32 by decide), if_pos (show (32 : Int).toNat ≤ 281474976710656 by decide)]
  exact Ev.bind h (ev_some rfl)
theorem diskNew_l0 (n : Nat) (hn : n ≤ 100) (d : Nat) : ∀ (i : Nat) (acc : List ByteArray), n - i = d → i ≤ n → acc.length = i → All32 acc → ∃ ss : List ByteArray, Ev (fun k => spec_DiskNew.l0 k (n : Int) (i : Int) acc) (ss, [], true) ∧ ss.length = n ∧ All32 ss := by
  obtain ⟨z, hz, hzs⟩ := l03Zero_some
  induction d with
  | zero =>
    intro i acc hd hi ha h32
    refine ⟨acc, ev_succ ?_, by omega, h32⟩
    simp only [spec_DiskNew.l0, if_neg (show ¬ (i : Int) < (n : Int) by omega)]
    exact ev_some rfl
  | succ d ih =>
    intro i acc hd hi ha h32
    obtain ⟨ss, h, hl, hs⟩ := ih (i + 1) (acc ++ [z]) (by omega) (by omega) (by simp; omega) (fun s hs => by
      rcases List.mem_append.1 hs with h | h
      · exact h32 s h
      · rw [List.mem_singleton.1 h]; exact hzs)
    refine ⟨ss, ev_succ ?_, hl, hs⟩
    simp only [spec_DiskNew.l0, if_pos (show (i : Int) < (n : Int) by omega), wn i (show i < n by omega) (by omega), if_pos (show acc.length < 8796093022208 by omega)]
    exact Ev.bind hz h
theorem spec_DiskNew_some (n : Int) (hn : 1 ≤ n ∧ n ≤ 100) : ∃ ss : List ByteArray, Ev (fun k => spec_DiskNew.f k n) (ss, [], true) ∧ (ss.length : Int) = n ∧ All32 ss := by
  obtain ⟨m, rfl⟩ := Int.eq_ofNat_of_zero_le (show 0 ≤ n by omega)
  obtain ⟨ss, h, hl, hs⟩ := diskNew_l0 m (by omega) m 0 [] (by omega) (by omega) rfl (fun s hs => by simp at hs)
  refine ⟨ss, ?_, by omega, hs⟩
  unfold spec_DiskNew.f
  simp only [l01In_dec, Option.bind_some, decide_eq_true hn, if_true]
  exact h
theorem diskOkM_of (l0 : List ByteArray) (l1 : List S63) (h1 : 1 ≤ l0.length ∧ l0.length ≤ 100) (h2 : l1.length ≤ 60) (h3 : All32 l0) (h4 : ∀ w, w ∈ l1 → (0 ≤ w.f0 ∧ w.f0 ≤ (l0.length : Int) - 1) ∧ w.f1.size = 32) : diskOkM l0 l1 = true := by
  unfold diskOkM
  simp only [Bool.and_eq_true, decide_eq_true_eq, List.all_eq_true, sOk, wOk]
  exact ⟨⟨h1, h2⟩, h3, h4⟩
/-- A right disk of n sectors with at most m writes that wait. -/
def RightD (n m : Nat) (l0 : List ByteArray) (l1 : List S63) : Prop := l0.length = n ∧ (1 ≤ n ∧ n ≤ 100) ∧ l1.length ≤ m ∧ All32 l0 ∧ ∀ w, w ∈ l1 → (0 ≤ w.f0 ∧ w.f0 ≤ (n : Int) - 1) ∧ w.f1.size = 32
theorem rightD_ok {n m : Nat} {l0 : List ByteArray} {l1 : List S63} (h : RightD n m l0 l1) (hm : m ≤ 60) : diskOkM l0 l1 = true := by
  obtain ⟨h1, h2, h3, h4, h5⟩ := h
  exact diskOkM_of l0 l1 (by omega) (by omega) h4 (by rw [h1]; exact h5)
theorem rightD_le {n m m' : Nat} {l0 : List ByteArray} {l1 : List S63} (h : RightD n m l0 l1) (hm : m ≤ m') : RightD n m' l0 l1 := ⟨h.1, h.2.1, Nat.le_trans h.2.2.1 hm, h.2.2.2⟩
theorem rightD_snoc {n m : Nat} {l0 : List ByteArray} {l1 : List S63} (h : RightD n m l0 l1) (a : Int) (s : ByteArray) (ha : 0 ≤ a ∧ a ≤ (n : Int) - 1) (hs : s.size = 32) : RightD n (m + 1) l0 (l1 ++ [⟨a, s⟩]) := by
  obtain ⟨h1, h2, h3, h4, h5⟩ := h
  refine ⟨h1, h2, by simp; omega, h4, fun w hw => ?_⟩
  rcases List.mem_append.1 hw with hw | hw
  · exact h5 w hw
  · rw [List.mem_singleton.1 hw]; exact ⟨ha, hs⟩
theorem wrLast_32 (a : Int) (c : List Wr) : ∀ (s : ByteArray), s.size = 32 → (∀ w, w ∈ c → w.2.size = 32) → (wrLast a c s).size = 32 := by
  induction c with
  | nil => intro s hs _; exact hs
  | cons w c ih =>
    intro s hs hc
    rw [wrLast_cons]
    refine ih _ ?_ (fun w hw => hc w (by simp [hw]))
    by_cases h : w.1 = a
    · rw [if_pos h]; exact hc w (by simp)
    · rw [if_neg h]; exact hs
theorem readSectorM_32 {n m : Nat} {l0 : List ByteArray} {l1 : List S63} (h : RightD n m l0 l1) (a : Int) (ha : 0 ≤ a ∧ a ≤ (n : Int) - 1) : (readSectorM l0 (l1.map W2) a).2 = true ∧ (readSectorM l0 (l1.map W2) a).1.size = 32 := by
  obtain ⟨h1, h2, h3, h4, h5⟩ := h
  unfold readSectorM
  rw [if_pos (by omega)]
  refine ⟨rfl, wrLast_32 _ _ _ (all32_getD l0 h4 _ (by omega)) (fun w hw => ?_)⟩
  obtain ⟨w', hw', rfl⟩ := List.mem_map.1 hw
  exact (h5 w' hw').2
theorem flush_right {n m : Nat} {l0 : List ByteArray} {l1 : List S63} (h : RightD n m l0 l1) (hm : m ≤ 60) : RightD n 0 (flushM l0 l1).1 (flushM l0 l1).2 := by
  have ho := rightD_ok h hm
  obtain ⟨h1, h2, h3, h4, h5⟩ := h
  unfold flushM
  rw [if_pos ho]
  refine ⟨by rw [foldW_length]; exact h1, h2, by simp, ?_, fun w hw => by simp at hw⟩
  have : ∀ (c : List S63) (ss : List ByteArray), All32 ss → (∀ w, w ∈ c → w.f1.size = 32) → All32 (c.foldl putW ss) := by
    intro c
    induction c with
    | nil => intro ss hs _; exact hs
    | cons w c ih =>
      intro ss hs hc
      exact ih _ (all32_set ss hs _ _ (hc w (by simp))) (fun w hw => hc w (by simp [hw]))
  exact this l1 l0 h4 (fun w hw => (h5 w hw).2)
theorem writeBytes_l0 (l0 : List ByteArray) (l1 : List S63) (n m M : Nat) (h : RightD n m l0 l1) (hmM : m ≤ M) (hM : M ≤ 60) (a b : Nat) (ha : a ≤ 100000) (hb : b ≤ 100000) (t : ByteArray) (ht : t.size ≤ 100000) (d : Nat) :
    ∀ (i q : Nat) (c0 : List ByteArray) (c1 : List S63), t.size - i = d → i ≤ t.size → RightD n q c0 c1 → q ≤ M → (i < t.size → q + ((b + t.size + 31) / 32 - (b + i) / 32) ≤ M) →
    ∃ r0 r1 ok, Ev (fun k => spec_WriteBytes.l0 k (a : Int) (b : Int) t (i : Int) l0 l1 c0 c1) (r0, r1, ok) ∧ RightD n M r0 r1 := by
  have hcopy : spec_l03Copy.f l0 l1 = some (l0, l1) := spec_l03Copy_f l0 l1 (by have := h.1; have := h.2.1; omega) (by have := h.2.2.1; omega)
  induction d using Nat.strongRecOn with
  | _ d ih =>
    intro i q c0 c1 hd hi hc hq hB
    by_cases hlt : i < t.size
    · obtain ⟨p, hp⟩ : ∃ p : Nat, b + i = p := ⟨_, rfl⟩
      have eP : Aside0 (wrap64 ((b : Int) + (i : Int)) = ((p : Nat) : Int)) := ⟨by rw [w64 (by omega) (by omega)]; omega⟩
      have eD : Aside0 (wrap64 (Int.tdiv (p : Int) 32) = ((p / 32 : Nat) : Int)) := ⟨by rw [Int.tdiv_eq_ediv_of_nonneg (by omega), w64 (by omega) (by omega)]; omega⟩
      have eM : Aside0 (Int.tmod (p : Int) 32 = ((p % 32 : Nat) : Int)) := ⟨by rw [Int.tmod_eq_emod_of_nonneg (by omega)]; omega⟩
      have e1 : Aside0 (wrap64 (32 - ((p % 32 : Nat) : Int)) = ((32 - p % 32 : Nat) : Int)) := ⟨by rw [w64 (by omega) (by omega)]; omega⟩
      have e2 : Aside0 (wrap64 ((t.size : Int) - (i : Int)) = ((t.size - i : Nat) : Int)) := ⟨by rw [w64 (by omega) (by omega)]; omega⟩
      have e3 : Aside0 (wrap64 ((a : Int) + ((p / 32 : Nat) : Int)) = ((a + p / 32 : Nat) : Int)) := ⟨by rw [w64 (by omega) (by omega)]; omega⟩
      have key : ∀ x : Nat, (1 ≤ x ∧ x ≤ 32 - p % 32 ∧ i + x ≤ t.size) → (x = 32 - p % 32 ∨ i + x = t.size) → ∃ r0 r1 ok, Ev (fun k => spec_WriteBytes.j2 k (a : Int) (b : Int) t (i : Int) ((a + p / 32 : Nat) : Int) ((p % 32 : Nat) : Int) (x : Int) l0 l1 c0 c1) (r0, r1, ok) ∧ RightD n M r0 r1 := by
        intro x hx hx2
        have hread := spec_ReadSector_ev c0 c1 (by have := hc.1; have := hc.2.1; omega) (by have := hc.2.2.1; omega) ((a + p / 32 : Nat) : Int)
        have hbad : ∀ s : ByteArray, ∃ r0 r1 ok, Ev (fun k => spec_WriteBytes.j3 k (a : Int) (b : Int) t (i : Int) ((a + p / 32 : Nat) : Int) ((p % 32 : Nat) : Int) (x : Int) s true l0 l1 c0 c1) (r0, r1, ok) ∧ RightD n M r0 r1 := by
          intro s
          refine ⟨l0, l1, false, ev_succ ?_, rightD_le h hmM⟩
          simp only [spec_WriteBytes.j3, if_true, hcopy, Option.bind_some]
          exact ev_some rfl
        by_cases hr : ((a + p / 32 : Nat) : Int) ≤ (n : Int) - 1
        · obtain ⟨ok1, hs⟩ := readSectorM_32 hc ((a + p / 32 : Nat) : Int) ⟨by omega, hr⟩
          obtain ⟨s, hsv⟩ : ∃ s, (readSectorM c0 (c1.map W2) ((a + p / 32 : Nat) : Int)).1 = s := ⟨_, rfl⟩
          rw [hsv] at hs
          have hnew : ((s.extract 0 (p % 32) ++ t.extract i (i + x)) ++ s.extract (p % 32 + x) s.size).size = 32 := by
            rw [size_append, size_append, size_extract, size_extract, size_extract]; omega
          have hws := spec_WriteSector_ev c0 c1 (by have := hc.1; have := hc.2.1; omega) (by have := hc.2.2.1; omega) ((a + p / 32 : Nat) : Int) ((s.extract 0 (p % 32) ++ t.extract i (i + x)) ++ s.extract (p % 32 + x) s.size)
          have hB' := hB hlt
          have hq1 : q + 1 ≤ M := by omega
          have hwm : writeSectorM c0 c1 ((a + p / 32 : Nat) : Int) ((s.extract 0 (p % 32) ++ t.extract i (i + x)) ++ s.extract (p % 32 + x) s.size) = (c0, c1 ++ [⟨((a + p / 32 : Nat) : Int), (s.extract 0 (p % 32) ++ t.extract i (i + x)) ++ s.extract (p % 32 + x) s.size⟩], true) := by
            unfold writeSectorM
            rw [if_pos ⟨rightD_ok hc (by omega), ⟨by omega, by rw [hc.1]; exact hr⟩, hnew, by have := hc.2.2.1; omega⟩]
          rw [hwm] at hws
          obtain ⟨r0, r1, ok, hr0, hr1⟩ := ih (t.size - (i + x)) (by omega) (i + x) (q + 1) c0 _ rfl (by omega) (rightD_snoc hc ((a + p / 32 : Nat) : Int) _ ⟨by omega, hr⟩ hnew) hq1 (fun hlt2 => by omega)
          refine ⟨r0, r1, ok, ev_succ ?_, hr1⟩
          simp only [spec_WriteBytes.j2]
          refine Ev.bind hread ?_
          simp only [ok1, if_true, hsv]
          have e5 : ((s.size : Int) != 32) = false := by rw [hs]; rfl
          rw [e5]
          clear e5
          refine ev_succ ?_
          have e4 : Aside0 (wrap64 ((i : Int) + (x : Int)) = ((i + x : Nat) : Int)) := ⟨by rw [w64 (by omega) (by omega)]; omega⟩
          have e6 : Aside0 (wrap64 (((p % 32 : Nat) : Int) + (x : Int)) = ((p % 32 + x : Nat) : Int)) := ⟨by rw [w64 (by omega) (by omega)]; omega⟩
          have k1 : (s.extract 0 (p % 32)).size + (t.extract i (i + x)).size ≤ 9223372036854775807 := by rw [size_append, size_append] at hnew; omega
          have k2 : (s.extract 0 (p % 32)).size + (t.extract i (i + x)).size + (s.extract (p % 32 + x) s.size).size ≤ 9223372036854775807 := by rw [size_append, size_append] at hnew; omega
          have g1 : (0 : Int) ≤ ((p % 32 : Nat) : Int) := by omega
          have g2 : ((p % 32 : Nat) : Int) ≤ (s.size : Int) := by omega
          have g3 : (0 : Int) ≤ (i : Int) := by omega
          have g4 : (i : Int) ≤ ((i + x : Nat) : Int) := by omega
          have g5 : ((i + x : Nat) : Int) ≤ (t.size : Int) := by omega
          have g6 : (0 : Int) ≤ ((p % 32 + x : Nat) : Int) := by omega
          have g7 : ((p % 32 + x : Nat) : Int) ≤ (s.size : Int) := by omega
          simp only [spec_WriteBytes.j3, Bool.false_eq_true, if_false, e4.out, e6.out, if_pos g1, if_pos g2, if_pos g3, if_pos g4, if_pos g5, if_pos g6, if_pos g7, Int.toNat_natCast, if_pos k1, if_pos k2]
          refine Ev.bind hws ?_
          simp only [if_true]
          exact hr0
        · obtain ⟨r0, r1, ok, hr0, hr1⟩ := hbad (⟨#[]⟩ : ByteArray)
          refine ⟨r0, r1, ok, ev_succ ?_, hr1⟩
          have hno : readSectorM c0 (c1.map W2) ((a + p / 32 : Nat) : Int) = ((⟨#[]⟩ : ByteArray), false) := by
            unfold readSectorM
            rw [if_neg (by rw [hc.1]; omega)]
          rw [hno] at hread
          simp only [spec_WriteBytes.j2]
          refine Ev.bind hread ?_
          simp only [Bool.false_eq_true, if_false]
          exact hr0
      by_cases hx : 32 - p % 32 > t.size - i
      · obtain ⟨r0, r1, ok, hr0, hr1⟩ := key (t.size - i) (by omega) (by omega)
        refine ⟨r0, r1, ok, ev_succ ?_, hr1⟩
        simp only [spec_WriteBytes.l0, if_pos (show (i : Int) < (t.size : Int) by omega), eP.out, eD.out, eM.out, e1.out, e2.out, e3.out, if_pos (show ((32 - p % 32 : Nat) : Int) > ((t.size - i : Nat) : Int) by omega)]
        exact hr0
      · obtain ⟨r0, r1, ok, hr0, hr1⟩ := key (32 - p % 32) (by omega) (by omega)
        refine ⟨r0, r1, ok, ev_succ ?_, hr1⟩
        simp only [spec_WriteBytes.l0, if_pos (show (i : Int) < (t.size : Int) by omega), eP.out, eD.out, eM.out, e1.out, e2.out, e3.out, if_neg (show ¬ ((32 - p % 32 : Nat) : Int) > ((t.size - i : Nat) : Int) by omega)]
        exact hr0
    · refine ⟨c0, c1, true, ev_succ ?_, rightD_le hc hq⟩
      simp only [spec_WriteBytes.l0, if_neg (show ¬ (i : Int) < (t.size : Int) by omega)]
      exact ev_some rfl
theorem spec_WriteBytes_some (l0 : List ByteArray) (l1 : List S63) (n m : Nat) (h : RightD n m l0 l1) (hm : m + 3 ≤ 60) (a b : Nat) (ha : a ≤ 100000) (hb : b ≤ 3000) (t : ByteArray) (ht : t.size ≤ 60) :
    ∃ r0 r1 ok, Ev (fun k => spec_WriteBytes.f k l0 l1 (a : Int) (b : Int) t) (r0, r1, ok) ∧ RightD n (m + 3) r0 r1 := by
  have hcopy : spec_l03Copy.f l0 l1 = some (l0, l1) := spec_l03Copy_f l0 l1 (by have := h.1; have := h.2.1; omega) (by have := h.2.2.1; omega)
  have hno : ∃ r0 r1 ok, Ev (fun k => spec_WriteBytes.j0 k (a : Int) (b : Int) t true l0 l1 l0 l1) (r0, r1, ok) ∧ RightD n (m + 3) r0 r1 := by
    refine ⟨l0, l1, false, ev_succ ?_, rightD_le h (by omega)⟩
    simp only [spec_WriteBytes.j0, if_true]
    exact ev_some rfl
  unfold spec_WriteBytes.f
  simp only [hcopy, Option.bind_some, l01In_dec, decide_eq_true (show (0 : Int) ≤ (b : Int) ∧ (b : Int) ≤ 3200 by omega), if_true]
  by_cases c1 : 0 ≤ (a : Int) ∧ (a : Int) ≤ wrap64 ((l0.length : Int) - 1)
  · simp only [decide_eq_true c1, if_true]
    obtain ⟨r0, r1, ok, hr0, hr1⟩ := writeBytes_l0 l0 l1 n m (m + 3) h (by omega) hm a b ha (by omega) t (by omega) t.size 0 m l0 l1 (by omega) (by omega) h (by omega) (fun _ => by omega)
    refine ⟨r0, r1, ok, ?_, hr1⟩
    refine Ev.bind (spec_DiskOk_ev l0 l1) ?_
    rw [rightD_ok h (by omega)]
    refine ev_succ ?_
    simp only [spec_WriteBytes.j0, Bool.not_true, Bool.false_eq_true, if_false]
    exact hr0
  · simp only [decide_eq_false c1, Bool.false_eq_true, if_false]
    exact hno
theorem l03Disk_l0 (l : List Int) (hl : l.length ≤ 1048576) (n : Nat) (d : Nat) : ∀ (i m : Nat) (p s : Int) (c0 : List ByteArray) (c1 : List S63), 9 - i = d → i ≤ 9 → m ≤ 3 * i → Inside l p → RightD n m c0 c1 →
    ∃ r0 r1 p' s', Ev (fun k => spec_l03Disk.l0 k (i : Int) l p s c0 c1) (r0, r1, p', s') ∧ RightD n 27 r0 r1 ∧ Inside l p' := by
  induction d with
  | zero =>
    intro i m p s c0 c1 hd hi hm hp hc
    obtain ⟨b, p', s', e, hb, hp'⟩ := l01Below_some l hl p s 9 hp
    refine ⟨c0, c1, p', s', ev_succ ?_, rightD_le hc (by omega), hp'⟩
    have := hb.2 (by omega)
    simp only [spec_l03Disk.l0, e, Option.bind_some, if_neg (show ¬ (i : Int) < b by omega)]
    exact ev_some rfl
  | succ d ih =>
    intro i m p s c0 c1 hd hi hm hp hc
    obtain ⟨b, p1, s1, e, hb, hp1⟩ := l01Below_some l hl p s 9 hp
    by_cases h : (i : Int) < b
    · obtain ⟨x1, p2, s2, e2, hx1, hp2⟩ := l01Below_some l hl p1 s1 (c0.length : Int) hp1
      obtain ⟨x2, p3, s3, e3, hx2, hp3⟩ := l01Below_some l hl p2 s2 40 hp2
      obtain ⟨x3, p4, s4, e4, hx3, hp4⟩ := l01Below_some l hl p3 s3 50 hp3
      have b1 := hx1.2 (by have := hc.1; have := hc.2.1; omega)
      have b2 := hx2.2 (by omega)
      have b3 := hx3.2 (by omega)
      obtain ⟨t, p5, s5, ht, hts, hp5⟩ := l01Text_some l hl p4 s4 x3 (by omega) hp4
      obtain ⟨a, rfl⟩ := Int.eq_ofNat_of_zero_le hx1.1
      obtain ⟨bb, rfl⟩ := Int.eq_ofNat_of_zero_le hx2.1
      obtain ⟨r0, r1, ok, hw, hrd⟩ := spec_WriteBytes_some c0 c1 n m hc (by omega) a bb (by have := hc.1; have := hc.2.1; omega) (by omega) t (by omega)
      obtain ⟨o, p6, s6, e6, hp6⟩ := l01Once_some l hl p5 s5 4 hp5
      cases o with
      | true =>
        have hf := flush_right hrd (by omega)
        obtain ⟨q0, q1, p', s', hgo, hq, hp'⟩ := ih (i + 1) 0 p6 s6 _ _ (by omega) (by omega) (by omega) hp6 hf
        refine ⟨q0, q1, p', s', ev_succ ?_, hq, hp'⟩
        simp only [spec_l03Disk.l0, e, Option.bind_some, if_pos h, e2, e3, e4]
        refine Ev.bind ht ?_
        refine Ev.bind hw ?_
        simp only [e6, Option.bind_some, if_true]
        refine Ev.bind (spec_FlushDisk_ev r0 r1 (by have := hrd.1; have := hrd.2.1; omega) (by have := hrd.2.2.1; omega)) ?_
        simp only [wn i (show i < 9 by omega) (by omega)]
        exact hgo
      | false =>
        obtain ⟨q0, q1, p', s', hgo, hq, hp'⟩ := ih (i + 1) (m + 3) p6 s6 r0 r1 (by omega) (by omega) (by omega) hp6 hrd
        refine ⟨q0, q1, p', s', ev_succ ?_, hq, hp'⟩
        simp only [spec_l03Disk.l0, e, Option.bind_some, if_pos h, e2, e3, e4]
        refine Ev.bind ht ?_
        refine Ev.bind hw ?_
        simp only [e6, Option.bind_some, Bool.false_eq_true, if_false, wn i (show i < 9 by omega) (by omega)]
        exact hgo
    · refine ⟨c0, c1, p1, s1, ev_succ ?_, rightD_le hc (by omega), hp1⟩
      simp only [spec_l03Disk.l0, e, Option.bind_some, if_neg h]
      exact ev_some rfl
theorem l03Disk_some (l : List Int) (hl : l.length ≤ 1048576) (p s : Int) (hp : Inside l p) : ∃ n r0 r1 p' s', Ev (fun k => spec_l03Disk.f k l p s) (r0, r1, p', s') ∧ RightD n 27 r0 r1 ∧ Inside l p' := by
  unfold spec_l03Disk.f
  obtain ⟨b, p1, s1, e, hb, hp1⟩ := l01Below_some l hl p s 6 hp
  have := hb.2 (by omega)
  have ew := w64 (x := 1 + b) (by omega) (by omega)
  simp only [e, Option.bind_some, ew]
  clear ew
  obtain ⟨ss, hss, hlen, h32⟩ := spec_DiskNew_some (1 + b) (by omega)
  obtain ⟨r0, r1, p', s', hgo, hr, hp'⟩ := l03Disk_l0 l hl ss.length 9 0 0 p1 s1 ss [] (by omega) (by omega) (by omega) hp1 ⟨rfl, by omega, by simp, h32, fun w hw => by simp at hw⟩
  refine ⟨ss.length, r0, r1, p', s', ?_, hr, hp'⟩
  exact Ev.bind hss hgo
theorem spec_DrawDisk_some (l : List Int) (hl : l.length ≤ 1048576) : ∃ n r0 r1, Ev (fun k => spec_DrawDisk.f k l) (r0, r1) ∧ RightD n 27 r0 r1 := by
  unfold spec_DrawDisk.f
  obtain ⟨s, hs⟩ := l01New_some l hl
  obtain ⟨n, r0, r1, p', s', h, hr, _⟩ := l03Disk_some l hl 0 s (inside0 l)
  refine ⟨n, r0, r1, ?_, hr⟩
  refine Ev.bind hs ?_
  refine Ev.bind h ?_
  exact ev_some rfl
theorem getD_set_eq (ss : List ByteArray) (i : Nat) (x : ByteArray) (h : i < ss.length) : (ss.set i x).getD i ByteArray.empty = x := by
  rw [List.getD_eq_getElem?_getD, List.getElem?_set_self h]; rfl
theorem getD_set_ne (ss : List ByteArray) (i j : Nat) (x : ByteArray) (h : i ≠ j) : (ss.set i x).getD j ByteArray.empty = ss.getD j ByteArray.empty := by
  rw [List.getD_eq_getElem?_getD, List.getD_eq_getElem?_getD, List.getElem?_set_ne h]
theorem foldW_getD (c : List S63) (i : Nat) : ∀ ss : List ByteArray, i < ss.length → (∀ w, w ∈ c → 0 ≤ w.f0) → (c.foldl putW ss).getD i ByteArray.empty = wrLast (i : Int) (c.map W2) (ss.getD i ByteArray.empty) := by
  induction c with
  | nil => intro ss _ _; rfl
  | cons w c ih =>
    intro ss hi hc
    have h0 := hc w (by simp)
    rw [List.foldl_cons, ih _ (by rw [putW_length]; exact hi) (fun w hw => hc w (by simp [hw])), List.map_cons, wrLast_cons]
    congr 1
    unfold putW W2
    by_cases h : w.f0 = (i : Int)
    · rw [if_pos h, show w.f0.toNat = i by omega, getD_set_eq ss i _ hi]
    · rw [if_neg h, getD_set_ne ss _ _ _ (by omega)]
theorem readSectorM_nil (ss : List ByteArray) (i : Nat) (h : i < ss.length) : readSectorM ss [] (i : Int) = (ss.getD i ByteArray.empty, true) := by
  unfold readSectorM
  rw [if_pos (by omega), Int.toNat_natCast]
  rfl
theorem readSectorM_at (ss : List ByteArray) (c : List Wr) (i : Nat) (h : i < ss.length) : readSectorM ss c (i : Int) = (wrLast (i : Int) c (ss.getD i ByteArray.empty), true) := by
  unfold readSectorM
  rw [if_pos (by omega), Int.toNat_natCast]

/-! drawany -/
theorem l01PickInt_some (l : List Int) (hl : l.length ≤ 1048576) (p s : Int) (hp : Inside l p) (L : List Int) (hL : 0 < L.length) : ∃ v p' s', spec_l01PickInt.f l p s L = some (v, p', s') ∧ v ∈ L ∧ Inside l p' := by
  unfold spec_l01PickInt.f
  obtain ⟨b, p1, s1, e, hb, hp1⟩ := l01Below_some l hl p s (L.length : Int) hp
  have h2 := hb.2 (by omega)
  refine ⟨rd L b, p1, s1, ?_, ?_, hp1⟩
  · simp only [e, Option.bind_some, if_pos hb.1, if_pos h2]
  · unfold rd
    rw [List.getD_eq_getElem?_getD, List.getElem?_eq_getElem (show b.toNat < L.length by omega)]
    exact List.getElem_mem _
theorem l03Keep_l0 (l : List Int) (hl : l.length ≤ 1048576) (d : Nat) : ∀ (i : Nat) (acc : List Int) (p s : Int), 14 - i = d → i ≤ 14 → acc.length = i → Inside l p → ∃ r p' s', Ev (fun k => spec_l03Keep.l0 k acc (i : Int) l p s) (r, p', s') ∧ r.length ≤ 14 ∧ Inside l p' := by
  induction d with
  | zero =>
    intro i acc p s hd hi ha hp
    obtain ⟨b, p1, s1, e, hb, hp1⟩ := l01Below_some l hl p s 14 hp
    have h2 := hb.2 (by omega)
    refine ⟨acc, p1, s1, ev_succ ?_, by omega, hp1⟩
    simp only [spec_l03Keep.l0, e, Option.bind_some, if_neg (show ¬ (i : Int) < b by omega)]
    exact ev_some rfl
  | succ d ih =>
    intro i acc p s hd hi ha hp
    obtain ⟨b, p1, s1, e, hb, hp1⟩ := l01Below_some l hl p s 14 hp
    by_cases h : (i : Int) < b
    · obtain ⟨c, p2, s2, e2, hc, hp2⟩ := l01Below_some l hl p1 s1 3 hp1
      obtain ⟨r, p', s', h1, h3, h4⟩ := ih (i + 1) (acc ++ [wrap64 (c - 1)]) p2 s2 (by omega) (by omega) (by simp; omega) hp2
      refine ⟨r, p', s', ev_succ ?_, h3, h4⟩
      simp only [spec_l03Keep.l0, e, e2, Option.bind_some, if_pos h, if_pos (show acc.length < 17592186044416 by omega), wn i (show i < 14 by omega) (by omega)]
      exact h1
    · refine ⟨acc, p1, s1, ev_succ ?_, by omega, hp1⟩
      simp only [spec_l03Keep.l0, e, Option.bind_some, if_neg h]
      exact ev_some rfl
theorem l03Keep_some (l : List Int) (hl : l.length ≤ 1048576) (p s : Int) (hp : Inside l p) : ∃ r p' s', Ev (fun k => spec_l03Keep.f k l p s) (r, p', s') ∧ r.length ≤ 14 ∧ Inside l p' := l03Keep_l0 l hl 14 0 [] p s (by omega) (by omega) rfl hp
theorem l01Long_some (n : Int) (v : Int) (hn : 0 ≤ n ∧ n ≤ 100000) : ∃ t : ByteArray, Ev (fun k => spec_l01Long.f k n v) t ∧ (t.size : Int) = n := by
  obtain ⟨m, rfl⟩ := Int.eq_ofNat_of_zero_le hn.1
  obtain ⟨t, h, hs⟩ := l01Long_l0 m v (by omega) m 0 (List.replicate m 0) (by omega) (by omega) (by simp)
  refine ⟨t, ?_, by omega⟩
  unfold spec_l01Long.f
  simp only [if_pos hn.1, Int.toNat_natCast, if_pos (show m ≤ 281474976710656 by omega)]
  exact h
/-- Any disk that is drawn: not too many sectors and writes, none too long. -/
def AnyD (r0 : List ByteArray) (r1 : List S63) : Prop := r0.length ≤ 100 ∧ r1.length ≤ 61 ∧ (∀ s, s ∈ r0 → s.size ≤ 33) ∧ ∀ w, w ∈ r1 → w.f1.size ≤ 33
theorem rightD_any {n m : Nat} {r0 : List ByteArray} {r1 : List S63} (h : RightD n m r0 r1) (hm : m ≤ 60) : AnyD r0 r1 := by
  obtain ⟨h1, h2, h3, h4, h5⟩ := h
  exact ⟨by omega, by omega, fun s hs => by rw [h4 s hs]; omega, fun w hw => by rw [(h5 w hw).2]; omega⟩
theorem l03Any_l0 (l : List Int) (x : Int) (hx : 0 ≤ x) (p s : Int) (d : Nat) : ∀ (r0 : List ByteArray) (r1 : List S63), 61 - r1.length = d → AnyD r0 r1 → ∃ q1, Ev (fun k => spec_l03Any.l0 k x l p s r0 r1) (r0, q1, p, s) ∧ AnyD r0 q1 := by
  have m0 := Int.tmod_nonneg 3 hx
  have m1 := Int.tmod_lt_of_pos x (show (0 : Int) < 3 by decide)
  have ew := w64 (x := 59 + Int.tmod x 3) (by omega) (by omega)
  obtain ⟨z, hz, hzs⟩ := l03Zero_some
  induction d with
  | zero =>
    intro r0 r1 hd h
    refine ⟨r1, ev_succ ?_, h⟩
    simp only [spec_l03Any.l0, ew, if_neg (show ¬ (r1.length : Int) < 59 + Int.tmod x 3 by omega)]
    exact ev_some rfl
  | succ d ih =>
    intro r0 r1 hd h
    by_cases hc : (r1.length : Int) < 59 + Int.tmod x 3
    · obtain ⟨q1, h1, h2⟩ := ih r0 (r1 ++ [(⟨0, z⟩ : S63)]) (by simp; omega) ⟨h.1, by simp; omega, h.2.2.1, fun w hw => by
        rcases List.mem_append.1 hw with hw | hw
        · exact h.2.2.2 w hw
        · rw [List.mem_singleton.1 hw]; simp only; omega⟩
      refine ⟨q1, ev_succ ?_, h2⟩
      simp only [spec_l03Any.l0, ew, if_pos hc]
      refine Ev.bind hz ?_
      simp only [if_pos (show r1.length < 5864062014805 by omega)]
      exact h1
    · refine ⟨r1, ev_succ ?_, h⟩
      simp only [spec_l03Any.l0, ew, if_neg hc]
      exact ev_some rfl
theorem l03Any_some (l : List Int) (hl : l.length ≤ 1048576) (p s : Int) (hp : Inside l p) : ∃ r0 r1 p' s', Ev (fun k => spec_l03Any.f k l p s) (r0, r1, p', s') ∧ AnyD r0 r1 ∧ Inside l p' := by
  unfold spec_l03Any.f
  obtain ⟨k, p1, s1, e1, hk, hp1⟩ := l01Below_some l hl p s 12 hp
  obtain ⟨x, p2, s2, e2, hx, hp2⟩ := l01Below_some l hl p1 s1 60 hp1
  obtain ⟨n, q0, q1, p3, s3, h3, hR, hp3⟩ := l03Disk_some l hl p2 s2 hp2
  obtain ⟨hn, hn2, hc, h32, hw⟩ := id hR
  have hA := rightD_any hR (by omega)
  have m0 := Int.tmod_nonneg 3 hx.1
  have m1 := Int.tmod_lt_of_pos x (show (0 : Int) < 3 by decide)
  have ew := w64 (x := 31 + Int.tmod x 3) (by omega) (by omega)
  simp only [e1, e2, Option.bind_some, ew]
  clear ew
  have hcopy : spec_l03Copy.f q0 q1 = some (q0, q1) := spec_l03Copy_f q0 q1 (by omega) (by omega)
  by_cases k0 : k = 0
  · obtain ⟨t, ht, hts⟩ := l01Long_some (31 + Int.tmod x 3) 97 (by omega)
    have i0 := Int.tmod_nonneg (q0.length : Int) hx.1
    have i1 := Int.tmod_lt_of_pos x (show (0 : Int) < (q0.length : Int) by omega)
    refine ⟨q0.set (Int.tmod x (q0.length : Int)).toNat t, q1, p3, s3, ?_, ⟨by rw [List.length_set]; omega, by omega, fun s hs => ?_, fun w hw => hA.2.2.2 w hw⟩, hp3⟩
    · refine Ev.bind h3 ?_
      simp only [hcopy, Option.bind_some, if_pos k0, if_neg (show ¬ (q0.length : Int) = 0 by omega)]
      refine Ev.bind ht ?_
      simp only [if_pos i0, if_pos i1]
      exact ev_some rfl
    · rcases List.mem_or_eq_of_mem_set hs with h | h
      · exact hA.2.2.1 s h
      · rw [h]; omega
  by_cases k1 : k = 1
  · obtain ⟨t, ht, hts⟩ := l01Long_some (31 + Int.tmod x 3) 98 (by omega)
    refine ⟨q0, q1 ++ [(⟨wrap64 (Int.tmod x 9 - 1), t⟩ : S63)], p3, s3, ?_, ⟨by omega, by simp; omega, hA.2.2.1, fun w hw => ?_⟩, hp3⟩
    · refine Ev.bind h3 ?_
      simp only [hcopy, Option.bind_some, if_neg k0, if_pos k1]
      refine Ev.bind ht ?_
      simp only [if_pos (show q1.length < 5864062014805 by omega)]
      exact ev_some rfl
    · rcases List.mem_append.1 hw with hw | hw
      · exact hA.2.2.2 w hw
      · rw [List.mem_singleton.1 hw]; simp only; omega
  by_cases k2 : k = 2
  · obtain ⟨r1, hr, hrA⟩ := l03Any_l0 l x hx.1 p3 s3 _ q0 q1 rfl hA
    refine ⟨q0, r1, p3, s3, ?_, hrA, hp3⟩
    refine Ev.bind h3 ?_
    simp only [hcopy, Option.bind_some, if_neg k0, if_neg k1, if_pos k2]
    exact hr
  by_cases k3 : k = 3
  · refine ⟨[], q1, p3, s3, ?_, ⟨by simp, by omega, fun s hs => by simp at hs, hA.2.2.2⟩, hp3⟩
    refine Ev.bind h3 ?_
    simp only [hcopy, Option.bind_some, if_neg k0, if_neg k1, if_neg k2, if_pos k3, if_pos (show (0 : Int) ≤ (q0.length : Int) by omega)]
    exact ev_some rfl
  · refine ⟨q0, q1, p3, s3, ?_, hA, hp3⟩
    refine Ev.bind h3 ?_
    simp only [hcopy, Option.bind_some, if_neg k0, if_neg k1, if_neg k2, if_neg k3]
    exact ev_some rfl

/-! crashdisk -/
def keptGo : List S63 → List Int → List S63
  | w :: ws, b :: bs => if Int.tmod b 2 = 0 then keptGo ws bs else w :: keptGo ws bs
  | _, _ => []
theorem keptGo_nil (l : List S63) : keptGo l [] = [] := by cases l <;> rfl
theorem keptGo_step (l : List S63) (K : List Int) (i : Nat) (h1 : i < l.length) (h2 : i < K.length) : keptGo (l.drop i) (K.drop i) = if Int.tmod (rd K (i : Int)) 2 = 0 then keptGo (l.drop (i + 1)) (K.drop (i + 1)) else l.getD i z63 :: keptGo (l.drop (i + 1)) (K.drop (i + 1)) := by
  have e : rd K (i : Int) = K.getD i 0 := by unfold rd; rw [Int.toNat_natCast]
  rw [getD_drop z63 l i h1, getD_drop 0 K i h2, e]
  rfl
theorem keptGo_end (l : List S63) (K : List Int) (i : Nat) (h : l.length ≤ i ∨ K.length ≤ i) : keptGo (l.drop i) (K.drop i) = [] := by
  rcases h with h | h
  · rw [List.drop_eq_nil_of_le h]; rfl
  · rw [List.drop_eq_nil_of_le h, keptGo_nil]
theorem keptGo_length (l : List S63) : ∀ K : List Int, (keptGo l K).length ≤ l.length := by
  induction l with
  | nil => intro K; simp [keptGo]
  | cons w l ih =>
    intro K
    cases K with
    | nil => simp [keptGo]
    | cons b K =>
      have := ih K
      unfold keptGo
      split
      · simp; omega
      · simp; omega
theorem keptGo_mem (l : List S63) : ∀ (K : List Int) (w : S63), w ∈ keptGo l K → w ∈ l := by
  induction l with
  | nil => intro K w h; simp [keptGo] at h
  | cons x l ih =>
    intro K w h
    cases K with
    | nil => simp [keptGo] at h
    | cons b K =>
      unfold keptGo at h
      split at h
      · exact List.mem_cons_of_mem _ (ih K w h)
      · rcases List.mem_cons.1 h with rfl | h
        · exact List.mem_cons_self
        · exact List.mem_cons_of_mem _ (ih K w h)
/-- A write of which only the first bytes reach the sector. -/
def putT (t : Nat) (ss : List ByteArray) (w : S63) : List ByteArray := ss.set w.f0.toNat (w.f1.extract 0 t ++ (ss.getD w.f0.toNat ByteArray.empty).extract t (ss.getD w.f0.toNat ByteArray.empty).size)
def applyM (t : Nat) : List ByteArray → List S63 → List ByteArray
  | ss, [] => ss
  | ss, w :: ws => if ws = [] then putT t ss w else applyM t (putW ss w) ws
theorem applyM_length (t : Nat) (c : List S63) : ∀ ss : List ByteArray, (applyM t ss c).length = ss.length := by
  induction c with
  | nil => intro ss; rfl
  | cons w c ih =>
    intro ss
    unfold applyM
    split
    · unfold putT; rw [List.length_set]
    · rw [ih, putW_length]
def crashM (l0 : List ByteArray) (l1 : List S63) (K : List Int) (x : Int) : List ByteArray × List S63 := if diskOkM l0 l1 = true then (applyM (x % 33).toNat l0 (keptGo l1 K), []) else (l0, l1)
theorem crashM_length (l0 : List ByteArray) (l1 : List S63) (K : List Int) (x : Int) : (crashM l0 l1 K x).1.length = l0.length ∧ (crashM l0 l1 K x).2.length ≤ l1.length := by
  unfold crashM
  split
  · exact ⟨applyM_length _ _ _, by simp⟩
  · exact ⟨rfl, Nat.le_refl _⟩
theorem tmod33 (x : Int) : (0 ≤ x % 33 ∧ x % 33 < 33) ∧ (-33 < Int.tmod x 33 ∧ Int.tmod x 33 < 33) ∧ (Int.tmod x 33 = x % 33 ∨ Int.tmod x 33 = x % 33 - 33) := by
  have h := Int.tmod_eq_emod (a := x) (b := 33)
  have h1 : Int.tmod x 33 = x % 33 ∨ Int.tmod x 33 = x % 33 - 33 := by
    rw [h]
    split
    · left; simp
    · right; rfl
  have h2 := Int.lt_tmod_of_pos x (show (0 : Int) < 33 by decide)
  have h3 := Int.tmod_lt_of_pos x (show (0 : Int) < 33 by decide)
  exact ⟨by omega, ⟨h2, h3⟩, h1⟩
theorem putT_size (w s : ByteArray) (t : Nat) (ht : t ≤ 32) (hw : w.size = 32) (hs : s.size = 32) : (w.extract 0 t ++ s.extract t s.size).size = 32 := by
  rw [size_append, size_extract, size_extract]; omega
theorem ext_all (w : ByteArray) (h : w.size = 32) : w.extract 0 32 = w := by
  apply bytes_eq
  rw [bytes_extract]
  rw [List.take_of_length_le (by rw [bytesOf_length]; omega)]
  rfl
theorem ext_none (s : ByteArray) (h : s.size = 32) : s.extract 32 s.size = ByteArray.empty := by
  apply bytes_eq
  rw [bytes_extract, h, List.drop_eq_nil_of_le (by rw [List.length_take]; omega)]
  rfl
def LastInv (K : List Int) (i : Nat) (last : Int) : Prop := (-1 ≤ last ∧ last < (i : Int)) ∧ (0 ≤ last → Int.tmod (rd K last) 2 ≠ 0) ∧ ∀ j : Nat, last < (j : Int) → j < i → Int.tmod (rd K (j : Int)) 2 = 0
theorem spec_CrashDisk_l0 (l0 : List ByteArray) (l1 : List S63) (c0 : List ByteArray) (c1 : List S63) (K : List Int) (x : Int) (r : List ByteArray × List S63) (hl : l1.length ≤ 60)
    (fin : ∀ last, LastInv K (min l1.length K.length) last → Ev (fun k => spec_CrashDisk.j2 k K last (x % 33) l0 l1 c0 c1) r) (d : Nat) :
    ∀ (i : Nat) (last : Int), min l1.length K.length - i = d → i ≤ min l1.length K.length → LastInv K i last → Ev (fun k => spec_CrashDisk.l0 k K x last (i : Int) l0 l1 c0 c1) r := by
  have hend : ∀ (i : Nat) (last : Int), i = min l1.length K.length → LastInv K i last → Ev (fun k => spec_CrashDisk.j1 k K x last (i : Int) false l0 l1 c0 c1) r := by
    intro i last hi hL
    refine ev_succ ?_
    obtain ⟨m1, m2, m3⟩ := tmod33 x
    simp only [spec_CrashDisk.j1, Bool.false_eq_true, if_false]
    subst hi
    have hf := fin last hL
    refine ev_if (fun h => ?_) (fun h => ?_)
    · have e1 := w64 (x := Int.tmod x 33 + 32) (by omega) (by omega)
      rw [e1]
      clear e1
      have e2 := w64 (x := Int.tmod x 33 + 32 + 1) (by omega) (by omega)
      rw [e2]
      clear e2
      rw [show Int.tmod x 33 + 32 + 1 = x % 33 by omega]
      exact hf
    · rw [show Int.tmod x 33 = x % 33 by omega]
      exact hf
  induction d with
  | zero =>
    intro i last hd hi hL
    have hi' : i = min l1.length K.length := by omega
    refine ev_succ ?_
    simp only [spec_CrashDisk.l0]
    by_cases g : (i : Int) < (l1.length : Int)
    · simp only [if_pos g, decide_eq_false (show ¬ (i : Int) < (K.length : Int) by omega)]
      exact hend i last hi' hL
    · simp only [if_neg g]
      exact hend i last hi' hL
  | succ d ih =>
    intro i last hd hi hL
    have hlt : i < l1.length := by omega
    have hlt2 : i < K.length := by omega
    refine ev_succ ?_
    have g1 : (i : Int) < (l1.length : Int) := by omega
    have g2 : (0 : Int) ≤ (i : Int) := by omega
    have g3 : (i : Int) < (K.length : Int) := by omega
    simp only [spec_CrashDisk.l0, if_pos g1, decide_eq_true g3]
    refine ev_succ ?_
    simp only [spec_CrashDisk.j1, if_true, if_pos g2, if_pos g3, wn i hlt (show l1.length ≤ 140737488355328 by omega)]
    obtain ⟨q1, q2, q3⟩ := hL
    refine ev_if (fun h => ?_) (fun h => ?_)
    · refine ih (i + 1) last (by omega) (by omega) ⟨by omega, q2, fun j h1 h2 => ?_⟩
      by_cases hj : j = i
      · subst hj; exact h
      · exact q3 j h1 (by omega)
    · exact ih (i + 1) (i : Int) (by omega) (by omega) ⟨by omega, fun _ => h, fun j h1 h2 => by omega⟩
theorem keptGo_even (l : List S63) (K : List Int) (d : Nat) : ∀ i : Nat, min l.length K.length - i = d → (∀ j : Nat, i ≤ j → j < min l.length K.length → Int.tmod (rd K (j : Int)) 2 = 0) → keptGo (l.drop i) (K.drop i) = [] := by
  induction d with
  | zero => intro i hd _; exact keptGo_end l K i (by omega)
  | succ d ih =>
    intro i hd h
    rw [keptGo_step l K i (by omega) (by omega), if_pos (h i (Nat.le_refl _) (by omega))]
    exact ih (i + 1) (by omega) (fun j h1 h2 => h j (by omega) h2)
theorem keptGo_some (l : List S63) (K : List Int) (m : Nat) (hm : m < min l.length K.length) (ho : Int.tmod (rd K (m : Int)) 2 ≠ 0) (d : Nat) : ∀ i : Nat, m - i = d → i ≤ m → keptGo (l.drop i) (K.drop i) ≠ [] := by
  induction d with
  | zero =>
    intro i hd hi
    obtain rfl : i = m := by omega
    rw [keptGo_step l K i (by omega) (by omega), if_neg ho]
    exact List.cons_ne_nil _ _
  | succ d ih =>
    intro i hd hi
    rw [keptGo_step l K i (by omega) (by omega)]
    split
    · exact ih (i + 1) (by omega) (by omega)
    · exact List.cons_ne_nil _ _
theorem spec_CrashDisk_l1 (l0 : List ByteArray) (l1 c1 : List S63) (K : List Int) (n : Nat) (t : Nat) (ht : t ≤ 32) (last : Int) (hL : LastInv K (min l1.length K.length) last) (hl : l1.length ≤ 60) (hw : ∀ w, w ∈ l1 → (0 ≤ w.f0 ∧ w.f0 ≤ (n : Int) - 1) ∧ w.f1.size = 32) (d : Nat) :
    ∀ (i : Nat) (cur : List ByteArray), cur.length = n → All32 cur → (last + 1 - (i : Int)).toNat = d → (i : Int) ≤ last + 1 → Ev (fun k => spec_CrashDisk.l1 k K last (t : Int) (i : Int) l0 l1 cur c1) (applyM t cur (keptGo (l1.drop i) (K.drop i)), []) := by
  obtain ⟨q1, q2, q3⟩ := hL
  induction d with
  | zero =>
    intro i cur hc ha hd hi
    refine ev_succ ?_
    simp only [spec_CrashDisk.l1, if_neg (show ¬ (i : Int) ≤ last by omega)]
    rw [keptGo_even l1 K _ i rfl (fun j h1 h2 => q3 j (by omega) h2)]
    exact ev_some rfl
  | succ d ih =>
    intro i cur hc ha hd hi
    have hlt : i < l1.length := by omega
    have hlt2 : i < K.length := by omega
    have hm : l1.getD i z63 ∈ l1 := by
      rw [List.getD_eq_getElem?_getD, List.getElem?_eq_getElem hlt]
      exact List.getElem_mem hlt
    obtain ⟨hb, hb2⟩ := hw _ hm
    refine ev_succ ?_
    have g0 : (i : Int) ≤ last := by omega
    have g1 : (i : Int) < (l1.length : Int) := by omega
    have g2 : (0 : Int) ≤ (i : Int) := by omega
    have g3 : (i : Int) < (K.length : Int) := by omega
    have g4 : (l1.getD i z63).f0 < (cur.length : Int) := by omega
    have e4 : wrap64 ((i : Int) + 1) = ((i + 1 : Nat) : Int) := wn i hlt (show l1.length ≤ 140737488355328 by omega)
    simp only [spec_CrashDisk.l1, if_pos g0, if_pos g1, if_pos g2, if_pos g3, rd_W, e4]
    clear e4
    rw [keptGo_step l1 K i hlt hlt2]
    refine ev_if (fun h => ?_) (fun h => ?_)
    · rw [if_pos h]
      exact ih (i + 1) cur hc ha (by omega) (by omega)
    · rw [if_neg h]
      have hj : (l1.getD i z63).f0.toNat < cur.length := by omega
      have hs := all32_getD cur ha _ hj
      have er : rdOf ByteArray.empty cur (l1.getD i z63).f0 = cur.getD (l1.getD i z63).f0.toNat ByteArray.empty := rfl
      have hput := putT_size (l1.getD i z63).f1 _ t ht hb2 hs
      simp only [if_pos hb.1, if_pos g4, er, Int.toNat_natCast]
      refine ev_if (fun h2 => ?_) (fun h2 => ?_)
      · have hrest : keptGo (l1.drop (i + 1)) (K.drop (i + 1)) = [] := keptGo_even l1 K _ (i + 1) rfl (fun j h1 h3 => q3 j (by omega) h3)
        have k1 : (t : Int) ≤ ((l1.getD i z63).f1.size : Int) := by omega
        have k2 : (t : Int) ≤ ((cur.getD (l1.getD i z63).f0.toNat ByteArray.empty).size : Int) := by omega
        have k3 : ((l1.getD i z63).f1.extract 0 t).size + ((cur.getD (l1.getD i z63).f0.toNat ByteArray.empty).extract t (cur.getD (l1.getD i z63).f0.toNat ByteArray.empty).size).size ≤ 9223372036854775807 := by
          rw [size_append] at hput; omega
        simp only [if_pos (show (0 : Int) ≤ (t : Int) by omega), if_pos k1, if_pos k2, if_pos k3]
        have hgo := ih (i + 1) (putT t cur (l1.getD i z63)) (by unfold putT; rw [List.length_set]; exact hc) (all32_set _ ha _ _ hput) (by omega) (by omega)
        rw [hrest] at hgo ⊢
        have ea : applyM t cur [l1.getD i z63] = putT t cur (l1.getD i z63) := rfl
        have eb : applyM t (putT t cur (l1.getD i z63)) [] = putT t cur (l1.getD i z63) := rfl
        rw [ea]
        rw [eb] at hgo
        exact hgo
      · have hrest : keptGo (l1.drop (i + 1)) (K.drop (i + 1)) ≠ [] := by
          obtain ⟨m, rfl⟩ := Int.eq_ofNat_of_zero_le (show 0 ≤ last by omega)
          exact keptGo_some l1 K m (by omega) (q2 (by omega)) _ (i + 1) rfl (by omega)
        have ea : applyM t cur (l1.getD i z63 :: keptGo (l1.drop (i + 1)) (K.drop (i + 1))) = applyM t (putW cur (l1.getD i z63)) (keptGo (l1.drop (i + 1)) (K.drop (i + 1))) := by
          conv => lhs; unfold applyM
          rw [if_neg hrest]
        rw [ea]
        exact ih (i + 1) (putW cur (l1.getD i z63)) (by rw [putW_length]; exact hc) (all32_set _ ha _ _ hb2) (by omega) (by omega)
theorem spec_CrashDisk_ev (l0 : List ByteArray) (l1 : List S63) (h0 : l0.length ≤ 1048576) (h1 : l1.length ≤ 1048576) (K : List Int) (x : Int) : Ev (fun k => spec_CrashDisk.f k l0 l1 K x) (crashM l0 l1 K x) := by
  unfold spec_CrashDisk.f crashM
  simp only [spec_l03Copy_f l0 l1 h0 h1, Option.bind_some]
  refine Ev.bind (spec_DiskOk_ev l0 l1) ?_
  refine ev_if (fun h => ?_) (fun h => ?_)
  · rw [if_pos h]
    obtain ⟨p1, p2, p3, p4⟩ := diskOkM_parts l0 l1 h
    refine spec_CrashDisk_l0 l0 l1 l0 l1 K x _ p2 (fun last hL => ?_) _ 0 (-1) rfl (by omega) ⟨by omega, by omega, fun j _ h2 => by omega⟩
    refine ev_succ ?_
    simp only [spec_CrashDisk.j2]
    obtain ⟨m1, _, _⟩ := tmod33 x
    obtain ⟨t, ht⟩ := Int.eq_ofNat_of_zero_le m1.1
    rw [ht]
    have := spec_CrashDisk_l1 l0 l1 l1 K l0.length t (by omega) last hL p2 p4 _ 0 l0 rfl p3 rfl (by have := hL.1.1; omega)
    simpa using this
  · rw [if_neg h]; exact ev_some rfl
theorem impl_CrashDisk_l0 (l1 : List S63) (c0 : List ByteArray) (c1 : List S63) (K : List Int) (x : Int) (r : List ByteArray × List S63) (hl : l1.length ≤ 60)
    (fin : Ev (fun k => impl_CrashDisk.l1 k x (keptGo l1 K) (keptGo l1 K) ((keptGo l1 K).length : Int) 0 c0 c1) r) (d : Nat) :
    ∀ (i : Nat) (acc : List S63), l1.length - i = d → i ≤ l1.length → acc.length ≤ i → acc ++ keptGo (l1.drop i) (K.drop i) = keptGo l1 K → Ev (fun k => impl_CrashDisk.l0 k K x acc l1 (l1.length : Int) (i : Int) c0 c1) r := by
  induction d with
  | zero =>
    intro i acc hd hi hacc he
    refine ev_succ ?_
    simp only [impl_CrashDisk.l0, if_neg (show ¬ (i : Int) < (l1.length : Int) from by omega)]
    rw [keptGo_end l1 K i (by omega), List.append_nil] at he
    rw [he]
    exact fin
  | succ d ih =>
    intro i acc hd hi hacc he
    have hlt : i < l1.length := by omega
    refine ev_succ ?_
    have g1 : (i : Int) < (l1.length : Int) := by omega
    have g2 : (0 : Int) ≤ (i : Int) := by omega
    simp only [impl_CrashDisk.l0, if_pos g1, if_pos g2, rd_W, wn i hlt (show l1.length ≤ 140737488355328 by omega)]
    refine ev_if (fun h => ?_) (fun h => ?_)
    · have hlt2 : i < K.length := by omega
      rw [keptGo_step l1 K i hlt hlt2] at he
      refine ev_if (fun h2 => ?_) (fun h2 => ?_)
      · rw [if_pos h2] at he
        exact ih (i + 1) acc (by omega) (by omega) (by omega) he
      · rw [if_neg h2] at he
        simp only [if_pos (show acc.length < 5864062014805 by omega)]
        exact ih (i + 1) (acc ++ [l1.getD i z63]) (by omega) (by omega) (by simp; omega) (by simpa using he)
    · refine ih (i + 1) acc (by omega) (by omega) (by omega) ?_
      rw [keptGo_end l1 K i (by omega)] at he
      rw [keptGo_end l1 K (i + 1) (by omega)]
      exact he
theorem impl_CrashDisk_l1 (F : List S63) (c1 : List S63) (x : Int) (n : Nat) (t : Nat) (htx : x % 33 = (t : Int)) (ht : t ≤ 32) (hl : F.length ≤ 60) (hw : ∀ w, w ∈ F → (0 ≤ w.f0 ∧ w.f0 ≤ (n : Int) - 1) ∧ w.f1.size = 32) (d : Nat) :
    ∀ (i : Nat) (cur : List ByteArray), cur.length = n → All32 cur → F.length - i = d → i ≤ F.length → Ev (fun k => impl_CrashDisk.l1 k x F F (F.length : Int) (i : Int) cur c1) (applyM t cur (F.drop i), []) := by
  induction d with
  | zero =>
    intro i cur hc ha hd hi
    refine ev_succ ?_
    simp only [impl_CrashDisk.l1, if_neg (show ¬ (i : Int) < (F.length : Int) by omega)]
    rw [List.drop_eq_nil_of_le (by omega)]
    exact ev_some rfl
  | succ d ih =>
    intro i cur hc ha hd hi
    have hlt : i < F.length := by omega
    have hm : F.getD i z63 ∈ F := by
      rw [List.getD_eq_getElem?_getD, List.getElem?_eq_getElem hlt]
      exact List.getElem_mem hlt
    obtain ⟨hb, hb2⟩ := hw _ hm
    have hj : (F.getD i z63).f0.toNat < cur.length := by omega
    have hs := all32_getD cur ha _ hj
    have er : rdOf ByteArray.empty cur (F.getD i z63).f0 = cur.getD (F.getD i z63).f0.toNat ByteArray.empty := rfl
    refine ev_succ ?_
    have g1 : (i : Int) < (F.length : Int) := by omega
    have g2 : (0 : Int) ≤ (i : Int) := by omega
    have g4 : (F.getD i z63).f0 < (cur.length : Int) := by omega
    have e4 : wrap64 ((i : Int) + 1) = ((i + 1 : Nat) : Int) := wn i hlt (show F.length ≤ 140737488355328 by omega)
    have e5 : wrap64 ((F.length : Int) - 1) = (F.length : Int) - 1 := w64 (by omega) (by omega)
    have e6 : Int.tmod (wrap64 ((wrap64 ((Int.tmod x 33) + 32)) + 1)) 33 = (t : Int) := by
      obtain ⟨m1, m2, m3⟩ := tmod33 x
      have e1 := w64 (x := Int.tmod x 33 + 32) (by omega) (by omega)
      rw [e1]
      clear e1
      have e2 := w64 (x := Int.tmod x 33 + 32 + 1) (by omega) (by omega)
      rw [e2]
      clear e2
      rw [Int.tmod_eq_emod_of_nonneg (by omega)]
      omega
    simp only [impl_CrashDisk.l1, if_pos g1, if_pos g2, rd_W, e4, e5, e6, if_pos hb.1, if_pos g4, er, Int.toNat_natCast]
    clear e4 e5 e6
    rw [getD_drop z63 F i hlt]
    have hput := putT_size (F.getD i z63).f1 _ t ht hb2 hs
    have hput2 := putT_size (F.getD i z63).f1 _ 32 (Nat.le_refl _) hb2 hs
    refine ev_if (fun h2 => ?_) (fun h2 => ?_)
    · have hrest : F.drop (i + 1) = [] := List.drop_eq_nil_of_le (by omega)
      have k1 : (t : Int) ≤ ((F.getD i z63).f1.size : Int) := by omega
      have k2 : (t : Int) ≤ ((cur.getD (F.getD i z63).f0.toNat ByteArray.empty).size : Int) := by omega
      have k3 : ((F.getD i z63).f1.extract 0 t).size + ((cur.getD (F.getD i z63).f0.toNat ByteArray.empty).extract t (cur.getD (F.getD i z63).f0.toNat ByteArray.empty).size).size ≤ 9223372036854775807 := by
        rw [size_append] at hput; omega
      simp only [if_pos (show (0 : Int) ≤ (t : Int) by omega), if_pos k1, if_pos k2, if_pos k3]
      have hgo := ih (i + 1) (putT t cur (F.getD i z63)) (by unfold putT; rw [List.length_set]; exact hc) (all32_set _ ha _ _ hput) (by omega) (by omega)
      rw [hrest] at hgo ⊢
      have ea : applyM t cur [F.getD i z63] = putT t cur (F.getD i z63) := rfl
      have eb : applyM t (putT t cur (F.getD i z63)) [] = putT t cur (F.getD i z63) := rfl
      rw [ea]
      rw [eb] at hgo
      exact hgo
    · have hrest : F.drop (i + 1) ≠ [] := by
        intro h
        have := List.drop_eq_nil_iff.1 h
        omega
      have k1 : (32 : Int) ≤ ((F.getD i z63).f1.size : Int) := by omega
      have k2 : (32 : Int) ≤ ((cur.getD (F.getD i z63).f0.toNat ByteArray.empty).size : Int) := by omega
      have k3 : ((F.getD i z63).f1.extract 0 32).size + ((cur.getD (F.getD i z63).f0.toNat ByteArray.empty).extract 32 (cur.getD (F.getD i z63).f0.toNat ByteArray.empty).size).size ≤ 9223372036854775807 := by
        rw [size_append] at hput2; omega
      simp only [if_pos (show (0 : Int) ≤ 32 by decide), if_pos k1, if_pos k2, if_pos k3]
      have ea : applyM t cur (F.getD i z63 :: F.drop (i + 1)) = applyM t (putW cur (F.getD i z63)) (F.drop (i + 1)) := by
        conv => lhs; unfold applyM
        rw [if_neg hrest]
      rw [ea]
      have ep : cur.set (F.getD i z63).f0.toNat ((F.getD i z63).f1.extract 0 32 ++ (cur.getD (F.getD i z63).f0.toNat ByteArray.empty).extract 32 (cur.getD (F.getD i z63).f0.toNat ByteArray.empty).size) = putW cur (F.getD i z63) := by
        unfold putW
        rw [ext_all _ hb2, ext_none _ hs, ByteArray.append_empty]
      rw [ep]
      exact ih (i + 1) (putW cur (F.getD i z63)) (by rw [putW_length]; exact hc) (all32_set _ ha _ _ hb2) (by omega) (by omega)
theorem impl_CrashDisk_ev (l0 : List ByteArray) (l1 : List S63) (h0 : l0.length ≤ 1048576) (h1 : l1.length ≤ 1048576) (K : List Int) (x : Int) : Ev (fun k => impl_CrashDisk.f k l0 l1 K x) (crashM l0 l1 K x) := by
  unfold impl_CrashDisk.f crashM
  simp only [impl_cloneDisk_f l0 l1 h0 h1, impl_DiskOk_f, Option.bind_some]
  refine ev_if (fun h => ?_) (fun h => ?_)
  · rw [if_pos h]
    obtain ⟨p1, p2, p3, p4⟩ := diskOkM_parts l0 l1 h
    obtain ⟨m1, _, _⟩ := tmod33 x
    obtain ⟨t, ht⟩ := Int.eq_ofNat_of_zero_le m1.1
    rw [ht, Int.toNat_natCast]
    refine impl_CrashDisk_l0 l1 l0 l1 K x _ p2 ?_ _ 0 [] rfl (by omega) (by simp) (by simp)
    have hk := keptGo_length l1 K
    have := impl_CrashDisk_l1 (keptGo l1 K) l1 x l0.length t ht (by omega) (by omega) (fun w hw => p4 w (keptGo_mem l1 K w hw)) _ 0 l0 rfl p3 rfl (by omega)
    simpa using this
  · rw [if_neg h]; exact ev_some rfl

/-! same -/
theorem sameTexts_l0 (l : List ByteArray) (hl : l.length ≤ 1048576) (d : Nat) : ∀ i : Nat, l.length - i = d → i ≤ l.length → Ev (fun k => laws_sameTexts.l0 k l l (i : Int)) true := by
  induction d with
  | zero =>
    intro i hd hi
    refine ev_succ ?_
    simp only [laws_sameTexts.l0, if_neg (show ¬ (i : Int) < (l.length : Int) by omega)]
    exact ev_some rfl
  | succ d ih =>
    intro i hd hi
    refine ev_succ ?_
    simp only [laws_sameTexts.l0, if_pos (show (i : Int) < (l.length : Int) by omega), if_pos (show (0 : Int) ≤ (i : Int) by omega), if_true, wn i (show i < l.length by omega) (by omega)]
    exact ih (i + 1) (by omega) (by omega)
theorem sameTexts_refl (l : List ByteArray) (hl : l.length ≤ 1048576) : Ev (fun k => laws_sameTexts.f k l l) true := by
  unfold laws_sameTexts.f
  simp only [if_true]
  exact sameTexts_l0 l hl _ 0 rfl (by omega)
theorem sameDisk_l0 (s : List ByteArray) (l : List S63) (hl : l.length ≤ 1048576) (d : Nat) : ∀ i : Nat, l.length - i = d → i ≤ l.length → Ev (fun k => laws_sameDisk.l0 k (i : Int) s l s l) true := by
  induction d with
  | zero =>
    intro i hd hi
    refine ev_succ ?_
    simp only [laws_sameDisk.l0, if_neg (show ¬ (i : Int) < (l.length : Int) by omega)]
    exact ev_some rfl
  | succ d ih =>
    intro i hd hi
    refine ev_succ ?_
    simp only [laws_sameDisk.l0, if_pos (show (i : Int) < (l.length : Int) by omega), if_pos (show (0 : Int) ≤ (i : Int) by omega), beq_self_eq_true, Bool.not_true, Bool.or_self, Bool.false_eq_true, if_false, wn i (show i < l.length by omega) (by omega)]
    exact ih (i + 1) (by omega) (by omega)
theorem sameDisk_refl (s : List ByteArray) (l : List S63) (hs : s.length ≤ 1048576) (hl : l.length ≤ 1048576) : Ev (fun k => laws_sameDisk.f k s l s l) true := by
  unfold laws_sameDisk.f
  refine Ev.bind (sameTexts_refl s hs) ?_
  simp only [if_true, bne_self_eq_false]
  refine ev_succ ?_
  simp only [laws_sameDisk.j0, Bool.false_eq_true, if_false]
  exact sameDisk_l0 s l hl _ 0 rfl (by omega)

theorem kept_ones (c : List S63) : keptGo c (List.replicate c.length 1) = c := by
  induction c with
  | nil => rfl
  | cons w c ih =>
    rw [List.length_cons, List.replicate_succ]
    unfold keptGo
    rw [if_neg (by decide), ih]
theorem apply_whole (n : Nat) (c : List S63) : ∀ cur : List ByteArray, cur.length = n → All32 cur → (∀ w, w ∈ c → (0 ≤ w.f0 ∧ w.f0 ≤ (n : Int) - 1) ∧ w.f1.size = 32) → applyM 32 cur c = c.foldl putW cur := by
  induction c with
  | nil => intro cur _ _ _; rfl
  | cons w c ih =>
    intro cur hc ha hw
    obtain ⟨hb, hb2⟩ := hw w (by simp)
    have hs := all32_getD cur ha w.f0.toNat (by omega)
    have ep : putT 32 cur w = putW cur w := by
      unfold putT putW
      rw [ext_all _ hb2, ext_none _ hs, ByteArray.append_empty]
    rw [List.foldl_cons, ← ih (putW cur w) (by rw [putW_length]; exact hc) (all32_set cur ha _ _ hb2) (fun w hw2 => hw w (by simp [hw2]))]
    conv => lhs; unfold applyM
    by_cases h : c = []
    · rw [if_pos h, ep, h]; rfl
    · rw [if_neg h]
theorem FnCrashes_end (l : List Int) (hl : l.length ≤ 1048576) (n : Nat) (q0 : List ByteArray) (q1 : List S63) (hR : RightD n 27 q0 q1) :
    Ev (fun k => laws_FnCrashes.l0 k l (List.replicate q1.length 1) (q1.length : Int) q0 q1) true := by
  obtain ⟨hn, hn2, hc, h32, hw⟩ := id hR
  have hok := rightD_ok hR (by omega)
  have h1 := impl_CrashDisk_ev q0 q1 (by omega) (by omega) [] 5
  have e1 : crashM q0 q1 [] 5 = (q0, []) := by unfold crashM; rw [if_pos hok, keptGo_nil]; rfl
  rw [e1] at h1
  have h2 := impl_CrashDisk_ev q0 q1 (by omega) (by omega) (List.replicate q1.length 1) 32
  have e2 : crashM q0 q1 (List.replicate q1.length 1) 32 = flushM q0 q1 := by
    unfold crashM flushM
    rw [if_pos hok, if_pos hok, kept_ones]
    have e : ((32 : Int) % 33).toNat = 32 := by decide
    rw [e, apply_whole n q1 q0 hn h32 hw]
  rw [e2] at h2
  have h3 := impl_FlushDisk_ev q0 q1 (by omega) (by omega)
  have hF := flush_right hR (by omega)
  obtain ⟨r, hr⟩ : ∃ r, flushM q0 q1 = r := ⟨_, rfl⟩
  rw [hr] at h2 h3 hF
  obtain ⟨r0, r1⟩ := r
  simp only at hF
  have hFo := rightD_ok hF (by omega)
  have hFl := hF.1
  have hFc := hF.2.2.1
  -- the drawn crash
  obtain ⟨s, hs⟩ := l01New_some l hl
  obtain ⟨K, p1, s1, hK, hKl, hp1⟩ := l03Keep_some l hl 0 s (inside0 l)
  obtain ⟨v, p2, s2, hv, _, hp2⟩ := l01PickInt_some l hl p1 s1 hp1 ([0, 1, 17, 32, 33, (-1), 9223372036854775807] : List Int) (by decide)
  obtain ⟨x0, x1, p3, s3, hx, hA, _⟩ := l03Any_some l hl p2 s2 hp2
  have hdraw : Ev (fun k => spec_DrawCrashDisk.f k l) (x0, x1, K, v) := by
    unfold spec_DrawCrashDisk.f
    refine Ev.bind hs ?_
    refine Ev.bind hK ?_
    simp only [hv, Option.bind_some]
    refine Ev.bind hx ?_
    exact ev_some rfl
  have h4 := impl_CrashDisk_ev x0 x1 (by have := hA.1; omega) (by have := hA.2.1; omega) K v
  have h5 := spec_CrashDisk_ev x0 x1 (by have := hA.1; omega) (by have := hA.2.1; omega) K v
  have hcl := crashM_length x0 x1 K v
  have := hA.1
  have := hA.2.1
  refine ev_succ ?_
  simp only [laws_FnCrashes.l0, if_neg (show ¬ (q1.length : Int) < (q1.length : Int) by omega)]
  refine Ev.bind h1 ?_
  refine Ev.bind h2 ?_
  refine Ev.bind hdraw ?_
  refine Ev.bind (sameTexts_refl q0 (by omega)) ?_
  simp only [if_true, List.length_nil, if_pos (show ((0 : Nat) : Int) = 0 by rfl)]
  refine Ev.bind h3 ?_
  refine Ev.bind (sameDisk_refl r0 r1 (by omega) (by omega)) ?_
  simp only [if_true]
  refine Ev.bind h4 ?_
  refine Ev.bind h5 ?_
  refine Ev.bind (sameDisk_refl _ _ (by omega) (by omega)) ?_
  simp only [if_true, impl_DiskOk_f, hFo, Option.bind_some]
  exact ev_some rfl
theorem FnCrashes_l0 (l : List Int) (hl : l.length ≤ 1048576) (n : Nat) (q0 : List ByteArray) (q1 : List S63) (hR : RightD n 27 q0 q1) (d : Nat) : ∀ i : Nat, q1.length - i = d → i ≤ q1.length →
    Ev (fun k => laws_FnCrashes.l0 k l (List.replicate i 1) (i : Int) q0 q1) true := by
  induction d with
  | zero =>
    intro i hd hi
    have e : i = q1.length := by omega
    rw [e]
    exact FnCrashes_end l hl n q0 q1 hR
  | succ d ih =>
    intro i hd hi
    have := hR.2.2.1
    refine ev_succ ?_
    simp only [laws_FnCrashes.l0, if_pos (show (i : Int) < (q1.length : Int) by omega), List.length_replicate, if_pos (show i < 17592186044416 by omega), wn i (show i < q1.length by omega) (by omega)]
    rw [← List.replicate_succ']
    exact ih (i + 1) (by omega) (by omega)
theorem FnCrashes : laws_FnCrashes.Pure := by
  intro l _ _ _
  refine Ev.rounds ?_
  unfold laws_FnCrashes.f laws_big.f
  simp only [Option.bind_some]
  by_cases hz : (l.length : Int) > 1048576
  · simp only [decide_eq_true hz, if_true]
    exact ev_some rfl
  simp only [decide_eq_false hz, Bool.false_eq_true, if_false]
  have hl : l.length ≤ 1048576 := by omega
  obtain ⟨n, q0, q1, hD, hR⟩ := spec_DrawDisk_some l hl
  refine Ev.bind hD ?_
  exact FnCrashes_l0 l hl n q0 q1 hR _ 0 rfl (by omega)

end Go.Proofs.Ytjpngldnkgofaaa.Pure
