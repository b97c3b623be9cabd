/- The pure statement of FnExactCrashDisk, over numbers and lists: it is true of every argument; no condition but the bounds that the statement itself names. -/
import Derived.Test.YtdnjjdmlmfoljaaPFnExactCrashDiskx10
import Derived.Test.YtdnjjdmlmfoljaaVFnExactCrashDisk1
set_option linter.unusedVariables false
set_option linter.unusedSimpArgs false
namespace Go.Proofs.Ytdnjjdmlmfoljaa.Pure
open Go.RowKit Go.Proofs.Ytdnjjdmlmfoljaa.PFnExactCrashDisk Go.Proofs.YtdnjjdmlmfoljaaW.PrintWords Go.Proofs.YtdnjjdmlmfoljaaW.PrintLast Go.Proofs.YtdnjjdmlmfoljaaW.PrintMore Go.Proofs.Ytdnjjdmlmfoljaa.Base

/-! in -/
theorem spec_in_eq (a b c : Int) : spec_l01In.f a b c = some (decide (b ≤ a ∧ a ≤ c)) := by
  unfold spec_l01In.f
  by_cases h : a ≥ b <;> by_cases h2 : a ≤ c <;> simp [h, h2] <;> omega
theorem impl_in_eq (a b c : Int) : impl_in.f a b c = some (decide (b ≤ a ∧ a ≤ c)) := by
  unfold impl_in.f
  by_cases h : a ≥ b <;> by_cases h2 : a ≤ c <;> simp [h, h2] <;> omega

/-! disk -/
def toW (x : S84) : S67 := ⟨x.f0, x.f1⟩
def W2 (x : S67) : Wr := (x.f0, x.f1)
theorem rdOf_nat {α : Type} (d : α) (l : List α) (i : Nat) : rdOf d l (i : Int) = l.getD i d := by unfold rdOf; rw [Int.toNat_natCast]
theorem getD_drop {α : Type} (d : α) (l : List α) (i : Nat) (h : i < l.length) : l.drop i = l.getD i d :: l.drop (i + 1) := by
  rw [List.drop_eq_getElem_cons h, List.getD_eq_getElem?_getD, List.getElem?_eq_getElem h]
  rfl
theorem set_mid {α : Type} (l r : List α) (x v : α) (i : Nat) (h : l.length = i) : (l ++ x :: r).set i v = l ++ v :: r := by
  rw [List.set_append_right _ _ (by omega), h, Nat.sub_self]
  rfl
theorem szStringS_l0 (l : List ByteArray) (hl : l.length ≤ 1048576) (hs : ∀ s, s ∈ l → s.size ≤ maxLen) (d : Nat) : ∀ (i : Nat) (left : Int), l.length - i = d → i ≤ l.length → 0 ≤ left ∧ left ≤ 1048576 →
    ∃ m, Ev (fun k => laws_szStringS.l0 k l left (i : Int)) m ∧ m ≤ left ∧ (0 ≤ m → ∀ s, s ∈ l.drop i → s.size ≤ 1048576) := by
  induction d with
  | zero =>
    intro i left hd hi hleft
    refine ⟨left, ev_succ ?_, by omega, ?_⟩
    · simp only [laws_szStringS.l0, if_neg (show ¬ (i : Int) < (l.length : Int) from by omega)]
      exact ev_some rfl
    · intro _ s hs
      rw [List.drop_eq_nil_of_le (by omega)] at hs
      simp at hs
  | succ d ih =>
    intro i left hd hi hleft
    have hlt : i < l.length := by omega
    have hz : (l.getD i ByteArray.empty).size ≤ 9223372036854775807 := by
      rw [List.getD_eq_getElem?_getD, List.getElem?_eq_getElem hlt]
      exact hs _ (List.getElem_mem hlt)
    have g1 : (i : Int) < (l.length : Int) := by omega
    have g2 : (0 : Int) ≤ (i : Int) := by omega
    have e1 := w64 (x := left - ((l.getD i ByteArray.empty).size : Int)) (by omega) (by omega)
    by_cases h : left - ((l.getD i ByteArray.empty).size : Int) < 0
    · refine ⟨-1, ev_succ ?_, by omega, fun h => by omega⟩
      simp only [laws_szStringS.l0, if_pos g1, if_pos g2, rdOf_nat, e1, if_pos h]
      exact ev_some rfl
    · obtain ⟨m, hm, hle, hall⟩ := ih (i + 1) (left - ((l.getD i ByteArray.empty).size : Int)) (by omega) (by omega) (by omega)
      refine ⟨m, ev_succ ?_, by omega, ?_⟩
      · simp only [laws_szStringS.l0, if_pos g1, if_pos g2, rdOf_nat, e1, if_neg h, wn i hlt (show l.length ≤ 140737488355328 from Nat.le_trans hl (by decide))]
        exact hm
      · intro h0 s hs'
        rw [getD_drop ByteArray.empty l i hlt] at hs'
        rcases List.mem_cons.1 hs' with rfl | hs'
        · omega
        · exact hall h0 s hs'
theorem szWriteS_l0 (l : List S84) (hl : l.length ≤ 1048576) (hs : ∀ s, s ∈ l → s.f1.size ≤ maxLen) (d : Nat) : ∀ (i : Nat) (left : Int), l.length - i = d → i ≤ l.length → 0 ≤ left ∧ left ≤ 1048576 →
    ∃ m, Ev (fun k => laws_szWriteS.l0 k l left (i : Int)) m ∧ m ≤ left ∧ (0 ≤ m → ∀ s, s ∈ l.drop i → s.f1.size ≤ 1048576) := by
  induction d with
  | zero =>
    intro i left hd hi hleft
    refine ⟨left, ev_succ ?_, by omega, ?_⟩
    · simp only [laws_szWriteS.l0, if_neg (show ¬ (i : Int) < (l.length : Int) from by omega)]
      exact ev_some rfl
    · intro _ s hs
      rw [List.drop_eq_nil_of_le (by omega)] at hs
      simp at hs
  | succ d ih =>
    intro i left hd hi hleft
    have hlt : i < l.length := by omega
    have hz : (l.getD i z84).f1.size ≤ 9223372036854775807 := by
      rw [List.getD_eq_getElem?_getD, List.getElem?_eq_getElem hlt]
      exact hs _ (List.getElem_mem hlt)
    have hrd : rd_T84 l (i : Int) = l.getD i z84 := by unfold rd_T84; rw [Int.toNat_natCast]
    have g1 : (i : Int) < (l.length : Int) := by omega
    have g2 : (0 : Int) ≤ (i : Int) := by omega
    have e1 := w64 (x := left - ((l.getD i z84).f1.size : Int)) (by omega) (by omega)
    by_cases h : left - ((l.getD i z84).f1.size : Int) < 0
    · refine ⟨-1, ev_succ ?_, by omega, fun h => by omega⟩
      simp only [laws_szWriteS.l0, laws_szWrite.f, if_pos g1, if_pos g2, hrd, e1, if_pos h, Option.bind_some, if_pos (show (-1 : Int) < 0 from by decide)]
      exact ev_some rfl
    · obtain ⟨m, hm, hle, hall⟩ := ih (i + 1) (left - ((l.getD i z84).f1.size : Int)) (by omega) (by omega) (by omega)
      refine ⟨m, ev_succ ?_, by omega, ?_⟩
      · simp only [laws_szWriteS.l0, laws_szWrite.f, if_pos g1, if_pos g2, hrd, e1, if_neg h, Option.bind_some, wn i hlt (show l.length ≤ 140737488355328 from Nat.le_trans hl (by decide))]
        exact hm
      · intro h0 s hs'
        rw [getD_drop z84 l i hlt] at hs'
        rcases List.mem_cons.1 hs' with rfl | hs'
        · omega
        · exact hall h0 s hs'
theorem szDisk_ev (l0 : List ByteArray) (l1 : List S84) (h0 : l0.length ≤ maxLen) (h1 : l1.length ≤ maxLen) (hs0 : ∀ s, s ∈ l0 → s.size ≤ maxLen) (hs1 : ∀ s, s ∈ l1 → s.f1.size ≤ maxLen) :
    ∃ m, Ev (fun k => laws_szDisk.f k l0 l1 1048576) m ∧ (0 ≤ m → l0.length ≤ 1048576 ∧ l1.length ≤ 1048576 ∧ (∀ s, s ∈ l0 → s.size ≤ 1048576) ∧ (∀ s, s ∈ l1 → s.f1.size ≤ 1048576)) := by
  have h0' : l0.length ≤ 9223372036854775807 := h0
  have h1' : l1.length ≤ 9223372036854775807 := h1
  unfold laws_szDisk.f laws_szStringS.f laws_szWriteS.f
  have e0 := w64 (x := 1048576 - (l0.length : Int)) (by omega) (by omega)
  simp only [e0]
  clear e0
  by_cases c0 : 1048576 - (l0.length : Int) < 0
  · refine ⟨-1, ?_, by omega⟩
    simp only [if_pos c0, Option.bind_some, if_pos (show (-1 : Int) < 0 from by decide)]
    exact ev_some rfl
  obtain ⟨m0, e0, hle0, hall0⟩ := szStringS_l0 l0 (by omega) hs0 _ 0 (1048576 - (l0.length : Int)) rfl (by omega) (by omega)
  by_cases c1 : m0 < 0
  · refine ⟨-1, ?_, by omega⟩
    simp only [if_neg c0]
    refine Ev.bind e0 ?_
    simp only [if_pos c1]
    exact ev_some rfl
  have e1 := w64 (x := m0 - (l1.length : Int)) (by omega) (by omega)
  by_cases c2 : m0 - (l1.length : Int) < 0
  · refine ⟨-1, ?_, by omega⟩
    simp only [if_neg c0]
    refine Ev.bind e0 ?_
    simp only [if_neg c1, e1, if_pos c2, Option.bind_some, if_pos (show (-1 : Int) < 0 from by decide)]
    exact ev_some rfl
  obtain ⟨m1, e2, hle1, hall1⟩ := szWriteS_l0 l1 (by omega) hs1 _ 0 (m0 - (l1.length : Int)) rfl (by omega) (by omega)
  by_cases c3 : m1 < 0
  · refine ⟨-1, ?_, by omega⟩
    simp only [if_neg c0]
    refine Ev.bind e0 ?_
    simp only [if_neg c1, e1, if_neg c2]
    refine Ev.bind e2 ?_
    simp only [if_pos c3]
    exact ev_some rfl
  · refine ⟨m1, ?_, fun _ => ⟨by omega, by omega, by simpa using hall0 (by omega), by simpa using hall1 (by omega)⟩⟩
    simp only [if_neg c0]
    refine Ev.bind e0 ?_
    simp only [if_neg c1, e1, if_neg c2]
    refine Ev.bind e2 ?_
    simp only [if_neg c3]
    exact ev_some rfl
theorem toStringS_l0 (l : List ByteArray) (hl : l.length ≤ 1048576) (d : Nat) : ∀ (i : Nat) (rest : List ByteArray), rest.length = d → i + d = l.length →
    Ev (fun k => laws_toStringS.l0 k l (l.take i ++ rest) (i : Int)) l := by
  induction d with
  | zero =>
    intro i rest hr hi
    obtain rfl : rest = [] := List.eq_nil_of_length_eq_zero hr
    refine ev_succ ?_
    simp only [laws_toStringS.l0, if_neg (show ¬ (i : Int) < (l.length : Int) from by omega), List.append_nil]
    exact ev_some (List.take_of_length_le (by omega))
  | succ d ih =>
    intro i rest hr hi
    obtain ⟨x, rest, rfl⟩ : ∃ x t, rest = x :: t := by cases rest with | nil => simp at hr | cons x t => exact ⟨x, t, rfl⟩
    have hlt : i < l.length := by omega
    have hlen : (l.take i ++ x :: rest).length = l.length := by simp at hr ⊢; omega
    have hr' : rest.length = d := by simpa using hr
    have htk : (l.take i).length = i := by simp; omega
    refine ev_succ ?_
    have g1 : (i : Int) < (l.length : Int) := by omega
    have g2 : (0 : Int) ≤ (i : Int) := by omega
    simp only [laws_toStringS.l0, hlen, if_pos g1, if_pos g2, rdOf_nat, Int.toNat_natCast, set_mid _ _ _ _ i htk, wn i hlt (show l.length ≤ 140737488355328 from Nat.le_trans hl (by decide))]
    have := ih (i + 1) rest hr' (by omega)
    rw [List.take_succ_eq_append_getElem hlt, List.append_assoc, List.cons_append, List.nil_append] at this
    have e : l.getD i ByteArray.empty = l[i] := by rw [List.getD_eq_getElem?_getD, List.getElem?_eq_getElem hlt]; rfl
    rw [e]
    exact this
theorem toWriteS_l0 (l : List S84) (hl : l.length ≤ 1048576) (d : Nat) : ∀ (i : Nat) (rest : List S67), rest.length = d → i + d = l.length →
    Ev (fun k => laws_toWriteS.l0 k l ((l.map toW).take i ++ rest) (i : Int)) (l.map toW) := by
  induction d with
  | zero =>
    intro i rest hr hi
    obtain rfl : rest = [] := List.eq_nil_of_length_eq_zero hr
    refine ev_succ ?_
    simp only [laws_toWriteS.l0, if_neg (show ¬ (i : Int) < (l.length : Int) from by omega), List.append_nil]
    exact ev_some (List.take_of_length_le (by simp; omega))
  | succ d ih =>
    intro i rest hr hi
    obtain ⟨x, rest, rfl⟩ : ∃ x t, rest = x :: t := by cases rest with | nil => simp at hr | cons x t => exact ⟨x, t, rfl⟩
    have hlt : i < l.length := by omega
    have hlt2 : i < (l.map toW).length := by simpa using hlt
    have hlen : ((l.map toW).take i ++ x :: rest).length = l.length := by simp at hr ⊢; omega
    have hr' : rest.length = d := by simpa using hr
    have htk : ((l.map toW).take i).length = i := by simp; omega
    have hrd : rd_T84 l (i : Int) = l.getD i z84 := by unfold rd_T84; rw [Int.toNat_natCast]
    refine ev_succ ?_
    have g1 : (i : Int) < (l.length : Int) := by omega
    have g2 : (0 : Int) ≤ (i : Int) := by omega
    simp only [laws_toWriteS.l0, laws_toWrite.f, Option.bind_some, hlen, hrd, if_pos g1, if_pos g2, Int.toNat_natCast, set_mid _ _ _ _ i htk, wn i hlt (show l.length ≤ 140737488355328 from Nat.le_trans hl (by decide))]
    have := ih (i + 1) rest hr' (by omega)
    rw [List.take_succ_eq_append_getElem hlt2, List.append_assoc, List.cons_append, List.nil_append, List.getElem_map] at this
    have e : l.getD i z84 = l[i] := by rw [List.getD_eq_getElem?_getD, List.getElem?_eq_getElem hlt]; rfl
    rw [e]
    exact this
theorem toDisk_ev (l0 : List ByteArray) (l1 : List S84) (h0 : l0.length ≤ 1048576) (h1 : l1.length ≤ 1048576) : Ev (fun k => laws_toDisk.f k l0 l1) (l0, l1.map toW) := by
  unfold laws_toDisk.f laws_toStringS.f laws_toWriteS.f
  simp only [if_pos (show (0 : Int) ≤ (l0.length : Int) from by omega), if_pos (show (0 : Int) ≤ (l1.length : Int) from by omega), Int.toNat_natCast, if_pos (show l0.length ≤ 17592186044416 from by omega), if_pos (show l1.length ≤ 11728124029610 from by omega)]
  refine Ev.bind (a := l0) (by simpa using toStringS_l0 l0 h0 l0.length 0 (List.replicate l0.length (⟨#[]⟩ : ByteArray)) (by simp) (by omega)) ?_
  refine Ev.bind (a := l1.map toW) (by simpa using toWriteS_l0 l1 h1 l1.length 0 (List.replicate l1.length z67) (by simp) (by omega)) ?_
  exact ev_some rfl
theorem eqStringS_l0 (l : List ByteArray) (hl : l.length ≤ 140737488355328) (d : Nat) : ∀ i : Nat, l.length - i = d → i ≤ l.length → Ev (fun k => laws_eqStringS.l0 k l l (i : Int)) true := by
  induction d with
  | zero =>
    intro i hd hi
    refine ev_succ ?_
    simp only [laws_eqStringS.l0, if_neg (show ¬ (i : Int) < (l.length : Int) from by omega)]
    exact ev_some rfl
  | succ d ih =>
    intro i hd hi
    refine ev_succ ?_
    simp only [laws_eqStringS.l0, if_pos (show (i : Int) < (l.length : Int) from by omega), if_pos (show (0 : Int) ≤ (i : Int) from by omega), if_true, wn i (show i < l.length from by omega) (by omega)]
    exact ih (i + 1) (by omega) (by omega)
theorem eqStringS_same (l : List ByteArray) (hl : l.length ≤ 140737488355328) : Ev (fun k => laws_eqStringS.f k l l) true := by
  unfold laws_eqStringS.f
  simp only [if_true]
  exact eqStringS_l0 l hl _ 0 rfl (by omega)
theorem eqWrite_same (a : Int) (b : ByteArray) : laws_eqWrite.f a b a b = some true := by
  unfold laws_eqWrite.f
  simp
theorem eqWriteS_l0 (l : List S67) (hl : l.length ≤ 140737488355328) (d : Nat) : ∀ i : Nat, l.length - i = d → i ≤ l.length → Ev (fun k => laws_eqWriteS.l0 k l l (i : Int)) true := by
  induction d with
  | zero =>
    intro i hd hi
    refine ev_succ ?_
    simp only [laws_eqWriteS.l0, if_neg (show ¬ (i : Int) < (l.length : Int) from by omega)]
    exact ev_some rfl
  | succ d ih =>
    intro i hd hi
    refine ev_succ ?_
    simp only [laws_eqWriteS.l0, if_pos (show (i : Int) < (l.length : Int) from by omega), if_pos (show (0 : Int) ≤ (i : Int) from by omega), eqWrite_same, Option.bind_some, if_true, wn i (show i < l.length from by omega) (by omega)]
    exact ih (i + 1) (by omega) (by omega)
theorem eqWriteS_same (l : List S67) (hl : l.length ≤ 140737488355328) : Ev (fun k => laws_eqWriteS.f k l l) true := by
  unfold laws_eqWriteS.f
  simp only [if_true]
  exact eqWriteS_l0 l hl _ 0 rfl (by omega)
theorem eqDisk_same (l0 : List ByteArray) (l1 : List S67) (h0 : l0.length ≤ 140737488355328) (h1 : l1.length ≤ 140737488355328) : Ev (fun k => laws_eqDisk.f k l0 l1 l0 l1) true := by
  unfold laws_eqDisk.f
  refine Ev.bind (eqStringS_same l0 h0) ?_
  simp only [if_true]
  refine Ev.bind (eqWriteS_same l1 h1) ?_
  simp only [if_true]
  exact ev_some rfl

/-! diskok -/
def sOk (s : ByteArray) : Bool := decide (s.size = 32)
def wOk (n : Nat) (w : S67) : Bool := decide (0 ≤ w.f0 ∧ w.f0 ≤ (n : Int) - 1) && decide (w.f1.size = 32)
/-- What a right disk is. -/
def diskOkM (l0 : List ByteArray) (l1 : List S67) : Bool := decide ((1 ≤ l0.length ∧ l0.length ≤ 100) ∧ l1.length ≤ 60) && (l0.all sOk && l1.all (wOk l0.length))
theorem rd_W (l : List S67) (i : Nat) : rd_T67 l (i : Int) = l.getD i z67 := by unfold rd_T67; rw [Int.toNat_natCast]
theorem l01In_dec (a b c : Int) : spec_l01In.f a b c = some (decide (b ≤ a ∧ a ≤ c)) := by
  unfold spec_l01In.f
  by_cases h : a ≥ b
  · rw [if_pos h]; congr 1; apply Bool.eq_iff_iff.2; simp; omega
  · rw [if_neg h]; congr 1; apply Bool.eq_iff_iff.2; simp; omega
theorem diskOk_l1 (l0 : List ByteArray) (l1 : List S67) (h0 : l0.length ≤ 100) (h1 : l1.length ≤ 60) (d : Nat) : ∀ i : Nat, l1.length - i = d → i ≤ l1.length → Ev (fun k => spec_DiskOk.l1 k (i : Int) l0 l1) ((l1.drop i).all (wOk l0.length)) := by
  induction d with
  | zero =>
    intro i hd hi
    refine ev_succ ?_
    simp only [spec_DiskOk.l1, if_neg (show ¬ (i : Int) < (l1.length : Int) from by omega)]
    rw [List.drop_eq_nil_of_le (by omega)]
    exact ev_some rfl
  | succ d ih =>
    intro i hd hi
    have hlt : i < l1.length := by omega
    refine ev_succ ?_
    have g1 : (i : Int) < (l1.length : Int) := by omega
    have g2 : (0 : Int) ≤ (i : Int) := by omega
    have e1 := w64 (x := (l0.length : Int) - 1) (by omega) (by omega)
    simp only [spec_DiskOk.l1, if_pos g1, if_pos g2, rd_W, l01In_dec, e1, Option.bind_some, wn i hlt (show l1.length ≤ 140737488355328 by omega)]
    rw [getD_drop z67 l1 i hlt, List.all_cons]
    have hw : wOk l0.length (l1.getD i z67) = (decide (0 ≤ (l1.getD i z67).f0 ∧ (l1.getD i z67).f0 ≤ (l0.length : Int) - 1) && decide ((l1.getD i z67).f1.size = 32)) := rfl
    by_cases c1 : 0 ≤ (l1.getD i z67).f0 ∧ (l1.getD i z67).f0 ≤ (l0.length : Int) - 1
    · rw [decide_eq_true c1] at hw
      simp only [decide_eq_true c1, if_true]
      by_cases c2 : (l1.getD i z67).f1.size = 32
      · rw [decide_eq_true c2] at hw
        simp only [if_pos (show ((l1.getD i z67).f1.size : Int) = 32 by omega)]
        rw [hw]
        simpa using ih (i + 1) (by omega) (by omega)
      · rw [decide_eq_false c2] at hw
        simp only [if_neg (show ¬ ((l1.getD i z67).f1.size : Int) = 32 by omega)]
        rw [hw]
        exact ev_some rfl
    · rw [decide_eq_false c1] at hw
      simp only [decide_eq_false c1, Bool.false_eq_true, if_false]
      rw [hw]
      exact ev_some rfl
theorem diskOk_l0 (l0 : List ByteArray) (l1 : List S67) (h0 : l0.length ≤ 100) (h1 : l1.length ≤ 60) (d : Nat) : ∀ i : Nat, l0.length - i = d → i ≤ l0.length → Ev (fun k => spec_DiskOk.l0 k (i : Int) l0 l1) ((l0.drop i).all sOk && l1.all (wOk l0.length)) := by
  induction d with
  | zero =>
    intro i hd hi
    refine ev_succ ?_
    simp only [spec_DiskOk.l0, if_neg (show ¬ (i : Int) < (l0.length : Int) from by omega)]
    rw [List.drop_eq_nil_of_le (by omega)]
    simpa using diskOk_l1 l0 l1 h0 h1 _ 0 rfl (by omega)
  | succ d ih =>
    intro i hd hi
    have hlt : i < l0.length := by omega
    refine ev_succ ?_
    have g1 : (i : Int) < (l0.length : Int) := by omega
    have g2 : (0 : Int) ≤ (i : Int) := by omega
    simp only [spec_DiskOk.l0, if_pos g1, if_pos g2, rdOf_nat, wn i hlt (show l0.length ≤ 140737488355328 by omega)]
    rw [getD_drop ByteArray.empty l0 i hlt, List.all_cons]
    have hw : sOk (l0.getD i ByteArray.empty) = decide ((l0.getD i ByteArray.empty).size = 32) := rfl
    by_cases c2 : (l0.getD i ByteArray.empty).size = 32
    · rw [decide_eq_true c2] at hw
      simp only [if_pos (show ((l0.getD i ByteArray.empty).size : Int) = 32 by omega)]
      rw [hw]
      simpa using ih (i + 1) (by omega) (by omega)
    · rw [decide_eq_false c2] at hw
      simp only [if_neg (show ¬ ((l0.getD i ByteArray.empty).size : Int) = 32 by omega)]
      rw [hw]
      exact ev_some rfl
theorem spec_DiskOk_ev (l0 : List ByteArray) (l1 : List S67) : Ev (fun k => spec_DiskOk.f k l0 l1) (diskOkM l0 l1) := by
  unfold spec_DiskOk.f diskOkM
  simp only [l01In_dec, Option.bind_some]
  by_cases c1 : 1 ≤ l0.length ∧ l0.length ≤ 100
  · simp only [decide_eq_true (show 1 ≤ (l0.length : Int) ∧ (l0.length : Int) ≤ 100 by omega), if_true]
    by_cases c2 : l1.length ≤ 60
    · rw [decide_eq_true (show (1 ≤ l0.length ∧ l0.length ≤ 100) ∧ l1.length ≤ 60 from ⟨c1, c2⟩), Bool.true_and]
      refine ev_succ ?_
      simp only [spec_DiskOk.j0, decide_eq_false (show ¬ (l1.length : Int) > 60 by omega), Bool.false_eq_true, if_false]
      simpa using diskOk_l0 l0 l1 c1.2 c2 _ 0 rfl (by omega)
    · rw [decide_eq_false (show ¬ ((1 ≤ l0.length ∧ l0.length ≤ 100) ∧ l1.length ≤ 60) from fun h => c2 h.2), Bool.false_and]
      refine ev_succ ?_
      simp only [spec_DiskOk.j0, decide_eq_true (show (l1.length : Int) > 60 by omega), if_true]
      exact ev_some rfl
  · simp only [decide_eq_false (show ¬ (1 ≤ (l0.length : Int) ∧ (l0.length : Int) ≤ 100) by omega), Bool.false_eq_true, if_false]
    rw [decide_eq_false (show ¬ ((1 ≤ l0.length ∧ l0.length ≤ 100) ∧ l1.length ≤ 60) from fun h => c1 h.1), Bool.false_and]
    refine ev_succ ?_
    simp only [spec_DiskOk.j0, if_true]
    exact ev_some rfl
theorem strBad_not (s : ByteArray) : strBad s = !sOk s := by unfold strBad sOk; by_cases h : s.size = 32 <;> simp [h]
theorem wrBad_not (n : Nat) (w : S67) : wrBad n w = !wOk n w := by
  unfold wrBad wOk
  by_cases h : 0 ≤ w.f0 ∧ w.f0 ≤ (n : Int) - 1 <;> by_cases h2 : w.f1.size = 32 <;> simp [h, h2]
theorem any_not {α : Type} (l : List α) (p q : α → Bool) (h : ∀ x, p x = !q x) : (!l.any p) = l.all q := by
  induction l with
  | nil => rfl
  | cons x l ih => rw [List.any_cons, List.all_cons, Bool.not_or, ih, h x, Bool.not_not]
theorem impl_DiskOk_f (l0 : List ByteArray) (l1 : List S67) : impl_DiskOk.f l0 l1 = some (diskOkM l0 l1) := by
  unfold impl_DiskOk.f diskOkM
  rw [any_not l0 _ _ strBad_not, any_not l1 _ _ (wrBad_not l0.length)]

/-! clone -/
theorem spec_l03Copy_f (l0 : List ByteArray) (l1 : List S67) (h0 : l0.length ≤ 1048576) (h1 : l1.length ≤ 1048576) : spec_l03Copy.f l0 l1 = some (l0, l1) := by
  unfold spec_l03Copy.f
  simp only [Option.bind_some, List.length_nil, Nat.zero_add, if_pos (show l0.length < 8796093022208 by omega), if_pos (show l1.length < 5864062014805 by omega), List.nil_append]
theorem impl_cloneDisk_f (l0 : List ByteArray) (l1 : List S67) (h0 : l0.length ≤ 1048576) (h1 : l1.length ≤ 1048576) : impl_cloneDisk.f l0 l1 = some (l0, l1) := by
  unfold impl_cloneDisk.f slices_Clone_string_string.f impl_Write_81.f
  simp only [Option.bind_some, List.length_nil, Nat.zero_add, if_pos (show l0.length < 8796093022208 by omega), if_pos (show l1.length < 5864062014805 by omega), List.nil_append]

/-! flushdisk -/
def putW (ss : List ByteArray) (w : S67) : List ByteArray := ss.set w.f0.toNat w.f1
theorem putW_length (ss : List ByteArray) (w : S67) : (putW ss w).length = ss.length := List.length_set
theorem foldW_length (c : List S67) : ∀ ss : List ByteArray, (c.foldl putW ss).length = ss.length := by
  induction c with
  | nil => intro ss; rfl
  | cons w c ih => intro ss; rw [List.foldl_cons, ih, putW_length]
def flushM (l0 : List ByteArray) (l1 : List S67) : List ByteArray × List S67 := if diskOkM l0 l1 = true then (l1.foldl putW l0, []) else (l0, l1)
theorem flushM_length (l0 : List ByteArray) (l1 : List S67) : (flushM l0 l1).1.length = l0.length ∧ (flushM l0 l1).2.length ≤ l1.length := by
  unfold flushM
  split
  · exact ⟨foldW_length _ _, by simp⟩
  · exact ⟨rfl, Nat.le_refl _⟩
theorem diskOkM_parts (l0 : List ByteArray) (l1 : List S67) (h : diskOkM l0 l1 = true) : (1 ≤ l0.length ∧ l0.length ≤ 100) ∧ l1.length ≤ 60 ∧ (∀ s, s ∈ l0 → s.size = 32) ∧ ∀ w, w ∈ l1 → (0 ≤ w.f0 ∧ w.f0 ≤ (l0.length : Int) - 1) ∧ w.f1.size = 32 := by
  unfold diskOkM at h
  simp only [Bool.and_eq_true, decide_eq_true_eq, List.all_eq_true, sOk, wOk] at h
  exact ⟨h.1.1, h.1.2, h.2.1, h.2.2⟩

/-! crashdisk -/
def keptGo : List S67 → List Int → List S67
  | w :: ws, b :: bs => if Int.tmod b 2 = 0 then keptGo ws bs else w :: keptGo ws bs
  | _, _ => []
theorem keptGo_nil (l : List S67) : keptGo l [] = [] := by cases l <;> rfl
theorem keptGo_step (l : List S67) (K : List Int) (i : Nat) (h1 : i < l.length) (h2 : i < K.length) : keptGo (l.drop i) (K.drop i) = if Int.tmod (rd K (i : Int)) 2 = 0 then keptGo (l.drop (i + 1)) (K.drop (i + 1)) else l.getD i z67 :: keptGo (l.drop (i + 1)) (K.drop (i + 1)) := by
  have e : rd K (i : Int) = K.getD i 0 := by unfold rd; rw [Int.toNat_natCast]
  rw [getD_drop z67 l i h1, getD_drop 0 K i h2, e]
  rfl
theorem keptGo_end (l : List S67) (K : List Int) (i : Nat) (h : l.length ≤ i ∨ K.length ≤ i) : keptGo (l.drop i) (K.drop i) = [] := by
  rcases h with h | h
  · rw [List.drop_eq_nil_of_le h]; rfl
  · rw [List.drop_eq_nil_of_le h, keptGo_nil]
theorem keptGo_length (l : List S67) : ∀ K : List Int, (keptGo l K).length ≤ l.length := by
  induction l with
  | nil => intro K; simp [keptGo]
  | cons w l ih =>
    intro K
    cases K with
    | nil => simp [keptGo]
    | cons b K =>
      have := ih K
      unfold keptGo
      split
      · simp; omega
      · simp; omega
theorem keptGo_mem (l : List S67) : ∀ (K : List Int) (w : S67), w ∈ keptGo l K → w ∈ l := by
  induction l with
  | nil => intro K w h; simp [keptGo] at h
  | cons x l ih =>
    intro K w h
    cases K with
    | nil => simp [keptGo] at h
    | cons b K =>
      unfold keptGo at h
      split at h
      · exact List.mem_cons_of_mem _ (ih K w h)
      · rcases List.mem_cons.1 h with rfl | h
        · exact List.mem_cons_self
        · exact List.mem_cons_of_mem _ (ih K w h)
/-- A write of which only the first bytes reach the sector. -/
def putT (t : Nat) (ss : List ByteArray) (w : S67) : List ByteArray := ss.set w.f0.toNat (w.f1.extract 0 t ++ (ss.getD w.f0.toNat ByteArray.empty).extract t (ss.getD w.f0.toNat ByteArray.empty).size)
def applyM (t : Nat) : List ByteArray → List S67 → List ByteArray
  | ss, [] => ss
  | ss, w :: ws => if ws = [] then putT t ss w else applyM t (putW ss w) ws
def All32 (ss : List ByteArray) : Prop := ∀ s, s ∈ ss → s.size = 32
theorem all32_getD (ss : List ByteArray) (h : All32 ss) (i : Nat) (hi : i < ss.length) : (ss.getD i ByteArray.empty).size = 32 := by
  rw [List.getD_eq_getElem?_getD, List.getElem?_eq_getElem hi]
  exact h _ (List.getElem_mem hi)
theorem all32_set (ss : List ByteArray) (h : All32 ss) (i : Nat) (x : ByteArray) (hx : x.size = 32) : All32 (ss.set i x) := by
  intro s hs
  rcases List.mem_or_eq_of_mem_set hs with h1 | h1
  · exact h s h1
  · rw [h1]; exact hx
theorem applyM_length (t : Nat) (c : List S67) : ∀ ss : List ByteArray, (applyM t ss c).length = ss.length := by
  induction c with
  | nil => intro ss; rfl
  | cons w c ih =>
    intro ss
    unfold applyM
    split
    · unfold putT; rw [List.length_set]
    · rw [ih, putW_length]
def crashM (l0 : List ByteArray) (l1 : List S67) (K : List Int) (x : Int) : List ByteArray × List S67 := if diskOkM l0 l1 = true then (applyM (x % 33).toNat l0 (keptGo l1 K), []) else (l0, l1)
theorem crashM_length (l0 : List ByteArray) (l1 : List S67) (K : List Int) (x : Int) : (crashM l0 l1 K x).1.length = l0.length ∧ (crashM l0 l1 K x).2.length ≤ l1.length := by
  unfold crashM
  split
  · exact ⟨applyM_length _ _ _, by simp⟩
  · exact ⟨rfl, Nat.le_refl _⟩
theorem tmod33 (x : Int) : (0 ≤ x % 33 ∧ x % 33 < 33) ∧ (-33 < Int.tmod x 33 ∧ Int.tmod x 33 < 33) ∧ (Int.tmod x 33 = x % 33 ∨ Int.tmod x 33 = x % 33 - 33) := by
  have h := Int.tmod_eq_emod (a := x) (b := 33)
  have h1 : Int.tmod x 33 = x % 33 ∨ Int.tmod x 33 = x % 33 - 33 := by
    rw [h]
    split
    · left; simp
    · right; rfl
  have h2 := Int.lt_tmod_of_pos x (show (0 : Int) < 33 by decide)
  have h3 := Int.tmod_lt_of_pos x (show (0 : Int) < 33 by decide)
  exact ⟨by omega, ⟨h2, h3⟩, h1⟩
theorem putT_size (w s : ByteArray) (t : Nat) (ht : t ≤ 32) (hw : w.size = 32) (hs : s.size = 32) : (w.extract 0 t ++ s.extract t s.size).size = 32 := by
  rw [size_append, size_extract, size_extract]; omega
theorem ext_all (w : ByteArray) (h : w.size = 32) : w.extract 0 32 = w := by
  apply bytes_eq
  rw [bytes_extract]
  rw [List.take_of_length_le (by rw [bytesOf_length]; omega)]
  rfl
theorem ext_none (s : ByteArray) (h : s.size = 32) : s.extract 32 s.size = ByteArray.empty := by
  apply bytes_eq
  rw [bytes_extract, h, List.drop_eq_nil_of_le (by rw [List.length_take]; omega)]
  rfl
def LastInv (K : List Int) (i : Nat) (last : Int) : Prop := (-1 ≤ last ∧ last < (i : Int)) ∧ (0 ≤ last → Int.tmod (rd K last) 2 ≠ 0) ∧ ∀ j : Nat, last < (j : Int) → j < i → Int.tmod (rd K (j : Int)) 2 = 0
theorem spec_CrashDisk_l0 (l0 : List ByteArray) (l1 : List S67) (c0 : List ByteArray) (c1 : List S67) (K : List Int) (x : Int) (r : List ByteArray × List S67) (hl : l1.length ≤ 60)
    (fin : ∀ last, LastInv K (min l1.length K.length) last → Ev (fun k => spec_CrashDisk.j2 k K last (x % 33) l0 l1 c0 c1) r) (d : Nat) :
    ∀ (i : Nat) (last : Int), min l1.length K.length - i = d → i ≤ min l1.length K.length → LastInv K i last → Ev (fun k => spec_CrashDisk.l0 k K x last (i : Int) l0 l1 c0 c1) r := by
  have hend : ∀ (i : Nat) (last : Int), i = min l1.length K.length → LastInv K i last → Ev (fun k => spec_CrashDisk.j1 k K x last (i : Int) false l0 l1 c0 c1) r := by
    intro i last hi hL
    refine ev_succ ?_
    obtain ⟨m1, m2, m3⟩ := tmod33 x
    simp only [spec_CrashDisk.j1, Bool.false_eq_true, if_false]
    subst hi
    have hf := fin last hL
    refine ev_if (fun h => ?_) (fun h => ?_)
    · have e1 := w64 (x := Int.tmod x 33 + 32) (by omega) (by omega)
      rw [e1]
      clear e1
      have e2 := w64 (x := Int.tmod x 33 + 32 + 1) (by omega) (by omega)
      rw [e2]
      clear e2
      rw [show Int.tmod x 33 + 32 + 1 = x % 33 by omega]
      exact hf
    · rw [show Int.tmod x 33 = x % 33 by omega]
      exact hf
  induction d with
  | zero =>
    intro i last hd hi hL
    have hi' : i = min l1.length K.length := by omega
    refine ev_succ ?_
    simp only [spec_CrashDisk.l0]
    by_cases g : (i : Int) < (l1.length : Int)
    · simp only [if_pos g, decide_eq_false (show ¬ (i : Int) < (K.length : Int) by omega)]
      exact hend i last hi' hL
    · simp only [if_neg g]
      exact hend i last hi' hL
  | succ d ih =>
    intro i last hd hi hL
    have hlt : i < l1.length := by omega
    have hlt2 : i < K.length := by omega
    refine ev_succ ?_
    have g1 : (i : Int) < (l1.length : Int) := by omega
    have g2 : (0 : Int) ≤ (i : Int) := by omega
    have g3 : (i : Int) < (K.length : Int) := by omega
    simp only [spec_CrashDisk.l0, if_pos g1, decide_eq_true g3]
    refine ev_succ ?_
    simp only [spec_CrashDisk.j1, if_true, if_pos g2, if_pos g3, wn i hlt (show l1.length ≤ 140737488355328 by omega)]
    obtain ⟨q1, q2, q3⟩ := hL
    refine ev_if (fun h => ?_) (fun h => ?_)
    · refine ih (i + 1) last (by omega) (by omega) ⟨by omega, q2, fun j h1 h2 => ?_⟩
      by_cases hj : j = i
      · subst hj; exact h
      · exact q3 j h1 (by omega)
    · exact ih (i + 1) (i : Int) (by omega) (by omega) ⟨by omega, fun _ => h, fun j h1 h2 => by omega⟩
theorem keptGo_even (l : List S67) (K : List Int) (d : Nat) : ∀ i : Nat, min l.length K.length - i = d → (∀ j : Nat, i ≤ j → j < min l.length K.length → Int.tmod (rd K (j : Int)) 2 = 0) → keptGo (l.drop i) (K.drop i) = [] := by
  induction d with
  | zero => intro i hd _; exact keptGo_end l K i (by omega)
  | succ d ih =>
    intro i hd h
    rw [keptGo_step l K i (by omega) (by omega), if_pos (h i (Nat.le_refl _) (by omega))]
    exact ih (i + 1) (by omega) (fun j h1 h2 => h j (by omega) h2)
theorem keptGo_some (l : List S67) (K : List Int) (m : Nat) (hm : m < min l.length K.length) (ho : Int.tmod (rd K (m : Int)) 2 ≠ 0) (d : Nat) : ∀ i : Nat, m - i = d → i ≤ m → keptGo (l.drop i) (K.drop i) ≠ [] := by
  induction d with
  | zero =>
    intro i hd hi
    obtain rfl : i = m := by omega
    rw [keptGo_step l K i (by omega) (by omega), if_neg ho]
    exact List.cons_ne_nil _ _
  | succ d ih =>
    intro i hd hi
    rw [keptGo_step l K i (by omega) (by omega)]
    split
    · exact ih (i + 1) (by omega) (by omega)
    · exact List.cons_ne_nil _ _
theorem spec_CrashDisk_l1 (l0 : List ByteArray) (l1 c1 : List S67) (K : List Int) (n : Nat) (t : Nat) (ht : t ≤ 32) (last : Int) (hL : LastInv K (min l1.length K.length) last) (hl : l1.length ≤ 60) (hw : ∀ w, w ∈ l1 → (0 ≤ w.f0 ∧ w.f0 ≤ (n : Int) - 1) ∧ w.f1.size = 32) (d : Nat) :
    ∀ (i : Nat) (cur : List ByteArray), cur.length = n → All32 cur → (last + 1 - (i : Int)).toNat = d → (i : Int) ≤ last + 1 → Ev (fun k => spec_CrashDisk.l1 k K last (t : Int) (i : Int) l0 l1 cur c1) (applyM t cur (keptGo (l1.drop i) (K.drop i)), []) := by
  obtain ⟨q1, q2, q3⟩ := hL
  induction d with
  | zero =>
    intro i cur hc ha hd hi
    refine ev_succ ?_
    simp only [spec_CrashDisk.l1, if_neg (show ¬ (i : Int) ≤ last by omega)]
    rw [keptGo_even l1 K _ i rfl (fun j h1 h2 => q3 j (by omega) h2)]
    exact ev_some rfl
  | succ d ih =>
    intro i cur hc ha hd hi
    have hlt : i < l1.length := by omega
    have hlt2 : i < K.length := by omega
    have hm : l1.getD i z67 ∈ l1 := by
      rw [List.getD_eq_getElem?_getD, List.getElem?_eq_getElem hlt]
      exact List.getElem_mem hlt
    obtain ⟨hb, hb2⟩ := hw _ hm
    refine ev_succ ?_
    have g0 : (i : Int) ≤ last := by omega
    have g1 : (i : Int) < (l1.length : Int) := by omega
    have g2 : (0 : Int) ≤ (i : Int) := by omega
    have g3 : (i : Int) < (K.length : Int) := by omega
    have g4 : (l1.getD i z67).f0 < (cur.length : Int) := by omega
    have e4 : wrap64 ((i : Int) + 1) = ((i + 1 : Nat) : Int) := wn i hlt (show l1.length ≤ 140737488355328 by omega)
    simp only [spec_CrashDisk.l1, if_pos g0, if_pos g1, if_pos g2, if_pos g3, rd_W, e4]
    clear e4
    rw [keptGo_step l1 K i hlt hlt2]
    refine ev_if (fun h => ?_) (fun h => ?_)
    · rw [if_pos h]
      exact ih (i + 1) cur hc ha (by omega) (by omega)
    · rw [if_neg h]
      have hj : (l1.getD i z67).f0.toNat < cur.length := by omega
      have hs := all32_getD cur ha _ hj
      have er : rdOf ByteArray.empty cur (l1.getD i z67).f0 = cur.getD (l1.getD i z67).f0.toNat ByteArray.empty := rfl
      have hput := putT_size (l1.getD i z67).f1 _ t ht hb2 hs
      simp only [if_pos hb.1, if_pos g4, er, Int.toNat_natCast]
      refine ev_if (fun h2 => ?_) (fun h2 => ?_)
      · have hrest : keptGo (l1.drop (i + 1)) (K.drop (i + 1)) = [] := keptGo_even l1 K _ (i + 1) rfl (fun j h1 h3 => q3 j (by omega) h3)
        have k1 : (t : Int) ≤ ((l1.getD i z67).f1.size : Int) := by omega
        have k2 : (t : Int) ≤ ((cur.getD (l1.getD i z67).f0.toNat ByteArray.empty).size : Int) := by omega
        have k3 : ((l1.getD i z67).f1.extract 0 t).size + ((cur.getD (l1.getD i z67).f0.toNat ByteArray.empty).extract t (cur.getD (l1.getD i z67).f0.toNat ByteArray.empty).size).size ≤ 9223372036854775807 := by
          rw [size_append] at hput; omega
        simp only [if_pos (show (0 : Int) ≤ (t : Int) by omega), if_pos k1, if_pos k2, if_pos k3]
        have hgo := ih (i + 1) (putT t cur (l1.getD i z67)) (by unfold putT; rw [List.length_set]; exact hc) (all32_set _ ha _ _ hput) (by omega) (by omega)
        rw [hrest] at hgo ⊢
        have ea : applyM t cur [l1.getD i z67] = putT t cur (l1.getD i z67) := rfl
        have eb : applyM t (putT t cur (l1.getD i z67)) [] = putT t cur (l1.getD i z67) := rfl
        rw [ea]
        rw [eb] at hgo
        exact hgo
      · have hrest : keptGo (l1.drop (i + 1)) (K.drop (i + 1)) ≠ [] := by
          obtain ⟨m, rfl⟩ := Int.eq_ofNat_of_zero_le (show 0 ≤ last by omega)
          exact keptGo_some l1 K m (by omega) (q2 (by omega)) _ (i + 1) rfl (by omega)
        have ea : applyM t cur (l1.getD i z67 :: keptGo (l1.drop (i + 1)) (K.drop (i + 1))) = applyM t (putW cur (l1.getD i z67)) (keptGo (l1.drop (i + 1)) (K.drop (i + 1))) := by
          conv => lhs; unfold applyM
          rw [if_neg hrest]
        rw [ea]
        exact ih (i + 1) (putW cur (l1.getD i z67)) (by rw [putW_length]; exact hc) (all32_set _ ha _ _ hb2) (by omega) (by omega)
theorem spec_CrashDisk_ev (l0 : List ByteArray) (l1 : List S67) (h0 : l0.length ≤ 1048576) (h1 : l1.length ≤ 1048576) (K : List Int) (x : Int) : Ev (fun k => spec_CrashDisk.f k l0 l1 K x) (crashM l0 l1 K x) := by
  unfold spec_CrashDisk.f crashM
  simp only [spec_l03Copy_f l0 l1 h0 h1, Option.bind_some]
  refine Ev.bind (spec_DiskOk_ev l0 l1) ?_
  refine ev_if (fun h => ?_) (fun h => ?_)
  · rw [if_pos h]
    obtain ⟨p1, p2, p3, p4⟩ := diskOkM_parts l0 l1 h
    refine spec_CrashDisk_l0 l0 l1 l0 l1 K x _ p2 (fun last hL => ?_) _ 0 (-1) rfl (by omega) ⟨by omega, by omega, fun j _ h2 => by omega⟩
    refine ev_succ ?_
    simp only [spec_CrashDisk.j2]
    obtain ⟨m1, _, _⟩ := tmod33 x
    obtain ⟨t, ht⟩ := Int.eq_ofNat_of_zero_le m1.1
    rw [ht]
    have := spec_CrashDisk_l1 l0 l1 l1 K l0.length t (by omega) last hL p2 p4 _ 0 l0 rfl p3 rfl (by have := hL.1.1; omega)
    simpa using this
  · rw [if_neg h]; exact ev_some rfl
theorem impl_CrashDisk_l0 (l1 : List S67) (c0 : List ByteArray) (c1 : List S67) (K : List Int) (x : Int) (r : List ByteArray × List S67) (hl : l1.length ≤ 60)
    (fin : Ev (fun k => impl_CrashDisk.l1 k x (keptGo l1 K) (keptGo l1 K) ((keptGo l1 K).length : Int) 0 c0 c1) r) (d : Nat) :
    ∀ (i : Nat) (acc : List S67), l1.length - i = d → i ≤ l1.length → acc.length ≤ i → acc ++ keptGo (l1.drop i) (K.drop i) = keptGo l1 K → Ev (fun k => impl_CrashDisk.l0 k K x acc l1 (l1.length : Int) (i : Int) c0 c1) r := by
  induction d with
  | zero =>
    intro i acc hd hi hacc he
    refine ev_succ ?_
    simp only [impl_CrashDisk.l0, if_neg (show ¬ (i : Int) < (l1.length : Int) from by omega)]
    rw [keptGo_end l1 K i (by omega), List.append_nil] at he
    rw [he]
    exact fin
  | succ d ih =>
    intro i acc hd hi hacc he
    have hlt : i < l1.length := by omega
    refine ev_succ ?_
    have g1 : (i : Int) < (l1.length : Int) := by omega
    have g2 : (0 : Int) ≤ (i : Int) := by omega
    simp only [impl_CrashDisk.l0, if_pos g1, if_pos g2, rd_W, wn i hlt (show l1.length ≤ 140737488355328 by omega)]
    refine ev_if (fun h => ?_) (fun h => ?_)
    · have hlt2 : i < K.length := by omega
      rw [keptGo_step l1 K i hlt hlt2] at he
      refine ev_if (fun h2 => ?_) (fun h2 => ?_)
      · rw [if_pos h2] at he
        exact ih (i + 1) acc (by omega) (by omega) (by omega) he
      · rw [if_neg h2] at he
        simp only [if_pos (show acc.length < 5864062014805 by omega)]
        exact ih (i + 1) (acc ++ [l1.getD i z67]) (by omega) (by omega) (by simp; omega) (by simpa using he)
    · refine ih (i + 1) acc (by omega) (by omega) (by omega) ?_
      rw [keptGo_end l1 K i (by omega)] at he
      rw [keptGo_end l1 K (i + 1) (by omega)]
      exact he
theorem impl_CrashDisk_l1 (F : List S67) (c1 : List S67) (x : Int) (n : Nat) (t : Nat) (htx : x % 33 = (t : Int)) (ht : t ≤ 32) (hl : F.length ≤ 60) (hw : ∀ w, w ∈ F → (0 ≤ w.f0 ∧ w.f0 ≤ (n : Int) - 1) ∧ w.f1.size = 32) (d : Nat) :
    ∀ (i : Nat) (cur : List ByteArray), cur.length = n → All32 cur → F.length - i = d → i ≤ F.length → Ev (fun k => impl_CrashDisk.l1 k x F F (F.length : Int) (i : Int) cur c1) (applyM t cur (F.drop i), []) := by
  induction d with
  | zero =>
    intro i cur hc ha hd hi
    refine ev_succ ?_
    simp only [impl_CrashDisk.l1, if_neg (show ¬ (i : Int) < (F.length : Int) by omega)]
    rw [List.drop_eq_nil_of_le (by omega)]
    exact ev_some rfl
  | succ d ih =>
    intro i cur hc ha hd hi
    have hlt : i < F.length := by omega
    have hm : F.getD i z67 ∈ F := by
      rw [List.getD_eq_getElem?_getD, List.getElem?_eq_getElem hlt]
      exact List.getElem_mem hlt
    obtain ⟨hb, hb2⟩ := hw _ hm
    have hj : (F.getD i z67).f0.toNat < cur.length := by omega
    have hs := all32_getD cur ha _ hj
    have er : rdOf ByteArray.empty cur (F.getD i z67).f0 = cur.getD (F.getD i z67).f0.toNat ByteArray.empty := rfl
    refine ev_succ ?_
    have g1 : (i : Int) < (F.length : Int) := by omega
    have g2 : (0 : Int) ≤ (i : Int) := by omega
    have g4 : (F.getD i z67).f0 < (cur.length : Int) := by omega
    have e4 : wrap64 ((i : Int) + 1) = ((i + 1 : Nat) : Int) := wn i hlt (show F.length ≤ 140737488355328 by omega)
    have e5 : wrap64 ((F.length : Int) - 1) = (F.length : Int) - 1 := w64 (by omega) (by omega)
    have e6 : Int.tmod (wrap64 ((wrap64 ((Int.tmod x 33) + 32)) + 1)) 33 = (t : Int) := by
      obtain ⟨m1, m2, m3⟩ := tmod33 x
      have e1 := w64 (x := Int.tmod x 33 + 32) (by omega) (by omega)
      rw [e1]
      clear e1
      have e2 := w64 (x := Int.tmod x 33 + 32 + 1) (by omega) (by omega)
      rw [e2]
      clear e2
      rw [Int.tmod_eq_emod_of_nonneg (by omega)]
      omega
    simp only [impl_CrashDisk.l1, if_pos g1, if_pos g2, rd_W, e4, e5, e6, if_pos hb.1, if_pos g4, er, Int.toNat_natCast]
    clear e4 e5 e6
    rw [getD_drop z67 F i hlt]
    have hput := putT_size (F.getD i z67).f1 _ t ht hb2 hs
    have hput2 := putT_size (F.getD i z67).f1 _ 32 (Nat.le_refl _) hb2 hs
    refine ev_if (fun h2 => ?_) (fun h2 => ?_)
    · have hrest : F.drop (i + 1) = [] := List.drop_eq_nil_of_le (by omega)
      have k1 : (t : Int) ≤ ((F.getD i z67).f1.size : Int) := by omega
      have k2 : (t : Int) ≤ ((cur.getD (F.getD i z67).f0.toNat ByteArray.empty).size : Int) := by omega
      have k3 : ((F.getD i z67).f1.extract 0 t).size + ((cur.getD (F.getD i z67).f0.toNat ByteArray.empty).extract t (cur.getD (F.getD i z67).f0.toNat ByteArray.empty).size).size ≤ 9223372036854775807 := by
        rw [size_append] at hput; omega
      simp only [if_pos (show (0 : Int) ≤ (t : Int) by omega), if_pos k1, if_pos k2, if_pos k3]
      have hgo := ih (i + 1) (putT t cur (F.getD i z67)) (by unfold putT; rw [List.length_set]; exact hc) (all32_set _ ha _ _ hput) (by omega) (by omega)
      rw [hrest] at hgo ⊢
      have ea : applyM t cur [F.getD i z67] = putT t cur (F.getD i z67) := rfl
      have eb : applyM t (putT t cur (F.getD i z67)) [] = putT t cur (F.getD i z67) := rfl
      rw [ea]
      rw [eb] at hgo
      exact hgo
    · have hrest : F.drop (i + 1) ≠ [] := by
        intro h
        have := List.drop_eq_nil_iff.1 h
        omega
      have k1 : (32 : Int) ≤ ((F.getD i z67).f1.size : Int) := by omega
      have k2 : (32 : Int) ≤ ((cur.getD (F.getD i z67).f0.toNat ByteArray.empty).size : Int) := by omega
      have k3 : ((F.getD i z67).f1.extract 0 32).size + ((cur.getD (F.getD i z67).f0.toNat ByteArray.empty).extract 32 (cur.getD (F.getD i z67).f0.toNat ByteArray.empty).size).size ≤ 9223372036854775807 := by
        rw [size_append] at hput2; omega
      simp only [if_pos (show (0 : Int) ≤ 32 by decide), if_pos k1, if_pos k2, if_pos k3]
      have ea : applyM t cur (F.getD i z67 :: F.drop (i + 1)) = applyM t (putW cur (F.getD i z67)) (F.drop (i + 1)) := by
        conv => lhs; unfold applyM
        rw [if_neg hrest]
      rw [ea]
      have ep : cur.set (F.getD i z67).f0.toNat ((F.getD i z67).f1.extract 0 32 ++ (cur.getD (F.getD i z67).f0.toNat ByteArray.empty).extract 32 (cur.getD (F.getD i z67).f0.toNat ByteArray.empty).size) = putW cur (F.getD i z67) := by
        unfold putW
        rw [ext_all _ hb2, ext_none _ hs, ByteArray.append_empty]
      rw [ep]
      exact ih (i + 1) (putW cur (F.getD i z67)) (by rw [putW_length]; exact hc) (all32_set _ ha _ _ hb2) (by omega) (by omega)
theorem impl_CrashDisk_ev (l0 : List ByteArray) (l1 : List S67) (h0 : l0.length ≤ 1048576) (h1 : l1.length ≤ 1048576) (K : List Int) (x : Int) : Ev (fun k => impl_CrashDisk.f k l0 l1 K x) (crashM l0 l1 K x) := by
  unfold impl_CrashDisk.f crashM
  simp only [impl_cloneDisk_f l0 l1 h0 h1, impl_DiskOk_f, Option.bind_some]
  refine ev_if (fun h => ?_) (fun h => ?_)
  · rw [if_pos h]
    obtain ⟨p1, p2, p3, p4⟩ := diskOkM_parts l0 l1 h
    obtain ⟨m1, _, _⟩ := tmod33 x
    obtain ⟨t, ht⟩ := Int.eq_ofNat_of_zero_le m1.1
    rw [ht, Int.toNat_natCast]
    refine impl_CrashDisk_l0 l1 l0 l1 K x _ p2 ?_ _ 0 [] rfl (by omega) (by simp) (by simp)
    have hk := keptGo_length l1 K
    have := impl_CrashDisk_l1 (keptGo l1 K) l1 x l0.length t ht (by omega) (by omega) (fun w hw => p4 w (keptGo_mem l1 K w hw)) _ 0 l0 rfl p3 rfl (by omega)
    simpa using this
  · rw [if_neg h]; exact ev_some rfl

/-! marktext -/
theorem markText_l0 (n : Nat) : ∀ (acc : ByteArray), n ≤ 1000000000000 → acc.size + n ≤ 4000000000000000000 → ∃ t, Ev (fun k => laws_markText.l0 k (n : Int) acc) t := by
  induction n using Nat.strongRecOn with
  | _ n ih =>
    intro acc hn ha
    by_cases h : 0 < n
    · have e1 : wrap64 (Int.tdiv (n : Int) 10) = ((n / 10 : Nat) : Int) := by
        rw [Int.tdiv_eq_ediv_of_nonneg (by omega), w64 (by omega) (by omega)]; omega
      obtain ⟨t, ht⟩ := ih (n / 10) (by omega) (strOfNums [(wrap64 (48 + Int.tmod (n : Int) 10)) % 256] ++ acc) (by omega) (by rw [size_append, strOfNums_size]; simp; omega)
      refine ⟨t, ev_succ ?_⟩
      have s1 : (strOfNums [(wrap64 (48 + Int.tmod (n : Int) 10)) % 256]).size = 1 := strOfNums_size _
      simp only [laws_markText.l0, if_pos (show (n : Int) > 0 from by omega), Option.bind_some, s1, if_pos (show 1 + acc.size ≤ 9223372036854775807 from by omega), e1]
      exact ht
    · refine ⟨(⟨#[109]⟩ : ByteArray) ++ acc, ev_succ ?_⟩
      simp only [laws_markText.l0, if_neg (show ¬ (n : Int) > 0 from by omega), if_pos (show 1 + acc.size ≤ 9223372036854775807 from by omega)]
      exact ev_some rfl
theorem markText_some (k : Int) (h0 : 0 ≤ k) (h1 : k ≤ 1000000000000) : ∃ t, Ev (fun n => laws_markText.f n k) t := by
  unfold laws_markText.f
  obtain ⟨n, rfl⟩ := Int.eq_ofNat_of_zero_le h0
  by_cases h : (n : Int) ≤ 0
  · simp only [if_pos h]; exact ⟨_, ev_some rfl⟩
  · simp only [if_neg h]
    exact markText_l0 n _ (by omega) (by have : (⟨#[]⟩ : ByteArray).size = 0 := rfl; omega)
/-- The text that marks a place. -/
noncomputable def markT (k : Int) : ByteArray := by
  classical exact if h : ∃ t, Ev (fun n => laws_markText.f n k) t then h.choose else (⟨#[]⟩ : ByteArray)
theorem markText_ev (k : Int) (h0 : 0 ≤ k) (h1 : k ≤ 1000000000000) : Ev (fun n => laws_markText.f n k) (markT k) := by
  have h := markText_some k h0 h1
  unfold markT
  rw [dif_pos h]
  exact h.choose_spec

/-! markdisk -/
noncomputable def markedS : Nat → Int → List ByteArray
  | 0, _ => []
  | n + 1, k => markT k :: markedS n (k + 1)
theorem markedS_snoc (n : Nat) : ∀ k, markedS (n + 1) k = markedS n k ++ [markT (k + n)] := by
  induction n with
  | zero => intro k; simp [markedS]
  | succ n ih =>
    intro k
    rw [markedS, ih (k + 1)]
    simp only [markedS, List.cons_append]
    have e : k + 1 + (n : Int) = k + ((n + 1 : Nat) : Int) := by omega
    rw [e]
theorem markedS_length (n : Nat) : ∀ k, (markedS n k).length = n := by
  induction n with
  | zero => intro k; rfl
  | succ n ih => intro k; simp [markedS, ih]
theorem markStringS_l0 (n : Nat) (b : Int) (hb : 0 ≤ b ∧ b ≤ 100000000000) (hn : n ≤ 100000000000) (d : Nat) : ∀ (i : Nat) (rest : List ByteArray), rest.length = d → i + d = n →
    Ev (fun k => laws_markStringS.l0 k (markedS i b ++ rest) (b + (i : Int)) (i : Int)) (b + (n : Int), markedS n b) := by
  induction d with
  | zero =>
    intro i rest hr hi
    obtain rfl : rest = [] := List.eq_nil_of_length_eq_zero hr
    obtain rfl : i = n := by omega
    refine ev_succ ?_
    simp only [laws_markStringS.l0, List.append_nil, markedS_length, if_neg (show ¬ (i : Int) < (i : Int) from by omega)]
    exact ev_some rfl
  | succ d ih =>
    intro i rest hr hi
    obtain ⟨x, rest, rfl⟩ : ∃ x t, rest = x :: t := by cases rest with | nil => simp at hr | cons x t => exact ⟨x, t, rfl⟩
    have hr' : rest.length = d := by simpa using hr
    refine ev_succ ?_
    have hlen : (markedS i b ++ x :: rest).length = n := by simp [markedS_length]; omega
    have g0 : (i : Int) < ((markedS i b ++ x :: rest).length : Int) := by omega
    have g1 : (0 : Int) ≤ (i : Int) := by omega
    have q1 : -9223372036854775808 ≤ b + (i : Int) + 1 ∧ b + (i : Int) + 1 ≤ 9223372036854775807 := by omega
    have q4 : 0 ≤ b + (i : Int) ∧ b + (i : Int) ≤ 1000000000000 := by omega
    have q5 : n ≤ 140737488355328 := by omega
    have q6 : i < n := by omega
    have q7 : b + (i : Int) + 1 = b + ((i + 1 : Nat) : Int) := by omega
    have q8 : i + 1 + d = n := by omega
    have e4 : wrap64 ((i : Int) + 1) = ((i + 1 : Nat) : Int) := wn i q6 q5
    simp only [laws_markStringS.l0, if_pos g0, if_pos g1, Int.toNat_natCast, set_mid _ _ _ _ i (markedS_length i b), w64 q1.1 q1.2, e4]
    clear e4
    refine Ev.bind (markText_ev _ q4.1 q4.2) ?_
    have := ih (i + 1) rest hr' q8
    rw [markedS_snoc] at this
    rw [q7]
    simpa using this
theorem markStringS_ev (l : List ByteArray) (b : Int) (hb : 0 ≤ b ∧ b ≤ 100000000000) (hn : l.length ≤ 100000000000) : Ev (fun k => laws_markStringS.f k l b) (b + (l.length : Int), markedS l.length b) := by
  unfold laws_markStringS.f
  simpa [markedS] using markStringS_l0 l.length b hb hn l.length 0 l rfl (by omega)
theorem markedS_at (n : Nat) : ∀ (k : Int) (i : Nat), i < n → (markedS n k).getD i ByteArray.empty = markT (k + i) := by
  induction n with
  | zero => intro k i h; omega
  | succ n ih =>
    intro k i h
    cases i with
    | zero => simp [markedS]
    | succ i =>
      rw [markedS]
      simp only [List.getD_cons_succ]
      rw [ih (k + 1) i (by omega)]
      have e : k + 1 + (i : Int) = k + ((i + 1 : Nat) : Int) := by omega
      rw [e]
theorem heldStringS_l0 (n : Nat) (b : Int) (hb : 0 ≤ b ∧ b ≤ 100000000000) (hn : n ≤ 100000000000) (d : Nat) : ∀ (i : Nat), i + d = n → Ev (fun k => laws_heldStringS.l0 k (markedS n b) (b + (i : Int)) (i : Int)) (b + (n : Int)) := by
  induction d with
  | zero =>
    intro i hi
    obtain rfl : i = n := by omega
    refine ev_succ ?_
    simp only [laws_heldStringS.l0, markedS_length, if_neg (show ¬ (i : Int) < (i : Int) from by omega)]
    exact ev_some rfl
  | succ d ih =>
    intro i hi
    refine ev_succ ?_
    have g0 : (i : Int) < ((markedS n b).length : Int) := by rw [markedS_length]; omega
    have g1 : (0 : Int) ≤ (i : Int) := by omega
    have q1 : -9223372036854775808 ≤ b + (i : Int) + 1 ∧ b + (i : Int) + 1 ≤ 9223372036854775807 := by omega
    have q4 : 0 ≤ b + (i : Int) ∧ b + (i : Int) ≤ 1000000000000 := by omega
    have q5 : n ≤ 140737488355328 := by omega
    have q6 : i < n := by omega
    have q7 : b + (i : Int) + 1 = b + ((i + 1 : Nat) : Int) := by omega
    have q8 : i + 1 + d = n := by omega
    have e4 : wrap64 ((i : Int) + 1) = ((i + 1 : Nat) : Int) := wn i q6 q5
    simp only [laws_heldStringS.l0, if_pos g0, if_pos g1, rdOf_nat, markedS_at n b i q6, w64 q1.1 q1.2, e4]
    clear e4
    refine Ev.bind (markText_ev _ q4.1 q4.2) ?_
    simp only [if_true, q7]
    exact ih (i + 1) q8
theorem heldStringS_ev (n : Nat) (b : Int) (hb : 0 ≤ b ∧ b ≤ 100000000000) (hn : n ≤ 100000000000) : Ev (fun k => laws_heldStringS.f k (markedS n b) b) (b + (n : Int)) := by
  unfold laws_heldStringS.f
  simpa using heldStringS_l0 n b hb hn n 0 (by omega)
noncomputable def markedW : Nat → Int → List S67
  | 0, _ => []
  | n + 1, k => ⟨k, markT (k + 1)⟩ :: markedW n (k + 2)
theorem markedW_snoc (n : Nat) : ∀ k, markedW (n + 1) k = markedW n k ++ [⟨k + 2 * n, markT (k + 2 * n + 1)⟩] := by
  induction n with
  | zero => intro k; simp [markedW]
  | succ n ih =>
    intro k
    rw [markedW, ih (k + 2)]
    simp only [markedW, List.cons_append]
    have e : k + 2 + 2 * (n : Int) = k + 2 * ((n + 1 : Nat) : Int) := by omega
    rw [e]
theorem markedW_length (n : Nat) : ∀ k, (markedW n k).length = n := by
  induction n with
  | zero => intro k; rfl
  | succ n ih => intro k; simp [markedW, ih]
theorem rd_set_W (l : List S67) (i : Nat) (v : S67) (h : i < l.length) : rd_T67 (l.set i v) (i : Int) = v := by
  unfold rd_T67
  rw [List.getD_eq_getElem?_getD, Int.toNat_natCast, List.getElem?_set_self h]
  rfl
theorem markWriteS_l0 (n : Nat) (b : Int) (hb : 0 ≤ b ∧ b ≤ 100000000000) (hn : n ≤ 100000000000) (d : Nat) : ∀ (i : Nat) (rest : List S67), rest.length = d → i + d = n →
    Ev (fun k => laws_markWriteS.l0 k (markedW i b ++ rest) (b + 2 * (i : Int)) (i : Int)) (b + 2 * (n : Int), markedW n b) := by
  induction d with
  | zero =>
    intro i rest hr hi
    obtain rfl : rest = [] := List.eq_nil_of_length_eq_zero hr
    obtain rfl : i = n := by omega
    refine ev_succ ?_
    simp only [laws_markWriteS.l0, List.append_nil, markedW_length, if_neg (show ¬ (i : Int) < (i : Int) from by omega)]
    exact ev_some rfl
  | succ d ih =>
    intro i rest hr hi
    obtain ⟨x, rest, rfl⟩ : ∃ x t, rest = x :: t := by cases rest with | nil => simp at hr | cons x t => exact ⟨x, t, rfl⟩
    have hr' : rest.length = d := by simpa using hr
    refine ev_succ ?_
    have hlen : (markedW i b ++ x :: rest).length = n := by simp [markedW_length]; omega
    have g0 : (i : Int) < ((markedW i b ++ x :: rest).length : Int) := by omega
    have g1 : (0 : Int) ≤ (i : Int) := by omega
    have g2 : i < (markedW i b ++ x :: rest).length := by omega
    have q1 : -9223372036854775808 ≤ b + 2 * (i : Int) + 1 ∧ b + 2 * (i : Int) + 1 ≤ 9223372036854775807 := by omega
    have q2 : -9223372036854775808 ≤ b + 2 * (i : Int) + 1 + 1 ∧ b + 2 * (i : Int) + 1 + 1 ≤ 9223372036854775807 := by omega
    have q4 : 0 ≤ b + 2 * (i : Int) + 1 ∧ b + 2 * (i : Int) + 1 ≤ 1000000000000 := by omega
    have q5 : n ≤ 140737488355328 := by omega
    have q6 : i < n := by omega
    have q7 : b + 2 * (i : Int) + 1 + 1 = b + 2 * ((i + 1 : Nat) : Int) := by omega
    have q8 : i + 1 + d = n := by omega
    have e4 : wrap64 ((i : Int) + 1) = ((i + 1 : Nat) : Int) := wn i q6 q5
    have hrd : ∀ v, rd_T67 ((markedW i b ++ x :: rest).set i v) (i : Int) = v := fun v => rd_set_W _ i v g2
    have hst : ∀ v, (markedW i b ++ x :: rest).set i v = markedW i b ++ v :: rest := fun v => set_mid _ _ _ _ i (markedW_length i b)
    simp only [laws_markWriteS.l0, if_pos g0, if_pos g1, Option.bind_some, Int.toNat_natCast, List.set_set, hrd, w64 q1.1 q1.2, w64 q2.1 q2.2, e4]
    clear e4
    refine Ev.bind (markText_ev _ q4.1 q4.2) ?_
    have := ih (i + 1) rest hr' q8
    rw [markedW_snoc] at this
    simp only [hst]
    rw [q7]
    simpa using this
theorem markWriteS_ev (l : List S67) (b : Int) (hb : 0 ≤ b ∧ b ≤ 100000000000) (hn : l.length ≤ 100000000000) : Ev (fun k => laws_markWriteS.f k l b) (b + 2 * (l.length : Int), markedW l.length b) := by
  unfold laws_markWriteS.f
  simpa [markedW] using markWriteS_l0 l.length b hb hn l.length 0 l rfl (by omega)
theorem markedW_at (n : Nat) : ∀ (k : Int) (i : Nat), i < n → rd_T67 (markedW n k) (i : Int) = ⟨k + 2 * i, markT (k + 2 * i + 1)⟩ := by
  induction n with
  | zero => intro k i h; omega
  | succ n ih =>
    intro k i h
    unfold rd_T67
    rw [Int.toNat_natCast]
    cases i with
    | zero => simp [markedW]
    | succ i =>
      have := ih (k + 2) i (by omega)
      unfold rd_T67 at this
      rw [Int.toNat_natCast] at this
      rw [markedW]
      simp only [List.getD_cons_succ]
      rw [this]
      have e : k + 2 + 2 * (i : Int) = k + 2 * ((i + 1 : Nat) : Int) := by omega
      rw [e]
theorem heldWriteS_l0 (n : Nat) (b : Int) (hb : 0 ≤ b ∧ b ≤ 100000000000) (hn : n ≤ 100000000000) (d : Nat) : ∀ (i : Nat), i + d = n → Ev (fun k => laws_heldWriteS.l0 k (markedW n b) (b + 2 * (i : Int)) (i : Int)) (b + 2 * (n : Int)) := by
  induction d with
  | zero =>
    intro i hi
    obtain rfl : i = n := by omega
    refine ev_succ ?_
    simp only [laws_heldWriteS.l0, markedW_length, if_neg (show ¬ (i : Int) < (i : Int) from by omega)]
    exact ev_some rfl
  | succ d ih =>
    intro i hi
    refine ev_succ ?_
    have g0 : (i : Int) < ((markedW n b).length : Int) := by rw [markedW_length]; omega
    have g1 : (0 : Int) ≤ (i : Int) := by omega
    have q1 : -9223372036854775808 ≤ b + 2 * (i : Int) + 1 ∧ b + 2 * (i : Int) + 1 ≤ 9223372036854775807 := by omega
    have q2 : -9223372036854775808 ≤ b + 2 * (i : Int) + 1 + 1 ∧ b + 2 * (i : Int) + 1 + 1 ≤ 9223372036854775807 := by omega
    have q4 : 0 ≤ b + 2 * (i : Int) + 1 ∧ b + 2 * (i : Int) + 1 ≤ 1000000000000 := by omega
    have q5 : n ≤ 140737488355328 := by omega
    have q6 : i < n := by omega
    have q7 : b + 2 * (i : Int) + 1 + 1 = b + 2 * ((i + 1 : Nat) : Int) := by omega
    have q8 : i + 1 + d = n := by omega
    have e4 : wrap64 ((i : Int) + 1) = ((i + 1 : Nat) : Int) := wn i q6 q5
    simp only [laws_heldWriteS.l0, if_pos g0, if_pos g1, markedW_at n b i q6, if_true, w64 q1.1 q1.2, w64 q2.1 q2.2, e4]
    clear e4
    refine Ev.bind (markText_ev _ q4.1 q4.2) ?_
    simp only [if_true, q7]
    exact ih (i + 1) q8
theorem heldWriteS_ev (n : Nat) (b : Int) (hb : 0 ≤ b ∧ b ≤ 100000000000) (hn : n ≤ 100000000000) : Ev (fun k => laws_heldWriteS.f k (markedW n b) b) (b + 2 * (n : Int)) := by
  unfold laws_heldWriteS.f
  simpa using heldWriteS_l0 n b hb hn n 0 (by omega)
theorem markDisk_ev (l0 : List ByteArray) (l1 : List S67) (h0 : l0.length ≤ 10000000) (h1 : l1.length ≤ 10000000) : Ev (fun k => laws_markDisk.f k l0 l1 1) (1 + (l0.length : Int) + 2 * (l1.length : Int), markedS l0.length 1, markedW l1.length (1 + (l0.length : Int))) := by
  unfold laws_markDisk.f
  refine Ev.bind (markStringS_ev l0 1 (by omega) (by omega)) ?_
  refine Ev.bind (markWriteS_ev l1 _ (by simp; omega) (by omega)) ?_
  exact ev_some rfl
theorem heldDisk_ev (n0 n1 : Nat) (h0 : n0 ≤ 10000000) (h1 : n1 ≤ 10000000) : Ev (fun k => laws_heldDisk.f k (markedS n0 1) (markedW n1 (1 + (n0 : Int))) 1) (1 + (n0 : Int) + 2 * (n1 : Int)) := by
  unfold laws_heldDisk.f
  refine Ev.bind (heldStringS_ev n0 1 (by omega) (by omega)) ?_
  simp only [if_neg (show ¬ 1 + (n0 : Int) < 0 by omega)]
  refine Ev.bind (heldWriteS_ev n1 _ (by omega) (by omega)) ?_
  simp only [if_neg (show ¬ 1 + (n0 : Int) + 2 * (n1 : Int) < 0 by omega)]
  exact ev_some rfl

/-! ints -/
theorem set_midI {α : Type} (l r : List α) (x v : α) (i : Nat) (h : l.length = i) : (l ++ x :: r).set i v = l ++ v :: r := by
  rw [List.set_append_right _ _ (by omega), h, Nat.sub_self]
  rfl
theorem rd_nat (l : List Int) (i : Nat) : rd l (i : Int) = l.getD i 0 := by unfold rd; rw [Int.toNat_natCast]
theorem toIntS_l0 (l : List Int) (hl : l.length ≤ 1048576) (d : Nat) : ∀ (i : Nat) (rest : List Int), rest.length = d → i + d = l.length →
    Ev (fun k => laws_toIntS.l0 k l (l.take i ++ rest) (i : Int)) l := by
  induction d with
  | zero =>
    intro i rest hr hi
    obtain rfl : rest = [] := List.eq_nil_of_length_eq_zero hr
    refine ev_succ ?_
    simp only [laws_toIntS.l0, if_neg (show ¬ (i : Int) < (l.length : Int) from by omega), List.append_nil]
    exact ev_some (List.take_of_length_le (by omega))
  | succ d ih =>
    intro i rest hr hi
    obtain ⟨x, rest, rfl⟩ : ∃ x t, rest = x :: t := by cases rest with | nil => simp at hr | cons x t => exact ⟨x, t, rfl⟩
    have hlt : i < l.length := by omega
    have hlen : (l.take i ++ x :: rest).length = l.length := by simp at hr ⊢; omega
    have hr' : rest.length = d := by simpa using hr
    have htk : (l.take i).length = i := by simp; omega
    refine ev_succ ?_
    have g1 : (i : Int) < (l.length : Int) := by omega
    have g2 : (0 : Int) ≤ (i : Int) := by omega
    simp only [laws_toIntS.l0, hlen, if_pos g1, if_pos g2, rd_nat, Int.toNat_natCast, set_midI _ _ _ _ i htk, wn i hlt (show l.length ≤ 140737488355328 from Nat.le_trans hl (by decide))]
    have := ih (i + 1) rest hr' (by omega)
    rw [List.take_succ_eq_append_getElem hlt, List.append_assoc, List.cons_append, List.nil_append] at this
    have e : l.getD i 0 = l[i] := by rw [List.getD_eq_getElem?_getD, List.getElem?_eq_getElem hlt]; rfl
    rw [e]
    exact this
theorem toIntS_ev (l : List Int) (hl : l.length ≤ 1048576) : Ev (fun k => laws_toIntS.f k l) l := by
  unfold laws_toIntS.f
  simp only [if_pos (show (0 : Int) ≤ (l.length : Int) from by omega), Int.toNat_natCast, if_pos (show l.length ≤ 35184372088832 from by omega)]
  simpa using toIntS_l0 l hl l.length 0 (List.replicate l.length 0) (by simp) (by omega)
theorem eqIntS_l0 (l : List Int) (hl : l.length ≤ 140737488355328) (d : Nat) : ∀ i : Nat, l.length - i = d → i ≤ l.length → Ev (fun k => laws_eqIntS.l0 k l l (i : Int)) true := by
  induction d with
  | zero =>
    intro i hd hi
    refine ev_succ ?_
    simp only [laws_eqIntS.l0, if_neg (show ¬ (i : Int) < (l.length : Int) from by omega)]
    exact ev_some rfl
  | succ d ih =>
    intro i hd hi
    refine ev_succ ?_
    simp only [laws_eqIntS.l0, if_pos (show (i : Int) < (l.length : Int) from by omega), if_pos (show (0 : Int) ≤ (i : Int) from by omega), if_true, wn i (show i < l.length from by omega) (by omega)]
    exact ih (i + 1) (by omega) (by omega)
theorem eqIntS_same (l : List Int) (hl : l.length ≤ 140737488355328) : Ev (fun k => laws_eqIntS.f k l l) true := by
  unfold laws_eqIntS.f
  simp only [if_true]
  exact eqIntS_l0 l hl _ 0 rfl (by omega)
theorem markIntS_l0 (d : Nat) : ∀ (l : List Int) (b : Int) (i : Nat), l.length ≤ 100000000000 → 0 ≤ b ∧ b + (d : Int) ≤ 1000000000000 → l.length - i = d → i ≤ l.length → ∃ l', Ev (fun k => laws_markIntS.l0 k l b (i : Int)) (b + (d : Int), l') := by
  induction d with
  | zero =>
    intro l b i hl hb hd hi
    refine ⟨l, ev_succ ?_⟩
    simp only [laws_markIntS.l0, if_neg (show ¬ (i : Int) < (l.length : Int) from by omega)]
    exact ev_some (by simp)
  | succ d ih =>
    intro l b i hl hb hd hi
    have hlt : i < l.length := by omega
    have g1 : (i : Int) < (l.length : Int) := by omega
    have g2 : (0 : Int) ≤ (i : Int) := by omega
    obtain ⟨l', h'⟩ := ih (l.set i b) (b + 1) (i + 1) (by rw [List.length_set]; exact hl) (by omega) (by rw [List.length_set]; omega) (by rw [List.length_set]; omega)
    refine ⟨l', ev_succ ?_⟩
    have e1 : wrap64 (b + 1) = b + 1 := w64 (by omega) (by omega)
    simp only [laws_markIntS.l0, if_pos g1, if_pos g2, Int.toNat_natCast, e1, wn i hlt (show l.length ≤ 140737488355328 from Nat.le_trans hl (by decide))]
    clear e1
    rw [show b + ((d + 1 : Nat) : Int) = b + 1 + (d : Int) by omega]
    exact h'
theorem markIntS_ev (l : List Int) (b : Int) (hl : l.length ≤ 10000000) (hb : 0 ≤ b ∧ b ≤ 100000000000) : ∃ l', Ev (fun k => laws_markIntS.f k l b) (b + (l.length : Int), l') := by
  unfold laws_markIntS.f
  exact markIntS_l0 l.length l b 0 (by omega) (by omega) rfl (by omega)

def QWrite (x : S84) : Prop := (Lit.int .i64 x.f0).wf = true ∧ x.f1.size ≤ maxLen
theorem FnExactCrashDisk (l0 : List ByteArray) (l1 : List S84) (K : List Int) (x : Int) (h0 : l0.length ≤ maxLen) (q0 : ∀ s, s ∈ l0 → s.size ≤ maxLen) (h1 : l1.length ≤ maxLen) (q1 : ∀ s, s ∈ l1 → QWrite s) (hKl : K.length ≤ maxLen) (hKw : ∀ x, x ∈ K → (Lit.int .i64 x).wf = true) (hx : (Lit.int .i64 x).wf = true) : ∃ k, laws_FnExactCrashDisk.f k l0 l1 K x = some true := by
  refine Ev.rounds ?_
  unfold laws_FnExactCrashDisk.f
  refine ev_if (fun _ => ev_some rfl) (fun hK => ?_)
  obtain ⟨m, hm, hb⟩ := szDisk_ev l0 l1 h0 h1 q0 (fun s hs => (q1 s hs).2)
  refine Ev.bind hm ?_
  refine ev_if (fun _ => ev_some rfl) (fun hm0 => ?_)
  obtain ⟨b0, b1, b2, b3⟩ := hb (by omega)
  have ht := toDisk_ev l0 l1 b0 b1
  have hml : (l1.map toW).length ≤ 1048576 := by simpa using b1
  have b4 : ∀ w, w ∈ l1.map toW → w.f1.size ≤ 1048576 := by
    intro w hw
    obtain ⟨w', h1, rfl⟩ := List.mem_map.1 hw
    exact b3 w' h1
  obtain ⟨r, hr⟩ : ∃ r, crashM l0 (l1.map toW) K x = r := ⟨_, rfl⟩
  have hz := crashM_length l0 (l1.map toW) K x
  have h1 := spec_CrashDisk_ev l0 (l1.map toW) b0 hml K x
  have h2 := impl_CrashDisk_ev l0 (l1.map toW) b0 hml K x
  have hKs : K.length ≤ 1048576 := by omega
  have hi := toIntS_ev K hKs
  rw [hr] at h1 h2 hz
  obtain ⟨r0, r1⟩ := r
  obtain ⟨hz0, hz1⟩ := hz
  have hz0 : r0.length ≤ 1048576 := by simp only at hz0; omega
  have hz1 : r1.length ≤ 1048576 := by simp only at hz1; omega
  refine Ev.bind ht ?_
  refine Ev.bind hi ?_
  refine Ev.bind h1 ?_
  refine Ev.bind ht ?_
  refine Ev.bind hi ?_
  refine Ev.bind h2 ?_
  refine Ev.bind (eqDisk_same r0 r1 (by omega) (by omega)) ?_
  simp only [if_true]
  refine Ev.bind ht ?_
  refine Ev.bind (eqDisk_same l0 (l1.map toW) (by omega) (by omega)) ?_
  simp only [if_true]
  refine Ev.bind hi ?_
  refine Ev.bind (eqIntS_same K (by omega)) ?_
  simp only [if_true]
  refine Ev.bind (markDisk_ev l0 (l1.map toW) (by omega) (by omega)) ?_
  obtain ⟨K', hK'⟩ := markIntS_ev K (1 + (l0.length : Int) + 2 * ((l1.map toW).length : Int)) (by omega) (by omega)
  refine Ev.bind hK' ?_
  simp only [if_neg (show ¬ 1 + (l0.length : Int) + 2 * ((l1.map toW).length : Int) + (K.length : Int) < 0 by omega)]
  refine Ev.bind (eqDisk_same r0 r1 (by omega) (by omega)) ?_
  refine ev_succ ?_
  simp only [laws_FnExactCrashDisk.j0, Bool.not_true, Bool.false_eq_true, if_false]
  refine Ev.bind (markDisk_ev r0 r1 (by omega) (by omega)) ?_
  refine Ev.bind (heldDisk_ev r0.length r1.length (by omega) (by omega)) ?_
  simp only [if_neg (show ¬ 1 + (r0.length : Int) + 2 * (r1.length : Int) < 0 by omega), if_true]
  refine Ev.bind ht ?_
  refine Ev.bind hi ?_
  refine Ev.bind h2 ?_
  refine Ev.bind (eqDisk_same r0 r1 (by omega) (by omega)) ?_
  simp only [if_true]
  refine Ev.bind (heldDisk_ev r0.length r1.length (by omega) (by omega)) ?_
  simp only [if_neg (show ¬ 1 + (r0.length : Int) + 2 * (r1.length : Int) < 0 by omega), if_true]
  exact ev_some rfl

end Go.Proofs.Ytdnjjdmlmfoljaa.Pure
