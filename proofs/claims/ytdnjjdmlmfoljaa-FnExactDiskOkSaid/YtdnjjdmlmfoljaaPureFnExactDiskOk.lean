/- The pure statement of FnExactDiskOk, over numbers and lists: it is true of every argument; no condition but the bounds that the statement itself names. -/
import Derived.Test.YtdnjjdmlmfoljaaPFnExactDiskOkx4
import Derived.Test.YtdnjjdmlmfoljaaBase
import Derived.Test.YtdnjjdmlmfoljaaModelDisk
set_option linter.unusedVariables false
set_option linter.unusedSimpArgs false
namespace Go.Proofs.Ytdnjjdmlmfoljaa.Pure
open Go.RowKit Go.Proofs.Ytdnjjdmlmfoljaa.PFnExactDiskOk Go.Proofs.YtdnjjdmlmfoljaaW.PrintWords Go.Proofs.YtdnjjdmlmfoljaaW.PrintLast Go.Proofs.YtdnjjdmlmfoljaaW.PrintMore Go.Proofs.Ytdnjjdmlmfoljaa.Base

/-! in -/
theorem spec_in_eq (a b c : Int) : spec_l01In.f a b c = some (decide (b ≤ a ∧ a ≤ c)) := by
  unfold spec_l01In.f
  by_cases h : a ≥ b <;> by_cases h2 : a ≤ c <;> simp [h, h2] <;> omega
theorem impl_in_eq (a b c : Int) : impl_in.f a b c = some (decide (b ≤ a ∧ a ≤ c)) := by
  unfold impl_in.f
  by_cases h : a ≥ b <;> by_cases h2 : a ≤ c <;> simp [h, h2] <;> omega

/-! disk -/
def toW (x : S84) : S67 := ⟨x.f0, x.f1⟩
def W2 (x : S67) : Wr := (x.f0, x.f1)
theorem rdOf_nat {α : Type} (d : α) (l : List α) (i : Nat) : rdOf d l (i : Int) = l.getD i d := by unfold rdOf; rw [Int.toNat_natCast]
theorem getD_drop {α : Type} (d : α) (l : List α) (i : Nat) (h : i < l.length) : l.drop i = l.getD i d :: l.drop (i + 1) := by
  rw [List.drop_eq_getElem_cons h, List.getD_eq_getElem?_getD, List.getElem?_eq_getElem h]
  rfl
theorem set_mid {α : Type} (l r : List α) (x v : α) (i : Nat) (h : l.length = i) : (l ++ x :: r).set i v = l ++ v :: r := by
  rw [List.set_append_right _ _ (by omega), h, Nat.sub_self]
  rfl
theorem szStringS_l0 (l : List ByteArray) (hl : l.length ≤ 1048576) (hs : ∀ s, s ∈ l → s.size ≤ maxLen) (d : Nat) : ∀ (i : Nat) (left : Int), l.length - i = d → i ≤ l.length → 0 ≤ left ∧ left ≤ 1048576 →
    ∃ m, Ev (fun k => laws_szStringS.l0 k l left (i : Int)) m ∧ m ≤ left ∧ (0 ≤ m → ∀ s, s ∈ l.drop i → s.size ≤ 1048576) := by
  induction d with
  | zero =>
    intro i left hd hi hleft
    refine ⟨left, ev_succ ?_, by omega, ?_⟩
    · simp only [laws_szStringS.l0, if_neg (show ¬ (i : Int) < (l.length : Int) from by omega)]
      exact ev_some rfl
    · intro _ s hs
      rw [List.drop_eq_nil_of_le (by omega)] at hs
      simp at hs
  | succ d ih =>
    intro i left hd hi hleft
    have hlt : i < l.length := by omega
    have hz : (l.getD i ByteArray.empty).size ≤ 9223372036854775807 := by
      rw [List.getD_eq_getElem?_getD, List.getElem?_eq_getElem hlt]
      exact hs _ (List.getElem_mem hlt)
    have g1 : (i : Int) < (l.length : Int) := by omega
    have g2 : (0 : Int) ≤ (i : Int) := by omega
    have e1 := w64 (x := left - ((l.getD i ByteArray.empty).size : Int)) (by omega) (by omega)
    by_cases h : left - ((l.getD i ByteArray.empty).size : Int) < 0
    · refine ⟨-1, ev_succ ?_, by omega, fun h => by omega⟩
      simp only [laws_szStringS.l0, if_pos g1, if_pos g2, rdOf_nat, e1, if_pos h]
      exact ev_some rfl
    · obtain ⟨m, hm, hle, hall⟩ := ih (i + 1) (left - ((l.getD i ByteArray.empty).size : Int)) (by omega) (by omega) (by omega)
      refine ⟨m, ev_succ ?_, by omega, ?_⟩
      · simp only [laws_szStringS.l0, if_pos g1, if_pos g2, rdOf_nat, e1, if_neg h, wn i hlt (show l.length ≤ 140737488355328 from Nat.le_trans hl (by decide))]
        exact hm
      · intro h0 s hs'
        rw [getD_drop ByteArray.empty l i hlt] at hs'
        rcases List.mem_cons.1 hs' with rfl | hs'
        · omega
        · exact hall h0 s hs'
theorem szWriteS_l0 (l : List S84) (hl : l.length ≤ 1048576) (hs : ∀ s, s ∈ l → s.f1.size ≤ maxLen) (d : Nat) : ∀ (i : Nat) (left : Int), l.length - i = d → i ≤ l.length → 0 ≤ left ∧ left ≤ 1048576 →
    ∃ m, Ev (fun k => laws_szWriteS.l0 k l left (i : Int)) m ∧ m ≤ left ∧ (0 ≤ m → ∀ s, s ∈ l.drop i → s.f1.size ≤ 1048576) := by
  induction d with
  | zero =>
    intro i left hd hi hleft
    refine ⟨left, ev_succ ?_, by omega, ?_⟩
    · simp only [laws_szWriteS.l0, if_neg (show ¬ (i : Int) < (l.length : Int) from by omega)]
      exact ev_some rfl
    · intro _ s hs
      rw [List.drop_eq_nil_of_le (by omega)] at hs
      simp at hs
  | succ d ih =>
    intro i left hd hi hleft
    have hlt : i < l.length := by omega
    have hz : (l.getD i z84).f1.size ≤ 9223372036854775807 := by
      rw [List.getD_eq_getElem?_getD, List.getElem?_eq_getElem hlt]
      exact hs _ (List.getElem_mem hlt)
    have hrd : rd_T84 l (i : Int) = l.getD i z84 := by unfold rd_T84; rw [Int.toNat_natCast]
    have g1 : (i : Int) < (l.length : Int) := by omega
    have g2 : (0 : Int) ≤ (i : Int) := by omega
    have e1 := w64 (x := left - ((l.getD i z84).f1.size : Int)) (by omega) (by omega)
    by_cases h : left - ((l.getD i z84).f1.size : Int) < 0
    · refine ⟨-1, ev_succ ?_, by omega, fun h => by omega⟩
      simp only [laws_szWriteS.l0, laws_szWrite.f, if_pos g1, if_pos g2, hrd, e1, if_pos h, Option.bind_some, if_pos (show (-1 : Int) < 0 from by decide)]
      exact ev_some rfl
    · obtain ⟨m, hm, hle, hall⟩ := ih (i + 1) (left - ((l.getD i z84).f1.size : Int)) (by omega) (by omega) (by omega)
      refine ⟨m, ev_succ ?_, by omega, ?_⟩
      · simp only [laws_szWriteS.l0, laws_szWrite.f, if_pos g1, if_pos g2, hrd, e1, if_neg h, Option.bind_some, wn i hlt (show l.length ≤ 140737488355328 from Nat.le_trans hl (by decide))]
        exact hm
      · intro h0 s hs'
        rw [getD_drop z84 l i hlt] at hs'
        rcases List.mem_cons.1 hs' with rfl | hs'
        · omega
        · exact hall h0 s hs'
theorem szDisk_ev (l0 : List ByteArray) (l1 : List S84) (h0 : l0.length ≤ maxLen) (h1 : l1.length ≤ maxLen) (hs0 : ∀ s, s ∈ l0 → s.size ≤ maxLen) (hs1 : ∀ s, s ∈ l1 → s.f1.size ≤ maxLen) :
    ∃ m, Ev (fun k => laws_szDisk.f k l0 l1 1048576) m ∧ (0 ≤ m → l0.length ≤ 1048576 ∧ l1.length ≤ 1048576 ∧ (∀ s, s ∈ l0 → s.size ≤ 1048576) ∧ (∀ s, s ∈ l1 → s.f1.size ≤ 1048576)) := by
  have h0' : l0.length ≤ 9223372036854775807 := h0
  have h1' : l1.length ≤ 9223372036854775807 := h1
  unfold laws_szDisk.f laws_szStringS.f laws_szWriteS.f
  have e0 := w64 (x := 1048576 - (l0.length : Int)) (by omega) (by omega)
  simp only [e0]
  clear e0
  by_cases c0 : 1048576 - (l0.length : Int) < 0
  · refine ⟨-1, ?_, by omega⟩
    simp only [if_pos c0, Option.bind_some, if_pos (show (-1 : Int) < 0 from by decide)]
    exact ev_some rfl
  obtain ⟨m0, e0, hle0, hall0⟩ := szStringS_l0 l0 (by omega) hs0 _ 0 (1048576 - (l0.length : Int)) rfl (by omega) (by omega)
  by_cases c1 : m0 < 0
  · refine ⟨-1, ?_, by omega⟩
    simp only [if_neg c0]
    refine Ev.bind e0 ?_
    simp only [if_pos c1]
    exact ev_some rfl
  have e1 := w64 (x := m0 - (l1.length : Int)) (by omega) (by omega)
  by_cases c2 : m0 - (l1.length : Int) < 0
  · refine ⟨-1, ?_, by omega⟩
    simp only [if_neg c0]
    refine Ev.bind e0 ?_
    simp only [if_neg c1, e1, if_pos c2, Option.bind_some, if_pos (show (-1 : Int) < 0 from by decide)]
    exact ev_some rfl
  obtain ⟨m1, e2, hle1, hall1⟩ := szWriteS_l0 l1 (by omega) hs1 _ 0 (m0 - (l1.length : Int)) rfl (by omega) (by omega)
  by_cases c3 : m1 < 0
  · refine ⟨-1, ?_, by omega⟩
    simp only [if_neg c0]
    refine Ev.bind e0 ?_
    simp only [if_neg c1, e1, if_neg c2]
    refine Ev.bind e2 ?_
    simp only [if_pos c3]
    exact ev_some rfl
  · refine ⟨m1, ?_, fun _ => ⟨by omega, by omega, by simpa using hall0 (by omega), by simpa using hall1 (by omega)⟩⟩
    simp only [if_neg c0]
    refine Ev.bind e0 ?_
    simp only [if_neg c1, e1, if_neg c2]
    refine Ev.bind e2 ?_
    simp only [if_neg c3]
    exact ev_some rfl
theorem toStringS_l0 (l : List ByteArray) (hl : l.length ≤ 1048576) (d : Nat) : ∀ (i : Nat) (rest : List ByteArray), rest.length = d → i + d = l.length →
    Ev (fun k => laws_toStringS.l0 k l (l.take i ++ rest) (i : Int)) l := by
  induction d with
  | zero =>
    intro i rest hr hi
    obtain rfl : rest = [] := List.eq_nil_of_length_eq_zero hr
    refine ev_succ ?_
    simp only [laws_toStringS.l0, if_neg (show ¬ (i : Int) < (l.length : Int) from by omega), List.append_nil]
    exact ev_some (List.take_of_length_le (by omega))
  | succ d ih =>
    intro i rest hr hi
    obtain ⟨x, rest, rfl⟩ : ∃ x t, rest = x :: t := by cases rest with | nil => simp at hr | cons x t => exact ⟨x, t, rfl⟩
    have hlt : i < l.length := by omega
    have hlen : (l.take i ++ x :: rest).length = l.length := by simp at hr ⊢; omega
    have hr' : rest.length = d := by simpa using hr
    have htk : (l.take i).length = i := by simp; omega
    refine ev_succ ?_
    have g1 : (i : Int) < (l.length : Int) := by omega
    have g2 : (0 : Int) ≤ (i : Int) := by omega
    simp only [laws_toStringS.l0, hlen, if_pos g1, if_pos g2, rdOf_nat, Int.toNat_natCast, set_mid _ _ _ _ i htk, wn i hlt (show l.length ≤ 140737488355328 from Nat.le_trans hl (by decide))]
    have := ih (i + 1) rest hr' (by omega)
    rw [List.take_succ_eq_append_getElem hlt, List.append_assoc, List.cons_append, List.nil_append] at this
    have e : l.getD i ByteArray.empty = l[i] := by rw [List.getD_eq_getElem?_getD, List.getElem?_eq_getElem hlt]; rfl
    rw [e]
    exact this
theorem toWriteS_l0 (l : List S84) (hl : l.length ≤ 1048576) (d : Nat) : ∀ (i : Nat) (rest : List S67), rest.length = d → i + d = l.length →
    Ev (fun k => laws_toWriteS.l0 k l ((l.map toW).take i ++ rest) (i : Int)) (l.map toW) := by
  induction d with
  | zero =>
    intro i rest hr hi
    obtain rfl : rest = [] := List.eq_nil_of_length_eq_zero hr
    refine ev_succ ?_
    simp only [laws_toWriteS.l0, if_neg (show ¬ (i : Int) < (l.length : Int) from by omega), List.append_nil]
    exact ev_some (List.take_of_length_le (by simp; omega))
  | succ d ih =>
    intro i rest hr hi
    obtain ⟨x, rest, rfl⟩ : ∃ x t, rest = x :: t := by cases rest with | nil => simp at hr | cons x t => exact ⟨x, t, rfl⟩
    have hlt : i < l.length := by omega
    have hlt2 : i < (l.map toW).length := by simpa using hlt
    have hlen : ((l.map toW).take i ++ x :: rest).length = l.length := by simp at hr ⊢; omega
    have hr' : rest.length = d := by simpa using hr
    have htk : ((l.map toW).take i).length = i := by simp; omega
    have hrd : rd_T84 l (i : Int) = l.getD i z84 := by unfold rd_T84; rw [Int.toNat_natCast]
    refine ev_succ ?_
    have g1 : (i : Int) < (l.length : Int) := by omega
    have g2 : (0 : Int) ≤ (i : Int) := by omega
    simp only [laws_toWriteS.l0, laws_toWrite.f, Option.bind_some, hlen, hrd, if_pos g1, if_pos g2, Int.toNat_natCast, set_mid _ _ _ _ i htk, wn i hlt (show l.length ≤ 140737488355328 from Nat.le_trans hl (by decide))]
    have := ih (i + 1) rest hr' (by omega)
    rw [List.take_succ_eq_append_getElem hlt2, List.append_assoc, List.cons_append, List.nil_append, List.getElem_map] at this
    have e : l.getD i z84 = l[i] := by rw [List.getD_eq_getElem?_getD, List.getElem?_eq_getElem hlt]; rfl
    rw [e]
    exact this
theorem toDisk_ev (l0 : List ByteArray) (l1 : List S84) (h0 : l0.length ≤ 1048576) (h1 : l1.length ≤ 1048576) : Ev (fun k => laws_toDisk.f k l0 l1) (l0, l1.map toW) := by
  unfold laws_toDisk.f laws_toStringS.f laws_toWriteS.f
  simp only [if_pos (show (0 : Int) ≤ (l0.length : Int) from by omega), if_pos (show (0 : Int) ≤ (l1.length : Int) from by omega), Int.toNat_natCast, if_pos (show l0.length ≤ 17592186044416 from by omega), if_pos (show l1.length ≤ 11728124029610 from by omega)]
  refine Ev.bind (a := l0) (by simpa using toStringS_l0 l0 h0 l0.length 0 (List.replicate l0.length (⟨#[]⟩ : ByteArray)) (by simp) (by omega)) ?_
  refine Ev.bind (a := l1.map toW) (by simpa using toWriteS_l0 l1 h1 l1.length 0 (List.replicate l1.length z67) (by simp) (by omega)) ?_
  exact ev_some rfl
theorem eqStringS_l0 (l : List ByteArray) (hl : l.length ≤ 140737488355328) (d : Nat) : ∀ i : Nat, l.length - i = d → i ≤ l.length → Ev (fun k => laws_eqStringS.l0 k l l (i : Int)) true := by
  induction d with
  | zero =>
    intro i hd hi
    refine ev_succ ?_
    simp only [laws_eqStringS.l0, if_neg (show ¬ (i : Int) < (l.length : Int) from by omega)]
    exact ev_some rfl
  | succ d ih =>
    intro i hd hi
    refine ev_succ ?_
    simp only [laws_eqStringS.l0, if_pos (show (i : Int) < (l.length : Int) from by omega), if_pos (show (0 : Int) ≤ (i : Int) from by omega), if_true, wn i (show i < l.length from by omega) (by omega)]
    exact ih (i + 1) (by omega) (by omega)
theorem eqStringS_same (l : List ByteArray) (hl : l.length ≤ 140737488355328) : Ev (fun k => laws_eqStringS.f k l l) true := by
  unfold laws_eqStringS.f
  simp only [if_true]
  exact eqStringS_l0 l hl _ 0 rfl (by omega)
theorem eqWrite_same (a : Int) (b : ByteArray) : laws_eqWrite.f a b a b = some true := by
  unfold laws_eqWrite.f
  simp
theorem eqWriteS_l0 (l : List S67) (hl : l.length ≤ 140737488355328) (d : Nat) : ∀ i : Nat, l.length - i = d → i ≤ l.length → Ev (fun k => laws_eqWriteS.l0 k l l (i : Int)) true := by
  induction d with
  | zero =>
    intro i hd hi
    refine ev_succ ?_
    simp only [laws_eqWriteS.l0, if_neg (show ¬ (i : Int) < (l.length : Int) from by omega)]
    exact ev_some rfl
  | succ d ih =>
    intro i hd hi
    refine ev_succ ?_
    simp only [laws_eqWriteS.l0, if_pos (show (i : Int) < (l.length : Int) from by omega), if_pos (show (0 : Int) ≤ (i : Int) from by omega), eqWrite_same, Option.bind_some, if_true, wn i (show i < l.length from by omega) (by omega)]
    exact ih (i + 1) (by omega) (by omega)
theorem eqWriteS_same (l : List S67) (hl : l.length ≤ 140737488355328) : Ev (fun k => laws_eqWriteS.f k l l) true := by
  unfold laws_eqWriteS.f
  simp only [if_true]
  exact eqWriteS_l0 l hl _ 0 rfl (by omega)
theorem eqDisk_same (l0 : List ByteArray) (l1 : List S67) (h0 : l0.length ≤ 140737488355328) (h1 : l1.length ≤ 140737488355328) : Ev (fun k => laws_eqDisk.f k l0 l1 l0 l1) true := by
  unfold laws_eqDisk.f
  refine Ev.bind (eqStringS_same l0 h0) ?_
  simp only [if_true]
  refine Ev.bind (eqWriteS_same l1 h1) ?_
  simp only [if_true]
  exact ev_some rfl

/-! diskok -/
def sOk (s : ByteArray) : Bool := decide (s.size = 32)
def wOk (n : Nat) (w : S67) : Bool := decide (0 ≤ w.f0 ∧ w.f0 ≤ (n : Int) - 1) && decide (w.f1.size = 32)
/-- What a right disk is. -/
def diskOkM (l0 : List ByteArray) (l1 : List S67) : Bool := decide ((1 ≤ l0.length ∧ l0.length ≤ 100) ∧ l1.length ≤ 60) && (l0.all sOk && l1.all (wOk l0.length))
theorem rd_W (l : List S67) (i : Nat) : rd_T67 l (i : Int) = l.getD i z67 := by unfold rd_T67; rw [Int.toNat_natCast]
theorem l01In_dec (a b c : Int) : spec_l01In.f a b c = some (decide (b ≤ a ∧ a ≤ c)) := by
  unfold spec_l01In.f
  by_cases h : a ≥ b
  · rw [if_pos h]; congr 1; apply Bool.eq_iff_iff.2; simp; omega
  · rw [if_neg h]; congr 1; apply Bool.eq_iff_iff.2; simp; omega
theorem diskOk_l1 (l0 : List ByteArray) (l1 : List S67) (h0 : l0.length ≤ 100) (h1 : l1.length ≤ 60) (d : Nat) : ∀ i : Nat, l1.length - i = d → i ≤ l1.length → Ev (fun k => spec_DiskOk.l1 k (i : Int) l0 l1) ((l1.drop i).all (wOk l0.length)) := by
  induction d with
  | zero =>
    intro i hd hi
    refine ev_succ ?_
    simp only [spec_DiskOk.l1, if_neg (show ¬ (i : Int) < (l1.length : Int) from by omega)]
    rw [List.drop_eq_nil_of_le (by omega)]
    exact ev_some rfl
  | succ d ih =>
    intro i hd hi
    have hlt : i < l1.length := by omega
    refine ev_succ ?_
    have g1 : (i : Int) < (l1.length : Int) := by omega
    have g2 : (0 : Int) ≤ (i : Int) := by omega
    have e1 := w64 (x := (l0.length : Int) - 1) (by omega) (by omega)
    simp only [spec_DiskOk.l1, if_pos g1, if_pos g2, rd_W, l01In_dec, e1, Option.bind_some, wn i hlt (show l1.length ≤ 140737488355328 by omega)]
    rw [getD_drop z67 l1 i hlt, List.all_cons]
    have hw : wOk l0.length (l1.getD i z67) = (decide (0 ≤ (l1.getD i z67).f0 ∧ (l1.getD i z67).f0 ≤ (l0.length : Int) - 1) && decide ((l1.getD i z67).f1.size = 32)) := rfl
    by_cases c1 : 0 ≤ (l1.getD i z67).f0 ∧ (l1.getD i z67).f0 ≤ (l0.length : Int) - 1
    · rw [decide_eq_true c1] at hw
      simp only [decide_eq_true c1, if_true]
      by_cases c2 : (l1.getD i z67).f1.size = 32
      · rw [decide_eq_true c2] at hw
        simp only [if_pos (show ((l1.getD i z67).f1.size : Int) = 32 by omega)]
        rw [hw]
        simpa using ih (i + 1) (by omega) (by omega)
      · rw [decide_eq_false c2] at hw
        simp only [if_neg (show ¬ ((l1.getD i z67).f1.size : Int) = 32 by omega)]
        rw [hw]
        exact ev_some rfl
    · rw [decide_eq_false c1] at hw
      simp only [decide_eq_false c1, Bool.false_eq_true, if_false]
      rw [hw]
      exact ev_some rfl
theorem diskOk_l0 (l0 : List ByteArray) (l1 : List S67) (h0 : l0.length ≤ 100) (h1 : l1.length ≤ 60) (d : Nat) : ∀ i : Nat, l0.length - i = d → i ≤ l0.length → Ev (fun k => spec_DiskOk.l0 k (i : Int) l0 l1) ((l0.drop i).all sOk && l1.all (wOk l0.length)) := by
  induction d with
  | zero =>
    intro i hd hi
    refine ev_succ ?_
    simp only [spec_DiskOk.l0, if_neg (show ¬ (i : Int) < (l0.length : Int) from by omega)]
    rw [List.drop_eq_nil_of_le (by omega)]
    simpa using diskOk_l1 l0 l1 h0 h1 _ 0 rfl (by omega)
  | succ d ih =>
    intro i hd hi
    have hlt : i < l0.length := by omega
    refine ev_succ ?_
    have g1 : (i : Int) < (l0.length : Int) := by omega
    have g2 : (0 : Int) ≤ (i : Int) := by omega
    simp only [spec_DiskOk.l0, if_pos g1, if_pos g2, rdOf_nat, wn i hlt (show l0.length ≤ 140737488355328 by omega)]
    rw [getD_drop ByteArray.empty l0 i hlt, List.all_cons]
    have hw : sOk (l0.getD i ByteArray.empty) = decide ((l0.getD i ByteArray.empty).size = 32) := rfl
    by_cases c2 : (l0.getD i ByteArray.empty).size = 32
    · rw [decide_eq_true c2] at hw
      simp only [if_pos (show ((l0.getD i ByteArray.empty).size : Int) = 32 by omega)]
      rw [hw]
      simpa using ih (i + 1) (by omega) (by omega)
    · rw [decide_eq_false c2] at hw
      simp only [if_neg (show ¬ ((l0.getD i ByteArray.empty).size : Int) = 32 by omega)]
      rw [hw]
      exact ev_some rfl
theorem spec_DiskOk_ev (l0 : List ByteArray) (l1 : List S67) : Ev (fun k => spec_DiskOk.f k l0 l1) (diskOkM l0 l1) := by
  unfold spec_DiskOk.f diskOkM
  simp only [l01In_dec, Option.bind_some]
  by_cases c1 : 1 ≤ l0.length ∧ l0.length ≤ 100
  · simp only [decide_eq_true (show 1 ≤ (l0.length : Int) ∧ (l0.length : Int) ≤ 100 by omega), if_true]
    by_cases c2 : l1.length ≤ 60
    · rw [decide_eq_true (show (1 ≤ l0.length ∧ l0.length ≤ 100) ∧ l1.length ≤ 60 from ⟨c1, c2⟩), Bool.true_and]
      refine ev_succ ?_
      simp only [spec_DiskOk.j0, decide_eq_false (show ¬ (l1.length : Int) > 60 by omega), Bool.false_eq_true, if_false]
      simpa using diskOk_l0 l0 l1 c1.2 c2 _ 0 rfl (by omega)
    · rw [decide_eq_false (show ¬ ((1 ≤ l0.length ∧ l0.length ≤ 100) ∧ l1.length ≤ 60) from fun h => c2 h.2), Bool.false_and]
      refine ev_succ ?_
      simp only [spec_DiskOk.j0, decide_eq_true (show (l1.length : Int) > 60 by omega), if_true]
      exact ev_some rfl
  · simp only [decide_eq_false (show ¬ (1 ≤ (l0.length : Int) ∧ (l0.length : Int) ≤ 100) by omega), Bool.false_eq_true, if_false]
    rw [decide_eq_false (show ¬ ((1 ≤ l0.length ∧ l0.length ≤ 100) ∧ l1.length ≤ 60) from fun h => c1 h.1), Bool.false_and]
    refine ev_succ ?_
    simp only [spec_DiskOk.j0, if_true]
    exact ev_some rfl
theorem strBad_not (s : ByteArray) : strBad s = !sOk s := by unfold strBad sOk; by_cases h : s.size = 32 <;> simp [h]
theorem wrBad_not (n : Nat) (w : S67) : wrBad n w = !wOk n w := by
  unfold wrBad wOk
  by_cases h : 0 ≤ w.f0 ∧ w.f0 ≤ (n : Int) - 1 <;> by_cases h2 : w.f1.size = 32 <;> simp [h, h2]
theorem any_not {α : Type} (l : List α) (p q : α → Bool) (h : ∀ x, p x = !q x) : (!l.any p) = l.all q := by
  induction l with
  | nil => rfl
  | cons x l ih => rw [List.any_cons, List.all_cons, Bool.not_or, ih, h x, Bool.not_not]
theorem impl_DiskOk_f (l0 : List ByteArray) (l1 : List S67) : impl_DiskOk.f l0 l1 = some (diskOkM l0 l1) := by
  unfold impl_DiskOk.f diskOkM
  rw [any_not l0 _ _ strBad_not, any_not l1 _ _ (wrBad_not l0.length)]

def QWrite (x : S84) : Prop := (Lit.int .i64 x.f0).wf = true ∧ x.f1.size ≤ maxLen
theorem FnExactDiskOk (l0 : List ByteArray) (l1 : List S84)  (h0 : l0.length ≤ maxLen) (q0 : ∀ s, s ∈ l0 → s.size ≤ maxLen) (h1 : l1.length ≤ maxLen) (q1 : ∀ s, s ∈ l1 → QWrite s)  : ∃ k, laws_FnExactDiskOk.f k l0 l1  = some true := by
  refine Ev.rounds ?_
  unfold laws_FnExactDiskOk.f
  obtain ⟨m, hm, hb⟩ := szDisk_ev l0 l1 h0 h1 q0 (fun s hs => (q1 s hs).2)
  refine Ev.bind hm ?_
  refine ev_if (fun _ => ev_some rfl) (fun hm0 => ?_)
  obtain ⟨b0, b1, b2, b3⟩ := hb (by omega)
  have ht := toDisk_ev l0 l1 b0 b1
  have hml : (l1.map toW).length ≤ 1048576 := by simpa using b1
  have b4 : ∀ w, w ∈ l1.map toW → w.f1.size ≤ 1048576 := by
    intro w hw
    obtain ⟨w', h1, rfl⟩ := List.mem_map.1 hw
    exact b3 w' h1
  refine Ev.bind ht ?_
  refine Ev.bind (spec_DiskOk_ev l0 (l1.map toW)) ?_
  refine Ev.bind ht ?_
  simp only [impl_DiskOk_f, Option.bind_some, bne_self_eq_false, Bool.false_eq_true, if_false]
  refine Ev.bind ht ?_
  refine Ev.bind (eqDisk_same l0 (l1.map toW) (by omega) (by omega)) ?_
  simp only [if_true]
  exact ev_some rfl

end Go.Proofs.Ytdnjjdmlmfoljaa.Pure
