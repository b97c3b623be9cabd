/- The pure statement of FnExactSegText, over numbers and lists: it is true of every argument; no condition but the bounds that the statement itself names. -/
import Derived.Test.YtdnjjdmlmfoljaaPFnExactSegTextx4
import Derived.Test.YtdnjjdmlmfoljaaBase
import Derived.Test.YtdnjjdmlmfoljaaModelDisk
set_option linter.unusedVariables false
set_option linter.unusedSimpArgs false
namespace Go.Proofs.Ytdnjjdmlmfoljaa.Pure
open Go.RowKit Go.Proofs.Ytdnjjdmlmfoljaa.PFnExactSegText Go.Proofs.YtdnjjdmlmfoljaaW.PrintWords Go.Proofs.YtdnjjdmlmfoljaaW.PrintLast Go.Proofs.YtdnjjdmlmfoljaaW.PrintMore Go.Proofs.Ytdnjjdmlmfoljaa.Base

/-! in -/
theorem spec_in_eq (a b c : Int) : spec_l01In.f a b c = some (decide (b ≤ a ∧ a ≤ c)) := by
  unfold spec_l01In.f
  by_cases h : a ≥ b <;> by_cases h2 : a ≤ c <;> simp [h, h2] <;> omega
theorem impl_in_eq (a b c : Int) : impl_in.f a b c = some (decide (b ≤ a ∧ a ≤ c)) := by
  unfold impl_in.f
  by_cases h : a ≥ b <;> by_cases h2 : a ≤ c <;> simp [h, h2] <;> omega

/-! disk -/
def toW (x : S84) : S67 := ⟨x.f0, x.f1⟩
def W2 (x : S67) : Wr := (x.f0, x.f1)
theorem rdOf_nat {α : Type} (d : α) (l : List α) (i : Nat) : rdOf d l (i : Int) = l.getD i d := by unfold rdOf; rw [Int.toNat_natCast]
theorem getD_drop {α : Type} (d : α) (l : List α) (i : Nat) (h : i < l.length) : l.drop i = l.getD i d :: l.drop (i + 1) := by
  rw [List.drop_eq_getElem_cons h, List.getD_eq_getElem?_getD, List.getElem?_eq_getElem h]
  rfl
theorem set_mid {α : Type} (l r : List α) (x v : α) (i : Nat) (h : l.length = i) : (l ++ x :: r).set i v = l ++ v :: r := by
  rw [List.set_append_right _ _ (by omega), h, Nat.sub_self]
  rfl
theorem szStringS_l0 (l : List ByteArray) (hl : l.length ≤ 1048576) (hs : ∀ s, s ∈ l → s.size ≤ maxLen) (d : Nat) : ∀ (i : Nat) (left : Int), l.length - i = d → i ≤ l.length → 0 ≤ left ∧ left ≤ 1048576 →
    ∃ m, Ev (fun k => laws_szStringS.l0 k l left (i : Int)) m ∧ m ≤ left ∧ (0 ≤ m → ∀ s, s ∈ l.drop i → s.size ≤ 1048576) := by
  induction d with
  | zero =>
    intro i left hd hi hleft
    refine ⟨left, ev_succ ?_, by omega, ?_⟩
    · simp only [laws_szStringS.l0, if_neg (show ¬ (i : Int) < (l.length : Int) from by omega)]
      exact ev_some rfl
    · intro _ s hs
      rw [List.drop_eq_nil_of_le (by omega)] at hs
      simp at hs
  | succ d ih =>
    intro i left hd hi hleft
    have hlt : i < l.length := by omega
    have hz : (l.getD i ByteArray.empty).size ≤ 9223372036854775807 := by
      rw [List.getD_eq_getElem?_getD, List.getElem?_eq_getElem hlt]
      exact hs _ (List.getElem_mem hlt)
    have g1 : (i : Int) < (l.length : Int) := by omega
    have g2 : (0 : Int) ≤ (i : Int) := by omega
    have e1 := w64 (x := left - ((l.getD i ByteArray.empty).size : Int)) (by omega) (by omega)
    by_cases h : left - ((l.getD i ByteArray.empty).size : Int) < 0
    · refine ⟨-1, ev_succ ?_, by omega, fun h => by omega⟩
      simp only [laws_szStringS.l0, if_pos g1, if_pos g2, rdOf_nat, e1, if_pos h]
      exact ev_some rfl
    · obtain ⟨m, hm, hle, hall⟩ := ih (i + 1) (left - ((l.getD i ByteArray.empty).size : Int)) (by omega) (by omega) (by omega)
      refine ⟨m, ev_succ ?_, by omega, ?_⟩
      · simp only [laws_szStringS.l0, if_pos g1, if_pos g2, rdOf_nat, e1, if_neg h, wn i hlt (show l.length ≤ 140737488355328 from Nat.le_trans hl (by decide))]
        exact hm
      · intro h0 s hs'
        rw [getD_drop ByteArray.empty l i hlt] at hs'
        rcases List.mem_cons.1 hs' with rfl | hs'
        · omega
        · exact hall h0 s hs'
theorem szWriteS_l0 (l : List S84) (hl : l.length ≤ 1048576) (hs : ∀ s, s ∈ l → s.f1.size ≤ maxLen) (d : Nat) : ∀ (i : Nat) (left : Int), l.length - i = d → i ≤ l.length → 0 ≤ left ∧ left ≤ 1048576 →
    ∃ m, Ev (fun k => laws_szWriteS.l0 k l left (i : Int)) m ∧ m ≤ left ∧ (0 ≤ m → ∀ s, s ∈ l.drop i → s.f1.size ≤ 1048576) := by
  induction d with
  | zero =>
    intro i left hd hi hleft
    refine ⟨left, ev_succ ?_, by omega, ?_⟩
    · simp only [laws_szWriteS.l0, if_neg (show ¬ (i : Int) < (l.length : Int) from by omega)]
      exact ev_some rfl
    · intro _ s hs
      rw [List.drop_eq_nil_of_le (by omega)] at hs
      simp at hs
  | succ d ih =>
    intro i left hd hi hleft
    have hlt : i < l.length := by omega
    have hz : (l.getD i z84).f1.size ≤ 9223372036854775807 := by
      rw [List.getD_eq_getElem?_getD, List.getElem?_eq_getElem hlt]
      exact hs _ (List.getElem_mem hlt)
    have hrd : rd_T84 l (i : Int) = l.getD i z84 := by unfold rd_T84; rw [Int.toNat_natCast]
    have g1 : (i : Int) < (l.length : Int) := by omega
    have g2 : (0 : Int) ≤ (i : Int) := by omega
    have e1 := w64 (x := left - ((l.getD i z84).f1.size : Int)) (by omega) (by omega)
    by_cases h : left - ((l.getD i z84).f1.size : Int) < 0
    · refine ⟨-1, ev_succ ?_, by omega, fun h => by omega⟩
      simp only [laws_szWriteS.l0, laws_szWrite.f, if_pos g1, if_pos g2, hrd, e1, if_pos h, Option.bind_some, if_pos (show (-1 : Int) < 0 from by decide)]
      exact ev_some rfl
    · obtain ⟨m, hm, hle, hall⟩ := ih (i + 1) (left - ((l.getD i z84).f1.size : Int)) (by omega) (by omega) (by omega)
      refine ⟨m, ev_succ ?_, by omega, ?_⟩
      · simp only [laws_szWriteS.l0, laws_szWrite.f, if_pos g1, if_pos g2, hrd, e1, if_neg h, Option.bind_some, wn i hlt (show l.length ≤ 140737488355328 from Nat.le_trans hl (by decide))]
        exact hm
      · intro h0 s hs'
        rw [getD_drop z84 l i hlt] at hs'
        rcases List.mem_cons.1 hs' with rfl | hs'
        · omega
        · exact hall h0 s hs'
theorem szDisk_ev (l0 : List ByteArray) (l1 : List S84) (h0 : l0.length ≤ maxLen) (h1 : l1.length ≤ maxLen) (hs0 : ∀ s, s ∈ l0 → s.size ≤ maxLen) (hs1 : ∀ s, s ∈ l1 → s.f1.size ≤ maxLen) :
    ∃ m, Ev (fun k => laws_szDisk.f k l0 l1 1048576) m ∧ (0 ≤ m → l0.length ≤ 1048576 ∧ l1.length ≤ 1048576 ∧ (∀ s, s ∈ l0 → s.size ≤ 1048576) ∧ (∀ s, s ∈ l1 → s.f1.size ≤ 1048576)) := by
  have h0' : l0.length ≤ 9223372036854775807 := h0
  have h1' : l1.length ≤ 9223372036854775807 := h1
  unfold laws_szDisk.f laws_szStringS.f laws_szWriteS.f
  have e0 := w64 (x := 1048576 - (l0.length : Int)) (by omega) (by omega)
  simp only [e0]
  clear e0
  by_cases c0 : 1048576 - (l0.length : Int) < 0
  · refine ⟨-1, ?_, by omega⟩
    simp only [if_pos c0, Option.bind_some, if_pos (show (-1 : Int) < 0 from by decide)]
    exact ev_some rfl
  obtain ⟨m0, e0, hle0, hall0⟩ := szStringS_l0 l0 (by omega) hs0 _ 0 (1048576 - (l0.length : Int)) rfl (by omega) (by omega)
  by_cases c1 : m0 < 0
  · refine ⟨-1, ?_, by omega⟩
    simp only [if_neg c0]
    refine Ev.bind e0 ?_
    simp only [if_pos c1]
    exact ev_some rfl
  have e1 := w64 (x := m0 - (l1.length : Int)) (by omega) (by omega)
  by_cases c2 : m0 - (l1.length : Int) < 0
  · refine ⟨-1, ?_, by omega⟩
    simp only [if_neg c0]
    refine Ev.bind e0 ?_
    simp only [if_neg c1, e1, if_pos c2, Option.bind_some, if_pos (show (-1 : Int) < 0 from by decide)]
    exact ev_some rfl
  obtain ⟨m1, e2, hle1, hall1⟩ := szWriteS_l0 l1 (by omega) hs1 _ 0 (m0 - (l1.length : Int)) rfl (by omega) (by omega)
  by_cases c3 : m1 < 0
  · refine ⟨-1, ?_, by omega⟩
    simp only [if_neg c0]
    refine Ev.bind e0 ?_
    simp only [if_neg c1, e1, if_neg c2]
    refine Ev.bind e2 ?_
    simp only [if_pos c3]
    exact ev_some rfl
  · refine ⟨m1, ?_, fun _ => ⟨by omega, by omega, by simpa using hall0 (by omega), by simpa using hall1 (by omega)⟩⟩
    simp only [if_neg c0]
    refine Ev.bind e0 ?_
    simp only [if_neg c1, e1, if_neg c2]
    refine Ev.bind e2 ?_
    simp only [if_neg c3]
    exact ev_some rfl
theorem toStringS_l0 (l : List ByteArray) (hl : l.length ≤ 1048576) (d : Nat) : ∀ (i : Nat) (rest : List ByteArray), rest.length = d → i + d = l.length →
    Ev (fun k => laws_toStringS.l0 k l (l.take i ++ rest) (i : Int)) l := by
  induction d with
  | zero =>
    intro i rest hr hi
    obtain rfl : rest = [] := List.eq_nil_of_length_eq_zero hr
    refine ev_succ ?_
    simp only [laws_toStringS.l0, if_neg (show ¬ (i : Int) < (l.length : Int) from by omega), List.append_nil]
    exact ev_some (List.take_of_length_le (by omega))
  | succ d ih =>
    intro i rest hr hi
    obtain ⟨x, rest, rfl⟩ : ∃ x t, rest = x :: t := by cases rest with | nil => simp at hr | cons x t => exact ⟨x, t, rfl⟩
    have hlt : i < l.length := by omega
    have hlen : (l.take i ++ x :: rest).length = l.length := by simp at hr ⊢; omega
    have hr' : rest.length = d := by simpa using hr
    have htk : (l.take i).length = i := by simp; omega
    refine ev_succ ?_
    have g1 : (i : Int) < (l.length : Int) := by omega
    have g2 : (0 : Int) ≤ (i : Int) := by omega
    simp only [laws_toStringS.l0, hlen, if_pos g1, if_pos g2, rdOf_nat, Int.toNat_natCast, set_mid _ _ _ _ i htk, wn i hlt (show l.length ≤ 140737488355328 from Nat.le_trans hl (by decide))]
    have := ih (i + 1) rest hr' (by omega)
    rw [List.take_succ_eq_append_getElem hlt, List.append_assoc, List.cons_append, List.nil_append] at this
    have e : l.getD i ByteArray.empty = l[i] := by rw [List.getD_eq_getElem?_getD, List.getElem?_eq_getElem hlt]; rfl
    rw [e]
    exact this
theorem toWriteS_l0 (l : List S84) (hl : l.length ≤ 1048576) (d : Nat) : ∀ (i : Nat) (rest : List S67), rest.length = d → i + d = l.length →
    Ev (fun k => laws_toWriteS.l0 k l ((l.map toW).take i ++ rest) (i : Int)) (l.map toW) := by
  induction d with
  | zero =>
    intro i rest hr hi
    obtain rfl : rest = [] := List.eq_nil_of_length_eq_zero hr
    refine ev_succ ?_
    simp only [laws_toWriteS.l0, if_neg (show ¬ (i : Int) < (l.length : Int) from by omega), List.append_nil]
    exact ev_some (List.take_of_length_le (by simp; omega))
  | succ d ih =>
    intro i rest hr hi
    obtain ⟨x, rest, rfl⟩ : ∃ x t, rest = x :: t := by cases rest with | nil => simp at hr | cons x t => exact ⟨x, t, rfl⟩
    have hlt : i < l.length := by omega
    have hlt2 : i < (l.map toW).length := by simpa using hlt
    have hlen : ((l.map toW).take i ++ x :: rest).length = l.length := by simp at hr ⊢; omega
    have hr' : rest.length = d := by simpa using hr
    have htk : ((l.map toW).take i).length = i := by simp; omega
    have hrd : rd_T84 l (i : Int) = l.getD i z84 := by unfold rd_T84; rw [Int.toNat_natCast]
    refine ev_succ ?_
    have g1 : (i : Int) < (l.length : Int) := by omega
    have g2 : (0 : Int) ≤ (i : Int) := by omega
    simp only [laws_toWriteS.l0, laws_toWrite.f, Option.bind_some, hlen, hrd, if_pos g1, if_pos g2, Int.toNat_natCast, set_mid _ _ _ _ i htk, wn i hlt (show l.length ≤ 140737488355328 from Nat.le_trans hl (by decide))]
    have := ih (i + 1) rest hr' (by omega)
    rw [List.take_succ_eq_append_getElem hlt2, List.append_assoc, List.cons_append, List.nil_append, List.getElem_map] at this
    have e : l.getD i z84 = l[i] := by rw [List.getD_eq_getElem?_getD, List.getElem?_eq_getElem hlt]; rfl
    rw [e]
    exact this
theorem toDisk_ev (l0 : List ByteArray) (l1 : List S84) (h0 : l0.length ≤ 1048576) (h1 : l1.length ≤ 1048576) : Ev (fun k => laws_toDisk.f k l0 l1) (l0, l1.map toW) := by
  unfold laws_toDisk.f laws_toStringS.f laws_toWriteS.f
  simp only [if_pos (show (0 : Int) ≤ (l0.length : Int) from by omega), if_pos (show (0 : Int) ≤ (l1.length : Int) from by omega), Int.toNat_natCast, if_pos (show l0.length ≤ 17592186044416 from by omega), if_pos (show l1.length ≤ 11728124029610 from by omega)]
  refine Ev.bind (a := l0) (by simpa using toStringS_l0 l0 h0 l0.length 0 (List.replicate l0.length (⟨#[]⟩ : ByteArray)) (by simp) (by omega)) ?_
  refine Ev.bind (a := l1.map toW) (by simpa using toWriteS_l0 l1 h1 l1.length 0 (List.replicate l1.length z67) (by simp) (by omega)) ?_
  exact ev_some rfl
theorem eqStringS_l0 (l : List ByteArray) (hl : l.length ≤ 140737488355328) (d : Nat) : ∀ i : Nat, l.length - i = d → i ≤ l.length → Ev (fun k => laws_eqStringS.l0 k l l (i : Int)) true := by
  induction d with
  | zero =>
    intro i hd hi
    refine ev_succ ?_
    simp only [laws_eqStringS.l0, if_neg (show ¬ (i : Int) < (l.length : Int) from by omega)]
    exact ev_some rfl
  | succ d ih =>
    intro i hd hi
    refine ev_succ ?_
    simp only [laws_eqStringS.l0, if_pos (show (i : Int) < (l.length : Int) from by omega), if_pos (show (0 : Int) ≤ (i : Int) from by omega), if_true, wn i (show i < l.length from by omega) (by omega)]
    exact ih (i + 1) (by omega) (by omega)
theorem eqStringS_same (l : List ByteArray) (hl : l.length ≤ 140737488355328) : Ev (fun k => laws_eqStringS.f k l l) true := by
  unfold laws_eqStringS.f
  simp only [if_true]
  exact eqStringS_l0 l hl _ 0 rfl (by omega)
theorem eqWrite_same (a : Int) (b : ByteArray) : laws_eqWrite.f a b a b = some true := by
  unfold laws_eqWrite.f
  simp
theorem eqWriteS_l0 (l : List S67) (hl : l.length ≤ 140737488355328) (d : Nat) : ∀ i : Nat, l.length - i = d → i ≤ l.length → Ev (fun k => laws_eqWriteS.l0 k l l (i : Int)) true := by
  induction d with
  | zero =>
    intro i hd hi
    refine ev_succ ?_
    simp only [laws_eqWriteS.l0, if_neg (show ¬ (i : Int) < (l.length : Int) from by omega)]
    exact ev_some rfl
  | succ d ih =>
    intro i hd hi
    refine ev_succ ?_
    simp only [laws_eqWriteS.l0, if_pos (show (i : Int) < (l.length : Int) from by omega), if_pos (show (0 : Int) ≤ (i : Int) from by omega), eqWrite_same, Option.bind_some, if_true, wn i (show i < l.length from by omega) (by omega)]
    exact ih (i + 1) (by omega) (by omega)
theorem eqWriteS_same (l : List S67) (hl : l.length ≤ 140737488355328) : Ev (fun k => laws_eqWriteS.f k l l) true := by
  unfold laws_eqWriteS.f
  simp only [if_true]
  exact eqWriteS_l0 l hl _ 0 rfl (by omega)
theorem eqDisk_same (l0 : List ByteArray) (l1 : List S67) (h0 : l0.length ≤ 140737488355328) (h1 : l1.length ≤ 140737488355328) : Ev (fun k => laws_eqDisk.f k l0 l1 l0 l1) true := by
  unfold laws_eqDisk.f
  refine Ev.bind (eqStringS_same l0 h0) ?_
  simp only [if_true]
  refine Ev.bind (eqWriteS_same l1 h1) ?_
  simp only [if_true]
  exact ev_some rfl

/-! readsector -/
theorem impl_ReadSector_l0 (c : List S67) (hc : c.length ≤ 1048576) (a : Int) (d : Nat) : ∀ (i : Nat) (acc : ByteArray), c.length - i = d → i ≤ c.length →
    Ev (fun k => impl_ReadSector.l0 k a acc c (c.length : Int) (i : Int)) (wrLast a ((c.drop i).map W2) acc, true) := by
  induction d with
  | zero =>
    intro i acc hd hi
    refine ev_succ ?_
    simp only [impl_ReadSector.l0, if_neg (show ¬ (i : Int) < (c.length : Int) from by omega)]
    rw [List.drop_eq_nil_of_le (by omega)]
    exact ev_some rfl
  | succ d ih =>
    intro i acc hd hi
    have hlt : i < c.length := by omega
    have hrd : rd_T67 c (i : Int) = c.getD i z67 := by unfold rd_T67; rw [Int.toNat_natCast]
    refine ev_succ ?_
    simp only [impl_ReadSector.l0, if_pos (show (i : Int) < (c.length : Int) from by omega), if_pos (show (0 : Int) ≤ (i : Int) from by omega), hrd, wn i hlt (show c.length ≤ 140737488355328 from Nat.le_trans hc (by decide))]
    rw [getD_drop z67 c i hlt, List.map_cons, wrLast_cons]
    refine ev_if (fun h => ?_) (fun h => ?_)
    · rw [if_pos (show (W2 (c.getD i z67)).1 = a from h)]
      exact ih (i + 1) _ (by omega) (by omega)
    · rw [if_neg (show ¬ (W2 (c.getD i z67)).1 = a from h)]
      exact ih (i + 1) _ (by omega) (by omega)
theorem impl_ReadSector_ev (ss : List ByteArray) (c : List S67) (hs : ss.length ≤ 1048576) (hc : c.length ≤ 1048576) (a : Int) : Ev (fun k => impl_ReadSector.f k ss c a) (readSectorM ss (c.map W2) a) := by
  unfold impl_ReadSector.f readSectorM
  rw [w64 (x := (ss.length : Int) - 1) (by omega) (by omega)]
  simp only [impl_in_eq, Option.bind_some]
  by_cases h : 0 ≤ a ∧ a ≤ (ss.length : Int) - 1
  · simp only [decide_eq_true h, if_true, if_pos h, if_pos h.1, if_pos (show a < (ss.length : Int) from by omega)]
    have := impl_ReadSector_l0 c hc a _ 0 (rdOf ByteArray.empty ss a) rfl (by omega)
    simpa [rdOf] using this
  · simp only [decide_eq_false h, Bool.false_eq_true, if_false, if_neg h]
    exact ev_some rfl
theorem spec_ReadSector_l0 (ss : List ByteArray) (c : List S67) (hc : c.length ≤ 1048576) (a : Int) (h0 : 0 ≤ a) (h1 : a < (ss.length : Int)) (n : Nat) : n ≤ c.length →
    Ev (fun k => spec_ReadSector.l0 k a ((n : Int) - 1) ss c) (wrLast a ((c.take n).map W2) (ss.getD a.toNat ByteArray.empty), true) := by
  induction n with
  | zero =>
    intro hn
    refine ev_succ ?_
    simp only [spec_ReadSector.l0, if_neg (show ¬ ((0 : Nat) : Int) - 1 ≥ 0 from by omega), if_pos h0, if_pos h1]
    exact ev_some (by simp [wrLast, rdOf])
  | succ n ih =>
    intro hn
    have hlt : n < c.length := by omega
    have e0 : ((n + 1 : Nat) : Int) - 1 = (n : Int) := by omega
    have hrd : rd_T67 c (n : Int) = c.getD n z67 := by unfold rd_T67; rw [Int.toNat_natCast]
    have e1 := w64 (x := (n : Int) - 1) (by omega) (by omega)
    refine ev_succ ?_
    simp only [spec_ReadSector.l0, e0, if_pos (show (n : Int) ≥ 0 from by omega), if_pos (show (0 : Int) ≤ (n : Int) from by omega), if_pos (show (n : Int) < (c.length : Int) from by omega), hrd, e1]
    rw [List.take_succ_eq_append_getElem hlt, List.map_append, List.map_cons, List.map_nil, wrLast_snoc]
    have e2 : c.getD n z67 = c[n] := by rw [List.getD_eq_getElem?_getD, List.getElem?_eq_getElem hlt]; rfl
    rw [e2]
    refine ev_if (fun h => ?_) (fun h => ?_)
    · rw [if_pos (show (W2 c[n]).1 = a from h)]
      exact ev_some rfl
    · rw [if_neg (show ¬ (W2 c[n]).1 = a from h)]
      exact ih (by omega)
theorem spec_ReadSector_ev (ss : List ByteArray) (c : List S67) (hs : ss.length ≤ 1048576) (hc : c.length ≤ 1048576) (a : Int) : Ev (fun k => spec_ReadSector.f k ss c a) (readSectorM ss (c.map W2) a) := by
  unfold spec_ReadSector.f readSectorM
  rw [w64 (x := (ss.length : Int) - 1) (by omega) (by omega), w64 (x := (c.length : Int) - 1) (by omega) (by omega)]
  simp only [spec_in_eq, Option.bind_some]
  by_cases h : 0 ≤ a ∧ a ≤ (ss.length : Int) - 1
  · simp only [decide_eq_true h, if_true, if_pos h]
    simpa using spec_ReadSector_l0 ss c hc a h.1 (by omega) c.length (Nat.le_refl _)
  · simp only [decide_eq_false h, Bool.false_eq_true, if_false, if_neg h]
    exact ev_some rfl

/-! sectortext -/
theorem impl_SectorText_l0 (ss : List ByteArray) (c : List S67) (hs : ss.length ≤ 1048576) (hc : c.length ≤ 1048576) (zs : ∀ s, s ∈ ss → s.size ≤ 1048576) (zc : ∀ w, w ∈ c → w.f1.size ≤ 1048576) (a : Int) (ha : -9223372036854775808 ≤ a ∧ a ≤ 9223372036854775807) (n : Nat) (hn : n ≤ 100) (f : Nat) :
    ∀ (i : Nat) (acc : ByteArray), i + f = n → acc.size ≤ i * 1048576 → (i = 0 ∨ (0 ≤ a ∧ a + i ≤ (ss.length : Int))) →
    Ev (fun k => impl_SectorText.l0 k a acc (n : Int) (i : Int) ss c) (stGo ss (c.map W2) a f i acc) := by
  induction f with
  | zero =>
    intro i acc hi hz hr
    refine ev_succ ?_
    simp only [impl_SectorText.l0, if_neg (show ¬ (i : Int) < (n : Int) from by omega)]
    exact ev_some rfl
  | succ f ih =>
    intro i acc hi hz hr
    have e1 : wrap64 (a + (i : Int)) = a + (i : Int) := by
      rcases hr with rfl | hr
      · exact w64 (by omega) (by omega)
      · exact w64 (by omega) (by omega)
    have g1 : (i : Int) < (n : Int) := by omega
    have hsz := readSectorM_size ss (c.map W2) (a + (i : Int)) 1048576 zs (by intro w hw; obtain ⟨w', h1, rfl⟩ := List.mem_map.1 hw; exact zc w' h1)
    have hin : (readSectorM ss (c.map W2) (a + (i : Int))).2 = true → 0 ≤ a + (i : Int) ∧ a + (i : Int) < (ss.length : Int) := by
      unfold readSectorM
      by_cases h : 0 ≤ a + (i : Int) ∧ a + (i : Int) ≤ (ss.length : Int) - 1
      · intro _; omega
      · rw [if_neg h]; intro h2; simp at h2
    have hi1 : i < n := by omega
    have e2 : wrap64 ((i : Int) + 1) = ((i + 1 : Nat) : Int) := wn i hi1 (Nat.le_trans hn (by decide))
    refine ev_succ ?_
    simp only [impl_SectorText.l0, if_pos g1, e1, e2]
    clear e1 e2
    refine Ev.bind (impl_ReadSector_ev ss c hs hc _) ?_
    unfold stGo
    refine ev_if (fun h => ?_) (fun h => ?_)
    · rw [if_pos h]
      have h3 := hin h
      have hz2 : acc.size + (readSectorM ss (c.map W2) (a + (i : Int))).1.size ≤ (i + 1) * 1048576 := by rw [Nat.add_mul]; omega
      refine ev_if (fun _ => ?_) (fun hh => absurd (by have : (i + 1) * 1048576 ≤ 101 * 1048576 := Nat.mul_le_mul_right _ (by omega); omega) hh)
      refine ih (i + 1) _ (by omega) (by rw [size_append]; exact hz2) (.inr ?_)
      rcases hr with rfl | hr
      · exact ⟨by omega, by omega⟩
      · exact ⟨by omega, by omega⟩
    · rw [if_neg h]
      exact ev_some rfl
theorem impl_SectorText_ev (ss : List ByteArray) (c : List S67) (hs : ss.length ≤ 1048576) (hc : c.length ≤ 1048576) (zs : ∀ s, s ∈ ss → s.size ≤ 1048576) (zc : ∀ w, w ∈ c → w.f1.size ≤ 1048576) (a n : Int) (ha : -9223372036854775808 ≤ a ∧ a ≤ 9223372036854775807) :
    Ev (fun k => impl_SectorText.f k ss c a n) (sectorTextM ss (c.map W2) a n) := by
  unfold impl_SectorText.f sectorTextM
  simp only [impl_in_eq, Option.bind_some]
  by_cases h : 0 ≤ n ∧ n ≤ 100
  · obtain ⟨m, rfl⟩ := Int.eq_ofNat_of_zero_le h.1
    simp only [decide_eq_true h, if_true, if_pos h, Int.toNat_natCast]
    exact impl_SectorText_l0 ss c hs hc zs zc a ha m (by omega) m 0 _ (by omega) (by decide) (.inl rfl)
  · simp only [decide_eq_false h, Bool.false_eq_true, if_false, if_neg h]
    exact ev_some rfl
theorem spec_SectorText_l0 (ss : List ByteArray) (c : List S67) (hs : ss.length ≤ 1048576) (hc : c.length ≤ 1048576) (zs : ∀ s, s ∈ ss → s.size ≤ 1048576) (zc : ∀ w, w ∈ c → w.f1.size ≤ 1048576) (a : Int) (ha : -9223372036854775808 ≤ a ∧ a ≤ 9223372036854775807) (n : Nat) (hn : n ≤ 100) (f : Nat) :
    ∀ (i : Nat) (acc : ByteArray), i + f = n → acc.size ≤ i * 1048576 → (i = 0 ∨ (0 ≤ a ∧ a + i ≤ (ss.length : Int))) →
    Ev (fun k => spec_SectorText.l0 k a (n : Int) acc (i : Int) ss c) (stGo ss (c.map W2) a f i acc) := by
  induction f with
  | zero =>
    intro i acc hi hz hr
    refine ev_succ ?_
    simp only [spec_SectorText.l0, if_neg (show ¬ (i : Int) < (n : Int) from by omega)]
    exact ev_some rfl
  | succ f ih =>
    intro i acc hi hz hr
    have g1 : (i : Int) < (n : Int) := by omega
    have hsz := readSectorM_size ss (c.map W2) (a + (i : Int)) 1048576 zs (by intro w hw; obtain ⟨w', h1, rfl⟩ := List.mem_map.1 hw; exact zc w' h1)
    have hin : (readSectorM ss (c.map W2) (a + (i : Int))).2 = true ↔ 0 ≤ a + (i : Int) ∧ a + (i : Int) ≤ (ss.length : Int) - 1 := by
      unfold readSectorM
      by_cases h : 0 ≤ a + (i : Int) ∧ a + (i : Int) ≤ (ss.length : Int) - 1
      · rw [if_pos h]; simp; omega
      · rw [if_neg h]; simp; omega
    have hi1 : i < n := by omega
    unfold stGo
    refine ev_succ ?_
    simp only [spec_SectorText.l0, if_pos g1]
    by_cases hbad : a < 0 ∨ a > (ss.length : Int)
    · rw [if_neg (fun h => by have := hin.1 h; omega)]
      refine ev_if (fun h => ?_) (fun h => ?_)
      · refine ev_succ ?_
        simp only [spec_SectorText.j1, if_true]
        exact ev_some rfl
      · refine ev_succ ?_
        simp only [spec_SectorText.j1, decide_eq_true (show a > (ss.length : Int) from by omega), if_true]
        exact ev_some rfl
    have e1 : wrap64 (a + (i : Int)) = a + (i : Int) := w64 (by omega) (by omega)
    have g2 : ¬ a < 0 := by omega
    have g3 : ¬ a > (ss.length : Int) := by omega
    have e2 : wrap64 ((i : Int) + 1) = ((i + 1 : Nat) : Int) := wn i hi1 (Nat.le_trans hn (by decide))
    simp only [if_neg g2, decide_eq_false g3]
    refine ev_succ ?_
    simp only [spec_SectorText.j1, Bool.false_eq_true, if_false, e1, e2]
    clear e1 e2
    refine Ev.bind (spec_ReadSector_ev ss c hs hc _) ?_
    refine ev_if (fun h => ?_) (fun h => ?_)
    · rw [if_pos h]
      have h3 := hin.1 h
      have hz2 : acc.size + (readSectorM ss (c.map W2) (a + (i : Int))).1.size ≤ (i + 1) * 1048576 := by rw [Nat.add_mul]; omega
      refine ev_if (fun _ => ?_) (fun hh => absurd (by have : (i + 1) * 1048576 ≤ 101 * 1048576 := Nat.mul_le_mul_right _ (by omega); omega) hh)
      exact ih (i + 1) _ (by omega) (by rw [size_append]; exact hz2) (.inr ⟨by omega, by omega⟩)
    · rw [if_neg h]
      exact ev_some rfl
theorem spec_SectorText_ev (ss : List ByteArray) (c : List S67) (hs : ss.length ≤ 1048576) (hc : c.length ≤ 1048576) (zs : ∀ s, s ∈ ss → s.size ≤ 1048576) (zc : ∀ w, w ∈ c → w.f1.size ≤ 1048576) (a n : Int) (ha : -9223372036854775808 ≤ a ∧ a ≤ 9223372036854775807) :
    Ev (fun k => spec_SectorText.f k ss c a n) (sectorTextM ss (c.map W2) a n) := by
  unfold spec_SectorText.f sectorTextM
  simp only [spec_in_eq, Option.bind_some]
  by_cases h : 0 ≤ n ∧ n ≤ 100
  · obtain ⟨m, rfl⟩ := Int.eq_ofNat_of_zero_le h.1
    simp only [decide_eq_true h, if_true, if_pos h, Int.toNat_natCast]
    exact spec_SectorText_l0 ss c hs hc zs zc a ha m (by omega) m 0 _ (by omega) (by decide) (.inl rfl)
  · simp only [decide_eq_false h, Bool.false_eq_true, if_false, if_neg h]
    exact ev_some rfl
theorem impl_SegFirst_in (g : Int) (h : 0 ≤ g ∧ g ≤ 10) : impl_SegFirst.f g = some (8 + g * 8) := by
  unfold impl_SegFirst.f
  rw [impl_in_eq, Option.bind_some, if_pos (decide_eq_true h), w64 (x := g * 8) (by omega) (by omega), w64 (by omega) (by omega)]
theorem spec_SegFirst_in (g : Int) (h : 0 ≤ g ∧ g ≤ 10) : spec_SegFirst.f g = some (8 + g * 8) := by
  unfold spec_SegFirst.f
  rw [spec_in_eq, Option.bind_some, if_pos (decide_eq_true h), w64 (x := g * 8) (by omega) (by omega), w64 (by omega) (by omega)]
theorem impl_SegText_ev (ss : List ByteArray) (c : List S67) (hs : ss.length ≤ 1048576) (hc : c.length ≤ 1048576) (zs : ∀ s, s ∈ ss → s.size ≤ 1048576) (zc : ∀ w, w ∈ c → w.f1.size ≤ 1048576) (g : Int) :
    Ev (fun k => impl_SegText.f k ss c g) (segTextM ss (c.map W2) g) := by
  unfold impl_SegText.f segTextM
  simp only [impl_in_eq, Option.bind_some]
  by_cases h : 0 ≤ g ∧ g ≤ 10
  · simp only [decide_eq_true h, if_true, if_pos h, impl_SegFirst_in g h, Option.bind_some]
    exact Ev.bind (impl_SectorText_ev ss c hs hc zs zc _ _ (by omega)) (ev_some rfl)
  · simp only [decide_eq_false h, Bool.false_eq_true, if_false, if_neg h]
    exact ev_some rfl
theorem spec_SegText_ev (ss : List ByteArray) (c : List S67) (hs : ss.length ≤ 1048576) (hc : c.length ≤ 1048576) (zs : ∀ s, s ∈ ss → s.size ≤ 1048576) (zc : ∀ w, w ∈ c → w.f1.size ≤ 1048576) (g : Int) :
    Ev (fun k => spec_SegText.f k ss c g) (segTextM ss (c.map W2) g) := by
  unfold spec_SegText.f segTextM
  simp only [spec_in_eq, Option.bind_some]
  by_cases h : 0 ≤ g ∧ g ≤ 10
  · simp only [decide_eq_true h, if_true, if_pos h, spec_SegFirst_in g h, Option.bind_some]
    exact Ev.bind (spec_SectorText_ev ss c hs hc zs zc _ _ (by omega)) (ev_some rfl)
  · simp only [decide_eq_false h, Bool.false_eq_true, if_false, if_neg h]
    exact ev_some rfl

def QWrite (x : S84) : Prop := (Lit.int .i64 x.f0).wf = true ∧ x.f1.size ≤ maxLen
theorem FnExactSegText (l0 : List ByteArray) (l1 : List S84) (g : Int) (h0 : l0.length ≤ maxLen) (q0 : ∀ s, s ∈ l0 → s.size ≤ maxLen) (h1 : l1.length ≤ maxLen) (q1 : ∀ s, s ∈ l1 → QWrite s) (hg : (Lit.int .i64 g).wf = true) : ∃ k, laws_FnExactSegText.f k l0 l1 g = some true := by
  refine Ev.rounds ?_
  unfold laws_FnExactSegText.f
  obtain ⟨m, hm, hb⟩ := szDisk_ev l0 l1 h0 h1 q0 (fun s hs => (q1 s hs).2)
  refine Ev.bind hm ?_
  refine ev_if (fun _ => ev_some rfl) (fun hm0 => ?_)
  obtain ⟨b0, b1, b2, b3⟩ := hb (by omega)
  have ht := toDisk_ev l0 l1 b0 b1
  have hml : (l1.map toW).length ≤ 1048576 := by simpa using b1
  have b4 : ∀ w, w ∈ l1.map toW → w.f1.size ≤ 1048576 := by
    intro w hw
    obtain ⟨w', h1, rfl⟩ := List.mem_map.1 hw
    exact b3 w' h1
  refine Ev.bind ht ?_
  refine Ev.bind (spec_SegText_ev l0 (l1.map toW) b0 hml b2 b4 g) ?_
  refine Ev.bind ht ?_
  refine Ev.bind (impl_SegText_ev l0 (l1.map toW) b0 hml b2 b4 g) ?_
  simp only [if_true]
  refine Ev.bind ht ?_
  refine Ev.bind (eqDisk_same l0 (l1.map toW) (by omega) (by omega)) ?_
  simp only [if_true]
  exact ev_some rfl

end Go.Proofs.Ytdnjjdmlmfoljaa.Pure
