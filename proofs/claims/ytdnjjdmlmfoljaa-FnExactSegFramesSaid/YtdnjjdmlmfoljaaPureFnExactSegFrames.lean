/- The pure statement of FnExactSegFrames, over numbers and lists: it is true of every argument; no condition but the bounds that the statement itself names. -/
import Derived.Test.YtdnjjdmlmfoljaaPFnExactSegFramesx11
import Derived.Test.YtdnjjdmlmfoljaaVFnExactSegFrames1
set_option linter.unusedVariables false
set_option linter.unusedSimpArgs false
namespace Go.Proofs.Ytdnjjdmlmfoljaa.Pure
open Go.RowKit Go.Proofs.Ytdnjjdmlmfoljaa.PFnExactSegFrames Go.Proofs.YtdnjjdmlmfoljaaW.PrintWords Go.Proofs.YtdnjjdmlmfoljaaW.PrintLast Go.Proofs.YtdnjjdmlmfoljaaW.PrintMore Go.Proofs.Ytdnjjdmlmfoljaa.Base

/-! in -/
theorem spec_in_eq (a b c : Int) : spec_l01In.f a b c = some (decide (b ≤ a ∧ a ≤ c)) := by
  unfold spec_l01In.f
  by_cases h : a ≥ b <;> by_cases h2 : a ≤ c <;> simp [h, h2] <;> omega
theorem impl_in_eq (a b c : Int) : impl_in.f a b c = some (decide (b ≤ a ∧ a ≤ c)) := by
  unfold impl_in.f
  by_cases h : a ≥ b <;> by_cases h2 : a ≤ c <;> simp [h, h2] <;> omega

/-! disk -/
def toW (x : S84) : S67 := ⟨x.f0, x.f1⟩
def W2 (x : S67) : Wr := (x.f0, x.f1)
theorem rdOf_nat {α : Type} (d : α) (l : List α) (i : Nat) : rdOf d l (i : Int) = l.getD i d := by unfold rdOf; rw [Int.toNat_natCast]
theorem getD_drop {α : Type} (d : α) (l : List α) (i : Nat) (h : i < l.length) : l.drop i = l.getD i d :: l.drop (i + 1) := by
  rw [List.drop_eq_getElem_cons h, List.getD_eq_getElem?_getD, List.getElem?_eq_getElem h]
  rfl
theorem set_mid {α : Type} (l r : List α) (x v : α) (i : Nat) (h : l.length = i) : (l ++ x :: r).set i v = l ++ v :: r := by
  rw [List.set_append_right _ _ (by omega), h, Nat.sub_self]
  rfl
theorem szStringS_l0 (l : List ByteArray) (hl : l.length ≤ 1048576) (hs : ∀ s, s ∈ l → s.size ≤ maxLen) (d : Nat) : ∀ (i : Nat) (left : Int), l.length - i = d → i ≤ l.length → 0 ≤ left ∧ left ≤ 1048576 →
    ∃ m, Ev (fun k => laws_szStringS.l0 k l left (i : Int)) m ∧ m ≤ left ∧ (0 ≤ m → ∀ s, s ∈ l.drop i → s.size ≤ 1048576) := by
  induction d with
  | zero =>
    intro i left hd hi hleft
    refine ⟨left, ev_succ ?_, by omega, ?_⟩
    · simp only [laws_szStringS.l0, if_neg (show ¬ (i : Int) < (l.length : Int) from by omega)]
      exact ev_some rfl
    · intro _ s hs
      rw [List.drop_eq_nil_of_le (by omega)] at hs
      simp at hs
  | succ d ih =>
    intro i left hd hi hleft
    have hlt : i < l.length := by omega
    have hz : (l.getD i ByteArray.empty).size ≤ 9223372036854775807 := by
      rw [List.getD_eq_getElem?_getD, List.getElem?_eq_getElem hlt]
      exact hs _ (List.getElem_mem hlt)
    have g1 : (i : Int) < (l.length : Int) := by omega
    have g2 : (0 : Int) ≤ (i : Int) := by omega
    have e1 := w64 (x := left - ((l.getD i ByteArray.empty).size : Int)) (by omega) (by omega)
    by_cases h : left - ((l.getD i ByteArray.empty).size : Int) < 0
    · refine ⟨-1, ev_succ ?_, by omega, fun h => by omega⟩
      simp only [laws_szStringS.l0, if_pos g1, if_pos g2, rdOf_nat, e1, if_pos h]
      exact ev_some rfl
    · obtain ⟨m, hm, hle, hall⟩ := ih (i + 1) (left - ((l.getD i ByteArray.empty).size : Int)) (by omega) (by omega) (by omega)
      refine ⟨m, ev_succ ?_, by omega, ?_⟩
      · simp only [laws_szStringS.l0, if_pos g1, if_pos g2, rdOf_nat, e1, if_neg h, wn i hlt (show l.length ≤ 140737488355328 from Nat.le_trans hl (by decide))]
        exact hm
      · intro h0 s hs'
        rw [getD_drop ByteArray.empty l i hlt] at hs'
        rcases List.mem_cons.1 hs' with rfl | hs'
        · omega
        · exact hall h0 s hs'
theorem szWriteS_l0 (l : List S84) (hl : l.length ≤ 1048576) (hs : ∀ s, s ∈ l → s.f1.size ≤ maxLen) (d : Nat) : ∀ (i : Nat) (left : Int), l.length - i = d → i ≤ l.length → 0 ≤ left ∧ left ≤ 1048576 →
    ∃ m, Ev (fun k => laws_szWriteS.l0 k l left (i : Int)) m ∧ m ≤ left ∧ (0 ≤ m → ∀ s, s ∈ l.drop i → s.f1.size ≤ 1048576) := by
  induction d with
  | zero =>
    intro i left hd hi hleft
    refine ⟨left, ev_succ ?_, by omega, ?_⟩
    · simp only [laws_szWriteS.l0, if_neg (show ¬ (i : Int) < (l.length : Int) from by omega)]
      exact ev_some rfl
    · intro _ s hs
      rw [List.drop_eq_nil_of_le (by omega)] at hs
      simp at hs
  | succ d ih =>
    intro i left hd hi hleft
    have hlt : i < l.length := by omega
    have hz : (l.getD i z84).f1.size ≤ 9223372036854775807 := by
      rw [List.getD_eq_getElem?_getD, List.getElem?_eq_getElem hlt]
      exact hs _ (List.getElem_mem hlt)
    have hrd : rd_T84 l (i : Int) = l.getD i z84 := by unfold rd_T84; rw [Int.toNat_natCast]
    have g1 : (i : Int) < (l.length : Int) := by omega
    have g2 : (0 : Int) ≤ (i : Int) := by omega
    have e1 := w64 (x := left - ((l.getD i z84).f1.size : Int)) (by omega) (by omega)
    by_cases h : left - ((l.getD i z84).f1.size : Int) < 0
    · refine ⟨-1, ev_succ ?_, by omega, fun h => by omega⟩
      simp only [laws_szWriteS.l0, laws_szWrite.f, if_pos g1, if_pos g2, hrd, e1, if_pos h, Option.bind_some, if_pos (show (-1 : Int) < 0 from by decide)]
      exact ev_some rfl
    · obtain ⟨m, hm, hle, hall⟩ := ih (i + 1) (left - ((l.getD i z84).f1.size : Int)) (by omega) (by omega) (by omega)
      refine ⟨m, ev_succ ?_, by omega, ?_⟩
      · simp only [laws_szWriteS.l0, laws_szWrite.f, if_pos g1, if_pos g2, hrd, e1, if_neg h, Option.bind_some, wn i hlt (show l.length ≤ 140737488355328 from Nat.le_trans hl (by decide))]
        exact hm
      · intro h0 s hs'
        rw [getD_drop z84 l i hlt] at hs'
        rcases List.mem_cons.1 hs' with rfl | hs'
        · omega
        · exact hall h0 s hs'
theorem szDisk_ev (l0 : List ByteArray) (l1 : List S84) (h0 : l0.length ≤ maxLen) (h1 : l1.length ≤ maxLen) (hs0 : ∀ s, s ∈ l0 → s.size ≤ maxLen) (hs1 : ∀ s, s ∈ l1 → s.f1.size ≤ maxLen) :
    ∃ m, Ev (fun k => laws_szDisk.f k l0 l1 1048576) m ∧ (0 ≤ m → l0.length ≤ 1048576 ∧ l1.length ≤ 1048576 ∧ (∀ s, s ∈ l0 → s.size ≤ 1048576) ∧ (∀ s, s ∈ l1 → s.f1.size ≤ 1048576)) := by
  have h0' : l0.length ≤ 9223372036854775807 := h0
  have h1' : l1.length ≤ 9223372036854775807 := h1
  unfold laws_szDisk.f laws_szStringS.f laws_szWriteS.f
  have e0 := w64 (x := 1048576 - (l0.length : Int)) (by omega) (by omega)
  simp only [e0]
  clear e0
  by_cases c0 : 1048576 - (l0.length : Int) < 0
  · refine ⟨-1, ?_, by omega⟩
    simp only [if_pos c0, Option.bind_some, if_pos (show (-1 : Int) < 0 from by decide)]
    exact ev_some rfl
  obtain ⟨m0, e0, hle0, hall0⟩ := szStringS_l0 l0 (by omega) hs0 _ 0 (1048576 - (l0.length : Int)) rfl (by omega) (by omega)
  by_cases c1 : m0 < 0
  · refine ⟨-1, ?_, by omega⟩
    simp only [if_neg c0]
    refine Ev.bind e0 ?_
    simp only [if_pos c1]
    exact ev_some rfl
  have e1 := w64 (x := m0 - (l1.length : Int)) (by omega) (by omega)
  by_cases c2 : m0 - (l1.length : Int) < 0
  · refine ⟨-1, ?_, by omega⟩
    simp only [if_neg c0]
    refine Ev.bind e0 ?_
    simp only [if_neg c1, e1, if_pos c2, Option.bind_some, if_pos (show (-1 : Int) < 0 from by decide)]
    exact ev_some rfl
  obtain ⟨m1, e2, hle1, hall1⟩ := szWriteS_l0 l1 (by omega) hs1 _ 0 (m0 - (l1.length : Int)) rfl (by omega) (by omega)
  by_cases c3 : m1 < 0
  · refine ⟨-1, ?_, by omega⟩
    simp only [if_neg c0]
    refine Ev.bind e0 ?_
    simp only [if_neg c1, e1, if_neg c2]
    refine Ev.bind e2 ?_
    simp only [if_pos c3]
    exact ev_some rfl
  · refine ⟨m1, ?_, fun _ => ⟨by omega, by omega, by simpa using hall0 (by omega), by simpa using hall1 (by omega)⟩⟩
    simp only [if_neg c0]
    refine Ev.bind e0 ?_
    simp only [if_neg c1, e1, if_neg c2]
    refine Ev.bind e2 ?_
    simp only [if_neg c3]
    exact ev_some rfl
theorem toStringS_l0 (l : List ByteArray) (hl : l.length ≤ 1048576) (d : Nat) : ∀ (i : Nat) (rest : List ByteArray), rest.length = d → i + d = l.length →
    Ev (fun k => laws_toStringS.l0 k l (l.take i ++ rest) (i : Int)) l := by
  induction d with
  | zero =>
    intro i rest hr hi
    obtain rfl : rest = [] := List.eq_nil_of_length_eq_zero hr
    refine ev_succ ?_
    simp only [laws_toStringS.l0, if_neg (show ¬ (i : Int) < (l.length : Int) from by omega), List.append_nil]
    exact ev_some (List.take_of_length_le (by omega))
  | succ d ih =>
    intro i rest hr hi
    obtain ⟨x, rest, rfl⟩ : ∃ x t, rest = x :: t := by cases rest with | nil => simp at hr | cons x t => exact ⟨x, t, rfl⟩
    have hlt : i < l.length := by omega
    have hlen : (l.take i ++ x :: rest).length = l.length := by simp at hr ⊢; omega
    have hr' : rest.length = d := by simpa using hr
    have htk : (l.take i).length = i := by simp; omega
    refine ev_succ ?_
    have g1 : (i : Int) < (l.length : Int) := by omega
    have g2 : (0 : Int) ≤ (i : Int) := by omega
    simp only [laws_toStringS.l0, hlen, if_pos g1, if_pos g2, rdOf_nat, Int.toNat_natCast, set_mid _ _ _ _ i htk, wn i hlt (show l.length ≤ 140737488355328 from Nat.le_trans hl (by decide))]
    have := ih (i + 1) rest hr' (by omega)
    rw [List.take_succ_eq_append_getElem hlt, List.append_assoc, List.cons_append, List.nil_append] at this
    have e : l.getD i ByteArray.empty = l[i] := by rw [List.getD_eq_getElem?_getD, List.getElem?_eq_getElem hlt]; rfl
    rw [e]
    exact this
theorem toWriteS_l0 (l : List S84) (hl : l.length ≤ 1048576) (d : Nat) : ∀ (i : Nat) (rest : List S67), rest.length = d → i + d = l.length →
    Ev (fun k => laws_toWriteS.l0 k l ((l.map toW).take i ++ rest) (i : Int)) (l.map toW) := by
  induction d with
  | zero =>
    intro i rest hr hi
    obtain rfl : rest = [] := List.eq_nil_of_length_eq_zero hr
    refine ev_succ ?_
    simp only [laws_toWriteS.l0, if_neg (show ¬ (i : Int) < (l.length : Int) from by omega), List.append_nil]
    exact ev_some (List.take_of_length_le (by simp; omega))
  | succ d ih =>
    intro i rest hr hi
    obtain ⟨x, rest, rfl⟩ : ∃ x t, rest = x :: t := by cases rest with | nil => simp at hr | cons x t => exact ⟨x, t, rfl⟩
    have hlt : i < l.length := by omega
    have hlt2 : i < (l.map toW).length := by simpa using hlt
    have hlen : ((l.map toW).take i ++ x :: rest).length = l.length := by simp at hr ⊢; omega
    have hr' : rest.length = d := by simpa using hr
    have htk : ((l.map toW).take i).length = i := by simp; omega
    have hrd : rd_T84 l (i : Int) = l.getD i z84 := by unfold rd_T84; rw [Int.toNat_natCast]
    refine ev_succ ?_
    have g1 : (i : Int) < (l.length : Int) := by omega
    have g2 : (0 : Int) ≤ (i : Int) := by omega
    simp only [laws_toWriteS.l0, laws_toWrite.f, Option.bind_some, hlen, hrd, if_pos g1, if_pos g2, Int.toNat_natCast, set_mid _ _ _ _ i htk, wn i hlt (show l.length ≤ 140737488355328 from Nat.le_trans hl (by decide))]
    have := ih (i + 1) rest hr' (by omega)
    rw [List.take_succ_eq_append_getElem hlt2, List.append_assoc, List.cons_append, List.nil_append, List.getElem_map] at this
    have e : l.getD i z84 = l[i] := by rw [List.getD_eq_getElem?_getD, List.getElem?_eq_getElem hlt]; rfl
    rw [e]
    exact this
theorem toDisk_ev (l0 : List ByteArray) (l1 : List S84) (h0 : l0.length ≤ 1048576) (h1 : l1.length ≤ 1048576) : Ev (fun k => laws_toDisk.f k l0 l1) (l0, l1.map toW) := by
  unfold laws_toDisk.f laws_toStringS.f laws_toWriteS.f
  simp only [if_pos (show (0 : Int) ≤ (l0.length : Int) from by omega), if_pos (show (0 : Int) ≤ (l1.length : Int) from by omega), Int.toNat_natCast, if_pos (show l0.length ≤ 17592186044416 from by omega), if_pos (show l1.length ≤ 11728124029610 from by omega)]
  refine Ev.bind (a := l0) (by simpa using toStringS_l0 l0 h0 l0.length 0 (List.replicate l0.length (⟨#[]⟩ : ByteArray)) (by simp) (by omega)) ?_
  refine Ev.bind (a := l1.map toW) (by simpa using toWriteS_l0 l1 h1 l1.length 0 (List.replicate l1.length z67) (by simp) (by omega)) ?_
  exact ev_some rfl
theorem eqStringS_l0 (l : List ByteArray) (hl : l.length ≤ 140737488355328) (d : Nat) : ∀ i : Nat, l.length - i = d → i ≤ l.length → Ev (fun k => laws_eqStringS.l0 k l l (i : Int)) true := by
  induction d with
  | zero =>
    intro i hd hi
    refine ev_succ ?_
    simp only [laws_eqStringS.l0, if_neg (show ¬ (i : Int) < (l.length : Int) from by omega)]
    exact ev_some rfl
  | succ d ih =>
    intro i hd hi
    refine ev_succ ?_
    simp only [laws_eqStringS.l0, if_pos (show (i : Int) < (l.length : Int) from by omega), if_pos (show (0 : Int) ≤ (i : Int) from by omega), if_true, wn i (show i < l.length from by omega) (by omega)]
    exact ih (i + 1) (by omega) (by omega)
theorem eqStringS_same (l : List ByteArray) (hl : l.length ≤ 140737488355328) : Ev (fun k => laws_eqStringS.f k l l) true := by
  unfold laws_eqStringS.f
  simp only [if_true]
  exact eqStringS_l0 l hl _ 0 rfl (by omega)
theorem eqWrite_same (a : Int) (b : ByteArray) : laws_eqWrite.f a b a b = some true := by
  unfold laws_eqWrite.f
  simp
theorem eqWriteS_l0 (l : List S67) (hl : l.length ≤ 140737488355328) (d : Nat) : ∀ i : Nat, l.length - i = d → i ≤ l.length → Ev (fun k => laws_eqWriteS.l0 k l l (i : Int)) true := by
  induction d with
  | zero =>
    intro i hd hi
    refine ev_succ ?_
    simp only [laws_eqWriteS.l0, if_neg (show ¬ (i : Int) < (l.length : Int) from by omega)]
    exact ev_some rfl
  | succ d ih =>
    intro i hd hi
    refine ev_succ ?_
    simp only [laws_eqWriteS.l0, if_pos (show (i : Int) < (l.length : Int) from by omega), if_pos (show (0 : Int) ≤ (i : Int) from by omega), eqWrite_same, Option.bind_some, if_true, wn i (show i < l.length from by omega) (by omega)]
    exact ih (i + 1) (by omega) (by omega)
theorem eqWriteS_same (l : List S67) (hl : l.length ≤ 140737488355328) : Ev (fun k => laws_eqWriteS.f k l l) true := by
  unfold laws_eqWriteS.f
  simp only [if_true]
  exact eqWriteS_l0 l hl _ 0 rfl (by omega)
theorem eqDisk_same (l0 : List ByteArray) (l1 : List S67) (h0 : l0.length ≤ 140737488355328) (h1 : l1.length ≤ 140737488355328) : Ev (fun k => laws_eqDisk.f k l0 l1 l0 l1) true := by
  unfold laws_eqDisk.f
  refine Ev.bind (eqStringS_same l0 h0) ?_
  simp only [if_true]
  refine Ev.bind (eqWriteS_same l1 h1) ?_
  simp only [if_true]
  exact ev_some rfl

/-! readsector -/
theorem impl_ReadSector_l0 (c : List S67) (hc : c.length ≤ 1048576) (a : Int) (d : Nat) : ∀ (i : Nat) (acc : ByteArray), c.length - i = d → i ≤ c.length →
    Ev (fun k => impl_ReadSector.l0 k a acc c (c.length : Int) (i : Int)) (wrLast a ((c.drop i).map W2) acc, true) := by
  induction d with
  | zero =>
    intro i acc hd hi
    refine ev_succ ?_
    simp only [impl_ReadSector.l0, if_neg (show ¬ (i : Int) < (c.length : Int) from by omega)]
    rw [List.drop_eq_nil_of_le (by omega)]
    exact ev_some rfl
  | succ d ih =>
    intro i acc hd hi
    have hlt : i < c.length := by omega
    have hrd : rd_T67 c (i : Int) = c.getD i z67 := by unfold rd_T67; rw [Int.toNat_natCast]
    refine ev_succ ?_
    simp only [impl_ReadSector.l0, if_pos (show (i : Int) < (c.length : Int) from by omega), if_pos (show (0 : Int) ≤ (i : Int) from by omega), hrd, wn i hlt (show c.length ≤ 140737488355328 from Nat.le_trans hc (by decide))]
    rw [getD_drop z67 c i hlt, List.map_cons, wrLast_cons]
    refine ev_if (fun h => ?_) (fun h => ?_)
    · rw [if_pos (show (W2 (c.getD i z67)).1 = a from h)]
      exact ih (i + 1) _ (by omega) (by omega)
    · rw [if_neg (show ¬ (W2 (c.getD i z67)).1 = a from h)]
      exact ih (i + 1) _ (by omega) (by omega)
theorem impl_ReadSector_ev (ss : List ByteArray) (c : List S67) (hs : ss.length ≤ 1048576) (hc : c.length ≤ 1048576) (a : Int) : Ev (fun k => impl_ReadSector.f k ss c a) (readSectorM ss (c.map W2) a) := by
  unfold impl_ReadSector.f readSectorM
  rw [w64 (x := (ss.length : Int) - 1) (by omega) (by omega)]
  simp only [impl_in_eq, Option.bind_some]
  by_cases h : 0 ≤ a ∧ a ≤ (ss.length : Int) - 1
  · simp only [decide_eq_true h, if_true, if_pos h, if_pos h.1, if_pos (show a < (ss.length : Int) from by omega)]
    have := impl_ReadSector_l0 c hc a _ 0 (rdOf ByteArray.empty ss a) rfl (by omega)
    simpa [rdOf] using this
  · simp only [decide_eq_false h, Bool.false_eq_true, if_false, if_neg h]
    exact ev_some rfl
theorem spec_ReadSector_l0 (ss : List ByteArray) (c : List S67) (hc : c.length ≤ 1048576) (a : Int) (h0 : 0 ≤ a) (h1 : a < (ss.length : Int)) (n : Nat) : n ≤ c.length →
    Ev (fun k => spec_ReadSector.l0 k a ((n : Int) - 1) ss c) (wrLast a ((c.take n).map W2) (ss.getD a.toNat ByteArray.empty), true) := by
  induction n with
  | zero =>
    intro hn
    refine ev_succ ?_
    simp only [spec_ReadSector.l0, if_neg (show ¬ ((0 : Nat) : Int) - 1 ≥ 0 from by omega), if_pos h0, if_pos h1]
    exact ev_some (by simp [wrLast, rdOf])
  | succ n ih =>
    intro hn
    have hlt : n < c.length := by omega
    have e0 : ((n + 1 : Nat) : Int) - 1 = (n : Int) := by omega
    have hrd : rd_T67 c (n : Int) = c.getD n z67 := by unfold rd_T67; rw [Int.toNat_natCast]
    have e1 := w64 (x := (n : Int) - 1) (by omega) (by omega)
    refine ev_succ ?_
    simp only [spec_ReadSector.l0, e0, if_pos (show (n : Int) ≥ 0 from by omega), if_pos (show (0 : Int) ≤ (n : Int) from by omega), if_pos (show (n : Int) < (c.length : Int) from by omega), hrd, e1]
    rw [List.take_succ_eq_append_getElem hlt, List.map_append, List.map_cons, List.map_nil, wrLast_snoc]
    have e2 : c.getD n z67 = c[n] := by rw [List.getD_eq_getElem?_getD, List.getElem?_eq_getElem hlt]; rfl
    rw [e2]
    refine ev_if (fun h => ?_) (fun h => ?_)
    · rw [if_pos (show (W2 c[n]).1 = a from h)]
      exact ev_some rfl
    · rw [if_neg (show ¬ (W2 c[n]).1 = a from h)]
      exact ih (by omega)
theorem spec_ReadSector_ev (ss : List ByteArray) (c : List S67) (hs : ss.length ≤ 1048576) (hc : c.length ≤ 1048576) (a : Int) : Ev (fun k => spec_ReadSector.f k ss c a) (readSectorM ss (c.map W2) a) := by
  unfold spec_ReadSector.f readSectorM
  rw [w64 (x := (ss.length : Int) - 1) (by omega) (by omega), w64 (x := (c.length : Int) - 1) (by omega) (by omega)]
  simp only [spec_in_eq, Option.bind_some]
  by_cases h : 0 ≤ a ∧ a ≤ (ss.length : Int) - 1
  · simp only [decide_eq_true h, if_true, if_pos h]
    simpa using spec_ReadSector_l0 ss c hc a h.1 (by omega) c.length (Nat.le_refl _)
  · simp only [decide_eq_false h, Bool.false_eq_true, if_false, if_neg h]
    exact ev_some rfl

/-! sectortext -/
theorem impl_SectorText_l0 (ss : List ByteArray) (c : List S67) (hs : ss.length ≤ 1048576) (hc : c.length ≤ 1048576) (zs : ∀ s, s ∈ ss → s.size ≤ 1048576) (zc : ∀ w, w ∈ c → w.f1.size ≤ 1048576) (a : Int) (ha : -9223372036854775808 ≤ a ∧ a ≤ 9223372036854775807) (n : Nat) (hn : n ≤ 100) (f : Nat) :
    ∀ (i : Nat) (acc : ByteArray), i + f = n → acc.size ≤ i * 1048576 → (i = 0 ∨ (0 ≤ a ∧ a + i ≤ (ss.length : Int))) →
    Ev (fun k => impl_SectorText.l0 k a acc (n : Int) (i : Int) ss c) (stGo ss (c.map W2) a f i acc) := by
  induction f with
  | zero =>
    intro i acc hi hz hr
    refine ev_succ ?_
    simp only [impl_SectorText.l0, if_neg (show ¬ (i : Int) < (n : Int) from by omega)]
    exact ev_some rfl
  | succ f ih =>
    intro i acc hi hz hr
    have e1 : wrap64 (a + (i : Int)) = a + (i : Int) := by
      rcases hr with rfl | hr
      · exact w64 (by omega) (by omega)
      · exact w64 (by omega) (by omega)
    have g1 : (i : Int) < (n : Int) := by omega
    have hsz := readSectorM_size ss (c.map W2) (a + (i : Int)) 1048576 zs (by intro w hw; obtain ⟨w', h1, rfl⟩ := List.mem_map.1 hw; exact zc w' h1)
    have hin : (readSectorM ss (c.map W2) (a + (i : Int))).2 = true → 0 ≤ a + (i : Int) ∧ a + (i : Int) < (ss.length : Int) := by
      unfold readSectorM
      by_cases h : 0 ≤ a + (i : Int) ∧ a + (i : Int) ≤ (ss.length : Int) - 1
      · intro _; omega
      · rw [if_neg h]; intro h2; simp at h2
    have hi1 : i < n := by omega
    have e2 : wrap64 ((i : Int) + 1) = ((i + 1 : Nat) : Int) := wn i hi1 (Nat.le_trans hn (by decide))
    refine ev_succ ?_
    simp only [impl_SectorText.l0, if_pos g1, e1, e2]
    clear e1 e2
    refine Ev.bind (impl_ReadSector_ev ss c hs hc _) ?_
    unfold stGo
    refine ev_if (fun h => ?_) (fun h => ?_)
    · rw [if_pos h]
      have h3 := hin h
      have hz2 : acc.size + (readSectorM ss (c.map W2) (a + (i : Int))).1.size ≤ (i + 1) * 1048576 := by rw [Nat.add_mul]; omega
      refine ev_if (fun _ => ?_) (fun hh => absurd (by have : (i + 1) * 1048576 ≤ 101 * 1048576 := Nat.mul_le_mul_right _ (by omega); omega) hh)
      refine ih (i + 1) _ (by omega) (by rw [size_append]; exact hz2) (.inr ?_)
      rcases hr with rfl | hr
      · exact ⟨by omega, by omega⟩
      · exact ⟨by omega, by omega⟩
    · rw [if_neg h]
      exact ev_some rfl
theorem impl_SectorText_ev (ss : List ByteArray) (c : List S67) (hs : ss.length ≤ 1048576) (hc : c.length ≤ 1048576) (zs : ∀ s, s ∈ ss → s.size ≤ 1048576) (zc : ∀ w, w ∈ c → w.f1.size ≤ 1048576) (a n : Int) (ha : -9223372036854775808 ≤ a ∧ a ≤ 9223372036854775807) :
    Ev (fun k => impl_SectorText.f k ss c a n) (sectorTextM ss (c.map W2) a n) := by
  unfold impl_SectorText.f sectorTextM
  simp only [impl_in_eq, Option.bind_some]
  by_cases h : 0 ≤ n ∧ n ≤ 100
  · obtain ⟨m, rfl⟩ := Int.eq_ofNat_of_zero_le h.1
    simp only [decide_eq_true h, if_true, if_pos h, Int.toNat_natCast]
    exact impl_SectorText_l0 ss c hs hc zs zc a ha m (by omega) m 0 _ (by omega) (by decide) (.inl rfl)
  · simp only [decide_eq_false h, Bool.false_eq_true, if_false, if_neg h]
    exact ev_some rfl
theorem spec_SectorText_l0 (ss : List ByteArray) (c : List S67) (hs : ss.length ≤ 1048576) (hc : c.length ≤ 1048576) (zs : ∀ s, s ∈ ss → s.size ≤ 1048576) (zc : ∀ w, w ∈ c → w.f1.size ≤ 1048576) (a : Int) (ha : -9223372036854775808 ≤ a ∧ a ≤ 9223372036854775807) (n : Nat) (hn : n ≤ 100) (f : Nat) :
    ∀ (i : Nat) (acc : ByteArray), i + f = n → acc.size ≤ i * 1048576 → (i = 0 ∨ (0 ≤ a ∧ a + i ≤ (ss.length : Int))) →
    Ev (fun k => spec_SectorText.l0 k a (n : Int) acc (i : Int) ss c) (stGo ss (c.map W2) a f i acc) := by
  induction f with
  | zero =>
    intro i acc hi hz hr
    refine ev_succ ?_
    simp only [spec_SectorText.l0, if_neg (show ¬ (i : Int) < (n : Int) from by omega)]
    exact ev_some rfl
  | succ f ih =>
    intro i acc hi hz hr
    have g1 : (i : Int) < (n : Int) := by omega
    have hsz := readSectorM_size ss (c.map W2) (a + (i : Int)) 1048576 zs (by intro w hw; obtain ⟨w', h1, rfl⟩ := List.mem_map.1 hw; exact zc w' h1)
    have hin : (readSectorM ss (c.map W2) (a + (i : Int))).2 = true ↔ 0 ≤ a + (i : Int) ∧ a + (i : Int) ≤ (ss.length : Int) - 1 := by
      unfold readSectorM
      by_cases h : 0 ≤ a + (i : Int) ∧ a + (i : Int) ≤ (ss.length : Int) - 1
      · rw [if_pos h]; simp; omega
      · rw [if_neg h]; simp; omega
    have hi1 : i < n := by omega
    unfold stGo
    refine ev_succ ?_
    simp only [spec_SectorText.l0, if_pos g1]
    by_cases hbad : a < 0 ∨ a > (ss.length : Int)
    · rw [if_neg (fun h => by have := hin.1 h; omega)]
      refine ev_if (fun h => ?_) (fun h => ?_)
      · refine ev_succ ?_
        simp only [spec_SectorText.j1, if_true]
        exact ev_some rfl
      · refine ev_succ ?_
        simp only [spec_SectorText.j1, decide_eq_true (show a > (ss.length : Int) from by omega), if_true]
        exact ev_some rfl
    have e1 : wrap64 (a + (i : Int)) = a + (i : Int) := w64 (by omega) (by omega)
    have g2 : ¬ a < 0 := by omega
    have g3 : ¬ a > (ss.length : Int) := by omega
    have e2 : wrap64 ((i : Int) + 1) = ((i + 1 : Nat) : Int) := wn i hi1 (Nat.le_trans hn (by decide))
    simp only [if_neg g2, decide_eq_false g3]
    refine ev_succ ?_
    simp only [spec_SectorText.j1, Bool.false_eq_true, if_false, e1, e2]
    clear e1 e2
    refine Ev.bind (spec_ReadSector_ev ss c hs hc _) ?_
    refine ev_if (fun h => ?_) (fun h => ?_)
    · rw [if_pos h]
      have h3 := hin.1 h
      have hz2 : acc.size + (readSectorM ss (c.map W2) (a + (i : Int))).1.size ≤ (i + 1) * 1048576 := by rw [Nat.add_mul]; omega
      refine ev_if (fun _ => ?_) (fun hh => absurd (by have : (i + 1) * 1048576 ≤ 101 * 1048576 := Nat.mul_le_mul_right _ (by omega); omega) hh)
      exact ih (i + 1) _ (by omega) (by rw [size_append]; exact hz2) (.inr ⟨by omega, by omega⟩)
    · rw [if_neg h]
      exact ev_some rfl
theorem spec_SectorText_ev (ss : List ByteArray) (c : List S67) (hs : ss.length ≤ 1048576) (hc : c.length ≤ 1048576) (zs : ∀ s, s ∈ ss → s.size ≤ 1048576) (zc : ∀ w, w ∈ c → w.f1.size ≤ 1048576) (a n : Int) (ha : -9223372036854775808 ≤ a ∧ a ≤ 9223372036854775807) :
    Ev (fun k => spec_SectorText.f k ss c a n) (sectorTextM ss (c.map W2) a n) := by
  unfold spec_SectorText.f sectorTextM
  simp only [spec_in_eq, Option.bind_some]
  by_cases h : 0 ≤ n ∧ n ≤ 100
  · obtain ⟨m, rfl⟩ := Int.eq_ofNat_of_zero_le h.1
    simp only [decide_eq_true h, if_true, if_pos h, Int.toNat_natCast]
    exact spec_SectorText_l0 ss c hs hc zs zc a ha m (by omega) m 0 _ (by omega) (by decide) (.inl rfl)
  · simp only [decide_eq_false h, Bool.false_eq_true, if_false, if_neg h]
    exact ev_some rfl
theorem impl_SegFirst_in (g : Int) (h : 0 ≤ g ∧ g ≤ 10) : impl_SegFirst.f g = some (8 + g * 8) := by
  unfold impl_SegFirst.f
  rw [impl_in_eq, Option.bind_some, if_pos (decide_eq_true h), w64 (x := g * 8) (by omega) (by omega), w64 (by omega) (by omega)]
theorem spec_SegFirst_in (g : Int) (h : 0 ≤ g ∧ g ≤ 10) : spec_SegFirst.f g = some (8 + g * 8) := by
  unfold spec_SegFirst.f
  rw [spec_in_eq, Option.bind_some, if_pos (decide_eq_true h), w64 (x := g * 8) (by omega) (by omega), w64 (by omega) (by omega)]
theorem impl_SegText_ev (ss : List ByteArray) (c : List S67) (hs : ss.length ≤ 1048576) (hc : c.length ≤ 1048576) (zs : ∀ s, s ∈ ss → s.size ≤ 1048576) (zc : ∀ w, w ∈ c → w.f1.size ≤ 1048576) (g : Int) :
    Ev (fun k => impl_SegText.f k ss c g) (segTextM ss (c.map W2) g) := by
  unfold impl_SegText.f segTextM
  simp only [impl_in_eq, Option.bind_some]
  by_cases h : 0 ≤ g ∧ g ≤ 10
  · simp only [decide_eq_true h, if_true, if_pos h, impl_SegFirst_in g h, Option.bind_some]
    exact Ev.bind (impl_SectorText_ev ss c hs hc zs zc _ _ (by omega)) (ev_some rfl)
  · simp only [decide_eq_false h, Bool.false_eq_true, if_false, if_neg h]
    exact ev_some rfl
theorem spec_SegText_ev (ss : List ByteArray) (c : List S67) (hs : ss.length ≤ 1048576) (hc : c.length ≤ 1048576) (zs : ∀ s, s ∈ ss → s.size ≤ 1048576) (zc : ∀ w, w ∈ c → w.f1.size ≤ 1048576) (g : Int) :
    Ev (fun k => spec_SegText.f k ss c g) (segTextM ss (c.map W2) g) := by
  unfold spec_SegText.f segTextM
  simp only [spec_in_eq, Option.bind_some]
  by_cases h : 0 ≤ g ∧ g ≤ 10
  · simp only [decide_eq_true h, if_true, if_pos h, spec_SegFirst_in g h, Option.bind_some]
    exact Ev.bind (spec_SectorText_ev ss c hs hc zs zc _ _ (by omega)) (ev_some rfl)
  · simp only [decide_eq_false h, Bool.false_eq_true, if_false, if_neg h]
    exact ev_some rfl

/-! var -/
theorem spec_l01Var_l0 (n : Nat) : ∀ (acc : List Int), n < 9223372036854775808 → acc.length + (varL n).length < 140737488355328 →
    Ev (fun k => spec_l01Var.l0 k (n : Int) acc) (strOfNums (acc ++ varL n)) := by
  induction n using Nat.strongRecOn with
  | _ n ih =>
    intro acc hn hl
    refine ev_succ ?_
    by_cases h : 127 < n
    · rw [varL_big h] at hl ⊢
      rw [List.length_cons] at hl
      simp only [spec_l01Var.l0, if_pos (show (n : Int) > 127 from by omega), if_pos (show acc.length < 140737488355328 from by omega)]
      have e1 : wrap64 (Int.tdiv (n : Int) 128) = ((n / 128 : Nat) : Int) := by
        rw [Int.tdiv_eq_ediv_of_nonneg (by omega), w64 (by omega) (by omega)]; omega
      have e2 : wrap64 (Int.tmod (n : Int) 128 + 128) % 256 = ((n % 128 + 128 : Nat) : Int) := by
        rw [Int.tmod_eq_emod_of_nonneg (by omega), w64 (by omega) (by omega)]; omega
      simp only [e1, e2]
      have := ih (n / 128) (by omega) (acc ++ [((n % 128 + 128 : Nat) : Int)]) (by omega) (by simp; omega)
      simpa using this
    · rw [varL_small (by omega)] at hl ⊢
      have hl' : acc.length + 1 < 140737488355328 := by simpa using hl
      simp only [spec_l01Var.l0, if_neg (show ¬ (n : Int) > 127 from by omega), if_pos (show acc.length < 140737488355328 from by omega)]
      rw [show (n : Int) % 256 = (n : Int) from by omega]
      exact ev_some rfl
theorem impl_varText_l0 (n : Nat) : ∀ (acc : List Int), n < 9223372036854775808 → acc.length + (varL n).length < 140737488355328 →
    Ev (fun k => impl_varText.l0 k (n : Int) acc) (strOfNums (acc ++ varL n)) := by
  induction n using Nat.strongRecOn with
  | _ n ih =>
    intro acc hn hl
    refine ev_succ ?_
    by_cases h : 127 < n
    · rw [varL_big h] at hl ⊢
      rw [List.length_cons] at hl
      simp only [impl_varText.l0, if_pos (show (n : Int) > 127 from by omega), if_pos (show acc.length < 140737488355328 from by omega)]
      have e1 : (n : Int) / 128 = ((n / 128 : Nat) : Int) := by omega
      have e2 : (Go.bits .or .i64 (Go.bits .and .i64 (n : Int) 127) 128) % 256 = ((n % 128 + 128 : Nat) : Int) := by
        rw [b_and127 _ (by omega) (by omega), b_or128 _ (by omega) (by omega)]; omega
      simp only [e1, e2]
      have := ih (n / 128) (by omega) (acc ++ [((n % 128 + 128 : Nat) : Int)]) (by omega) (by simp; omega)
      simpa using this
    · rw [varL_small (by omega)] at hl ⊢
      have hl' : acc.length + 1 < 140737488355328 := by simpa using hl
      simp only [impl_varText.l0, if_neg (show ¬ (n : Int) > 127 from by omega), if_pos (show acc.length < 140737488355328 from by omega)]
      rw [show (n : Int) % 256 = (n : Int) from by omega]
      exact ev_some rfl
theorem spec_l01Var_ev (n : Nat) (h : n < 70368744177664) : Ev (fun k => spec_l01Var.f k (n : Int)) (varS n) := by
  have := varL_length n
  simpa [spec_l01Var.f, varS] using spec_l01Var_l0 n [] (by omega) (by simp; omega)
theorem impl_varText_ev (n : Nat) (h : n < 70368744177664) : Ev (fun k => impl_varText.f k (n : Int)) (varS n) := by
  have := varL_length n
  simpa [impl_varText.f, varS] using impl_varText_l0 n [] (by omega) (by simp; omega)
theorem spec_l01Var_ev' (a : Int) (h0 : 0 ≤ a) (h : a < 70368744177664) : Ev (fun k => spec_l01Var.f k a) (varS a.toNat) := by
  obtain ⟨n, rfl⟩ := Int.eq_ofNat_of_zero_le h0
  exact spec_l01Var_ev n (by omega)
theorem impl_varText_ev' (a : Int) (h0 : 0 ≤ a) (h : a < 70368744177664) : Ev (fun k => impl_varText.f k a) (varS a.toNat) := by
  obtain ⟨n, rfl⟩ := Int.eq_ofNat_of_zero_le h0
  exact impl_varText_ev n (by omega)

/-! readvar -/
theorem or_comm_i64 (x y : Int) : Go.bits .or .i64 x y = Go.bits .or .i64 y x := by
  unfold bits
  simp only [BitVec.or_comm]
theorem shl7 (k : Nat) (hk : k < 5) (v : Int) (hv : 0 ≤ v ∧ v < 128) : shl .i64 v (wrap64 (7 * (k : Int))) = v * 128 ^ k := by
  rw [w64 (by omega) (by omega)]
  unfold shl
  have e : min (7 * (k : Int)).toNat IntKind.i64.bits = 7 * k := by
    have : IntKind.i64.bits = 64 := rfl
    omega
  rw [e, IntKind.wrap_i64]
  have h : k = 0 ∨ k = 1 ∨ k = 2 ∨ k = 3 ∨ k = 4 := by omega
  rcases h with rfl | rfl | rfl | rfl | rfl <;> omega
theorem or7 (k : Nat) (hk : k < 5) (n v : Int) (hn : 0 ≤ n ∧ n < 128 ^ k) (hv : 0 ≤ v ∧ v < 128) : Go.bits .or .i64 n (v * 128 ^ k) = n + v * 128 ^ k := by
  rw [or_comm_i64]
  have h : k = 0 ∨ k = 1 ∨ k = 2 ∨ k = 3 ∨ k = 4 := by omega
  rcases h with rfl | rfl | rfl | rfl | rfl
  · rw [bits_join .i64 63 (by decide) b_wraps_i64 0 (v * 128 ^ 0) n (by omega) (by omega) (by omega) hn.1 (by omega) (by omega)]; omega
  · rw [bits_join .i64 63 (by decide) b_wraps_i64 7 (v * 128 ^ 1) n (by omega) (by omega) (by omega) hn.1 (by omega) (by omega)]; omega
  · rw [bits_join .i64 63 (by decide) b_wraps_i64 14 (v * 128 ^ 2) n (by omega) (by omega) (by omega) hn.1 (by omega) (by omega)]; omega
  · rw [bits_join .i64 63 (by decide) b_wraps_i64 21 (v * 128 ^ 3) n (by omega) (by omega) (by omega) hn.1 (by omega) (by omega)]; omega
  · rw [bits_join .i64 63 (by decide) b_wraps_i64 28 (v * 128 ^ 4) n (by omega) (by omega) (by omega) hn.1 (by omega) (by omega)]; omega
theorem pow5 (k : Nat) (hk : k < 5) (n v : Int) (hn : 0 ≤ n ∧ n < 128 ^ k) (hv : 0 ≤ v ∧ v < 128) : 0 ≤ n + v * 128 ^ k ∧ n + v * 128 ^ k < 128 ^ (k + 1) ∧ 0 ≤ v * 128 ^ k ∧ v * 128 ^ k < 34359738368 ∧ n + v * 128 ^ k < 34359738368 ∧ (128 : Int) ^ k ≤ 268435456 ∧ 0 < (128 : Int) ^ k := by
  have h : k = 0 ∨ k = 1 ∨ k = 2 ∨ k = 3 ∨ k = 4 := by omega
  rcases h with rfl | rfl | rfl | rfl | rfl <;> omega
theorem impl_ReadVar_l0 (x : ByteArray) (hx : x.size ≤ 140737488351232) (a : Nat) (ha : a ≤ x.size) (f : Nat) : ∀ (k : Nat) (n : Int), k + f = 5 → 0 ≤ n ∧ n < 128 ^ k →
    Ev (fun r => impl_ReadVar.l0 r x (a : Int) n (k : Int)) (rvGo x a f k n) := by
  induction f with
  | zero =>
    intro k n hk hn
    refine ev_succ ?_
    simp only [impl_ReadVar.l0, if_neg (show ¬ (k : Int) < 5 from by omega)]
    refine ev_succ ?_
    simp only [impl_ReadVar.j1, Bool.false_eq_true, if_false]
    exact ev_some rfl
  | succ f ih =>
    intro k n hk hn
    refine ev_succ ?_
    have hk1' : k + 1 + f = 5 := by omega
    have e1 : wrap64 ((a : Int) + (k : Int)) = ((a + k : Nat) : Int) := by rw [w64 (by omega) (by omega)]; omega
    simp only [impl_ReadVar.l0, if_pos (show (k : Int) < 5 from by omega), e1]
    refine ev_succ ?_
    unfold rvGo
    by_cases h1 : a + k < x.size
    · have hb := bt_lt x ((a + k : Nat) : Int)
      have hv : 0 ≤ bt x ((a + k : Nat) : Int) % 128 ∧ bt x ((a + k : Nat) : Int) % 128 < 128 := by omega
      have g1 : ((a + k : Nat) : Int) < (x.size : Int) := by omega
      have g2 : (0 : Int) ≤ ((a + k : Nat) : Int) := by omega
      have g3 : (0 : Int) ≤ 7 * (k : Int) := by omega
      have g4 : bt x ((a + k : Nat) : Int) < 9223372036854775808 := by omega
      have g5 : k < 5 := by omega
      have g6 : x.size ≤ 140737488355328 := by omega
      have g7 : -9223372036854775808 ≤ bt x ((a + k : Nat) : Int) ∧ bt x ((a + k : Nat) : Int) ≤ 9223372036854775807 := by omega
      have g8 : -9223372036854775808 ≤ 7 * (k : Int) ∧ 7 * (k : Int) ≤ 9223372036854775807 := by omega
      have g9 : 5 ≤ 140737488355328 := by omega
      have e6 : wrap64 (((a + k : Nat) : Int) + 1) = ((a + k + 1 : Nat) : Int) := wn (a + k) h1 g6
      have e7 : wrap64 ((k : Int) + 1) = ((k + 1 : Nat) : Int) := wn k g5 g9
      have e2 : wrap64 (bt x ((a + k : Nat) : Int)) = bt x ((a + k : Nat) : Int) := w64 g7.1 g7.2
      have e3 : wrap64 (7 * (k : Int)) = 7 * (k : Int) := w64 g8.1 g8.2
      have e4 := shl7 k g5 _ hv
      rw [e3] at e4
      have e5 := or7 k g5 n _ hn hv
      have hp := pow5 k g5 n _ hn hv
      have hk1 : k + 1 + f = 5 := hk1'
      simp only [impl_ReadVar.j1, decide_eq_true g1, if_true, e1, e2, e3, b_and127 _ hb.1 g4, e4, e5, e6, e7, if_pos g2, if_pos g1, if_pos g3, if_pos h1]
      clear e1 e2 e3 e4 e5 e6 e7
      obtain ⟨p, hpp⟩ : ∃ p : Int, (128 : Int) ^ k = p := ⟨_, rfl⟩
      simp only [hpp] at hp ⊢
      by_cases h2 : bt x ((a + k : Nat) : Int) > 127
      · simp only [if_pos h2, if_neg (show ¬ bt x ((a + k : Nat) : Int) < 128 from by omega)]
        exact ih (k + 1) _ hk1 ⟨hp.1, hp.2.1⟩
      · simp only [if_neg h2, if_pos (show bt x ((a + k : Nat) : Int) < 128 from by omega)]
        by_cases h3 : bt x ((a + k : Nat) : Int) = 0
        · by_cases h4 : 0 < k
          · simp only [if_pos h3, if_pos (show (k : Int) > 0 from by omega), if_pos (show (bt x ((a + k : Nat) : Int) = 0 ∧ 0 < k) ∨ n + bt x ((a + k : Nat) : Int) % 128 * p > 1000000000 from .inl ⟨h3, h4⟩)]
            exact ev_some rfl
          · by_cases h5 : n + bt x ((a + k : Nat) : Int) % 128 * p > 1000000000
            · simp only [if_pos h3, if_neg (show ¬ (k : Int) > 0 from by omega), if_pos h5, if_pos (show (bt x ((a + k : Nat) : Int) = 0 ∧ 0 < k) ∨ n + bt x ((a + k : Nat) : Int) % 128 * p > 1000000000 from .inr h5)]
              exact ev_some rfl
            · simp only [if_pos h3, if_neg (show ¬ (k : Int) > 0 from by omega), if_neg h5, if_neg (show ¬ ((bt x ((a + k : Nat) : Int) = 0 ∧ 0 < k) ∨ n + bt x ((a + k : Nat) : Int) % 128 * p > 1000000000) from fun h => h.elim (fun h => h4 h.2) h5)]
              exact ev_some rfl
        · by_cases h5 : n + bt x ((a + k : Nat) : Int) % 128 * p > 1000000000
          · simp only [if_neg h3, if_pos h5, if_pos (show (bt x ((a + k : Nat) : Int) = 0 ∧ 0 < k) ∨ n + bt x ((a + k : Nat) : Int) % 128 * p > 1000000000 from .inr h5)]
            exact ev_some rfl
          · simp only [if_neg h3, if_neg h5, if_neg (show ¬ ((bt x ((a + k : Nat) : Int) = 0 ∧ 0 < k) ∨ n + bt x ((a + k : Nat) : Int) % 128 * p > 1000000000) from fun h => h.elim (fun h => h3 h.1) h5)]
            exact ev_some rfl
    · simp only [impl_ReadVar.j1, decide_eq_false (show ¬ ((a + k : Nat) : Int) < (x.size : Int) from by omega), Bool.false_eq_true, if_false, if_neg h1]
      exact ev_some rfl
theorem impl_ReadVar_ev (x : ByteArray) (hx : x.size ≤ 140737488351232) (a : Int) : Ev (fun r => impl_ReadVar.f r x a) (readVarM x a) := by
  unfold impl_ReadVar.f readVarM
  simp only [impl_in_eq, Option.bind_some]
  by_cases h : 0 ≤ a ∧ a ≤ (x.size : Int)
  · obtain ⟨m, rfl⟩ := Int.eq_ofNat_of_zero_le h.1
    simp only [decide_eq_true h, if_true, if_pos h]
    exact impl_ReadVar_l0 x hx m (by omega) 5 0 0 rfl (by omega)
  · simp only [decide_eq_false h, Bool.false_eq_true, if_false, if_neg h]
    exact ev_some rfl
theorem spec_ReadVar_l0 (x : ByteArray) (hx : x.size ≤ 140737488351232) (a : Nat) (ha : a ≤ x.size) (f : Nat) : ∀ (k : Nat), k + f = 5 → a + k ≤ x.size → (∀ b, b ∈ runL x a k → 128 ≤ b ∧ b < 256) →
    Ev (fun r => spec_ReadVar.l0 r x (a : Int) (valL (runL x a k) : Int) (128 ^ k) ((a + k : Nat) : Int)) (rvGo x a f k (valL (runL x a k) : Int)) := by
  induction f with
  | zero =>
    intro k hk hak hp
    refine ev_succ ?_
    have e0 : wrap64 ((a : Int) + 5) = (a : Int) + 5 := w64 (by omega) (by omega)
    by_cases h1 : ((a + k : Nat) : Int) < (x.size : Int)
    · simp only [spec_ReadVar.l0, if_pos h1, e0, decide_eq_false (show ¬ ((a + k : Nat) : Int) < (a : Int) + 5 from by omega)]
      refine ev_succ ?_
      simp only [spec_ReadVar.j1, Bool.false_eq_true, if_false]
      exact ev_some rfl
    · simp only [spec_ReadVar.l0, if_neg h1]
      refine ev_succ ?_
      simp only [spec_ReadVar.j1, Bool.false_eq_true, if_false]
      exact ev_some rfl
  | succ f ih =>
    intro k hk hak hp
    refine ev_succ ?_
    have e0 : wrap64 ((a : Int) + 5) = (a : Int) + 5 := w64 (by omega) (by omega)
    unfold rvGo
    by_cases h1 : a + k < x.size
    · have hl := runL_length x a k hak
      have hlt := valL_lt (runL x a k)
      rw [hl] at hlt
      have hb := bt_lt x ((a + k : Nat) : Int)
      have e3 : Int.tmod (bt x ((a + k : Nat) : Int)) 128 = bt x ((a + k : Nat) : Int) % 128 := Int.tmod_eq_emod_of_nonneg hb.1
      have hv : 0 ≤ bt x ((a + k : Nat) : Int) % 128 ∧ bt x ((a + k : Nat) : Int) % 128 < 128 := by omega
      have g5 : k < 5 := by omega
      have hn : 0 ≤ (valL (runL x a k) : Int) ∧ (valL (runL x a k) : Int) < 128 ^ k := ⟨by omega, by exact_mod_cast hlt⟩
      have hpw := pow5 k g5 _ _ hn hv
      have g1 : ((a + k : Nat) : Int) < (x.size : Int) := by omega
      have g2 : (0 : Int) ≤ ((a + k : Nat) : Int) := by omega
      have g3 : ((a + k : Nat) : Int) < (a : Int) + 5 := by omega
      have g6 : x.size ≤ 140737488355328 := by omega
      have g7 : -9223372036854775808 ≤ bt x ((a + k : Nat) : Int) ∧ bt x ((a + k : Nat) : Int) ≤ 9223372036854775807 := by omega
      have g10 : (0 : Int) ≤ (a : Int) := by omega
      have g11 : (a : Int) ≤ ((a + (k + 1) : Nat) : Int) := by omega
      have g12 : ((a + (k + 1) : Nat) : Int) ≤ (x.size : Int) := by omega
      have g13 : k + 1 + f = 5 := by omega
      have g14 : a + (k + 1) ≤ x.size := by omega
      have e8 : (valL (runL x a k) : Int) + bt x ((a + k : Nat) : Int) % 128 * 128 ^ k = (valL (runL x a (k + 1)) : Int) := by
        rw [runL_succ x a k h1, valL_snoc, hl]
        have : ((bt x ((a + k : Nat) : Int)).toNat % 128 : Nat) = ((bt x ((a + k : Nat) : Int) % 128).toNat) := by omega
        rw [this]
        obtain ⟨v, hvd⟩ : ∃ v, bt x ((a + k : Nat) : Int) % 128 = v := ⟨_, rfl⟩
        rw [hvd] at hv ⊢
        push_cast
        rw [Int.toNat_of_nonneg hv.1]
      obtain ⟨p, hpp⟩ : ∃ p : Int, (128 : Int) ^ k = p := ⟨_, rfl⟩
      have g8 : -9223372036854775808 ≤ bt x ((a + k : Nat) : Int) % 128 * 128 ^ k ∧ bt x ((a + k : Nat) : Int) % 128 * 128 ^ k ≤ 9223372036854775807 := by rw [hpp] at hpw ⊢; omega
      have g9 : -9223372036854775808 ≤ (valL (runL x a k) : Int) + bt x ((a + k : Nat) : Int) % 128 * 128 ^ k ∧ (valL (runL x a k) : Int) + bt x ((a + k : Nat) : Int) % 128 * 128 ^ k ≤ 9223372036854775807 := by rw [hpp] at hpw ⊢; omega
      have g15 : -9223372036854775808 ≤ (128 : Int) ^ k * 128 ∧ (128 : Int) ^ k * 128 ≤ 9223372036854775807 := by rw [hpp] at hpw ⊢; omega
      have e2 : wrap64 (bt x ((a + k : Nat) : Int)) = bt x ((a + k : Nat) : Int) := w64 g7.1 g7.2
      have e4 : wrap64 (bt x ((a + k : Nat) : Int) % 128 * 128 ^ k) = bt x ((a + k : Nat) : Int) % 128 * 128 ^ k := w64 g8.1 g8.2
      have e5 : wrap64 ((valL (runL x a k) : Int) + bt x ((a + k : Nat) : Int) % 128 * 128 ^ k) = (valL (runL x a k) : Int) + bt x ((a + k : Nat) : Int) % 128 * 128 ^ k := w64 g9.1 g9.2
      have e6 : wrap64 (((a + k : Nat) : Int) + 1) = ((a + (k + 1) : Nat) : Int) := wn (a + k) h1 g6
      have e7 : wrap64 ((128 : Int) ^ k * 128) = 128 ^ (k + 1) := by rw [w64 g15.1 g15.2, Int.pow_succ]
      simp only [spec_ReadVar.l0, if_pos g1, e0, decide_eq_true g3]
      refine ev_succ ?_
      simp only [spec_ReadVar.j1, if_true, if_pos g2, if_pos g1, e2, e3, e4, e5, e6, e7, if_pos h1]
      rw [e8]
      clear e0 e2 e3 e4 e5 e6 e7 e8 g8 g9 g15 hpw hpp
      by_cases h2 : bt x ((a + k : Nat) : Int) < 128
      · simp only [if_pos h2]
        have hc := canon x a k h1 hp h2
        by_cases h5 : (valL (runL x a (k + 1)) : Int) > 1000000000
        · simp only [if_pos h5, if_pos (show (bt x ((a + k : Nat) : Int) = 0 ∧ 0 < k) ∨ (valL (runL x a (k + 1)) : Int) > 1000000000 from .inr h5)]
          exact ev_some rfl
        · simp only [if_neg h5]
          refine Ev.bind (spec_l01Var_ev _ (by omega)) ?_
          simp only [if_pos g10, if_pos g11, if_pos g12, tl_iff, Int.toNat_natCast]
          by_cases h6 : bt x ((a + k : Nat) : Int) = 0 ∧ 0 < k
          · simp only [if_neg (fun h => hc.1 h h6), if_pos (show (bt x ((a + k : Nat) : Int) = 0 ∧ 0 < k) ∨ (valL (runL x a (k + 1)) : Int) > 1000000000 from .inl h6)]
            exact ev_some rfl
          · simp only [if_pos (hc.2 h6), if_neg (show ¬ ((bt x ((a + k : Nat) : Int) = 0 ∧ 0 < k) ∨ (valL (runL x a (k + 1)) : Int) > 1000000000) from fun h => h.elim h6 h5)]
            exact ev_some rfl
      · simp only [if_neg h2]
        refine ih (k + 1) g13 g14 ?_
        intro b hb'
        rw [runL_succ x a k h1] at hb'
        rcases List.mem_append.1 hb' with hb' | hb'
        · exact hp b hb'
        · have := List.mem_singleton.1 hb'
          omega
    · simp only [spec_ReadVar.l0, if_neg (show ¬ ((a + k : Nat) : Int) < (x.size : Int) from by omega)]
      refine ev_succ ?_
      simp only [spec_ReadVar.j1, Bool.false_eq_true, if_false, if_neg h1]
      exact ev_some rfl
theorem spec_ReadVar_ev (x : ByteArray) (hx : x.size ≤ 140737488351232) (a : Int) : Ev (fun r => spec_ReadVar.f r x a) (readVarM x a) := by
  unfold spec_ReadVar.f readVarM
  simp only [spec_in_eq, Option.bind_some]
  by_cases h : 0 ≤ a ∧ a ≤ (x.size : Int)
  · obtain ⟨m, rfl⟩ := Int.eq_ofNat_of_zero_le h.1
    simp only [decide_eq_true h, if_true, if_pos h]
    have := spec_ReadVar_l0 x hx m (by omega) 5 0 rfl (by omega) (by intro b hb; simp [runL] at hb)
    simpa [runL, valL] using this
  · simp only [decide_eq_false h, Bool.false_eq_true, if_false, if_neg h]
    exact ev_some rfl

/-! readshort -/
theorem impl_ReadShort_ev (x : ByteArray) (hx : x.size ≤ 140737488351232) (a : Int) : Ev (fun r => impl_ReadShort.f r x a) (readShortM x a) := by
  unfold impl_ReadShort.f readShortM
  refine Ev.bind (impl_ReadVar_ev x hx a) ?_
  obtain ⟨i1, i2, i3, i4, i5⟩ := readVarM_range x a
  obtain ⟨⟨n, e, ok⟩, hv⟩ : ∃ v, readVarM x a = v := ⟨_, rfl⟩
  simp only [hv] at i1 i2 i3 i4 i5 ⊢
  cases ok with
  | false => simp only [Bool.false_eq_true, if_false, false_and]; exact ev_some rfl
  | true =>
    simp only [if_true, true_and]
    by_cases h1 : n > 20000
    · simp only [if_pos h1, if_neg (show ¬ (n ≤ 20000 ∧ n ≤ (x.size : Int) - e) from by omega)]; exact ev_some rfl
    · rw [w64 (x := (x.size : Int) - e) (by omega) (by omega), w64 (x := e + n) (by omega) (by omega)]
      by_cases h2 : n > (x.size : Int) - e
      · simp only [if_neg h1, if_pos h2, if_neg (show ¬ (n ≤ 20000 ∧ n ≤ (x.size : Int) - e) from by omega)]; exact ev_some rfl
      · simp only [if_neg h1, if_neg h2, if_pos (show n ≤ 20000 ∧ n ≤ (x.size : Int) - e from by omega), if_pos i3, if_pos (show e ≤ e + n from by omega), if_pos (show e + n ≤ (x.size : Int) from by omega)]; exact ev_some rfl
theorem spec_ReadShort_ev (x : ByteArray) (hx : x.size ≤ 140737488351232) (a : Int) : Ev (fun r => spec_ReadShort.f r x a) (readShortM x a) := by
  unfold spec_ReadShort.f readShortM
  refine Ev.bind (spec_ReadVar_ev x hx a) ?_
  obtain ⟨i1, i2, i3, i4, i5⟩ := readVarM_range x a
  obtain ⟨⟨n, e, ok⟩, hv⟩ : ∃ v, readVarM x a = v := ⟨_, rfl⟩
  simp only [hv] at i1 i2 i3 i4 i5 ⊢
  cases ok with
  | false => simp only [Bool.false_eq_true, if_false, false_and]; exact ev_some rfl
  | true =>
    simp only [if_true, true_and]
    by_cases h1 : n > 20000
    · simp only [if_pos h1, if_neg (show ¬ (n ≤ 20000 ∧ n ≤ (x.size : Int) - e) from by omega)]; exact ev_some rfl
    · rw [w64 (x := (x.size : Int) - e) (by omega) (by omega), w64 (x := e + n) (by omega) (by omega)]
      by_cases h2 : n > (x.size : Int) - e
      · simp only [if_neg h1, if_pos h2, if_neg (show ¬ (n ≤ 20000 ∧ n ≤ (x.size : Int) - e) from by omega)]; exact ev_some rfl
      · simp only [if_neg h1, if_neg h2, if_pos (show n ≤ 20000 ∧ n ≤ (x.size : Int) - e from by omega), if_pos i3, if_pos (show e ≤ e + n from by omega), if_pos (show e + n ≤ (x.size : Int) from by omega)]; exact ev_some rfl

/-! frameok -/
theorem spec_FrameOk_eq (a b : Int) (c : ByteArray) : spec_FrameOk.f a b c = some (frameOkM a b c) := by
  unfold spec_FrameOk.f frameOkM
  simp only [spec_in_eq, Option.bind_some]
  by_cases h1 : 1 ≤ a ∧ a ≤ 1000000000 <;> by_cases h2 : 1 ≤ b ∧ b ≤ 1000000000 <;> simp [h1, h2]
theorem impl_FrameOk_eq (a b : Int) (c : ByteArray) : impl_FrameOk.f a b c = some (frameOkM a b c) := by
  unfold impl_FrameOk.f frameOkM
  simp only [impl_in_eq, Option.bind_some]
  by_cases h1 : 1 ≤ a ∧ a ≤ 1000000000 <;> by_cases h2 : 1 ≤ b ∧ b ≤ 1000000000 <;> simp [h1, h2]

/-! sum -/
theorem spec_SumMore_l1 (x : ByteArray) (i : Nat) (hi : i < x.size) (hx : x.size ≤ 140737488351232) (r : Int) (n : Nat) : ∀ (s : Int) (j : Nat), 0 ≤ s ∧ s < 4294967296 → j + n = 8 →
    Ev (fun k => spec_SumMore.l0 k (sumBits n s) x ((i + 1 : Nat) : Int)) r → Ev (fun k => spec_SumMore.l1 k s x (i : Int) (j : Int)) r := by
  induction n with
  | zero =>
    intro s j hs hj h
    refine ev_succ ?_
    simp only [spec_SumMore.l1, if_neg (show ¬ (j : Int) < 8 from by omega), wn i hi (by omega)]
    exact h
  | succ n ih =>
    intro s j hs hj h
    refine ev_succ ?_
    have e1 : Int.tmod s 2 = s % 2 := Int.tmod_eq_emod_of_nonneg hs.1
    have e2 : Int.tdiv s 2 % 4294967296 = s / 2 := by rw [Int.tdiv_eq_ediv_of_nonneg hs.1]; omega
    simp only [spec_SumMore.l1, if_pos (show (j : Int) < 8 from by omega), e1, e2, wn j (show j < 8 from by omega) (by omega)]
    have := ih (sumBit s) (j + 1) (sumBit_range hs) (by omega) h
    unfold sumBit at this
    by_cases h2 : s % 2 = 1
    · simpa only [if_pos h2] using this
    · simpa only [if_neg h2] using this
theorem spec_SumMore_l0 (x : ByteArray) (hx : x.size ≤ 140737488351232) (d : Nat) : ∀ (i : Nat) (s : Int), 0 ≤ s ∧ s < 4294967296 → x.size - i = d → i ≤ x.size →
    Ev (fun k => spec_SumMore.l0 k s x (i : Int)) (sumL s ((bytesOf x).drop i)) := by
  induction d with
  | zero =>
    intro i s hs hd hi
    refine ev_succ ?_
    simp only [spec_SumMore.l0, if_neg (show ¬ (i : Int) < (x.size : Int) from by omega)]
    rw [bytes_end x i (by omega)]
    exact ev_some rfl
  | succ d ih =>
    intro i s hs hd hi
    refine ev_succ ?_
    have hb := bt_lt x (i : Int)
    simp only [spec_SumMore.l0, if_pos (show (i : Int) < (x.size : Int) from by omega), if_pos (show (0 : Int) ≤ (i : Int) from by omega), Int.emod_eq_of_lt hb.1 (show bt x (i : Int) < 4294967296 from by omega)]
    rw [bytes_drop x i (by omega)]
    exact spec_SumMore_l1 x i (by omega) hx _ 8 _ 0 (b_xor_range _ _) rfl (ih (i + 1) _ (sumByte_range s _) (by omega) (by omega))
theorem spec_SumMore_ev (s : Int) (x : ByteArray) (hs : 0 ≤ s ∧ s < 4294967296) (hx : x.size ≤ 140737488351232) : Ev (fun k => spec_SumMore.f k s x) (sumL s (bytesOf x)) := by
  simpa [spec_SumMore.f] using spec_SumMore_l0 x hx _ 0 s hs rfl (by omega)
theorem impl_SumMore_l1 (x : ByteArray) (i : Nat) (hi : i < x.size) (hx : x.size ≤ 140737488351232) (r : Int) (n : Nat) : ∀ (s : Int) (j : Nat), 0 ≤ s ∧ s < 4294967296 → j + n = 8 →
    Ev (fun k => impl_SumMore.l0 k (sumBits n s) x (x.size : Int) ((i + 1 : Nat) : Int)) r → Ev (fun k => impl_SumMore.l1 k s x (x.size : Int) (i : Int) (j : Int)) r := by
  induction n with
  | zero =>
    intro s j hs hj h
    refine ev_succ ?_
    simp only [impl_SumMore.l1, if_neg (show ¬ (j : Int) < 8 from by omega), wn i hi (by omega)]
    exact h
  | succ n ih =>
    intro s j hs hj h
    refine ev_succ ?_
    simp only [impl_SumMore.l1, if_pos (show (j : Int) < 8 from by omega), b_and1 s hs.1 hs.2, wn j (show j < 8 from by omega) (by omega)]
    have := ih (sumBit s) (j + 1) (sumBit_range hs) (by omega) h
    unfold sumBit at this
    by_cases h2 : s % 2 = 1
    · simpa only [if_pos h2] using this
    · simpa only [if_neg h2] using this
theorem impl_SumMore_l0 (x : ByteArray) (hx : x.size ≤ 140737488351232) (d : Nat) : ∀ (i : Nat) (s : Int), 0 ≤ s ∧ s < 4294967296 → x.size - i = d → i ≤ x.size →
    Ev (fun k => impl_SumMore.l0 k s x (x.size : Int) (i : Int)) (sumL s ((bytesOf x).drop i)) := by
  induction d with
  | zero =>
    intro i s hs hd hi
    refine ev_succ ?_
    simp only [impl_SumMore.l0, if_neg (show ¬ (i : Int) < (x.size : Int) from by omega)]
    rw [bytes_end x i (by omega)]
    exact ev_some rfl
  | succ d ih =>
    intro i s hs hd hi
    refine ev_succ ?_
    have hb := bt_lt x (i : Int)
    simp only [impl_SumMore.l0, if_pos (show (i : Int) < (x.size : Int) from by omega), if_pos (show (0 : Int) ≤ (i : Int) from by omega), Int.emod_eq_of_lt hb.1 (show bt x (i : Int) < 4294967296 from by omega)]
    rw [bytes_drop x i (by omega)]
    exact impl_SumMore_l1 x i (by omega) hx _ 8 _ 0 (b_xor_range _ _) rfl (ih (i + 1) _ (sumByte_range s _) (by omega) (by omega))
theorem impl_SumMore_ev (s : Int) (x : ByteArray) (hs : 0 ≤ s ∧ s < 4294967296) (hx : x.size ≤ 140737488351232) : Ev (fun k => impl_SumMore.f k s x) (sumL s (bytesOf x)) := by
  simpa [impl_SumMore.f] using impl_SumMore_l0 x hx _ 0 s hs rfl (by omega)
theorem spec_SumOf_ev (x : ByteArray) (hx : x.size ≤ 140737488351232) : Ev (fun k => spec_SumOf.f k x) (sumOfM x) :=
  Ev.bind (spec_SumMore_ev _ x (by omega) hx) (ev_some rfl)
theorem impl_SumOf_ev (x : ByteArray) (hx : x.size ≤ 140737488351232) : Ev (fun k => impl_SumOf.f k x) (sumOfM x) :=
  Ev.bind (impl_SumMore_ev _ x (by omega) hx) (ev_some rfl)
theorem impl_seal_ev (x : ByteArray) (hx : x.size ≤ 140737488351232) : Ev (fun k => impl_seal.f k x) (fourS (sumOfM x)) :=
  Ev.bind (impl_SumOf_ev x hx) (ev_some rfl)
theorem spec_l02Four_eq (s : Int) : spec_l02Four.f s = some (fourS s) := rfl

/-! seal -/
theorem spec_Sealed_ev (x : ByteArray) : Ev (fun k => spec_Sealed.f k x) (sealedM x) := by
  unfold spec_Sealed.f sealedM
  by_cases h : (x.size : Int) > 20000
  · simp only [if_pos h]
    exact ev_some rfl
  · simp only [if_neg h]
    refine Ev.bind (spec_SumOf_ev x (by omega)) ?_
    have h1 := fourS_size (sumOfM x)
    simp only [spec_l02Four_eq, Option.bind_some, if_pos (show x.size + (fourS (sumOfM x)).size ≤ 9223372036854775807 from by omega)]
    exact ev_some rfl
theorem impl_Sealed_ev (x : ByteArray) : Ev (fun k => impl_Sealed.f k x) (sealedM x) := by
  unfold impl_Sealed.f sealedM
  by_cases h : (x.size : Int) > 20000
  · simp only [if_pos h]
    exact ev_some rfl
  · simp only [if_neg h]
    refine Ev.bind (impl_seal_ev x (by omega)) ?_
    have h1 := fourS_size (sumOfM x)
    simp only [if_pos (show x.size + (fourS (sumOfM x)).size ≤ 9223372036854775807 from by omega)]
    exact ev_some rfl

/-! frametext -/
theorem spec_FrameText_ev (a b : Int) (c : ByteArray) : Ev (fun k => spec_FrameText.f k a b c) (frameTextM a b c) := by
  unfold spec_FrameText.f frameTextM
  simp only [spec_FrameOk_eq, Option.bind_some]
  by_cases h : frameOkM a b c = true
  · simp only [if_pos h]
    have hr := of_decide_eq_true h
    have s1 := varS_size a.toNat
    have s2 := varS_size b.toNat
    have s3 := varS_size c.size
    have l1 := varL_length a.toNat
    have l2 := varL_length b.toNat
    have l3 := varL_length c.size
    refine Ev.bind (spec_l01Var_ev' a (by omega) (by omega)) ?_
    refine Ev.bind (spec_l01Var_ev' b (by omega) (by omega)) ?_
    simp only [if_pos (show (varS a.toNat).size + (varS b.toNat).size ≤ 9223372036854775807 from by omega)]
    refine Ev.bind (spec_l01Var_ev c.size (by omega)) ?_
    simp only [size_append, if_pos (show (varS a.toNat).size + (varS b.toNat).size + (varS c.size).size ≤ 9223372036854775807 from by omega), if_pos (show (varS a.toNat).size + (varS b.toNat).size + (varS c.size).size + c.size ≤ 9223372036854775807 from by omega)]
    exact Ev.bind (spec_Sealed_ev _) (ev_some rfl)
  · simp only [if_neg h]
    exact ev_some rfl
theorem impl_FrameText_ev (a b : Int) (c : ByteArray) : Ev (fun k => impl_FrameText.f k a b c) (frameTextM a b c) := by
  unfold impl_FrameText.f frameTextM
  simp only [impl_FrameOk_eq, Option.bind_some]
  by_cases h : frameOkM a b c = true
  · simp only [if_pos h]
    have hr := of_decide_eq_true h
    have s1 := varS_size a.toNat
    have s2 := varS_size b.toNat
    have s3 := varS_size c.size
    have l1 := varL_length a.toNat
    have l2 := varL_length b.toNat
    have l3 := varL_length c.size
    refine Ev.bind (impl_varText_ev' a (by omega) (by omega)) ?_
    refine Ev.bind (impl_varText_ev' b (by omega) (by omega)) ?_
    simp only [if_pos (show (varS a.toNat).size + (varS b.toNat).size ≤ 9223372036854775807 from by omega)]
    refine Ev.bind (impl_varText_ev c.size (by omega)) ?_
    simp only [size_append, if_pos (show (varS a.toNat).size + (varS b.toNat).size + (varS c.size).size ≤ 9223372036854775807 from by omega), if_pos (show (varS a.toNat).size + (varS b.toNat).size + (varS c.size).size + c.size ≤ 9223372036854775807 from by omega)]
    exact Ev.bind (impl_Sealed_ev _) (ev_some rfl)
  · simp only [if_neg h]
    exact ev_some rfl

/-! readframe -/
theorem spec_ReadFrame_ev (x : ByteArray) (hx : x.size ≤ 140737488351232) (a : Int) : Ev (fun k => spec_ReadFrame.f k x a) (readFrameM x a) := by
  unfold spec_ReadFrame.f readFrameM
  refine Ev.bind (spec_ReadVar_ev x hx a) ?_
  refine Ev.bind (spec_ReadVar_ev x hx _) ?_
  refine Ev.bind (spec_ReadShort_ev x hx _) ?_
  obtain ⟨i1, i2, i3, i4, i5⟩ := readVarM_range x a
  obtain ⟨j1, j2, j3, j4, j5⟩ := readVarM_range x (readVarM x a).2.1
  obtain ⟨k1, k2, k3, k4⟩ := readShortM_range x (readVarM x (readVarM x a).2.1).2.1
  obtain ⟨⟨b, e3, ok3⟩, hv3⟩ : ∃ v, readShortM x (readVarM x (readVarM x a).2.1).2.1 = v := ⟨_, rfl⟩
  obtain ⟨⟨n2, e2, ok2⟩, hv2⟩ : ∃ v, readVarM x (readVarM x a).2.1 = v := ⟨_, rfl⟩
  obtain ⟨⟨n1, e1, ok1⟩, hv1⟩ : ∃ v, readVarM x a = v := ⟨_, rfl⟩
  simp only [hv1] at *
  simp only [hv2] at *
  simp only [hv3] at *
  rw [w64 (x := (x.size : Int) - 4) (by omega) (by omega)]
  refine ev_if (fun c1 => ?_) (fun c1 => ?_)
  rotate_left
  · refine ev_succ ?_
    simp only [spec_ReadFrame.j0, if_true, c1, false_and, if_false]
    exact ev_some rfl
  refine ev_if (fun c2 => ?_) (fun c2 => ?_)
  rotate_left
  · refine ev_succ ?_
    simp only [spec_ReadFrame.j0, if_true, c1, c2, false_and, and_false, if_false]
    exact ev_some rfl
  refine ev_if (fun c3 => ?_) (fun c3 => ?_)
  rotate_left
  · refine ev_succ ?_
    simp only [spec_ReadFrame.j0, if_true, c1, c2, c3, false_and, and_false, if_false]
    exact ev_some rfl
  have a0 := (i5 c1).1
  have a1 := (i5 c1).2
  have a2 := (j5 c2).2
  have a3 := (k4 c3).2
  refine ev_if (fun c4 => ?_) (fun c4 => ?_)
  · refine ev_succ ?_
    simp only [spec_ReadFrame.j0, if_true]
    rw [if_neg (fun h => absurd h.2.2.1 (by omega))]
    exact ev_some rfl
  refine ev_succ ?_
  simp only [spec_ReadFrame.j0, decide_eq_false (show ¬ a < 0 from by omega), Bool.false_eq_true, if_false]
  refine Ev.bind (spec_FrameText_ev n1 n2 b) ?_
  by_cases hok : frameOkM n1 n2 b = true
  · have ht := frameTextM_ok n1 n2 b hok
    have ht2 : (frameTextM n1 n2 b).2 = true := by rw [ht]
    rw [w64 (x := e3 + 4) (by omega) (by omega)]
    simp only [if_pos ht2, if_pos a0, if_pos (show a ≤ e3 + 4 from by omega), if_pos (show e3 + 4 ≤ (x.size : Int) from by omega), tl_iff]
    refine ev_if (fun c5 => ?_) (fun c5 => ?_)
    · rw [if_pos ⟨⟨c1, c2, c3⟩, hok, by omega, c5.symm⟩]
      exact ev_some rfl
    · rw [if_neg (fun h => c5 h.2.2.2.symm)]
      exact ev_some rfl
  · have ht2 : ¬ (frameTextM n1 n2 b).2 = true := by unfold frameTextM; rw [if_neg hok]; simp
    simp only [if_neg ht2]
    rw [if_neg (fun h => hok h.2.1)]
    exact ev_some rfl
theorem impl_ReadFrame_ev (x : ByteArray) (hx : x.size ≤ 140737488351232) (a : Int) : Ev (fun k => impl_ReadFrame.f k x a) (readFrameM x a) := by
  unfold impl_ReadFrame.f readFrameM
  refine Ev.bind (impl_ReadVar_ev x hx a) ?_
  refine Ev.bind (impl_ReadVar_ev x hx _) ?_
  refine Ev.bind (impl_ReadShort_ev x hx _) ?_
  obtain ⟨i1, i2, i3, i4, i5⟩ := readVarM_range x a
  obtain ⟨j1, j2, j3, j4, j5⟩ := readVarM_range x (readVarM x a).2.1
  obtain ⟨k1, k2, k3, k4⟩ := readShortM_range x (readVarM x (readVarM x a).2.1).2.1
  obtain ⟨⟨b, e3, ok3⟩, hv3⟩ : ∃ v, readShortM x (readVarM x (readVarM x a).2.1).2.1 = v := ⟨_, rfl⟩
  obtain ⟨⟨n2, e2, ok2⟩, hv2⟩ : ∃ v, readVarM x (readVarM x a).2.1 = v := ⟨_, rfl⟩
  obtain ⟨⟨n1, e1, ok1⟩, hv1⟩ : ∃ v, readVarM x a = v := ⟨_, rfl⟩
  simp only [hv1] at *
  simp only [hv2] at *
  simp only [hv3] at *
  simp only [impl_FrameOk_eq, Option.bind_some]
  rw [w64 (x := (x.size : Int) - e3) (by omega) (by omega)]
  refine ev_if (fun c1 => ?_) (fun c1 => ?_)
  rotate_left
  · refine ev_succ ?_
    simp only [impl_ReadFrame.j0, if_true, c1, false_and, if_false]
    exact ev_some rfl
  refine ev_if (fun c2 => ?_) (fun c2 => ?_)
  rotate_left
  · refine ev_succ ?_
    simp only [impl_ReadFrame.j0, if_true, c1, c2, false_and, and_false, if_false]
    exact ev_some rfl
  refine ev_if (fun c3 => ?_) (fun c3 => ?_)
  rotate_left
  · refine ev_succ ?_
    simp only [impl_ReadFrame.j0, if_true, c1, c2, c3, false_and, and_false, if_false]
    exact ev_some rfl
  have a0 := (i5 c1).1
  have a1 := (i5 c1).2
  have a2 := (j5 c2).2
  have a3 := (k4 c3).2
  refine ev_if (fun hok => ?_) (fun hok => ?_)
  rotate_left
  · refine ev_succ ?_
    simp only [impl_ReadFrame.j0, if_true]
    rw [if_neg (fun h => hok h.2.1)]
    exact ev_some rfl
  by_cases c4 : (x.size : Int) - e3 < 4
  · rw [if_neg (fun h => absurd h.2.2.1 (by omega))]
    refine ev_succ ?_
    simp only [impl_ReadFrame.j0, decide_eq_true c4, if_true]
    exact ev_some rfl
  refine ev_succ ?_
  simp only [impl_ReadFrame.j0, decide_eq_false c4, Bool.false_eq_true, if_false]
  refine Ev.bind (impl_FrameText_ev n1 n2 b) ?_
  rw [w64 (x := e3 + 4) (by omega) (by omega)]
  simp only [if_pos a0, if_pos (show a ≤ e3 + 4 from by omega), if_pos (show e3 + 4 ≤ (x.size : Int) from by omega), tl_iff]
  refine ev_if (fun c5 => ?_) (fun c5 => ?_)
  · rw [if_pos ⟨⟨c1, c2, c3⟩, hok, by omega, c5⟩]
    exact ev_some rfl
  · rw [if_neg (fun h => c5 h.2.2.2)]
    exact ev_some rfl

/-! seggen -/
theorem impl_SegGen_ev (ss : List ByteArray) (c : List S67) (hs : ss.length ≤ 1048576) (hc : c.length ≤ 1048576) (zs : ∀ s, s ∈ ss → s.size ≤ 1048576) (zc : ∀ w, w ∈ c → w.f1.size ≤ 1048576) (g : Int) :
    Ev (fun k => impl_SegGen.f k ss c g) (segGenM ss (c.map W2) g) := by
  unfold impl_SegGen.f segGenM
  have hz := segTextM_size ss (c.map W2) g 1048576 zs (by intro w hw; obtain ⟨w', h1, rfl⟩ := List.mem_map.1 hw; exact zc w' h1)
  refine Ev.bind (impl_SegText_ev ss c hs hc zs zc g) ?_
  refine Ev.bind (impl_ReadFrame_ev _ (by omega) 0) ?_
  exact ev_ite (ev_some rfl) (ev_some rfl)
theorem spec_SegGen_ev (ss : List ByteArray) (c : List S67) (hs : ss.length ≤ 1048576) (hc : c.length ≤ 1048576) (zs : ∀ s, s ∈ ss → s.size ≤ 1048576) (zc : ∀ w, w ∈ c → w.f1.size ≤ 1048576) (g : Int) :
    Ev (fun k => spec_SegGen.f k ss c g) (segGenM ss (c.map W2) g) := by
  unfold spec_SegGen.f segGenM
  have hz := segTextM_size ss (c.map W2) g 1048576 zs (by intro w hw; obtain ⟨w', h1, rfl⟩ := List.mem_map.1 hw; exact zc w' h1)
  refine Ev.bind (spec_SegText_ev ss c hs hc zs zc g) ?_
  refine Ev.bind (spec_ReadFrame_ev _ (by omega) 0) ?_
  refine ev_if (fun h => ?_) (fun h => ?_)
  · exact ev_ite (ev_some rfl) (ev_some rfl)
  · rw [readFrameM_no _ _ h]
    exact ev_some (by rw [if_neg (by rw [ByteArray.toList_eq]; simp)])

/-! scanframes -/
def toS (p : Int × Int × ByteArray) : S77 := ⟨p.1, p.2.1, p.2.2⟩
theorem spec_ScanFrames_l0 (x : ByteArray) (hx : x.size ≤ 1000000000) (g : Int) (f : Nat) : ∀ (a : Int) (acc : List S77), 0 ≤ a → a ≤ (x.size : Int) → (x.size : Int) - a < (f : Int) → acc.length ≤ a →
    Ev (fun k => spec_ScanFrames.l0 k x g acc a) (acc ++ (scanGo x g f a).1.map toS, (scanGo x g f a).2) := by
  induction f with
  | zero => intro a acc h0 h1 h2; omega
  | succ f ih =>
    intro a acc h0 h1 h2 h3
    refine ev_succ ?_
    simp only [spec_ScanFrames.l0]
    refine Ev.bind (spec_ReadFrame_ev x (by omega) a) ?_
    unfold scanGo
    refine ev_if (fun c1 => ?_) (fun c1 => ?_)
    · rw [if_pos c1]
      obtain ⟨b0, b1, b2⟩ := readFrameM_adv x a c1
      refine ev_if (fun c2 => ?_) (fun c2 => ?_)
      · rw [if_pos c2]
        refine ev_if (fun _ => ?_) (fun h => absurd (by omega) h)
        have := ih (readFrameM x a).2.2.2.1 (acc ++ [toS ((readFrameM x a).1, (readFrameM x a).2.1, (readFrameM x a).2.2.1)]) (by omega) b2 (by omega) (by simp; omega)
        simpa [toS] using this
      · rw [if_neg c2]
        exact ev_some (by simp)
    · rw [if_neg c1]
      exact ev_some (by simp)
theorem spec_ScanFrames_evB (x : ByteArray) (hx : x.size ≤ 1000000000) (g : Int) : Ev (fun k => spec_ScanFrames.f k x g) ((scanM x g).1.map toS, (scanM x g).2) := by
  unfold spec_ScanFrames.f scanM
  simpa using spec_ScanFrames_l0 x hx g (x.size + 1) 0 [] (by omega) (by omega) (by omega) (by simp)
theorem spec_ScanFrames_ev (x : ByteArray) (hx : x.size ≤ 1048576) (g : Int) : Ev (fun k => spec_ScanFrames.f k x g) ((scanM x g).1.map toS, (scanM x g).2) := spec_ScanFrames_evB x (by omega) g
theorem impl_ScanFrames_l0 (x : ByteArray) (hx : x.size ≤ 1000000000) (g : Int) (f : Nat) : ∀ (a : Int) (acc : List S77), 0 ≤ a → a ≤ (x.size : Int) → (x.size : Int) - a < (f : Int) → acc.length ≤ a →
    Ev (fun k => impl_ScanFrames.l0 k x g acc a) (acc ++ (scanGo x g f a).1.map toS, (scanGo x g f a).2) := by
  induction f with
  | zero => intro a acc h0 h1 h2; omega
  | succ f ih =>
    intro a acc h0 h1 h2 h3
    refine ev_succ ?_
    simp only [impl_ScanFrames.l0]
    refine Ev.bind (impl_ReadFrame_ev x (by omega) a) ?_
    unfold scanGo
    refine ev_if (fun c1 => ?_) (fun c1 => ?_)
    · rw [if_pos c1]
      obtain ⟨b0, b1, b2⟩ := readFrameM_adv x a c1
      refine ev_if (fun c2 => ?_) (fun c2 => ?_)
      · rw [if_pos c2]
        refine ev_if (fun _ => ?_) (fun h => absurd (by omega) h)
        have := ih (readFrameM x a).2.2.2.1 (acc ++ [toS ((readFrameM x a).1, (readFrameM x a).2.1, (readFrameM x a).2.2.1)]) (by omega) b2 (by omega) (by simp; omega)
        simpa [toS] using this
      · rw [if_neg c2]
        exact ev_some (by simp)
    · rw [if_neg c1]
      exact ev_some (by simp)
theorem impl_ScanFrames_evB (x : ByteArray) (hx : x.size ≤ 1000000000) (g : Int) : Ev (fun k => impl_ScanFrames.f k x g) ((scanM x g).1.map toS, (scanM x g).2) := by
  unfold impl_ScanFrames.f scanM
  simpa using impl_ScanFrames_l0 x hx g (x.size + 1) 0 [] (by omega) (by omega) (by omega) (by simp)
theorem impl_ScanFrames_ev (x : ByteArray) (hx : x.size ≤ 1048576) (g : Int) : Ev (fun k => impl_ScanFrames.f k x g) ((scanM x g).1.map toS, (scanM x g).2) := impl_ScanFrames_evB x (by omega) g

/-! segframes -/
def segFramesM (ss : List ByteArray) (c : List Wr) (g : Int) : List (Int × Int × ByteArray) × Int :=
  if segGenM ss c g = 0 then ([], 0) else ((scanM (segTextM ss c g) (segGenM ss c g)).1.drop 1, (scanM (segTextM ss c g) (segGenM ss c g)).2)
theorem scanM_one (ss : List ByteArray) (c : List Wr) (g : Int) (h : ¬ segGenM ss c g = 0) : 1 ≤ (scanM (segTextM ss c g) (segGenM ss c g)).1.length := by
  unfold segGenM at h ⊢
  by_cases h1 : (readFrameM (segTextM ss c g) 0).2.2.1.toList = ([115, 101, 103] : List UInt8)
  · rw [if_pos h1] at h ⊢
    unfold scanM scanGo
    by_cases h2 : (readFrameM (segTextM ss c g) 0).2.2.2.2 = true
    · rw [if_pos h2, if_pos rfl]
      simp
    · rw [readFrameM_no _ _ h2] at h
      exact absurd rfl h
  · rw [if_neg h1] at h
    exact absurd rfl h
theorem segFramesM_length (ss : List ByteArray) (c : List Wr) (g : Int) : (segFramesM ss c g).1.length ≤ (segTextM ss c g).size := by
  unfold segFramesM
  split
  · simp
  · have := scanGo_length (segTextM ss c g) (segGenM ss c g) ((segTextM ss c g).size + 1) 0 (by omega) (by omega)
    simp only [List.length_drop]
    unfold scanM
    omega
theorem impl_SegFrames_ev (ss : List ByteArray) (c : List S67) (hs : ss.length ≤ 1048576) (hc : c.length ≤ 1048576) (zs : ∀ s, s ∈ ss → s.size ≤ 10000) (zc : ∀ w, w ∈ c → w.f1.size ≤ 10000) (g : Int) :
    Ev (fun k => impl_SegFrames.f k ss c g) ((segFramesM ss (c.map W2) g).1.map toS, (segFramesM ss (c.map W2) g).2) := by
  unfold impl_SegFrames.f segFramesM
  have hz := segTextM_size ss (c.map W2) g 10000 zs (by intro w hw; obtain ⟨w', h1, rfl⟩ := List.mem_map.1 hw; exact zc w' h1)
  refine Ev.bind (impl_SegGen_ev ss c hs hc (fun s h => by have := zs s h; omega) (fun s h => by have := zc s h; omega) g) ?_
  refine ev_if (fun h => ?_) (fun h => ?_)
  · rw [if_pos h]; exact ev_some rfl
  · have h1 := scanM_one ss (c.map W2) g h
    rw [if_neg h]
    refine Ev.bind (impl_SegText_ev ss c hs hc (fun s h => by have := zs s h; omega) (fun s h => by have := zc s h; omega) g) ?_
    refine Ev.bind (impl_ScanFrames_ev _ (by omega) _) ?_
    simp only [List.length_map, if_pos (show (1 : Int) ≤ ((scanM (segTextM ss (c.map W2) g) (segGenM ss (c.map W2) g)).1.length : Int) by omega)]
    exact ev_some (by rw [List.map_drop]; rfl)
theorem spec_SegFrames_ev (ss : List ByteArray) (c : List S67) (hs : ss.length ≤ 1048576) (hc : c.length ≤ 1048576) (zs : ∀ s, s ∈ ss → s.size ≤ 10000) (zc : ∀ w, w ∈ c → w.f1.size ≤ 10000) (g : Int) :
    Ev (fun k => spec_SegFrames.f k ss c g) ((segFramesM ss (c.map W2) g).1.map toS, (segFramesM ss (c.map W2) g).2) := by
  unfold spec_SegFrames.f segFramesM
  have hz := segTextM_size ss (c.map W2) g 10000 zs (by intro w hw; obtain ⟨w', h1, rfl⟩ := List.mem_map.1 hw; exact zc w' h1)
  have hl := scanGo_length (segTextM ss (c.map W2) g) (segGenM ss (c.map W2) g) ((segTextM ss (c.map W2) g).size + 1) 0 (by omega) (by omega)
  have hl2 : (scanM (segTextM ss (c.map W2) g) (segGenM ss (c.map W2) g)).1.length ≤ 1048576 := by unfold scanM; omega
  refine Ev.bind (spec_SegGen_ev ss c hs hc (fun s h => by have := zs s h; omega) (fun s h => by have := zc s h; omega) g) ?_
  refine ev_if (fun h => ?_) (fun h => ?_)
  · rw [if_pos h]; exact ev_some rfl
  · have h1 := scanM_one ss (c.map W2) g h
    rw [if_neg h]
    refine Ev.bind (spec_SegText_ev ss c hs hc (fun s h => by have := zs s h; omega) (fun s h => by have := zc s h; omega) g) ?_
    refine Ev.bind (spec_ScanFrames_ev _ (by omega) _) ?_
    simp only [Option.bind_some, List.length_map, List.length_nil, List.length_drop, if_pos (show (1 : Int) ≤ ((scanM (segTextM ss (c.map W2) g) (segGenM ss (c.map W2) g)).1.length : Int) by omega), if_pos (show 0 + ((scanM (segTextM ss (c.map W2) g) (segGenM ss (c.map W2) g)).1.length - 1) < 4398046511104 by omega)]
    exact ev_some (by rw [List.map_drop]; rfl)

/-! segframesb -/
theorem impl_SegFrames_evB (ss : List ByteArray) (c : List S67) (hs : ss.length ≤ 1048576) (hc : c.length ≤ 1048576) (zs : ∀ s, s ∈ ss → s.size ≤ 1048576) (zc : ∀ w, w ∈ c → w.f1.size ≤ 1048576) (g : Int) :
    Ev (fun k => impl_SegFrames.f k ss c g) ((segFramesM ss (c.map W2) g).1.map toS, (segFramesM ss (c.map W2) g).2) := by
  unfold impl_SegFrames.f segFramesM
  have hz := segTextM_size ss (c.map W2) g 1048576 zs (by intro w hw; obtain ⟨w', h1, rfl⟩ := List.mem_map.1 hw; exact zc w' h1)
  refine Ev.bind (impl_SegGen_ev ss c hs hc (fun s h => by have := zs s h; omega) (fun s h => by have := zc s h; omega) g) ?_
  refine ev_if (fun h => ?_) (fun h => ?_)
  · rw [if_pos h]; exact ev_some rfl
  · have h1 := scanM_one ss (c.map W2) g h
    rw [if_neg h]
    refine Ev.bind (impl_SegText_ev ss c hs hc (fun s h => by have := zs s h; omega) (fun s h => by have := zc s h; omega) g) ?_
    refine Ev.bind (impl_ScanFrames_evB _ (by omega) _) ?_
    simp only [List.length_map, if_pos (show (1 : Int) ≤ ((scanM (segTextM ss (c.map W2) g) (segGenM ss (c.map W2) g)).1.length : Int) by omega)]
    exact ev_some (by rw [List.map_drop]; rfl)
theorem spec_SegFrames_evB (ss : List ByteArray) (c : List S67) (hs : ss.length ≤ 1048576) (hc : c.length ≤ 1048576) (zs : ∀ s, s ∈ ss → s.size ≤ 1048576) (zc : ∀ w, w ∈ c → w.f1.size ≤ 1048576) (g : Int) :
    Ev (fun k => spec_SegFrames.f k ss c g) ((segFramesM ss (c.map W2) g).1.map toS, (segFramesM ss (c.map W2) g).2) := by
  unfold spec_SegFrames.f segFramesM
  have hz := segTextM_size ss (c.map W2) g 1048576 zs (by intro w hw; obtain ⟨w', h1, rfl⟩ := List.mem_map.1 hw; exact zc w' h1)
  have hl := scanGo_length (segTextM ss (c.map W2) g) (segGenM ss (c.map W2) g) ((segTextM ss (c.map W2) g).size + 1) 0 (by omega) (by omega)
  have hl2 : (scanM (segTextM ss (c.map W2) g) (segGenM ss (c.map W2) g)).1.length ≤ 104857600 := by unfold scanM; omega
  refine Ev.bind (spec_SegGen_ev ss c hs hc (fun s h => by have := zs s h; omega) (fun s h => by have := zc s h; omega) g) ?_
  refine ev_if (fun h => ?_) (fun h => ?_)
  · rw [if_pos h]; exact ev_some rfl
  · have h1 := scanM_one ss (c.map W2) g h
    rw [if_neg h]
    refine Ev.bind (spec_SegText_ev ss c hs hc (fun s h => by have := zs s h; omega) (fun s h => by have := zc s h; omega) g) ?_
    refine Ev.bind (spec_ScanFrames_evB _ (by omega) _) ?_
    simp only [Option.bind_some, List.length_map, List.length_nil, List.length_drop, if_pos (show (1 : Int) ≤ ((scanM (segTextM ss (c.map W2) g) (segGenM ss (c.map W2) g)).1.length : Int) by omega), if_pos (show 0 + ((scanM (segTextM ss (c.map W2) g) (segGenM ss (c.map W2) g)).1.length - 1) < 4398046511104 by omega)]
    exact ev_some (by rw [List.map_drop]; rfl)

/-! marktext -/
theorem markText_l0 (n : Nat) : ∀ (acc : ByteArray), n ≤ 1000000000000 → acc.size + n ≤ 4000000000000000000 → ∃ t, Ev (fun k => laws_markText.l0 k (n : Int) acc) t := by
  induction n using Nat.strongRecOn with
  | _ n ih =>
    intro acc hn ha
    by_cases h : 0 < n
    · have e1 : wrap64 (Int.tdiv (n : Int) 10) = ((n / 10 : Nat) : Int) := by
        rw [Int.tdiv_eq_ediv_of_nonneg (by omega), w64 (by omega) (by omega)]; omega
      obtain ⟨t, ht⟩ := ih (n / 10) (by omega) (strOfNums [(wrap64 (48 + Int.tmod (n : Int) 10)) % 256] ++ acc) (by omega) (by rw [size_append, strOfNums_size]; simp; omega)
      refine ⟨t, ev_succ ?_⟩
      have s1 : (strOfNums [(wrap64 (48 + Int.tmod (n : Int) 10)) % 256]).size = 1 := strOfNums_size _
      simp only [laws_markText.l0, if_pos (show (n : Int) > 0 from by omega), Option.bind_some, s1, if_pos (show 1 + acc.size ≤ 9223372036854775807 from by omega), e1]
      exact ht
    · refine ⟨(⟨#[109]⟩ : ByteArray) ++ acc, ev_succ ?_⟩
      simp only [laws_markText.l0, if_neg (show ¬ (n : Int) > 0 from by omega), if_pos (show 1 + acc.size ≤ 9223372036854775807 from by omega)]
      exact ev_some rfl
theorem markText_some (k : Int) (h0 : 0 ≤ k) (h1 : k ≤ 1000000000000) : ∃ t, Ev (fun n => laws_markText.f n k) t := by
  unfold laws_markText.f
  obtain ⟨n, rfl⟩ := Int.eq_ofNat_of_zero_le h0
  by_cases h : (n : Int) ≤ 0
  · simp only [if_pos h]; exact ⟨_, ev_some rfl⟩
  · simp only [if_neg h]
    exact markText_l0 n _ (by omega) (by have : (⟨#[]⟩ : ByteArray).size = 0 := rfl; omega)
/-- The text that marks a place. -/
noncomputable def markT (k : Int) : ByteArray := by
  classical exact if h : ∃ t, Ev (fun n => laws_markText.f n k) t then h.choose else (⟨#[]⟩ : ByteArray)
theorem markText_ev (k : Int) (h0 : 0 ≤ k) (h1 : k ≤ 1000000000000) : Ev (fun n => laws_markText.f n k) (markT k) := by
  have h := markText_some k h0 h1
  unfold markT
  rw [dif_pos h]
  exact h.choose_spec

/-! eqframe -/
theorem eqFrame_same (a b : Int) (c : ByteArray) : laws_eqFrame.f a b c a b c = some true := by
  unfold laws_eqFrame.f
  simp

/-! markframes -/
theorem eqFrameS_l0 (l : List S77) (hl : l.length ≤ 140737488355328) (d : Nat) : ∀ i : Nat, l.length - i = d → i ≤ l.length → Ev (fun k => laws_eqFrameS.l0 k l l (i : Int)) true := by
  induction d with
  | zero =>
    intro i hd hi
    refine ev_succ ?_
    simp only [laws_eqFrameS.l0, if_neg (show ¬ (i : Int) < (l.length : Int) from by omega)]
    exact ev_some rfl
  | succ d ih =>
    intro i hd hi
    refine ev_succ ?_
    simp only [laws_eqFrameS.l0, if_pos (show (i : Int) < (l.length : Int) from by omega), if_pos (show (0 : Int) ≤ (i : Int) from by omega), eqFrame_same, Option.bind_some, if_true, wn i (show i < l.length from by omega) (by omega)]
    exact ih (i + 1) (by omega) (by omega)
theorem eqFrameS_same (l : List S77) (hl : l.length ≤ 140737488355328) : Ev (fun k => laws_eqFrameS.f k l l) true := by
  unfold laws_eqFrameS.f
  simp only [if_true]
  exact eqFrameS_l0 l hl _ 0 rfl (by omega)
noncomputable def markedF : Nat → Int → List S77
  | 0, _ => []
  | n + 1, k => ⟨k, k + 1, markT (k + 2)⟩ :: markedF n (k + 3)
theorem markedF_snoc (n : Nat) : ∀ k, markedF (n + 1) k = markedF n k ++ [⟨k + 3 * n, k + 3 * n + 1, markT (k + 3 * n + 2)⟩] := by
  induction n with
  | zero => intro k; simp [markedF]
  | succ n ih =>
    intro k
    rw [markedF, ih (k + 3)]
    simp only [markedF, List.cons_append]
    have e : k + 3 + 3 * (n : Int) = k + 3 * ((n + 1 : Nat) : Int) := by omega
    rw [e]
theorem markedF_length (n : Nat) : ∀ k, (markedF n k).length = n := by
  induction n with
  | zero => intro k; rfl
  | succ n ih => intro k; simp [markedF, ih]
theorem rd_set_F (l : List S77) (i : Nat) (v : S77) (h : i < l.length) : rd_T77 (l.set i v) (i : Int) = v := by
  unfold rd_T77
  rw [List.getD_eq_getElem?_getD, Int.toNat_natCast, List.getElem?_set_self h]
  rfl
theorem markFrameS_l0 (n : Nat) (hn : n ≤ 100000000000) (d : Nat) : ∀ (i : Nat) (rest : List S77), rest.length = d → i + d = n →
    Ev (fun k => laws_markFrameS.l0 k (markedF i 1 ++ rest) (1 + 3 * (i : Int)) (i : Int)) (1 + 3 * (n : Int), markedF n 1) := by
  induction d with
  | zero =>
    intro i rest hr hi
    obtain rfl : rest = [] := List.eq_nil_of_length_eq_zero hr
    obtain rfl : i = n := by omega
    refine ev_succ ?_
    simp only [laws_markFrameS.l0, List.append_nil, markedF_length, if_neg (show ¬ (i : Int) < (i : Int) from by omega)]
    exact ev_some rfl
  | succ d ih =>
    intro i rest hr hi
    obtain ⟨x, rest, rfl⟩ : ∃ x t, rest = x :: t := by cases rest with | nil => simp at hr | cons x t => exact ⟨x, t, rfl⟩
    have hr' : rest.length = d := by simpa using hr
    refine ev_succ ?_
    have hlen : (markedF i 1 ++ x :: rest).length = n := by simp [markedF_length]; omega
    have g0 : (i : Int) < ((markedF i 1 ++ x :: rest).length : Int) := by omega
    have g1 : (0 : Int) ≤ (i : Int) := by omega
    have g2 : i < (markedF i 1 ++ x :: rest).length := by omega
    have q1 : -9223372036854775808 ≤ 1 + 3 * (i : Int) + 1 ∧ 1 + 3 * (i : Int) + 1 ≤ 9223372036854775807 := by omega
    have q2 : -9223372036854775808 ≤ 1 + 3 * (i : Int) + 1 + 1 ∧ 1 + 3 * (i : Int) + 1 + 1 ≤ 9223372036854775807 := by omega
    have q3 : -9223372036854775808 ≤ 1 + 3 * (i : Int) + 1 + 1 + 1 ∧ 1 + 3 * (i : Int) + 1 + 1 + 1 ≤ 9223372036854775807 := by omega
    have q4 : 0 ≤ 1 + 3 * (i : Int) + 1 + 1 ∧ 1 + 3 * (i : Int) + 1 + 1 ≤ 1000000000000 := by omega
    have q5 : n ≤ 140737488355328 := by omega
    have q6 : i < n := by omega
    have q7 : 1 + 3 * (i : Int) + 1 + 1 + 1 = 1 + 3 * ((i + 1 : Nat) : Int) := by omega
    have q8 : i + 1 + d = n := by omega
    have e4 : wrap64 ((i : Int) + 1) = ((i + 1 : Nat) : Int) := wn i q6 q5
    have hrd : ∀ v, rd_T77 ((markedF i 1 ++ x :: rest).set i v) (i : Int) = v := fun v => rd_set_F _ i v g2
    have hst : ∀ v, (markedF i 1 ++ x :: rest).set i v = markedF i 1 ++ v :: rest := fun v => by
      rw [List.set_append_right _ _ (by rw [markedF_length]; exact Nat.le_refl _), markedF_length, Nat.sub_self]; rfl
    simp only [laws_markFrameS.l0, if_pos g0, if_pos g1, Option.bind_some, Int.toNat_natCast, List.set_set, hrd, w64 q1.1 q1.2, w64 q2.1 q2.2, w64 q3.1 q3.2, e4]
    clear e4
    refine Ev.bind (markText_ev _ q4.1 q4.2) ?_
    have := ih (i + 1) rest hr' q8
    rw [markedF_snoc] at this
    simp only [hst]
    rw [q7]
    have q9 : (1 : Int) + 3 * (i : Int) + 1 + 1 = 1 + 3 * (i : Int) + 2 := by omega
    rw [q9]
    simpa using this
theorem markFrameS_ev (l : List S77) (hn : l.length ≤ 100000000000) : Ev (fun k => laws_markFrameS.f k l 1) (1 + 3 * (l.length : Int), markedF l.length 1) := by
  unfold laws_markFrameS.f
  simpa [markedF] using markFrameS_l0 l.length hn l.length 0 l rfl (by omega)
theorem markedF_at (n : Nat) : ∀ (k : Int) (i : Nat), i < n → rd_T77 (markedF n k) (i : Int) = ⟨k + 3 * i, k + 3 * i + 1, markT (k + 3 * i + 2)⟩ := by
  induction n with
  | zero => intro k i h; omega
  | succ n ih =>
    intro k i h
    unfold rd_T77
    rw [Int.toNat_natCast]
    cases i with
    | zero => simp [markedF]
    | succ i =>
      have := ih (k + 3) i (by omega)
      unfold rd_T77 at this
      rw [Int.toNat_natCast] at this
      rw [markedF]
      simp only [List.getD_cons_succ]
      rw [this]
      have e : k + 3 + 3 * (i : Int) = k + 3 * ((i + 1 : Nat) : Int) := by omega
      rw [e]
theorem heldFrameS_l0 (n : Nat) (hn : n ≤ 100000000000) (d : Nat) : ∀ (i : Nat), i + d = n → Ev (fun k => laws_heldFrameS.l0 k (markedF n 1) (1 + 3 * (i : Int)) (i : Int)) (1 + 3 * (n : Int)) := by
  induction d with
  | zero =>
    intro i hi
    obtain rfl : i = n := by omega
    refine ev_succ ?_
    simp only [laws_heldFrameS.l0, markedF_length, if_neg (show ¬ (i : Int) < (i : Int) from by omega)]
    exact ev_some rfl
  | succ d ih =>
    intro i hi
    refine ev_succ ?_
    have g0 : (i : Int) < ((markedF n 1).length : Int) := by rw [markedF_length]; omega
    have g1 : (0 : Int) ≤ (i : Int) := by omega
    have q1 : -9223372036854775808 ≤ 1 + 3 * (i : Int) + 1 ∧ 1 + 3 * (i : Int) + 1 ≤ 9223372036854775807 := by omega
    have q2 : -9223372036854775808 ≤ 1 + 3 * (i : Int) + 1 + 1 ∧ 1 + 3 * (i : Int) + 1 + 1 ≤ 9223372036854775807 := by omega
    have q3 : -9223372036854775808 ≤ 1 + 3 * (i : Int) + 1 + 1 + 1 ∧ 1 + 3 * (i : Int) + 1 + 1 + 1 ≤ 9223372036854775807 := by omega
    have q4 : 0 ≤ 1 + 3 * (i : Int) + 1 + 1 ∧ 1 + 3 * (i : Int) + 1 + 1 ≤ 1000000000000 := by omega
    have q5 : n ≤ 140737488355328 := by omega
    have q6 : i < n := by omega
    have q7 : 1 + 3 * (i : Int) + 1 + 1 + 1 = 1 + 3 * ((i + 1 : Nat) : Int) := by omega
    have q8 : i + 1 + d = n := by omega
    have q9 : (1 : Int) + 3 * (i : Int) + 2 = 1 + 3 * (i : Int) + 1 + 1 := by omega
    have e4 : wrap64 ((i : Int) + 1) = ((i + 1 : Nat) : Int) := wn i q6 q5
    simp only [laws_heldFrameS.l0, if_pos g0, if_pos g1, markedF_at n 1 i q6, q9, if_true, w64 q1.1 q1.2, w64 q2.1 q2.2, w64 q3.1 q3.2, e4]
    clear e4
    refine Ev.bind (markText_ev _ q4.1 q4.2) ?_
    simp only [if_true, q7]
    exact ih (i + 1) q8
theorem heldFrameS_ev (n : Nat) (hn : n ≤ 100000000000) : Ev (fun k => laws_heldFrameS.f k (markedF n 1) 1) (1 + 3 * (n : Int)) := by
  unfold laws_heldFrameS.f
  exact heldFrameS_l0 n hn n 0 (by omega)

/-! markdisk -/
noncomputable def markedS : Nat → Int → List ByteArray
  | 0, _ => []
  | n + 1, k => markT k :: markedS n (k + 1)
theorem markedS_snoc (n : Nat) : ∀ k, markedS (n + 1) k = markedS n k ++ [markT (k + n)] := by
  induction n with
  | zero => intro k; simp [markedS]
  | succ n ih =>
    intro k
    rw [markedS, ih (k + 1)]
    simp only [markedS, List.cons_append]
    have e : k + 1 + (n : Int) = k + ((n + 1 : Nat) : Int) := by omega
    rw [e]
theorem markedS_length (n : Nat) : ∀ k, (markedS n k).length = n := by
  induction n with
  | zero => intro k; rfl
  | succ n ih => intro k; simp [markedS, ih]
theorem markStringS_l0 (n : Nat) (b : Int) (hb : 0 ≤ b ∧ b ≤ 100000000000) (hn : n ≤ 100000000000) (d : Nat) : ∀ (i : Nat) (rest : List ByteArray), rest.length = d → i + d = n →
    Ev (fun k => laws_markStringS.l0 k (markedS i b ++ rest) (b + (i : Int)) (i : Int)) (b + (n : Int), markedS n b) := by
  induction d with
  | zero =>
    intro i rest hr hi
    obtain rfl : rest = [] := List.eq_nil_of_length_eq_zero hr
    obtain rfl : i = n := by omega
    refine ev_succ ?_
    simp only [laws_markStringS.l0, List.append_nil, markedS_length, if_neg (show ¬ (i : Int) < (i : Int) from by omega)]
    exact ev_some rfl
  | succ d ih =>
    intro i rest hr hi
    obtain ⟨x, rest, rfl⟩ : ∃ x t, rest = x :: t := by cases rest with | nil => simp at hr | cons x t => exact ⟨x, t, rfl⟩
    have hr' : rest.length = d := by simpa using hr
    refine ev_succ ?_
    have hlen : (markedS i b ++ x :: rest).length = n := by simp [markedS_length]; omega
    have g0 : (i : Int) < ((markedS i b ++ x :: rest).length : Int) := by omega
    have g1 : (0 : Int) ≤ (i : Int) := by omega
    have q1 : -9223372036854775808 ≤ b + (i : Int) + 1 ∧ b + (i : Int) + 1 ≤ 9223372036854775807 := by omega
    have q4 : 0 ≤ b + (i : Int) ∧ b + (i : Int) ≤ 1000000000000 := by omega
    have q5 : n ≤ 140737488355328 := by omega
    have q6 : i < n := by omega
    have q7 : b + (i : Int) + 1 = b + ((i + 1 : Nat) : Int) := by omega
    have q8 : i + 1 + d = n := by omega
    have e4 : wrap64 ((i : Int) + 1) = ((i + 1 : Nat) : Int) := wn i q6 q5
    simp only [laws_markStringS.l0, if_pos g0, if_pos g1, Int.toNat_natCast, set_mid _ _ _ _ i (markedS_length i b), w64 q1.1 q1.2, e4]
    clear e4
    refine Ev.bind (markText_ev _ q4.1 q4.2) ?_
    have := ih (i + 1) rest hr' q8
    rw [markedS_snoc] at this
    rw [q7]
    simpa using this
theorem markStringS_ev (l : List ByteArray) (b : Int) (hb : 0 ≤ b ∧ b ≤ 100000000000) (hn : l.length ≤ 100000000000) : Ev (fun k => laws_markStringS.f k l b) (b + (l.length : Int), markedS l.length b) := by
  unfold laws_markStringS.f
  simpa [markedS] using markStringS_l0 l.length b hb hn l.length 0 l rfl (by omega)
noncomputable def markedW : Nat → Int → List S67
  | 0, _ => []
  | n + 1, k => ⟨k, markT (k + 1)⟩ :: markedW n (k + 2)
theorem markedW_snoc (n : Nat) : ∀ k, markedW (n + 1) k = markedW n k ++ [⟨k + 2 * n, markT (k + 2 * n + 1)⟩] := by
  induction n with
  | zero => intro k; simp [markedW]
  | succ n ih =>
    intro k
    rw [markedW, ih (k + 2)]
    simp only [markedW, List.cons_append]
    have e : k + 2 + 2 * (n : Int) = k + 2 * ((n + 1 : Nat) : Int) := by omega
    rw [e]
theorem markedW_length (n : Nat) : ∀ k, (markedW n k).length = n := by
  induction n with
  | zero => intro k; rfl
  | succ n ih => intro k; simp [markedW, ih]
theorem rd_set_W (l : List S67) (i : Nat) (v : S67) (h : i < l.length) : rd_T67 (l.set i v) (i : Int) = v := by
  unfold rd_T67
  rw [List.getD_eq_getElem?_getD, Int.toNat_natCast, List.getElem?_set_self h]
  rfl
theorem markWriteS_l0 (n : Nat) (b : Int) (hb : 0 ≤ b ∧ b ≤ 100000000000) (hn : n ≤ 100000000000) (d : Nat) : ∀ (i : Nat) (rest : List S67), rest.length = d → i + d = n →
    Ev (fun k => laws_markWriteS.l0 k (markedW i b ++ rest) (b + 2 * (i : Int)) (i : Int)) (b + 2 * (n : Int), markedW n b) := by
  induction d with
  | zero =>
    intro i rest hr hi
    obtain rfl : rest = [] := List.eq_nil_of_length_eq_zero hr
    obtain rfl : i = n := by omega
    refine ev_succ ?_
    simp only [laws_markWriteS.l0, List.append_nil, markedW_length, if_neg (show ¬ (i : Int) < (i : Int) from by omega)]
    exact ev_some rfl
  | succ d ih =>
    intro i rest hr hi
    obtain ⟨x, rest, rfl⟩ : ∃ x t, rest = x :: t := by cases rest with | nil => simp at hr | cons x t => exact ⟨x, t, rfl⟩
    have hr' : rest.length = d := by simpa using hr
    refine ev_succ ?_
    have hlen : (markedW i b ++ x :: rest).length = n := by simp [markedW_length]; omega
    have g0 : (i : Int) < ((markedW i b ++ x :: rest).length : Int) := by omega
    have g1 : (0 : Int) ≤ (i : Int) := by omega
    have g2 : i < (markedW i b ++ x :: rest).length := by omega
    have q1 : -9223372036854775808 ≤ b + 2 * (i : Int) + 1 ∧ b + 2 * (i : Int) + 1 ≤ 9223372036854775807 := by omega
    have q2 : -9223372036854775808 ≤ b + 2 * (i : Int) + 1 + 1 ∧ b + 2 * (i : Int) + 1 + 1 ≤ 9223372036854775807 := by omega
    have q4 : 0 ≤ b + 2 * (i : Int) + 1 ∧ b + 2 * (i : Int) + 1 ≤ 1000000000000 := by omega
    have q5 : n ≤ 140737488355328 := by omega
    have q6 : i < n := by omega
    have q7 : b + 2 * (i : Int) + 1 + 1 = b + 2 * ((i + 1 : Nat) : Int) := by omega
    have q8 : i + 1 + d = n := by omega
    have e4 : wrap64 ((i : Int) + 1) = ((i + 1 : Nat) : Int) := wn i q6 q5
    have hrd : ∀ v, rd_T67 ((markedW i b ++ x :: rest).set i v) (i : Int) = v := fun v => rd_set_W _ i v g2
    have hst : ∀ v, (markedW i b ++ x :: rest).set i v = markedW i b ++ v :: rest := fun v => set_mid _ _ _ _ i (markedW_length i b)
    simp only [laws_markWriteS.l0, if_pos g0, if_pos g1, Option.bind_some, Int.toNat_natCast, List.set_set, hrd, w64 q1.1 q1.2, w64 q2.1 q2.2, e4]
    clear e4
    refine Ev.bind (markText_ev _ q4.1 q4.2) ?_
    have := ih (i + 1) rest hr' q8
    rw [markedW_snoc] at this
    simp only [hst]
    rw [q7]
    simpa using this
theorem markWriteS_ev (l : List S67) (b : Int) (hb : 0 ≤ b ∧ b ≤ 100000000000) (hn : l.length ≤ 100000000000) : Ev (fun k => laws_markWriteS.f k l b) (b + 2 * (l.length : Int), markedW l.length b) := by
  unfold laws_markWriteS.f
  simpa [markedW] using markWriteS_l0 l.length b hb hn l.length 0 l rfl (by omega)
theorem markDisk_ev (l0 : List ByteArray) (l1 : List S67) (h0 : l0.length ≤ 10000000) (h1 : l1.length ≤ 10000000) : Ev (fun k => laws_markDisk.f k l0 l1 1) (1 + (l0.length : Int) + 2 * (l1.length : Int), markedS l0.length 1, markedW l1.length (1 + (l0.length : Int))) := by
  unfold laws_markDisk.f
  refine Ev.bind (markStringS_ev l0 1 (by omega) (by omega)) ?_
  refine Ev.bind (markWriteS_ev l1 _ (by simp; omega) (by omega)) ?_
  exact ev_some rfl

def QWrite (x : S84) : Prop := (Lit.int .i64 x.f0).wf = true ∧ x.f1.size ≤ maxLen
theorem FnExactSegFrames (l0 : List ByteArray) (l1 : List S84) (g : Int) (h0 : l0.length ≤ maxLen) (q0 : ∀ s, s ∈ l0 → s.size ≤ maxLen) (h1 : l1.length ≤ maxLen) (q1 : ∀ s, s ∈ l1 → QWrite s) (hg : (Lit.int .i64 g).wf = true) : ∃ k, laws_FnExactSegFrames.f k l0 l1 g = some true := by
  refine Ev.rounds ?_
  unfold laws_FnExactSegFrames.f
  obtain ⟨m, hm, hb⟩ := szDisk_ev l0 l1 h0 h1 q0 (fun s hs => (q1 s hs).2)
  refine Ev.bind hm ?_
  refine ev_if (fun _ => ev_some rfl) (fun hm0 => ?_)
  obtain ⟨b0, b1, b2, b3⟩ := hb (by omega)
  have ht := toDisk_ev l0 l1 b0 b1
  have hml : (l1.map toW).length ≤ 1048576 := by simpa using b1
  have b4 : ∀ w, w ∈ l1.map toW → w.f1.size ≤ 1048576 := by
    intro w hw
    obtain ⟨w', h1, rfl⟩ := List.mem_map.1 hw
    exact b3 w' h1
  have e1 := spec_SegFrames_evB l0 (l1.map toW) b0 hml b2 b4 g
  have e2 := impl_SegFrames_evB l0 (l1.map toW) b0 hml b2 b4 g
  have hz := segTextM_size l0 ((l1.map toW).map W2) g 1048576 b2 (by intro w hw; obtain ⟨w', h1, rfl⟩ := List.mem_map.1 hw; exact b4 w' h1)
  have hln := segFramesM_length l0 ((l1.map toW).map W2) g
  obtain ⟨l, hl⟩ : ∃ l, (segFramesM l0 ((l1.map toW).map W2) g).1.map toS = l := ⟨_, rfl⟩
  obtain ⟨n, hnn⟩ : ∃ n, (segFramesM l0 ((l1.map toW).map W2) g).2 = n := ⟨_, rfl⟩
  have hn : l.length ≤ 104857600 := by rw [← hl, List.length_map]; omega
  rw [hl, hnn] at e1 e2
  refine Ev.bind ht ?_
  refine Ev.bind e1 ?_
  refine Ev.bind ht ?_
  refine Ev.bind e2 ?_
  refine Ev.bind (eqFrameS_same l (by omega)) ?_
  simp only [if_true, bne_self_eq_false]
  refine ev_succ ?_
  simp only [laws_FnExactSegFrames.j0, Bool.false_eq_true, if_false]
  refine Ev.bind ht ?_
  refine Ev.bind (eqDisk_same l0 (l1.map toW) (by omega) (by omega)) ?_
  simp only [if_true]
  refine Ev.bind (markDisk_ev l0 (l1.map toW) (by omega) (by omega)) ?_
  simp only [if_neg (show ¬ 1 + (l0.length : Int) + 2 * ((l1.map toW).length : Int) < 0 by omega)]
  refine Ev.bind (eqFrameS_same l (by omega)) ?_
  simp only [if_true, bne_self_eq_false]
  refine ev_succ ?_
  simp only [laws_FnExactSegFrames.j1, Bool.false_eq_true, if_false]
  refine Ev.bind (markFrameS_ev l (by omega)) ?_
  refine Ev.bind (heldFrameS_ev l.length (by omega)) ?_
  simp only [if_neg (show ¬ 1 + 3 * (l.length : Int) < 0 from by omega), if_true]
  refine Ev.bind ht ?_
  refine Ev.bind e2 ?_
  refine Ev.bind (eqFrameS_same l (by omega)) ?_
  simp only [if_true, bne_self_eq_false]
  refine ev_succ ?_
  simp only [laws_FnExactSegFrames.j2, Bool.false_eq_true, if_false]
  refine Ev.bind (heldFrameS_ev l.length (by omega)) ?_
  simp only [if_neg (show ¬ 1 + 3 * (l.length : Int) < 0 from by omega), if_true]
  exact ev_some rfl

end Go.Proofs.Ytdnjjdmlmfoljaa.Pure
