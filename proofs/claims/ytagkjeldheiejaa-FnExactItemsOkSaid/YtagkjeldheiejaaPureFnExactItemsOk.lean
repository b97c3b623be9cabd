/- The pure statement of FnExactItemsOk, over numbers and lists: it is true of every argument; no condition but the bounds that the statement itself names. -/
import Derived.Test.YtagkjeldheiejaaPFnExactItemsOkx9
import Derived.Test.YtagkjeldheiejaaVFnExactItemsOk1
set_option linter.unusedVariables false
set_option linter.unusedSimpArgs false
namespace Go.Proofs.Ytagkjeldheiejaa.Pure
open Go.RowKit Go.Proofs.Ytagkjeldheiejaa.PFnExactItemsOk Go.Proofs.YtagkjeldheiejaaW.PrintWords Go.Proofs.YtagkjeldheiejaaW.PrintLast Go.Proofs.YtagkjeldheiejaaW.PrintMore Go.Proofs.Ytagkjeldheiejaa.Base

/-! in -/
theorem spec_in_eq (a b c : Int) : spec_l01In.f a b c = some (decide (b ≤ a ∧ a ≤ c)) := by
  unfold spec_l01In.f
  by_cases h : a ≥ b <;> by_cases h2 : a ≤ c <;> simp [h, h2] <;> omega
theorem impl_in_eq (a b c : Int) : impl_in.f a b c = some (decide (b ≤ a ∧ a ≤ c)) := by
  unfold impl_in.f
  by_cases h : a ≥ b <;> by_cases h2 : a ≤ c <;> simp [h, h2] <;> omega

/-! wordok -/
theorem spec_WordOk_l0 (x : ByteArray) (hx : x.size ≤ 140737488351232) (d : Nat) : ∀ i : Nat, x.size - i = d → i ≤ x.size →
    Ev (fun k => spec_WordOk.l0 k x (i : Int)) (wordB ((bytesOf x).drop i) && decide (1 ≤ (x.size : Int) ∧ (x.size : Int) ≤ 8)) := by
  induction d with
  | zero =>
    intro i hd hi
    refine ev_succ ?_
    simp only [spec_WordOk.l0, if_neg (show ¬ (i : Int) < (x.size : Int) from by omega), spec_in_eq, Option.bind_some]
    rw [bytes_end x i (by omega)]
    exact ev_some rfl
  | succ d ih =>
    intro i hd hi
    refine ev_succ ?_
    have hl : (i : Int) < (x.size : Int) := by omega
    rw [bytes_drop x i (by omega), wordB_cons]
    simp only [spec_WordOk.l0, if_pos hl, if_pos (show (0 : Int) ≤ (i : Int) from by omega), wn i (show i < x.size from by omega) (by omega)]
    by_cases h1 : bt x (i : Int) < 97
    · simp only [if_pos h1]
      rw [decide_eq_false (by omega)]
      exact ev_some rfl
    · by_cases h2 : bt x (i : Int) > 122
      · simp only [if_neg h1, if_pos h2]
        rw [decide_eq_false (by omega)]
        exact ev_some rfl
      · simp only [if_neg h1, if_neg h2]
        rw [decide_eq_true (by omega)]
        exact ih (i + 1) (by omega) (by omega)
theorem impl_WordOk_l0 (x : ByteArray) (hx : x.size ≤ 140737488351232) (d : Nat) : ∀ i : Nat, x.size - i = d → i ≤ x.size →
    Ev (fun k => impl_WordOk.l0 k x (x.size : Int) (i : Int)) (wordB ((bytesOf x).drop i)) := by
  induction d with
  | zero =>
    intro i hd hi
    refine ev_succ ?_
    simp only [impl_WordOk.l0, if_neg (show ¬ (i : Int) < (x.size : Int) from by omega)]
    rw [bytes_end x i (by omega)]
    exact ev_some rfl
  | succ d ih =>
    intro i hd hi
    refine ev_succ ?_
    have hl : (i : Int) < (x.size : Int) := by omega
    rw [bytes_drop x i (by omega), wordB_cons]
    simp only [impl_WordOk.l0, if_pos hl, if_pos (show (0 : Int) ≤ (i : Int) from by omega), wn i (show i < x.size from by omega) (by omega)]
    by_cases h1 : bt x (i : Int) < 97
    · simp only [if_pos h1]
      rw [decide_eq_false (by omega)]
      exact ev_some rfl
    · by_cases h2 : bt x (i : Int) > 122
      · simp only [if_neg h1, if_pos h2]
        rw [decide_eq_false (by omega)]
        exact ev_some rfl
      · simp only [if_neg h1, if_neg h2]
        rw [decide_eq_true (by omega)]
        exact ih (i + 1) (by omega) (by omega)
theorem spec_WordOk_ev (x : ByteArray) (hx : x.size ≤ 140737488351232) : Ev (fun k => spec_WordOk.f k x) (wordM x) := by
  simpa [spec_WordOk.f, wordM] using spec_WordOk_l0 x hx _ 0 rfl (by omega)
theorem impl_WordOk_ev (x : ByteArray) (hx : x.size ≤ 140737488351232) : Ev (fun k => impl_WordOk.f k x) (wordM x) := by
  simp only [impl_WordOk.f, impl_in_eq, Option.bind_some, wordM]
  by_cases h : 1 ≤ (x.size : Int) ∧ (x.size : Int) ≤ 8
  · simp only [decide_eq_true h, if_true, Bool.and_true]
    simpa using impl_WordOk_l0 x hx _ 0 rfl (by omega)
  · simp only [decide_eq_false h, Bool.false_eq_true, if_false, Bool.and_false]
    exact ev_some rfl

/-! recok -/
theorem spec_RecOk_ev (a0 a1 a2 a3 a4 : Int) (x5 x6 x7 : ByteArray) (h5 : x5.size ≤ 140737488351232) (h6 : x6.size ≤ 140737488351232) : Ev (fun k => spec_RecOk.f k a0 a1 a2 a3 a4 x5 x6 x7) (recOkM a0 a1 a2 a3 a4 x5 x6 x7) := by
  have t5 := tl_nil x5
  have t6 := tl_nil x6
  have t7 := tl_nil x7
  unfold spec_RecOk.f
  simp only [spec_in_eq, Option.bind_some]
  repeat' first
    | refine ev_if (fun _ => ?_) (fun _ => ?_)
    | refine Ev.bind (spec_WordOk_ev _ (by assumption)) ?_
    | refine ev_some ?_
  all_goals (unfold recOkM; grind)
def ri3 (g : Bool) (a0 a1 a2 a3 a4 : Int) (x5 x6 x7 : ByteArray) (b0 b1 b2 b3 b4 : Int) (y5 y6 y7 : ByteArray) : Bool := if a0 = 1 then (if wordM x5 = true then (if wordM x6 = true then (if decide (1 ≤ a3 ∧ a3 ≤ 10000) = true then (b0 == 0 && (b1 == 0 && (b2 == 0 && (b4 == 0 && (y7.toList == ([] : List UInt8)))))) else false) else false) else false) else if a0 = 3 then (if g = true then (if (x7.size : Int) ≤ 100 then (b0 == 0 && (b1 == 0 && (b2 == 0 && (b3 == 0 && (b4 == 0 && ((y5.toList == ([] : List UInt8)) && (y6.toList == ([] : List UInt8)))))))) else false) else false) else if a0 = 2 then (if g = true then (b0 == 0 && (b1 == 0 && (b2 == 0 && (b3 == 0 && (b4 == 0 && ((y5.toList == ([] : List UInt8)) && ((y6.toList == ([] : List UInt8)) && (y7.toList == ([] : List UInt8))))))))) else false) else if a0 = 4 then (if g = true then (b0 == 0 && (b1 == 0 && (b2 == 0 && (b3 == 0 && (b4 == 0 && ((y5.toList == ([] : List UInt8)) && ((y6.toList == ([] : List UInt8)) && (y7.toList == ([] : List UInt8))))))))) else false) else if a0 = 5 then (if g = true then (b0 == 0 && (b1 == 0 && (b2 == 0 && (b3 == 0 && (b4 == 0 && ((y5.toList == ([] : List UInt8)) && ((y6.toList == ([] : List UInt8)) && (y7.toList == ([] : List UInt8))))))))) else false) else false
def ri2 (g t : Bool) (a0 a1 a2 a3 a4 : Int) (x5 x6 x7 : ByteArray) (b0 b1 b2 b3 b4 : Int) (y5 y6 y7 : ByteArray) : Bool := if t = true then (if g = true then ri3 (decide (0 ≤ a4 ∧ a4 ≤ 7)) a0 a1 a2 a3 a4 x5 x6 x7 b0 b1 b2 b3 0 y5 y6 y7 else ri3 false a0 a1 a2 a3 a4 x5 x6 x7 b0 b1 b2 b3 0 y5 y6 y7) else ri3 g a0 a1 a2 a3 a4 x5 x6 x7 b0 b1 b2 b3 b4 y5 y6 y7
def ri1 (g : Bool) (a0 a1 a2 a3 a4 : Int) (x5 x6 x7 : ByteArray) (b0 b1 b2 b3 b4 : Int) (y5 y6 y7 : ByteArray) : Bool := if a0 = 3 then ri2 g true a0 a1 a2 a3 a4 x5 x6 x7 b0 b1 b2 b3 b4 y5 y6 y7 else ri2 g (a0 == 4) a0 a1 a2 a3 a4 x5 x6 x7 b0 b1 b2 b3 b4 y5 y6 y7
def ri0 (g t : Bool) (a0 a1 a2 a3 a4 : Int) (x5 x6 x7 : ByteArray) (b0 b1 b2 b3 b4 : Int) (y5 y6 y7 : ByteArray) : Bool := if t = true then ri1 (decide (1 ≤ a2 ∧ a2 ≤ 9999)) a0 a1 a2 a3 a4 x5 x6 x7 b0 b1 0 b3 b4 y5 y6 y7 else ri1 g a0 a1 a2 a3 a4 x5 x6 x7 b0 b1 b2 b3 b4 y5 y6 y7
def rif (a0 a1 a2 a3 a4 : Int) (x5 x6 x7 : ByteArray) : Bool := if decide (1 ≤ a1 ∧ a1 ≤ 9999) = true then (if a0 = 3 then ri0 true true a0 a1 a2 a3 a4 x5 x6 x7 0 0 a2 a3 a4 x5 x6 x7 else if a0 = 4 then ri0 true true a0 a1 a2 a3 a4 x5 x6 x7 0 0 a2 a3 a4 x5 x6 x7 else ri0 true (a0 == 5) a0 a1 a2 a3 a4 x5 x6 x7 0 0 a2 a3 a4 x5 x6 x7) else false
theorem impl_RecOk_j3 (g : Bool) (a0 a1 a2 a3 a4 : Int) (x5 x6 x7 : ByteArray) (b0 b1 b2 b3 b4 : Int) (y5 y6 y7 : ByteArray) (h5 : x5.size ≤ 140737488351232) (h6 : x6.size ≤ 140737488351232) : Ev (fun k => impl_RecOk.j3 k g a0 a1 a2 a3 a4 x5 x6 x7 b0 b1 b2 b3 b4 y5 y6 y7) (ri3 g a0 a1 a2 a3 a4 x5 x6 x7 b0 b1 b2 b3 b4 y5 y6 y7) := by
  refine ev_succ ?_
  simp only [impl_RecOk.j3, impl_in_eq, Option.bind_some]
  exact ev_ite (Ev.bind (impl_WordOk_ev x5 h5) (ev_ite (Ev.bind (impl_WordOk_ev x6 h6) (ev_ite (ev_ite (ev_some rfl) (ev_some rfl)) (ev_some rfl))) (ev_some rfl))) (ev_ite (ev_ite (ev_ite (ev_some rfl) (ev_some rfl)) (ev_some rfl)) (ev_ite (ev_ite (ev_some rfl) (ev_some rfl)) (ev_ite (ev_ite (ev_some rfl) (ev_some rfl)) (ev_ite (ev_ite (ev_some rfl) (ev_some rfl)) (ev_some rfl)))))
theorem impl_RecOk_j2 (g t : Bool) (a0 a1 a2 a3 a4 : Int) (x5 x6 x7 : ByteArray) (b0 b1 b2 b3 b4 : Int) (y5 y6 y7 : ByteArray) (h5 : x5.size ≤ 140737488351232) (h6 : x6.size ≤ 140737488351232) : Ev (fun k => impl_RecOk.j2 k g t a0 a1 a2 a3 a4 x5 x6 x7 b0 b1 b2 b3 b4 y5 y6 y7) (ri2 g t a0 a1 a2 a3 a4 x5 x6 x7 b0 b1 b2 b3 b4 y5 y6 y7) := by
  refine ev_succ ?_
  simp only [impl_RecOk.j2, impl_in_eq, Option.bind_some]
  exact ev_ite (ev_ite (impl_RecOk_j3 _ a0 a1 a2 a3 a4 x5 x6 x7 _ _ _ _ _ _ _ _ h5 h6) (impl_RecOk_j3 _ a0 a1 a2 a3 a4 x5 x6 x7 _ _ _ _ _ _ _ _ h5 h6)) (impl_RecOk_j3 _ a0 a1 a2 a3 a4 x5 x6 x7 _ _ _ _ _ _ _ _ h5 h6)
theorem impl_RecOk_j1 (g : Bool) (a0 a1 a2 a3 a4 : Int) (x5 x6 x7 : ByteArray) (b0 b1 b2 b3 b4 : Int) (y5 y6 y7 : ByteArray) (h5 : x5.size ≤ 140737488351232) (h6 : x6.size ≤ 140737488351232) : Ev (fun k => impl_RecOk.j1 k g a0 a1 a2 a3 a4 x5 x6 x7 b0 b1 b2 b3 b4 y5 y6 y7) (ri1 g a0 a1 a2 a3 a4 x5 x6 x7 b0 b1 b2 b3 b4 y5 y6 y7) := by
  refine ev_succ ?_
  simp only [impl_RecOk.j1, impl_in_eq, Option.bind_some]
  exact ev_ite (impl_RecOk_j2 _ _ a0 a1 a2 a3 a4 x5 x6 x7 _ _ _ _ _ _ _ _ h5 h6) (impl_RecOk_j2 _ _ a0 a1 a2 a3 a4 x5 x6 x7 _ _ _ _ _ _ _ _ h5 h6)
theorem impl_RecOk_j0 (g t : Bool) (a0 a1 a2 a3 a4 : Int) (x5 x6 x7 : ByteArray) (b0 b1 b2 b3 b4 : Int) (y5 y6 y7 : ByteArray) (h5 : x5.size ≤ 140737488351232) (h6 : x6.size ≤ 140737488351232) : Ev (fun k => impl_RecOk.j0 k g t a0 a1 a2 a3 a4 x5 x6 x7 b0 b1 b2 b3 b4 y5 y6 y7) (ri0 g t a0 a1 a2 a3 a4 x5 x6 x7 b0 b1 b2 b3 b4 y5 y6 y7) := by
  refine ev_succ ?_
  simp only [impl_RecOk.j0, impl_in_eq, Option.bind_some]
  exact ev_ite (impl_RecOk_j1 _ a0 a1 a2 a3 a4 x5 x6 x7 _ _ _ _ _ _ _ _ h5 h6) (impl_RecOk_j1 _ a0 a1 a2 a3 a4 x5 x6 x7 _ _ _ _ _ _ _ _ h5 h6)
theorem impl_rec_same (a0 a1 a2 a3 a4 : Int) (x5 x6 x7 : ByteArray) : rif a0 a1 a2 a3 a4 x5 x6 x7 = recOkM a0 a1 a2 a3 a4 x5 x6 x7 := by
  have t5 := tl_nil x5
  have t6 := tl_nil x6
  have t7 := tl_nil x7
  unfold rif ri0 ri1 ri2 ri3 recOkM
  grind
theorem impl_RecOk_ev (a0 a1 a2 a3 a4 : Int) (x5 x6 x7 : ByteArray) (h5 : x5.size ≤ 140737488351232) (h6 : x6.size ≤ 140737488351232) : Ev (fun k => impl_RecOk.f k a0 a1 a2 a3 a4 x5 x6 x7) (recOkM a0 a1 a2 a3 a4 x5 x6 x7) := by
  rw [← impl_rec_same]
  unfold impl_RecOk.f
  simp only [impl_in_eq, Option.bind_some]
  exact ev_ite (ev_ite (impl_RecOk_j0 _ _ a0 a1 a2 a3 a4 x5 x6 x7 _ _ _ _ _ _ _ _ h5 h6) (ev_ite (impl_RecOk_j0 _ _ a0 a1 a2 a3 a4 x5 x6 x7 _ _ _ _ _ _ _ _ h5 h6) (impl_RecOk_j0 _ _ a0 a1 a2 a3 a4 x5 x6 x7 _ _ _ _ _ _ _ _ h5 h6))) (ev_some rfl)

/-! eqrec -/
theorem eqRec_same (a0 a1 a2 a3 a4 : Int) (x5 x6 x7 : ByteArray) : laws_eqRec.f a0 a1 a2 a3 a4 x5 x6 x7 a0 a1 a2 a3 a4 x5 x6 x7 = some true := by
  unfold laws_eqRec.f
  simp

/-! items -/
def toI (x : S98) : S32 := ⟨x.f0, ⟨x.f1.f0, x.f1.f1, x.f1.f2, x.f1.f3, x.f1.f4, x.f1.f5, x.f1.f6, x.f1.f7⟩⟩
theorem getD_dropI {α : Type} (d : α) (l : List α) (i : Nat) (h : i < l.length) : l.drop i = l.getD i d :: l.drop (i + 1) := by
  rw [List.drop_eq_getElem_cons h, List.getD_eq_getElem?_getD, List.getElem?_eq_getElem h]
  rfl
theorem set_midI {α : Type} (l r : List α) (x v : α) (i : Nat) (h : l.length = i) : (l ++ x :: r).set i v = l ++ v :: r := by
  rw [List.set_append_right _ _ (by omega), h, Nat.sub_self]
  rfl
theorem getD_mem {α : Type} (d : α) (l : List α) (i : Nat) (h : i < l.length) : l.getD i d ∈ l := by
  rw [List.getD_eq_getElem?_getD, List.getElem?_eq_getElem h]
  exact List.getElem_mem h
def SzI (x : S98) (n : Nat) : Prop := x.f1.f5.size ≤ n ∧ x.f1.f6.size ≤ n ∧ x.f1.f7.size ≤ n
theorem szItem_left (x : S98) (hs : SzI x maxLen) (left : Int) (hl : 0 ≤ left ∧ left ≤ 1048576) :
    ∃ m : Int, laws_szItem.f x.f0 x.f1.f0 x.f1.f1 x.f1.f2 x.f1.f3 x.f1.f4 x.f1.f5 x.f1.f6 x.f1.f7 left = some m ∧ m ≤ left ∧ (0 ≤ m → SzI x 1048576) ∧ (m < 0 → m = -1) := by
  obtain ⟨x0, ⟨x1, x2, x3, x4, x5, x6, x7, x8⟩⟩ := x
  obtain ⟨h5, h6, h7⟩ := hs
  have h5' : x6.size ≤ 9223372036854775807 := h5
  have h6' : x7.size ≤ 9223372036854775807 := h6
  have h7' : x8.size ≤ 9223372036854775807 := h7
  unfold laws_szItem.f laws_szRec.f SzI
  simp only
  rw [w64 (x := left - (x6.size : Int)) (by omega) (by omega)]
  by_cases c5 : left - (x6.size : Int) < 0
  · rw [if_pos c5]; exact ⟨-1, rfl, by omega, by omega, fun _ => rfl⟩
  rw [if_neg c5, w64 (x := left - (x6.size : Int) - (x7.size : Int)) (by omega) (by omega)]
  by_cases c6 : left - (x6.size : Int) - (x7.size : Int) < 0
  · rw [if_pos c6]; exact ⟨-1, rfl, by omega, by omega, fun _ => rfl⟩
  rw [if_neg c6, w64 (x := left - (x6.size : Int) - (x7.size : Int) - (x8.size : Int)) (by omega) (by omega)]
  by_cases c7 : left - (x6.size : Int) - (x7.size : Int) - (x8.size : Int) < 0
  · rw [if_pos c7]; exact ⟨-1, rfl, by omega, by omega, fun _ => rfl⟩
  · rw [if_neg c7, Option.bind_some, if_neg c7]; exact ⟨_, rfl, by omega, by omega, fun h => absurd h c7⟩
theorem szItemS_l0 (l : List S98) (hl : l.length ≤ 1048576) (hs : ∀ s, s ∈ l → SzI s maxLen) (d : Nat) : ∀ (i : Nat) (left : Int), l.length - i = d → i ≤ l.length → 0 ≤ left ∧ left ≤ 1048576 →
    ∃ m, Ev (fun k => laws_szItemS.l0 k l left (i : Int)) m ∧ m ≤ left ∧ (0 ≤ m → ∀ s, s ∈ l.drop i → SzI s 1048576) := by
  induction d with
  | zero =>
    intro i left hd hi hleft
    refine ⟨left, ev_succ ?_, by omega, ?_⟩
    · simp only [laws_szItemS.l0, if_neg (show ¬ (i : Int) < (l.length : Int) from by omega)]
      exact ev_some rfl
    · intro _ s hs
      rw [List.drop_eq_nil_of_le (by omega)] at hs
      simp at hs
  | succ d ih =>
    intro i left hd hi hleft
    have hlt : i < l.length := by omega
    have hrd : rd_T98 l (i : Int) = l.getD i z98 := by unfold rd_T98; rw [Int.toNat_natCast]
    have g1 : (i : Int) < (l.length : Int) := by omega
    have g2 : (0 : Int) ≤ (i : Int) := by omega
    obtain ⟨m, e1, hle1, hz1, hneg⟩ := szItem_left (l.getD i z98) (hs _ (getD_mem _ l i hlt)) left hleft
    by_cases h : m < 0
    · refine ⟨-1, ev_succ ?_, by omega, fun h => by omega⟩
      simp only [laws_szItemS.l0, if_pos g1, if_pos g2, hrd, e1, Option.bind_some, if_pos h]
      exact ev_some rfl
    · obtain ⟨m2, hm, hle, hall⟩ := ih (i + 1) m (by omega) (by omega) (by omega)
      refine ⟨m2, ev_succ ?_, by omega, ?_⟩
      · simp only [laws_szItemS.l0, if_pos g1, if_pos g2, hrd, e1, Option.bind_some, if_neg h, wn i hlt (show l.length ≤ 140737488355328 from Nat.le_trans hl (by decide))]
        exact hm
      · intro h0 s hs'
        rw [getD_dropI z98 l i hlt] at hs'
        rcases List.mem_cons.1 hs' with rfl | hs'
        · exact hz1 (by omega)
        · exact hall h0 s hs'
theorem szItemS_ev (l : List S98) (hl : l.length ≤ maxLen) (hs : ∀ s, s ∈ l → SzI s maxLen) : ∃ m, Ev (fun k => laws_szItemS.f k l 1048576) m ∧ (0 ≤ m → l.length ≤ 1048576 ∧ ∀ s, s ∈ l → SzI s 1048576) := by
  have hl' : l.length ≤ 9223372036854775807 := hl
  unfold laws_szItemS.f
  have e0 := w64 (x := 1048576 - (l.length : Int)) (by omega) (by omega)
  simp only [e0]
  clear e0
  by_cases c0 : 1048576 - (l.length : Int) < 0
  · refine ⟨-1, ?_, by omega⟩
    simp only [if_pos c0]
    exact ev_some rfl
  · obtain ⟨m0, e0, hle0, hall0⟩ := szItemS_l0 l (by omega) hs _ 0 (1048576 - (l.length : Int)) rfl (by omega) (by omega)
    refine ⟨m0, ?_, fun h => ⟨by omega, by simpa using hall0 h⟩⟩
    simp only [if_neg c0]
    exact e0
theorem toItemS_l0 (l : List S98) (hl : l.length ≤ 1048576) (d : Nat) : ∀ (i : Nat) (rest : List S32), rest.length = d → i + d = l.length →
    Ev (fun k => laws_toItemS.l0 k l ((l.map toI).take i ++ rest) (i : Int)) (l.map toI) := by
  induction d with
  | zero =>
    intro i rest hr hi
    obtain rfl : rest = [] := List.eq_nil_of_length_eq_zero hr
    refine ev_succ ?_
    simp only [laws_toItemS.l0, if_neg (show ¬ (i : Int) < (l.length : Int) from by omega), List.append_nil]
    exact ev_some (List.take_of_length_le (by simp; omega))
  | succ d ih =>
    intro i rest hr hi
    obtain ⟨x, rest, rfl⟩ : ∃ x t, rest = x :: t := by cases rest with | nil => simp at hr | cons x t => exact ⟨x, t, rfl⟩
    have hlt : i < l.length := by omega
    have hlt2 : i < (l.map toI).length := by simpa using hlt
    have hlen : ((l.map toI).take i ++ x :: rest).length = l.length := by simp at hr ⊢; omega
    have hr' : rest.length = d := by simpa using hr
    have htk : ((l.map toI).take i).length = i := by simp; omega
    have hrd : rd_T98 l (i : Int) = l.getD i z98 := by unfold rd_T98; rw [Int.toNat_natCast]
    refine ev_succ ?_
    have g1 : (i : Int) < (l.length : Int) := by omega
    have g2 : (0 : Int) ≤ (i : Int) := by omega
    simp only [laws_toItemS.l0, laws_toItem.f, laws_toRec.f, Option.bind_some, hlen, hrd, if_pos g1, if_pos g2, Int.toNat_natCast, set_midI _ _ _ _ i htk, wn i hlt (show l.length ≤ 140737488355328 from Nat.le_trans hl (by decide))]
    have := ih (i + 1) rest hr' (by omega)
    rw [List.take_succ_eq_append_getElem hlt2, List.append_assoc, List.cons_append, List.nil_append] at this
    have e : (l.map toI)[i] = toI (l.getD i z98) := by rw [List.getElem_map, List.getD_eq_getElem?_getD, List.getElem?_eq_getElem hlt]; rfl
    rw [e] at this
    exact this
theorem toItemS_ev (l : List S98) (hl : l.length ≤ 1048576) : Ev (fun k => laws_toItemS.f k l) (l.map toI) := by
  unfold laws_toItemS.f
  have := toItemS_l0 l hl l.length 0 (List.replicate l.length z32) (by simp) (by omega)
  simp only [if_pos (show (0 : Int) ≤ (l.length : Int) by omega), Int.toNat_natCast, if_pos (show l.length ≤ 2932031007402 by omega)]
  simpa using this
theorem eqItem_same (a b1 b2 b3 b4 b5 : Int) (x6 x7 x8 : ByteArray) : laws_eqItem.f a b1 b2 b3 b4 b5 x6 x7 x8 a b1 b2 b3 b4 b5 x6 x7 x8 = some true := by
  unfold laws_eqItem.f
  simp only [if_true, eqRec_same, Option.bind_some]
theorem eqItemS_l0 (l : List S32) (hl : l.length ≤ 140737488355328) (d : Nat) : ∀ i : Nat, l.length - i = d → i ≤ l.length → Ev (fun k => laws_eqItemS.l0 k l l (i : Int)) true := by
  induction d with
  | zero =>
    intro i hd hi
    refine ev_succ ?_
    simp only [laws_eqItemS.l0, if_neg (show ¬ (i : Int) < (l.length : Int) from by omega)]
    exact ev_some rfl
  | succ d ih =>
    intro i hd hi
    refine ev_succ ?_
    simp only [laws_eqItemS.l0, if_pos (show (i : Int) < (l.length : Int) from by omega), if_pos (show (0 : Int) ≤ (i : Int) from by omega), eqItem_same, Option.bind_some, if_true, wn i (show i < l.length from by omega) (by omega)]
    exact ih (i + 1) (by omega) (by omega)
theorem eqItemS_same (l : List S32) (hl : l.length ≤ 140737488355328) : Ev (fun k => laws_eqItemS.f k l l) true := by
  unfold laws_eqItemS.f
  simp only [if_true]
  exact eqItemS_l0 l hl _ 0 rfl (by omega)

/-! itemsok -/
def okI (x : S32) : Bool := recOkM x.f1.f0 x.f1.f1 x.f1.f2 x.f1.f3 x.f1.f4 x.f1.f5 x.f1.f6 x.f1.f7
def SzJ (x : S32) : Prop := x.f1.f5.size ≤ 1048576 ∧ x.f1.f6.size ≤ 1048576
def itemsGo (l : List S32) : Nat → Nat → Bool
  | 0, _ => true
  | n + 1, i => if (1 ≤ (l.getD i z32).f0 ∧ (l.getD i z32).f0 ≤ 1000000000) then (if okI (l.getD i z32) = true then (if (l.take i).any (itBad (l.getD i z32)) = true then false else itemsGo l n (i + 1)) else false) else false
def itemsOkM (l : List S32) : Bool := itemsGo l l.length 0 && decide ((l.length : Int) ≤ 200)
theorem rd_it (l : List S32) (i : Nat) : rd_T32 l (i : Int) = l.getD i z32 := by unfold rd_T32; rw [Int.toNat_natCast]
theorem impl_ItemsOk_go (l : List S32) (hs : ∀ x, x ∈ l → SzJ x) (n : Nat) : ∀ i, n + i = l.length → Ev (fun k => impl_ItemsOk.go k l n i) (itemsGo l n i) := by
  induction n with
  | zero => intro i _; exact ev_some rfl
  | succ n ih =>
    intro i hi
    have hz := hs _ (getD_mem z32 l i (by omega))
    unfold SzJ at hz
    simp only [impl_ItemsOk.go, itemsGo, rd_it, okI]
    exact ev_ite (Ev.bind (impl_RecOk_ev _ _ _ _ _ _ _ _ (by omega) (by omega)) (ev_ite (ev_ite (ev_some rfl) (ih (i + 1) (by omega))) (ev_some rfl))) (ev_some rfl)
theorem impl_ItemsOk_ev (l : List S32) (hs : ∀ x, x ∈ l → SzJ x) : Ev (fun k => impl_ItemsOk.f k l) (itemsOkM l) := by
  unfold impl_ItemsOk.f itemsOkM
  refine ev_if (fun h => ev_some ?_) (fun h => ?_)
  · rw [decide_eq_false (by omega), Bool.and_false]
  · rw [decide_eq_true (by omega), Bool.and_true]
    exact impl_ItemsOk_go l hs _ 0 (by omega)
theorem ev_cong {α : Type} {f g : Nat → Option α} {r : α} (h : ∀ k, f k = g k) (hg : Ev g r) : Ev f r := by
  have e : f = g := funext h
  rw [e]
  exact hg
theorem itBad_cond (x y : S32) : (if y.f0 = x.f0 then (if (!(y.f0 == x.f0) || ((!(y.f1.f0 == x.f1.f0)) || (!(y.f1.f1 == x.f1.f1) || (!(y.f1.f2 == x.f1.f2) || (!(y.f1.f3 == x.f1.f3) || (!(y.f1.f4 == x.f1.f4) || (!(y.f1.f5.toList == x.f1.f5.toList) || (!(y.f1.f6.toList == x.f1.f6.toList) || (!(y.f1.f7.toList == x.f1.f7.toList)))))))))) = true then true else false) else false) = itBad x y := by
  unfold itBad
  by_cases h : y.f0 = x.f0
  · rw [if_pos h, h]
    simp only [beq_self_eq_true, Bool.not_true, Bool.false_or, Bool.true_and, Bool.not_and, Bool.or_assoc]
    split <;> simp_all
  · rw [if_neg h, beq_eq_false_iff_ne.2 h]; rfl
theorem ite_bad {α : Type} (x y : S32) (f g : α) : (if y.f0 = x.f0 then (if (!(y.f0 == x.f0) || ((!(y.f1.f0 == x.f1.f0)) || (!(y.f1.f1 == x.f1.f1) || (!(y.f1.f2 == x.f1.f2) || (!(y.f1.f3 == x.f1.f3) || (!(y.f1.f4 == x.f1.f4) || (!(y.f1.f5.toList == x.f1.f5.toList) || (!(y.f1.f6.toList == x.f1.f6.toList) || (!(y.f1.f7.toList == x.f1.f7.toList)))))))))) = true then f else g) else g) = if itBad x y = true then f else g := by
  rw [← itBad_cond x y]
  by_cases h : y.f0 = x.f0
  · simp only [if_pos h]
    split <;> simp
  · simp only [if_neg h]
    simp
theorem spec_ItemsOk_l1 (l : List S32) (hl : l.length ≤ 1048576) (i : Nat) (hi : i < l.length) (v : Bool) (hv : Ev (fun q => spec_ItemsOk.l0 q l ((i + 1 : Nat) : Int)) v) (d : Nat) : ∀ k : Nat, i - k = d → k ≤ i →
    Ev (fun q => spec_ItemsOk.l1 q l (i : Int) (k : Int)) (if ((l.take i).drop k).any (itBad (l.getD i z32)) = true then false else v) := by
  induction d with
  | zero =>
    intro k hd hk
    refine ev_succ ?_
    simp only [spec_ItemsOk.l1, if_neg (show ¬ (k : Int) < (i : Int) by omega), wn i hi (show l.length ≤ 140737488355328 by omega)]
    rw [List.drop_eq_nil_of_le (by rw [List.length_take]; omega)]
    simpa using hv
  | succ d ih =>
    intro k hd hk
    have hk2 : k < (l.take i).length := by rw [List.length_take]; omega
    refine ev_succ ?_
    have e : ((l.take i).drop k) = l.getD k z32 :: (l.take i).drop (k + 1) := by
      rw [List.drop_eq_getElem_cons hk2, List.getElem_take, List.getD_eq_getElem?_getD, List.getElem?_eq_getElem (by omega)]
      rfl
    simp only [spec_ItemsOk.l1, if_pos (show (k : Int) < (i : Int) by omega), if_pos (show (0 : Int) ≤ (k : Int) by omega), if_pos (show (k : Int) < (l.length : Int) by omega), if_pos (show (0 : Int) ≤ (i : Int) by omega), if_pos (show (i : Int) < (l.length : Int) by omega), rd_it, wn k (show k < i by omega) (by omega)]
    rw [e, List.any_cons]
    have h2 := ih (k + 1) (by omega) (by omega)
    by_cases hb : itBad (l.getD i z32) (l.getD k z32) = true
    · rw [hb]
      refine ev_cong (fun q => ?_) (ev_some rfl)
      rw [ite_bad, if_pos hb]
      rfl
    · rw [Bool.eq_false_iff.2 hb, Bool.false_or]
      refine ev_cong (fun q => ?_) h2
      rw [ite_bad, if_neg hb]
theorem spec_ItemsOk_l0 (l : List S32) (hl : l.length ≤ 1048576) (hs : ∀ x, x ∈ l → SzJ x) (d : Nat) : ∀ i : Nat, l.length - i = d → i ≤ l.length →
    Ev (fun q => spec_ItemsOk.l0 q l (i : Int)) (itemsGo l d i && decide ((l.length : Int) ≤ 200)) := by
  induction d with
  | zero =>
    intro i hd hi
    refine ev_succ ?_
    simp only [spec_ItemsOk.l0, if_neg (show ¬ (i : Int) < (l.length : Int) by omega), itemsGo, Bool.true_and]
    exact ev_some rfl
  | succ d ih =>
    intro i hd hi
    have hlt : i < l.length := by omega
    have hz := hs _ (getD_mem z32 l i hlt)
    unfold SzJ at hz
    have h1 := spec_ItemsOk_l1 l hl i hlt _ (ih (i + 1) (by omega) (by omega)) i 0 (by omega) (by omega)
    refine ev_succ ?_
    simp only [spec_ItemsOk.l0, if_pos (show (i : Int) < (l.length : Int) by omega), if_pos (show (0 : Int) ≤ (i : Int) by omega), rd_it, spec_in_eq, Option.bind_some, itemsGo]
    by_cases c1 : 1 ≤ (l.getD i z32).f0 ∧ (l.getD i z32).f0 ≤ 1000000000
    · simp only [decide_eq_true c1, if_true, if_pos c1]
      refine Ev.bind (spec_RecOk_ev _ _ _ _ _ _ _ _ (by omega) (by omega)) (ev_succ ?_)
      by_cases c2 : okI (l.getD i z32) = true
      · have c2' : recOkM (l.getD i z32).f1.f0 (l.getD i z32).f1.f1 (l.getD i z32).f1.f2 (l.getD i z32).f1.f3 (l.getD i z32).f1.f4 (l.getD i z32).f1.f5 (l.getD i z32).f1.f6 (l.getD i z32).f1.f7 = true := c2
        simp only [spec_ItemsOk.j1, c2', Bool.not_true, Bool.false_eq_true, if_false, if_pos c2]
        have e : ((if (l.take i).any (itBad (l.getD i z32)) = true then false else itemsGo l d (i + 1)) && decide ((l.length : Int) ≤ 200)) = (if ((l.take i).drop 0).any (itBad (l.getD i z32)) = true then false else (itemsGo l d (i + 1) && decide ((l.length : Int) ≤ 200))) := by
          rw [List.drop_zero]
          split <;> simp
        rw [e]
        exact h1
      · have c2' : recOkM (l.getD i z32).f1.f0 (l.getD i z32).f1.f1 (l.getD i z32).f1.f2 (l.getD i z32).f1.f3 (l.getD i z32).f1.f4 (l.getD i z32).f1.f5 (l.getD i z32).f1.f6 (l.getD i z32).f1.f7 = false := Bool.eq_false_iff.2 c2
        simp only [spec_ItemsOk.j1, c2', Bool.not_false, if_true, if_neg c2, Bool.false_and]
        exact ev_some rfl
    · simp only [decide_eq_false c1, Bool.false_eq_true, if_false, if_neg c1, Bool.false_and]
      refine ev_succ ?_
      simp only [spec_ItemsOk.j1, if_true]
      exact ev_some rfl
theorem spec_ItemsOk_ev (l : List S32) (hl : l.length ≤ 1048576) (hs : ∀ x, x ∈ l → SzJ x) : Ev (fun k => spec_ItemsOk.f k l) (itemsOkM l) := spec_ItemsOk_l0 l hl hs _ 0 rfl (by omega)

def QItem (x : S98) : Prop := (Lit.int .i64 x.f0).wf = true ∧ (Lit.int .i64 x.f1.f0).wf = true ∧ (Lit.int .i64 x.f1.f1).wf = true ∧ (Lit.int .i64 x.f1.f2).wf = true ∧ (Lit.int .i64 x.f1.f3).wf = true ∧ (Lit.int .i64 x.f1.f4).wf = true ∧ x.f1.f5.size ≤ maxLen ∧ x.f1.f6.size ≤ maxLen ∧ x.f1.f7.size ≤ maxLen
theorem FnExactItemsOk (l0 : List S98) (h0 : l0.length ≤ maxLen) (q0 : ∀ s, s ∈ l0 → QItem s) : ∃ k, laws_FnExactItemsOk.f k l0 = some true := by
  refine Ev.rounds ?_
  unfold laws_FnExactItemsOk.f
  obtain ⟨m, hm, hb⟩ := szItemS_ev l0 h0 (fun s hs => (q0 s hs).2.2.2.2.2.2)
  refine Ev.bind hm ?_
  refine ev_if (fun _ => ev_some rfl) (fun hm0 => ?_)
  obtain ⟨b0, b1⟩ := hb (by omega)
  have ht := toItemS_ev l0 b0
  have hml : (l0.map toI).length ≤ 1048576 := by simpa using b0
  have hs : ∀ x, x ∈ l0.map toI → SzJ x := by
    intro x hx
    obtain ⟨y, h1, rfl⟩ := List.mem_map.1 hx
    exact ⟨(b1 y h1).1, (b1 y h1).2.1⟩
  refine Ev.bind ht ?_
  refine Ev.bind (spec_ItemsOk_ev (l0.map toI) hml hs) ?_
  refine Ev.bind ht ?_
  refine Ev.bind (impl_ItemsOk_ev (l0.map toI) hs) ?_
  simp only [bne_self_eq_false, Bool.false_eq_true, if_false]
  refine Ev.bind ht ?_
  refine Ev.bind (eqItemS_same (l0.map toI) (by omega)) ?_
  simp only [if_true]
  exact ev_some rfl

end Go.Proofs.Ytagkjeldheiejaa.Pure
