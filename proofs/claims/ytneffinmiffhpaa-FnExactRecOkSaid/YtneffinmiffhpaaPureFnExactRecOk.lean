/- The pure statement of FnExactRecOk, over numbers and lists: it is true of every argument; no condition but the bounds that the statement itself names. -/
import Derived.Test.YtneffinmiffhpaaPFnExactRecOkx6
import Derived.Test.YtneffinmiffhpaaBase
import Derived.Test.YtneffinmiffhpaaModelRec
set_option linter.unusedVariables false
set_option linter.unusedSimpArgs false
namespace Go.Proofs.Ytneffinmiffhpaa.Pure
open Go.RowKit Go.Proofs.Ytneffinmiffhpaa.PFnExactRecOk Go.Proofs.YtneffinmiffhpaaW.PrintWords Go.Proofs.YtneffinmiffhpaaW.PrintLast Go.Proofs.YtneffinmiffhpaaW.PrintMore Go.Proofs.Ytneffinmiffhpaa.Base

/-! in -/
theorem spec_in_eq (a b c : Int) : spec_l01In.f a b c = some (decide (b ≤ a ∧ a ≤ c)) := by
  unfold spec_l01In.f
  by_cases h : a ≥ b <;> by_cases h2 : a ≤ c <;> simp [h, h2] <;> omega
theorem impl_in_eq (a b c : Int) : impl_in.f a b c = some (decide (b ≤ a ∧ a ≤ c)) := by
  unfold impl_in.f
  by_cases h : a ≥ b <;> by_cases h2 : a ≤ c <;> simp [h, h2] <;> omega

/-! wordok -/
theorem spec_WordOk_l0 (x : ByteArray) (hx : x.size ≤ 140737488351232) (d : Nat) : ∀ i : Nat, x.size - i = d → i ≤ x.size →
    Ev (fun k => spec_WordOk.l0 k x (i : Int)) (wordB ((bytesOf x).drop i) && decide (1 ≤ (x.size : Int) ∧ (x.size : Int) ≤ 8)) := by
  induction d with
  | zero =>
    intro i hd hi
    refine ev_succ ?_
    simp only [spec_WordOk.l0, if_neg (show ¬ (i : Int) < (x.size : Int) from by omega), spec_in_eq, Option.bind_some]
    rw [bytes_end x i (by omega)]
    exact ev_some rfl
  | succ d ih =>
    intro i hd hi
    refine ev_succ ?_
    have hl : (i : Int) < (x.size : Int) := by omega
    rw [bytes_drop x i (by omega), wordB_cons]
    simp only [spec_WordOk.l0, if_pos hl, if_pos (show (0 : Int) ≤ (i : Int) from by omega), wn i (show i < x.size from by omega) (by omega)]
    by_cases h1 : bt x (i : Int) < 97
    · simp only [if_pos h1]
      rw [decide_eq_false (by omega)]
      exact ev_some rfl
    · by_cases h2 : bt x (i : Int) > 122
      · simp only [if_neg h1, if_pos h2]
        rw [decide_eq_false (by omega)]
        exact ev_some rfl
      · simp only [if_neg h1, if_neg h2]
        rw [decide_eq_true (by omega)]
        exact ih (i + 1) (by omega) (by omega)
theorem impl_WordOk_l0 (x : ByteArray) (hx : x.size ≤ 140737488351232) (d : Nat) : ∀ i : Nat, x.size - i = d → i ≤ x.size →
    Ev (fun k => impl_WordOk.l0 k x (x.size : Int) (i : Int)) (wordB ((bytesOf x).drop i)) := by
  induction d with
  | zero =>
    intro i hd hi
    refine ev_succ ?_
    simp only [impl_WordOk.l0, if_neg (show ¬ (i : Int) < (x.size : Int) from by omega)]
    rw [bytes_end x i (by omega)]
    exact ev_some rfl
  | succ d ih =>
    intro i hd hi
    refine ev_succ ?_
    have hl : (i : Int) < (x.size : Int) := by omega
    rw [bytes_drop x i (by omega), wordB_cons]
    simp only [impl_WordOk.l0, if_pos hl, if_pos (show (0 : Int) ≤ (i : Int) from by omega), wn i (show i < x.size from by omega) (by omega)]
    by_cases h1 : bt x (i : Int) < 97
    · simp only [if_pos h1]
      rw [decide_eq_false (by omega)]
      exact ev_some rfl
    · by_cases h2 : bt x (i : Int) > 122
      · simp only [if_neg h1, if_pos h2]
        rw [decide_eq_false (by omega)]
        exact ev_some rfl
      · simp only [if_neg h1, if_neg h2]
        rw [decide_eq_true (by omega)]
        exact ih (i + 1) (by omega) (by omega)
theorem spec_WordOk_ev (x : ByteArray) (hx : x.size ≤ 140737488351232) : Ev (fun k => spec_WordOk.f k x) (wordM x) := by
  simpa [spec_WordOk.f, wordM] using spec_WordOk_l0 x hx _ 0 rfl (by omega)
theorem impl_WordOk_ev (x : ByteArray) (hx : x.size ≤ 140737488351232) : Ev (fun k => impl_WordOk.f k x) (wordM x) := by
  simp only [impl_WordOk.f, impl_in_eq, Option.bind_some, wordM]
  by_cases h : 1 ≤ (x.size : Int) ∧ (x.size : Int) ≤ 8
  · simp only [decide_eq_true h, if_true, Bool.and_true]
    simpa using impl_WordOk_l0 x hx _ 0 rfl (by omega)
  · simp only [decide_eq_false h, Bool.false_eq_true, if_false, Bool.and_false]
    exact ev_some rfl

/-! recok -/
theorem spec_RecOk_ev (a0 a1 a2 a3 a4 : Int) (x5 x6 x7 : ByteArray) (h5 : x5.size ≤ 140737488351232) (h6 : x6.size ≤ 140737488351232) : Ev (fun k => spec_RecOk.f k a0 a1 a2 a3 a4 x5 x6 x7) (recOkM a0 a1 a2 a3 a4 x5 x6 x7) := by
  have t5 := tl_nil x5
  have t6 := tl_nil x6
  have t7 := tl_nil x7
  unfold spec_RecOk.f
  simp only [spec_in_eq, Option.bind_some]
  repeat' first
    | refine ev_if (fun _ => ?_) (fun _ => ?_)
    | refine Ev.bind (spec_WordOk_ev _ (by assumption)) ?_
    | refine ev_some ?_
  all_goals (unfold recOkM; grind)
def ri3 (g : Bool) (a0 a1 a2 a3 a4 : Int) (x5 x6 x7 : ByteArray) (b0 b1 b2 b3 b4 : Int) (y5 y6 y7 : ByteArray) : Bool := if a0 = 1 then (if wordM x5 = true then (if wordM x6 = true then (if decide (1 ≤ a3 ∧ a3 ≤ 10000) = true then (b0 == 0 && (b1 == 0 && (b2 == 0 && (b4 == 0 && (y7.toList == ([] : List UInt8)))))) else false) else false) else false) else if a0 = 3 then (if g = true then (if (x7.size : Int) ≤ 100 then (b0 == 0 && (b1 == 0 && (b2 == 0 && (b3 == 0 && (b4 == 0 && ((y5.toList == ([] : List UInt8)) && (y6.toList == ([] : List UInt8)))))))) else false) else false) else if a0 = 2 then (if g = true then (b0 == 0 && (b1 == 0 && (b2 == 0 && (b3 == 0 && (b4 == 0 && ((y5.toList == ([] : List UInt8)) && ((y6.toList == ([] : List UInt8)) && (y7.toList == ([] : List UInt8))))))))) else false) else if a0 = 4 then (if g = true then (b0 == 0 && (b1 == 0 && (b2 == 0 && (b3 == 0 && (b4 == 0 && ((y5.toList == ([] : List UInt8)) && ((y6.toList == ([] : List UInt8)) && (y7.toList == ([] : List UInt8))))))))) else false) else if a0 = 5 then (if g = true then (b0 == 0 && (b1 == 0 && (b2 == 0 && (b3 == 0 && (b4 == 0 && ((y5.toList == ([] : List UInt8)) && ((y6.toList == ([] : List UInt8)) && (y7.toList == ([] : List UInt8))))))))) else false) else false
def ri2 (g t : Bool) (a0 a1 a2 a3 a4 : Int) (x5 x6 x7 : ByteArray) (b0 b1 b2 b3 b4 : Int) (y5 y6 y7 : ByteArray) : Bool := if t = true then (if g = true then ri3 (decide (0 ≤ a4 ∧ a4 ≤ 7)) a0 a1 a2 a3 a4 x5 x6 x7 b0 b1 b2 b3 0 y5 y6 y7 else ri3 false a0 a1 a2 a3 a4 x5 x6 x7 b0 b1 b2 b3 0 y5 y6 y7) else ri3 g a0 a1 a2 a3 a4 x5 x6 x7 b0 b1 b2 b3 b4 y5 y6 y7
def ri1 (g : Bool) (a0 a1 a2 a3 a4 : Int) (x5 x6 x7 : ByteArray) (b0 b1 b2 b3 b4 : Int) (y5 y6 y7 : ByteArray) : Bool := if a0 = 3 then ri2 g true a0 a1 a2 a3 a4 x5 x6 x7 b0 b1 b2 b3 b4 y5 y6 y7 else ri2 g (a0 == 4) a0 a1 a2 a3 a4 x5 x6 x7 b0 b1 b2 b3 b4 y5 y6 y7
def ri0 (g t : Bool) (a0 a1 a2 a3 a4 : Int) (x5 x6 x7 : ByteArray) (b0 b1 b2 b3 b4 : Int) (y5 y6 y7 : ByteArray) : Bool := if t = true then ri1 (decide (1 ≤ a2 ∧ a2 ≤ 9999)) a0 a1 a2 a3 a4 x5 x6 x7 b0 b1 0 b3 b4 y5 y6 y7 else ri1 g a0 a1 a2 a3 a4 x5 x6 x7 b0 b1 b2 b3 b4 y5 y6 y7
def rif (a0 a1 a2 a3 a4 : Int) (x5 x6 x7 : ByteArray) : Bool := if decide (1 ≤ a1 ∧ a1 ≤ 9999) = true then (if a0 = 3 then ri0 true true a0 a1 a2 a3 a4 x5 x6 x7 0 0 a2 a3 a4 x5 x6 x7 else if a0 = 4 then ri0 true true a0 a1 a2 a3 a4 x5 x6 x7 0 0 a2 a3 a4 x5 x6 x7 else ri0 true (a0 == 5) a0 a1 a2 a3 a4 x5 x6 x7 0 0 a2 a3 a4 x5 x6 x7) else false
theorem impl_RecOk_j3 (g : Bool) (a0 a1 a2 a3 a4 : Int) (x5 x6 x7 : ByteArray) (b0 b1 b2 b3 b4 : Int) (y5 y6 y7 : ByteArray) (h5 : x5.size ≤ 140737488351232) (h6 : x6.size ≤ 140737488351232) : Ev (fun k => impl_RecOk.j3 k g a0 a1 a2 a3 a4 x5 x6 x7 b0 b1 b2 b3 b4 y5 y6 y7) (ri3 g a0 a1 a2 a3 a4 x5 x6 x7 b0 b1 b2 b3 b4 y5 y6 y7) := by
  refine ev_succ ?_
  simp only [impl_RecOk.j3, impl_in_eq, Option.bind_some]
  exact ev_ite (Ev.bind (impl_WordOk_ev x5 h5) (ev_ite (Ev.bind (impl_WordOk_ev x6 h6) (ev_ite (ev_ite (ev_some rfl) (ev_some rfl)) (ev_some rfl))) (ev_some rfl))) (ev_ite (ev_ite (ev_ite (ev_some rfl) (ev_some rfl)) (ev_some rfl)) (ev_ite (ev_ite (ev_some rfl) (ev_some rfl)) (ev_ite (ev_ite (ev_some rfl) (ev_some rfl)) (ev_ite (ev_ite (ev_some rfl) (ev_some rfl)) (ev_some rfl)))))
theorem impl_RecOk_j2 (g t : Bool) (a0 a1 a2 a3 a4 : Int) (x5 x6 x7 : ByteArray) (b0 b1 b2 b3 b4 : Int) (y5 y6 y7 : ByteArray) (h5 : x5.size ≤ 140737488351232) (h6 : x6.size ≤ 140737488351232) : Ev (fun k => impl_RecOk.j2 k g t a0 a1 a2 a3 a4 x5 x6 x7 b0 b1 b2 b3 b4 y5 y6 y7) (ri2 g t a0 a1 a2 a3 a4 x5 x6 x7 b0 b1 b2 b3 b4 y5 y6 y7) := by
  refine ev_succ ?_
  simp only [impl_RecOk.j2, impl_in_eq, Option.bind_some]
  exact ev_ite (ev_ite (impl_RecOk_j3 _ a0 a1 a2 a3 a4 x5 x6 x7 _ _ _ _ _ _ _ _ h5 h6) (impl_RecOk_j3 _ a0 a1 a2 a3 a4 x5 x6 x7 _ _ _ _ _ _ _ _ h5 h6)) (impl_RecOk_j3 _ a0 a1 a2 a3 a4 x5 x6 x7 _ _ _ _ _ _ _ _ h5 h6)
theorem impl_RecOk_j1 (g : Bool) (a0 a1 a2 a3 a4 : Int) (x5 x6 x7 : ByteArray) (b0 b1 b2 b3 b4 : Int) (y5 y6 y7 : ByteArray) (h5 : x5.size ≤ 140737488351232) (h6 : x6.size ≤ 140737488351232) : Ev (fun k => impl_RecOk.j1 k g a0 a1 a2 a3 a4 x5 x6 x7 b0 b1 b2 b3 b4 y5 y6 y7) (ri1 g a0 a1 a2 a3 a4 x5 x6 x7 b0 b1 b2 b3 b4 y5 y6 y7) := by
  refine ev_succ ?_
  simp only [impl_RecOk.j1, impl_in_eq, Option.bind_some]
  exact ev_ite (impl_RecOk_j2 _ _ a0 a1 a2 a3 a4 x5 x6 x7 _ _ _ _ _ _ _ _ h5 h6) (impl_RecOk_j2 _ _ a0 a1 a2 a3 a4 x5 x6 x7 _ _ _ _ _ _ _ _ h5 h6)
theorem impl_RecOk_j0 (g t : Bool) (a0 a1 a2 a3 a4 : Int) (x5 x6 x7 : ByteArray) (b0 b1 b2 b3 b4 : Int) (y5 y6 y7 : ByteArray) (h5 : x5.size ≤ 140737488351232) (h6 : x6.size ≤ 140737488351232) : Ev (fun k => impl_RecOk.j0 k g t a0 a1 a2 a3 a4 x5 x6 x7 b0 b1 b2 b3 b4 y5 y6 y7) (ri0 g t a0 a1 a2 a3 a4 x5 x6 x7 b0 b1 b2 b3 b4 y5 y6 y7) := by
  refine ev_succ ?_
  simp only [impl_RecOk.j0, impl_in_eq, Option.bind_some]
  exact ev_ite (impl_RecOk_j1 _ a0 a1 a2 a3 a4 x5 x6 x7 _ _ _ _ _ _ _ _ h5 h6) (impl_RecOk_j1 _ a0 a1 a2 a3 a4 x5 x6 x7 _ _ _ _ _ _ _ _ h5 h6)
theorem impl_rec_same (a0 a1 a2 a3 a4 : Int) (x5 x6 x7 : ByteArray) : rif a0 a1 a2 a3 a4 x5 x6 x7 = recOkM a0 a1 a2 a3 a4 x5 x6 x7 := by
  have t5 := tl_nil x5
  have t6 := tl_nil x6
  have t7 := tl_nil x7
  unfold rif ri0 ri1 ri2 ri3 recOkM
  grind
theorem impl_RecOk_ev (a0 a1 a2 a3 a4 : Int) (x5 x6 x7 : ByteArray) (h5 : x5.size ≤ 140737488351232) (h6 : x6.size ≤ 140737488351232) : Ev (fun k => impl_RecOk.f k a0 a1 a2 a3 a4 x5 x6 x7) (recOkM a0 a1 a2 a3 a4 x5 x6 x7) := by
  rw [← impl_rec_same]
  unfold impl_RecOk.f
  simp only [impl_in_eq, Option.bind_some]
  exact ev_ite (ev_ite (impl_RecOk_j0 _ _ a0 a1 a2 a3 a4 x5 x6 x7 _ _ _ _ _ _ _ _ h5 h6) (ev_ite (impl_RecOk_j0 _ _ a0 a1 a2 a3 a4 x5 x6 x7 _ _ _ _ _ _ _ _ h5 h6) (impl_RecOk_j0 _ _ a0 a1 a2 a3 a4 x5 x6 x7 _ _ _ _ _ _ _ _ h5 h6))) (ev_some rfl)

/-! szrec -/
theorem szRec_eq (a0 a1 a2 a3 a4 : Int) (x5 x6 x7 : ByteArray) (h5 : x5.size ≤ maxLen) (h6 : x6.size ≤ maxLen) (h7 : x7.size ≤ maxLen) :
    ∃ m : Int, laws_szRec.f a0 a1 a2 a3 a4 x5 x6 x7 1048576 = some m ∧ (0 ≤ m → x5.size ≤ 1048576 ∧ x6.size ≤ 1048576 ∧ x7.size ≤ 1048576) := by
  have h5' : x5.size ≤ 9223372036854775807 := h5
  have h6' : x6.size ≤ 9223372036854775807 := h6
  have h7' : x7.size ≤ 9223372036854775807 := h7
  unfold laws_szRec.f
  rw [w64 (x := 1048576 - (x5.size : Int)) (by omega) (by omega)]
  by_cases c5 : 1048576 - (x5.size : Int) < 0
  · rw [if_pos c5]; exact ⟨_, rfl, by omega⟩
  rw [if_neg c5, w64 (x := 1048576 - (x5.size : Int) - (x6.size : Int)) (by omega) (by omega)]
  by_cases c6 : 1048576 - (x5.size : Int) - (x6.size : Int) < 0
  · rw [if_pos c6]; exact ⟨_, rfl, by omega⟩
  rw [if_neg c6, w64 (x := 1048576 - (x5.size : Int) - (x6.size : Int) - (x7.size : Int)) (by omega) (by omega)]
  by_cases c7 : 1048576 - (x5.size : Int) - (x6.size : Int) - (x7.size : Int) < 0
  · rw [if_pos c7]; exact ⟨_, rfl, by omega⟩
  · rw [if_neg c7]; exact ⟨_, rfl, by omega⟩

theorem FnExactRecOk (a0 a1 a2 a3 a4 : Int) (x5 x6 x7 : ByteArray) (_ : (Lit.int .i64 a0).wf = true) (_ : (Lit.int .i64 a1).wf = true) (_ : (Lit.int .i64 a2).wf = true) (_ : (Lit.int .i64 a3).wf = true) (_ : (Lit.int .i64 a4).wf = true)
    (h5 : x5.size ≤ maxLen) (h6 : x6.size ≤ maxLen) (h7 : x7.size ≤ maxLen) : ∃ k, laws_FnExactRecOk.f k a0 a1 a2 a3 a4 x5 x6 x7 = some true := by
  refine Ev.rounds ?_
  unfold laws_FnExactRecOk.f laws_toRec.f
  obtain ⟨m, hm, hs⟩ := szRec_eq a0 a1 a2 a3 a4 x5 x6 x7 h5 h6 h7
  simp only [hm, Option.bind_some]
  by_cases h : m < 0
  · simp only [if_pos h]
    exact ev_some rfl
  · simp only [if_neg h]
    obtain ⟨s5, s6, s7⟩ := hs (by omega)
    refine Ev.bind (spec_RecOk_ev a0 a1 a2 a3 a4 x5 x6 x7 (by omega) (by omega)) ?_
    refine Ev.bind (impl_RecOk_ev a0 a1 a2 a3 a4 x5 x6 x7 (by omega) (by omega)) ?_
    simp only [if_true, bne_self_eq_false, Bool.false_eq_true, if_false]
    exact ev_some rfl

end Go.Proofs.Ytneffinmiffhpaa.Pure
