/- The pure statement of FnExactWordOk, over numbers and lists: it is true of every argument; no condition but the bounds that the statement itself names. -/
import Derived.Test.YtpmapmgjdecicaaPFnExactWordOkx1
import Derived.Test.YtpmapmgjdecicaaBase
set_option linter.unusedVariables false
set_option linter.unusedSimpArgs false
namespace Go.Proofs.Ytpmapmgjdecicaa.Pure
open Go.RowKit Go.Proofs.Ytpmapmgjdecicaa.PFnExactWordOk Go.Proofs.YtpmapmgjdecicaaW.PrintWords Go.Proofs.YtpmapmgjdecicaaW.PrintLast Go.Proofs.YtpmapmgjdecicaaW.PrintMore Go.Proofs.Ytpmapmgjdecicaa.Base

/-! in -/
theorem spec_in_eq (a b c : Int) : spec_l01In.f a b c = some (decide (b ≤ a ∧ a ≤ c)) := by
  unfold spec_l01In.f
  by_cases h : a ≥ b <;> by_cases h2 : a ≤ c <;> simp [h, h2] <;> omega
theorem impl_in_eq (a b c : Int) : impl_in.f a b c = some (decide (b ≤ a ∧ a ≤ c)) := by
  unfold impl_in.f
  by_cases h : a ≥ b <;> by_cases h2 : a ≤ c <;> simp [h, h2] <;> omega

/-! wordok -/
/-- What WordOk tells of a word, given by its bytes. -/
def wordB (l : List Int) : Bool := l.all fun b => decide (97 ≤ b ∧ b ≤ 122)
def wordM (x : ByteArray) : Bool := wordB (bytesOf x) && decide (1 ≤ (x.size : Int) ∧ (x.size : Int) ≤ 8)
theorem wordB_nil : wordB [] = true := rfl
theorem wordB_cons (b : Int) (l : List Int) : wordB (b :: l) = (decide (97 ≤ b ∧ b ≤ 122) && wordB l) := rfl
theorem spec_WordOk_l0 (x : ByteArray) (hx : x.size ≤ 140737488351232) (d : Nat) : ∀ i : Nat, x.size - i = d → i ≤ x.size →
    Ev (fun k => spec_WordOk.l0 k x (i : Int)) (wordB ((bytesOf x).drop i) && decide (1 ≤ (x.size : Int) ∧ (x.size : Int) ≤ 8)) := by
  induction d with
  | zero =>
    intro i hd hi
    refine ev_succ ?_
    simp only [spec_WordOk.l0, if_neg (show ¬ (i : Int) < (x.size : Int) from by omega), spec_in_eq, Option.bind_some]
    rw [bytes_end x i (by omega)]
    exact ev_some rfl
  | succ d ih =>
    intro i hd hi
    refine ev_succ ?_
    have hl : (i : Int) < (x.size : Int) := by omega
    rw [bytes_drop x i (by omega), wordB_cons]
    simp only [spec_WordOk.l0, if_pos hl, if_pos (show (0 : Int) ≤ (i : Int) from by omega), wn i (show i < x.size from by omega) (by omega)]
    by_cases h1 : bt x (i : Int) < 97
    · simp only [if_pos h1]
      rw [decide_eq_false (by omega)]
      exact ev_some rfl
    · by_cases h2 : bt x (i : Int) > 122
      · simp only [if_neg h1, if_pos h2]
        rw [decide_eq_false (by omega)]
        exact ev_some rfl
      · simp only [if_neg h1, if_neg h2]
        rw [decide_eq_true (by omega)]
        exact ih (i + 1) (by omega) (by omega)
theorem impl_WordOk_l0 (x : ByteArray) (hx : x.size ≤ 140737488351232) (d : Nat) : ∀ i : Nat, x.size - i = d → i ≤ x.size →
    Ev (fun k => impl_WordOk.l0 k x (x.size : Int) (i : Int)) (wordB ((bytesOf x).drop i)) := by
  induction d with
  | zero =>
    intro i hd hi
    refine ev_succ ?_
    simp only [impl_WordOk.l0, if_neg (show ¬ (i : Int) < (x.size : Int) from by omega)]
    rw [bytes_end x i (by omega)]
    exact ev_some rfl
  | succ d ih =>
    intro i hd hi
    refine ev_succ ?_
    have hl : (i : Int) < (x.size : Int) := by omega
    rw [bytes_drop x i (by omega), wordB_cons]
    simp only [impl_WordOk.l0, if_pos hl, if_pos (show (0 : Int) ≤ (i : Int) from by omega), wn i (show i < x.size from by omega) (by omega)]
    by_cases h1 : bt x (i : Int) < 97
    · simp only [if_pos h1]
      rw [decide_eq_false (by omega)]
      exact ev_some rfl
    · by_cases h2 : bt x (i : Int) > 122
      · simp only [if_neg h1, if_pos h2]
        rw [decide_eq_false (by omega)]
        exact ev_some rfl
      · simp only [if_neg h1, if_neg h2]
        rw [decide_eq_true (by omega)]
        exact ih (i + 1) (by omega) (by omega)
theorem spec_WordOk_ev (x : ByteArray) (hx : x.size ≤ 140737488351232) : Ev (fun k => spec_WordOk.f k x) (wordM x) := by
  simpa [spec_WordOk.f, wordM] using spec_WordOk_l0 x hx _ 0 rfl (by omega)
theorem impl_WordOk_ev (x : ByteArray) (hx : x.size ≤ 140737488351232) : Ev (fun k => impl_WordOk.f k x) (wordM x) := by
  simp only [impl_WordOk.f, impl_in_eq, Option.bind_some, wordM]
  by_cases h : 1 ≤ (x.size : Int) ∧ (x.size : Int) ≤ 8
  · simp only [decide_eq_true h, if_true, Bool.and_true]
    simpa using impl_WordOk_l0 x hx _ 0 rfl (by omega)
  · simp only [decide_eq_false h, Bool.false_eq_true, if_false, Bool.and_false]
    exact ev_some rfl

theorem FnExactWordOk : laws_FnExactWordOk.Pure := by
  intro a h
  refine Ev.rounds ?_
  unfold laws_FnExactWordOk.f
  by_cases hs : (a.size : Int) > 1048576
  · simp only [if_pos hs]
    exact ev_some rfl
  · simp only [if_neg hs]
    refine Ev.bind (spec_WordOk_ev a h) ?_
    refine Ev.bind (impl_WordOk_ev a h) ?_
    simp only [bne_self_eq_false, Bool.false_eq_true, if_false]
    exact ev_some rfl

end Go.Proofs.Ytpmapmgjdecicaa.Pure
