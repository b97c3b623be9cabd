/- The pure statement of FnExactSegFirst, over numbers and lists: it is true of every argument; no condition but the bounds that the statement itself names. -/
import Derived.Test.YtpmapmgjdecicaaPFnExactSegFirstx1
import Derived.Test.YtpmapmgjdecicaaBase
set_option linter.unusedVariables false
set_option linter.unusedSimpArgs false
namespace Go.Proofs.Ytpmapmgjdecicaa.Pure
open Go.RowKit Go.Proofs.Ytpmapmgjdecicaa.PFnExactSegFirst Go.Proofs.YtpmapmgjdecicaaW.PrintWords Go.Proofs.YtpmapmgjdecicaaW.PrintLast Go.Proofs.YtpmapmgjdecicaaW.PrintMore Go.Proofs.Ytpmapmgjdecicaa.Base

/-! in -/
theorem spec_in_eq (a b c : Int) : spec_l01In.f a b c = some (decide (b ≤ a ∧ a ≤ c)) := by
  unfold spec_l01In.f
  by_cases h : a ≥ b <;> by_cases h2 : a ≤ c <;> simp [h, h2] <;> omega
theorem impl_in_eq (a b c : Int) : impl_in.f a b c = some (decide (b ≤ a ∧ a ≤ c)) := by
  unfold impl_in.f
  by_cases h : a ≥ b <;> by_cases h2 : a ≤ c <;> simp [h, h2] <;> omega

theorem FnExactSegFirst : laws_FnExactSegFirst.Pure := by
  intro a h
  unfold laws_FnExactSegFirst.f spec_SegFirst.f impl_SegFirst.f
  rw [spec_in_eq, impl_in_eq]
  simp only [Option.bind_some]
  by_cases h : 0 ≤ a ∧ a ≤ 10
  · simp [decide_eq_true h]
  · simp [decide_eq_false h]

end Go.Proofs.Ytpmapmgjdecicaa.Pure
