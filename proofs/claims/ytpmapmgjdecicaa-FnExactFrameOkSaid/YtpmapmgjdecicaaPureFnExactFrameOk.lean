/- The pure statement of FnExactFrameOk, over numbers and lists: it is true of every argument; no condition but the bounds that the statement itself names. -/
import Derived.Test.YtpmapmgjdecicaaPFnExactFrameOkx1
import Derived.Test.YtpmapmgjdecicaaBase
set_option linter.unusedVariables false
set_option linter.unusedSimpArgs false
namespace Go.Proofs.Ytpmapmgjdecicaa.Pure
open Go.RowKit Go.Proofs.Ytpmapmgjdecicaa.PFnExactFrameOk Go.Proofs.YtpmapmgjdecicaaW.PrintWords Go.Proofs.YtpmapmgjdecicaaW.PrintLast Go.Proofs.YtpmapmgjdecicaaW.PrintMore Go.Proofs.Ytpmapmgjdecicaa.Base

/-! in -/
theorem spec_in_eq (a b c : Int) : spec_l01In.f a b c = some (decide (b ≤ a ∧ a ≤ c)) := by
  unfold spec_l01In.f
  by_cases h : a ≥ b <;> by_cases h2 : a ≤ c <;> simp [h, h2] <;> omega
theorem impl_in_eq (a b c : Int) : impl_in.f a b c = some (decide (b ≤ a ∧ a ≤ c)) := by
  unfold impl_in.f
  by_cases h : a ≥ b <;> by_cases h2 : a ≤ c <;> simp [h, h2] <;> omega

/-! frameok -/
def frameOkM (a b : Int) (c : ByteArray) : Bool := decide ((1 ≤ a ∧ a ≤ 1000000000) ∧ (1 ≤ b ∧ b ≤ 1000000000) ∧ (1 ≤ (c.size : Int) ∧ (c.size : Int) ≤ 180))
theorem spec_FrameOk_eq (a b : Int) (c : ByteArray) : spec_FrameOk.f a b c = some (frameOkM a b c) := by
  unfold spec_FrameOk.f frameOkM
  simp only [spec_in_eq, Option.bind_some]
  by_cases h1 : 1 ≤ a ∧ a ≤ 1000000000 <;> by_cases h2 : 1 ≤ b ∧ b ≤ 1000000000 <;> simp [h1, h2]
theorem impl_FrameOk_eq (a b : Int) (c : ByteArray) : impl_FrameOk.f a b c = some (frameOkM a b c) := by
  unfold impl_FrameOk.f frameOkM
  simp only [impl_in_eq, Option.bind_some]
  by_cases h1 : 1 ≤ a ∧ a ≤ 1000000000 <;> by_cases h2 : 1 ≤ b ∧ b ≤ 1000000000 <;> simp [h1, h2]

theorem FnExactFrameOk (a b : Int) (c : ByteArray) (_ : (Lit.int .i64 a).wf = true) (_ : (Lit.int .i64 b).wf = true) (hc : c.size ≤ maxLen) : laws_FnExactFrameOk.f a b c = some true := by
  have hc' : c.size ≤ 9223372036854775807 := hc
  unfold laws_FnExactFrameOk.f laws_szFrame.f laws_toFrame.f
  rw [w64 (x := 1048576 - (c.size : Int)) (by omega) (by omega)]
  by_cases h : 1048576 - (c.size : Int) < 0
  · simp [h]
  · simp [h, spec_FrameOk_eq, impl_FrameOk_eq]

end Go.Proofs.Ytpmapmgjdecicaa.Pure
