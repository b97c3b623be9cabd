/- The law of Decimal, walked: for every whole number of 64 bits it returns true and what was there stays; condition: the table of powers of ten that strconv.Itoa reads holds what the program's text lays. -/
import Derived.Test.YtjpngldnkgofaaaDoorDec
import Derived.Test.YtjpngldnkgofaaaDoorDecPure
import Derived.Test.YtjpngldnkgofaaaDoorLaid
import Derived.WalkSmall
import Derived.Lib.LaidTab
set_option linter.unusedVariables false
set_option linter.unusedSimpArgs false
namespace Go.Proofs.YtjpngldnkgofaaaDoor.Walk
open Go.RowKit Go.Sort Go.Shelf Go.Proofs.YtjpngldnkgofaaaDoor.PFnExactDecimal Go.Proofs.YtjpngldnkgofaaaDoorW.PrintWords Go.Proofs.YtjpngldnkgofaaaDoorW.PrintLast Go.Proofs.YtjpngldnkgofaaaDoorW.PrintMore

theorem gT : Tryd.prog.globalNamed "internal/strconv.uint64pow10" = some 5 := by kernel_rfl
theorem tab_below {W W' : World} (h : Lib.TabIs Tryd.prog W "internal/strconv.uint64pow10" .u64 Lib.pow10Tab) (hb : Below W.heap.size W W') : Lib.TabIs Tryd.prog W' "internal/strconv.uint64pow10" .u64 Lib.pow10Tab := by
  have hc := h.cell gT 0 (by decide)
  exact var?_below hb gT (World.block_lt_of_cell? W _ hc) h
theorem below_grow {B : Nat} {w0 w : World} (os : Array Obj) (h : Below B w0 w) (hB : B ≤ w.heap.size) : Below B w0 (grow w os) := by
  refine ⟨h.os, h.tape, h.output, ?_, fun i hi => ?_⟩
  · show w0.heap.size ≤ (w.heap ++ os).size
    have := h.size
    rw [Array.size_append]; omega
  · show (w.heap ++ os)[i]? = _
    rw [Array.getElem?_append_left (by omega)]
    exact h.block i hi
set_option maxRecDepth 100000 in
theorem impl_Decimal_walk (n : Int) (h0 : -9223372036854775808 ≤ n) (h1 : n ≤ 9223372036854775807) (W : World) (htab : Lib.TabIs Tryd.prog W "internal/strconv.uint64pow10" .u64 Lib.pow10Tab) :
    Calls Tryd.prog 8 #[.int .i64 n] W fun e W' => e = .returned (.string ⟨(Lib.itoa n).toArray⟩) ∧ Below W.heap.size W W' := by
  have HI : ∀ w, Lib.TabIs Tryd.prog w "internal/strconv.uint64pow10" .u64 Lib.pow10Tab → Calls Tryd.prog 26 #[.int .i64 n] w fun e W' => e = .returned (.string ⟨(Lib.itoa n).toArray⟩) ∧ ∃ k os, W' = grow (w.drewN k) os := fun w hw => Any.strconv_Itoa Tryd.lays171 n h0 h1 w hw
  go_enter Tryd.func8, Tryd.ntmps8
  go_wp2_with (go_at_call 26; refine (HI _ htab).mono ?_; rintro e W' ⟨rfl, k, os, rfl⟩)
  go_ret
  exact ⟨rfl, below_grow os (pw_below_drewN (Below.refl _ _) k) (Nat.le_refl _)⟩
set_option maxRecDepth 100000 in
theorem law_walk (n : Int) (h0 : -9223372036854775808 ≤ n) (h1 : n ≤ 9223372036854775807) (W : World) (htab : Lib.TabIs Tryd.prog W "internal/strconv.uint64pow10" .u64 Lib.pow10Tab) :
    Calls Tryd.prog 3 #[.int .i64 n] W fun e W' => e = .returned (.bool true) ∧ Below W.heap.size W W' := by
  obtain ⟨k, hk⟩ := Ev.rounds (Pure.spec_Decimal_ev n ⟨h0, h1⟩)
  have HS := Aside0.mk hk
  have HT := Aside0.mk htab
  clear hk htab
  go_enter Tryd.func3, Tryd.ntmps3
  go_wp2_with (first
    | (go_at_call 7; refine (spec_Decimal.calls k n _ _ HS.out).mono ?_; rintro e W1 ⟨rfl, hb⟩; have HB := Aside0.mk hb; have HT1 := Aside0.mk (tab_below HT.out hb); clear hb)
    | (go_at_call 8; refine (impl_Decimal_walk n h0 h1 _ HT1.out).mono ?_; rintro e W2 ⟨rfl, hb2⟩; have HB2 := Aside0.mk (below_step HB.out hb2); clear hb2))
  go_ret
  exact ⟨rfl, HB2.out⟩
end Go.Proofs.YtjpngldnkgofaaaDoor.Walk
