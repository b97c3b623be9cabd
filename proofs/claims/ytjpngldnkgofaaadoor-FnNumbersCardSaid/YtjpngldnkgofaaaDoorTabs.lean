/- Decimal and ReadDecimal in the print's form: what they tell, where the table of powers of ten and strconv's two errors hold what the program's text lays. -/
import Derived.Test.YtjpngldnkgofaaaDoorRDecWalk
set_option linter.unusedVariables false
namespace Go.Proofs.YtjpngldnkgofaaaDoor.Walk
open Go.RowKit Go.Sort Go.Shelf Go.Proofs.YtjpngldnkgofaaaDoor.PFnExactReadDecimal Go.Proofs.YtjpngldnkgofaaaDoorW.PrintWords Go.Proofs.YtjpngldnkgofaaaDoorW.PrintLast Go.Proofs.YtjpngldnkgofaaaDoorW.PrintMore

theorem gS : Tryd.prog.globalNamed "strconv.ErrSyntax" = some 2 := by kernel_rfl
theorem gR : Tryd.prog.globalNamed "strconv.ErrRange" = some 3 := by kernel_rfl
theorem errs_below {W W' : World} (h : ErrsLie W) (hb : Below W.heap.size W W') : ErrsLie W' := by
  obtain ⟨⟨t1, p1, h1⟩, ⟨t2, p2, h2⟩⟩ := h
  have hc1 := World.var?_cell gS h1 0
  have hc2 := World.var?_cell gR h2 0
  exact ⟨⟨t1, p1, var?_below hb gS (World.block_lt_of_cell? W _ hc1) h1⟩, ⟨t2, p2, var?_below hb gR (World.block_lt_of_cell? W _ hc2) h2⟩⟩
/-- What the variables hold. -/
def Tabs (w : World) : Prop := Lib.TabIs Tryd.prog w "internal/strconv.uint64pow10" .u64 Lib.pow10Tab ∧ ErrsLie w
theorem tabs_below {W W' : World} {B : Nat} (h : Tabs W) (hb : Below B W W') (hB : W.heap.size ≤ B := by first | exact Nat.le_refl _ | omega) : Tabs W' := by
  have hb' : Below W.heap.size W W' := ⟨hb.os, hb.tape, hb.output, hb.size, fun i hi => hb.block i (by omega)⟩
  exact ⟨tab_below h.1 hb', errs_below h.2 hb'⟩
/-- What ReadDecimal tells. -/
def readM (x : ByteArray) : Int × Bool := match Lib.atoiAll x.data.toList with | .ok v => if (0 ≤ v ∧ v ≤ 1000000000) ∧ (⟨(Lib.itoa v).toArray⟩ : ByteArray) = x then (v, true) else (0, false) | _ => (0, false)
theorem readM_tells (x : ByteArray) : Pure.Tells x (readM x) := Pure.tells_atoi x
theorem readDecimal_calls (x : ByteArray) (hx : x.size ≤ 1048576) (w : World) (ht : Tabs w) :
    Calls Tryd.prog 10 #[.string x] w fun e w' => e = .returned (.tuple #[.int .i64 (readM x).1, .bool (readM x).2]) ∧ Below w.heap.size w w' := by
  refine (impl_ReadDecimal_walk x hx w ht.1 ht.2).mono ?_
  rintro e w' ⟨r, rfl, h, hb⟩
  have := Pure.tells_one h (readM_tells x)
  subst this
  exact ⟨rfl, hb⟩
end Go.Proofs.YtjpngldnkgofaaaDoor.Walk
