/-
  No cell of these rows narrows 'for every input' (looked for: loops, veiled, ifaces, maps, wideKeys, modest, calm, conditions, laid).
  DERIVED. THE GIVEN ROWS OF THIS SEAT. 12 by the template 'for every input the law returns true; each argument reads behind the call as it read before'; 0 by the template 'total and deterministic' (their statements: YtneffinmiffhpaaTotals.lean).
  GIVEN WITH THE SEED: the statements are not yours to turn. If you find one false, say at which input.
  Laid BY PROGRAM, IN A SANDBOX (cutbox-rows.mjs): the forced cells as the released guide's own fill.sh prints them over the translation 6ae71baee20870ec… (all of the seat's roots in one cut). By AI agents, Wed Nov 11 2026. No macro, syntax, notation, axiom, sorry.
-/
import Derived.Test.YtneffinmiffhpaaChecked
import GoSem.Claim
import GoSem.ClaimJoined
import GoSem.ClaimMapViews
import Derived.JoinedTies
import Derived.KernelRfl
namespace Go.Proofs.Ytneffinmiffhpaa
/- THE CELL 'sum', in the pinned program and in every row, IS THE sha256 OF THE DUMP (.gsa) THAT YtneffinmiffhpaaProg.lean LOADS. Nothing in Lean hashes anything: it is a label: what it is worth is what the hold of that sum in a sandbox is worth. -/
noncomputable def Try.pinned : Pinned := { name := "ytneffinmiffhpaa", sum := "6ae71baee20870ec53d2d2121e7aa24171653129848b197ec332f3776796e937", checked := Try.checked }
namespace Rows
def none {H : Type} : Left H := { results := [], args := [] }

/-- 'laws.FnExactUnhex': WHATEVER THE INPUT: true; the input reads as it did. -/
def fnExactUnhexSpec : ChangeSpec := { name := "fnExactUnhex", fn := fun _ => fun
  | [d] => { results := [.lit (.bool true)], args := [d] }
  | _ => none }
def fnExactUnhexRow : OpenClaim := { program := "ytneffinmiffhpaa", sum := "6ae71baee20870ec53d2d2121e7aa24171653129848b197ec332f3776796e937", func := "loop.example/g00287/laws.FnExactUnhex", spec := "fnExactUnhex", inPlace := ["internal/bytealg.IndexByteString"], apart := false }
def FnExactUnhexSaid : Prop := fnExactUnhexRow.holds Try.pinned (OpenSpec.ofChange fnExactUnhexSpec)

/-- ITS FALSE NEIGHBOUR: 'it returns false'. Refute it at one input. -/
def fnExactUnhexWrong : ChangeSpec := { name := "fnExactUnhex", fn := fun _ => fun
  | [d] => { results := [.lit (.bool false)], args := [d] }
  | _ => none }
def FnExactUnhexWrongFalsely : Prop := fnExactUnhexRow.holds Try.pinned (OpenSpec.ofChange fnExactUnhexWrong)

/-- 'laws.FnExactReadShort': WHATEVER THE INPUT: true; the input reads as it did. -/
def fnExactReadShortSpec : ChangeSpec := { name := "fnExactReadShort", fn := fun _ => fun
  | [d1, d2] => { results := [.lit (.bool true)], args := [d1, d2] }
  | _ => none }
def fnExactReadShortRow : OpenClaim := { program := "ytneffinmiffhpaa", sum := "6ae71baee20870ec53d2d2121e7aa24171653129848b197ec332f3776796e937", func := "loop.example/g00287/laws.FnExactReadShort", spec := "fnExactReadShort", apart := false }
def FnExactReadShortSaid : Prop := fnExactReadShortRow.holds Try.pinned (OpenSpec.ofChange fnExactReadShortSpec)

/-- ITS FALSE NEIGHBOUR: 'it returns false'. Refute it at one input. -/
def fnExactReadShortWrong : ChangeSpec := { name := "fnExactReadShort", fn := fun _ => fun
  | [d1, d2] => { results := [.lit (.bool false)], args := [d1, d2] }
  | _ => none }
def FnExactReadShortWrongFalsely : Prop := fnExactReadShortRow.holds Try.pinned (OpenSpec.ofChange fnExactReadShortWrong)

/-- 'laws.FnTurned': WHATEVER THE INPUT: true; the input reads as it did. -/
def fnTurnedSpec : ChangeSpec := { name := "fnTurned", fn := fun _ => fun
  | [d] => { results := [.lit (.bool true)], args := [d] }
  | _ => none }
def fnTurnedRow : OpenClaim := { program := "ytneffinmiffhpaa", sum := "6ae71baee20870ec53d2d2121e7aa24171653129848b197ec332f3776796e937", func := "loop.example/g00287/laws.FnTurned", spec := "fnTurned", apart := false }
def FnTurnedSaid : Prop := fnTurnedRow.holds Try.pinned (OpenSpec.ofChange fnTurnedSpec)

/-- ITS FALSE NEIGHBOUR: 'it returns false'. Refute it at one input. -/
def fnTurnedWrong : ChangeSpec := { name := "fnTurned", fn := fun _ => fun
  | [d] => { results := [.lit (.bool false)], args := [d] }
  | _ => none }
def FnTurnedWrongFalsely : Prop := fnTurnedRow.holds Try.pinned (OpenSpec.ofChange fnTurnedWrong)

/-- 'laws.FnExactRecOk': WHATEVER THE INPUT: true; the input reads as it did. -/
def fnExactRecOkSpec : ChangeSpec := { name := "fnExactRecOk", fn := fun _ => fun
  | [d] => { results := [.lit (.bool true)], args := [d] }
  | _ => none }
def fnExactRecOkRow : OpenClaim := { program := "ytneffinmiffhpaa", sum := "6ae71baee20870ec53d2d2121e7aa24171653129848b197ec332f3776796e937", func := "loop.example/g00287/laws.FnExactRecOk", spec := "fnExactRecOk", apart := false }
def FnExactRecOkSaid : Prop := fnExactRecOkRow.holds Try.pinned (OpenSpec.ofChange fnExactRecOkSpec)

/-- ITS FALSE NEIGHBOUR: 'it returns false'. Refute it at one input. -/
def fnExactRecOkWrong : ChangeSpec := { name := "fnExactRecOk", fn := fun _ => fun
  | [d] => { results := [.lit (.bool false)], args := [d] }
  | _ => none }
def FnExactRecOkWrongFalsely : Prop := fnExactRecOkRow.holds Try.pinned (OpenSpec.ofChange fnExactRecOkWrong)

/-- 'laws.FnExactFrameText': WHATEVER THE INPUT: true; the input reads as it did. -/
def fnExactFrameTextSpec : ChangeSpec := { name := "fnExactFrameText", fn := fun _ => fun
  | [d] => { results := [.lit (.bool true)], args := [d] }
  | _ => none }
def fnExactFrameTextRow : OpenClaim := { program := "ytneffinmiffhpaa", sum := "6ae71baee20870ec53d2d2121e7aa24171653129848b197ec332f3776796e937", func := "loop.example/g00287/laws.FnExactFrameText", spec := "fnExactFrameText", apart := false }
def FnExactFrameTextSaid : Prop := fnExactFrameTextRow.holds Try.pinned (OpenSpec.ofChange fnExactFrameTextSpec)

/-- ITS FALSE NEIGHBOUR: 'it returns false'. Refute it at one input. -/
def fnExactFrameTextWrong : ChangeSpec := { name := "fnExactFrameText", fn := fun _ => fun
  | [d] => { results := [.lit (.bool false)], args := [d] }
  | _ => none }
def FnExactFrameTextWrongFalsely : Prop := fnExactFrameTextRow.holds Try.pinned (OpenSpec.ofChange fnExactFrameTextWrong)

/-- 'laws.FnExactFrameSize': WHATEVER THE INPUT: true; the input reads as it did. -/
def fnExactFrameSizeSpec : ChangeSpec := { name := "fnExactFrameSize", fn := fun _ => fun
  | [d] => { results := [.lit (.bool true)], args := [d] }
  | _ => none }
def fnExactFrameSizeRow : OpenClaim := { program := "ytneffinmiffhpaa", sum := "6ae71baee20870ec53d2d2121e7aa24171653129848b197ec332f3776796e937", func := "loop.example/g00287/laws.FnExactFrameSize", spec := "fnExactFrameSize", apart := false }
def FnExactFrameSizeSaid : Prop := fnExactFrameSizeRow.holds Try.pinned (OpenSpec.ofChange fnExactFrameSizeSpec)

/-- ITS FALSE NEIGHBOUR: 'it returns false'. Refute it at one input. -/
def fnExactFrameSizeWrong : ChangeSpec := { name := "fnExactFrameSize", fn := fun _ => fun
  | [d] => { results := [.lit (.bool false)], args := [d] }
  | _ => none }
def FnExactFrameSizeWrongFalsely : Prop := fnExactFrameSizeRow.holds Try.pinned (OpenSpec.ofChange fnExactFrameSizeWrong)

/-- 'laws.FnExactRecText': WHATEVER THE INPUT: true; the input reads as it did. -/
def fnExactRecTextSpec : ChangeSpec := { name := "fnExactRecText", fn := fun _ => fun
  | [d] => { results := [.lit (.bool true)], args := [d] }
  | _ => none }
def fnExactRecTextRow : OpenClaim := { program := "ytneffinmiffhpaa", sum := "6ae71baee20870ec53d2d2121e7aa24171653129848b197ec332f3776796e937", func := "loop.example/g00287/laws.FnExactRecText", spec := "fnExactRecText", apart := false }
def FnExactRecTextSaid : Prop := fnExactRecTextRow.holds Try.pinned (OpenSpec.ofChange fnExactRecTextSpec)

/-- ITS FALSE NEIGHBOUR: 'it returns false'. Refute it at one input. -/
def fnExactRecTextWrong : ChangeSpec := { name := "fnExactRecText", fn := fun _ => fun
  | [d] => { results := [.lit (.bool false)], args := [d] }
  | _ => none }
def FnExactRecTextWrongFalsely : Prop := fnExactRecTextRow.holds Try.pinned (OpenSpec.ofChange fnExactRecTextWrong)

/-- 'laws.FnExactReadFrame': WHATEVER THE INPUT: true; the input reads as it did. -/
def fnExactReadFrameSpec : ChangeSpec := { name := "fnExactReadFrame", fn := fun _ => fun
  | [d1, d2] => { results := [.lit (.bool true)], args := [d1, d2] }
  | _ => none }
def fnExactReadFrameRow : OpenClaim := { program := "ytneffinmiffhpaa", sum := "6ae71baee20870ec53d2d2121e7aa24171653129848b197ec332f3776796e937", func := "loop.example/g00287/laws.FnExactReadFrame", spec := "fnExactReadFrame", apart := false }
def FnExactReadFrameSaid : Prop := fnExactReadFrameRow.holds Try.pinned (OpenSpec.ofChange fnExactReadFrameSpec)

/-- ITS FALSE NEIGHBOUR: 'it returns false'. Refute it at one input. -/
def fnExactReadFrameWrong : ChangeSpec := { name := "fnExactReadFrame", fn := fun _ => fun
  | [d1, d2] => { results := [.lit (.bool false)], args := [d1, d2] }
  | _ => none }
def FnExactReadFrameWrongFalsely : Prop := fnExactReadFrameRow.holds Try.pinned (OpenSpec.ofChange fnExactReadFrameWrong)

/-- 'laws.FnFrames': WHATEVER THE INPUT: true; the input reads as it did. -/
def fnFramesSpec : ChangeSpec := { name := "fnFrames", fn := fun _ => fun
  | [d] => { results := [.lit (.bool true)], args := [d] }
  | _ => none }
def fnFramesRow : OpenClaim := { program := "ytneffinmiffhpaa", sum := "6ae71baee20870ec53d2d2121e7aa24171653129848b197ec332f3776796e937", func := "loop.example/g00287/laws.FnFrames", spec := "fnFrames", apart := false }
def FnFramesSaid : Prop := fnFramesRow.holds Try.pinned (OpenSpec.ofChange fnFramesSpec)

/-- ITS FALSE NEIGHBOUR: 'it returns false'. Refute it at one input. -/
def fnFramesWrong : ChangeSpec := { name := "fnFrames", fn := fun _ => fun
  | [d] => { results := [.lit (.bool false)], args := [d] }
  | _ => none }
def FnFramesWrongFalsely : Prop := fnFramesRow.holds Try.pinned (OpenSpec.ofChange fnFramesWrong)

/-- 'laws.FnExactItemFrame': WHATEVER THE INPUT: true; the input reads as it did. -/
def fnExactItemFrameSpec : ChangeSpec := { name := "fnExactItemFrame", fn := fun _ => fun
  | [d1, d2] => { results := [.lit (.bool true)], args := [d1, d2] }
  | _ => none }
def fnExactItemFrameRow : OpenClaim := { program := "ytneffinmiffhpaa", sum := "6ae71baee20870ec53d2d2121e7aa24171653129848b197ec332f3776796e937", func := "loop.example/g00287/laws.FnExactItemFrame", spec := "fnExactItemFrame", apart := false }
def FnExactItemFrameSaid : Prop := fnExactItemFrameRow.holds Try.pinned (OpenSpec.ofChange fnExactItemFrameSpec)

/-- ITS FALSE NEIGHBOUR: 'it returns false'. Refute it at one input. -/
def fnExactItemFrameWrong : ChangeSpec := { name := "fnExactItemFrame", fn := fun _ => fun
  | [d1, d2] => { results := [.lit (.bool false)], args := [d1, d2] }
  | _ => none }
def FnExactItemFrameWrongFalsely : Prop := fnExactItemFrameRow.holds Try.pinned (OpenSpec.ofChange fnExactItemFrameWrong)

/-- 'laws.FnExactScanFrames': WHATEVER THE INPUT: true; the input reads as it did. -/
def fnExactScanFramesSpec : ChangeSpec := { name := "fnExactScanFrames", fn := fun _ => fun
  | [d1, d2] => { results := [.lit (.bool true)], args := [d1, d2] }
  | _ => none }
def fnExactScanFramesRow : OpenClaim := { program := "ytneffinmiffhpaa", sum := "6ae71baee20870ec53d2d2121e7aa24171653129848b197ec332f3776796e937", func := "loop.example/g00287/laws.FnExactScanFrames", spec := "fnExactScanFrames", apart := false }
def FnExactScanFramesSaid : Prop := fnExactScanFramesRow.holds Try.pinned (OpenSpec.ofChange fnExactScanFramesSpec)

/-- ITS FALSE NEIGHBOUR: 'it returns false'. Refute it at one input. -/
def fnExactScanFramesWrong : ChangeSpec := { name := "fnExactScanFrames", fn := fun _ => fun
  | [d1, d2] => { results := [.lit (.bool false)], args := [d1, d2] }
  | _ => none }
def FnExactScanFramesWrongFalsely : Prop := fnExactScanFramesRow.holds Try.pinned (OpenSpec.ofChange fnExactScanFramesWrong)

/-- 'laws.FnFramesTurned': WHATEVER THE INPUT: true; the input reads as it did. -/
def fnFramesTurnedSpec : ChangeSpec := { name := "fnFramesTurned", fn := fun _ => fun
  | [d] => { results := [.lit (.bool true)], args := [d] }
  | _ => none }
def fnFramesTurnedRow : OpenClaim := { program := "ytneffinmiffhpaa", sum := "6ae71baee20870ec53d2d2121e7aa24171653129848b197ec332f3776796e937", func := "loop.example/g00287/laws.FnFramesTurned", spec := "fnFramesTurned", apart := false }
def FnFramesTurnedSaid : Prop := fnFramesTurnedRow.holds Try.pinned (OpenSpec.ofChange fnFramesTurnedSpec)

/-- ITS FALSE NEIGHBOUR: 'it returns false'. Refute it at one input. -/
def fnFramesTurnedWrong : ChangeSpec := { name := "fnFramesTurned", fn := fun _ => fun
  | [d] => { results := [.lit (.bool false)], args := [d] }
  | _ => none }
def FnFramesTurnedWrongFalsely : Prop := fnFramesTurnedRow.holds Try.pinned (OpenSpec.ofChange fnFramesTurnedWrong)

/- THE SECOND FORM. 'bulk': how many values and letters a reading holds, each counted each time it is reached (what is shared counts as often as it is met; a slice's spare places count too). A statement '..UptoSaid' is the law's where the arguments, and the package variables that the reading takes, are together of bulk at most 1048576: NARROWER than '..Said'. Prove '..Said' where nothing that the law and all that it calls make is longer than what came in: it says more and counts as full. Else prove '..UptoSaid'. A law counts once. -/
mutual
def uptoBulk {H : Type} : DataW H → Nat
  | .lit (.string bytes) => bytes.length + 1
  | .lit _ => 1
  | .nil => 1
  | .ptr d => uptoBulk d + 1
  | .slice elems spare => uptoBulkAll elems + uptoBulkAll spare + 1
  | .agg parts => uptoBulkAll parts + 1
  | .iface _ d => uptoBulk d + 1
  | .map entries => uptoBulkEntries entries + 1
  | .held _ => 1
def uptoBulkAll {H : Type} : List (DataW H) → Nat
  | [] => 0
  | d :: r => uptoBulk d + uptoBulkAll r
def uptoBulkEntries {H : Type} : List (Lit × DataW H) → Nat
  | [] => 0
  | x :: r => uptoBulkEntry x + uptoBulkEntries r
def uptoBulkEntry {H : Type} : Lit × DataW H → Nat
  | (.string bytes, d) => bytes.length + uptoBulk d + 1
  | (_, d) => uptoBulk d + 1
 end
def uptoSmall : (H : Type) → List (DataW H) → Bool := fun _ ds => decide (uptoBulkAll ds ≤ 1048576)
def OpenSpec.upto (s : _root_.Go.ChangeSpec) : _root_.Go.OpenSpec := { _root_.Go.OpenSpec.ofChange s with cond := some uptoSmall }

/-- 'laws.FnExactUnhex', WHERE WHAT IT READS IS OF BULK AT MOST 1048576: true; the input reads as it did. -/
def fnExactUnhexUptoRow : OpenClaim := { program := "ytneffinmiffhpaa", sum := "6ae71baee20870ec53d2d2121e7aa24171653129848b197ec332f3776796e937", func := "loop.example/g00287/laws.FnExactUnhex", spec := "fnExactUnhex", inPlace := ["internal/bytealg.IndexByteString"], apart := false, narrowed := true }
def FnExactUnhexUptoSaid : Prop := fnExactUnhexUptoRow.holds Try.pinned (OpenSpec.upto fnExactUnhexSpec)

/-- 'laws.FnExactReadShort', WHERE WHAT IT READS IS OF BULK AT MOST 1048576: true; the input reads as it did. -/
def fnExactReadShortUptoRow : OpenClaim := { program := "ytneffinmiffhpaa", sum := "6ae71baee20870ec53d2d2121e7aa24171653129848b197ec332f3776796e937", func := "loop.example/g00287/laws.FnExactReadShort", spec := "fnExactReadShort", apart := false, narrowed := true }
def FnExactReadShortUptoSaid : Prop := fnExactReadShortUptoRow.holds Try.pinned (OpenSpec.upto fnExactReadShortSpec)

/-- 'laws.FnTurned', WHERE WHAT IT READS IS OF BULK AT MOST 1048576: true; the input reads as it did. -/
def fnTurnedUptoRow : OpenClaim := { program := "ytneffinmiffhpaa", sum := "6ae71baee20870ec53d2d2121e7aa24171653129848b197ec332f3776796e937", func := "loop.example/g00287/laws.FnTurned", spec := "fnTurned", apart := false, narrowed := true }
def FnTurnedUptoSaid : Prop := fnTurnedUptoRow.holds Try.pinned (OpenSpec.upto fnTurnedSpec)

/-- 'laws.FnExactRecOk', WHERE WHAT IT READS IS OF BULK AT MOST 1048576: true; the input reads as it did. -/
def fnExactRecOkUptoRow : OpenClaim := { program := "ytneffinmiffhpaa", sum := "6ae71baee20870ec53d2d2121e7aa24171653129848b197ec332f3776796e937", func := "loop.example/g00287/laws.FnExactRecOk", spec := "fnExactRecOk", apart := false, narrowed := true }
def FnExactRecOkUptoSaid : Prop := fnExactRecOkUptoRow.holds Try.pinned (OpenSpec.upto fnExactRecOkSpec)

/-- 'laws.FnExactFrameText', WHERE WHAT IT READS IS OF BULK AT MOST 1048576: true; the input reads as it did. -/
def fnExactFrameTextUptoRow : OpenClaim := { program := "ytneffinmiffhpaa", sum := "6ae71baee20870ec53d2d2121e7aa24171653129848b197ec332f3776796e937", func := "loop.example/g00287/laws.FnExactFrameText", spec := "fnExactFrameText", apart := false, narrowed := true }
def FnExactFrameTextUptoSaid : Prop := fnExactFrameTextUptoRow.holds Try.pinned (OpenSpec.upto fnExactFrameTextSpec)

/-- 'laws.FnExactFrameSize', WHERE WHAT IT READS IS OF BULK AT MOST 1048576: true; the input reads as it did. -/
def fnExactFrameSizeUptoRow : OpenClaim := { program := "ytneffinmiffhpaa", sum := "6ae71baee20870ec53d2d2121e7aa24171653129848b197ec332f3776796e937", func := "loop.example/g00287/laws.FnExactFrameSize", spec := "fnExactFrameSize", apart := false, narrowed := true }
def FnExactFrameSizeUptoSaid : Prop := fnExactFrameSizeUptoRow.holds Try.pinned (OpenSpec.upto fnExactFrameSizeSpec)

/-- 'laws.FnExactRecText', WHERE WHAT IT READS IS OF BULK AT MOST 1048576: true; the input reads as it did. -/
def fnExactRecTextUptoRow : OpenClaim := { program := "ytneffinmiffhpaa", sum := "6ae71baee20870ec53d2d2121e7aa24171653129848b197ec332f3776796e937", func := "loop.example/g00287/laws.FnExactRecText", spec := "fnExactRecText", apart := false, narrowed := true }
def FnExactRecTextUptoSaid : Prop := fnExactRecTextUptoRow.holds Try.pinned (OpenSpec.upto fnExactRecTextSpec)

/-- 'laws.FnExactReadFrame', WHERE WHAT IT READS IS OF BULK AT MOST 1048576: true; the input reads as it did. -/
def fnExactReadFrameUptoRow : OpenClaim := { program := "ytneffinmiffhpaa", sum := "6ae71baee20870ec53d2d2121e7aa24171653129848b197ec332f3776796e937", func := "loop.example/g00287/laws.FnExactReadFrame", spec := "fnExactReadFrame", apart := false, narrowed := true }
def FnExactReadFrameUptoSaid : Prop := fnExactReadFrameUptoRow.holds Try.pinned (OpenSpec.upto fnExactReadFrameSpec)

/-- 'laws.FnFrames', WHERE WHAT IT READS IS OF BULK AT MOST 1048576: true; the input reads as it did. -/
def fnFramesUptoRow : OpenClaim := { program := "ytneffinmiffhpaa", sum := "6ae71baee20870ec53d2d2121e7aa24171653129848b197ec332f3776796e937", func := "loop.example/g00287/laws.FnFrames", spec := "fnFrames", apart := false, narrowed := true }
def FnFramesUptoSaid : Prop := fnFramesUptoRow.holds Try.pinned (OpenSpec.upto fnFramesSpec)

/-- 'laws.FnExactItemFrame', WHERE WHAT IT READS IS OF BULK AT MOST 1048576: true; the input reads as it did. -/
def fnExactItemFrameUptoRow : OpenClaim := { program := "ytneffinmiffhpaa", sum := "6ae71baee20870ec53d2d2121e7aa24171653129848b197ec332f3776796e937", func := "loop.example/g00287/laws.FnExactItemFrame", spec := "fnExactItemFrame", apart := false, narrowed := true }
def FnExactItemFrameUptoSaid : Prop := fnExactItemFrameUptoRow.holds Try.pinned (OpenSpec.upto fnExactItemFrameSpec)

/-- 'laws.FnExactScanFrames', WHERE WHAT IT READS IS OF BULK AT MOST 1048576: true; the input reads as it did. -/
def fnExactScanFramesUptoRow : OpenClaim := { program := "ytneffinmiffhpaa", sum := "6ae71baee20870ec53d2d2121e7aa24171653129848b197ec332f3776796e937", func := "loop.example/g00287/laws.FnExactScanFrames", spec := "fnExactScanFrames", apart := false, narrowed := true }
def FnExactScanFramesUptoSaid : Prop := fnExactScanFramesUptoRow.holds Try.pinned (OpenSpec.upto fnExactScanFramesSpec)

/-- 'laws.FnFramesTurned', WHERE WHAT IT READS IS OF BULK AT MOST 1048576: true; the input reads as it did. -/
def fnFramesTurnedUptoRow : OpenClaim := { program := "ytneffinmiffhpaa", sum := "6ae71baee20870ec53d2d2121e7aa24171653129848b197ec332f3776796e937", func := "loop.example/g00287/laws.FnFramesTurned", spec := "fnFramesTurned", apart := false, narrowed := true }
def FnFramesTurnedUptoSaid : Prop := fnFramesTurnedUptoRow.holds Try.pinned (OpenSpec.upto fnFramesTurnedSpec)

end Rows
end Go.Proofs.Ytneffinmiffhpaa
