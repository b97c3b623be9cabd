/-
  No cell of these rows narrows 'for every input' (looked for: loops, veiled, ifaces, maps, wideKeys, modest, calm, conditions, laid).
  DERIVED. THE GIVEN ROWS OF THIS SEAT. 6 by the template 'for every input the law returns true; each argument reads behind the call as it read before'; 0 by the template 'total and deterministic' (their statements: YtjpngldnkgofaaaTotals.lean).
  GIVEN WITH THE SEED: the statements are not yours to turn. If you find one false, say at which input.
  Laid BY PROGRAM, IN A SANDBOX (cutbox-rows.mjs): the forced cells as the released guide's own fill.sh prints them over the translation 2577f39c0c403356… (all of the seat's roots in one cut). By AI agents, Wed Nov 11 2026. No macro, syntax, notation, axiom, sorry.
-/
import Derived.Test.YtjpngldnkgofaaaChecked
import GoSem.Claim
import GoSem.ClaimJoined
import GoSem.ClaimMapViews
import Derived.JoinedTies
import Derived.KernelRfl
namespace Go.Proofs.Ytjpngldnkgofaaa
/- THE CELL 'sum', in the pinned program and in every row, IS THE sha256 OF THE DUMP (.gsa) THAT YtjpngldnkgofaaaProg.lean LOADS. Nothing in Lean hashes anything: it is a label: what it is worth is what the hold of that sum in a sandbox is worth. -/
noncomputable def Try.pinned : Pinned := { name := "ytjpngldnkgofaaa", sum := "2577f39c0c403356b6ab35de2c968b24793a4eba37fa8e916a46e94627c4e3e3", checked := Try.checked }
namespace Rows
def none {H : Type} : Left H := { results := [], args := [] }

/-- 'laws.FnSectors': WHATEVER THE INPUT: true; the input reads as it did. -/
def fnSectorsSpec : ChangeSpec := { name := "fnSectors", fn := fun _ => fun
  | [d] => { results := [.lit (.bool true)], args := [d] }
  | _ => none }
def fnSectorsRow : OpenClaim := { program := "ytjpngldnkgofaaa", sum := "2577f39c0c403356b6ab35de2c968b24793a4eba37fa8e916a46e94627c4e3e3", func := "loop.example/g00287/laws.FnSectors", spec := "fnSectors", unfollowed := true, recurses := true, apart := false }
def FnSectorsSaid : Prop := fnSectorsRow.holds Try.pinned (OpenSpec.ofChange fnSectorsSpec)

/-- ITS FALSE NEIGHBOUR: 'it returns false'. Refute it at one input. -/
def fnSectorsWrong : ChangeSpec := { name := "fnSectors", fn := fun _ => fun
  | [d] => { results := [.lit (.bool false)], args := [d] }
  | _ => none }
def FnSectorsWrongFalsely : Prop := fnSectorsRow.holds Try.pinned (OpenSpec.ofChange fnSectorsWrong)

/-- 'laws.FnTorn': WHATEVER THE INPUT: true; the input reads as it did. -/
def fnTornSpec : ChangeSpec := { name := "fnTorn", fn := fun _ => fun
  | [d] => { results := [.lit (.bool true)], args := [d] }
  | _ => none }
def fnTornRow : OpenClaim := { program := "ytjpngldnkgofaaa", sum := "2577f39c0c403356b6ab35de2c968b24793a4eba37fa8e916a46e94627c4e3e3", func := "loop.example/g00287/laws.FnTorn", spec := "fnTorn", unfollowed := true, recurses := true, apart := false }
def FnTornSaid : Prop := fnTornRow.holds Try.pinned (OpenSpec.ofChange fnTornSpec)

/-- ITS FALSE NEIGHBOUR: 'it returns false'. Refute it at one input. -/
def fnTornWrong : ChangeSpec := { name := "fnTorn", fn := fun _ => fun
  | [d] => { results := [.lit (.bool false)], args := [d] }
  | _ => none }
def FnTornWrongFalsely : Prop := fnTornRow.holds Try.pinned (OpenSpec.ofChange fnTornWrong)

/-- 'laws.FnCrashes': WHATEVER THE INPUT: true; the input reads as it did. -/
def fnCrashesSpec : ChangeSpec := { name := "fnCrashes", fn := fun _ => fun
  | [d] => { results := [.lit (.bool true)], args := [d] }
  | _ => none }
def fnCrashesRow : OpenClaim := { program := "ytjpngldnkgofaaa", sum := "2577f39c0c403356b6ab35de2c968b24793a4eba37fa8e916a46e94627c4e3e3", func := "loop.example/g00287/laws.FnCrashes", spec := "fnCrashes", unfollowed := true, recurses := true, apart := false }
def FnCrashesSaid : Prop := fnCrashesRow.holds Try.pinned (OpenSpec.ofChange fnCrashesSpec)

/-- ITS FALSE NEIGHBOUR: 'it returns false'. Refute it at one input. -/
def fnCrashesWrong : ChangeSpec := { name := "fnCrashes", fn := fun _ => fun
  | [d] => { results := [.lit (.bool false)], args := [d] }
  | _ => none }
def FnCrashesWrongFalsely : Prop := fnCrashesRow.holds Try.pinned (OpenSpec.ofChange fnCrashesWrong)

/-- 'laws.FnSegments': WHATEVER THE INPUT: true; the input reads as it did. -/
def fnSegmentsSpec : ChangeSpec := { name := "fnSegments", fn := fun _ => fun
  | [d] => { results := [.lit (.bool true)], args := [d] }
  | _ => none }
def fnSegmentsRow : OpenClaim := { program := "ytjpngldnkgofaaa", sum := "2577f39c0c403356b6ab35de2c968b24793a4eba37fa8e916a46e94627c4e3e3", func := "loop.example/g00287/laws.FnSegments", spec := "fnSegments", unfollowed := true, recurses := true, apart := false }
def FnSegmentsSaid : Prop := fnSegmentsRow.holds Try.pinned (OpenSpec.ofChange fnSegmentsSpec)

/-- ITS FALSE NEIGHBOUR: 'it returns false'. Refute it at one input. -/
def fnSegmentsWrong : ChangeSpec := { name := "fnSegments", fn := fun _ => fun
  | [d] => { results := [.lit (.bool false)], args := [d] }
  | _ => none }
def FnSegmentsWrongFalsely : Prop := fnSegmentsRow.holds Try.pinned (OpenSpec.ofChange fnSegmentsWrong)

/-- 'laws.FnDisksTold': WHATEVER THE INPUT: true; the input reads as it did. -/
def fnDisksToldSpec : ChangeSpec := { name := "fnDisksTold", fn := fun _ => fun
  | [d] => { results := [.lit (.bool true)], args := [d] }
  | _ => none }
def fnDisksToldRow : OpenClaim := { program := "ytjpngldnkgofaaa", sum := "2577f39c0c403356b6ab35de2c968b24793a4eba37fa8e916a46e94627c4e3e3", func := "loop.example/g00287/laws.FnDisksTold", spec := "fnDisksTold", inPlace := ["internal/abi.NoEscape", "internal/bytealg.MakeNoZero"], unfollowed := true, recurses := true, apart := false }
def FnDisksToldSaid : Prop := fnDisksToldRow.holds Try.pinned (OpenSpec.ofChange fnDisksToldSpec)

/-- ITS FALSE NEIGHBOUR: 'it returns false'. Refute it at one input. -/
def fnDisksToldWrong : ChangeSpec := { name := "fnDisksTold", fn := fun _ => fun
  | [d] => { results := [.lit (.bool false)], args := [d] }
  | _ => none }
def FnDisksToldWrongFalsely : Prop := fnDisksToldRow.holds Try.pinned (OpenSpec.ofChange fnDisksToldWrong)

/-- 'laws.FnSegmentsTold': WHATEVER THE INPUT: true; the input reads as it did. -/
def fnSegmentsToldSpec : ChangeSpec := { name := "fnSegmentsTold", fn := fun _ => fun
  | [d] => { results := [.lit (.bool true)], args := [d] }
  | _ => none }
def fnSegmentsToldRow : OpenClaim := { program := "ytjpngldnkgofaaa", sum := "2577f39c0c403356b6ab35de2c968b24793a4eba37fa8e916a46e94627c4e3e3", func := "loop.example/g00287/laws.FnSegmentsTold", spec := "fnSegmentsTold", apart := false }
def FnSegmentsToldSaid : Prop := fnSegmentsToldRow.holds Try.pinned (OpenSpec.ofChange fnSegmentsToldSpec)

/-- ITS FALSE NEIGHBOUR: 'it returns false'. Refute it at one input. -/
def fnSegmentsToldWrong : ChangeSpec := { name := "fnSegmentsTold", fn := fun _ => fun
  | [d] => { results := [.lit (.bool false)], args := [d] }
  | _ => none }
def FnSegmentsToldWrongFalsely : Prop := fnSegmentsToldRow.holds Try.pinned (OpenSpec.ofChange fnSegmentsToldWrong)

/- THE SECOND FORM. 'bulk': how many values and letters a reading holds, each counted each time it is reached (what is shared counts as often as it is met; a slice's spare places count too). A statement '..UptoSaid' is the law's where the arguments, and the package variables that the reading takes, are together of bulk at most 1048576: NARROWER than '..Said'. Prove '..Said' where nothing that the law and all that it calls make is longer than what came in: it says more and counts as full. Else prove '..UptoSaid'. A law counts once. -/
mutual
def uptoBulk {H : Type} : DataW H → Nat
  | .lit (.string bytes) => bytes.length + 1
  | .lit _ => 1
  | .nil => 1
  | .ptr d => uptoBulk d + 1
  | .slice elems spare => uptoBulkAll elems + uptoBulkAll spare + 1
  | .agg parts => uptoBulkAll parts + 1
  | .iface _ d => uptoBulk d + 1
  | .map entries => uptoBulkEntries entries + 1
  | .held _ => 1
def uptoBulkAll {H : Type} : List (DataW H) → Nat
  | [] => 0
  | d :: r => uptoBulk d + uptoBulkAll r
def uptoBulkEntries {H : Type} : List (Lit × DataW H) → Nat
  | [] => 0
  | x :: r => uptoBulkEntry x + uptoBulkEntries r
def uptoBulkEntry {H : Type} : Lit × DataW H → Nat
  | (.string bytes, d) => bytes.length + uptoBulk d + 1
  | (_, d) => uptoBulk d + 1
 end
def uptoSmall : (H : Type) → List (DataW H) → Bool := fun _ ds => decide (uptoBulkAll ds ≤ 1048576)
def OpenSpec.upto (s : _root_.Go.ChangeSpec) : _root_.Go.OpenSpec := { _root_.Go.OpenSpec.ofChange s with cond := some uptoSmall }

/-- 'laws.FnSectors', WHERE WHAT IT READS IS OF BULK AT MOST 1048576: true; the input reads as it did. -/
def fnSectorsUptoRow : OpenClaim := { program := "ytjpngldnkgofaaa", sum := "2577f39c0c403356b6ab35de2c968b24793a4eba37fa8e916a46e94627c4e3e3", func := "loop.example/g00287/laws.FnSectors", spec := "fnSectors", unfollowed := true, recurses := true, apart := false, narrowed := true }
def FnSectorsUptoSaid : Prop := fnSectorsUptoRow.holds Try.pinned (OpenSpec.upto fnSectorsSpec)

/-- 'laws.FnTorn', WHERE WHAT IT READS IS OF BULK AT MOST 1048576: true; the input reads as it did. -/
def fnTornUptoRow : OpenClaim := { program := "ytjpngldnkgofaaa", sum := "2577f39c0c403356b6ab35de2c968b24793a4eba37fa8e916a46e94627c4e3e3", func := "loop.example/g00287/laws.FnTorn", spec := "fnTorn", unfollowed := true, recurses := true, apart := false, narrowed := true }
def FnTornUptoSaid : Prop := fnTornUptoRow.holds Try.pinned (OpenSpec.upto fnTornSpec)

/-- 'laws.FnCrashes', WHERE WHAT IT READS IS OF BULK AT MOST 1048576: true; the input reads as it did. -/
def fnCrashesUptoRow : OpenClaim := { program := "ytjpngldnkgofaaa", sum := "2577f39c0c403356b6ab35de2c968b24793a4eba37fa8e916a46e94627c4e3e3", func := "loop.example/g00287/laws.FnCrashes", spec := "fnCrashes", unfollowed := true, recurses := true, apart := false, narrowed := true }
def FnCrashesUptoSaid : Prop := fnCrashesUptoRow.holds Try.pinned (OpenSpec.upto fnCrashesSpec)

/-- 'laws.FnSegments', WHERE WHAT IT READS IS OF BULK AT MOST 1048576: true; the input reads as it did. -/
def fnSegmentsUptoRow : OpenClaim := { program := "ytjpngldnkgofaaa", sum := "2577f39c0c403356b6ab35de2c968b24793a4eba37fa8e916a46e94627c4e3e3", func := "loop.example/g00287/laws.FnSegments", spec := "fnSegments", unfollowed := true, recurses := true, apart := false, narrowed := true }
def FnSegmentsUptoSaid : Prop := fnSegmentsUptoRow.holds Try.pinned (OpenSpec.upto fnSegmentsSpec)

/-- 'laws.FnDisksTold', WHERE WHAT IT READS IS OF BULK AT MOST 1048576: true; the input reads as it did. -/
def fnDisksToldUptoRow : OpenClaim := { program := "ytjpngldnkgofaaa", sum := "2577f39c0c403356b6ab35de2c968b24793a4eba37fa8e916a46e94627c4e3e3", func := "loop.example/g00287/laws.FnDisksTold", spec := "fnDisksTold", inPlace := ["internal/abi.NoEscape", "internal/bytealg.MakeNoZero"], unfollowed := true, recurses := true, apart := false, narrowed := true }
def FnDisksToldUptoSaid : Prop := fnDisksToldUptoRow.holds Try.pinned (OpenSpec.upto fnDisksToldSpec)

/-- 'laws.FnSegmentsTold', WHERE WHAT IT READS IS OF BULK AT MOST 1048576: true; the input reads as it did. -/
def fnSegmentsToldUptoRow : OpenClaim := { program := "ytjpngldnkgofaaa", sum := "2577f39c0c403356b6ab35de2c968b24793a4eba37fa8e916a46e94627c4e3e3", func := "loop.example/g00287/laws.FnSegmentsTold", spec := "fnSegmentsTold", apart := false, narrowed := true }
def FnSegmentsToldUptoSaid : Prop := fnSegmentsToldUptoRow.holds Try.pinned (OpenSpec.upto fnSegmentsToldSpec)

end Rows
end Go.Proofs.Ytjpngldnkgofaaa
