/-
  No cell of these rows narrows 'for every input' (looked for: loops, veiled, ifaces, maps, wideKeys, modest, calm, conditions, laid).
  DERIVED. THE GIVEN ROWS OF THIS SEAT. 11 by the template 'for every input the law returns true; each argument reads behind the call as it read before'; 0 by the template 'total and deterministic' (their statements: YtdnjjdmlmfoljaaTotals.lean).
  GIVEN WITH THE SEED: the statements are not yours to turn. If you find one false, say at which input.
  Laid BY PROGRAM, IN A SANDBOX (cutbox-rows.mjs): the forced cells as the released guide's own fill.sh prints them over the translation 9f0244a91ca12491… (all of the seat's roots in one cut). By AI agents, Wed Nov 11 2026. No macro, syntax, notation, axiom, sorry.
-/
import Derived.Test.YtdnjjdmlmfoljaaChecked
import GoSem.Claim
import GoSem.ClaimJoined
import GoSem.ClaimMapViews
import Derived.JoinedTies
import Derived.KernelRfl
namespace Go.Proofs.Ytdnjjdmlmfoljaa
/- THE CELL 'sum', in the pinned program and in every row, IS THE sha256 OF THE DUMP (.gsa) THAT YtdnjjdmlmfoljaaProg.lean LOADS. Nothing in Lean hashes anything: it is a label: what it is worth is what the hold of that sum in a sandbox is worth. -/
noncomputable def Try.pinned : Pinned := { name := "ytdnjjdmlmfoljaa", sum := "9f0244a91ca12491d96ca943e48ca9abf7ea844fddeb92722234d54040f29171", checked := Try.checked }
namespace Rows
def none {H : Type} : Left H := { results := [], args := [] }

/-- 'laws.FnExactSegsOf': WHATEVER THE INPUT: true; the input reads as it did. -/
def fnExactSegsOfSpec : ChangeSpec := { name := "fnExactSegsOf", fn := fun _ => fun
  | [d] => { results := [.lit (.bool true)], args := [d] }
  | _ => none }
def fnExactSegsOfRow : OpenClaim := { program := "ytdnjjdmlmfoljaa", sum := "9f0244a91ca12491d96ca943e48ca9abf7ea844fddeb92722234d54040f29171", func := "loop.example/g00287/laws.FnExactSegsOf", spec := "fnExactSegsOf", apart := false }
def FnExactSegsOfSaid : Prop := fnExactSegsOfRow.holds Try.pinned (OpenSpec.ofChange fnExactSegsOfSpec)

/-- ITS FALSE NEIGHBOUR: 'it returns false'. Refute it at one input. -/
def fnExactSegsOfWrong : ChangeSpec := { name := "fnExactSegsOf", fn := fun _ => fun
  | [d] => { results := [.lit (.bool false)], args := [d] }
  | _ => none }
def FnExactSegsOfWrongFalsely : Prop := fnExactSegsOfRow.holds Try.pinned (OpenSpec.ofChange fnExactSegsOfWrong)

/-- 'laws.FnExactReadSector': WHATEVER THE INPUT: true; the input reads as it did. -/
def fnExactReadSectorSpec : ChangeSpec := { name := "fnExactReadSector", fn := fun _ => fun
  | [d1, d2] => { results := [.lit (.bool true)], args := [d1, d2] }
  | _ => none }
def fnExactReadSectorRow : OpenClaim := { program := "ytdnjjdmlmfoljaa", sum := "9f0244a91ca12491d96ca943e48ca9abf7ea844fddeb92722234d54040f29171", func := "loop.example/g00287/laws.FnExactReadSector", spec := "fnExactReadSector", apart := false }
def FnExactReadSectorSaid : Prop := fnExactReadSectorRow.holds Try.pinned (OpenSpec.ofChange fnExactReadSectorSpec)

/-- ITS FALSE NEIGHBOUR: 'it returns false'. Refute it at one input. -/
def fnExactReadSectorWrong : ChangeSpec := { name := "fnExactReadSector", fn := fun _ => fun
  | [d1, d2] => { results := [.lit (.bool false)], args := [d1, d2] }
  | _ => none }
def FnExactReadSectorWrongFalsely : Prop := fnExactReadSectorRow.holds Try.pinned (OpenSpec.ofChange fnExactReadSectorWrong)

/-- 'laws.FnExactDiskOk': WHATEVER THE INPUT: true; the input reads as it did. -/
def fnExactDiskOkSpec : ChangeSpec := { name := "fnExactDiskOk", fn := fun _ => fun
  | [d] => { results := [.lit (.bool true)], args := [d] }
  | _ => none }
def fnExactDiskOkRow : OpenClaim := { program := "ytdnjjdmlmfoljaa", sum := "9f0244a91ca12491d96ca943e48ca9abf7ea844fddeb92722234d54040f29171", func := "loop.example/g00287/laws.FnExactDiskOk", spec := "fnExactDiskOk", unfollowed := true, recurses := true, apart := false }
def FnExactDiskOkSaid : Prop := fnExactDiskOkRow.holds Try.pinned (OpenSpec.ofChange fnExactDiskOkSpec)

/-- ITS FALSE NEIGHBOUR: 'it returns false'. Refute it at one input. -/
def fnExactDiskOkWrong : ChangeSpec := { name := "fnExactDiskOk", fn := fun _ => fun
  | [d] => { results := [.lit (.bool false)], args := [d] }
  | _ => none }
def FnExactDiskOkWrongFalsely : Prop := fnExactDiskOkRow.holds Try.pinned (OpenSpec.ofChange fnExactDiskOkWrong)

/-- 'laws.FnExactSectorText': WHATEVER THE INPUT: true; the input reads as it did. -/
def fnExactSectorTextSpec : ChangeSpec := { name := "fnExactSectorText", fn := fun _ => fun
  | [d1, d2, d3] => { results := [.lit (.bool true)], args := [d1, d2, d3] }
  | _ => none }
def fnExactSectorTextRow : OpenClaim := { program := "ytdnjjdmlmfoljaa", sum := "9f0244a91ca12491d96ca943e48ca9abf7ea844fddeb92722234d54040f29171", func := "loop.example/g00287/laws.FnExactSectorText", spec := "fnExactSectorText", apart := false }
def FnExactSectorTextSaid : Prop := fnExactSectorTextRow.holds Try.pinned (OpenSpec.ofChange fnExactSectorTextSpec)

/-- ITS FALSE NEIGHBOUR: 'it returns false'. Refute it at one input. -/
def fnExactSectorTextWrong : ChangeSpec := { name := "fnExactSectorText", fn := fun _ => fun
  | [d1, d2, d3] => { results := [.lit (.bool false)], args := [d1, d2, d3] }
  | _ => none }
def FnExactSectorTextWrongFalsely : Prop := fnExactSectorTextRow.holds Try.pinned (OpenSpec.ofChange fnExactSectorTextWrong)

/-- 'laws.FnExactSegText': WHATEVER THE INPUT: true; the input reads as it did. -/
def fnExactSegTextSpec : ChangeSpec := { name := "fnExactSegText", fn := fun _ => fun
  | [d1, d2] => { results := [.lit (.bool true)], args := [d1, d2] }
  | _ => none }
def fnExactSegTextRow : OpenClaim := { program := "ytdnjjdmlmfoljaa", sum := "9f0244a91ca12491d96ca943e48ca9abf7ea844fddeb92722234d54040f29171", func := "loop.example/g00287/laws.FnExactSegText", spec := "fnExactSegText", apart := false }
def FnExactSegTextSaid : Prop := fnExactSegTextRow.holds Try.pinned (OpenSpec.ofChange fnExactSegTextSpec)

/-- ITS FALSE NEIGHBOUR: 'it returns false'. Refute it at one input. -/
def fnExactSegTextWrong : ChangeSpec := { name := "fnExactSegText", fn := fun _ => fun
  | [d1, d2] => { results := [.lit (.bool false)], args := [d1, d2] }
  | _ => none }
def FnExactSegTextWrongFalsely : Prop := fnExactSegTextRow.holds Try.pinned (OpenSpec.ofChange fnExactSegTextWrong)

/-- 'laws.FnExactWriteSector': WHATEVER THE INPUT: true; the input reads as it did. -/
def fnExactWriteSectorSpec : ChangeSpec := { name := "fnExactWriteSector", fn := fun _ => fun
  | [d1, d2, d3] => { results := [.lit (.bool true)], args := [d1, d2, d3] }
  | _ => none }
def fnExactWriteSectorRow : OpenClaim := { program := "ytdnjjdmlmfoljaa", sum := "9f0244a91ca12491d96ca943e48ca9abf7ea844fddeb92722234d54040f29171", func := "loop.example/g00287/laws.FnExactWriteSector", spec := "fnExactWriteSector", unfollowed := true, recurses := true, apart := false }
def FnExactWriteSectorSaid : Prop := fnExactWriteSectorRow.holds Try.pinned (OpenSpec.ofChange fnExactWriteSectorSpec)

/-- ITS FALSE NEIGHBOUR: 'it returns false'. Refute it at one input. -/
def fnExactWriteSectorWrong : ChangeSpec := { name := "fnExactWriteSector", fn := fun _ => fun
  | [d1, d2, d3] => { results := [.lit (.bool false)], args := [d1, d2, d3] }
  | _ => none }
def FnExactWriteSectorWrongFalsely : Prop := fnExactWriteSectorRow.holds Try.pinned (OpenSpec.ofChange fnExactWriteSectorWrong)

/-- 'laws.FnExactFlushDisk': WHATEVER THE INPUT: true; the input reads as it did. -/
def fnExactFlushDiskSpec : ChangeSpec := { name := "fnExactFlushDisk", fn := fun _ => fun
  | [d] => { results := [.lit (.bool true)], args := [d] }
  | _ => none }
def fnExactFlushDiskRow : OpenClaim := { program := "ytdnjjdmlmfoljaa", sum := "9f0244a91ca12491d96ca943e48ca9abf7ea844fddeb92722234d54040f29171", func := "loop.example/g00287/laws.FnExactFlushDisk", spec := "fnExactFlushDisk", unfollowed := true, recurses := true, apart := false }
def FnExactFlushDiskSaid : Prop := fnExactFlushDiskRow.holds Try.pinned (OpenSpec.ofChange fnExactFlushDiskSpec)

/-- ITS FALSE NEIGHBOUR: 'it returns false'. Refute it at one input. -/
def fnExactFlushDiskWrong : ChangeSpec := { name := "fnExactFlushDisk", fn := fun _ => fun
  | [d] => { results := [.lit (.bool false)], args := [d] }
  | _ => none }
def FnExactFlushDiskWrongFalsely : Prop := fnExactFlushDiskRow.holds Try.pinned (OpenSpec.ofChange fnExactFlushDiskWrong)

/-- 'laws.FnExactDiskNew': WHATEVER THE INPUT: true; the input reads as it did. -/
def fnExactDiskNewSpec : ChangeSpec := { name := "fnExactDiskNew", fn := fun _ => fun
  | [d] => { results := [.lit (.bool true)], args := [d] }
  | _ => none }
def fnExactDiskNewRow : OpenClaim := { program := "ytdnjjdmlmfoljaa", sum := "9f0244a91ca12491d96ca943e48ca9abf7ea844fddeb92722234d54040f29171", func := "loop.example/g00287/laws.FnExactDiskNew", spec := "fnExactDiskNew", inPlace := ["internal/abi.NoEscape", "internal/bytealg.MakeNoZero"], apart := false }
def FnExactDiskNewSaid : Prop := fnExactDiskNewRow.holds Try.pinned (OpenSpec.ofChange fnExactDiskNewSpec)

/-- ITS FALSE NEIGHBOUR: 'it returns false'. Refute it at one input. -/
def fnExactDiskNewWrong : ChangeSpec := { name := "fnExactDiskNew", fn := fun _ => fun
  | [d] => { results := [.lit (.bool false)], args := [d] }
  | _ => none }
def FnExactDiskNewWrongFalsely : Prop := fnExactDiskNewRow.holds Try.pinned (OpenSpec.ofChange fnExactDiskNewWrong)

/-- 'laws.FnExactCrashDisk': WHATEVER THE INPUT: true; the input reads as it did. -/
def fnExactCrashDiskSpec : ChangeSpec := { name := "fnExactCrashDisk", fn := fun _ => fun
  | [d1, d2, d3] => { results := [.lit (.bool true)], args := [d1, d2, d3] }
  | _ => none }
def fnExactCrashDiskRow : OpenClaim := { program := "ytdnjjdmlmfoljaa", sum := "9f0244a91ca12491d96ca943e48ca9abf7ea844fddeb92722234d54040f29171", func := "loop.example/g00287/laws.FnExactCrashDisk", spec := "fnExactCrashDisk", unfollowed := true, recurses := true, apart := false }
def FnExactCrashDiskSaid : Prop := fnExactCrashDiskRow.holds Try.pinned (OpenSpec.ofChange fnExactCrashDiskSpec)

/-- ITS FALSE NEIGHBOUR: 'it returns false'. Refute it at one input. -/
def fnExactCrashDiskWrong : ChangeSpec := { name := "fnExactCrashDisk", fn := fun _ => fun
  | [d1, d2, d3] => { results := [.lit (.bool false)], args := [d1, d2, d3] }
  | _ => none }
def FnExactCrashDiskWrongFalsely : Prop := fnExactCrashDiskRow.holds Try.pinned (OpenSpec.ofChange fnExactCrashDiskWrong)

/-- 'laws.FnExactSegGen': WHATEVER THE INPUT: true; the input reads as it did. -/
def fnExactSegGenSpec : ChangeSpec := { name := "fnExactSegGen", fn := fun _ => fun
  | [d1, d2] => { results := [.lit (.bool true)], args := [d1, d2] }
  | _ => none }
def fnExactSegGenRow : OpenClaim := { program := "ytdnjjdmlmfoljaa", sum := "9f0244a91ca12491d96ca943e48ca9abf7ea844fddeb92722234d54040f29171", func := "loop.example/g00287/laws.FnExactSegGen", spec := "fnExactSegGen", apart := false }
def FnExactSegGenSaid : Prop := fnExactSegGenRow.holds Try.pinned (OpenSpec.ofChange fnExactSegGenSpec)

/-- ITS FALSE NEIGHBOUR: 'it returns false'. Refute it at one input. -/
def fnExactSegGenWrong : ChangeSpec := { name := "fnExactSegGen", fn := fun _ => fun
  | [d1, d2] => { results := [.lit (.bool false)], args := [d1, d2] }
  | _ => none }
def FnExactSegGenWrongFalsely : Prop := fnExactSegGenRow.holds Try.pinned (OpenSpec.ofChange fnExactSegGenWrong)

/-- 'laws.FnExactSegFrames': WHATEVER THE INPUT: true; the input reads as it did. -/
def fnExactSegFramesSpec : ChangeSpec := { name := "fnExactSegFrames", fn := fun _ => fun
  | [d1, d2] => { results := [.lit (.bool true)], args := [d1, d2] }
  | _ => none }
def fnExactSegFramesRow : OpenClaim := { program := "ytdnjjdmlmfoljaa", sum := "9f0244a91ca12491d96ca943e48ca9abf7ea844fddeb92722234d54040f29171", func := "loop.example/g00287/laws.FnExactSegFrames", spec := "fnExactSegFrames", apart := false }
def FnExactSegFramesSaid : Prop := fnExactSegFramesRow.holds Try.pinned (OpenSpec.ofChange fnExactSegFramesSpec)

/-- ITS FALSE NEIGHBOUR: 'it returns false'. Refute it at one input. -/
def fnExactSegFramesWrong : ChangeSpec := { name := "fnExactSegFrames", fn := fun _ => fun
  | [d1, d2] => { results := [.lit (.bool false)], args := [d1, d2] }
  | _ => none }
def FnExactSegFramesWrongFalsely : Prop := fnExactSegFramesRow.holds Try.pinned (OpenSpec.ofChange fnExactSegFramesWrong)

/- THE SECOND FORM. 'bulk': how many values and letters a reading holds, each counted each time it is reached (what is shared counts as often as it is met; a slice's spare places count too). A statement '..UptoSaid' is the law's where the arguments, and the package variables that the reading takes, are together of bulk at most 1048576: NARROWER than '..Said'. Prove '..Said' where nothing that the law and all that it calls make is longer than what came in: it says more and counts as full. Else prove '..UptoSaid'. A law counts once. -/
mutual
def uptoBulk {H : Type} : DataW H → Nat
  | .lit (.string bytes) => bytes.length + 1
  | .lit _ => 1
  | .nil => 1
  | .ptr d => uptoBulk d + 1
  | .slice elems spare => uptoBulkAll elems + uptoBulkAll spare + 1
  | .agg parts => uptoBulkAll parts + 1
  | .iface _ d => uptoBulk d + 1
  | .map entries => uptoBulkEntries entries + 1
  | .held _ => 1
def uptoBulkAll {H : Type} : List (DataW H) → Nat
  | [] => 0
  | d :: r => uptoBulk d + uptoBulkAll r
def uptoBulkEntries {H : Type} : List (Lit × DataW H) → Nat
  | [] => 0
  | x :: r => uptoBulkEntry x + uptoBulkEntries r
def uptoBulkEntry {H : Type} : Lit × DataW H → Nat
  | (.string bytes, d) => bytes.length + uptoBulk d + 1
  | (_, d) => uptoBulk d + 1
 end
def uptoSmall : (H : Type) → List (DataW H) → Bool := fun _ ds => decide (uptoBulkAll ds ≤ 1048576)
def OpenSpec.upto (s : _root_.Go.ChangeSpec) : _root_.Go.OpenSpec := { _root_.Go.OpenSpec.ofChange s with cond := some uptoSmall }

/-- 'laws.FnExactSegsOf', WHERE WHAT IT READS IS OF BULK AT MOST 1048576: true; the input reads as it did. -/
def fnExactSegsOfUptoRow : OpenClaim := { program := "ytdnjjdmlmfoljaa", sum := "9f0244a91ca12491d96ca943e48ca9abf7ea844fddeb92722234d54040f29171", func := "loop.example/g00287/laws.FnExactSegsOf", spec := "fnExactSegsOf", apart := false, narrowed := true }
def FnExactSegsOfUptoSaid : Prop := fnExactSegsOfUptoRow.holds Try.pinned (OpenSpec.upto fnExactSegsOfSpec)

/-- 'laws.FnExactReadSector', WHERE WHAT IT READS IS OF BULK AT MOST 1048576: true; the input reads as it did. -/
def fnExactReadSectorUptoRow : OpenClaim := { program := "ytdnjjdmlmfoljaa", sum := "9f0244a91ca12491d96ca943e48ca9abf7ea844fddeb92722234d54040f29171", func := "loop.example/g00287/laws.FnExactReadSector", spec := "fnExactReadSector", apart := false, narrowed := true }
def FnExactReadSectorUptoSaid : Prop := fnExactReadSectorUptoRow.holds Try.pinned (OpenSpec.upto fnExactReadSectorSpec)

/-- 'laws.FnExactDiskOk', WHERE WHAT IT READS IS OF BULK AT MOST 1048576: true; the input reads as it did. -/
def fnExactDiskOkUptoRow : OpenClaim := { program := "ytdnjjdmlmfoljaa", sum := "9f0244a91ca12491d96ca943e48ca9abf7ea844fddeb92722234d54040f29171", func := "loop.example/g00287/laws.FnExactDiskOk", spec := "fnExactDiskOk", unfollowed := true, recurses := true, apart := false, narrowed := true }
def FnExactDiskOkUptoSaid : Prop := fnExactDiskOkUptoRow.holds Try.pinned (OpenSpec.upto fnExactDiskOkSpec)

/-- 'laws.FnExactSectorText', WHERE WHAT IT READS IS OF BULK AT MOST 1048576: true; the input reads as it did. -/
def fnExactSectorTextUptoRow : OpenClaim := { program := "ytdnjjdmlmfoljaa", sum := "9f0244a91ca12491d96ca943e48ca9abf7ea844fddeb92722234d54040f29171", func := "loop.example/g00287/laws.FnExactSectorText", spec := "fnExactSectorText", apart := false, narrowed := true }
def FnExactSectorTextUptoSaid : Prop := fnExactSectorTextUptoRow.holds Try.pinned (OpenSpec.upto fnExactSectorTextSpec)

/-- 'laws.FnExactSegText', WHERE WHAT IT READS IS OF BULK AT MOST 1048576: true; the input reads as it did. -/
def fnExactSegTextUptoRow : OpenClaim := { program := "ytdnjjdmlmfoljaa", sum := "9f0244a91ca12491d96ca943e48ca9abf7ea844fddeb92722234d54040f29171", func := "loop.example/g00287/laws.FnExactSegText", spec := "fnExactSegText", apart := false, narrowed := true }
def FnExactSegTextUptoSaid : Prop := fnExactSegTextUptoRow.holds Try.pinned (OpenSpec.upto fnExactSegTextSpec)

/-- 'laws.FnExactWriteSector', WHERE WHAT IT READS IS OF BULK AT MOST 1048576: true; the input reads as it did. -/
def fnExactWriteSectorUptoRow : OpenClaim := { program := "ytdnjjdmlmfoljaa", sum := "9f0244a91ca12491d96ca943e48ca9abf7ea844fddeb92722234d54040f29171", func := "loop.example/g00287/laws.FnExactWriteSector", spec := "fnExactWriteSector", unfollowed := true, recurses := true, apart := false, narrowed := true }
def FnExactWriteSectorUptoSaid : Prop := fnExactWriteSectorUptoRow.holds Try.pinned (OpenSpec.upto fnExactWriteSectorSpec)

/-- 'laws.FnExactFlushDisk', WHERE WHAT IT READS IS OF BULK AT MOST 1048576: true; the input reads as it did. -/
def fnExactFlushDiskUptoRow : OpenClaim := { program := "ytdnjjdmlmfoljaa", sum := "9f0244a91ca12491d96ca943e48ca9abf7ea844fddeb92722234d54040f29171", func := "loop.example/g00287/laws.FnExactFlushDisk", spec := "fnExactFlushDisk", unfollowed := true, recurses := true, apart := false, narrowed := true }
def FnExactFlushDiskUptoSaid : Prop := fnExactFlushDiskUptoRow.holds Try.pinned (OpenSpec.upto fnExactFlushDiskSpec)

/-- 'laws.FnExactDiskNew', WHERE WHAT IT READS IS OF BULK AT MOST 1048576: true; the input reads as it did. -/
def fnExactDiskNewUptoRow : OpenClaim := { program := "ytdnjjdmlmfoljaa", sum := "9f0244a91ca12491d96ca943e48ca9abf7ea844fddeb92722234d54040f29171", func := "loop.example/g00287/laws.FnExactDiskNew", spec := "fnExactDiskNew", inPlace := ["internal/abi.NoEscape", "internal/bytealg.MakeNoZero"], apart := false, narrowed := true }
def FnExactDiskNewUptoSaid : Prop := fnExactDiskNewUptoRow.holds Try.pinned (OpenSpec.upto fnExactDiskNewSpec)

/-- 'laws.FnExactCrashDisk', WHERE WHAT IT READS IS OF BULK AT MOST 1048576: true; the input reads as it did. -/
def fnExactCrashDiskUptoRow : OpenClaim := { program := "ytdnjjdmlmfoljaa", sum := "9f0244a91ca12491d96ca943e48ca9abf7ea844fddeb92722234d54040f29171", func := "loop.example/g00287/laws.FnExactCrashDisk", spec := "fnExactCrashDisk", unfollowed := true, recurses := true, apart := false, narrowed := true }
def FnExactCrashDiskUptoSaid : Prop := fnExactCrashDiskUptoRow.holds Try.pinned (OpenSpec.upto fnExactCrashDiskSpec)

/-- 'laws.FnExactSegGen', WHERE WHAT IT READS IS OF BULK AT MOST 1048576: true; the input reads as it did. -/
def fnExactSegGenUptoRow : OpenClaim := { program := "ytdnjjdmlmfoljaa", sum := "9f0244a91ca12491d96ca943e48ca9abf7ea844fddeb92722234d54040f29171", func := "loop.example/g00287/laws.FnExactSegGen", spec := "fnExactSegGen", apart := false, narrowed := true }
def FnExactSegGenUptoSaid : Prop := fnExactSegGenUptoRow.holds Try.pinned (OpenSpec.upto fnExactSegGenSpec)

/-- 'laws.FnExactSegFrames', WHERE WHAT IT READS IS OF BULK AT MOST 1048576: true; the input reads as it did. -/
def fnExactSegFramesUptoRow : OpenClaim := { program := "ytdnjjdmlmfoljaa", sum := "9f0244a91ca12491d96ca943e48ca9abf7ea844fddeb92722234d54040f29171", func := "loop.example/g00287/laws.FnExactSegFrames", spec := "fnExactSegFrames", apart := false, narrowed := true }
def FnExactSegFramesUptoSaid : Prop := fnExactSegFramesUptoRow.holds Try.pinned (OpenSpec.upto fnExactSegFramesSpec)

end Rows
end Go.Proofs.Ytdnjjdmlmfoljaa
