/-
  No cell of these rows narrows 'for every input' (looked for: loops, veiled, ifaces, maps, wideKeys, modest, calm, conditions, laid).
  DERIVED. THE GIVEN ROWS OF THIS SEAT. 7 by the template 'for every input the law returns true; each argument reads behind the call as it read before'; 0 by the template 'total and deterministic' (their statements: YtagkjeldheiejaaTotals.lean).
  GIVEN WITH THE SEED: the statements are not yours to turn. If you find one false, say at which input.
  Laid BY PROGRAM, IN A SANDBOX (cutbox-rows.mjs): the forced cells as the released guide's own fill.sh prints them over the translation 07fc5da0043526a4… (all of the seat's roots in one cut). By AI agents, Wed Nov 11 2026. No macro, syntax, notation, axiom, sorry.
-/
import Derived.Test.YtagkjeldheiejaaChecked
import GoSem.Claim
import GoSem.ClaimJoined
import GoSem.ClaimMapViews
import Derived.JoinedTies
import Derived.KernelRfl
namespace Go.Proofs.Ytagkjeldheiejaa
/- THE CELL 'sum', in the pinned program and in every row, IS THE sha256 OF THE DUMP (.gsa) THAT YtagkjeldheiejaaProg.lean LOADS. Nothing in Lean hashes anything: it is a label: what it is worth is what the hold of that sum in a sandbox is worth. -/
noncomputable def Try.pinned : Pinned := { name := "ytagkjeldheiejaa", sum := "07fc5da0043526a435b46e841a94044ab2945632bbbde932c7d4e92005359287", checked := Try.checked }
namespace Rows
def none {H : Type} : Left H := { results := [], args := [] }

/-- 'laws.FnExactReadRec': WHATEVER THE INPUT: true; the input reads as it did. -/
def fnExactReadRecSpec : ChangeSpec := { name := "fnExactReadRec", fn := fun _ => fun
  | [d] => { results := [.lit (.bool true)], args := [d] }
  | _ => none }
def fnExactReadRecRow : OpenClaim := { program := "ytagkjeldheiejaa", sum := "07fc5da0043526a435b46e841a94044ab2945632bbbde932c7d4e92005359287", func := "loop.example/g00287/laws.FnExactReadRec", spec := "fnExactReadRec", apart := false }
def FnExactReadRecSaid : Prop := fnExactReadRecRow.holds Try.pinned (OpenSpec.ofChange fnExactReadRecSpec)

/-- ITS FALSE NEIGHBOUR: 'it returns false'. Refute it at one input. -/
def fnExactReadRecWrong : ChangeSpec := { name := "fnExactReadRec", fn := fun _ => fun
  | [d] => { results := [.lit (.bool false)], args := [d] }
  | _ => none }
def FnExactReadRecWrongFalsely : Prop := fnExactReadRecRow.holds Try.pinned (OpenSpec.ofChange fnExactReadRecWrong)

/-- 'laws.FnExactFrameItem': WHATEVER THE INPUT: true; the input reads as it did. -/
def fnExactFrameItemSpec : ChangeSpec := { name := "fnExactFrameItem", fn := fun _ => fun
  | [d] => { results := [.lit (.bool true)], args := [d] }
  | _ => none }
def fnExactFrameItemRow : OpenClaim := { program := "ytagkjeldheiejaa", sum := "07fc5da0043526a435b46e841a94044ab2945632bbbde932c7d4e92005359287", func := "loop.example/g00287/laws.FnExactFrameItem", spec := "fnExactFrameItem", apart := false }
def FnExactFrameItemSaid : Prop := fnExactFrameItemRow.holds Try.pinned (OpenSpec.ofChange fnExactFrameItemSpec)

/-- ITS FALSE NEIGHBOUR: 'it returns false'. Refute it at one input. -/
def fnExactFrameItemWrong : ChangeSpec := { name := "fnExactFrameItem", fn := fun _ => fun
  | [d] => { results := [.lit (.bool false)], args := [d] }
  | _ => none }
def FnExactFrameItemWrongFalsely : Prop := fnExactFrameItemRow.holds Try.pinned (OpenSpec.ofChange fnExactFrameItemWrong)

/-- 'laws.FnExactItemsOk': WHATEVER THE INPUT: true; the input reads as it did. -/
def fnExactItemsOkSpec : ChangeSpec := { name := "fnExactItemsOk", fn := fun _ => fun
  | [d] => { results := [.lit (.bool true)], args := [d] }
  | _ => none }
def fnExactItemsOkRow : OpenClaim := { program := "ytagkjeldheiejaa", sum := "07fc5da0043526a435b46e841a94044ab2945632bbbde932c7d4e92005359287", func := "loop.example/g00287/laws.FnExactItemsOk", spec := "fnExactItemsOk", unfollowed := true, recurses := true, apart := false }
def FnExactItemsOkSaid : Prop := fnExactItemsOkRow.holds Try.pinned (OpenSpec.ofChange fnExactItemsOkSpec)

/-- ITS FALSE NEIGHBOUR: 'it returns false'. Refute it at one input. -/
def fnExactItemsOkWrong : ChangeSpec := { name := "fnExactItemsOk", fn := fun _ => fun
  | [d] => { results := [.lit (.bool false)], args := [d] }
  | _ => none }
def FnExactItemsOkWrongFalsely : Prop := fnExactItemsOkRow.holds Try.pinned (OpenSpec.ofChange fnExactItemsOkWrong)

/-- 'laws.FnRecords': WHATEVER THE INPUT: true; the input reads as it did. -/
def fnRecordsSpec : ChangeSpec := { name := "fnRecords", fn := fun _ => fun
  | [d] => { results := [.lit (.bool true)], args := [d] }
  | _ => none }
def fnRecordsRow : OpenClaim := { program := "ytagkjeldheiejaa", sum := "07fc5da0043526a435b46e841a94044ab2945632bbbde932c7d4e92005359287", func := "loop.example/g00287/laws.FnRecords", spec := "fnRecords", apart := false }
def FnRecordsSaid : Prop := fnRecordsRow.holds Try.pinned (OpenSpec.ofChange fnRecordsSpec)

/-- ITS FALSE NEIGHBOUR: 'it returns false'. Refute it at one input. -/
def fnRecordsWrong : ChangeSpec := { name := "fnRecords", fn := fun _ => fun
  | [d] => { results := [.lit (.bool false)], args := [d] }
  | _ => none }
def FnRecordsWrongFalsely : Prop := fnRecordsRow.holds Try.pinned (OpenSpec.ofChange fnRecordsWrong)

/-- 'laws.FnAnyOrder': WHATEVER THE INPUT: true; the input reads as it did. -/
def fnAnyOrderSpec : ChangeSpec := { name := "fnAnyOrder", fn := fun _ => fun
  | [d] => { results := [.lit (.bool true)], args := [d] }
  | _ => none }
def fnAnyOrderRow : OpenClaim := { program := "ytagkjeldheiejaa", sum := "07fc5da0043526a435b46e841a94044ab2945632bbbde932c7d4e92005359287", func := "loop.example/g00287/laws.FnAnyOrder", spec := "fnAnyOrder", unfollowed := true, recurses := true, apart := false }
def FnAnyOrderSaid : Prop := fnAnyOrderRow.holds Try.pinned (OpenSpec.ofChange fnAnyOrderSpec)

/-- ITS FALSE NEIGHBOUR: 'it returns false'. Refute it at one input. -/
def fnAnyOrderWrong : ChangeSpec := { name := "fnAnyOrder", fn := fun _ => fun
  | [d] => { results := [.lit (.bool false)], args := [d] }
  | _ => none }
def FnAnyOrderWrongFalsely : Prop := fnAnyOrderRow.holds Try.pinned (OpenSpec.ofChange fnAnyOrderWrong)

/-- 'laws.FnStates': WHATEVER THE INPUT: true; the input reads as it did. -/
def fnStatesSpec : ChangeSpec := { name := "fnStates", fn := fun _ => fun
  | [d] => { results := [.lit (.bool true)], args := [d] }
  | _ => none }
def fnStatesRow : OpenClaim := { program := "ytagkjeldheiejaa", sum := "07fc5da0043526a435b46e841a94044ab2945632bbbde932c7d4e92005359287", func := "loop.example/g00287/laws.FnStates", spec := "fnStates", unfollowed := true, recurses := true, apart := false }
def FnStatesSaid : Prop := fnStatesRow.holds Try.pinned (OpenSpec.ofChange fnStatesSpec)

/-- ITS FALSE NEIGHBOUR: 'it returns false'. Refute it at one input. -/
def fnStatesWrong : ChangeSpec := { name := "fnStates", fn := fun _ => fun
  | [d] => { results := [.lit (.bool false)], args := [d] }
  | _ => none }
def FnStatesWrongFalsely : Prop := fnStatesRow.holds Try.pinned (OpenSpec.ofChange fnStatesWrong)

/-- 'laws.FnStatesTold': WHATEVER THE INPUT: true; the input reads as it did. -/
def fnStatesToldSpec : ChangeSpec := { name := "fnStatesTold", fn := fun _ => fun
  | [d] => { results := [.lit (.bool true)], args := [d] }
  | _ => none }
def fnStatesToldRow : OpenClaim := { program := "ytagkjeldheiejaa", sum := "07fc5da0043526a435b46e841a94044ab2945632bbbde932c7d4e92005359287", func := "loop.example/g00287/laws.FnStatesTold", spec := "fnStatesTold", unfollowed := true, recurses := true, apart := false }
def FnStatesToldSaid : Prop := fnStatesToldRow.holds Try.pinned (OpenSpec.ofChange fnStatesToldSpec)

/-- ITS FALSE NEIGHBOUR: 'it returns false'. Refute it at one input. -/
def fnStatesToldWrong : ChangeSpec := { name := "fnStatesTold", fn := fun _ => fun
  | [d] => { results := [.lit (.bool false)], args := [d] }
  | _ => none }
def FnStatesToldWrongFalsely : Prop := fnStatesToldRow.holds Try.pinned (OpenSpec.ofChange fnStatesToldWrong)

/- THE SECOND FORM. 'bulk': how many values and letters a reading holds, each counted each time it is reached (what is shared counts as often as it is met; a slice's spare places count too). A statement '..UptoSaid' is the law's where the arguments, and the package variables that the reading takes, are together of bulk at most 1048576: NARROWER than '..Said'. Prove '..Said' where nothing that the law and all that it calls make is longer than what came in: it says more and counts as full. Else prove '..UptoSaid'. A law counts once. -/
mutual
def uptoBulk {H : Type} : DataW H → Nat
  | .lit (.string bytes) => bytes.length + 1
  | .lit _ => 1
  | .nil => 1
  | .ptr d => uptoBulk d + 1
  | .slice elems spare => uptoBulkAll elems + uptoBulkAll spare + 1
  | .agg parts => uptoBulkAll parts + 1
  | .iface _ d => uptoBulk d + 1
  | .map entries => uptoBulkEntries entries + 1
  | .held _ => 1
def uptoBulkAll {H : Type} : List (DataW H) → Nat
  | [] => 0
  | d :: r => uptoBulk d + uptoBulkAll r
def uptoBulkEntries {H : Type} : List (Lit × DataW H) → Nat
  | [] => 0
  | x :: r => uptoBulkEntry x + uptoBulkEntries r
def uptoBulkEntry {H : Type} : Lit × DataW H → Nat
  | (.string bytes, d) => bytes.length + uptoBulk d + 1
  | (_, d) => uptoBulk d + 1
 end
def uptoSmall : (H : Type) → List (DataW H) → Bool := fun _ ds => decide (uptoBulkAll ds ≤ 1048576)
def OpenSpec.upto (s : _root_.Go.ChangeSpec) : _root_.Go.OpenSpec := { _root_.Go.OpenSpec.ofChange s with cond := some uptoSmall }

/-- 'laws.FnExactReadRec', WHERE WHAT IT READS IS OF BULK AT MOST 1048576: true; the input reads as it did. -/
def fnExactReadRecUptoRow : OpenClaim := { program := "ytagkjeldheiejaa", sum := "07fc5da0043526a435b46e841a94044ab2945632bbbde932c7d4e92005359287", func := "loop.example/g00287/laws.FnExactReadRec", spec := "fnExactReadRec", apart := false, narrowed := true }
def FnExactReadRecUptoSaid : Prop := fnExactReadRecUptoRow.holds Try.pinned (OpenSpec.upto fnExactReadRecSpec)

/-- 'laws.FnExactFrameItem', WHERE WHAT IT READS IS OF BULK AT MOST 1048576: true; the input reads as it did. -/
def fnExactFrameItemUptoRow : OpenClaim := { program := "ytagkjeldheiejaa", sum := "07fc5da0043526a435b46e841a94044ab2945632bbbde932c7d4e92005359287", func := "loop.example/g00287/laws.FnExactFrameItem", spec := "fnExactFrameItem", apart := false, narrowed := true }
def FnExactFrameItemUptoSaid : Prop := fnExactFrameItemUptoRow.holds Try.pinned (OpenSpec.upto fnExactFrameItemSpec)

/-- 'laws.FnExactItemsOk', WHERE WHAT IT READS IS OF BULK AT MOST 1048576: true; the input reads as it did. -/
def fnExactItemsOkUptoRow : OpenClaim := { program := "ytagkjeldheiejaa", sum := "07fc5da0043526a435b46e841a94044ab2945632bbbde932c7d4e92005359287", func := "loop.example/g00287/laws.FnExactItemsOk", spec := "fnExactItemsOk", unfollowed := true, recurses := true, apart := false, narrowed := true }
def FnExactItemsOkUptoSaid : Prop := fnExactItemsOkUptoRow.holds Try.pinned (OpenSpec.upto fnExactItemsOkSpec)

/-- 'laws.FnRecords', WHERE WHAT IT READS IS OF BULK AT MOST 1048576: true; the input reads as it did. -/
def fnRecordsUptoRow : OpenClaim := { program := "ytagkjeldheiejaa", sum := "07fc5da0043526a435b46e841a94044ab2945632bbbde932c7d4e92005359287", func := "loop.example/g00287/laws.FnRecords", spec := "fnRecords", apart := false, narrowed := true }
def FnRecordsUptoSaid : Prop := fnRecordsUptoRow.holds Try.pinned (OpenSpec.upto fnRecordsSpec)

/-- 'laws.FnAnyOrder', WHERE WHAT IT READS IS OF BULK AT MOST 1048576: true; the input reads as it did. -/
def fnAnyOrderUptoRow : OpenClaim := { program := "ytagkjeldheiejaa", sum := "07fc5da0043526a435b46e841a94044ab2945632bbbde932c7d4e92005359287", func := "loop.example/g00287/laws.FnAnyOrder", spec := "fnAnyOrder", unfollowed := true, recurses := true, apart := false, narrowed := true }
def FnAnyOrderUptoSaid : Prop := fnAnyOrderUptoRow.holds Try.pinned (OpenSpec.upto fnAnyOrderSpec)

/-- 'laws.FnStates', WHERE WHAT IT READS IS OF BULK AT MOST 1048576: true; the input reads as it did. -/
def fnStatesUptoRow : OpenClaim := { program := "ytagkjeldheiejaa", sum := "07fc5da0043526a435b46e841a94044ab2945632bbbde932c7d4e92005359287", func := "loop.example/g00287/laws.FnStates", spec := "fnStates", unfollowed := true, recurses := true, apart := false, narrowed := true }
def FnStatesUptoSaid : Prop := fnStatesUptoRow.holds Try.pinned (OpenSpec.upto fnStatesSpec)

/-- 'laws.FnStatesTold', WHERE WHAT IT READS IS OF BULK AT MOST 1048576: true; the input reads as it did. -/
def fnStatesToldUptoRow : OpenClaim := { program := "ytagkjeldheiejaa", sum := "07fc5da0043526a435b46e841a94044ab2945632bbbde932c7d4e92005359287", func := "loop.example/g00287/laws.FnStatesTold", spec := "fnStatesTold", unfollowed := true, recurses := true, apart := false, narrowed := true }
def FnStatesToldUptoSaid : Prop := fnStatesToldUptoRow.holds Try.pinned (OpenSpec.upto fnStatesToldSpec)

end Rows
end Go.Proofs.Ytagkjeldheiejaa
