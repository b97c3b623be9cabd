-- Written for this claim by a program of mine (a turned copy of the kit's print): functions as plain Lean, and their contracts. Lean checks it.
import Derived.Test.YtagkjeldheiejaaPFnRecordsx0
import Derived.Test.YtagkjeldheiejaaPFnRecordsx1
import Derived.Test.YtagkjeldheiejaaPFnRecordsx2
import Derived.Test.YtagkjeldheiejaaPFnRecordsx5
import Derived.Test.YtagkjeldheiejaaPFnRecordsx6
import Derived.Test.YtagkjeldheiejaaPFnRecordsx8
import Derived.Test.YtagkjeldheiejaaPFnRecordsx9
import Derived.Test.YtagkjeldheiejaaPFnRecordsx10
import Derived.Test.YtagkjeldheiejaaPFnRecordsx11
import Derived.Test.YtagkjeldheiejaaPFnRecordsx13
import Derived.Test.YtagkjeldheiejaaPFnRecordsx14
import Derived.Test.YtagkjeldheiejaaVFnRecords1
namespace Go.Proofs.Ytagkjeldheiejaa.PFnRecords
open Go.RowKit Go.Proofs.YtagkjeldheiejaaW.PrintWords Go.Proofs.YtagkjeldheiejaaW.PrintLast Go.Proofs.YtagkjeldheiejaaW.PrintMore
attribute [local go_sem] max2_int min2_int max_two min_two max_three min_three max_four min_four   -- for this text's walks alone
set_option linter.unusedVariables false
set_option linter.unusedSimpArgs false

attribute [local go_sem high] eqA23 eqA32
/-! ### laws_FnRecords: function 6 -/
def laws_FnRecords.j0 : Nat → List Int → Bool → Bool → Int → Int → Int → Int → Int → ByteArray → ByteArray → ByteArray → Option (Bool)
 | 0, _, _, _, _, _, _, _, _, _, _, _ => none
 | k + 1, x0, x5, x86, x443000, x443001, x443002, x443003, x443004, x443005, x443006, x443007 => if x86 = true then (some false) else ((impl_ItemFrame.f k 7 x443000 x443001 x443002 x443003 x443004 x443005 x443006 x443007 3).bind fun bt481 => ((impl_FrameItem.f k bt481.1 bt481.2.1 bt481.2.2.1).bind fun bt486 => ((spec_DrawWordOk.f k x0).bind fun t497 => (if (bt481.2.2.2 == x5) = true then (if x5 = true then (if bt486.2.2.2.2.2.2.2.2.2 = true then (if (bt486.1 == 7 && ((bt486.2.1 == x443000 && (bt486.2.2.1 == x443001 && (bt486.2.2.2.1 == x443002 && (bt486.2.2.2.2.1 == x443003 && (bt486.2.2.2.2.2.1 == x443004 && (bt486.2.2.2.2.2.2.1.toList == x443005.toList && (bt486.2.2.2.2.2.2.2.1.toList == x443006.toList && (bt486.2.2.2.2.2.2.2.2.1.toList == x443007.toList)))))))))) = true then (if bt481.1 = 3 then ((impl_WordOk.f k t497).bind fun t498 => ((spec_WordOk.f k t497).bind fun t499 => (some (t498 == t499)))) else (some false)) else (some false)) else (some false)) else ((impl_WordOk.f k t497).bind fun t500 => ((spec_WordOk.f k t497).bind fun t501 => (some (t500 == t501))))) else (some false)))))
def laws_FnRecords.f (k : Nat) (l0 : List Int) : Option (Bool) := (laws_big.f l0).bind fun t433 => (if t433 = true then (some true) else ((spec_DrawRecText.f k l0).bind fun bt434 => ((impl_RecText.f k bt434.1 bt434.2.1 bt434.2.2.1 bt434.2.2.2.1 bt434.2.2.2.2.1 bt434.2.2.2.2.2.1 bt434.2.2.2.2.2.2.1 bt434.2.2.2.2.2.2.2).bind fun bt443 => ((impl_ReadRec.f k bt443.1).bind fun bt445 => ((spec_DrawReadRec.f k l0).bind fun t455 => ((impl_ReadRec.f k t455).bind fun bt456 => ((spec_ReadRec.f k t455).bind fun bt466 => ((impl_RecText.f k bt456.1 bt456.2.1 bt456.2.2.1 bt456.2.2.2.1 bt456.2.2.2.2.1 bt456.2.2.2.2.2.1 bt456.2.2.2.2.2.2.1 bt456.2.2.2.2.2.2.2.1).bind fun bt476 => ((spec_RecOk.f k bt434.1 bt434.2.1 bt434.2.2.1 bt434.2.2.2.1 bt434.2.2.2.2.1 bt434.2.2.2.2.2.1 bt434.2.2.2.2.2.2.1 bt434.2.2.2.2.2.2.2).bind fun t478 => (if (bt443.2 != t478) = true then (laws_FnRecords.j0 k l0 bt443.2 true bt434.1 bt434.2.1 bt434.2.2.1 bt434.2.2.2.1 bt434.2.2.2.2.1 bt434.2.2.2.2.2.1 bt434.2.2.2.2.2.2.1 bt434.2.2.2.2.2.2.2) else ((impl_RecOk.f k bt434.1 bt434.2.1 bt434.2.2.1 bt434.2.2.2.1 bt434.2.2.2.2.1 bt434.2.2.2.2.2.1 bt434.2.2.2.2.2.2.1 bt434.2.2.2.2.2.2.2).bind fun t479 => (if (t479 != bt443.2) = true then (laws_FnRecords.j0 k l0 bt443.2 true bt434.1 bt434.2.1 bt434.2.2.1 bt434.2.2.2.1 bt434.2.2.2.2.1 bt434.2.2.2.2.2.1 bt434.2.2.2.2.2.2.1 bt434.2.2.2.2.2.2.2) else (if bt443.2 = true then (if bt445.2.2.2.2.2.2.2.2 = true then (if (!(bt445.1 == bt434.1) || (!(bt445.2.1 == bt434.2.1) || (!(bt445.2.2.1 == bt434.2.2.1) || (!(bt445.2.2.2.1 == bt434.2.2.2.1) || (!(bt445.2.2.2.2.1 == bt434.2.2.2.2.1) || (!(bt445.2.2.2.2.2.1.toList == bt434.2.2.2.2.2.1.toList) || (!(bt445.2.2.2.2.2.2.1.toList == bt434.2.2.2.2.2.2.1.toList) || (!(bt445.2.2.2.2.2.2.2.1.toList == bt434.2.2.2.2.2.2.2.toList))))))))) = true then (laws_FnRecords.j0 k l0 bt443.2 true bt434.1 bt434.2.1 bt434.2.2.1 bt434.2.2.2.1 bt434.2.2.2.2.1 bt434.2.2.2.2.2.1 bt434.2.2.2.2.2.2.1 bt434.2.2.2.2.2.2.2) else (if (bt456.2.2.2.2.2.2.2.2 != bt466.2.2.2.2.2.2.2.2) = true then (laws_FnRecords.j0 k l0 bt443.2 true bt434.1 bt434.2.1 bt434.2.2.1 bt434.2.2.2.1 bt434.2.2.2.2.1 bt434.2.2.2.2.2.1 bt434.2.2.2.2.2.2.1 bt434.2.2.2.2.2.2.2) else (if bt456.2.2.2.2.2.2.2.2 = true then (laws_FnRecords.j0 k l0 bt443.2 (bt476.1.toList != t455.toList) bt434.1 bt434.2.1 bt434.2.2.1 bt434.2.2.2.1 bt434.2.2.2.2.1 bt434.2.2.2.2.2.1 bt434.2.2.2.2.2.2.1 bt434.2.2.2.2.2.2.2) else (laws_FnRecords.j0 k l0 bt443.2 false bt434.1 bt434.2.1 bt434.2.2.1 bt434.2.2.2.1 bt434.2.2.2.2.1 bt434.2.2.2.2.2.1 bt434.2.2.2.2.2.2.1 bt434.2.2.2.2.2.2.2)))) else (laws_FnRecords.j0 k l0 bt443.2 true bt434.1 bt434.2.1 bt434.2.2.1 bt434.2.2.2.1 bt434.2.2.2.2.1 bt434.2.2.2.2.2.1 bt434.2.2.2.2.2.2.1 bt434.2.2.2.2.2.2.2)) else (if (bt456.2.2.2.2.2.2.2.2 != bt466.2.2.2.2.2.2.2.2) = true then (laws_FnRecords.j0 k l0 bt443.2 true bt434.1 bt434.2.1 bt434.2.2.1 bt434.2.2.2.1 bt434.2.2.2.2.1 bt434.2.2.2.2.2.1 bt434.2.2.2.2.2.2.1 bt434.2.2.2.2.2.2.2) else (if bt456.2.2.2.2.2.2.2.2 = true then (laws_FnRecords.j0 k l0 bt443.2 (bt476.1.toList != t455.toList) bt434.1 bt434.2.1 bt434.2.2.1 bt434.2.2.2.1 bt434.2.2.2.2.1 bt434.2.2.2.2.2.1 bt434.2.2.2.2.2.2.1 bt434.2.2.2.2.2.2.2) else (laws_FnRecords.j0 k l0 bt443.2 false bt434.1 bt434.2.1 bt434.2.2.1 bt434.2.2.2.1 bt434.2.2.2.2.1 bt434.2.2.2.2.2.1 bt434.2.2.2.2.2.2.1 bt434.2.2.2.2.2.2.2))))))))))))))))
theorem laws_FnRecords.mono_l : ∀ k, (∀ y0 y1 y2 y3 y4 y5 y6 y7 y8 y9 y10, LeO (laws_FnRecords.j0 k y0 y1 y2 y3 y4 y5 y6 y7 y8 y9 y10) (laws_FnRecords.j0 (k + 1) y0 y1 y2 y3 y4 y5 y6 y7 y8 y9 y10))
 | 0 => fun _ _ _ _ _ _ _ _ _ _ _ r h => by simp [laws_FnRecords.j0] at h
 | k + 1 => by
  have ih0 := laws_FnRecords.mono_l k
  ·intro y0 y1 y2 y3 y4 y5 y6 y7 y8 y9 y10
   unfold laws_FnRecords.j0
   repeat' first
   | (with_reducible exact ih0 _ _ _ _ _ _ _ _ _ _ _)
   | (with_reducible exact impl_FrameItem.mono _ _ _ _)
   | (with_reducible exact impl_ItemFrame.mono _ _ _ _ _ _ _ _ _ _ _)
   | (with_reducible exact impl_ReadRec.mono _ _)
   | (with_reducible exact impl_RecOk.mono _ _ _ _ _ _ _ _ _)
   | (with_reducible exact impl_RecText.mono _ _ _ _ _ _ _ _ _)
   | (with_reducible exact impl_WordOk.mono _ _)
   | (with_reducible exact spec_DrawReadRec.mono _ _)
   | (with_reducible exact spec_DrawRecText.mono _ _)
   | (with_reducible exact spec_DrawWordOk.mono _ _)
   | (with_reducible exact spec_ReadRec.mono _ _)
   | (with_reducible exact spec_RecOk.mono _ _ _ _ _ _ _ _ _)
   | (with_reducible exact spec_WordOk.mono _ _)
   | (with_reducible exact LeO.refl _)
   | (with_reducible exact LeO.none _)
   | (with_reducible refine LeO.ite ?_ ?_)
   | (with_reducible refine LeO.bind ?_ (fun _ => ?_))
   | exact ih0 _ _ _ _ _ _ _ _ _ _ _
   | exact impl_FrameItem.mono _ _ _ _
   | exact impl_ItemFrame.mono _ _ _ _ _ _ _ _ _ _ _
   | exact impl_ReadRec.mono _ _
   | exact impl_RecOk.mono _ _ _ _ _ _ _ _ _
   | exact impl_RecText.mono _ _ _ _ _ _ _ _ _
   | exact impl_WordOk.mono _ _
   | exact spec_DrawReadRec.mono _ _
   | exact spec_DrawRecText.mono _ _
   | exact spec_DrawWordOk.mono _ _
   | exact spec_ReadRec.mono _ _
   | exact spec_RecOk.mono _ _ _ _ _ _ _ _ _
   | exact spec_WordOk.mono _ _
   | exact LeO.none _
   | refine LeO.ite ?_ ?_
   | refine LeO.bind ?_ (fun _ => ?_)
theorem laws_FnRecords.mono : ∀ a0 k, LeO (laws_FnRecords.f k a0) (laws_FnRecords.f (k + 1) a0) := by
 intro a0 k
 have ih0 := laws_FnRecords.mono_l k
 unfold laws_FnRecords.f
 repeat' first
   | (with_reducible exact ih0 _ _ _ _ _ _ _ _ _ _ _)
   | (with_reducible exact impl_FrameItem.mono _ _ _ _)
   | (with_reducible exact impl_ItemFrame.mono _ _ _ _ _ _ _ _ _ _ _)
   | (with_reducible exact impl_ReadRec.mono _ _)
   | (with_reducible exact impl_RecOk.mono _ _ _ _ _ _ _ _ _)
   | (with_reducible exact impl_RecText.mono _ _ _ _ _ _ _ _ _)
   | (with_reducible exact impl_WordOk.mono _ _)
   | (with_reducible exact spec_DrawReadRec.mono _ _)
   | (with_reducible exact spec_DrawRecText.mono _ _)
   | (with_reducible exact spec_DrawWordOk.mono _ _)
   | (with_reducible exact spec_ReadRec.mono _ _)
   | (with_reducible exact spec_RecOk.mono _ _ _ _ _ _ _ _ _)
   | (with_reducible exact spec_WordOk.mono _ _)
   | (with_reducible exact LeO.refl _)
   | (with_reducible exact LeO.none _)
   | (with_reducible refine LeO.ite ?_ ?_)
   | (with_reducible refine LeO.bind ?_ (fun _ => ?_))
   | exact ih0 _ _ _ _ _ _ _ _ _ _ _
   | exact impl_FrameItem.mono _ _ _ _
   | exact impl_ItemFrame.mono _ _ _ _ _ _ _ _ _ _ _
   | exact impl_ReadRec.mono _ _
   | exact impl_RecOk.mono _ _ _ _ _ _ _ _ _
   | exact impl_RecText.mono _ _ _ _ _ _ _ _ _
   | exact impl_WordOk.mono _ _
   | exact spec_DrawReadRec.mono _ _
   | exact spec_DrawRecText.mono _ _
   | exact spec_DrawWordOk.mono _ _
   | exact spec_ReadRec.mono _ _
   | exact spec_RecOk.mono _ _ _ _ _ _ _ _ _
   | exact spec_WordOk.mono _ _
   | exact LeO.none _
   | refine LeO.ite ?_ ?_
   | refine LeO.bind ?_ (fun _ => ?_)
set_option maxHeartbeats 8000000 in
set_option maxRecDepth 100000 in
theorem laws_FnRecords.calls (k : Nat) (A0 : Option Addr) (c0 : Nat) (l0 : List Int) (r : Bool) (w : World) (hr0 : Kd.C (Kd.int .u8) w A0 l0.length l0) (hc0 : l0.length ≤ c0) (h : laws_FnRecords.f k l0 = some r) :
  Calls Try.prog 6 #[.slice A0 l0.length c0] w fun e w' => e = .returned (.bool r) ∧ Below w.heap.size w w' := by
 have hu23 := Try.underlying23
 have hu32 := Try.underlying32
 have hu35 := Try.underlying35
 have HR0 := Aside0.mk hr0
 have HC0 := Aside0.mk hc0
 clear hr0 hc0
 have HB := ak (Below.refl w.heap.size w)
 have H : ((laws_big.f l0).bind fun t433 => (if t433 = true then (some true) else ((spec_DrawRecText.f k l0).bind fun bt434 => ((impl_RecText.f k bt434.1 bt434.2.1 bt434.2.2.1 bt434.2.2.2.1 bt434.2.2.2.2.1 bt434.2.2.2.2.2.1 bt434.2.2.2.2.2.2.1 bt434.2.2.2.2.2.2.2).bind fun bt443 => ((impl_ReadRec.f k bt443.1).bind fun bt445 => ((spec_DrawReadRec.f k l0).bind fun t455 => ((impl_ReadRec.f k t455).bind fun bt456 => ((spec_ReadRec.f k t455).bind fun bt466 => ((impl_RecText.f k bt456.1 bt456.2.1 bt456.2.2.1 bt456.2.2.2.1 bt456.2.2.2.2.1 bt456.2.2.2.2.2.1 bt456.2.2.2.2.2.2.1 bt456.2.2.2.2.2.2.2.1).bind fun bt476 => ((spec_RecOk.f k bt434.1 bt434.2.1 bt434.2.2.1 bt434.2.2.2.1 bt434.2.2.2.2.1 bt434.2.2.2.2.2.1 bt434.2.2.2.2.2.2.1 bt434.2.2.2.2.2.2.2).bind fun t478 => (if (bt443.2 != t478) = true then (laws_FnRecords.j0 k l0 bt443.2 true bt434.1 bt434.2.1 bt434.2.2.1 bt434.2.2.2.1 bt434.2.2.2.2.1 bt434.2.2.2.2.2.1 bt434.2.2.2.2.2.2.1 bt434.2.2.2.2.2.2.2) else ((impl_RecOk.f k bt434.1 bt434.2.1 bt434.2.2.1 bt434.2.2.2.1 bt434.2.2.2.2.1 bt434.2.2.2.2.2.1 bt434.2.2.2.2.2.2.1 bt434.2.2.2.2.2.2.2).bind fun t479 => (if (t479 != bt443.2) = true then (laws_FnRecords.j0 k l0 bt443.2 true bt434.1 bt434.2.1 bt434.2.2.1 bt434.2.2.2.1 bt434.2.2.2.2.1 bt434.2.2.2.2.2.1 bt434.2.2.2.2.2.2.1 bt434.2.2.2.2.2.2.2) else (if bt443.2 = true then (if bt445.2.2.2.2.2.2.2.2 = true then (if (!(bt445.1 == bt434.1) || (!(bt445.2.1 == bt434.2.1) || (!(bt445.2.2.1 == bt434.2.2.1) || (!(bt445.2.2.2.1 == bt434.2.2.2.1) || (!(bt445.2.2.2.2.1 == bt434.2.2.2.2.1) || (!(bt445.2.2.2.2.2.1.toList == bt434.2.2.2.2.2.1.toList) || (!(bt445.2.2.2.2.2.2.1.toList == bt434.2.2.2.2.2.2.1.toList) || (!(bt445.2.2.2.2.2.2.2.1.toList == bt434.2.2.2.2.2.2.2.toList))))))))) = true then (laws_FnRecords.j0 k l0 bt443.2 true bt434.1 bt434.2.1 bt434.2.2.1 bt434.2.2.2.1 bt434.2.2.2.2.1 bt434.2.2.2.2.2.1 bt434.2.2.2.2.2.2.1 bt434.2.2.2.2.2.2.2) else (if (bt456.2.2.2.2.2.2.2.2 != bt466.2.2.2.2.2.2.2.2) = true then (laws_FnRecords.j0 k l0 bt443.2 true bt434.1 bt434.2.1 bt434.2.2.1 bt434.2.2.2.1 bt434.2.2.2.2.1 bt434.2.2.2.2.2.1 bt434.2.2.2.2.2.2.1 bt434.2.2.2.2.2.2.2) else (if bt456.2.2.2.2.2.2.2.2 = true then (laws_FnRecords.j0 k l0 bt443.2 (bt476.1.toList != t455.toList) bt434.1 bt434.2.1 bt434.2.2.1 bt434.2.2.2.1 bt434.2.2.2.2.1 bt434.2.2.2.2.2.1 bt434.2.2.2.2.2.2.1 bt434.2.2.2.2.2.2.2) else (laws_FnRecords.j0 k l0 bt443.2 false bt434.1 bt434.2.1 bt434.2.2.1 bt434.2.2.2.1 bt434.2.2.2.2.1 bt434.2.2.2.2.2.1 bt434.2.2.2.2.2.2.1 bt434.2.2.2.2.2.2.2)))) else (laws_FnRecords.j0 k l0 bt443.2 true bt434.1 bt434.2.1 bt434.2.2.1 bt434.2.2.2.1 bt434.2.2.2.2.1 bt434.2.2.2.2.2.1 bt434.2.2.2.2.2.2.1 bt434.2.2.2.2.2.2.2)) else (if (bt456.2.2.2.2.2.2.2.2 != bt466.2.2.2.2.2.2.2.2) = true then (laws_FnRecords.j0 k l0 bt443.2 true bt434.1 bt434.2.1 bt434.2.2.1 bt434.2.2.2.1 bt434.2.2.2.2.1 bt434.2.2.2.2.2.1 bt434.2.2.2.2.2.2.1 bt434.2.2.2.2.2.2.2) else (if bt456.2.2.2.2.2.2.2.2 = true then (laws_FnRecords.j0 k l0 bt443.2 (bt476.1.toList != t455.toList) bt434.1 bt434.2.1 bt434.2.2.1 bt434.2.2.2.1 bt434.2.2.2.2.1 bt434.2.2.2.2.2.1 bt434.2.2.2.2.2.2.1 bt434.2.2.2.2.2.2.2) else (laws_FnRecords.j0 k l0 bt443.2 false bt434.1 bt434.2.1 bt434.2.2.1 bt434.2.2.2.1 bt434.2.2.2.2.1 bt434.2.2.2.2.2.1 bt434.2.2.2.2.2.2.1 bt434.2.2.2.2.2.2.2))))))))))))))))) = some r := h
 clear h
 replace H := Option.bind_eq_some_iff.mp H
 obtain ⟨t433, A20, H⟩ := H
 replace H : (if t433 = true then (some true) else ((spec_DrawRecText.f k l0).bind fun bt434 => ((impl_RecText.f k bt434.1 bt434.2.1 bt434.2.2.1 bt434.2.2.2.1 bt434.2.2.2.2.1 bt434.2.2.2.2.2.1 bt434.2.2.2.2.2.2.1 bt434.2.2.2.2.2.2.2).bind fun bt443 => ((impl_ReadRec.f k bt443.1).bind fun bt445 => ((spec_DrawReadRec.f k l0).bind fun t455 => ((impl_ReadRec.f k t455).bind fun bt456 => ((spec_ReadRec.f k t455).bind fun bt466 => ((impl_RecText.f k bt456.1 bt456.2.1 bt456.2.2.1 bt456.2.2.2.1 bt456.2.2.2.2.1 bt456.2.2.2.2.2.1 bt456.2.2.2.2.2.2.1 bt456.2.2.2.2.2.2.2.1).bind fun bt476 => ((spec_RecOk.f k bt434.1 bt434.2.1 bt434.2.2.1 bt434.2.2.2.1 bt434.2.2.2.2.1 bt434.2.2.2.2.2.1 bt434.2.2.2.2.2.2.1 bt434.2.2.2.2.2.2.2).bind fun t478 => (if (bt443.2 != t478) = true then (laws_FnRecords.j0 k l0 bt443.2 true bt434.1 bt434.2.1 bt434.2.2.1 bt434.2.2.2.1 bt434.2.2.2.2.1 bt434.2.2.2.2.2.1 bt434.2.2.2.2.2.2.1 bt434.2.2.2.2.2.2.2) else ((impl_RecOk.f k bt434.1 bt434.2.1 bt434.2.2.1 bt434.2.2.2.1 bt434.2.2.2.2.1 bt434.2.2.2.2.2.1 bt434.2.2.2.2.2.2.1 bt434.2.2.2.2.2.2.2).bind fun t479 => (if (t479 != bt443.2) = true then (laws_FnRecords.j0 k l0 bt443.2 true bt434.1 bt434.2.1 bt434.2.2.1 bt434.2.2.2.1 bt434.2.2.2.2.1 bt434.2.2.2.2.2.1 bt434.2.2.2.2.2.2.1 bt434.2.2.2.2.2.2.2) else (if bt443.2 = true then (if bt445.2.2.2.2.2.2.2.2 = true then (if (!(bt445.1 == bt434.1) || (!(bt445.2.1 == bt434.2.1) || (!(bt445.2.2.1 == bt434.2.2.1) || (!(bt445.2.2.2.1 == bt434.2.2.2.1) || (!(bt445.2.2.2.2.1 == bt434.2.2.2.2.1) || (!(bt445.2.2.2.2.2.1.toList == bt434.2.2.2.2.2.1.toList) || (!(bt445.2.2.2.2.2.2.1.toList == bt434.2.2.2.2.2.2.1.toList) || (!(bt445.2.2.2.2.2.2.2.1.toList == bt434.2.2.2.2.2.2.2.toList))))))))) = true then (laws_FnRecords.j0 k l0 bt443.2 true bt434.1 bt434.2.1 bt434.2.2.1 bt434.2.2.2.1 bt434.2.2.2.2.1 bt434.2.2.2.2.2.1 bt434.2.2.2.2.2.2.1 bt434.2.2.2.2.2.2.2) else (if (bt456.2.2.2.2.2.2.2.2 != bt466.2.2.2.2.2.2.2.2) = true then (laws_FnRecords.j0 k l0 bt443.2 true bt434.1 bt434.2.1 bt434.2.2.1 bt434.2.2.2.1 bt434.2.2.2.2.1 bt434.2.2.2.2.2.1 bt434.2.2.2.2.2.2.1 bt434.2.2.2.2.2.2.2) else (if bt456.2.2.2.2.2.2.2.2 = true then (laws_FnRecords.j0 k l0 bt443.2 (bt476.1.toList != t455.toList) bt434.1 bt434.2.1 bt434.2.2.1 bt434.2.2.2.1 bt434.2.2.2.2.1 bt434.2.2.2.2.2.1 bt434.2.2.2.2.2.2.1 bt434.2.2.2.2.2.2.2) else (laws_FnRecords.j0 k l0 bt443.2 false bt434.1 bt434.2.1 bt434.2.2.1 bt434.2.2.2.1 bt434.2.2.2.2.1 bt434.2.2.2.2.2.1 bt434.2.2.2.2.2.2.1 bt434.2.2.2.2.2.2.2)))) else (laws_FnRecords.j0 k l0 bt443.2 true bt434.1 bt434.2.1 bt434.2.2.1 bt434.2.2.2.1 bt434.2.2.2.2.1 bt434.2.2.2.2.2.1 bt434.2.2.2.2.2.2.1 bt434.2.2.2.2.2.2.2)) else (if (bt456.2.2.2.2.2.2.2.2 != bt466.2.2.2.2.2.2.2.2) = true then (laws_FnRecords.j0 k l0 bt443.2 true bt434.1 bt434.2.1 bt434.2.2.1 bt434.2.2.2.1 bt434.2.2.2.2.1 bt434.2.2.2.2.2.1 bt434.2.2.2.2.2.2.1 bt434.2.2.2.2.2.2.2) else (if bt456.2.2.2.2.2.2.2.2 = true then (laws_FnRecords.j0 k l0 bt443.2 (bt476.1.toList != t455.toList) bt434.1 bt434.2.1 bt434.2.2.1 bt434.2.2.2.1 bt434.2.2.2.2.1 bt434.2.2.2.2.2.1 bt434.2.2.2.2.2.2.1 bt434.2.2.2.2.2.2.2) else (laws_FnRecords.j0 k l0 bt443.2 false bt434.1 bt434.2.1 bt434.2.2.1 bt434.2.2.2.1 bt434.2.2.2.2.1 bt434.2.2.2.2.2.1 bt434.2.2.2.2.2.2.1 bt434.2.2.2.2.2.2.2)))))))))))))))) = some r := H
 have A2 := Aside0.mk A20
 clear A20
 by_cases c3 : t433 = true
 ·subst c3
  have H1 : (some true) = some r := by rw [if_pos rfl] at H; exact H
  clear H
  have H := H1
  clear H1
  obtain rfl := Option.some.inj H
  go_enter Try.func6, Try.ntmps6
  go_wp2_with (first | ((with_reducible refine gate_callee (f := 23) rfl ?_); refine gl (some 22) Try.func23 #[.slice A0 l0.length c0] ?_; (with_reducible refine (laws_big.calls _ _ l0 true _ ?side1 ?side2 A2.out).mono ?_); (case side1 => repeat (first | exact HR0.out | (with_reducible refine Kd.C_alloc ?_ _) | (with_reducible refine Kd.C_drewN ?_ _) | (with_reducible refine Kd.C_drew ?_))); (case side2 => exact HC0.out); rintro e w' ⟨rfl, ⟨nd, rfl⟩⟩; refine ⟨_, rfl, ?_⟩))
  go_ret
  exact ⟨ew, by exact lG HB⟩
 ·replace c3 := Bool.eq_false_iff.mpr c3
  subst c3
  have H1 : ((spec_DrawRecText.f k l0).bind fun bt434 => ((impl_RecText.f k bt434.1 bt434.2.1 bt434.2.2.1 bt434.2.2.2.1 bt434.2.2.2.2.1 bt434.2.2.2.2.2.1 bt434.2.2.2.2.2.2.1 bt434.2.2.2.2.2.2.2).bind fun bt443 => ((impl_ReadRec.f k bt443.1).bind fun bt445 => ((spec_DrawReadRec.f k l0).bind fun t455 => ((impl_ReadRec.f k t455).bind fun bt456 => ((spec_ReadRec.f k t455).bind fun bt466 => ((impl_RecText.f k bt456.1 bt456.2.1 bt456.2.2.1 bt456.2.2.2.1 bt456.2.2.2.2.1 bt456.2.2.2.2.2.1 bt456.2.2.2.2.2.2.1 bt456.2.2.2.2.2.2.2.1).bind fun bt476 => ((spec_RecOk.f k bt434.1 bt434.2.1 bt434.2.2.1 bt434.2.2.2.1 bt434.2.2.2.2.1 bt434.2.2.2.2.2.1 bt434.2.2.2.2.2.2.1 bt434.2.2.2.2.2.2.2).bind fun t478 => (if (bt443.2 != t478) = true then (laws_FnRecords.j0 k l0 bt443.2 true bt434.1 bt434.2.1 bt434.2.2.1 bt434.2.2.2.1 bt434.2.2.2.2.1 bt434.2.2.2.2.2.1 bt434.2.2.2.2.2.2.1 bt434.2.2.2.2.2.2.2) else ((impl_RecOk.f k bt434.1 bt434.2.1 bt434.2.2.1 bt434.2.2.2.1 bt434.2.2.2.2.1 bt434.2.2.2.2.2.1 bt434.2.2.2.2.2.2.1 bt434.2.2.2.2.2.2.2).bind fun t479 => (if (t479 != bt443.2) = true then (laws_FnRecords.j0 k l0 bt443.2 true bt434.1 bt434.2.1 bt434.2.2.1 bt434.2.2.2.1 bt434.2.2.2.2.1 bt434.2.2.2.2.2.1 bt434.2.2.2.2.2.2.1 bt434.2.2.2.2.2.2.2) else (if bt443.2 = true then (if bt445.2.2.2.2.2.2.2.2 = true then (if (!(bt445.1 == bt434.1) || (!(bt445.2.1 == bt434.2.1) || (!(bt445.2.2.1 == bt434.2.2.1) || (!(bt445.2.2.2.1 == bt434.2.2.2.1) || (!(bt445.2.2.2.2.1 == bt434.2.2.2.2.1) || (!(bt445.2.2.2.2.2.1.toList == bt434.2.2.2.2.2.1.toList) || (!(bt445.2.2.2.2.2.2.1.toList == bt434.2.2.2.2.2.2.1.toList) || (!(bt445.2.2.2.2.2.2.2.1.toList == bt434.2.2.2.2.2.2.2.toList))))))))) = true then (laws_FnRecords.j0 k l0 bt443.2 true bt434.1 bt434.2.1 bt434.2.2.1 bt434.2.2.2.1 bt434.2.2.2.2.1 bt434.2.2.2.2.2.1 bt434.2.2.2.2.2.2.1 bt434.2.2.2.2.2.2.2) else (if (bt456.2.2.2.2.2.2.2.2 != bt466.2.2.2.2.2.2.2.2) = true then (laws_FnRecords.j0 k l0 bt443.2 true bt434.1 bt434.2.1 bt434.2.2.1 bt434.2.2.2.1 bt434.2.2.2.2.1 bt434.2.2.2.2.2.1 bt434.2.2.2.2.2.2.1 bt434.2.2.2.2.2.2.2) else (if bt456.2.2.2.2.2.2.2.2 = true then (laws_FnRecords.j0 k l0 bt443.2 (bt476.1.toList != t455.toList) bt434.1 bt434.2.1 bt434.2.2.1 bt434.2.2.2.1 bt434.2.2.2.2.1 bt434.2.2.2.2.2.1 bt434.2.2.2.2.2.2.1 bt434.2.2.2.2.2.2.2) else (laws_FnRecords.j0 k l0 bt443.2 false bt434.1 bt434.2.1 bt434.2.2.1 bt434.2.2.2.1 bt434.2.2.2.2.1 bt434.2.2.2.2.2.1 bt434.2.2.2.2.2.2.1 bt434.2.2.2.2.2.2.2)))) else (laws_FnRecords.j0 k l0 bt443.2 true bt434.1 bt434.2.1 bt434.2.2.1 bt434.2.2.2.1 bt434.2.2.2.2.1 bt434.2.2.2.2.2.1 bt434.2.2.2.2.2.2.1 bt434.2.2.2.2.2.2.2)) else (if (bt456.2.2.2.2.2.2.2.2 != bt466.2.2.2.2.2.2.2.2) = true then (laws_FnRecords.j0 k l0 bt443.2 true bt434.1 bt434.2.1 bt434.2.2.1 bt434.2.2.2.1 bt434.2.2.2.2.1 bt434.2.2.2.2.2.1 bt434.2.2.2.2.2.2.1 bt434.2.2.2.2.2.2.2) else (if bt456.2.2.2.2.2.2.2.2 = true then (laws_FnRecords.j0 k l0 bt443.2 (bt476.1.toList != t455.toList) bt434.1 bt434.2.1 bt434.2.2.1 bt434.2.2.2.1 bt434.2.2.2.2.1 bt434.2.2.2.2.2.1 bt434.2.2.2.2.2.2.1 bt434.2.2.2.2.2.2.2) else (laws_FnRecords.j0 k l0 bt443.2 false bt434.1 bt434.2.1 bt434.2.2.1 bt434.2.2.2.1 bt434.2.2.2.2.1 bt434.2.2.2.2.2.1 bt434.2.2.2.2.2.2.1 bt434.2.2.2.2.2.2.2))))))))))))))) = some r := by rw [if_neg (show ¬ (false = true) by decide)] at H; exact H
  clear H
  have H := H1
  clear H1
  replace H := Option.bind_eq_some_iff.mp H
  obtain ⟨⟨t434, t435, t436, t437, t438, t439, t440, t441⟩, A40, H⟩ := H
  replace H : ((impl_RecText.f k t434 t435 t436 t437 t438 t439 t440 t441).bind fun bt443 => ((impl_ReadRec.f k bt443.1).bind fun bt445 => ((spec_DrawReadRec.f k l0).bind fun t455 => ((impl_ReadRec.f k t455).bind fun bt456 => ((spec_ReadRec.f k t455).bind fun bt466 => ((impl_RecText.f k bt456.1 bt456.2.1 bt456.2.2.1 bt456.2.2.2.1 bt456.2.2.2.2.1 bt456.2.2.2.2.2.1 bt456.2.2.2.2.2.2.1 bt456.2.2.2.2.2.2.2.1).bind fun bt476 => ((spec_RecOk.f k t434 t435 t436 t437 t438 t439 t440 t441).bind fun t478 => (if (bt443.2 != t478) = true then (laws_FnRecords.j0 k l0 bt443.2 true t434 t435 t436 t437 t438 t439 t440 t441) else ((impl_RecOk.f k t434 t435 t436 t437 t438 t439 t440 t441).bind fun t479 => (if (t479 != bt443.2) = true then (laws_FnRecords.j0 k l0 bt443.2 true t434 t435 t436 t437 t438 t439 t440 t441) else (if bt443.2 = true then (if bt445.2.2.2.2.2.2.2.2 = true then (if (!(bt445.1 == t434) || (!(bt445.2.1 == t435) || (!(bt445.2.2.1 == t436) || (!(bt445.2.2.2.1 == t437) || (!(bt445.2.2.2.2.1 == t438) || (!(bt445.2.2.2.2.2.1.toList == t439.toList) || (!(bt445.2.2.2.2.2.2.1.toList == t440.toList) || (!(bt445.2.2.2.2.2.2.2.1.toList == t441.toList))))))))) = true then (laws_FnRecords.j0 k l0 bt443.2 true t434 t435 t436 t437 t438 t439 t440 t441) else (if (bt456.2.2.2.2.2.2.2.2 != bt466.2.2.2.2.2.2.2.2) = true then (laws_FnRecords.j0 k l0 bt443.2 true t434 t435 t436 t437 t438 t439 t440 t441) else (if bt456.2.2.2.2.2.2.2.2 = true then (laws_FnRecords.j0 k l0 bt443.2 (bt476.1.toList != t455.toList) t434 t435 t436 t437 t438 t439 t440 t441) else (laws_FnRecords.j0 k l0 bt443.2 false t434 t435 t436 t437 t438 t439 t440 t441)))) else (laws_FnRecords.j0 k l0 bt443.2 true t434 t435 t436 t437 t438 t439 t440 t441)) else (if (bt456.2.2.2.2.2.2.2.2 != bt466.2.2.2.2.2.2.2.2) = true then (laws_FnRecords.j0 k l0 bt443.2 true t434 t435 t436 t437 t438 t439 t440 t441) else (if bt456.2.2.2.2.2.2.2.2 = true then (laws_FnRecords.j0 k l0 bt443.2 (bt476.1.toList != t455.toList) t434 t435 t436 t437 t438 t439 t440 t441) else (laws_FnRecords.j0 k l0 bt443.2 false t434 t435 t436 t437 t438 t439 t440 t441)))))))))))))) = some r := H
  have A4 := Aside0.mk A40
  clear A40
  replace H := Option.bind_eq_some_iff.mp H
  obtain ⟨⟨t443, t444⟩, A50, H⟩ := H
  replace H : ((impl_ReadRec.f k t443).bind fun bt445 => ((spec_DrawReadRec.f k l0).bind fun t455 => ((impl_ReadRec.f k t455).bind fun bt456 => ((spec_ReadRec.f k t455).bind fun bt466 => ((impl_RecText.f k bt456.1 bt456.2.1 bt456.2.2.1 bt456.2.2.2.1 bt456.2.2.2.2.1 bt456.2.2.2.2.2.1 bt456.2.2.2.2.2.2.1 bt456.2.2.2.2.2.2.2.1).bind fun bt476 => ((spec_RecOk.f k t434 t435 t436 t437 t438 t439 t440 t441).bind fun t478 => (if (t444 != t478) = true then (laws_FnRecords.j0 k l0 t444 true t434 t435 t436 t437 t438 t439 t440 t441) else ((impl_RecOk.f k t434 t435 t436 t437 t438 t439 t440 t441).bind fun t479 => (if (t479 != t444) = true then (laws_FnRecords.j0 k l0 t444 true t434 t435 t436 t437 t438 t439 t440 t441) else (if t444 = true then (if bt445.2.2.2.2.2.2.2.2 = true then (if (!(bt445.1 == t434) || (!(bt445.2.1 == t435) || (!(bt445.2.2.1 == t436) || (!(bt445.2.2.2.1 == t437) || (!(bt445.2.2.2.2.1 == t438) || (!(bt445.2.2.2.2.2.1.toList == t439.toList) || (!(bt445.2.2.2.2.2.2.1.toList == t440.toList) || (!(bt445.2.2.2.2.2.2.2.1.toList == t441.toList))))))))) = true then (laws_FnRecords.j0 k l0 t444 true t434 t435 t436 t437 t438 t439 t440 t441) else (if (bt456.2.2.2.2.2.2.2.2 != bt466.2.2.2.2.2.2.2.2) = true then (laws_FnRecords.j0 k l0 t444 true t434 t435 t436 t437 t438 t439 t440 t441) else (if bt456.2.2.2.2.2.2.2.2 = true then (laws_FnRecords.j0 k l0 t444 (bt476.1.toList != t455.toList) t434 t435 t436 t437 t438 t439 t440 t441) else (laws_FnRecords.j0 k l0 t444 false t434 t435 t436 t437 t438 t439 t440 t441)))) else (laws_FnRecords.j0 k l0 t444 true t434 t435 t436 t437 t438 t439 t440 t441)) else (if (bt456.2.2.2.2.2.2.2.2 != bt466.2.2.2.2.2.2.2.2) = true then (laws_FnRecords.j0 k l0 t444 true t434 t435 t436 t437 t438 t439 t440 t441) else (if bt456.2.2.2.2.2.2.2.2 = true then (laws_FnRecords.j0 k l0 t444 (bt476.1.toList != t455.toList) t434 t435 t436 t437 t438 t439 t440 t441) else (laws_FnRecords.j0 k l0 t444 false t434 t435 t436 t437 t438 t439 t440 t441))))))))))))) = some r := H
  have A5 := Aside0.mk A50
  clear A50
  replace H := Option.bind_eq_some_iff.mp H
  obtain ⟨⟨t445, t446, t447, t448, t449, t450, t451, t452, t453⟩, A60, H⟩ := H
  replace H : ((spec_DrawReadRec.f k l0).bind fun t455 => ((impl_ReadRec.f k t455).bind fun bt456 => ((spec_ReadRec.f k t455).bind fun bt466 => ((impl_RecText.f k bt456.1 bt456.2.1 bt456.2.2.1 bt456.2.2.2.1 bt456.2.2.2.2.1 bt456.2.2.2.2.2.1 bt456.2.2.2.2.2.2.1 bt456.2.2.2.2.2.2.2.1).bind fun bt476 => ((spec_RecOk.f k t434 t435 t436 t437 t438 t439 t440 t441).bind fun t478 => (if (t444 != t478) = true then (laws_FnRecords.j0 k l0 t444 true t434 t435 t436 t437 t438 t439 t440 t441) else ((impl_RecOk.f k t434 t435 t436 t437 t438 t439 t440 t441).bind fun t479 => (if (t479 != t444) = true then (laws_FnRecords.j0 k l0 t444 true t434 t435 t436 t437 t438 t439 t440 t441) else (if t444 = true then (if t453 = true then (if (!(t445 == t434) || (!(t446 == t435) || (!(t447 == t436) || (!(t448 == t437) || (!(t449 == t438) || (!(t450.toList == t439.toList) || (!(t451.toList == t440.toList) || (!(t452.toList == t441.toList))))))))) = true then (laws_FnRecords.j0 k l0 t444 true t434 t435 t436 t437 t438 t439 t440 t441) else (if (bt456.2.2.2.2.2.2.2.2 != bt466.2.2.2.2.2.2.2.2) = true then (laws_FnRecords.j0 k l0 t444 true t434 t435 t436 t437 t438 t439 t440 t441) else (if bt456.2.2.2.2.2.2.2.2 = true then (laws_FnRecords.j0 k l0 t444 (bt476.1.toList != t455.toList) t434 t435 t436 t437 t438 t439 t440 t441) else (laws_FnRecords.j0 k l0 t444 false t434 t435 t436 t437 t438 t439 t440 t441)))) else (laws_FnRecords.j0 k l0 t444 true t434 t435 t436 t437 t438 t439 t440 t441)) else (if (bt456.2.2.2.2.2.2.2.2 != bt466.2.2.2.2.2.2.2.2) = true then (laws_FnRecords.j0 k l0 t444 true t434 t435 t436 t437 t438 t439 t440 t441) else (if bt456.2.2.2.2.2.2.2.2 = true then (laws_FnRecords.j0 k l0 t444 (bt476.1.toList != t455.toList) t434 t435 t436 t437 t438 t439 t440 t441) else (laws_FnRecords.j0 k l0 t444 false t434 t435 t436 t437 t438 t439 t440 t441)))))))))))) = some r := H
  have A6 := Aside0.mk A60
  clear A60
  replace H := Option.bind_eq_some_iff.mp H
  obtain ⟨t455, A70, H⟩ := H
  replace H : ((impl_ReadRec.f k t455).bind fun bt456 => ((spec_ReadRec.f k t455).bind fun bt466 => ((impl_RecText.f k bt456.1 bt456.2.1 bt456.2.2.1 bt456.2.2.2.1 bt456.2.2.2.2.1 bt456.2.2.2.2.2.1 bt456.2.2.2.2.2.2.1 bt456.2.2.2.2.2.2.2.1).bind fun bt476 => ((spec_RecOk.f k t434 t435 t436 t437 t438 t439 t440 t441).bind fun t478 => (if (t444 != t478) = true then (laws_FnRecords.j0 k l0 t444 true t434 t435 t436 t437 t438 t439 t440 t441) else ((impl_RecOk.f k t434 t435 t436 t437 t438 t439 t440 t441).bind fun t479 => (if (t479 != t444) = true then (laws_FnRecords.j0 k l0 t444 true t434 t435 t436 t437 t438 t439 t440 t441) else (if t444 = true then (if t453 = true then (if (!(t445 == t434) || (!(t446 == t435) || (!(t447 == t436) || (!(t448 == t437) || (!(t449 == t438) || (!(t450.toList == t439.toList) || (!(t451.toList == t440.toList) || (!(t452.toList == t441.toList))))))))) = true then (laws_FnRecords.j0 k l0 t444 true t434 t435 t436 t437 t438 t439 t440 t441) else (if (bt456.2.2.2.2.2.2.2.2 != bt466.2.2.2.2.2.2.2.2) = true then (laws_FnRecords.j0 k l0 t444 true t434 t435 t436 t437 t438 t439 t440 t441) else (if bt456.2.2.2.2.2.2.2.2 = true then (laws_FnRecords.j0 k l0 t444 (bt476.1.toList != t455.toList) t434 t435 t436 t437 t438 t439 t440 t441) else (laws_FnRecords.j0 k l0 t444 false t434 t435 t436 t437 t438 t439 t440 t441)))) else (laws_FnRecords.j0 k l0 t444 true t434 t435 t436 t437 t438 t439 t440 t441)) else (if (bt456.2.2.2.2.2.2.2.2 != bt466.2.2.2.2.2.2.2.2) = true then (laws_FnRecords.j0 k l0 t444 true t434 t435 t436 t437 t438 t439 t440 t441) else (if bt456.2.2.2.2.2.2.2.2 = true then (laws_FnRecords.j0 k l0 t444 (bt476.1.toList != t455.toList) t434 t435 t436 t437 t438 t439 t440 t441) else (laws_FnRecords.j0 k l0 t444 false t434 t435 t436 t437 t438 t439 t440 t441))))))))))) = some r := H
  have A7 := Aside0.mk A70
  clear A70
  replace H := Option.bind_eq_some_iff.mp H
  obtain ⟨⟨t456, t457, t458, t459, t460, t461, t462, t463, t464⟩, A80, H⟩ := H
  replace H : ((spec_ReadRec.f k t455).bind fun bt466 => ((impl_RecText.f k t456 t457 t458 t459 t460 t461 t462 t463).bind fun bt476 => ((spec_RecOk.f k t434 t435 t436 t437 t438 t439 t440 t441).bind fun t478 => (if (t444 != t478) = true then (laws_FnRecords.j0 k l0 t444 true t434 t435 t436 t437 t438 t439 t440 t441) else ((impl_RecOk.f k t434 t435 t436 t437 t438 t439 t440 t441).bind fun t479 => (if (t479 != t444) = true then (laws_FnRecords.j0 k l0 t444 true t434 t435 t436 t437 t438 t439 t440 t441) else (if t444 = true then (if t453 = true then (if (!(t445 == t434) || (!(t446 == t435) || (!(t447 == t436) || (!(t448 == t437) || (!(t449 == t438) || (!(t450.toList == t439.toList) || (!(t451.toList == t440.toList) || (!(t452.toList == t441.toList))))))))) = true then (laws_FnRecords.j0 k l0 t444 true t434 t435 t436 t437 t438 t439 t440 t441) else (if (t464 != bt466.2.2.2.2.2.2.2.2) = true then (laws_FnRecords.j0 k l0 t444 true t434 t435 t436 t437 t438 t439 t440 t441) else (if t464 = true then (laws_FnRecords.j0 k l0 t444 (bt476.1.toList != t455.toList) t434 t435 t436 t437 t438 t439 t440 t441) else (laws_FnRecords.j0 k l0 t444 false t434 t435 t436 t437 t438 t439 t440 t441)))) else (laws_FnRecords.j0 k l0 t444 true t434 t435 t436 t437 t438 t439 t440 t441)) else (if (t464 != bt466.2.2.2.2.2.2.2.2) = true then (laws_FnRecords.j0 k l0 t444 true t434 t435 t436 t437 t438 t439 t440 t441) else (if t464 = true then (laws_FnRecords.j0 k l0 t444 (bt476.1.toList != t455.toList) t434 t435 t436 t437 t438 t439 t440 t441) else (laws_FnRecords.j0 k l0 t444 false t434 t435 t436 t437 t438 t439 t440 t441)))))))))) = some r := H
  have A8 := Aside0.mk A80
  clear A80
  replace H := Option.bind_eq_some_iff.mp H
  obtain ⟨⟨t466, t467, t468, t469, t470, t471, t472, t473, t474⟩, A90, H⟩ := H
  replace H : ((impl_RecText.f k t456 t457 t458 t459 t460 t461 t462 t463).bind fun bt476 => ((spec_RecOk.f k t434 t435 t436 t437 t438 t439 t440 t441).bind fun t478 => (if (t444 != t478) = true then (laws_FnRecords.j0 k l0 t444 true t434 t435 t436 t437 t438 t439 t440 t441) else ((impl_RecOk.f k t434 t435 t436 t437 t438 t439 t440 t441).bind fun t479 => (if (t479 != t444) = true then (laws_FnRecords.j0 k l0 t444 true t434 t435 t436 t437 t438 t439 t440 t441) else (if t444 = true then (if t453 = true then (if (!(t445 == t434) || (!(t446 == t435) || (!(t447 == t436) || (!(t448 == t437) || (!(t449 == t438) || (!(t450.toList == t439.toList) || (!(t451.toList == t440.toList) || (!(t452.toList == t441.toList))))))))) = true then (laws_FnRecords.j0 k l0 t444 true t434 t435 t436 t437 t438 t439 t440 t441) else (if (t464 != t474) = true then (laws_FnRecords.j0 k l0 t444 true t434 t435 t436 t437 t438 t439 t440 t441) else (if t464 = true then (laws_FnRecords.j0 k l0 t444 (bt476.1.toList != t455.toList) t434 t435 t436 t437 t438 t439 t440 t441) else (laws_FnRecords.j0 k l0 t444 false t434 t435 t436 t437 t438 t439 t440 t441)))) else (laws_FnRecords.j0 k l0 t444 true t434 t435 t436 t437 t438 t439 t440 t441)) else (if (t464 != t474) = true then (laws_FnRecords.j0 k l0 t444 true t434 t435 t436 t437 t438 t439 t440 t441) else (if t464 = true then (laws_FnRecords.j0 k l0 t444 (bt476.1.toList != t455.toList) t434 t435 t436 t437 t438 t439 t440 t441) else (laws_FnRecords.j0 k l0 t444 false t434 t435 t436 t437 t438 t439 t440 t441))))))))) = some r := H
  have A9 := Aside0.mk A90
  clear A90
  replace H := Option.bind_eq_some_iff.mp H
  obtain ⟨⟨t476, t477⟩, A100, H⟩ := H
  replace H : ((spec_RecOk.f k t434 t435 t436 t437 t438 t439 t440 t441).bind fun t478 => (if (t444 != t478) = true then (laws_FnRecords.j0 k l0 t444 true t434 t435 t436 t437 t438 t439 t440 t441) else ((impl_RecOk.f k t434 t435 t436 t437 t438 t439 t440 t441).bind fun t479 => (if (t479 != t444) = true then (laws_FnRecords.j0 k l0 t444 true t434 t435 t436 t437 t438 t439 t440 t441) else (if t444 = true then (if t453 = true then (if (!(t445 == t434) || (!(t446 == t435) || (!(t447 == t436) || (!(t448 == t437) || (!(t449 == t438) || (!(t450.toList == t439.toList) || (!(t451.toList == t440.toList) || (!(t452.toList == t441.toList))))))))) = true then (laws_FnRecords.j0 k l0 t444 true t434 t435 t436 t437 t438 t439 t440 t441) else (if (t464 != t474) = true then (laws_FnRecords.j0 k l0 t444 true t434 t435 t436 t437 t438 t439 t440 t441) else (if t464 = true then (laws_FnRecords.j0 k l0 t444 (t476.toList != t455.toList) t434 t435 t436 t437 t438 t439 t440 t441) else (laws_FnRecords.j0 k l0 t444 false t434 t435 t436 t437 t438 t439 t440 t441)))) else (laws_FnRecords.j0 k l0 t444 true t434 t435 t436 t437 t438 t439 t440 t441)) else (if (t464 != t474) = true then (laws_FnRecords.j0 k l0 t444 true t434 t435 t436 t437 t438 t439 t440 t441) else (if t464 = true then (laws_FnRecords.j0 k l0 t444 (t476.toList != t455.toList) t434 t435 t436 t437 t438 t439 t440 t441) else (laws_FnRecords.j0 k l0 t444 false t434 t435 t436 t437 t438 t439 t440 t441)))))))) = some r := H
  have A10 := Aside0.mk A100
  clear A100
  have HC11 := Aside0.mk H
  clear H
  go_enter Try.func6, Try.ntmps6
  go_upto_region 10 with (first | ((with_reducible refine gate_callee (f := 23) rfl ?_); refine gl (some 22) Try.func23 #[.slice A0 l0.length c0] ?_; (with_reducible refine (laws_big.calls _ _ l0 false _ ?side1 ?side2 A2.out).mono ?_); (case side1 => repeat (first | exact HR0.out | (with_reducible refine Kd.C_alloc ?_ _) | (with_reducible refine Kd.C_drewN ?_ _) | (with_reducible refine Kd.C_drew ?_))); (case side2 => exact HC0.out); rintro e w' ⟨rfl, ⟨nd, rfl⟩⟩; refine ⟨_, rfl, ?_⟩) | ((with_reducible refine gate_callee (f := 24) rfl ?_); refine gl (some 24) Try.func24 #[.slice A0 l0.length c0] ?_; (with_reducible refine (spec_DrawRecText.calls k _ _ l0 t434 t435 t436 t437 t438 t439 t440 t441 _ ?side1 ?side2 A4.out).mono ?_); (case side1 => repeat (first | exact HR0.out | (with_reducible refine Kd.C_alloc ?_ _) | (with_reducible refine Kd.C_drewN ?_ _) | (with_reducible refine Kd.C_drew ?_))); (case side2 => exact HC0.out); rintro e w12 ⟨rfl, hb⟩; refine ⟨_, rfl, ?_⟩; replace HB := lB HB hb; (try clear hb); (try clear hk)) | ((with_reducible refine gate_dst (N := 3) rfl ?_); refine bx 3 #[.int .i64 0, .int .i64 0, .int .i64 0, .int .i64 0, .int .i64 0, .string (⟨#[]⟩ : ByteArray), .string (⟨#[]⟩ : ByteArray), .string (⟨#[]⟩ : ByteArray)] 23 ?_; intro gb442 hg w13 hbox hb; replace BK442 := ak (hbox); replace GW442 := ak (bz hg (lG HB)); replace GE442 := ak (bz hg (lG HB)); replace HB := lB HB hb; clear hb hbox hg; obtain ⟨hcz14_0, hcz14_1, hcz14_2, hcz14_3, hcz14_4, hcz14_5, hcz14_6, hcz14_7, hfz14_0, hfz14_1, hfz14_2, hfz14_3, hfz14_4, hfz14_5, hfz14_6, hfz14_7⟩ := bC8 BK442) | ((with_reducible refine gate_callee (f := 25) rfl ?_); refine gl (some 27) Try.func25 #[.agg #[.int .i64 t434, .int .i64 t435, .int .i64 t436, .int .i64 t437, .int .i64 t438, .string t439, .string t440, .string t441]] ?_; (with_reducible refine (impl_RecText.calls k t434 t435 t436 t437 t438 t439 t440 t441 t443 t444 _ A5.out).mono ?_); rintro e w15 ⟨rfl, hb⟩; refine ⟨_, rfl, ?_⟩; replace BK442 := ak (blk_below (g := gb442) (o := .cells #[.int .i64 t434, .int .i64 t435, .int .i64 t436, .int .i64 t437, .int .i64 t438, .string t439, .string t440, .string t441] 23 (0, 0)) (bW BK442) hb); replace HB := ak (below_step (lT HB (gC GE442 gN)) hb); (try clear hb); (try clear hk)) | ((with_reducible refine gate_callee (f := 11) rfl ?_); refine gl (some 32) Try.func11 #[.string t443] ?_; (with_reducible refine (impl_ReadRec.calls k t443 t445 t446 t447 t448 t449 t450 t451 t452 t453 _ A6.out).mono ?_); rintro e w16 ⟨rfl, hb⟩; refine ⟨_, rfl, ?_⟩; replace BK442 := bB BK442 hb; replace HB := ak (below_step (lT HB (gC GE442 gN)) hb); (try clear hb); (try clear hk)) | ((with_reducible refine gate_dst (N := 6) rfl ?_); refine bx 6 #[.int .i64 0, .int .i64 0, .int .i64 0, .int .i64 0, .int .i64 0, .string (⟨#[]⟩ : ByteArray), .string (⟨#[]⟩ : ByteArray), .string (⟨#[]⟩ : ByteArray)] 23 ?_; intro gb454 hg w17 hbox hb; replace BK454 := ak (hbox); replace GW454 := ak (bz hg (lT HB (gC GE442 gN))); replace GE454 := ak (bz hg (lT HB (gC GE442 gN))); replace HB := ak (below_step (lT HB (gC GE442 gN)) hb); replace NB442_454 := ak (nl hg (bG BK442)); replace NB454_442 := ak (ng hg (bG BK442)); replace BK442 := bB BK442 hb; clear hb hbox hg; have hnb18 := NB454_442.out; have hnc18 := NB442_454.out; obtain ⟨hcz19_0, hcz19_1, hcz19_2, hcz19_3, hcz19_4, hcz19_5, hcz19_6, hcz19_7, hfz19_0, hfz19_1, hfz19_2, hfz19_3, hfz19_4, hfz19_5, hfz19_6, hfz19_7⟩ := bC8 BK454) | ((with_reducible refine gate_callee (f := 26) rfl ?_); refine gl (some 36) Try.func26 #[.slice A0 l0.length c0] ?_; (with_reducible refine (spec_DrawReadRec.calls k _ _ l0 t455 _ ?side1 ?side2 A7.out).mono ?_); (case side1 => exact Kd.C_below HR0.out (lT HB (gC GE442 (gC GE454 gN)))); (case side2 => exact HC0.out); rintro e w20 ⟨rfl, hb⟩; refine ⟨_, rfl, ?_⟩; replace BK442 := ak (blk_below (bT BK442 (nC NB442_454 nN)) hb); replace BK454 := ak (blk_below (g := gb454) (o := .cells #[.int .i64 t445, .int .i64 t446, .int .i64 t447, .int .i64 t448, .int .i64 t449, .string t450, .string t451, .string t452] 23 (0, 0)) (bW BK454) hb); replace HB := ak (below_step (lT HB (gC GE442 (gC GE454 gN))) hb); (try clear hb); (try clear hk)) | ((with_reducible refine gate_callee (f := 11) rfl ?_); refine gl (some 39) Try.func11 #[.string t455] ?_; (with_reducible refine (impl_ReadRec.calls k t455 t456 t457 t458 t459 t460 t461 t462 t463 t464 _ A8.out).mono ?_); rintro e w21 ⟨rfl, hb⟩; refine ⟨_, rfl, ?_⟩; replace BK442 := bB BK442 hb; replace BK454 := bB BK454 hb; replace HB := ak (below_step (lT HB (gC GE442 (gC GE454 gN))) hb); (try clear hb); (try clear hk)) | ((with_reducible refine gate_dst (N := 9) rfl ?_); refine bx 9 #[.int .i64 0, .int .i64 0, .int .i64 0, .int .i64 0, .int .i64 0, .string (⟨#[]⟩ : ByteArray), .string (⟨#[]⟩ : ByteArray), .string (⟨#[]⟩ : ByteArray)] 23 ?_; intro gb465 hg w22 hbox hb; replace BK465 := ak (hbox); replace GW465 := ak (bz hg (lT HB (gC GE442 (gC GE454 gN)))); replace GE465 := ak (bz hg (lT HB (gC GE442 (gC GE454 gN)))); replace HB := ak (below_step (lT HB (gC GE442 (gC GE454 gN))) hb); replace NB442_465 := ak (nl hg (bG BK442)); replace NB465_442 := ak (ng hg (bG BK442)); replace BK442 := bB BK442 hb; replace NB454_465 := ak (nl hg (bG BK454)); replace NB465_454 := ak (ng hg (bG BK454)); replace BK454 := bB BK454 hb; clear hb hbox hg; have hnb23 := NB465_442.out; have hnc23 := NB442_465.out; have hnb24 := NB465_454.out; have hnc24 := NB454_465.out; obtain ⟨hcz25_0, hcz25_1, hcz25_2, hcz25_3, hcz25_4, hcz25_5, hcz25_6, hcz25_7, hfz25_0, hfz25_1, hfz25_2, hfz25_3, hfz25_4, hfz25_5, hfz25_6, hfz25_7⟩ := bC8 BK465) | ((with_reducible refine gate_callee (f := 10) rfl ?_); refine gl (some 44) Try.func10 #[.string t455] ?_; (with_reducible refine (spec_ReadRec.calls k t455 t466 t467 t468 t469 t470 t471 t472 t473 t474 _ A9.out).mono ?_); rintro e w26 ⟨rfl, hb⟩; refine ⟨_, rfl, ?_⟩; replace BK442 := ak (blk_below (bT BK442 (nC NB442_465 nN)) hb); replace BK454 := ak (blk_below (bT BK454 (nC NB454_465 nN)) hb); replace BK465 := ak (blk_below (g := gb465) (o := .cells #[.int .i64 t456, .int .i64 t457, .int .i64 t458, .int .i64 t459, .int .i64 t460, .string t461, .string t462, .string t463] 23 (0, 0)) (bW BK465) hb); replace HB := ak (below_step (lT HB (gC GE442 (gC GE454 (gC GE465 gN)))) hb); (try clear hb); (try clear hk)) | ((with_reducible refine gate_dst (N := 11) rfl ?_); refine bx 11 #[.int .i64 0, .int .i64 0, .int .i64 0, .int .i64 0, .int .i64 0, .string (⟨#[]⟩ : ByteArray), .string (⟨#[]⟩ : ByteArray), .string (⟨#[]⟩ : ByteArray)] 23 ?_; intro gb475 hg w27 hbox hb; replace BK475 := ak (hbox); replace GW475 := ak (bz hg (lT HB (gC GE442 (gC GE454 (gC GE465 gN))))); replace GE475 := ak (bz hg (lT HB (gC GE442 (gC GE454 (gC GE465 gN))))); replace HB := ak (below_step (lT HB (gC GE442 (gC GE454 (gC GE465 gN)))) hb); replace NB442_475 := ak (nl hg (bG BK442)); replace NB475_442 := ak (ng hg (bG BK442)); replace BK442 := bB BK442 hb; replace NB454_475 := ak (nl hg (bG BK454)); replace NB475_454 := ak (ng hg (bG BK454)); replace BK454 := bB BK454 hb; replace NB465_475 := ak (nl hg (bG BK465)); replace NB475_465 := ak (ng hg (bG BK465)); replace BK465 := bB BK465 hb; clear hb hbox hg; have hnb28 := NB475_442.out; have hnc28 := NB442_475.out; have hnb29 := NB475_454.out; have hnc29 := NB454_475.out; have hnb30 := NB475_465.out; have hnc30 := NB465_475.out; obtain ⟨hcz31_0, hcz31_1, hcz31_2, hcz31_3, hcz31_4, hcz31_5, hcz31_6, hcz31_7, hfz31_0, hfz31_1, hfz31_2, hfz31_3, hfz31_4, hfz31_5, hfz31_6, hfz31_7⟩ := bC8 BK475; obtain ⟨hcz32_0, hcz32_1, hcz32_2, hcz32_3, hcz32_4, hcz32_5, hcz32_6, hcz32_7, hfz32_0, hfz32_1, hfz32_2, hfz32_3, hfz32_4, hfz32_5, hfz32_6, hfz32_7⟩ := bC8 BK465) | ((with_reducible refine gate_callee (f := 25) rfl ?_); refine gl (some 49) Try.func25 #[.agg #[.int .i64 t456, .int .i64 t457, .int .i64 t458, .int .i64 t459, .int .i64 t460, .string t461, .string t462, .string t463]] ?_; (with_reducible refine (impl_RecText.calls k t456 t457 t458 t459 t460 t461 t462 t463 t476 t477 _ A10.out).mono ?_); rintro e w33 ⟨rfl, hb⟩; refine ⟨_, rfl, ?_⟩; replace BK442 := ak (blk_below (bT BK442 (nC NB442_475 nN)) hb); replace BK454 := ak (blk_below (bT BK454 (nC NB454_475 nN)) hb); replace BK465 := ak (blk_below (bT BK465 (nC NB465_475 nN)) hb); replace BK475 := ak (blk_below (g := gb475) (o := .cells #[.int .i64 t466, .int .i64 t467, .int .i64 t468, .int .i64 t469, .int .i64 t470, .string t471, .string t472, .string t473] 23 (0, 0)) (bW BK475) hb); replace HB := ak (below_step (lT HB (gC GE442 (gC GE454 (gC GE465 (gC GE475 gN))))) hb); (try clear hb); (try clear hk)))
  (try simp only [Act.put, List.setIfInBounds_toArray, List.set_cons_zero, List.set_cons_succ])
  go_cut [86] (fun v86 wc => ∃ (kq : Nat) (x86_10 : Bool), v86 = .bool x86_10 ∧ Aside0 (laws_FnRecords.j0 kq l0 t444 x86_10 t434 t435 t436 t437 t438 t439 t440 t441 = some r) ∧ Aside0 (kq ≤ k) ∧ Aside0 (wc.heap[gb442]? = some (.cells #[.int .i64 t434, .int .i64 t435, .int .i64 t436, .int .i64 t437, .int .i64 t438, .string t439, .string t440, .string t441] 23 (0, 0))) ∧ Aside0 (wc.heap[gb454]? = some (.cells #[.int .i64 t445, .int .i64 t446, .int .i64 t447, .int .i64 t448, .int .i64 t449, .string t450, .string t451, .string t452] 23 (0, 0))) ∧ Aside0 (wc.heap[gb465]? = some (.cells #[.int .i64 t456, .int .i64 t457, .int .i64 t458, .int .i64 t459, .int .i64 t460, .string t461, .string t462, .string t463] 23 (0, 0))) ∧ Aside0 (wc.heap[gb475]? = some (.cells #[.int .i64 t466, .int .i64 t467, .int .i64 t468, .int .i64 t469, .int .i64 t470, .string t471, .string t472, .string t473] 23 (0, 0))) ∧ Aside0 (Below w.heap.size w wc))
  case first =>
   have H := HC11.out
   clear HC11
   replace H := Option.bind_eq_some_iff.mp H
   obtain ⟨t478, A340, H⟩ := H
   replace H : (if (t444 != t478) = true then (laws_FnRecords.j0 k l0 t444 true t434 t435 t436 t437 t438 t439 t440 t441) else ((impl_RecOk.f k t434 t435 t436 t437 t438 t439 t440 t441).bind fun t479 => (if (t479 != t444) = true then (laws_FnRecords.j0 k l0 t444 true t434 t435 t436 t437 t438 t439 t440 t441) else (if t444 = true then (if t453 = true then (if (!(t445 == t434) || (!(t446 == t435) || (!(t447 == t436) || (!(t448 == t437) || (!(t449 == t438) || (!(t450.toList == t439.toList) || (!(t451.toList == t440.toList) || (!(t452.toList == t441.toList))))))))) = true then (laws_FnRecords.j0 k l0 t444 true t434 t435 t436 t437 t438 t439 t440 t441) else (if (t464 != t474) = true then (laws_FnRecords.j0 k l0 t444 true t434 t435 t436 t437 t438 t439 t440 t441) else (if t464 = true then (laws_FnRecords.j0 k l0 t444 (t476.toList != t455.toList) t434 t435 t436 t437 t438 t439 t440 t441) else (laws_FnRecords.j0 k l0 t444 false t434 t435 t436 t437 t438 t439 t440 t441)))) else (laws_FnRecords.j0 k l0 t444 true t434 t435 t436 t437 t438 t439 t440 t441)) else (if (t464 != t474) = true then (laws_FnRecords.j0 k l0 t444 true t434 t435 t436 t437 t438 t439 t440 t441) else (if t464 = true then (laws_FnRecords.j0 k l0 t444 (t476.toList != t455.toList) t434 t435 t436 t437 t438 t439 t440 t441) else (laws_FnRecords.j0 k l0 t444 false t434 t435 t436 t437 t438 t439 t440 t441))))))) = some r := H
   have A34 := Aside0.mk A340
   clear A340
   by_cases c35 : (t444 != t478) = true
   ·rw [if_pos c35] at H
    have c35b0 : (t444 != t478) = true := c35
    (try (have c35b1 : decide (t444 = t478) = false := by simpa using c35))
    (try (have c35b2 : (t444 == t478) = false := by simpa using c35))
    (try (have c35b3 : ¬ (t444 = t478) := by simpa using c35))
    clear c35
    (first | rw [c35b0] | (simp only [i64_w, i32_w]; rw [c35b0]) | skip)
    have H' := Aside0.mk H
    clear H
    have hnb36 := NB442_454.out
    have hnc36 := NB454_442.out
    have hnb37 := NB442_465.out
    have hnc37 := NB465_442.out
    have hnb38 := NB442_475.out
    have hnc38 := NB475_442.out
    obtain ⟨hcz39_0, hcz39_1, hcz39_2, hcz39_3, hcz39_4, hcz39_5, hcz39_6, hcz39_7, hfz39_0, hfz39_1, hfz39_2, hfz39_3, hfz39_4, hfz39_5, hfz39_6, hfz39_7⟩ := bC8 BK442
    go_wp2_with (first | ((with_reducible refine gate_callee (f := 27) rfl ?_); refine gl (some 54) Try.func27 #[.agg #[.int .i64 t434, .int .i64 t435, .int .i64 t436, .int .i64 t437, .int .i64 t438, .string t439, .string t440, .string t441]] ?_; (with_reducible refine (spec_RecOk.calls k t434 t435 t436 t437 t438 t439 t440 t441 t478 _ A34.out).mono ?_); rintro e w40 ⟨rfl, hb⟩; refine ⟨_, rfl, ?_⟩; replace BK442 := bB BK442 hb; replace BK454 := bB BK454 hb; replace BK465 := bB BK465 hb; replace BK475 := bB BK475 hb; replace HB := ak (below_step (lT HB (gC GE442 (gC GE454 (gC GE465 (gC GE475 gN))))) hb); (try clear hb); (try clear hk)))
    go_meet
    case rel => exact ⟨_, (true), (by first | rfl | (simp; done) | (simp [*]; done)), H', ⟨by first | omega | exact Nat.le_refl _⟩, ⟨bG BK442⟩, ⟨bG BK454⟩, ⟨bG BK465⟩, ⟨bG BK475⟩, ⟨by exact lT HB (gC GE442 (gC GE454 (gC GE465 (gC GE475 gN))))⟩⟩
   ·rw [if_neg c35] at H
    have c35b0 : (t444 != t478) = false := by simpa using c35
    (try (have c35b1 : decide (t444 = t478) = true := by simpa using c35))
    (try (have c35b2 : (t444 == t478) = true := by simpa using c35))
    clear c35
    (first | rw [c35b0] | (simp only [i64_w, i32_w]; rw [c35b0]) | skip)
    replace H := Option.bind_eq_some_iff.mp H
    obtain ⟨t479, A410, H⟩ := H
    replace H : (if (t479 != t444) = true then (laws_FnRecords.j0 k l0 t444 true t434 t435 t436 t437 t438 t439 t440 t441) else (if t444 = true then (if t453 = true then (if (!(t445 == t434) || (!(t446 == t435) || (!(t447 == t436) || (!(t448 == t437) || (!(t449 == t438) || (!(t450.toList == t439.toList) || (!(t451.toList == t440.toList) || (!(t452.toList == t441.toList))))))))) = true then (laws_FnRecords.j0 k l0 t444 true t434 t435 t436 t437 t438 t439 t440 t441) else (if (t464 != t474) = true then (laws_FnRecords.j0 k l0 t444 true t434 t435 t436 t437 t438 t439 t440 t441) else (if t464 = true then (laws_FnRecords.j0 k l0 t444 (t476.toList != t455.toList) t434 t435 t436 t437 t438 t439 t440 t441) else (laws_FnRecords.j0 k l0 t444 false t434 t435 t436 t437 t438 t439 t440 t441)))) else (laws_FnRecords.j0 k l0 t444 true t434 t435 t436 t437 t438 t439 t440 t441)) else (if (t464 != t474) = true then (laws_FnRecords.j0 k l0 t444 true t434 t435 t436 t437 t438 t439 t440 t441) else (if t464 = true then (laws_FnRecords.j0 k l0 t444 (t476.toList != t455.toList) t434 t435 t436 t437 t438 t439 t440 t441) else (laws_FnRecords.j0 k l0 t444 false t434 t435 t436 t437 t438 t439 t440 t441))))) = some r := H
    have A41 := Aside0.mk A410
    clear A410
    by_cases c42 : (t479 != t444) = true
    ·rw [if_pos c42] at H
     have c42b0 : (t479 != t444) = true := c42
     (try (have c42b1 : decide (t479 = t444) = false := by simpa using c42))
     (try (have c42b2 : (t479 == t444) = false := by simpa using c42))
     (try (have c42b3 : ¬ (t479 = t444) := by simpa using c42))
     clear c42
     have H' := Aside0.mk H
     clear H
     have hnb43 := NB442_454.out
     have hnc43 := NB454_442.out
     have hnb44 := NB442_465.out
     have hnc44 := NB465_442.out
     have hnb45 := NB442_475.out
     have hnc45 := NB475_442.out
     obtain ⟨hcz46_0, hcz46_1, hcz46_2, hcz46_3, hcz46_4, hcz46_5, hcz46_6, hcz46_7, hfz46_0, hfz46_1, hfz46_2, hfz46_3, hfz46_4, hfz46_5, hfz46_6, hfz46_7⟩ := bC8 BK442
     go_wp2_with (first | ((with_reducible refine gate_callee (f := 27) rfl ?_); refine gl (some 54) Try.func27 #[.agg #[.int .i64 t434, .int .i64 t435, .int .i64 t436, .int .i64 t437, .int .i64 t438, .string t439, .string t440, .string t441]] ?_; (with_reducible refine (spec_RecOk.calls k t434 t435 t436 t437 t438 t439 t440 t441 t478 _ A34.out).mono ?_); rintro e w47 ⟨rfl, hb⟩; refine ⟨_, rfl, ?_⟩; replace BK442 := bB BK442 hb; replace BK454 := bB BK454 hb; replace BK465 := bB BK465 hb; replace BK475 := bB BK475 hb; replace HB := ak (below_step (lT HB (gC GE442 (gC GE454 (gC GE465 (gC GE475 gN))))) hb); (try clear hb); (try clear hk); obtain ⟨hcz48_0, hcz48_1, hcz48_2, hcz48_3, hcz48_4, hcz48_5, hcz48_6, hcz48_7, hfz48_0, hfz48_1, hfz48_2, hfz48_3, hfz48_4, hfz48_5, hfz48_6, hfz48_7⟩ := bC8 BK442) | (go_at_call 28; (with_reducible refine (impl_RecOk.calls k t434 t435 t436 t437 t438 t439 t440 t441 t479 _ A41.out).mono ?_); rintro e w49 ⟨rfl, hb⟩; replace BK442 := bB BK442 hb; replace BK454 := bB BK454 hb; replace BK465 := bB BK465 hb; replace BK475 := bB BK475 hb; replace HB := ak (below_step (lT HB (gC GE442 (gC GE454 (gC GE465 (gC GE475 gN))))) hb); (try clear hb); (try clear hk)))
     go_meet
     case rel => exact ⟨_, (true), (by first | rfl | (simp; done) | (simp [*]; done)), H', ⟨by first | omega | exact Nat.le_refl _⟩, ⟨bG BK442⟩, ⟨bG BK454⟩, ⟨bG BK465⟩, ⟨bG BK475⟩, ⟨by exact lT HB (gC GE442 (gC GE454 (gC GE465 (gC GE475 gN))))⟩⟩
    ·rw [if_neg c42] at H
     have c42b0 : (t479 != t444) = false := by simpa using c42
     (try (have c42b1 : decide (t479 = t444) = true := by simpa using c42))
     (try (have c42b2 : (t479 == t444) = true := by simpa using c42))
     clear c42
     by_cases c50 : t444 = true
     ·subst c50
      have H1 : (if t453 = true then (if (!(t445 == t434) || (!(t446 == t435) || (!(t447 == t436) || (!(t448 == t437) || (!(t449 == t438) || (!(t450.toList == t439.toList) || (!(t451.toList == t440.toList) || (!(t452.toList == t441.toList))))))))) = true then (laws_FnRecords.j0 k l0 true true t434 t435 t436 t437 t438 t439 t440 t441) else (if (t464 != t474) = true then (laws_FnRecords.j0 k l0 true true t434 t435 t436 t437 t438 t439 t440 t441) else (if t464 = true then (laws_FnRecords.j0 k l0 true (t476.toList != t455.toList) t434 t435 t436 t437 t438 t439 t440 t441) else (laws_FnRecords.j0 k l0 true false t434 t435 t436 t437 t438 t439 t440 t441)))) else (laws_FnRecords.j0 k l0 true true t434 t435 t436 t437 t438 t439 t440 t441)) = some r := by rw [if_pos rfl] at H; exact H
      clear H
      have H := H1
      clear H1
      by_cases c51 : t453 = true
      ·subst c51
       have H1 : (if (!(t445 == t434) || (!(t446 == t435) || (!(t447 == t436) || (!(t448 == t437) || (!(t449 == t438) || (!(t450.toList == t439.toList) || (!(t451.toList == t440.toList) || (!(t452.toList == t441.toList))))))))) = true then (laws_FnRecords.j0 k l0 true true t434 t435 t436 t437 t438 t439 t440 t441) else (if (t464 != t474) = true then (laws_FnRecords.j0 k l0 true true t434 t435 t436 t437 t438 t439 t440 t441) else (if t464 = true then (laws_FnRecords.j0 k l0 true (t476.toList != t455.toList) t434 t435 t436 t437 t438 t439 t440 t441) else (laws_FnRecords.j0 k l0 true false t434 t435 t436 t437 t438 t439 t440 t441)))) = some r := by rw [if_pos rfl] at H; exact H
       clear H
       have H := H1
       clear H1
       by_cases c52 : (!(t445 == t434) || (!(t446 == t435) || (!(t447 == t436) || (!(t448 == t437) || (!(t449 == t438) || (!(t450.toList == t439.toList) || (!(t451.toList == t440.toList) || (!(t452.toList == t441.toList))))))))) = true
       ·rw [if_pos c52] at H
        have c52b0 : (!(t445 == t434) || (!(t446 == t435) || (!(t447 == t436) || (!(t448 == t437) || (!(t449 == t438) || (!(t450.toList == t439.toList) || (!(t451.toList == t440.toList) || (!(t452.toList == t441.toList))))))))) = true := c52
        clear c52
        have H' := Aside0.mk H
        clear H
        have hnb53 := NB442_454.out
        have hnc53 := NB454_442.out
        have hnb54 := NB442_465.out
        have hnc54 := NB465_442.out
        have hnb55 := NB442_475.out
        have hnc55 := NB475_442.out
        obtain ⟨hcz56_0, hcz56_1, hcz56_2, hcz56_3, hcz56_4, hcz56_5, hcz56_6, hcz56_7, hfz56_0, hfz56_1, hfz56_2, hfz56_3, hfz56_4, hfz56_5, hfz56_6, hfz56_7⟩ := bC8 BK442
        go_wp2_with (first | ((with_reducible refine gate_callee (f := 27) rfl ?_); refine gl (some 54) Try.func27 #[.agg #[.int .i64 t434, .int .i64 t435, .int .i64 t436, .int .i64 t437, .int .i64 t438, .string t439, .string t440, .string t441]] ?_; (with_reducible refine (spec_RecOk.calls k t434 t435 t436 t437 t438 t439 t440 t441 t478 _ A34.out).mono ?_); rintro e w57 ⟨rfl, hb⟩; refine ⟨_, rfl, ?_⟩; replace BK442 := bB BK442 hb; replace BK454 := bB BK454 hb; replace BK465 := bB BK465 hb; replace BK475 := bB BK475 hb; replace HB := ak (below_step (lT HB (gC GE442 (gC GE454 (gC GE465 (gC GE475 gN))))) hb); (try clear hb); (try clear hk); obtain ⟨hcz58_0, hcz58_1, hcz58_2, hcz58_3, hcz58_4, hcz58_5, hcz58_6, hcz58_7, hfz58_0, hfz58_1, hfz58_2, hfz58_3, hfz58_4, hfz58_5, hfz58_6, hfz58_7⟩ := bC8 BK442) | (go_at_call 28; (with_reducible refine (impl_RecOk.calls k t434 t435 t436 t437 t438 t439 t440 t441 t479 _ A41.out).mono ?_); rintro e w59 ⟨rfl, hb⟩; replace BK442 := bB BK442 hb; replace BK454 := bB BK454 hb; replace BK465 := bB BK465 hb; replace BK475 := bB BK475 hb; replace HB := ak (below_step (lT HB (gC GE442 (gC GE454 (gC GE465 (gC GE475 gN))))) hb); (try clear hb); (try clear hk); have hnb60 := NB454_465.out; have hnc60 := NB465_454.out; have hnb61 := NB454_475.out; have hnc61 := NB475_454.out; obtain ⟨hcz62_0, hcz62_1, hcz62_2, hcz62_3, hcz62_4, hcz62_5, hcz62_6, hcz62_7, hfz62_0, hfz62_1, hfz62_2, hfz62_3, hfz62_4, hfz62_5, hfz62_6, hfz62_7⟩ := bC8 BK454; obtain ⟨hcz63_0, hcz63_1, hcz63_2, hcz63_3, hcz63_4, hcz63_5, hcz63_6, hcz63_7, hfz63_0, hfz63_1, hfz63_2, hfz63_3, hfz63_4, hfz63_5, hfz63_6, hfz63_7⟩ := bC8 BK442))
        go_meet
        case rel => exact ⟨_, (true), (by first | rfl | (simp; done) | (simp [*]; done)), H', ⟨by first | omega | exact Nat.le_refl _⟩, ⟨bG BK442⟩, ⟨bG BK454⟩, ⟨bG BK465⟩, ⟨bG BK475⟩, ⟨by exact lT HB (gC GE442 (gC GE454 (gC GE465 (gC GE475 gN))))⟩⟩
       ·rw [if_neg c52] at H
        have c52b0 : (!(t445 == t434) || (!(t446 == t435) || (!(t447 == t436) || (!(t448 == t437) || (!(t449 == t438) || (!(t450.toList == t439.toList) || (!(t451.toList == t440.toList) || (!(t452.toList == t441.toList))))))))) = false := by simpa using c52
        clear c52
        by_cases c64 : (t464 != t474) = true
        ·rw [if_pos c64] at H
         have c64b0 : (t464 != t474) = true := c64
         (try (have c64b1 : decide (t464 = t474) = false := by simpa using c64))
         (try (have c64b2 : (t464 == t474) = false := by simpa using c64))
         (try (have c64b3 : ¬ (t464 = t474) := by simpa using c64))
         clear c64
         have H' := Aside0.mk H
         clear H
         have hnb65 := NB442_454.out
         have hnc65 := NB454_442.out
         have hnb66 := NB442_465.out
         have hnc66 := NB465_442.out
         have hnb67 := NB442_475.out
         have hnc67 := NB475_442.out
         obtain ⟨hcz68_0, hcz68_1, hcz68_2, hcz68_3, hcz68_4, hcz68_5, hcz68_6, hcz68_7, hfz68_0, hfz68_1, hfz68_2, hfz68_3, hfz68_4, hfz68_5, hfz68_6, hfz68_7⟩ := bC8 BK442
         go_wp2_with (first | ((with_reducible refine gate_callee (f := 27) rfl ?_); refine gl (some 54) Try.func27 #[.agg #[.int .i64 t434, .int .i64 t435, .int .i64 t436, .int .i64 t437, .int .i64 t438, .string t439, .string t440, .string t441]] ?_; (with_reducible refine (spec_RecOk.calls k t434 t435 t436 t437 t438 t439 t440 t441 t478 _ A34.out).mono ?_); rintro e w69 ⟨rfl, hb⟩; refine ⟨_, rfl, ?_⟩; replace BK442 := bB BK442 hb; replace BK454 := bB BK454 hb; replace BK465 := bB BK465 hb; replace BK475 := bB BK475 hb; replace HB := ak (below_step (lT HB (gC GE442 (gC GE454 (gC GE465 (gC GE475 gN))))) hb); (try clear hb); (try clear hk); obtain ⟨hcz70_0, hcz70_1, hcz70_2, hcz70_3, hcz70_4, hcz70_5, hcz70_6, hcz70_7, hfz70_0, hfz70_1, hfz70_2, hfz70_3, hfz70_4, hfz70_5, hfz70_6, hfz70_7⟩ := bC8 BK442) | (go_at_call 28; (with_reducible refine (impl_RecOk.calls k t434 t435 t436 t437 t438 t439 t440 t441 t479 _ A41.out).mono ?_); rintro e w71 ⟨rfl, hb⟩; replace BK442 := bB BK442 hb; replace BK454 := bB BK454 hb; replace BK465 := bB BK465 hb; replace BK475 := bB BK475 hb; replace HB := ak (below_step (lT HB (gC GE442 (gC GE454 (gC GE465 (gC GE475 gN))))) hb); (try clear hb); (try clear hk); have hnb72 := NB454_465.out; have hnc72 := NB465_454.out; have hnb73 := NB454_475.out; have hnc73 := NB475_454.out; obtain ⟨hcz74_0, hcz74_1, hcz74_2, hcz74_3, hcz74_4, hcz74_5, hcz74_6, hcz74_7, hfz74_0, hfz74_1, hfz74_2, hfz74_3, hfz74_4, hfz74_5, hfz74_6, hfz74_7⟩ := bC8 BK454; obtain ⟨hcz75_0, hcz75_1, hcz75_2, hcz75_3, hcz75_4, hcz75_5, hcz75_6, hcz75_7, hfz75_0, hfz75_1, hfz75_2, hfz75_3, hfz75_4, hfz75_5, hfz75_6, hfz75_7⟩ := bC8 BK442))
         go_meet
         case rel => exact ⟨_, (true), (by first | rfl | (simp; done) | (simp [*]; done)), H', ⟨by first | omega | exact Nat.le_refl _⟩, ⟨bG BK442⟩, ⟨bG BK454⟩, ⟨bG BK465⟩, ⟨bG BK475⟩, ⟨by exact lT HB (gC GE442 (gC GE454 (gC GE465 (gC GE475 gN))))⟩⟩
        ·rw [if_neg c64] at H
         have c64b0 : (t464 != t474) = false := by simpa using c64
         (try (have c64b1 : decide (t464 = t474) = true := by simpa using c64))
         (try (have c64b2 : (t464 == t474) = true := by simpa using c64))
         clear c64
         by_cases c76 : t464 = true
         ·subst c76
          have H1 : (laws_FnRecords.j0 k l0 true (t476.toList != t455.toList) t434 t435 t436 t437 t438 t439 t440 t441) = some r := by rw [if_pos rfl] at H; exact H
          clear H
          have H := H1
          clear H1
          have H' := Aside0.mk H
          clear H
          have hnb77 := NB442_454.out
          have hnc77 := NB454_442.out
          have hnb78 := NB442_465.out
          have hnc78 := NB465_442.out
          have hnb79 := NB442_475.out
          have hnc79 := NB475_442.out
          obtain ⟨hcz80_0, hcz80_1, hcz80_2, hcz80_3, hcz80_4, hcz80_5, hcz80_6, hcz80_7, hfz80_0, hfz80_1, hfz80_2, hfz80_3, hfz80_4, hfz80_5, hfz80_6, hfz80_7⟩ := bC8 BK442
          go_wp2_with (first | ((with_reducible refine gate_callee (f := 27) rfl ?_); refine gl (some 54) Try.func27 #[.agg #[.int .i64 t434, .int .i64 t435, .int .i64 t436, .int .i64 t437, .int .i64 t438, .string t439, .string t440, .string t441]] ?_; (with_reducible refine (spec_RecOk.calls k t434 t435 t436 t437 t438 t439 t440 t441 t478 _ A34.out).mono ?_); rintro e w81 ⟨rfl, hb⟩; refine ⟨_, rfl, ?_⟩; replace BK442 := bB BK442 hb; replace BK454 := bB BK454 hb; replace BK465 := bB BK465 hb; replace BK475 := bB BK475 hb; replace HB := ak (below_step (lT HB (gC GE442 (gC GE454 (gC GE465 (gC GE475 gN))))) hb); (try clear hb); (try clear hk); obtain ⟨hcz82_0, hcz82_1, hcz82_2, hcz82_3, hcz82_4, hcz82_5, hcz82_6, hcz82_7, hfz82_0, hfz82_1, hfz82_2, hfz82_3, hfz82_4, hfz82_5, hfz82_6, hfz82_7⟩ := bC8 BK442) | (go_at_call 28; (with_reducible refine (impl_RecOk.calls k t434 t435 t436 t437 t438 t439 t440 t441 t479 _ A41.out).mono ?_); rintro e w83 ⟨rfl, hb⟩; replace BK442 := bB BK442 hb; replace BK454 := bB BK454 hb; replace BK465 := bB BK465 hb; replace BK475 := bB BK475 hb; replace HB := ak (below_step (lT HB (gC GE442 (gC GE454 (gC GE465 (gC GE475 gN))))) hb); (try clear hb); (try clear hk); have hnb84 := NB454_465.out; have hnc84 := NB465_454.out; have hnb85 := NB454_475.out; have hnc85 := NB475_454.out; obtain ⟨hcz86_0, hcz86_1, hcz86_2, hcz86_3, hcz86_4, hcz86_5, hcz86_6, hcz86_7, hfz86_0, hfz86_1, hfz86_2, hfz86_3, hfz86_4, hfz86_5, hfz86_6, hfz86_7⟩ := bC8 BK454; obtain ⟨hcz87_0, hcz87_1, hcz87_2, hcz87_3, hcz87_4, hcz87_5, hcz87_6, hcz87_7, hfz87_0, hfz87_1, hfz87_2, hfz87_3, hfz87_4, hfz87_5, hfz87_6, hfz87_7⟩ := bC8 BK442))
          go_meet
          case rel => exact ⟨_, ((t476.toList != t455.toList)), (by first | rfl | (simp; done) | (simp [*]; done)), H', ⟨by first | omega | exact Nat.le_refl _⟩, ⟨bG BK442⟩, ⟨bG BK454⟩, ⟨bG BK465⟩, ⟨bG BK475⟩, ⟨by exact lT HB (gC GE442 (gC GE454 (gC GE465 (gC GE475 gN))))⟩⟩
         ·replace c76 := Bool.eq_false_iff.mpr c76
          subst c76
          have H1 : (laws_FnRecords.j0 k l0 true false t434 t435 t436 t437 t438 t439 t440 t441) = some r := by rw [if_neg (show ¬ (false = true) by decide)] at H; exact H
          clear H
          have H := H1
          clear H1
          have H' := Aside0.mk H
          clear H
          have hnb88 := NB442_454.out
          have hnc88 := NB454_442.out
          have hnb89 := NB442_465.out
          have hnc89 := NB465_442.out
          have hnb90 := NB442_475.out
          have hnc90 := NB475_442.out
          obtain ⟨hcz91_0, hcz91_1, hcz91_2, hcz91_3, hcz91_4, hcz91_5, hcz91_6, hcz91_7, hfz91_0, hfz91_1, hfz91_2, hfz91_3, hfz91_4, hfz91_5, hfz91_6, hfz91_7⟩ := bC8 BK442
          go_wp2_with (first | ((with_reducible refine gate_callee (f := 27) rfl ?_); refine gl (some 54) Try.func27 #[.agg #[.int .i64 t434, .int .i64 t435, .int .i64 t436, .int .i64 t437, .int .i64 t438, .string t439, .string t440, .string t441]] ?_; (with_reducible refine (spec_RecOk.calls k t434 t435 t436 t437 t438 t439 t440 t441 t478 _ A34.out).mono ?_); rintro e w92 ⟨rfl, hb⟩; refine ⟨_, rfl, ?_⟩; replace BK442 := bB BK442 hb; replace BK454 := bB BK454 hb; replace BK465 := bB BK465 hb; replace BK475 := bB BK475 hb; replace HB := ak (below_step (lT HB (gC GE442 (gC GE454 (gC GE465 (gC GE475 gN))))) hb); (try clear hb); (try clear hk); obtain ⟨hcz93_0, hcz93_1, hcz93_2, hcz93_3, hcz93_4, hcz93_5, hcz93_6, hcz93_7, hfz93_0, hfz93_1, hfz93_2, hfz93_3, hfz93_4, hfz93_5, hfz93_6, hfz93_7⟩ := bC8 BK442) | (go_at_call 28; (with_reducible refine (impl_RecOk.calls k t434 t435 t436 t437 t438 t439 t440 t441 t479 _ A41.out).mono ?_); rintro e w94 ⟨rfl, hb⟩; replace BK442 := bB BK442 hb; replace BK454 := bB BK454 hb; replace BK465 := bB BK465 hb; replace BK475 := bB BK475 hb; replace HB := ak (below_step (lT HB (gC GE442 (gC GE454 (gC GE465 (gC GE475 gN))))) hb); (try clear hb); (try clear hk); have hnb95 := NB454_465.out; have hnc95 := NB465_454.out; have hnb96 := NB454_475.out; have hnc96 := NB475_454.out; obtain ⟨hcz97_0, hcz97_1, hcz97_2, hcz97_3, hcz97_4, hcz97_5, hcz97_6, hcz97_7, hfz97_0, hfz97_1, hfz97_2, hfz97_3, hfz97_4, hfz97_5, hfz97_6, hfz97_7⟩ := bC8 BK454; obtain ⟨hcz98_0, hcz98_1, hcz98_2, hcz98_3, hcz98_4, hcz98_5, hcz98_6, hcz98_7, hfz98_0, hfz98_1, hfz98_2, hfz98_3, hfz98_4, hfz98_5, hfz98_6, hfz98_7⟩ := bC8 BK442))
          go_meet
          case rel => exact ⟨_, (false), (by first | rfl | (simp; done) | (simp [*]; done)), H', ⟨by first | omega | exact Nat.le_refl _⟩, ⟨bG BK442⟩, ⟨bG BK454⟩, ⟨bG BK465⟩, ⟨bG BK475⟩, ⟨by exact lT HB (gC GE442 (gC GE454 (gC GE465 (gC GE475 gN))))⟩⟩
      ·replace c51 := Bool.eq_false_iff.mpr c51
       subst c51
       have H1 : (laws_FnRecords.j0 k l0 true true t434 t435 t436 t437 t438 t439 t440 t441) = some r := by rw [if_neg (show ¬ (false = true) by decide)] at H; exact H
       clear H
       have H := H1
       clear H1
       have H' := Aside0.mk H
       clear H
       have hnb99 := NB442_454.out
       have hnc99 := NB454_442.out
       have hnb100 := NB442_465.out
       have hnc100 := NB465_442.out
       have hnb101 := NB442_475.out
       have hnc101 := NB475_442.out
       obtain ⟨hcz102_0, hcz102_1, hcz102_2, hcz102_3, hcz102_4, hcz102_5, hcz102_6, hcz102_7, hfz102_0, hfz102_1, hfz102_2, hfz102_3, hfz102_4, hfz102_5, hfz102_6, hfz102_7⟩ := bC8 BK442
       go_wp2_with (first | ((with_reducible refine gate_callee (f := 27) rfl ?_); refine gl (some 54) Try.func27 #[.agg #[.int .i64 t434, .int .i64 t435, .int .i64 t436, .int .i64 t437, .int .i64 t438, .string t439, .string t440, .string t441]] ?_; (with_reducible refine (spec_RecOk.calls k t434 t435 t436 t437 t438 t439 t440 t441 t478 _ A34.out).mono ?_); rintro e w103 ⟨rfl, hb⟩; refine ⟨_, rfl, ?_⟩; replace BK442 := bB BK442 hb; replace BK454 := bB BK454 hb; replace BK465 := bB BK465 hb; replace BK475 := bB BK475 hb; replace HB := ak (below_step (lT HB (gC GE442 (gC GE454 (gC GE465 (gC GE475 gN))))) hb); (try clear hb); (try clear hk); obtain ⟨hcz104_0, hcz104_1, hcz104_2, hcz104_3, hcz104_4, hcz104_5, hcz104_6, hcz104_7, hfz104_0, hfz104_1, hfz104_2, hfz104_3, hfz104_4, hfz104_5, hfz104_6, hfz104_7⟩ := bC8 BK442) | (go_at_call 28; (with_reducible refine (impl_RecOk.calls k t434 t435 t436 t437 t438 t439 t440 t441 t479 _ A41.out).mono ?_); rintro e w105 ⟨rfl, hb⟩; replace BK442 := bB BK442 hb; replace BK454 := bB BK454 hb; replace BK465 := bB BK465 hb; replace BK475 := bB BK475 hb; replace HB := ak (below_step (lT HB (gC GE442 (gC GE454 (gC GE465 (gC GE475 gN))))) hb); (try clear hb); (try clear hk)))
       go_meet
       case rel => exact ⟨_, (true), (by first | rfl | (simp; done) | (simp [*]; done)), H', ⟨by first | omega | exact Nat.le_refl _⟩, ⟨bG BK442⟩, ⟨bG BK454⟩, ⟨bG BK465⟩, ⟨bG BK475⟩, ⟨by exact lT HB (gC GE442 (gC GE454 (gC GE465 (gC GE475 gN))))⟩⟩
     ·replace c50 := Bool.eq_false_iff.mpr c50
      subst c50
      have H1 : (if (t464 != t474) = true then (laws_FnRecords.j0 k l0 false true t434 t435 t436 t437 t438 t439 t440 t441) else (if t464 = true then (laws_FnRecords.j0 k l0 false (t476.toList != t455.toList) t434 t435 t436 t437 t438 t439 t440 t441) else (laws_FnRecords.j0 k l0 false false t434 t435 t436 t437 t438 t439 t440 t441))) = some r := by rw [if_neg (show ¬ (false = true) by decide)] at H; exact H
      clear H
      have H := H1
      clear H1
      by_cases c106 : (t464 != t474) = true
      ·rw [if_pos c106] at H
       have c106b0 : (t464 != t474) = true := c106
       (try (have c106b1 : decide (t464 = t474) = false := by simpa using c106))
       (try (have c106b2 : (t464 == t474) = false := by simpa using c106))
       (try (have c106b3 : ¬ (t464 = t474) := by simpa using c106))
       clear c106
       have H' := Aside0.mk H
       clear H
       have hnb107 := NB442_454.out
       have hnc107 := NB454_442.out
       have hnb108 := NB442_465.out
       have hnc108 := NB465_442.out
       have hnb109 := NB442_475.out
       have hnc109 := NB475_442.out
       obtain ⟨hcz110_0, hcz110_1, hcz110_2, hcz110_3, hcz110_4, hcz110_5, hcz110_6, hcz110_7, hfz110_0, hfz110_1, hfz110_2, hfz110_3, hfz110_4, hfz110_5, hfz110_6, hfz110_7⟩ := bC8 BK442
       go_wp2_with (first | ((with_reducible refine gate_callee (f := 27) rfl ?_); refine gl (some 54) Try.func27 #[.agg #[.int .i64 t434, .int .i64 t435, .int .i64 t436, .int .i64 t437, .int .i64 t438, .string t439, .string t440, .string t441]] ?_; (with_reducible refine (spec_RecOk.calls k t434 t435 t436 t437 t438 t439 t440 t441 t478 _ A34.out).mono ?_); rintro e w111 ⟨rfl, hb⟩; refine ⟨_, rfl, ?_⟩; replace BK442 := bB BK442 hb; replace BK454 := bB BK454 hb; replace BK465 := bB BK465 hb; replace BK475 := bB BK475 hb; replace HB := ak (below_step (lT HB (gC GE442 (gC GE454 (gC GE465 (gC GE475 gN))))) hb); (try clear hb); (try clear hk); obtain ⟨hcz112_0, hcz112_1, hcz112_2, hcz112_3, hcz112_4, hcz112_5, hcz112_6, hcz112_7, hfz112_0, hfz112_1, hfz112_2, hfz112_3, hfz112_4, hfz112_5, hfz112_6, hfz112_7⟩ := bC8 BK442) | (go_at_call 28; (with_reducible refine (impl_RecOk.calls k t434 t435 t436 t437 t438 t439 t440 t441 t479 _ A41.out).mono ?_); rintro e w113 ⟨rfl, hb⟩; replace BK442 := bB BK442 hb; replace BK454 := bB BK454 hb; replace BK465 := bB BK465 hb; replace BK475 := bB BK475 hb; replace HB := ak (below_step (lT HB (gC GE442 (gC GE454 (gC GE465 (gC GE475 gN))))) hb); (try clear hb); (try clear hk)))
       go_meet
       case rel => exact ⟨_, (true), (by first | rfl | (simp; done) | (simp [*]; done)), H', ⟨by first | omega | exact Nat.le_refl _⟩, ⟨bG BK442⟩, ⟨bG BK454⟩, ⟨bG BK465⟩, ⟨bG BK475⟩, ⟨by exact lT HB (gC GE442 (gC GE454 (gC GE465 (gC GE475 gN))))⟩⟩
      ·rw [if_neg c106] at H
       have c106b0 : (t464 != t474) = false := by simpa using c106
       (try (have c106b1 : decide (t464 = t474) = true := by simpa using c106))
       (try (have c106b2 : (t464 == t474) = true := by simpa using c106))
       clear c106
       by_cases c114 : t464 = true
       ·subst c114
        have H1 : (laws_FnRecords.j0 k l0 false (t476.toList != t455.toList) t434 t435 t436 t437 t438 t439 t440 t441) = some r := by rw [if_pos rfl] at H; exact H
        clear H
        have H := H1
        clear H1
        have H' := Aside0.mk H
        clear H
        have hnb115 := NB442_454.out
        have hnc115 := NB454_442.out
        have hnb116 := NB442_465.out
        have hnc116 := NB465_442.out
        have hnb117 := NB442_475.out
        have hnc117 := NB475_442.out
        obtain ⟨hcz118_0, hcz118_1, hcz118_2, hcz118_3, hcz118_4, hcz118_5, hcz118_6, hcz118_7, hfz118_0, hfz118_1, hfz118_2, hfz118_3, hfz118_4, hfz118_5, hfz118_6, hfz118_7⟩ := bC8 BK442
        go_wp2_with (first | ((with_reducible refine gate_callee (f := 27) rfl ?_); refine gl (some 54) Try.func27 #[.agg #[.int .i64 t434, .int .i64 t435, .int .i64 t436, .int .i64 t437, .int .i64 t438, .string t439, .string t440, .string t441]] ?_; (with_reducible refine (spec_RecOk.calls k t434 t435 t436 t437 t438 t439 t440 t441 t478 _ A34.out).mono ?_); rintro e w119 ⟨rfl, hb⟩; refine ⟨_, rfl, ?_⟩; replace BK442 := bB BK442 hb; replace BK454 := bB BK454 hb; replace BK465 := bB BK465 hb; replace BK475 := bB BK475 hb; replace HB := ak (below_step (lT HB (gC GE442 (gC GE454 (gC GE465 (gC GE475 gN))))) hb); (try clear hb); (try clear hk); obtain ⟨hcz120_0, hcz120_1, hcz120_2, hcz120_3, hcz120_4, hcz120_5, hcz120_6, hcz120_7, hfz120_0, hfz120_1, hfz120_2, hfz120_3, hfz120_4, hfz120_5, hfz120_6, hfz120_7⟩ := bC8 BK442) | (go_at_call 28; (with_reducible refine (impl_RecOk.calls k t434 t435 t436 t437 t438 t439 t440 t441 t479 _ A41.out).mono ?_); rintro e w121 ⟨rfl, hb⟩; replace BK442 := bB BK442 hb; replace BK454 := bB BK454 hb; replace BK465 := bB BK465 hb; replace BK475 := bB BK475 hb; replace HB := ak (below_step (lT HB (gC GE442 (gC GE454 (gC GE465 (gC GE475 gN))))) hb); (try clear hb); (try clear hk)))
        go_meet
        case rel => exact ⟨_, ((t476.toList != t455.toList)), (by first | rfl | (simp; done) | (simp [*]; done)), H', ⟨by first | omega | exact Nat.le_refl _⟩, ⟨bG BK442⟩, ⟨bG BK454⟩, ⟨bG BK465⟩, ⟨bG BK475⟩, ⟨by exact lT HB (gC GE442 (gC GE454 (gC GE465 (gC GE475 gN))))⟩⟩
       ·replace c114 := Bool.eq_false_iff.mpr c114
        subst c114
        have H1 : (laws_FnRecords.j0 k l0 false false t434 t435 t436 t437 t438 t439 t440 t441) = some r := by rw [if_neg (show ¬ (false = true) by decide)] at H; exact H
        clear H
        have H := H1
        clear H1
        have H' := Aside0.mk H
        clear H
        have hnb122 := NB442_454.out
        have hnc122 := NB454_442.out
        have hnb123 := NB442_465.out
        have hnc123 := NB465_442.out
        have hnb124 := NB442_475.out
        have hnc124 := NB475_442.out
        obtain ⟨hcz125_0, hcz125_1, hcz125_2, hcz125_3, hcz125_4, hcz125_5, hcz125_6, hcz125_7, hfz125_0, hfz125_1, hfz125_2, hfz125_3, hfz125_4, hfz125_5, hfz125_6, hfz125_7⟩ := bC8 BK442
        go_wp2_with (first | ((with_reducible refine gate_callee (f := 27) rfl ?_); refine gl (some 54) Try.func27 #[.agg #[.int .i64 t434, .int .i64 t435, .int .i64 t436, .int .i64 t437, .int .i64 t438, .string t439, .string t440, .string t441]] ?_; (with_reducible refine (spec_RecOk.calls k t434 t435 t436 t437 t438 t439 t440 t441 t478 _ A34.out).mono ?_); rintro e w126 ⟨rfl, hb⟩; refine ⟨_, rfl, ?_⟩; replace BK442 := bB BK442 hb; replace BK454 := bB BK454 hb; replace BK465 := bB BK465 hb; replace BK475 := bB BK475 hb; replace HB := ak (below_step (lT HB (gC GE442 (gC GE454 (gC GE465 (gC GE475 gN))))) hb); (try clear hb); (try clear hk); obtain ⟨hcz127_0, hcz127_1, hcz127_2, hcz127_3, hcz127_4, hcz127_5, hcz127_6, hcz127_7, hfz127_0, hfz127_1, hfz127_2, hfz127_3, hfz127_4, hfz127_5, hfz127_6, hfz127_7⟩ := bC8 BK442) | (go_at_call 28; (with_reducible refine (impl_RecOk.calls k t434 t435 t436 t437 t438 t439 t440 t441 t479 _ A41.out).mono ?_); rintro e w128 ⟨rfl, hb⟩; replace BK442 := bB BK442 hb; replace BK454 := bB BK454 hb; replace BK465 := bB BK465 hb; replace BK475 := bB BK475 hb; replace HB := ak (below_step (lT HB (gC GE442 (gC GE454 (gC GE465 (gC GE475 gN))))) hb); (try clear hb); (try clear hk)))
        go_meet
        case rel => exact ⟨_, (false), (by first | rfl | (simp; done) | (simp [*]; done)), H', ⟨by first | omega | exact Nat.le_refl _⟩, ⟨bG BK442⟩, ⟨bG BK454⟩, ⟨bG BK465⟩, ⟨bG BK475⟩, ⟨by exact lT HB (gC GE442 (gC GE454 (gC GE465 (gC GE475 gN))))⟩⟩
  case rest =>
   clear HC11
   try clear c1
   try clear c2
   try clear p2
   try clear c3
   try clear c4
   try clear c5
   try clear c6
   try clear c7
   try clear c8
   try clear c9
   try clear c10
   try clear c11
   try clear c12
   try clear c18
   try clear c23
   try clear c24
   try clear c25
   try clear c26
   try clear c27
   try clear c28
   try clear c29
   try clear c30
   try clear c35
   try clear c35b0
   try clear c35b1
   try clear c35b2
   try clear c36
   try clear c37
   try clear c38
   try clear c42
   try clear c42b0
   try clear c42b1
   try clear c42b2
   try clear c43
   try clear c44
   try clear c45
   try clear c50
   try clear c51
   try clear c52
   try clear c52b0
   try clear c53
   try clear c54
   try clear c55
   try clear c60
   try clear c61
   try clear c64
   try clear c64b0
   try clear c64b1
   try clear c64b2
   try clear c65
   try clear c66
   try clear c67
   try clear c72
   try clear c73
   try clear c76
   try clear c77
   try clear c78
   try clear c79
   try clear c84
   try clear c85
   try clear c88
   try clear c89
   try clear c90
   try clear c95
   try clear c96
   try clear c99
   try clear c100
   try clear c101
   try clear c106
   try clear c106b0
   try clear c106b1
   try clear c106b2
   try clear c107
   try clear c108
   try clear c109
   try clear c114
   try clear c115
   try clear c116
   try clear c117
   try clear c122
   try clear c123
   try clear c124
   try clear hcz102_0
   try clear hcz102_1
   try clear hcz102_2
   try clear hcz102_3
   try clear hcz102_4
   try clear hcz102_5
   try clear hcz102_6
   try clear hcz102_7
   try clear hcz104_0
   try clear hcz104_1
   try clear hcz104_2
   try clear hcz104_3
   try clear hcz104_4
   try clear hcz104_5
   try clear hcz104_6
   try clear hcz104_7
   try clear hcz110_0
   try clear hcz110_1
   try clear hcz110_2
   try clear hcz110_3
   try clear hcz110_4
   try clear hcz110_5
   try clear hcz110_6
   try clear hcz110_7
   try clear hcz112_0
   try clear hcz112_1
   try clear hcz112_2
   try clear hcz112_3
   try clear hcz112_4
   try clear hcz112_5
   try clear hcz112_6
   try clear hcz112_7
   try clear hcz118_0
   try clear hcz118_1
   try clear hcz118_2
   try clear hcz118_3
   try clear hcz118_4
   try clear hcz118_5
   try clear hcz118_6
   try clear hcz118_7
   try clear hcz120_0
   try clear hcz120_1
   try clear hcz120_2
   try clear hcz120_3
   try clear hcz120_4
   try clear hcz120_5
   try clear hcz120_6
   try clear hcz120_7
   try clear hcz125_0
   try clear hcz125_1
   try clear hcz125_2
   try clear hcz125_3
   try clear hcz125_4
   try clear hcz125_5
   try clear hcz125_6
   try clear hcz125_7
   try clear hcz127_0
   try clear hcz127_1
   try clear hcz127_2
   try clear hcz127_3
   try clear hcz127_4
   try clear hcz127_5
   try clear hcz127_6
   try clear hcz127_7
   try clear hcz14_0
   try clear hcz14_1
   try clear hcz14_2
   try clear hcz14_3
   try clear hcz14_4
   try clear hcz14_5
   try clear hcz14_6
   try clear hcz14_7
   try clear hcz19_0
   try clear hcz19_1
   try clear hcz19_2
   try clear hcz19_3
   try clear hcz19_4
   try clear hcz19_5
   try clear hcz19_6
   try clear hcz19_7
   try clear hcz25_0
   try clear hcz25_1
   try clear hcz25_2
   try clear hcz25_3
   try clear hcz25_4
   try clear hcz25_5
   try clear hcz25_6
   try clear hcz25_7
   try clear hcz31_0
   try clear hcz31_1
   try clear hcz31_2
   try clear hcz31_3
   try clear hcz31_4
   try clear hcz31_5
   try clear hcz31_6
   try clear hcz31_7
   try clear hcz32_0
   try clear hcz32_1
   try clear hcz32_2
   try clear hcz32_3
   try clear hcz32_4
   try clear hcz32_5
   try clear hcz32_6
   try clear hcz32_7
   try clear hcz39_0
   try clear hcz39_1
   try clear hcz39_2
   try clear hcz39_3
   try clear hcz39_4
   try clear hcz39_5
   try clear hcz39_6
   try clear hcz39_7
   try clear hcz46_0
   try clear hcz46_1
   try clear hcz46_2
   try clear hcz46_3
   try clear hcz46_4
   try clear hcz46_5
   try clear hcz46_6
   try clear hcz46_7
   try clear hcz48_0
   try clear hcz48_1
   try clear hcz48_2
   try clear hcz48_3
   try clear hcz48_4
   try clear hcz48_5
   try clear hcz48_6
   try clear hcz48_7
   try clear hcz56_0
   try clear hcz56_1
   try clear hcz56_2
   try clear hcz56_3
   try clear hcz56_4
   try clear hcz56_5
   try clear hcz56_6
   try clear hcz56_7
   try clear hcz58_0
   try clear hcz58_1
   try clear hcz58_2
   try clear hcz58_3
   try clear hcz58_4
   try clear hcz58_5
   try clear hcz58_6
   try clear hcz58_7
   try clear hcz62_0
   try clear hcz62_1
   try clear hcz62_2
   try clear hcz62_3
   try clear hcz62_4
   try clear hcz62_5
   try clear hcz62_6
   try clear hcz62_7
   try clear hcz63_0
   try clear hcz63_1
   try clear hcz63_2
   try clear hcz63_3
   try clear hcz63_4
   try clear hcz63_5
   try clear hcz63_6
   try clear hcz63_7
   try clear hcz68_0
   try clear hcz68_1
   try clear hcz68_2
   try clear hcz68_3
   try clear hcz68_4
   try clear hcz68_5
   try clear hcz68_6
   try clear hcz68_7
   try clear hcz70_0
   try clear hcz70_1
   try clear hcz70_2
   try clear hcz70_3
   try clear hcz70_4
   try clear hcz70_5
   try clear hcz70_6
   try clear hcz70_7
   try clear hcz74_0
   try clear hcz74_1
   try clear hcz74_2
   try clear hcz74_3
   try clear hcz74_4
   try clear hcz74_5
   try clear hcz74_6
   try clear hcz74_7
   try clear hcz75_0
   try clear hcz75_1
   try clear hcz75_2
   try clear hcz75_3
   try clear hcz75_4
   try clear hcz75_5
   try clear hcz75_6
   try clear hcz75_7
   try clear hcz80_0
   try clear hcz80_1
   try clear hcz80_2
   try clear hcz80_3
   try clear hcz80_4
   try clear hcz80_5
   try clear hcz80_6
   try clear hcz80_7
   try clear hcz82_0
   try clear hcz82_1
   try clear hcz82_2
   try clear hcz82_3
   try clear hcz82_4
   try clear hcz82_5
   try clear hcz82_6
   try clear hcz82_7
   try clear hcz86_0
   try clear hcz86_1
   try clear hcz86_2
   try clear hcz86_3
   try clear hcz86_4
   try clear hcz86_5
   try clear hcz86_6
   try clear hcz86_7
   try clear hcz87_0
   try clear hcz87_1
   try clear hcz87_2
   try clear hcz87_3
   try clear hcz87_4
   try clear hcz87_5
   try clear hcz87_6
   try clear hcz87_7
   try clear hcz91_0
   try clear hcz91_1
   try clear hcz91_2
   try clear hcz91_3
   try clear hcz91_4
   try clear hcz91_5
   try clear hcz91_6
   try clear hcz91_7
   try clear hcz93_0
   try clear hcz93_1
   try clear hcz93_2
   try clear hcz93_3
   try clear hcz93_4
   try clear hcz93_5
   try clear hcz93_6
   try clear hcz93_7
   try clear hcz97_0
   try clear hcz97_1
   try clear hcz97_2
   try clear hcz97_3
   try clear hcz97_4
   try clear hcz97_5
   try clear hcz97_6
   try clear hcz97_7
   try clear hcz98_0
   try clear hcz98_1
   try clear hcz98_2
   try clear hcz98_3
   try clear hcz98_4
   try clear hcz98_5
   try clear hcz98_6
   try clear hcz98_7
   try clear hfz102_0
   try clear hfz102_1
   try clear hfz102_2
   try clear hfz102_3
   try clear hfz102_4
   try clear hfz102_5
   try clear hfz102_6
   try clear hfz102_7
   try clear hfz104_0
   try clear hfz104_1
   try clear hfz104_2
   try clear hfz104_3
   try clear hfz104_4
   try clear hfz104_5
   try clear hfz104_6
   try clear hfz104_7
   try clear hfz110_0
   try clear hfz110_1
   try clear hfz110_2
   try clear hfz110_3
   try clear hfz110_4
   try clear hfz110_5
   try clear hfz110_6
   try clear hfz110_7
   try clear hfz112_0
   try clear hfz112_1
   try clear hfz112_2
   try clear hfz112_3
   try clear hfz112_4
   try clear hfz112_5
   try clear hfz112_6
   try clear hfz112_7
   try clear hfz118_0
   try clear hfz118_1
   try clear hfz118_2
   try clear hfz118_3
   try clear hfz118_4
   try clear hfz118_5
   try clear hfz118_6
   try clear hfz118_7
   try clear hfz120_0
   try clear hfz120_1
   try clear hfz120_2
   try clear hfz120_3
   try clear hfz120_4
   try clear hfz120_5
   try clear hfz120_6
   try clear hfz120_7
   try clear hfz125_0
   try clear hfz125_1
   try clear hfz125_2
   try clear hfz125_3
   try clear hfz125_4
   try clear hfz125_5
   try clear hfz125_6
   try clear hfz125_7
   try clear hfz127_0
   try clear hfz127_1
   try clear hfz127_2
   try clear hfz127_3
   try clear hfz127_4
   try clear hfz127_5
   try clear hfz127_6
   try clear hfz127_7
   try clear hfz14_0
   try clear hfz14_1
   try clear hfz14_2
   try clear hfz14_3
   try clear hfz14_4
   try clear hfz14_5
   try clear hfz14_6
   try clear hfz14_7
   try clear hfz19_0
   try clear hfz19_1
   try clear hfz19_2
   try clear hfz19_3
   try clear hfz19_4
   try clear hfz19_5
   try clear hfz19_6
   try clear hfz19_7
   try clear hfz25_0
   try clear hfz25_1
   try clear hfz25_2
   try clear hfz25_3
   try clear hfz25_4
   try clear hfz25_5
   try clear hfz25_6
   try clear hfz25_7
   try clear hfz31_0
   try clear hfz31_1
   try clear hfz31_2
   try clear hfz31_3
   try clear hfz31_4
   try clear hfz31_5
   try clear hfz31_6
   try clear hfz31_7
   try clear hfz32_0
   try clear hfz32_1
   try clear hfz32_2
   try clear hfz32_3
   try clear hfz32_4
   try clear hfz32_5
   try clear hfz32_6
   try clear hfz32_7
   try clear hfz39_0
   try clear hfz39_1
   try clear hfz39_2
   try clear hfz39_3
   try clear hfz39_4
   try clear hfz39_5
   try clear hfz39_6
   try clear hfz39_7
   try clear hfz46_0
   try clear hfz46_1
   try clear hfz46_2
   try clear hfz46_3
   try clear hfz46_4
   try clear hfz46_5
   try clear hfz46_6
   try clear hfz46_7
   try clear hfz48_0
   try clear hfz48_1
   try clear hfz48_2
   try clear hfz48_3
   try clear hfz48_4
   try clear hfz48_5
   try clear hfz48_6
   try clear hfz48_7
   try clear hfz56_0
   try clear hfz56_1
   try clear hfz56_2
   try clear hfz56_3
   try clear hfz56_4
   try clear hfz56_5
   try clear hfz56_6
   try clear hfz56_7
   try clear hfz58_0
   try clear hfz58_1
   try clear hfz58_2
   try clear hfz58_3
   try clear hfz58_4
   try clear hfz58_5
   try clear hfz58_6
   try clear hfz58_7
   try clear hfz62_0
   try clear hfz62_1
   try clear hfz62_2
   try clear hfz62_3
   try clear hfz62_4
   try clear hfz62_5
   try clear hfz62_6
   try clear hfz62_7
   try clear hfz63_0
   try clear hfz63_1
   try clear hfz63_2
   try clear hfz63_3
   try clear hfz63_4
   try clear hfz63_5
   try clear hfz63_6
   try clear hfz63_7
   try clear hfz68_0
   try clear hfz68_1
   try clear hfz68_2
   try clear hfz68_3
   try clear hfz68_4
   try clear hfz68_5
   try clear hfz68_6
   try clear hfz68_7
   try clear hfz70_0
   try clear hfz70_1
   try clear hfz70_2
   try clear hfz70_3
   try clear hfz70_4
   try clear hfz70_5
   try clear hfz70_6
   try clear hfz70_7
   try clear hfz74_0
   try clear hfz74_1
   try clear hfz74_2
   try clear hfz74_3
   try clear hfz74_4
   try clear hfz74_5
   try clear hfz74_6
   try clear hfz74_7
   try clear hfz75_0
   try clear hfz75_1
   try clear hfz75_2
   try clear hfz75_3
   try clear hfz75_4
   try clear hfz75_5
   try clear hfz75_6
   try clear hfz75_7
   try clear hfz80_0
   try clear hfz80_1
   try clear hfz80_2
   try clear hfz80_3
   try clear hfz80_4
   try clear hfz80_5
   try clear hfz80_6
   try clear hfz80_7
   try clear hfz82_0
   try clear hfz82_1
   try clear hfz82_2
   try clear hfz82_3
   try clear hfz82_4
   try clear hfz82_5
   try clear hfz82_6
   try clear hfz82_7
   try clear hfz86_0
   try clear hfz86_1
   try clear hfz86_2
   try clear hfz86_3
   try clear hfz86_4
   try clear hfz86_5
   try clear hfz86_6
   try clear hfz86_7
   try clear hfz87_0
   try clear hfz87_1
   try clear hfz87_2
   try clear hfz87_3
   try clear hfz87_4
   try clear hfz87_5
   try clear hfz87_6
   try clear hfz87_7
   try clear hfz91_0
   try clear hfz91_1
   try clear hfz91_2
   try clear hfz91_3
   try clear hfz91_4
   try clear hfz91_5
   try clear hfz91_6
   try clear hfz91_7
   try clear hfz93_0
   try clear hfz93_1
   try clear hfz93_2
   try clear hfz93_3
   try clear hfz93_4
   try clear hfz93_5
   try clear hfz93_6
   try clear hfz93_7
   try clear hfz97_0
   try clear hfz97_1
   try clear hfz97_2
   try clear hfz97_3
   try clear hfz97_4
   try clear hfz97_5
   try clear hfz97_6
   try clear hfz97_7
   try clear hfz98_0
   try clear hfz98_1
   try clear hfz98_2
   try clear hfz98_3
   try clear hfz98_4
   try clear hfz98_5
   try clear hfz98_6
   try clear hfz98_7
   obtain ⟨kq, x86_10, rfl, HA, HJ10, BK442, BK454, BK465, BK475, HB⟩ := hcut
   cases kq with
   | zero => exact absurd HA.out (by simp [laws_FnRecords.j0])
   | succ kj10 =>
    have H := HA.out
    clear HA
    simp only [laws_FnRecords.j0] at H
    by_cases c129 : x86_10 = true
    ·subst c129
     have H1 : (some false) = some r := by rw [if_pos rfl] at H; exact H
     clear H
     have H := H1
     clear H1
     obtain rfl := Option.some.inj H
     go_wp2
     go_ret
     exact ⟨ew, by exact lT HB (gC GE442 (gC GE454 (gC GE465 (gC GE475 gN))))⟩
    ·replace c129 := Bool.eq_false_iff.mpr c129
     subst c129
     have H1 : ((impl_ItemFrame.f kj10 7 t434 t435 t436 t437 t438 t439 t440 t441 3).bind fun bt481 => ((impl_FrameItem.f kj10 bt481.1 bt481.2.1 bt481.2.2.1).bind fun bt486 => ((spec_DrawWordOk.f kj10 l0).bind fun t497 => (if (bt481.2.2.2 == t444) = true then (if t444 = true then (if bt486.2.2.2.2.2.2.2.2.2 = true then (if (bt486.1 == 7 && ((bt486.2.1 == t434 && (bt486.2.2.1 == t435 && (bt486.2.2.2.1 == t436 && (bt486.2.2.2.2.1 == t437 && (bt486.2.2.2.2.2.1 == t438 && (bt486.2.2.2.2.2.2.1.toList == t439.toList && (bt486.2.2.2.2.2.2.2.1.toList == t440.toList && (bt486.2.2.2.2.2.2.2.2.1.toList == t441.toList)))))))))) = true then (if bt481.1 = 3 then ((impl_WordOk.f kj10 t497).bind fun t498 => ((spec_WordOk.f kj10 t497).bind fun t499 => (some (t498 == t499)))) else (some false)) else (some false)) else (some false)) else ((impl_WordOk.f kj10 t497).bind fun t500 => ((spec_WordOk.f kj10 t497).bind fun t501 => (some (t500 == t501))))) else (some false))))) = some r := by rw [if_neg (show ¬ (false = true) by decide)] at H; exact H
     clear H
     have H := H1
     clear H1
     replace H := Option.bind_eq_some_iff.mp H
     obtain ⟨⟨t481, t482, t483, t484⟩, A1300, H⟩ := H
     replace H : ((impl_FrameItem.f kj10 t481 t482 t483).bind fun bt486 => ((spec_DrawWordOk.f kj10 l0).bind fun t497 => (if (t484 == t444) = true then (if t444 = true then (if bt486.2.2.2.2.2.2.2.2.2 = true then (if (bt486.1 == 7 && ((bt486.2.1 == t434 && (bt486.2.2.1 == t435 && (bt486.2.2.2.1 == t436 && (bt486.2.2.2.2.1 == t437 && (bt486.2.2.2.2.2.1 == t438 && (bt486.2.2.2.2.2.2.1.toList == t439.toList && (bt486.2.2.2.2.2.2.2.1.toList == t440.toList && (bt486.2.2.2.2.2.2.2.2.1.toList == t441.toList)))))))))) = true then (if t481 = 3 then ((impl_WordOk.f kj10 t497).bind fun t498 => ((spec_WordOk.f kj10 t497).bind fun t499 => (some (t498 == t499)))) else (some false)) else (some false)) else (some false)) else ((impl_WordOk.f kj10 t497).bind fun t500 => ((spec_WordOk.f kj10 t497).bind fun t501 => (some (t500 == t501))))) else (some false)))) = some r := H
     have A130 := Aside0.mk A1300
     clear A1300
     replace H := Option.bind_eq_some_iff.mp H
     obtain ⟨⟨t486, t487, t488, t489, t490, t491, t492, t493, t494, t495⟩, A1310, H⟩ := H
     replace H : ((spec_DrawWordOk.f kj10 l0).bind fun t497 => (if (t484 == t444) = true then (if t444 = true then (if t495 = true then (if (t486 == 7 && ((t487 == t434 && (t488 == t435 && (t489 == t436 && (t490 == t437 && (t491 == t438 && (t492.toList == t439.toList && (t493.toList == t440.toList && (t494.toList == t441.toList)))))))))) = true then (if t481 = 3 then ((impl_WordOk.f kj10 t497).bind fun t498 => ((spec_WordOk.f kj10 t497).bind fun t499 => (some (t498 == t499)))) else (some false)) else (some false)) else (some false)) else ((impl_WordOk.f kj10 t497).bind fun t500 => ((spec_WordOk.f kj10 t497).bind fun t501 => (some (t500 == t501))))) else (some false))) = some r := H
     have A131 := Aside0.mk A1310
     clear A1310
     replace H := Option.bind_eq_some_iff.mp H
     obtain ⟨t497, A1320, H⟩ := H
     replace H : (if (t484 == t444) = true then (if t444 = true then (if t495 = true then (if (t486 == 7 && ((t487 == t434 && (t488 == t435 && (t489 == t436 && (t490 == t437 && (t491 == t438 && (t492.toList == t439.toList && (t493.toList == t440.toList && (t494.toList == t441.toList)))))))))) = true then (if t481 = 3 then ((impl_WordOk.f kj10 t497).bind fun t498 => ((spec_WordOk.f kj10 t497).bind fun t499 => (some (t498 == t499)))) else (some false)) else (some false)) else (some false)) else ((impl_WordOk.f kj10 t497).bind fun t500 => ((spec_WordOk.f kj10 t497).bind fun t501 => (some (t500 == t501))))) else (some false)) = some r := H
     have A132 := Aside0.mk A1320
     clear A1320
     by_cases c133 : (t484 == t444) = true
     ·rw [if_pos c133] at H
      have c133b0 : (t484 == t444) = true := c133
      (try (have c133b1 : decide (t484 = t444) = true := by simpa using c133))
      (try (have c133b2 : (t484 == t444) = true := by simpa using c133))
      clear c133
      by_cases c134 : t444 = true
      ·subst c134
       have H1 : (if t495 = true then (if (t486 == 7 && ((t487 == t434 && (t488 == t435 && (t489 == t436 && (t490 == t437 && (t491 == t438 && (t492.toList == t439.toList && (t493.toList == t440.toList && (t494.toList == t441.toList)))))))))) = true then (if t481 = 3 then ((impl_WordOk.f kj10 t497).bind fun t498 => ((spec_WordOk.f kj10 t497).bind fun t499 => (some (t498 == t499)))) else (some false)) else (some false)) else (some false)) = some r := by rw [if_pos rfl] at H; exact H
       clear H
       have H := H1
       clear H1
       by_cases c135 : t495 = true
       ·subst c135
        have H1 : (if (t486 == 7 && ((t487 == t434 && (t488 == t435 && (t489 == t436 && (t490 == t437 && (t491 == t438 && (t492.toList == t439.toList && (t493.toList == t440.toList && (t494.toList == t441.toList)))))))))) = true then (if t481 = 3 then ((impl_WordOk.f kj10 t497).bind fun t498 => ((spec_WordOk.f kj10 t497).bind fun t499 => (some (t498 == t499)))) else (some false)) else (some false)) = some r := by rw [if_pos rfl] at H; exact H
        clear H
        have H := H1
        clear H1
        by_cases c136 : (t486 == 7 && ((t487 == t434 && (t488 == t435 && (t489 == t436 && (t490 == t437 && (t491 == t438 && (t492.toList == t439.toList && (t493.toList == t440.toList && (t494.toList == t441.toList)))))))))) = true
        ·rw [if_pos c136] at H
         have c136b0 : (t486 == 7 && ((t487 == t434 && (t488 == t435 && (t489 == t436 && (t490 == t437 && (t491 == t438 && (t492.toList == t439.toList && (t493.toList == t440.toList && (t494.toList == t441.toList)))))))))) = true := c136
         (try (have c136b1 : decide (t486 = 7 && ((t487 == t434 && (t488 == t435 && (t489 == t436 && (t490 == t437 && (t491 == t438 && (t492.toList == t439.toList && (t493.toList == t440.toList && (t494.toList == t441.toList)))))))))) = true := by simpa using c136))
         (try (have c136b2 : (t486 == 7 && ((t487 == t434 && (t488 == t435 && (t489 == t436 && (t490 == t437 && (t491 == t438 && (t492.toList == t439.toList && (t493.toList == t440.toList && (t494.toList == t441.toList)))))))))) = true := by simpa using c136))
         clear c136
         by_cases c137 : t481 = 3
         ·rw [if_pos c137] at H
          have c137b0 : (t481 == 3) = true := beq_iff_eq.mpr c137
          have c137b1 : (t481 != 3) = false := bne_eq_false_iff_eq.mpr c137
          clear c137
          replace H := Option.bind_eq_some_iff.mp H
          obtain ⟨t498, A1380, H⟩ := H
          replace H : ((spec_WordOk.f kj10 t497).bind fun t499 => (some (t498 == t499))) = some r := H
          have A138 := Aside0.mk A1380
          clear A1380
          replace H := Option.bind_eq_some_iff.mp H
          obtain ⟨t499, A1390, H⟩ := H
          replace H : (some (t498 == t499)) = some r := H
          have A139 := Aside0.mk A1390
          clear A1390
          obtain rfl := Option.some.inj H
          have hnb140 := NB442_454.out
          have hnc140 := NB454_442.out
          have hnb141 := NB442_465.out
          have hnc141 := NB465_442.out
          have hnb142 := NB442_475.out
          have hnc142 := NB475_442.out
          obtain ⟨hcz143_0, hcz143_1, hcz143_2, hcz143_3, hcz143_4, hcz143_5, hcz143_6, hcz143_7, hfz143_0, hfz143_1, hfz143_2, hfz143_3, hfz143_4, hfz143_5, hfz143_6, hfz143_7⟩ := bC8 BK442
          go_wp2_with (first | ((with_reducible refine gate_dst (N := 15) rfl ?_); refine bx 15 #[.int .i64 0, .int .i64 0, .int .i64 0, .int .i64 0, .int .i64 0, .int .i64 0, .string (⟨#[]⟩ : ByteArray), .string (⟨#[]⟩ : ByteArray), .string (⟨#[]⟩ : ByteArray)] 32 ?_; intro gb480 hg w144 hbox hb; replace BK480 := ak (hbox); replace GW480 := ak (bz hg (lT HB (gC GE442 (gC GE454 (gC GE465 (gC GE475 gN)))))); replace GE480 := ak (bz hg (lT HB (gC GE442 (gC GE454 (gC GE465 (gC GE475 gN)))))); replace HB := ak (below_step (lT HB (gC GE442 (gC GE454 (gC GE465 (gC GE475 gN))))) hb); replace NB442_480 := ak (nl hg (bG BK442)); replace NB480_442 := ak (ng hg (bG BK442)); replace BK442 := bB BK442 hb; replace NB454_480 := ak (nl hg (bG BK454)); replace NB480_454 := ak (ng hg (bG BK454)); replace BK454 := bB BK454 hb; replace NB465_480 := ak (nl hg (bG BK465)); replace NB480_465 := ak (ng hg (bG BK465)); replace BK465 := bB BK465 hb; replace NB475_480 := ak (nl hg (bG BK475)); replace NB480_475 := ak (ng hg (bG BK475)); replace BK475 := bB BK475 hb; clear hb hbox hg; have hnb145 := NB480_442.out; have hnc145 := NB442_480.out; have hnb146 := NB480_454.out; have hnc146 := NB454_480.out; have hnb147 := NB480_465.out; have hnc147 := NB465_480.out; have hnb148 := NB480_475.out; have hnc148 := NB475_480.out; obtain ⟨hcz149_0, hcz149_1, hcz149_2, hcz149_3, hcz149_4, hcz149_5, hcz149_6, hcz149_7, hcz149_8, hfz149_0, hfz149_1, hfz149_2, hfz149_3, hfz149_4, hfz149_5, hfz149_6, hfz149_7, hfz149_8⟩ := bC9 BK480) | ((with_reducible refine gate_callee (f := 29) rfl ?_); refine gl (some 91) Try.func29 #[.agg #[.int .i64 7, .int .i64 t434, .int .i64 t435, .int .i64 t436, .int .i64 t437, .int .i64 t438, .string t439, .string t440, .string t441], .int .i64 3] ?_; (with_reducible refine (impl_ItemFrame.calls kj10 7 t434 t435 t436 t437 t438 t439 t440 t441 3 t481 t482 t483 t484 _ A130.out).mono ?_); rintro e w150 ⟨rfl, hb⟩; refine ⟨_, rfl, ?_⟩; replace BK442 := ak (blk_below (bT BK442 (nC NB442_480 nN)) hb); replace BK454 := ak (blk_below (bT BK454 (nC NB454_480 nN)) hb); replace BK465 := ak (blk_below (bT BK465 (nC NB465_480 nN)) hb); replace BK475 := ak (blk_below (bT BK475 (nC NB475_480 nN)) hb); replace BK480 := ak (blk_below (g := gb480) (o := .cells #[.int .i64 7, .int .i64 t434, .int .i64 t435, .int .i64 t436, .int .i64 t437, .int .i64 t438, .string t439, .string t440, .string t441] 32 (0, 0)) (bW BK480) hb); replace HB := ak (below_step (lT HB (gC GE442 (gC GE454 (gC GE465 (gC GE475 (gC GE480 gN)))))) hb); (try clear hb); (try clear hk)) | ((with_reducible refine gate_dst (N := 16) rfl ?_); refine bx 16 #[.int .i64 0, .int .i64 0, .string (⟨#[]⟩ : ByteArray)] 35 ?_; intro gb485 hg w151 hbox hb; replace BK485 := ak (hbox); replace GW485 := ak (bz hg (lT HB (gC GE442 (gC GE454 (gC GE465 (gC GE475 (gC GE480 gN))))))); replace GE485 := ak (bz hg (lT HB (gC GE442 (gC GE454 (gC GE465 (gC GE475 (gC GE480 gN))))))); replace HB := ak (below_step (lT HB (gC GE442 (gC GE454 (gC GE465 (gC GE475 (gC GE480 gN)))))) hb); replace NB442_485 := ak (nl hg (bG BK442)); replace NB485_442 := ak (ng hg (bG BK442)); replace BK442 := bB BK442 hb; replace NB454_485 := ak (nl hg (bG BK454)); replace NB485_454 := ak (ng hg (bG BK454)); replace BK454 := bB BK454 hb; replace NB465_485 := ak (nl hg (bG BK465)); replace NB485_465 := ak (ng hg (bG BK465)); replace BK465 := bB BK465 hb; replace NB475_485 := ak (nl hg (bG BK475)); replace NB485_475 := ak (ng hg (bG BK475)); replace BK475 := bB BK475 hb; replace NB480_485 := ak (nl hg (bG BK480)); replace NB485_480 := ak (ng hg (bG BK480)); replace BK480 := bB BK480 hb; clear hb hbox hg; have hnb152 := NB485_442.out; have hnc152 := NB442_485.out; have hnb153 := NB485_454.out; have hnc153 := NB454_485.out; have hnb154 := NB485_465.out; have hnc154 := NB465_485.out; have hnb155 := NB485_475.out; have hnc155 := NB475_485.out; have hnb156 := NB485_480.out; have hnc156 := NB480_485.out; obtain ⟨hcz157_0, hcz157_1, hcz157_2, hfz157_0, hfz157_1, hfz157_2⟩ := bC3 BK485) | ((with_reducible refine gate_callee (f := 16) rfl ?_); refine gl (some 96) Try.func16 #[.agg #[.int .i64 t481, .int .i64 t482, .string t483]] ?_; (with_reducible refine (impl_FrameItem.calls kj10 t481 t482 t483 t486 t487 t488 t489 t490 t491 t492 t493 t494 true _ A131.out).mono ?_); rintro e w158 ⟨rfl, hb⟩; refine ⟨_, rfl, ?_⟩; replace BK442 := ak (blk_below (bT BK442 (nC NB442_485 nN)) hb); replace BK454 := ak (blk_below (bT BK454 (nC NB454_485 nN)) hb); replace BK465 := ak (blk_below (bT BK465 (nC NB465_485 nN)) hb); replace BK475 := ak (blk_below (bT BK475 (nC NB475_485 nN)) hb); replace BK480 := ak (blk_below (bT BK480 (nC NB480_485 nN)) hb); replace BK485 := ak (blk_below (g := gb485) (o := .cells #[.int .i64 t481, .int .i64 t482, .string t483] 35 (0, 0)) (bW BK485) hb); replace HB := ak (below_step (lT HB (gC GE442 (gC GE454 (gC GE465 (gC GE475 (gC GE480 (gC GE485 gN))))))) hb); (try clear hb); (try clear hk)) | ((with_reducible refine gate_dst (N := 18) rfl ?_); refine bx 18 #[.int .i64 0, .int .i64 0, .int .i64 0, .int .i64 0, .int .i64 0, .int .i64 0, .string (⟨#[]⟩ : ByteArray), .string (⟨#[]⟩ : ByteArray), .string (⟨#[]⟩ : ByteArray)] 32 ?_; intro gb496 hg w159 hbox hb; replace BK496 := ak (hbox); replace GW496 := ak (bz hg (lT HB (gC GE442 (gC GE454 (gC GE465 (gC GE475 (gC GE480 (gC GE485 gN)))))))); replace GE496 := ak (bz hg (lT HB (gC GE442 (gC GE454 (gC GE465 (gC GE475 (gC GE480 (gC GE485 gN)))))))); replace HB := ak (below_step (lT HB (gC GE442 (gC GE454 (gC GE465 (gC GE475 (gC GE480 (gC GE485 gN))))))) hb); replace NB442_496 := ak (nl hg (bG BK442)); replace NB496_442 := ak (ng hg (bG BK442)); replace BK442 := bB BK442 hb; replace NB454_496 := ak (nl hg (bG BK454)); replace NB496_454 := ak (ng hg (bG BK454)); replace BK454 := bB BK454 hb; replace NB465_496 := ak (nl hg (bG BK465)); replace NB496_465 := ak (ng hg (bG BK465)); replace BK465 := bB BK465 hb; replace NB475_496 := ak (nl hg (bG BK475)); replace NB496_475 := ak (ng hg (bG BK475)); replace BK475 := bB BK475 hb; replace NB480_496 := ak (nl hg (bG BK480)); replace NB496_480 := ak (ng hg (bG BK480)); replace BK480 := bB BK480 hb; replace NB485_496 := ak (nl hg (bG BK485)); replace NB496_485 := ak (ng hg (bG BK485)); replace BK485 := bB BK485 hb; clear hb hbox hg; have hnb160 := NB496_442.out; have hnc160 := NB442_496.out; have hnb161 := NB496_454.out; have hnc161 := NB454_496.out; have hnb162 := NB496_465.out; have hnc162 := NB465_496.out; have hnb163 := NB496_475.out; have hnc163 := NB475_496.out; have hnb164 := NB496_480.out; have hnc164 := NB480_496.out; have hnb165 := NB496_485.out; have hnc165 := NB485_496.out; obtain ⟨hcz166_0, hcz166_1, hcz166_2, hcz166_3, hcz166_4, hcz166_5, hcz166_6, hcz166_7, hcz166_8, hfz166_0, hfz166_1, hfz166_2, hfz166_3, hfz166_4, hfz166_5, hfz166_6, hfz166_7, hfz166_8⟩ := bC9 BK496) | ((with_reducible refine gate_callee (f := 30) rfl ?_); refine gl (some 100) Try.func30 #[.slice A0 l0.length c0] ?_; (with_reducible refine (spec_DrawWordOk.calls kj10 _ _ l0 t497 _ ?side1 ?side2 A132.out).mono ?_); (case side1 => exact Kd.C_below HR0.out (lT HB (gC GE442 (gC GE454 (gC GE465 (gC GE475 (gC GE480 (gC GE485 (gC GE496 gN))))))))); (case side2 => exact HC0.out); rintro e w167 ⟨rfl, hb⟩; refine ⟨_, rfl, ?_⟩; replace BK442 := ak (blk_below (bT BK442 (nC NB442_496 nN)) hb); replace BK454 := ak (blk_below (bT BK454 (nC NB454_496 nN)) hb); replace BK465 := ak (blk_below (bT BK465 (nC NB465_496 nN)) hb); replace BK475 := ak (blk_below (bT BK475 (nC NB475_496 nN)) hb); replace BK480 := ak (blk_below (bT BK480 (nC NB480_496 nN)) hb); replace BK485 := ak (blk_below (bT BK485 (nC NB485_496 nN)) hb); replace BK496 := ak (blk_below (g := gb496) (o := .cells #[.int .i64 t486, .int .i64 t487, .int .i64 t488, .int .i64 t489, .int .i64 t490, .int .i64 t491, .string t492, .string t493, .string t494] 32 (0, 0)) (bW BK496) hb); replace HB := ak (below_step (lT HB (gC GE442 (gC GE454 (gC GE465 (gC GE475 (gC GE480 (gC GE485 (gC GE496 gN)))))))) hb); (try clear hb); (try clear hk); obtain ⟨hcz168_0, hcz168_1, hcz168_2, hcz168_3, hcz168_4, hcz168_5, hcz168_6, hcz168_7, hcz168_8, hfz168_0, hfz168_1, hfz168_2, hfz168_3, hfz168_4, hfz168_5, hfz168_6, hfz168_7, hfz168_8⟩ := bC9 BK496; obtain ⟨hcz169_0, hcz169_1, hcz169_2, hcz169_3, hcz169_4, hcz169_5, hcz169_6, hcz169_7, hcz169_8, hfz169_0, hfz169_1, hfz169_2, hfz169_3, hfz169_4, hfz169_5, hfz169_6, hfz169_7, hfz169_8⟩ := bC9 BK480; obtain ⟨hcz170_0, hcz170_1, hcz170_2, hfz170_0, hfz170_1, hfz170_2⟩ := bC3 BK485) | (go_at_call 31; (with_reducible refine (impl_WordOk.calls kj10 t497 t498 _ A138.out).mono ?_); rintro e w' ⟨rfl, ⟨nd, rfl⟩⟩) | (go_at_call 32; (with_reducible refine (spec_WordOk.calls kj10 t497 t499 _ A139.out).mono ?_); rintro e w' ⟨rfl, ⟨nd, rfl⟩⟩))
          go_ret
          exact ⟨ew, by exact lT HB (gC GE442 (gC GE454 (gC GE465 (gC GE475 (gC GE480 (gC GE485 (gC GE496 gN)))))))⟩
         ·rw [if_neg c137] at H
          have c137b0 : (t481 == 3) = false := beq_eq_false_iff_ne.mpr c137
          have c137b1 : (t481 != 3) = true := bne_iff_ne.mpr c137
          obtain rfl := Option.some.inj H
          have hnb171 := NB442_454.out
          have hnc171 := NB454_442.out
          have hnb172 := NB442_465.out
          have hnc172 := NB465_442.out
          have hnb173 := NB442_475.out
          have hnc173 := NB475_442.out
          obtain ⟨hcz174_0, hcz174_1, hcz174_2, hcz174_3, hcz174_4, hcz174_5, hcz174_6, hcz174_7, hfz174_0, hfz174_1, hfz174_2, hfz174_3, hfz174_4, hfz174_5, hfz174_6, hfz174_7⟩ := bC8 BK442
          go_wp2_with (first | ((with_reducible refine gate_dst (N := 15) rfl ?_); refine bx 15 #[.int .i64 0, .int .i64 0, .int .i64 0, .int .i64 0, .int .i64 0, .int .i64 0, .string (⟨#[]⟩ : ByteArray), .string (⟨#[]⟩ : ByteArray), .string (⟨#[]⟩ : ByteArray)] 32 ?_; intro gb480 hg w175 hbox hb; replace BK480 := ak (hbox); replace GW480 := ak (bz hg (lT HB (gC GE442 (gC GE454 (gC GE465 (gC GE475 gN)))))); replace GE480 := ak (bz hg (lT HB (gC GE442 (gC GE454 (gC GE465 (gC GE475 gN)))))); replace HB := ak (below_step (lT HB (gC GE442 (gC GE454 (gC GE465 (gC GE475 gN))))) hb); replace NB442_480 := ak (nl hg (bG BK442)); replace NB480_442 := ak (ng hg (bG BK442)); replace BK442 := bB BK442 hb; replace NB454_480 := ak (nl hg (bG BK454)); replace NB480_454 := ak (ng hg (bG BK454)); replace BK454 := bB BK454 hb; replace NB465_480 := ak (nl hg (bG BK465)); replace NB480_465 := ak (ng hg (bG BK465)); replace BK465 := bB BK465 hb; replace NB475_480 := ak (nl hg (bG BK475)); replace NB480_475 := ak (ng hg (bG BK475)); replace BK475 := bB BK475 hb; clear hb hbox hg; have hnb176 := NB480_442.out; have hnc176 := NB442_480.out; have hnb177 := NB480_454.out; have hnc177 := NB454_480.out; have hnb178 := NB480_465.out; have hnc178 := NB465_480.out; have hnb179 := NB480_475.out; have hnc179 := NB475_480.out; obtain ⟨hcz180_0, hcz180_1, hcz180_2, hcz180_3, hcz180_4, hcz180_5, hcz180_6, hcz180_7, hcz180_8, hfz180_0, hfz180_1, hfz180_2, hfz180_3, hfz180_4, hfz180_5, hfz180_6, hfz180_7, hfz180_8⟩ := bC9 BK480) | ((with_reducible refine gate_callee (f := 29) rfl ?_); refine gl (some 91) Try.func29 #[.agg #[.int .i64 7, .int .i64 t434, .int .i64 t435, .int .i64 t436, .int .i64 t437, .int .i64 t438, .string t439, .string t440, .string t441], .int .i64 3] ?_; (with_reducible refine (impl_ItemFrame.calls kj10 7 t434 t435 t436 t437 t438 t439 t440 t441 3 t481 t482 t483 t484 _ A130.out).mono ?_); rintro e w181 ⟨rfl, hb⟩; refine ⟨_, rfl, ?_⟩; replace BK442 := ak (blk_below (bT BK442 (nC NB442_480 nN)) hb); replace BK454 := ak (blk_below (bT BK454 (nC NB454_480 nN)) hb); replace BK465 := ak (blk_below (bT BK465 (nC NB465_480 nN)) hb); replace BK475 := ak (blk_below (bT BK475 (nC NB475_480 nN)) hb); replace BK480 := ak (blk_below (g := gb480) (o := .cells #[.int .i64 7, .int .i64 t434, .int .i64 t435, .int .i64 t436, .int .i64 t437, .int .i64 t438, .string t439, .string t440, .string t441] 32 (0, 0)) (bW BK480) hb); replace HB := ak (below_step (lT HB (gC GE442 (gC GE454 (gC GE465 (gC GE475 (gC GE480 gN)))))) hb); (try clear hb); (try clear hk)) | ((with_reducible refine gate_dst (N := 16) rfl ?_); refine bx 16 #[.int .i64 0, .int .i64 0, .string (⟨#[]⟩ : ByteArray)] 35 ?_; intro gb485 hg w182 hbox hb; replace BK485 := ak (hbox); replace GW485 := ak (bz hg (lT HB (gC GE442 (gC GE454 (gC GE465 (gC GE475 (gC GE480 gN))))))); replace GE485 := ak (bz hg (lT HB (gC GE442 (gC GE454 (gC GE465 (gC GE475 (gC GE480 gN))))))); replace HB := ak (below_step (lT HB (gC GE442 (gC GE454 (gC GE465 (gC GE475 (gC GE480 gN)))))) hb); replace NB442_485 := ak (nl hg (bG BK442)); replace NB485_442 := ak (ng hg (bG BK442)); replace BK442 := bB BK442 hb; replace NB454_485 := ak (nl hg (bG BK454)); replace NB485_454 := ak (ng hg (bG BK454)); replace BK454 := bB BK454 hb; replace NB465_485 := ak (nl hg (bG BK465)); replace NB485_465 := ak (ng hg (bG BK465)); replace BK465 := bB BK465 hb; replace NB475_485 := ak (nl hg (bG BK475)); replace NB485_475 := ak (ng hg (bG BK475)); replace BK475 := bB BK475 hb; replace NB480_485 := ak (nl hg (bG BK480)); replace NB485_480 := ak (ng hg (bG BK480)); replace BK480 := bB BK480 hb; clear hb hbox hg; have hnb183 := NB485_442.out; have hnc183 := NB442_485.out; have hnb184 := NB485_454.out; have hnc184 := NB454_485.out; have hnb185 := NB485_465.out; have hnc185 := NB465_485.out; have hnb186 := NB485_475.out; have hnc186 := NB475_485.out; have hnb187 := NB485_480.out; have hnc187 := NB480_485.out; obtain ⟨hcz188_0, hcz188_1, hcz188_2, hfz188_0, hfz188_1, hfz188_2⟩ := bC3 BK485) | ((with_reducible refine gate_callee (f := 16) rfl ?_); refine gl (some 96) Try.func16 #[.agg #[.int .i64 t481, .int .i64 t482, .string t483]] ?_; (with_reducible refine (impl_FrameItem.calls kj10 t481 t482 t483 t486 t487 t488 t489 t490 t491 t492 t493 t494 true _ A131.out).mono ?_); rintro e w189 ⟨rfl, hb⟩; refine ⟨_, rfl, ?_⟩; replace BK442 := ak (blk_below (bT BK442 (nC NB442_485 nN)) hb); replace BK454 := ak (blk_below (bT BK454 (nC NB454_485 nN)) hb); replace BK465 := ak (blk_below (bT BK465 (nC NB465_485 nN)) hb); replace BK475 := ak (blk_below (bT BK475 (nC NB475_485 nN)) hb); replace BK480 := ak (blk_below (bT BK480 (nC NB480_485 nN)) hb); replace BK485 := ak (blk_below (g := gb485) (o := .cells #[.int .i64 t481, .int .i64 t482, .string t483] 35 (0, 0)) (bW BK485) hb); replace HB := ak (below_step (lT HB (gC GE442 (gC GE454 (gC GE465 (gC GE475 (gC GE480 (gC GE485 gN))))))) hb); (try clear hb); (try clear hk)) | ((with_reducible refine gate_dst (N := 18) rfl ?_); refine bx 18 #[.int .i64 0, .int .i64 0, .int .i64 0, .int .i64 0, .int .i64 0, .int .i64 0, .string (⟨#[]⟩ : ByteArray), .string (⟨#[]⟩ : ByteArray), .string (⟨#[]⟩ : ByteArray)] 32 ?_; intro gb496 hg w190 hbox hb; replace BK496 := ak (hbox); replace GW496 := ak (bz hg (lT HB (gC GE442 (gC GE454 (gC GE465 (gC GE475 (gC GE480 (gC GE485 gN)))))))); replace GE496 := ak (bz hg (lT HB (gC GE442 (gC GE454 (gC GE465 (gC GE475 (gC GE480 (gC GE485 gN)))))))); replace HB := ak (below_step (lT HB (gC GE442 (gC GE454 (gC GE465 (gC GE475 (gC GE480 (gC GE485 gN))))))) hb); replace NB442_496 := ak (nl hg (bG BK442)); replace NB496_442 := ak (ng hg (bG BK442)); replace BK442 := bB BK442 hb; replace NB454_496 := ak (nl hg (bG BK454)); replace NB496_454 := ak (ng hg (bG BK454)); replace BK454 := bB BK454 hb; replace NB465_496 := ak (nl hg (bG BK465)); replace NB496_465 := ak (ng hg (bG BK465)); replace BK465 := bB BK465 hb; replace NB475_496 := ak (nl hg (bG BK475)); replace NB496_475 := ak (ng hg (bG BK475)); replace BK475 := bB BK475 hb; replace NB480_496 := ak (nl hg (bG BK480)); replace NB496_480 := ak (ng hg (bG BK480)); replace BK480 := bB BK480 hb; replace NB485_496 := ak (nl hg (bG BK485)); replace NB496_485 := ak (ng hg (bG BK485)); replace BK485 := bB BK485 hb; clear hb hbox hg; have hnb191 := NB496_442.out; have hnc191 := NB442_496.out; have hnb192 := NB496_454.out; have hnc192 := NB454_496.out; have hnb193 := NB496_465.out; have hnc193 := NB465_496.out; have hnb194 := NB496_475.out; have hnc194 := NB475_496.out; have hnb195 := NB496_480.out; have hnc195 := NB480_496.out; have hnb196 := NB496_485.out; have hnc196 := NB485_496.out; obtain ⟨hcz197_0, hcz197_1, hcz197_2, hcz197_3, hcz197_4, hcz197_5, hcz197_6, hcz197_7, hcz197_8, hfz197_0, hfz197_1, hfz197_2, hfz197_3, hfz197_4, hfz197_5, hfz197_6, hfz197_7, hfz197_8⟩ := bC9 BK496) | ((with_reducible refine gate_callee (f := 30) rfl ?_); refine gl (some 100) Try.func30 #[.slice A0 l0.length c0] ?_; (with_reducible refine (spec_DrawWordOk.calls kj10 _ _ l0 t497 _ ?side1 ?side2 A132.out).mono ?_); (case side1 => exact Kd.C_below HR0.out (lT HB (gC GE442 (gC GE454 (gC GE465 (gC GE475 (gC GE480 (gC GE485 (gC GE496 gN))))))))); (case side2 => exact HC0.out); rintro e w198 ⟨rfl, hb⟩; refine ⟨_, rfl, ?_⟩; replace BK442 := ak (blk_below (bT BK442 (nC NB442_496 nN)) hb); replace BK454 := ak (blk_below (bT BK454 (nC NB454_496 nN)) hb); replace BK465 := ak (blk_below (bT BK465 (nC NB465_496 nN)) hb); replace BK475 := ak (blk_below (bT BK475 (nC NB475_496 nN)) hb); replace BK480 := ak (blk_below (bT BK480 (nC NB480_496 nN)) hb); replace BK485 := ak (blk_below (bT BK485 (nC NB485_496 nN)) hb); replace BK496 := ak (blk_below (g := gb496) (o := .cells #[.int .i64 t486, .int .i64 t487, .int .i64 t488, .int .i64 t489, .int .i64 t490, .int .i64 t491, .string t492, .string t493, .string t494] 32 (0, 0)) (bW BK496) hb); replace HB := ak (below_step (lT HB (gC GE442 (gC GE454 (gC GE465 (gC GE475 (gC GE480 (gC GE485 (gC GE496 gN)))))))) hb); (try clear hb); (try clear hk); obtain ⟨hcz199_0, hcz199_1, hcz199_2, hcz199_3, hcz199_4, hcz199_5, hcz199_6, hcz199_7, hcz199_8, hfz199_0, hfz199_1, hfz199_2, hfz199_3, hfz199_4, hfz199_5, hfz199_6, hfz199_7, hfz199_8⟩ := bC9 BK496; obtain ⟨hcz200_0, hcz200_1, hcz200_2, hcz200_3, hcz200_4, hcz200_5, hcz200_6, hcz200_7, hcz200_8, hfz200_0, hfz200_1, hfz200_2, hfz200_3, hfz200_4, hfz200_5, hfz200_6, hfz200_7, hfz200_8⟩ := bC9 BK480; obtain ⟨hcz201_0, hcz201_1, hcz201_2, hfz201_0, hfz201_1, hfz201_2⟩ := bC3 BK485))
          go_ret
          exact ⟨ew, by exact lT HB (gC GE442 (gC GE454 (gC GE465 (gC GE475 (gC GE480 (gC GE485 (gC GE496 gN)))))))⟩
        ·rw [if_neg c136] at H
         have c136b0 : (t486 == 7 && ((t487 == t434 && (t488 == t435 && (t489 == t436 && (t490 == t437 && (t491 == t438 && (t492.toList == t439.toList && (t493.toList == t440.toList && (t494.toList == t441.toList)))))))))) = false := by simpa using c136
         (try (have c136b1 : decide (t486 = 7 && ((t487 == t434 && (t488 == t435 && (t489 == t436 && (t490 == t437 && (t491 == t438 && (t492.toList == t439.toList && (t493.toList == t440.toList && (t494.toList == t441.toList)))))))))) = false := by simpa using c136))
         (try (have c136b2 : (t486 == 7 && ((t487 == t434 && (t488 == t435 && (t489 == t436 && (t490 == t437 && (t491 == t438 && (t492.toList == t439.toList && (t493.toList == t440.toList && (t494.toList == t441.toList)))))))))) = false := by simpa using c136))
         (try (have c136b3 : ¬ (t486 = 7 && ((t487 == t434 && (t488 == t435 && (t489 == t436 && (t490 == t437 && (t491 == t438 && (t492.toList == t439.toList && (t493.toList == t440.toList && (t494.toList == t441.toList)))))))))) := by simpa using c136))
         clear c136
         obtain rfl := Option.some.inj H
         have hnb202 := NB442_454.out
         have hnc202 := NB454_442.out
         have hnb203 := NB442_465.out
         have hnc203 := NB465_442.out
         have hnb204 := NB442_475.out
         have hnc204 := NB475_442.out
         obtain ⟨hcz205_0, hcz205_1, hcz205_2, hcz205_3, hcz205_4, hcz205_5, hcz205_6, hcz205_7, hfz205_0, hfz205_1, hfz205_2, hfz205_3, hfz205_4, hfz205_5, hfz205_6, hfz205_7⟩ := bC8 BK442
         go_wp2_with (first | ((with_reducible refine gate_dst (N := 15) rfl ?_); refine bx 15 #[.int .i64 0, .int .i64 0, .int .i64 0, .int .i64 0, .int .i64 0, .int .i64 0, .string (⟨#[]⟩ : ByteArray), .string (⟨#[]⟩ : ByteArray), .string (⟨#[]⟩ : ByteArray)] 32 ?_; intro gb480 hg w206 hbox hb; replace BK480 := ak (hbox); replace GW480 := ak (bz hg (lT HB (gC GE442 (gC GE454 (gC GE465 (gC GE475 gN)))))); replace GE480 := ak (bz hg (lT HB (gC GE442 (gC GE454 (gC GE465 (gC GE475 gN)))))); replace HB := ak (below_step (lT HB (gC GE442 (gC GE454 (gC GE465 (gC GE475 gN))))) hb); replace NB442_480 := ak (nl hg (bG BK442)); replace NB480_442 := ak (ng hg (bG BK442)); replace BK442 := bB BK442 hb; replace NB454_480 := ak (nl hg (bG BK454)); replace NB480_454 := ak (ng hg (bG BK454)); replace BK454 := bB BK454 hb; replace NB465_480 := ak (nl hg (bG BK465)); replace NB480_465 := ak (ng hg (bG BK465)); replace BK465 := bB BK465 hb; replace NB475_480 := ak (nl hg (bG BK475)); replace NB480_475 := ak (ng hg (bG BK475)); replace BK475 := bB BK475 hb; clear hb hbox hg; have hnb207 := NB480_442.out; have hnc207 := NB442_480.out; have hnb208 := NB480_454.out; have hnc208 := NB454_480.out; have hnb209 := NB480_465.out; have hnc209 := NB465_480.out; have hnb210 := NB480_475.out; have hnc210 := NB475_480.out; obtain ⟨hcz211_0, hcz211_1, hcz211_2, hcz211_3, hcz211_4, hcz211_5, hcz211_6, hcz211_7, hcz211_8, hfz211_0, hfz211_1, hfz211_2, hfz211_3, hfz211_4, hfz211_5, hfz211_6, hfz211_7, hfz211_8⟩ := bC9 BK480) | ((with_reducible refine gate_callee (f := 29) rfl ?_); refine gl (some 91) Try.func29 #[.agg #[.int .i64 7, .int .i64 t434, .int .i64 t435, .int .i64 t436, .int .i64 t437, .int .i64 t438, .string t439, .string t440, .string t441], .int .i64 3] ?_; (with_reducible refine (impl_ItemFrame.calls kj10 7 t434 t435 t436 t437 t438 t439 t440 t441 3 t481 t482 t483 t484 _ A130.out).mono ?_); rintro e w212 ⟨rfl, hb⟩; refine ⟨_, rfl, ?_⟩; replace BK442 := ak (blk_below (bT BK442 (nC NB442_480 nN)) hb); replace BK454 := ak (blk_below (bT BK454 (nC NB454_480 nN)) hb); replace BK465 := ak (blk_below (bT BK465 (nC NB465_480 nN)) hb); replace BK475 := ak (blk_below (bT BK475 (nC NB475_480 nN)) hb); replace BK480 := ak (blk_below (g := gb480) (o := .cells #[.int .i64 7, .int .i64 t434, .int .i64 t435, .int .i64 t436, .int .i64 t437, .int .i64 t438, .string t439, .string t440, .string t441] 32 (0, 0)) (bW BK480) hb); replace HB := ak (below_step (lT HB (gC GE442 (gC GE454 (gC GE465 (gC GE475 (gC GE480 gN)))))) hb); (try clear hb); (try clear hk)) | ((with_reducible refine gate_dst (N := 16) rfl ?_); refine bx 16 #[.int .i64 0, .int .i64 0, .string (⟨#[]⟩ : ByteArray)] 35 ?_; intro gb485 hg w213 hbox hb; replace BK485 := ak (hbox); replace GW485 := ak (bz hg (lT HB (gC GE442 (gC GE454 (gC GE465 (gC GE475 (gC GE480 gN))))))); replace GE485 := ak (bz hg (lT HB (gC GE442 (gC GE454 (gC GE465 (gC GE475 (gC GE480 gN))))))); replace HB := ak (below_step (lT HB (gC GE442 (gC GE454 (gC GE465 (gC GE475 (gC GE480 gN)))))) hb); replace NB442_485 := ak (nl hg (bG BK442)); replace NB485_442 := ak (ng hg (bG BK442)); replace BK442 := bB BK442 hb; replace NB454_485 := ak (nl hg (bG BK454)); replace NB485_454 := ak (ng hg (bG BK454)); replace BK454 := bB BK454 hb; replace NB465_485 := ak (nl hg (bG BK465)); replace NB485_465 := ak (ng hg (bG BK465)); replace BK465 := bB BK465 hb; replace NB475_485 := ak (nl hg (bG BK475)); replace NB485_475 := ak (ng hg (bG BK475)); replace BK475 := bB BK475 hb; replace NB480_485 := ak (nl hg (bG BK480)); replace NB485_480 := ak (ng hg (bG BK480)); replace BK480 := bB BK480 hb; clear hb hbox hg; have hnb214 := NB485_442.out; have hnc214 := NB442_485.out; have hnb215 := NB485_454.out; have hnc215 := NB454_485.out; have hnb216 := NB485_465.out; have hnc216 := NB465_485.out; have hnb217 := NB485_475.out; have hnc217 := NB475_485.out; have hnb218 := NB485_480.out; have hnc218 := NB480_485.out; obtain ⟨hcz219_0, hcz219_1, hcz219_2, hfz219_0, hfz219_1, hfz219_2⟩ := bC3 BK485) | ((with_reducible refine gate_callee (f := 16) rfl ?_); refine gl (some 96) Try.func16 #[.agg #[.int .i64 t481, .int .i64 t482, .string t483]] ?_; (with_reducible refine (impl_FrameItem.calls kj10 t481 t482 t483 t486 t487 t488 t489 t490 t491 t492 t493 t494 true _ A131.out).mono ?_); rintro e w220 ⟨rfl, hb⟩; refine ⟨_, rfl, ?_⟩; replace BK442 := ak (blk_below (bT BK442 (nC NB442_485 nN)) hb); replace BK454 := ak (blk_below (bT BK454 (nC NB454_485 nN)) hb); replace BK465 := ak (blk_below (bT BK465 (nC NB465_485 nN)) hb); replace BK475 := ak (blk_below (bT BK475 (nC NB475_485 nN)) hb); replace BK480 := ak (blk_below (bT BK480 (nC NB480_485 nN)) hb); replace BK485 := ak (blk_below (g := gb485) (o := .cells #[.int .i64 t481, .int .i64 t482, .string t483] 35 (0, 0)) (bW BK485) hb); replace HB := ak (below_step (lT HB (gC GE442 (gC GE454 (gC GE465 (gC GE475 (gC GE480 (gC GE485 gN))))))) hb); (try clear hb); (try clear hk)) | ((with_reducible refine gate_dst (N := 18) rfl ?_); refine bx 18 #[.int .i64 0, .int .i64 0, .int .i64 0, .int .i64 0, .int .i64 0, .int .i64 0, .string (⟨#[]⟩ : ByteArray), .string (⟨#[]⟩ : ByteArray), .string (⟨#[]⟩ : ByteArray)] 32 ?_; intro gb496 hg w221 hbox hb; replace BK496 := ak (hbox); replace GW496 := ak (bz hg (lT HB (gC GE442 (gC GE454 (gC GE465 (gC GE475 (gC GE480 (gC GE485 gN)))))))); replace GE496 := ak (bz hg (lT HB (gC GE442 (gC GE454 (gC GE465 (gC GE475 (gC GE480 (gC GE485 gN)))))))); replace HB := ak (below_step (lT HB (gC GE442 (gC GE454 (gC GE465 (gC GE475 (gC GE480 (gC GE485 gN))))))) hb); replace NB442_496 := ak (nl hg (bG BK442)); replace NB496_442 := ak (ng hg (bG BK442)); replace BK442 := bB BK442 hb; replace NB454_496 := ak (nl hg (bG BK454)); replace NB496_454 := ak (ng hg (bG BK454)); replace BK454 := bB BK454 hb; replace NB465_496 := ak (nl hg (bG BK465)); replace NB496_465 := ak (ng hg (bG BK465)); replace BK465 := bB BK465 hb; replace NB475_496 := ak (nl hg (bG BK475)); replace NB496_475 := ak (ng hg (bG BK475)); replace BK475 := bB BK475 hb; replace NB480_496 := ak (nl hg (bG BK480)); replace NB496_480 := ak (ng hg (bG BK480)); replace BK480 := bB BK480 hb; replace NB485_496 := ak (nl hg (bG BK485)); replace NB496_485 := ak (ng hg (bG BK485)); replace BK485 := bB BK485 hb; clear hb hbox hg; have hnb222 := NB496_442.out; have hnc222 := NB442_496.out; have hnb223 := NB496_454.out; have hnc223 := NB454_496.out; have hnb224 := NB496_465.out; have hnc224 := NB465_496.out; have hnb225 := NB496_475.out; have hnc225 := NB475_496.out; have hnb226 := NB496_480.out; have hnc226 := NB480_496.out; have hnb227 := NB496_485.out; have hnc227 := NB485_496.out; obtain ⟨hcz228_0, hcz228_1, hcz228_2, hcz228_3, hcz228_4, hcz228_5, hcz228_6, hcz228_7, hcz228_8, hfz228_0, hfz228_1, hfz228_2, hfz228_3, hfz228_4, hfz228_5, hfz228_6, hfz228_7, hfz228_8⟩ := bC9 BK496) | ((with_reducible refine gate_callee (f := 30) rfl ?_); refine gl (some 100) Try.func30 #[.slice A0 l0.length c0] ?_; (with_reducible refine (spec_DrawWordOk.calls kj10 _ _ l0 t497 _ ?side1 ?side2 A132.out).mono ?_); (case side1 => exact Kd.C_below HR0.out (lT HB (gC GE442 (gC GE454 (gC GE465 (gC GE475 (gC GE480 (gC GE485 (gC GE496 gN))))))))); (case side2 => exact HC0.out); rintro e w229 ⟨rfl, hb⟩; refine ⟨_, rfl, ?_⟩; replace BK442 := ak (blk_below (bT BK442 (nC NB442_496 nN)) hb); replace BK454 := ak (blk_below (bT BK454 (nC NB454_496 nN)) hb); replace BK465 := ak (blk_below (bT BK465 (nC NB465_496 nN)) hb); replace BK475 := ak (blk_below (bT BK475 (nC NB475_496 nN)) hb); replace BK480 := ak (blk_below (bT BK480 (nC NB480_496 nN)) hb); replace BK485 := ak (blk_below (bT BK485 (nC NB485_496 nN)) hb); replace BK496 := ak (blk_below (g := gb496) (o := .cells #[.int .i64 t486, .int .i64 t487, .int .i64 t488, .int .i64 t489, .int .i64 t490, .int .i64 t491, .string t492, .string t493, .string t494] 32 (0, 0)) (bW BK496) hb); replace HB := ak (below_step (lT HB (gC GE442 (gC GE454 (gC GE465 (gC GE475 (gC GE480 (gC GE485 (gC GE496 gN)))))))) hb); (try clear hb); (try clear hk); obtain ⟨hcz230_0, hcz230_1, hcz230_2, hcz230_3, hcz230_4, hcz230_5, hcz230_6, hcz230_7, hcz230_8, hfz230_0, hfz230_1, hfz230_2, hfz230_3, hfz230_4, hfz230_5, hfz230_6, hfz230_7, hfz230_8⟩ := bC9 BK496; obtain ⟨hcz231_0, hcz231_1, hcz231_2, hcz231_3, hcz231_4, hcz231_5, hcz231_6, hcz231_7, hcz231_8, hfz231_0, hfz231_1, hfz231_2, hfz231_3, hfz231_4, hfz231_5, hfz231_6, hfz231_7, hfz231_8⟩ := bC9 BK480))
         go_ret
         exact ⟨ew, by exact lT HB (gC GE442 (gC GE454 (gC GE465 (gC GE475 (gC GE480 (gC GE485 (gC GE496 gN)))))))⟩
       ·replace c135 := Bool.eq_false_iff.mpr c135
        subst c135
        have H1 : (some false) = some r := by rw [if_neg (show ¬ (false = true) by decide)] at H; exact H
        clear H
        have H := H1
        clear H1
        obtain rfl := Option.some.inj H
        have hnb232 := NB442_454.out
        have hnc232 := NB454_442.out
        have hnb233 := NB442_465.out
        have hnc233 := NB465_442.out
        have hnb234 := NB442_475.out
        have hnc234 := NB475_442.out
        obtain ⟨hcz235_0, hcz235_1, hcz235_2, hcz235_3, hcz235_4, hcz235_5, hcz235_6, hcz235_7, hfz235_0, hfz235_1, hfz235_2, hfz235_3, hfz235_4, hfz235_5, hfz235_6, hfz235_7⟩ := bC8 BK442
        go_wp2_with (first | ((with_reducible refine gate_dst (N := 15) rfl ?_); refine bx 15 #[.int .i64 0, .int .i64 0, .int .i64 0, .int .i64 0, .int .i64 0, .int .i64 0, .string (⟨#[]⟩ : ByteArray), .string (⟨#[]⟩ : ByteArray), .string (⟨#[]⟩ : ByteArray)] 32 ?_; intro gb480 hg w236 hbox hb; replace BK480 := ak (hbox); replace GW480 := ak (bz hg (lT HB (gC GE442 (gC GE454 (gC GE465 (gC GE475 gN)))))); replace GE480 := ak (bz hg (lT HB (gC GE442 (gC GE454 (gC GE465 (gC GE475 gN)))))); replace HB := ak (below_step (lT HB (gC GE442 (gC GE454 (gC GE465 (gC GE475 gN))))) hb); replace NB442_480 := ak (nl hg (bG BK442)); replace NB480_442 := ak (ng hg (bG BK442)); replace BK442 := bB BK442 hb; replace NB454_480 := ak (nl hg (bG BK454)); replace NB480_454 := ak (ng hg (bG BK454)); replace BK454 := bB BK454 hb; replace NB465_480 := ak (nl hg (bG BK465)); replace NB480_465 := ak (ng hg (bG BK465)); replace BK465 := bB BK465 hb; replace NB475_480 := ak (nl hg (bG BK475)); replace NB480_475 := ak (ng hg (bG BK475)); replace BK475 := bB BK475 hb; clear hb hbox hg; have hnb237 := NB480_442.out; have hnc237 := NB442_480.out; have hnb238 := NB480_454.out; have hnc238 := NB454_480.out; have hnb239 := NB480_465.out; have hnc239 := NB465_480.out; have hnb240 := NB480_475.out; have hnc240 := NB475_480.out; obtain ⟨hcz241_0, hcz241_1, hcz241_2, hcz241_3, hcz241_4, hcz241_5, hcz241_6, hcz241_7, hcz241_8, hfz241_0, hfz241_1, hfz241_2, hfz241_3, hfz241_4, hfz241_5, hfz241_6, hfz241_7, hfz241_8⟩ := bC9 BK480) | ((with_reducible refine gate_callee (f := 29) rfl ?_); refine gl (some 91) Try.func29 #[.agg #[.int .i64 7, .int .i64 t434, .int .i64 t435, .int .i64 t436, .int .i64 t437, .int .i64 t438, .string t439, .string t440, .string t441], .int .i64 3] ?_; (with_reducible refine (impl_ItemFrame.calls kj10 7 t434 t435 t436 t437 t438 t439 t440 t441 3 t481 t482 t483 t484 _ A130.out).mono ?_); rintro e w242 ⟨rfl, hb⟩; refine ⟨_, rfl, ?_⟩; replace BK442 := ak (blk_below (bT BK442 (nC NB442_480 nN)) hb); replace BK454 := ak (blk_below (bT BK454 (nC NB454_480 nN)) hb); replace BK465 := ak (blk_below (bT BK465 (nC NB465_480 nN)) hb); replace BK475 := ak (blk_below (bT BK475 (nC NB475_480 nN)) hb); replace BK480 := ak (blk_below (g := gb480) (o := .cells #[.int .i64 7, .int .i64 t434, .int .i64 t435, .int .i64 t436, .int .i64 t437, .int .i64 t438, .string t439, .string t440, .string t441] 32 (0, 0)) (bW BK480) hb); replace HB := ak (below_step (lT HB (gC GE442 (gC GE454 (gC GE465 (gC GE475 (gC GE480 gN)))))) hb); (try clear hb); (try clear hk)) | ((with_reducible refine gate_dst (N := 16) rfl ?_); refine bx 16 #[.int .i64 0, .int .i64 0, .string (⟨#[]⟩ : ByteArray)] 35 ?_; intro gb485 hg w243 hbox hb; replace BK485 := ak (hbox); replace GW485 := ak (bz hg (lT HB (gC GE442 (gC GE454 (gC GE465 (gC GE475 (gC GE480 gN))))))); replace GE485 := ak (bz hg (lT HB (gC GE442 (gC GE454 (gC GE465 (gC GE475 (gC GE480 gN))))))); replace HB := ak (below_step (lT HB (gC GE442 (gC GE454 (gC GE465 (gC GE475 (gC GE480 gN)))))) hb); replace NB442_485 := ak (nl hg (bG BK442)); replace NB485_442 := ak (ng hg (bG BK442)); replace BK442 := bB BK442 hb; replace NB454_485 := ak (nl hg (bG BK454)); replace NB485_454 := ak (ng hg (bG BK454)); replace BK454 := bB BK454 hb; replace NB465_485 := ak (nl hg (bG BK465)); replace NB485_465 := ak (ng hg (bG BK465)); replace BK465 := bB BK465 hb; replace NB475_485 := ak (nl hg (bG BK475)); replace NB485_475 := ak (ng hg (bG BK475)); replace BK475 := bB BK475 hb; replace NB480_485 := ak (nl hg (bG BK480)); replace NB485_480 := ak (ng hg (bG BK480)); replace BK480 := bB BK480 hb; clear hb hbox hg; have hnb244 := NB485_442.out; have hnc244 := NB442_485.out; have hnb245 := NB485_454.out; have hnc245 := NB454_485.out; have hnb246 := NB485_465.out; have hnc246 := NB465_485.out; have hnb247 := NB485_475.out; have hnc247 := NB475_485.out; have hnb248 := NB485_480.out; have hnc248 := NB480_485.out; obtain ⟨hcz249_0, hcz249_1, hcz249_2, hfz249_0, hfz249_1, hfz249_2⟩ := bC3 BK485) | ((with_reducible refine gate_callee (f := 16) rfl ?_); refine gl (some 96) Try.func16 #[.agg #[.int .i64 t481, .int .i64 t482, .string t483]] ?_; (with_reducible refine (impl_FrameItem.calls kj10 t481 t482 t483 t486 t487 t488 t489 t490 t491 t492 t493 t494 false _ A131.out).mono ?_); rintro e w250 ⟨rfl, hb⟩; refine ⟨_, rfl, ?_⟩; replace BK442 := ak (blk_below (bT BK442 (nC NB442_485 nN)) hb); replace BK454 := ak (blk_below (bT BK454 (nC NB454_485 nN)) hb); replace BK465 := ak (blk_below (bT BK465 (nC NB465_485 nN)) hb); replace BK475 := ak (blk_below (bT BK475 (nC NB475_485 nN)) hb); replace BK480 := ak (blk_below (bT BK480 (nC NB480_485 nN)) hb); replace BK485 := ak (blk_below (g := gb485) (o := .cells #[.int .i64 t481, .int .i64 t482, .string t483] 35 (0, 0)) (bW BK485) hb); replace HB := ak (below_step (lT HB (gC GE442 (gC GE454 (gC GE465 (gC GE475 (gC GE480 (gC GE485 gN))))))) hb); (try clear hb); (try clear hk)) | ((with_reducible refine gate_dst (N := 18) rfl ?_); refine bx 18 #[.int .i64 0, .int .i64 0, .int .i64 0, .int .i64 0, .int .i64 0, .int .i64 0, .string (⟨#[]⟩ : ByteArray), .string (⟨#[]⟩ : ByteArray), .string (⟨#[]⟩ : ByteArray)] 32 ?_; intro gb496 hg w251 hbox hb; replace BK496 := ak (hbox); replace GW496 := ak (bz hg (lT HB (gC GE442 (gC GE454 (gC GE465 (gC GE475 (gC GE480 (gC GE485 gN)))))))); replace GE496 := ak (bz hg (lT HB (gC GE442 (gC GE454 (gC GE465 (gC GE475 (gC GE480 (gC GE485 gN)))))))); replace HB := ak (below_step (lT HB (gC GE442 (gC GE454 (gC GE465 (gC GE475 (gC GE480 (gC GE485 gN))))))) hb); replace NB442_496 := ak (nl hg (bG BK442)); replace NB496_442 := ak (ng hg (bG BK442)); replace BK442 := bB BK442 hb; replace NB454_496 := ak (nl hg (bG BK454)); replace NB496_454 := ak (ng hg (bG BK454)); replace BK454 := bB BK454 hb; replace NB465_496 := ak (nl hg (bG BK465)); replace NB496_465 := ak (ng hg (bG BK465)); replace BK465 := bB BK465 hb; replace NB475_496 := ak (nl hg (bG BK475)); replace NB496_475 := ak (ng hg (bG BK475)); replace BK475 := bB BK475 hb; replace NB480_496 := ak (nl hg (bG BK480)); replace NB496_480 := ak (ng hg (bG BK480)); replace BK480 := bB BK480 hb; replace NB485_496 := ak (nl hg (bG BK485)); replace NB496_485 := ak (ng hg (bG BK485)); replace BK485 := bB BK485 hb; clear hb hbox hg; have hnb252 := NB496_442.out; have hnc252 := NB442_496.out; have hnb253 := NB496_454.out; have hnc253 := NB454_496.out; have hnb254 := NB496_465.out; have hnc254 := NB465_496.out; have hnb255 := NB496_475.out; have hnc255 := NB475_496.out; have hnb256 := NB496_480.out; have hnc256 := NB480_496.out; have hnb257 := NB496_485.out; have hnc257 := NB485_496.out; obtain ⟨hcz258_0, hcz258_1, hcz258_2, hcz258_3, hcz258_4, hcz258_5, hcz258_6, hcz258_7, hcz258_8, hfz258_0, hfz258_1, hfz258_2, hfz258_3, hfz258_4, hfz258_5, hfz258_6, hfz258_7, hfz258_8⟩ := bC9 BK496) | ((with_reducible refine gate_callee (f := 30) rfl ?_); refine gl (some 100) Try.func30 #[.slice A0 l0.length c0] ?_; (with_reducible refine (spec_DrawWordOk.calls kj10 _ _ l0 t497 _ ?side1 ?side2 A132.out).mono ?_); (case side1 => exact Kd.C_below HR0.out (lT HB (gC GE442 (gC GE454 (gC GE465 (gC GE475 (gC GE480 (gC GE485 (gC GE496 gN))))))))); (case side2 => exact HC0.out); rintro e w259 ⟨rfl, hb⟩; refine ⟨_, rfl, ?_⟩; replace BK442 := ak (blk_below (bT BK442 (nC NB442_496 nN)) hb); replace BK454 := ak (blk_below (bT BK454 (nC NB454_496 nN)) hb); replace BK465 := ak (blk_below (bT BK465 (nC NB465_496 nN)) hb); replace BK475 := ak (blk_below (bT BK475 (nC NB475_496 nN)) hb); replace BK480 := ak (blk_below (bT BK480 (nC NB480_496 nN)) hb); replace BK485 := ak (blk_below (bT BK485 (nC NB485_496 nN)) hb); replace BK496 := ak (blk_below (g := gb496) (o := .cells #[.int .i64 t486, .int .i64 t487, .int .i64 t488, .int .i64 t489, .int .i64 t490, .int .i64 t491, .string t492, .string t493, .string t494] 32 (0, 0)) (bW BK496) hb); replace HB := ak (below_step (lT HB (gC GE442 (gC GE454 (gC GE465 (gC GE475 (gC GE480 (gC GE485 (gC GE496 gN)))))))) hb); (try clear hb); (try clear hk)))
        go_ret
        exact ⟨ew, by exact lT HB (gC GE442 (gC GE454 (gC GE465 (gC GE475 (gC GE480 (gC GE485 (gC GE496 gN)))))))⟩
      ·replace c134 := Bool.eq_false_iff.mpr c134
       subst c134
       have H1 : ((impl_WordOk.f kj10 t497).bind fun t500 => ((spec_WordOk.f kj10 t497).bind fun t501 => (some (t500 == t501)))) = some r := by rw [if_neg (show ¬ (false = true) by decide)] at H; exact H
       clear H
       have H := H1
       clear H1
       replace H := Option.bind_eq_some_iff.mp H
       obtain ⟨t500, A2600, H⟩ := H
       replace H : ((spec_WordOk.f kj10 t497).bind fun t501 => (some (t500 == t501))) = some r := H
       have A260 := Aside0.mk A2600
       clear A2600
       replace H := Option.bind_eq_some_iff.mp H
       obtain ⟨t501, A2610, H⟩ := H
       replace H : (some (t500 == t501)) = some r := H
       have A261 := Aside0.mk A2610
       clear A2610
       obtain rfl := Option.some.inj H
       have hnb262 := NB442_454.out
       have hnc262 := NB454_442.out
       have hnb263 := NB442_465.out
       have hnc263 := NB465_442.out
       have hnb264 := NB442_475.out
       have hnc264 := NB475_442.out
       obtain ⟨hcz265_0, hcz265_1, hcz265_2, hcz265_3, hcz265_4, hcz265_5, hcz265_6, hcz265_7, hfz265_0, hfz265_1, hfz265_2, hfz265_3, hfz265_4, hfz265_5, hfz265_6, hfz265_7⟩ := bC8 BK442
       go_wp2_with (first | ((with_reducible refine gate_dst (N := 15) rfl ?_); refine bx 15 #[.int .i64 0, .int .i64 0, .int .i64 0, .int .i64 0, .int .i64 0, .int .i64 0, .string (⟨#[]⟩ : ByteArray), .string (⟨#[]⟩ : ByteArray), .string (⟨#[]⟩ : ByteArray)] 32 ?_; intro gb480 hg w266 hbox hb; replace BK480 := ak (hbox); replace GW480 := ak (bz hg (lT HB (gC GE442 (gC GE454 (gC GE465 (gC GE475 gN)))))); replace GE480 := ak (bz hg (lT HB (gC GE442 (gC GE454 (gC GE465 (gC GE475 gN)))))); replace HB := ak (below_step (lT HB (gC GE442 (gC GE454 (gC GE465 (gC GE475 gN))))) hb); replace NB442_480 := ak (nl hg (bG BK442)); replace NB480_442 := ak (ng hg (bG BK442)); replace BK442 := bB BK442 hb; replace NB454_480 := ak (nl hg (bG BK454)); replace NB480_454 := ak (ng hg (bG BK454)); replace BK454 := bB BK454 hb; replace NB465_480 := ak (nl hg (bG BK465)); replace NB480_465 := ak (ng hg (bG BK465)); replace BK465 := bB BK465 hb; replace NB475_480 := ak (nl hg (bG BK475)); replace NB480_475 := ak (ng hg (bG BK475)); replace BK475 := bB BK475 hb; clear hb hbox hg; have hnb267 := NB480_442.out; have hnc267 := NB442_480.out; have hnb268 := NB480_454.out; have hnc268 := NB454_480.out; have hnb269 := NB480_465.out; have hnc269 := NB465_480.out; have hnb270 := NB480_475.out; have hnc270 := NB475_480.out; obtain ⟨hcz271_0, hcz271_1, hcz271_2, hcz271_3, hcz271_4, hcz271_5, hcz271_6, hcz271_7, hcz271_8, hfz271_0, hfz271_1, hfz271_2, hfz271_3, hfz271_4, hfz271_5, hfz271_6, hfz271_7, hfz271_8⟩ := bC9 BK480) | ((with_reducible refine gate_callee (f := 29) rfl ?_); refine gl (some 91) Try.func29 #[.agg #[.int .i64 7, .int .i64 t434, .int .i64 t435, .int .i64 t436, .int .i64 t437, .int .i64 t438, .string t439, .string t440, .string t441], .int .i64 3] ?_; (with_reducible refine (impl_ItemFrame.calls kj10 7 t434 t435 t436 t437 t438 t439 t440 t441 3 t481 t482 t483 t484 _ A130.out).mono ?_); rintro e w272 ⟨rfl, hb⟩; refine ⟨_, rfl, ?_⟩; replace BK442 := ak (blk_below (bT BK442 (nC NB442_480 nN)) hb); replace BK454 := ak (blk_below (bT BK454 (nC NB454_480 nN)) hb); replace BK465 := ak (blk_below (bT BK465 (nC NB465_480 nN)) hb); replace BK475 := ak (blk_below (bT BK475 (nC NB475_480 nN)) hb); replace BK480 := ak (blk_below (g := gb480) (o := .cells #[.int .i64 7, .int .i64 t434, .int .i64 t435, .int .i64 t436, .int .i64 t437, .int .i64 t438, .string t439, .string t440, .string t441] 32 (0, 0)) (bW BK480) hb); replace HB := ak (below_step (lT HB (gC GE442 (gC GE454 (gC GE465 (gC GE475 (gC GE480 gN)))))) hb); (try clear hb); (try clear hk)) | ((with_reducible refine gate_dst (N := 16) rfl ?_); refine bx 16 #[.int .i64 0, .int .i64 0, .string (⟨#[]⟩ : ByteArray)] 35 ?_; intro gb485 hg w273 hbox hb; replace BK485 := ak (hbox); replace GW485 := ak (bz hg (lT HB (gC GE442 (gC GE454 (gC GE465 (gC GE475 (gC GE480 gN))))))); replace GE485 := ak (bz hg (lT HB (gC GE442 (gC GE454 (gC GE465 (gC GE475 (gC GE480 gN))))))); replace HB := ak (below_step (lT HB (gC GE442 (gC GE454 (gC GE465 (gC GE475 (gC GE480 gN)))))) hb); replace NB442_485 := ak (nl hg (bG BK442)); replace NB485_442 := ak (ng hg (bG BK442)); replace BK442 := bB BK442 hb; replace NB454_485 := ak (nl hg (bG BK454)); replace NB485_454 := ak (ng hg (bG BK454)); replace BK454 := bB BK454 hb; replace NB465_485 := ak (nl hg (bG BK465)); replace NB485_465 := ak (ng hg (bG BK465)); replace BK465 := bB BK465 hb; replace NB475_485 := ak (nl hg (bG BK475)); replace NB485_475 := ak (ng hg (bG BK475)); replace BK475 := bB BK475 hb; replace NB480_485 := ak (nl hg (bG BK480)); replace NB485_480 := ak (ng hg (bG BK480)); replace BK480 := bB BK480 hb; clear hb hbox hg; have hnb274 := NB485_442.out; have hnc274 := NB442_485.out; have hnb275 := NB485_454.out; have hnc275 := NB454_485.out; have hnb276 := NB485_465.out; have hnc276 := NB465_485.out; have hnb277 := NB485_475.out; have hnc277 := NB475_485.out; have hnb278 := NB485_480.out; have hnc278 := NB480_485.out; obtain ⟨hcz279_0, hcz279_1, hcz279_2, hfz279_0, hfz279_1, hfz279_2⟩ := bC3 BK485) | ((with_reducible refine gate_callee (f := 16) rfl ?_); refine gl (some 96) Try.func16 #[.agg #[.int .i64 t481, .int .i64 t482, .string t483]] ?_; (with_reducible refine (impl_FrameItem.calls kj10 t481 t482 t483 t486 t487 t488 t489 t490 t491 t492 t493 t494 t495 _ A131.out).mono ?_); rintro e w280 ⟨rfl, hb⟩; refine ⟨_, rfl, ?_⟩; replace BK442 := ak (blk_below (bT BK442 (nC NB442_485 nN)) hb); replace BK454 := ak (blk_below (bT BK454 (nC NB454_485 nN)) hb); replace BK465 := ak (blk_below (bT BK465 (nC NB465_485 nN)) hb); replace BK475 := ak (blk_below (bT BK475 (nC NB475_485 nN)) hb); replace BK480 := ak (blk_below (bT BK480 (nC NB480_485 nN)) hb); replace BK485 := ak (blk_below (g := gb485) (o := .cells #[.int .i64 t481, .int .i64 t482, .string t483] 35 (0, 0)) (bW BK485) hb); replace HB := ak (below_step (lT HB (gC GE442 (gC GE454 (gC GE465 (gC GE475 (gC GE480 (gC GE485 gN))))))) hb); (try clear hb); (try clear hk)) | ((with_reducible refine gate_dst (N := 18) rfl ?_); refine bx 18 #[.int .i64 0, .int .i64 0, .int .i64 0, .int .i64 0, .int .i64 0, .int .i64 0, .string (⟨#[]⟩ : ByteArray), .string (⟨#[]⟩ : ByteArray), .string (⟨#[]⟩ : ByteArray)] 32 ?_; intro gb496 hg w281 hbox hb; replace BK496 := ak (hbox); replace GW496 := ak (bz hg (lT HB (gC GE442 (gC GE454 (gC GE465 (gC GE475 (gC GE480 (gC GE485 gN)))))))); replace GE496 := ak (bz hg (lT HB (gC GE442 (gC GE454 (gC GE465 (gC GE475 (gC GE480 (gC GE485 gN)))))))); replace HB := ak (below_step (lT HB (gC GE442 (gC GE454 (gC GE465 (gC GE475 (gC GE480 (gC GE485 gN))))))) hb); replace NB442_496 := ak (nl hg (bG BK442)); replace NB496_442 := ak (ng hg (bG BK442)); replace BK442 := bB BK442 hb; replace NB454_496 := ak (nl hg (bG BK454)); replace NB496_454 := ak (ng hg (bG BK454)); replace BK454 := bB BK454 hb; replace NB465_496 := ak (nl hg (bG BK465)); replace NB496_465 := ak (ng hg (bG BK465)); replace BK465 := bB BK465 hb; replace NB475_496 := ak (nl hg (bG BK475)); replace NB496_475 := ak (ng hg (bG BK475)); replace BK475 := bB BK475 hb; replace NB480_496 := ak (nl hg (bG BK480)); replace NB496_480 := ak (ng hg (bG BK480)); replace BK480 := bB BK480 hb; replace NB485_496 := ak (nl hg (bG BK485)); replace NB496_485 := ak (ng hg (bG BK485)); replace BK485 := bB BK485 hb; clear hb hbox hg; have hnb282 := NB496_442.out; have hnc282 := NB442_496.out; have hnb283 := NB496_454.out; have hnc283 := NB454_496.out; have hnb284 := NB496_465.out; have hnc284 := NB465_496.out; have hnb285 := NB496_475.out; have hnc285 := NB475_496.out; have hnb286 := NB496_480.out; have hnc286 := NB480_496.out; have hnb287 := NB496_485.out; have hnc287 := NB485_496.out; obtain ⟨hcz288_0, hcz288_1, hcz288_2, hcz288_3, hcz288_4, hcz288_5, hcz288_6, hcz288_7, hcz288_8, hfz288_0, hfz288_1, hfz288_2, hfz288_3, hfz288_4, hfz288_5, hfz288_6, hfz288_7, hfz288_8⟩ := bC9 BK496) | ((with_reducible refine gate_callee (f := 30) rfl ?_); refine gl (some 100) Try.func30 #[.slice A0 l0.length c0] ?_; (with_reducible refine (spec_DrawWordOk.calls kj10 _ _ l0 t497 _ ?side1 ?side2 A132.out).mono ?_); (case side1 => exact Kd.C_below HR0.out (lT HB (gC GE442 (gC GE454 (gC GE465 (gC GE475 (gC GE480 (gC GE485 (gC GE496 gN))))))))); (case side2 => exact HC0.out); rintro e w289 ⟨rfl, hb⟩; refine ⟨_, rfl, ?_⟩; replace BK442 := ak (blk_below (bT BK442 (nC NB442_496 nN)) hb); replace BK454 := ak (blk_below (bT BK454 (nC NB454_496 nN)) hb); replace BK465 := ak (blk_below (bT BK465 (nC NB465_496 nN)) hb); replace BK475 := ak (blk_below (bT BK475 (nC NB475_496 nN)) hb); replace BK480 := ak (blk_below (bT BK480 (nC NB480_496 nN)) hb); replace BK485 := ak (blk_below (bT BK485 (nC NB485_496 nN)) hb); replace BK496 := ak (blk_below (g := gb496) (o := .cells #[.int .i64 t486, .int .i64 t487, .int .i64 t488, .int .i64 t489, .int .i64 t490, .int .i64 t491, .string t492, .string t493, .string t494] 32 (0, 0)) (bW BK496) hb); replace HB := ak (below_step (lT HB (gC GE442 (gC GE454 (gC GE465 (gC GE475 (gC GE480 (gC GE485 (gC GE496 gN)))))))) hb); (try clear hb); (try clear hk)) | (go_at_call 31; (with_reducible refine (impl_WordOk.calls kj10 t497 t500 _ A260.out).mono ?_); rintro e w' ⟨rfl, ⟨nd, rfl⟩⟩) | (go_at_call 32; (with_reducible refine (spec_WordOk.calls kj10 t497 t501 _ A261.out).mono ?_); rintro e w' ⟨rfl, ⟨nd, rfl⟩⟩))
       go_ret
       exact ⟨ew, by exact lT HB (gC GE442 (gC GE454 (gC GE465 (gC GE475 (gC GE480 (gC GE485 (gC GE496 gN)))))))⟩
     ·rw [if_neg c133] at H
      have c133b0 : (t484 == t444) = false := by simpa using c133
      (try (have c133b1 : decide (t484 = t444) = false := by simpa using c133))
      (try (have c133b2 : (t484 == t444) = false := by simpa using c133))
      (try (have c133b3 : ¬ (t484 = t444) := by simpa using c133))
      clear c133
      obtain rfl := Option.some.inj H
      have hnb290 := NB442_454.out
      have hnc290 := NB454_442.out
      have hnb291 := NB442_465.out
      have hnc291 := NB465_442.out
      have hnb292 := NB442_475.out
      have hnc292 := NB475_442.out
      obtain ⟨hcz293_0, hcz293_1, hcz293_2, hcz293_3, hcz293_4, hcz293_5, hcz293_6, hcz293_7, hfz293_0, hfz293_1, hfz293_2, hfz293_3, hfz293_4, hfz293_5, hfz293_6, hfz293_7⟩ := bC8 BK442
      go_wp2_with (first | ((with_reducible refine gate_dst (N := 15) rfl ?_); refine bx 15 #[.int .i64 0, .int .i64 0, .int .i64 0, .int .i64 0, .int .i64 0, .int .i64 0, .string (⟨#[]⟩ : ByteArray), .string (⟨#[]⟩ : ByteArray), .string (⟨#[]⟩ : ByteArray)] 32 ?_; intro gb480 hg w294 hbox hb; replace BK480 := ak (hbox); replace GW480 := ak (bz hg (lT HB (gC GE442 (gC GE454 (gC GE465 (gC GE475 gN)))))); replace GE480 := ak (bz hg (lT HB (gC GE442 (gC GE454 (gC GE465 (gC GE475 gN)))))); replace HB := ak (below_step (lT HB (gC GE442 (gC GE454 (gC GE465 (gC GE475 gN))))) hb); replace NB442_480 := ak (nl hg (bG BK442)); replace NB480_442 := ak (ng hg (bG BK442)); replace BK442 := bB BK442 hb; replace NB454_480 := ak (nl hg (bG BK454)); replace NB480_454 := ak (ng hg (bG BK454)); replace BK454 := bB BK454 hb; replace NB465_480 := ak (nl hg (bG BK465)); replace NB480_465 := ak (ng hg (bG BK465)); replace BK465 := bB BK465 hb; replace NB475_480 := ak (nl hg (bG BK475)); replace NB480_475 := ak (ng hg (bG BK475)); replace BK475 := bB BK475 hb; clear hb hbox hg; have hnb295 := NB480_442.out; have hnc295 := NB442_480.out; have hnb296 := NB480_454.out; have hnc296 := NB454_480.out; have hnb297 := NB480_465.out; have hnc297 := NB465_480.out; have hnb298 := NB480_475.out; have hnc298 := NB475_480.out; obtain ⟨hcz299_0, hcz299_1, hcz299_2, hcz299_3, hcz299_4, hcz299_5, hcz299_6, hcz299_7, hcz299_8, hfz299_0, hfz299_1, hfz299_2, hfz299_3, hfz299_4, hfz299_5, hfz299_6, hfz299_7, hfz299_8⟩ := bC9 BK480) | ((with_reducible refine gate_callee (f := 29) rfl ?_); refine gl (some 91) Try.func29 #[.agg #[.int .i64 7, .int .i64 t434, .int .i64 t435, .int .i64 t436, .int .i64 t437, .int .i64 t438, .string t439, .string t440, .string t441], .int .i64 3] ?_; (with_reducible refine (impl_ItemFrame.calls kj10 7 t434 t435 t436 t437 t438 t439 t440 t441 3 t481 t482 t483 t484 _ A130.out).mono ?_); rintro e w300 ⟨rfl, hb⟩; refine ⟨_, rfl, ?_⟩; replace BK442 := ak (blk_below (bT BK442 (nC NB442_480 nN)) hb); replace BK454 := ak (blk_below (bT BK454 (nC NB454_480 nN)) hb); replace BK465 := ak (blk_below (bT BK465 (nC NB465_480 nN)) hb); replace BK475 := ak (blk_below (bT BK475 (nC NB475_480 nN)) hb); replace BK480 := ak (blk_below (g := gb480) (o := .cells #[.int .i64 7, .int .i64 t434, .int .i64 t435, .int .i64 t436, .int .i64 t437, .int .i64 t438, .string t439, .string t440, .string t441] 32 (0, 0)) (bW BK480) hb); replace HB := ak (below_step (lT HB (gC GE442 (gC GE454 (gC GE465 (gC GE475 (gC GE480 gN)))))) hb); (try clear hb); (try clear hk)) | ((with_reducible refine gate_dst (N := 16) rfl ?_); refine bx 16 #[.int .i64 0, .int .i64 0, .string (⟨#[]⟩ : ByteArray)] 35 ?_; intro gb485 hg w301 hbox hb; replace BK485 := ak (hbox); replace GW485 := ak (bz hg (lT HB (gC GE442 (gC GE454 (gC GE465 (gC GE475 (gC GE480 gN))))))); replace GE485 := ak (bz hg (lT HB (gC GE442 (gC GE454 (gC GE465 (gC GE475 (gC GE480 gN))))))); replace HB := ak (below_step (lT HB (gC GE442 (gC GE454 (gC GE465 (gC GE475 (gC GE480 gN)))))) hb); replace NB442_485 := ak (nl hg (bG BK442)); replace NB485_442 := ak (ng hg (bG BK442)); replace BK442 := bB BK442 hb; replace NB454_485 := ak (nl hg (bG BK454)); replace NB485_454 := ak (ng hg (bG BK454)); replace BK454 := bB BK454 hb; replace NB465_485 := ak (nl hg (bG BK465)); replace NB485_465 := ak (ng hg (bG BK465)); replace BK465 := bB BK465 hb; replace NB475_485 := ak (nl hg (bG BK475)); replace NB485_475 := ak (ng hg (bG BK475)); replace BK475 := bB BK475 hb; replace NB480_485 := ak (nl hg (bG BK480)); replace NB485_480 := ak (ng hg (bG BK480)); replace BK480 := bB BK480 hb; clear hb hbox hg; have hnb302 := NB485_442.out; have hnc302 := NB442_485.out; have hnb303 := NB485_454.out; have hnc303 := NB454_485.out; have hnb304 := NB485_465.out; have hnc304 := NB465_485.out; have hnb305 := NB485_475.out; have hnc305 := NB475_485.out; have hnb306 := NB485_480.out; have hnc306 := NB480_485.out; obtain ⟨hcz307_0, hcz307_1, hcz307_2, hfz307_0, hfz307_1, hfz307_2⟩ := bC3 BK485) | ((with_reducible refine gate_callee (f := 16) rfl ?_); refine gl (some 96) Try.func16 #[.agg #[.int .i64 t481, .int .i64 t482, .string t483]] ?_; (with_reducible refine (impl_FrameItem.calls kj10 t481 t482 t483 t486 t487 t488 t489 t490 t491 t492 t493 t494 t495 _ A131.out).mono ?_); rintro e w308 ⟨rfl, hb⟩; refine ⟨_, rfl, ?_⟩; replace BK442 := ak (blk_below (bT BK442 (nC NB442_485 nN)) hb); replace BK454 := ak (blk_below (bT BK454 (nC NB454_485 nN)) hb); replace BK465 := ak (blk_below (bT BK465 (nC NB465_485 nN)) hb); replace BK475 := ak (blk_below (bT BK475 (nC NB475_485 nN)) hb); replace BK480 := ak (blk_below (bT BK480 (nC NB480_485 nN)) hb); replace BK485 := ak (blk_below (g := gb485) (o := .cells #[.int .i64 t481, .int .i64 t482, .string t483] 35 (0, 0)) (bW BK485) hb); replace HB := ak (below_step (lT HB (gC GE442 (gC GE454 (gC GE465 (gC GE475 (gC GE480 (gC GE485 gN))))))) hb); (try clear hb); (try clear hk)) | ((with_reducible refine gate_dst (N := 18) rfl ?_); refine bx 18 #[.int .i64 0, .int .i64 0, .int .i64 0, .int .i64 0, .int .i64 0, .int .i64 0, .string (⟨#[]⟩ : ByteArray), .string (⟨#[]⟩ : ByteArray), .string (⟨#[]⟩ : ByteArray)] 32 ?_; intro gb496 hg w309 hbox hb; replace BK496 := ak (hbox); replace GW496 := ak (bz hg (lT HB (gC GE442 (gC GE454 (gC GE465 (gC GE475 (gC GE480 (gC GE485 gN)))))))); replace GE496 := ak (bz hg (lT HB (gC GE442 (gC GE454 (gC GE465 (gC GE475 (gC GE480 (gC GE485 gN)))))))); replace HB := ak (below_step (lT HB (gC GE442 (gC GE454 (gC GE465 (gC GE475 (gC GE480 (gC GE485 gN))))))) hb); replace NB442_496 := ak (nl hg (bG BK442)); replace NB496_442 := ak (ng hg (bG BK442)); replace BK442 := bB BK442 hb; replace NB454_496 := ak (nl hg (bG BK454)); replace NB496_454 := ak (ng hg (bG BK454)); replace BK454 := bB BK454 hb; replace NB465_496 := ak (nl hg (bG BK465)); replace NB496_465 := ak (ng hg (bG BK465)); replace BK465 := bB BK465 hb; replace NB475_496 := ak (nl hg (bG BK475)); replace NB496_475 := ak (ng hg (bG BK475)); replace BK475 := bB BK475 hb; replace NB480_496 := ak (nl hg (bG BK480)); replace NB496_480 := ak (ng hg (bG BK480)); replace BK480 := bB BK480 hb; replace NB485_496 := ak (nl hg (bG BK485)); replace NB496_485 := ak (ng hg (bG BK485)); replace BK485 := bB BK485 hb; clear hb hbox hg; have hnb310 := NB496_442.out; have hnc310 := NB442_496.out; have hnb311 := NB496_454.out; have hnc311 := NB454_496.out; have hnb312 := NB496_465.out; have hnc312 := NB465_496.out; have hnb313 := NB496_475.out; have hnc313 := NB475_496.out; have hnb314 := NB496_480.out; have hnc314 := NB480_496.out; have hnb315 := NB496_485.out; have hnc315 := NB485_496.out; obtain ⟨hcz316_0, hcz316_1, hcz316_2, hcz316_3, hcz316_4, hcz316_5, hcz316_6, hcz316_7, hcz316_8, hfz316_0, hfz316_1, hfz316_2, hfz316_3, hfz316_4, hfz316_5, hfz316_6, hfz316_7, hfz316_8⟩ := bC9 BK496) | ((with_reducible refine gate_callee (f := 30) rfl ?_); refine gl (some 100) Try.func30 #[.slice A0 l0.length c0] ?_; (with_reducible refine (spec_DrawWordOk.calls kj10 _ _ l0 t497 _ ?side1 ?side2 A132.out).mono ?_); (case side1 => exact Kd.C_below HR0.out (lT HB (gC GE442 (gC GE454 (gC GE465 (gC GE475 (gC GE480 (gC GE485 (gC GE496 gN))))))))); (case side2 => exact HC0.out); rintro e w317 ⟨rfl, hb⟩; refine ⟨_, rfl, ?_⟩; replace BK442 := ak (blk_below (bT BK442 (nC NB442_496 nN)) hb); replace BK454 := ak (blk_below (bT BK454 (nC NB454_496 nN)) hb); replace BK465 := ak (blk_below (bT BK465 (nC NB465_496 nN)) hb); replace BK475 := ak (blk_below (bT BK475 (nC NB475_496 nN)) hb); replace BK480 := ak (blk_below (bT BK480 (nC NB480_496 nN)) hb); replace BK485 := ak (blk_below (bT BK485 (nC NB485_496 nN)) hb); replace BK496 := ak (blk_below (g := gb496) (o := .cells #[.int .i64 t486, .int .i64 t487, .int .i64 t488, .int .i64 t489, .int .i64 t490, .int .i64 t491, .string t492, .string t493, .string t494] 32 (0, 0)) (bW BK496) hb); replace HB := ak (below_step (lT HB (gC GE442 (gC GE454 (gC GE465 (gC GE475 (gC GE480 (gC GE485 (gC GE496 gN)))))))) hb); (try clear hb); (try clear hk)))
      go_ret
      exact ⟨ew, by exact lT HB (gC GE442 (gC GE454 (gC GE465 (gC GE475 (gC GE480 (gC GE485 (gC GE496 gN)))))))⟩

/-- THE ONE PURE STATEMENT of laws_FnRecords: yours. -/
def laws_FnRecords.Pure : Prop := ∀ (l0 : List Int), l0.length ≤ maxLen → l0.length * 1 ≤ 140737488351232 → (∀ x ∈ l0, (Lit.int .u8 x).wf = true) → ∃ k, laws_FnRecords.f k l0 = some true
theorem laws_FnRecords.walk (P : laws_FnRecords.Pure) (a0 : Option Addr) (len0 cap0 : Nat) (z0 : List Int) (w : World) (w0 : (a0 = none ∧ len0 = 0 ∧ cap0 = 0 ∧ z0 = []) ∨ ∃ x, a0 = some x ∧ len0 ≤ cap0 ∧ cap0 ≤ maxLen ∧ z0.length = cap0 ∧ (∀ i, i < z0.length → w.cell? (x.add i) = some (.int .u8 (z0.getD i 0))) ∧ ∀ n ∈ z0, (Lit.int .u8 n).wf = true) (y0 : len0 * 1 ≤ 140737488351232) :
  Calls Try.prog 6 #[.slice a0 len0 cap0] w fun e w' => e = .returned (.bool true) ∧ Below w.heap.size w w' := by
 obtain ⟨l0, rfl, hr0, hm0, hw0, hc0⟩ := ReadsInt.ofRowC w0
 obtain ⟨k, h⟩ := P l0 hm0 y0 hw0
 refine (laws_FnRecords.calls k _ _ l0 true w (Kd.C_of_reads (d := (0 : Int)) (h1 := fun _ => rfl) hr0) hc0 h).mono ?_
 rintro e w' ⟨rfl, hd⟩
 exact ⟨rfl, hd⟩

end Go.Proofs.Ytagkjeldheiejaa.PFnRecords
