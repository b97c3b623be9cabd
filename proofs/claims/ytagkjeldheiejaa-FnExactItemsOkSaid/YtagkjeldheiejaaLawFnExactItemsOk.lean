/- The row of FnExactItemsOk: for every input the law returns true and the input reads as it did; out of the pure statement and the printed contract; no condition. -/
import Derived.Test.YtagkjeldheiejaaRows
import Derived.Test.YtagkjeldheiejaaPFnExactItemsOkx9
import Derived.Test.YtagkjeldheiejaaPureFnExactItemsOk
import Derived.Test.YtagkjeldheiejaaVFnExactItemsOk1
import Derived.WalkKit
import Derived.ProofKit
import Derived.OpenShut
import Derived.ShutString
import Derived.ChangeOld
import Derived.Below
import Derived.SizedLaws
import Derived.Carry
import Derived.Lib.SmallJoins
set_option linter.unusedVariables false
set_option linter.unusedSimpArgs false
namespace Go.Proofs.Ytagkjeldheiejaa.fnExactItemsOk
open Go.ChangeShapes Go.WideShapes Go.ChangeAt Go.RowKit
open Go.ChangeMaps (open_string shut_string)
open Go.Proofs.YtagkjeldheiejaaW.PrintWords Go.Proofs.Ytagkjeldheiejaa.Open Go.Proofs.Ytagkjeldheiejaa.PFnExactItemsOk
open Go.Proofs.Ytagkjeldheiejaa.Pure (QItem)
theorem own : ownKnob Try.prog.godebug = none := by kernel_rfl
theorem laidOut : laidOutB Try.prog = true := by kernel_rfl
theorem list8 {α : Type} {cs : List α} (h : cs.length = 8) : ∃ c0 c1 c2 c3 c4 c5 c6 c7, cs = [c0, c1, c2, c3, c4, c5, c6, c7] := by
  match cs, h with
  | [c0, c1, c2, c3, c4, c5, c6, c7], _ => exact ⟨c0, c1, c2, c3, c4, c5, c6, c7, rfl⟩
theorem list9 {α : Type} {cs : List α} (h : cs.length = 9) : ∃ c0 c1 c2 c3 c4 c5 c6 c7 c8, cs = [c0, c1, c2, c3, c4, c5, c6, c7, c8] := by
  match cs, h with
  | [c0, c1, c2, c3, c4, c5, c6, c7, c8], _ => exact ⟨c0, c1, c2, c3, c4, c5, c6, c7, c8, rfl⟩
section
variable {H : Type} {enc : TypeId × Value → H} {W : World} {base : Nat} {sp : Nat → Bool} {hd : Bool}
theorem open_Rec {fuel : Nat} {cs : List Value} {x : DataW H × List MemPlace} (h : DataW.trod enc Try.prog W base sp hd fuel 96 cs = some x) :
    ∃ (a0 : Int) (a1 : Int) (a2 : Int) (a3 : Int) (a4 : Int) (a5 : ByteArray) (a6 : ByteArray) (a7 : ByteArray), cs = [.int .i64 a0, .int .i64 a1, .int .i64 a2, .int .i64 a3, .int .i64 a4, .string a5, .string a6, .string a7] ∧ (Lit.int .i64 a0).wf = true ∧ (Lit.int .i64 a1).wf = true ∧ (Lit.int .i64 a2).wf = true ∧ (Lit.int .i64 a3).wf = true ∧ (Lit.int .i64 a4).wf = true ∧ a5.size ≤ maxLen ∧ a6.size ≤ maxLen ∧ a7.size ≤ maxLen := by
  obtain ⟨xs, n, _, rfl, hl, hlen, hf⟩ := DataW.trod_struct Try.underlying96 h
  have hlen' : xs.length = 8 := hlen
  have hl' : cs.length = 8 := hl.trans (by kernel_rfl)
  have e0 := hf 0 _ rfl
  rw [List.getElem?_eq_getElem (show 0 < xs.length by omega)] at e0
  obtain ⟨a0, h0, _, w0⟩ := DataW.trod_int Try.underlying3 e0
  have c0 : Try.prog.cellsOf 3 = 1 := by kernel_rfl
  have e1 := hf 1 _ rfl
  rw [List.getElem?_eq_getElem (show 1 < xs.length by omega)] at e1
  obtain ⟨a1, h1, _, w1⟩ := DataW.trod_int Try.underlying3 e1
  have c1 : Try.prog.cellsOf 3 = 1 := by kernel_rfl
  have e2 := hf 2 _ rfl
  rw [List.getElem?_eq_getElem (show 2 < xs.length by omega)] at e2
  obtain ⟨a2, h2, _, w2⟩ := DataW.trod_int Try.underlying3 e2
  have c2 : Try.prog.cellsOf 3 = 1 := by kernel_rfl
  have e3 := hf 3 _ rfl
  rw [List.getElem?_eq_getElem (show 3 < xs.length by omega)] at e3
  obtain ⟨a3, h3, _, w3⟩ := DataW.trod_int Try.underlying3 e3
  have c3 : Try.prog.cellsOf 3 = 1 := by kernel_rfl
  have e4 := hf 4 _ rfl
  rw [List.getElem?_eq_getElem (show 4 < xs.length by omega)] at e4
  obtain ⟨a4, h4, _, w4⟩ := DataW.trod_int Try.underlying3 e4
  have c4 : Try.prog.cellsOf 3 = 1 := by kernel_rfl
  have e5 := hf 5 _ rfl
  rw [List.getElem?_eq_getElem (show 5 < xs.length by omega)] at e5
  obtain ⟨a5, h5, _, w5⟩ := DataW.trod_string Try.underlying9 e5
  have c5 : Try.prog.cellsOf 9 = 1 := by kernel_rfl
  have e6 := hf 6 _ rfl
  rw [List.getElem?_eq_getElem (show 6 < xs.length by omega)] at e6
  obtain ⟨a6, h6, _, w6⟩ := DataW.trod_string Try.underlying9 e6
  have c6 : Try.prog.cellsOf 9 = 1 := by kernel_rfl
  have e7 := hf 7 _ rfl
  rw [List.getElem?_eq_getElem (show 7 < xs.length by omega)] at e7
  obtain ⟨a7, h7, _, w7⟩ := DataW.trod_string Try.underlying9 e7
  have c7 : Try.prog.cellsOf 9 = 1 := by kernel_rfl
  obtain ⟨y0, y1, y2, y3, y4, y5, y6, y7, rfl⟩ := list8 hl'
  simp [c0] at h0
  simp [c1] at h1
  simp [c2] at h2
  simp [c3] at h3
  simp [c4] at h4
  simp [c5] at h5
  simp [c6] at h6
  simp [c7] at h7
  subst h0
  subst h1
  subst h2
  subst h3
  subst h4
  subst h5
  subst h6
  subst h7
  exact ⟨a0, a1, a2, a3, a4, a5, a6, a7, rfl, w0, w1, w2, w3, w4, w5, w6, w7⟩
theorem open_Item {fuel : Nat} {cs : List Value} {x : DataW H × List MemPlace} (h : DataW.trod enc Try.prog W base sp hd fuel 98 cs = some x) :
    ∃ (a0 : Int) (a1 : Int) (a2 : Int) (a3 : Int) (a4 : Int) (a5 : Int) (a6 : ByteArray) (a7 : ByteArray) (a8 : ByteArray), cs = [.int .i64 a0, .int .i64 a1, .int .i64 a2, .int .i64 a3, .int .i64 a4, .int .i64 a5, .string a6, .string a7, .string a8] ∧ (Lit.int .i64 a0).wf = true ∧ (Lit.int .i64 a1).wf = true ∧ (Lit.int .i64 a2).wf = true ∧ (Lit.int .i64 a3).wf = true ∧ (Lit.int .i64 a4).wf = true ∧ (Lit.int .i64 a5).wf = true ∧ a6.size ≤ maxLen ∧ a7.size ≤ maxLen ∧ a8.size ≤ maxLen := by
  obtain ⟨xs, n, _, rfl, hl, hlen, hf⟩ := DataW.trod_struct Try.underlying98 h
  have hlen' : xs.length = 2 := hlen
  have hl' : cs.length = 9 := hl.trans (by kernel_rfl)
  have e0 := hf 0 _ rfl
  rw [List.getElem?_eq_getElem (show 0 < xs.length by omega)] at e0
  obtain ⟨a0, h0, _, w0⟩ := DataW.trod_int Try.underlying3 e0
  have c0 : Try.prog.cellsOf 3 = 1 := by kernel_rfl
  have e1 := hf 1 _ rfl
  rw [List.getElem?_eq_getElem (show 1 < xs.length by omega)] at e1
  obtain ⟨a1, a2, a3, a4, a5, a6, a7, a8, h1, w1_0, w1_1, w1_2, w1_3, w1_4, w1_5, w1_6, w1_7⟩ := open_Rec e1
  have c1 : Try.prog.cellsOf 96 = 8 := by kernel_rfl
  obtain ⟨y0, y1, y2, y3, y4, y5, y6, y7, y8, rfl⟩ := list9 hl'
  simp [c0] at h0
  simp [c1] at h1
  subst h0
  obtain ⟨rfl, rfl, rfl, rfl, rfl, rfl, rfl, rfl⟩ := h1
  exact ⟨a0, a1, a2, a3, a4, a5, a6, a7, a8, rfl, w0, w1_0, w1_1, w1_2, w1_3, w1_4, w1_5, w1_6, w1_7⟩
theorem opens_Item : Opens enc Try.prog W base sp hd 98 k98 QItem := by
  intro fuel cs x h
  obtain ⟨a0, a1, a2, a3, a4, a5, a6, a7, a8, rfl, w0, w1, w2, w3, w4, w5, w6, w7, w8⟩ := open_Item h
  exact ⟨⟨a0, ⟨a1, a2, a3, a4, a5, a6, a7, a8⟩⟩, k98_mk W _, w0, w1, w2, w3, w4, w5, w6, w7, w8⟩
end
set_option maxRecDepth 100000 in
theorem lifted (os : Os) (started : os.Started) (H : Type) (enc : TypeId × Value → H) :
    ReturnsInHanded {} Try.checked os 5 .any (Rows.fnExactItemsOkSpec.pre6 enc Try.prog Try.f5 Rows.fnExactItemsOkRow.domain false) (Rows.fnExactItemsOkSpec.post enc Try.prog Try.f5 false true false false) := by
  refine returnsInHanded_of_change_sized (C := Try.checked) own started (by kernel_rfl) Try.func5
    (ChangeSpec.witness6 (enc := enc) (C := Try.checked) false ⟨#[], #[.slice none 0 0], []⟩ 8 (by kernel_rfl) (by kernel_rfl) (by kernel_rfl) (by kernel_rfl)) ?_
  intro W base args ds gs before hval0 hW hcnd hsz0 _
  have hsz : (DataW.weightsEach Try.prog (Try.f5.params.toList ++ Rows.fnExactItemsOkSpec.plain.varTypes Try.prog) (ds ++ gs)).all (· ≤ reachBytes) = true := hsz0
  have hval : ∀ (j : Nat) t v, Try.f5.params[j]? = some t → args[j]? = some v → Value.okWide Try.prog W .any base t v := hval0
  have hW' := hW
  obtain ⟨p, q, hA0, hV, rfl, hfz, hnd⟩ := hW
  have hA : DataW.TrodAll enc Try.prog W 0 (fun _ => true) true Try.f5.params.toList args.toList ds p := hA0
  rw [Try.params5] at hA hval hsz
  obtain ⟨v0, vs0, d0, ds0, p0, q0, hargs, rfl, rfl, h0, r0⟩ := trodAll_cons hA
  obtain ⟨rfl, rfl, rfl⟩ := trodAll_nil r0
  obtain rfl : args = #[v0] := by cases args; simp_all
  obtain ⟨rfl, rfl⟩ := trodVars_none hV
  have k0 := h0
  have lt0 : ∀ x ∈ p0, x.block < W.heap.size := by obtain ⟨m, hm⟩ := k0; exact DataW.trod_lt m _ _ _ hm
  obtain ⟨A0, n0, c0, rfl⟩ := okWide_slice Try.underlying39 (hval 0 39 v0 rfl rfl)
  obtain ⟨fu0, hf0⟩ := h0
  obtain ⟨A'0, c'0, l0, he0, hc0, hm0, hr0, hq0⟩ := open_slice_C Try.underlying39 (by kernel_rfl) opens_Item hf0
  obtain ⟨rfl, rfl, rfl⟩ : A0 = A'0 ∧ n0 = l0.length ∧ c0 = c'0 := by simpa [Value.cells] using he0
  clear hA0 hval0 hsz0 hsz
  obtain ⟨k, hk⟩ := Pure.FnExactItemsOk l0 (Nat.le_trans hc0 hm0) hq0
  refine (laws_FnExactItemsOk.calls k A0 c0 l0 true W hr0 hc0 hk).mono fun e W' ⟨he, bel0⟩ => ?_
  have bel : Below W.heap.size W W' := bel0
  subst he
  exact ⟨_, rfl, _, _, _, [], _, [], hW', trodAll_mk1 (shut_bool Try.underlying4 _), (trodAll_cons_mk (Below.trod laidOut (by kernel_rfl) (of_decide_eq_true (by kernel_rfl)) k0 bel lt0) trodAll_mk0), rfl, bel.frame _, fun h => by cases h⟩
theorem over : Rows.fnExactItemsOkRow.holds Try.pinned (OpenSpec.ofChange Rows.fnExactItemsOkSpec) :=
  OpenClaim.holds_of_wide 5 Try.f5 rfl rfl rfl rfl rfl rfl rfl ⟨rfl, rfl, rfl, rfl, rfl⟩ rfl rfl rfl rfl rfl (by kernel_rfl) Try.func5 (by kernel_rfl)
    (of_decide_eq_true (by kernel_rfl)) (by unfold Func.isWrapper; first | (rw [if_pos (by decide +kernel)]; kernel_rfl) | (rw [if_neg (by decide +kernel)]; exact ⟨rfl, rfl⟩))
    (fun os started H enc _ => lifted os started H enc)
theorem proved : Rows.FnExactItemsOkSaid := over
#print axioms proved
end Go.Proofs.Ytagkjeldheiejaa.fnExactItemsOk
namespace Go.Proofs.Ytagkjeldheiejaa
/-- The row, under a short name, for the claim. -/
theorem fnExactItemsOk_holds : Rows.FnExactItemsOkSaid := fnExactItemsOk.proved
end Go.Proofs.Ytagkjeldheiejaa
