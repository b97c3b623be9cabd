/- The row of FnExactSegFrames: for every input the law returns true and the input reads as it did; out of the pure statement and the printed contract; no condition. -/
import Derived.Test.YtdnjjdmlmfoljaaRows
import Derived.Test.YtdnjjdmlmfoljaaPFnExactSegFramesx11
import Derived.Test.YtdnjjdmlmfoljaaPureFnExactSegFrames
import Derived.Test.YtdnjjdmlmfoljaaVFnExactSegFrames1
import Derived.WalkKit
import Derived.ProofKit
import Derived.OpenShut
import Derived.ShutString
import Derived.ChangeOld
import Derived.Below
import Derived.SizedLaws
import Derived.Carry
import Derived.Lib.SmallJoins
set_option linter.unusedVariables false
set_option linter.unusedSimpArgs false
namespace Go.Proofs.Ytdnjjdmlmfoljaa.fnExactSegFrames
open Go.ChangeShapes Go.WideShapes Go.ChangeAt Go.RowKit
open Go.ChangeMaps (open_string shut_string)
open Go.Proofs.YtdnjjdmlmfoljaaW.PrintWords Go.Proofs.Ytdnjjdmlmfoljaa.Open Go.Proofs.Ytdnjjdmlmfoljaa.PFnExactSegFrames
open Go.Proofs.Ytdnjjdmlmfoljaa.Pure (QWrite)
theorem own : ownKnob Try.prog.godebug = none := by kernel_rfl
theorem laidOut : laidOutB Try.prog = true := by kernel_rfl
theorem list2 {α : Type} {cs : List α} (h : cs.length = 2) : ∃ c0 c1, cs = [c0, c1] := by
  match cs, h with
  | [c0, c1], _ => exact ⟨c0, c1, rfl⟩
section
variable {H : Type} {enc : TypeId × Value → H} {W : World} {base : Nat} {sp : Nat → Bool} {hd : Bool}
theorem open_Write {fuel : Nat} {cs : List Value} {x : DataW H × List MemPlace} (h : DataW.trod enc Try.prog W base sp hd fuel 84 cs = some x) :
    ∃ (a0 : Int) (a1 : ByteArray), cs = [.int .i64 a0, .string a1] ∧ (Lit.int .i64 a0).wf = true ∧ a1.size ≤ maxLen := by
  obtain ⟨xs, n, _, rfl, hl, hlen, hf⟩ := DataW.trod_struct Try.underlying84 h
  have hlen' : xs.length = 2 := hlen
  have hl' : cs.length = 2 := hl.trans (by kernel_rfl)
  have e0 := hf 0 _ rfl
  rw [List.getElem?_eq_getElem (show 0 < xs.length by omega)] at e0
  obtain ⟨a0, h0, _, w0⟩ := DataW.trod_int Try.underlying3 e0
  have c0 : Try.prog.cellsOf 3 = 1 := by kernel_rfl
  have e1 := hf 1 _ rfl
  rw [List.getElem?_eq_getElem (show 1 < xs.length by omega)] at e1
  obtain ⟨a1, h1, _, w1⟩ := DataW.trod_string Try.underlying9 e1
  have c1 : Try.prog.cellsOf 9 = 1 := by kernel_rfl
  obtain ⟨y0, y1, rfl⟩ := list2 hl'
  simp [c0] at h0
  simp [c1] at h1
  subst h0
  subst h1
  exact ⟨a0, a1, rfl, w0, w1⟩
theorem opens_Write : Opens enc Try.prog W base sp hd 84 k84 QWrite := by
  intro fuel cs x h
  obtain ⟨a0, a1, rfl, w0, w1⟩ := open_Write h
  exact ⟨⟨a0, a1⟩, k84_mk W _, w0, w1⟩
theorem open_Disk {fuel : Nat} {cs : List Value} {x : DataW H × List MemPlace} (h : DataW.trod enc Try.prog W base sp hd fuel 25 cs = some x) :
    ∃ (A_0 : Option Addr) (c_0 : Nat) (l_0 : List ByteArray) (A_1 : Option Addr) (c_1 : Nat) (l_1 : List S84), cs = [.slice A_0 l_0.length c_0, .slice A_1 l_1.length c_1] ∧ l_0.length ≤ c_0 ∧ c_0 ≤ maxLen ∧ Kd.C Kd.string W A_0 l_0.length l_0 ∧ (∀ a, a ∈ l_0 → (fun s => s.size ≤ maxLen) a) ∧ l_1.length ≤ c_1 ∧ c_1 ≤ maxLen ∧ Kd.C k84 W A_1 l_1.length l_1 ∧ (∀ a, a ∈ l_1 → QWrite a) := by
  obtain ⟨xs, n, _, rfl, hl, hlen, hf⟩ := DataW.trod_struct Try.underlying25 h
  have hlen' : xs.length = 2 := hlen
  have hl' : cs.length = 2 := hl.trans (by kernel_rfl)
  have e0 := hf 0 _ rfl
  rw [List.getElem?_eq_getElem (show 0 < xs.length by omega)] at e0
  obtain ⟨A_0, c_0, l_0, h0, hc0, hm0, hC0, hQ0⟩ := open_slice_C Try.underlying22 (by kernel_rfl) (opens_string Try.underlying9) e0
  have c0 : Try.prog.cellsOf 22 = 1 := by kernel_rfl
  have e1 := hf 1 _ rfl
  rw [List.getElem?_eq_getElem (show 1 < xs.length by omega)] at e1
  obtain ⟨A_1, c_1, l_1, h1, hc1, hm1, hC1, hQ1⟩ := open_slice_C Try.underlying23 (by kernel_rfl) opens_Write e1
  have c1 : Try.prog.cellsOf 23 = 1 := by kernel_rfl
  obtain ⟨y0, y1, rfl⟩ := list2 hl'
  simp [c0] at h0
  simp [c1] at h1
  subst h0
  subst h1
  exact ⟨A_0, c_0, l_0, A_1, c_1, l_1, rfl, hc0, hm0, hC0, hQ0, hc1, hm1, hC1, hQ1⟩
end
set_option maxRecDepth 100000 in
theorem lifted (os : Os) (started : os.Started) (H : Type) (enc : TypeId × Value → H) :
    ReturnsInHanded {} Try.checked os 13 .any (Rows.fnExactSegFramesSpec.pre6 enc Try.prog Try.f13 Rows.fnExactSegFramesRow.domain false) (Rows.fnExactSegFramesSpec.post enc Try.prog Try.f13 false true false false) := by
  refine returnsInHanded_of_change_sized (C := Try.checked) own started (by kernel_rfl) Try.func13
    (ChangeSpec.witness6 (enc := enc) (C := Try.checked) false ⟨#[], #[.agg #[.slice none 0 0, .slice none 0 0], .int .i64 0], []⟩ 8 (by kernel_rfl) (by kernel_rfl) (by kernel_rfl) (by kernel_rfl)) ?_
  intro W base args ds gs before hval0 hW hcnd hsz0 _
  have hsz : (DataW.weightsEach Try.prog (Try.f13.params.toList ++ Rows.fnExactSegFramesSpec.plain.varTypes Try.prog) (ds ++ gs)).all (· ≤ reachBytes) = true := hsz0
  have hval : ∀ (j : Nat) t v, Try.f13.params[j]? = some t → args[j]? = some v → Value.okWide Try.prog W .any base t v := hval0
  have hW' := hW
  obtain ⟨p, q, hA0, hV, rfl, hfz, hnd⟩ := hW
  have hA : DataW.TrodAll enc Try.prog W 0 (fun _ => true) true Try.f13.params.toList args.toList ds p := hA0
  rw [Try.params13] at hA hval hsz
  obtain ⟨v0, vs0, d0, ds0, p0, q0, hargs, rfl, rfl, h0, r0⟩ := trodAll_cons hA
  obtain ⟨v1, vs1, d1, ds1, p1, q1, rfl, rfl, rfl, h1, r1⟩ := trodAll_cons r0
  obtain ⟨rfl, rfl, rfl⟩ := trodAll_nil r1
  obtain rfl : args = #[v0, v1] := by cases args; simp_all
  obtain ⟨rfl, rfl⟩ := trodVars_none hV
  have k0 := h0
  have lt0 : ∀ x ∈ p0, x.block < W.heap.size := by obtain ⟨m, hm⟩ := k0; exact DataW.trod_lt m _ _ _ hm
  obtain ⟨cs0, rfl, hz0⟩ := okWide_struct Try.underlying25 (hval 0 25 v0 rfl rfl)
  obtain ⟨fu0, hf0⟩ := h0
  obtain ⟨A0_0, c0_0, l0_0, A0_1, c0_1, l0_1, he0, hc0_0, hm0_0, hr0_0, hq0_0, hc0_1, hm0_1, hr0_1, hq0_1⟩ := open_Disk hf0
  obtain rfl : cs0 = #[.slice A0_0 l0_0.length c0_0, .slice A0_1 l0_1.length c0_1] := by
    have he' : cs0.toList = [.slice A0_0 l0_0.length c0_0, .slice A0_1 l0_1.length c0_1] := by simpa [Value.cells] using he0
    cases cs0; simp_all
  obtain ⟨a1, rfl, rfl, rfl, w1⟩ := open_int Try.underlying3 (hval 1 3 v1 rfl rfl) h1
  clear hA0 hval0 hsz0 hsz
  obtain ⟨k, hk⟩ := Pure.FnExactSegFrames l0_0 l0_1 a1 (Nat.le_trans hc0_0 hm0_0) hq0_0 (Nat.le_trans hc0_1 hm0_1) hq0_1 w1
  refine (laws_FnExactSegFrames.calls k A0_0 c0_0 l0_0 A0_1 c0_1 l0_1 a1 true W hr0_0 hc0_0 hr0_1 hc0_1 hk).mono fun e W' ⟨he, bel0⟩ => ?_
  have bel : Below W.heap.size W W' := bel0
  subst he
  exact ⟨_, rfl, _, _, _, [], _, [], hW', trodAll_mk1 (shut_bool Try.underlying4 _), (trodAll_cons_mk (Below.trod laidOut (by kernel_rfl) (of_decide_eq_true (by kernel_rfl)) k0 bel lt0) (trodAll_cons_mk (shut_int Try.underlying3 w1) trodAll_mk0)), rfl, bel.frame _, fun h => by cases h⟩
theorem over : Rows.fnExactSegFramesRow.holds Try.pinned (OpenSpec.ofChange Rows.fnExactSegFramesSpec) :=
  OpenClaim.holds_of_wide 13 Try.f13 rfl rfl rfl rfl rfl rfl rfl ⟨rfl, rfl, rfl, rfl, rfl⟩ rfl rfl rfl rfl rfl (by kernel_rfl) Try.func13 (by kernel_rfl)
    (of_decide_eq_true (by kernel_rfl)) (by unfold Func.isWrapper; first | (rw [if_pos (by decide +kernel)]; kernel_rfl) | (rw [if_neg (by decide +kernel)]; exact ⟨rfl, rfl⟩))
    (fun os started H enc _ => lifted os started H enc)
theorem proved : Rows.FnExactSegFramesSaid := over
#print axioms proved
end Go.Proofs.Ytdnjjdmlmfoljaa.fnExactSegFrames
namespace Go.Proofs.Ytdnjjdmlmfoljaa
/-- The row, under a short name, for the claim. -/
theorem fnExactSegFrames_holds : Rows.FnExactSegFramesSaid := fnExactSegFrames.proved
end Go.Proofs.Ytdnjjdmlmfoljaa
