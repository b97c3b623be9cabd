/- The pure statement of FnExactUnhex, over numbers and lists: it is true of every argument; no condition but the bounds that the statement itself names. -/
import Derived.Test.YtneffinmiffhpaaPFnExactUnhexx1
import Derived.Test.YtneffinmiffhpaaVFnExactUnhex1
set_option linter.unusedVariables false
set_option linter.unusedSimpArgs false
namespace Go.Proofs.Ytneffinmiffhpaa.Pure
open Go.RowKit Go.Proofs.Ytneffinmiffhpaa.PFnExactUnhex Go.Proofs.YtneffinmiffhpaaW.PrintWords Go.Proofs.YtneffinmiffhpaaW.PrintLast Go.Proofs.YtneffinmiffhpaaW.PrintMore Go.Proofs.Ytneffinmiffhpaa.Base

def hexV (b : Int) : Int := if 48 ≤ b ∧ b ≤ 57 then b - 48 else if 97 ≤ b ∧ b ≤ 102 then b - 87 else -1
theorem hexV_range (b : Int) : -1 ≤ hexV b ∧ hexV b < 16 := by
  unfold hexV
  by_cases h : 48 ≤ b ∧ b ≤ 57
  · rw [if_pos h]; omega
  · rw [if_neg h]
    by_cases h2 : 97 ≤ b ∧ b ≤ 102
    · rw [if_pos h2]; omega
    · rw [if_neg h2]; omega
theorem spec_l01Value_ev (b : Int) (hb : 0 ≤ b ∧ b < 256) : Ev (fun k => spec_l01Value.f k b) (hexV b) := by
  have e0 : wrap64 b = b := w64 (by omega) (by omega)
  unfold spec_l01Value.f hexV
  by_cases h : b ≥ 48
  · simp only [if_pos h]
    refine ev_succ ?_
    by_cases h2 : b ≤ 57
    · have e1 : wrap64 (b - 48) = b - 48 := w64 (by omega) (by omega)
      simp only [spec_l01Value.j0, decide_eq_true h2, if_true, e0, e1]
      exact ev_some (by rw [if_pos (by omega)])
    · simp only [spec_l01Value.j0, decide_eq_false h2, Bool.false_eq_true, if_false, e0]
      by_cases h3 : b ≥ 97
      · simp only [if_pos h3]
        by_cases h4 : b ≤ 102
        · have e1 : wrap64 (b - 97) = b - 97 := w64 (by omega) (by omega)
          have e2 : wrap64 (b - 97 + 10) = b - 87 := by rw [w64 (by omega) (by omega)]; omega
          simp only [if_pos h4, e1, e2]
          exact ev_some (by rw [if_neg (by omega), if_pos (by omega)])
        · simp only [if_neg h4]
          exact ev_some (by rw [if_neg (by omega), if_neg (by omega)])
      · simp only [if_neg h3]
        exact ev_some (by rw [if_neg (by omega), if_neg (by omega)])
  · simp only [if_neg h]
    refine ev_succ ?_
    simp only [spec_l01Value.j0, Bool.false_eq_true, if_false, if_neg (show ¬ b ≥ 97 by omega)]
    exact ev_some (by rw [if_neg (by omega), if_neg (by omega)])
set_option maxRecDepth 100000 in
theorem index_hex (b : Int) (hb : 0 ≤ b ∧ b < 256) : strings_IndexByte.f (⟨#[48, 49, 50, 51, 52, 53, 54, 55, 56, 57, 97, 98, 99, 100, 101, 102]⟩ : ByteArray) b = some (hexV b) := by
  have h : ∀ n : Fin 256, Lib.indexByte [48, 49, 50, 51, 52, 53, 54, 55, 56, 57, 97, 98, 99, 100, 101, 102] n.val.toUInt8 = hexV (n.val : Int) := by decide
  obtain ⟨n, rfl⟩ := Int.eq_ofNat_of_zero_le hb.1
  unfold strings_IndexByte.f
  rw [Int.toNat_natCast]
  exact congrArg some (h ⟨n, by omega⟩)
theorem or_hex (h l : Int) (hh : 0 ≤ h ∧ h < 16) (hl : 0 ≤ l ∧ l < 16) : Go.bits .or .i64 (wrap64 (h * 16)) l = wrap64 (wrap64 (16 * h) + l) := by
  have e1 : wrap64 (h * 16) = h * 16 := w64 (by omega) (by omega)
  have e2 : wrap64 (16 * h) = 16 * h := w64 (by omega) (by omega)
  have e3 : wrap64 (16 * h + l) = 16 * h + l := w64 (by omega) (by omega)
  rw [e1, e2, e3]
  rw [bits_join .i64 63 (by decide) b_wraps_i64 4 (h * 16) l (by omega) (by omega) (by omega) hl.1 (by omega) (by omega)]
  omega
def unhexGo (x : ByteArray) : Nat → Nat → List Int → ByteArray × Bool
  | 0, _, acc => (strOfNums acc, true)
  | d + 1, i, acc => if hexV (bt x (i : Int)) < 0 ∨ hexV (bt x ((i + 1 : Nat) : Int)) < 0 then ((⟨#[]⟩ : ByteArray), false) else unhexGo x d (i + 2) (acc ++ [(wrap64 (wrap64 (16 * hexV (bt x (i : Int))) + hexV (bt x ((i + 1 : Nat) : Int)))) % 256])
theorem w2 (i : Nat) (h : i ≤ 100000) : wrap64 ((i : Int) + 2) = ((i + 2 : Nat) : Int) := by rw [w64 (by omega) (by omega)]; omega
theorem spec_Unhex_l0 (x : ByteArray) (hx : x.size ≤ 40000) (d : Nat) : ∀ (i : Nat) (acc : List Int), x.size = i + 2 * d → acc.length ≤ i → Ev (fun k => spec_Unhex.l0 k x acc (i : Int)) (unhexGo x d i acc) := by
  induction d with
  | zero =>
    intro i acc hd ha
    refine ev_succ ?_
    simp only [spec_Unhex.l0, if_neg (show ¬ (i : Int) < (x.size : Int) by omega)]
    exact ev_some rfl
  | succ d ih =>
    intro i acc hd ha
    have g1 : (i : Int) < (x.size : Int) := by omega
    have g2 : (0 : Int) ≤ (i : Int) := by omega
    have g3 : (0 : Int) ≤ ((i + 1 : Nat) : Int) := by omega
    have g4 : ((i + 1 : Nat) : Int) < (x.size : Int) := by omega
    have g5 : acc.length < 140737488355328 := by omega
    refine ev_succ ?_
    simp only [spec_Unhex.l0, if_pos g1, if_pos g2, wn i (show i < x.size by omega) (by omega), if_pos g3, if_pos g4, if_pos g5, w2 i (by omega)]
    refine Ev.bind (spec_l01Value_ev _ (bt_lt x _)) ?_
    refine Ev.bind (spec_l01Value_ev _ (bt_lt x _)) ?_
    unfold unhexGo
    by_cases h1 : hexV (bt x (i : Int)) < 0
    · simp only [if_pos h1, if_pos (Or.inl h1)]
      exact ev_some rfl
    · by_cases h2 : hexV (bt x ((i + 1 : Nat) : Int)) < 0
      · simp only [if_neg h1, if_pos h2, if_pos (Or.inr h2)]
        exact ev_some rfl
      · simp only [if_neg h1, if_neg h2]
        rw [if_neg (by rintro (h | h); exact h1 h; exact h2 h)]
        exact ih (i + 2) _ (by omega) (by simp; omega)
theorem impl_Unhex_l0 (x : ByteArray) (hx : x.size ≤ 40000) (d : Nat) : ∀ (i : Nat) (acc : List Int), x.size = i + 2 * d → acc.length ≤ i → Ev (fun k => impl_Unhex.l0 k x acc (i : Int)) (unhexGo x d i acc) := by
  induction d with
  | zero =>
    intro i acc hd ha
    refine ev_succ ?_
    simp only [impl_Unhex.l0, if_neg (show ¬ (i : Int) < (x.size : Int) by omega)]
    exact ev_some rfl
  | succ d ih =>
    intro i acc hd ha
    have g1 : (i : Int) < (x.size : Int) := by omega
    have g2 : (0 : Int) ≤ (i : Int) := by omega
    have g3 : (0 : Int) ≤ ((i + 1 : Nat) : Int) := by omega
    have g4 : ((i + 1 : Nat) : Int) < (x.size : Int) := by omega
    have g5 : acc.length < 140737488355328 := by omega
    have r1 := hexV_range (bt x (i : Int))
    have r2 := hexV_range (bt x ((i + 1 : Nat) : Int))
    refine ev_succ ?_
    simp only [impl_Unhex.l0, if_pos g1, if_pos g2, wn i (show i < x.size by omega) (by omega), if_pos g3, if_pos g4, if_pos g5, w2 i (by omega), index_hex _ (bt_lt x _), Option.bind_some]
    unfold unhexGo
    by_cases h1 : hexV (bt x (i : Int)) < 0
    · simp only [if_pos h1, if_pos (Or.inl h1)]
      exact ev_some rfl
    · by_cases h2 : hexV (bt x ((i + 1 : Nat) : Int)) < 0
      · simp only [if_neg h1, if_pos h2, if_pos (Or.inr h2)]
        exact ev_some rfl
      · simp only [if_neg h1, if_neg h2]
        rw [if_neg (by rintro (h | h); exact h1 h; exact h2 h), or_hex _ _ (by omega) (by omega)]
        exact ih (i + 2) _ (by omega) (by simp; omega)
theorem FnExactUnhex : laws_FnExactUnhex.Pure := by
  intro x hx0
  refine Ev.rounds ?_
  unfold laws_FnExactUnhex.f
  refine ev_if (fun _ => ev_some rfl) (fun hz => ?_)
  obtain ⟨r, h1, h2⟩ : ∃ r, Ev (fun k => spec_Unhex.f k x) r ∧ Ev (fun k => impl_Unhex.f k x) r := by
    unfold spec_Unhex.f impl_Unhex.f
    by_cases hb : (x.size : Int) > 40000
    · refine ⟨((⟨#[]⟩ : ByteArray), false), ?_, ?_⟩
      · simp only [if_pos hb]
        refine ev_succ ?_
        simp only [spec_Unhex.j0, if_true]
        exact ev_some rfl
      · refine ev_if (fun _ => ?_) (fun _ => ?_)
        · refine ev_succ ?_
          simp only [impl_Unhex.j0, decide_eq_true hb, if_true]
          exact ev_some rfl
        · refine ev_succ ?_
          simp only [impl_Unhex.j0, if_true]
          exact ev_some rfl
    · by_cases hm : (x.size : Int) % 2 = 0
      · obtain ⟨d, hd⟩ : ∃ d, x.size = 0 + 2 * d := ⟨x.size / 2, by omega⟩
        refine ⟨unhexGo x d 0 [], ?_, ?_⟩
        · simp only [if_neg hb]
          refine ev_succ ?_
          have hm2 : ((x.size : Int) % 2 != 0) = false := by rw [hm]; rfl
          simp only [spec_Unhex.j0, hm2, Bool.false_eq_true, if_false]
          exact spec_Unhex_l0 x (by omega) d 0 [] hd (Nat.le_refl _)
        · simp only [if_pos hm]
          refine ev_succ ?_
          simp only [impl_Unhex.j0, decide_eq_false hb, Bool.false_eq_true, if_false]
          exact impl_Unhex_l0 x (by omega) d 0 [] hd (Nat.le_refl _)
      · refine ⟨((⟨#[]⟩ : ByteArray), false), ?_, ?_⟩
        · simp only [if_neg hb]
          refine ev_succ ?_
          have hm2 : ((x.size : Int) % 2 != 0) = true := by simpa using hm
          simp only [spec_Unhex.j0, hm2, if_true]
          exact ev_some rfl
        · simp only [if_neg hm]
          refine ev_succ ?_
          simp only [impl_Unhex.j0, if_true]
          exact ev_some rfl
  refine Ev.bind h1 ?_
  refine Ev.bind h2 ?_
  simp only [if_true, bne_self_eq_false, Bool.false_eq_true, if_false]
  exact ev_some rfl

end Go.Proofs.Ytneffinmiffhpaa.Pure
