/- The pure statement of FnExactHex, over numbers and lists: it is true of every argument; no condition but the bounds that the statement itself names. -/
import Derived.Test.YtpmapmgjdecicaaPFnExactHexx1
import Derived.Test.YtpmapmgjdecicaaBase
set_option linter.unusedVariables false
set_option linter.unusedSimpArgs false
namespace Go.Proofs.Ytpmapmgjdecicaa.Pure
open Go.RowKit Go.Proofs.Ytpmapmgjdecicaa.PFnExactHex Go.Proofs.YtpmapmgjdecicaaW.PrintWords Go.Proofs.YtpmapmgjdecicaaW.PrintLast Go.Proofs.YtpmapmgjdecicaaW.PrintMore Go.Proofs.Ytpmapmgjdecicaa.Base

/-! hex -/
def hexFig (v : Int) : Int := if v < 10 then 48 + v else 87 + v
def hexL : List Int → List Int
  | [] => []
  | b :: l => hexFig (b / 16) :: hexFig (b % 16) :: hexL l
def hexM (x : ByteArray) : ByteArray × Bool := if (x.size : Int) > 20000 then ((⟨#[]⟩ : ByteArray), false) else (strOfNums (hexL (bytesOf x)), true)
theorem hexL_length (l : List Int) : (hexL l).length = 2 * l.length := by
  induction l with
  | nil => rfl
  | cons b l ih => simp [hexL, ih]; omega
theorem spec_l01Figure_eq (v : Int) (h : 0 ≤ v ∧ v < 16) : spec_l01Figure.f v = some (hexFig v) := by
  unfold spec_l01Figure.f hexFig
  by_cases h1 : v < 10
  · rw [if_pos h1, if_pos h1, w64 (by omega) (by omega)]; congr 1; omega
  · rw [if_neg h1, if_neg h1, w64 (x := 97 + v) (by omega) (by omega), w64 (by omega) (by omega)]; congr 1; omega
theorem spec_Hex_l0 (x : ByteArray) (hx : x.size ≤ 20000) (d : Nat) : ∀ (i : Nat) (acc : List Int), x.size - i = d → i ≤ x.size → acc.length ≤ 2 * i →
    Ev (fun k => spec_Hex.l0 k x acc (i : Int)) (strOfNums (acc ++ hexL ((bytesOf x).drop i)), true) := by
  induction d with
  | zero =>
    intro i acc hd hi ha
    refine ev_succ ?_
    simp only [spec_Hex.l0, if_neg (show ¬ (i : Int) < (x.size : Int) from by omega)]
    rw [bytes_end x i (by omega)]
    exact ev_some (by simp [hexL])
  | succ d ih =>
    intro i acc hd hi ha
    refine ev_succ ?_
    have hb := bt_lt x (i : Int)
    have e1 : wrap64 (bt x (i : Int)) = bt x (i : Int) := w64 (by omega) (by omega)
    have e2 : wrap64 (Int.tdiv (bt x (i : Int)) 16) = bt x (i : Int) / 16 := by rw [Int.tdiv_eq_ediv_of_nonneg hb.1]; exact w64 (by omega) (by omega)
    have e3 : Int.tmod (bt x (i : Int)) 16 = bt x (i : Int) % 16 := Int.tmod_eq_emod_of_nonneg hb.1
    simp only [spec_Hex.l0, if_pos (show (i : Int) < (x.size : Int) from by omega), if_pos (show (0 : Int) ≤ (i : Int) from by omega), e1, e2, e3,
      spec_l01Figure_eq _ (show 0 ≤ bt x (i : Int) / 16 ∧ bt x (i : Int) / 16 < 16 from by omega), spec_l01Figure_eq _ (show 0 ≤ bt x (i : Int) % 16 ∧ bt x (i : Int) % 16 < 16 from by omega),
      Option.bind_some, List.length_cons, List.length_nil, if_pos (show acc.length + (0 + 1 + 1) < 140737488355328 from by omega), wn i (show i < x.size from by omega) (by omega)]
    rw [bytes_drop x i (by omega)]
    have := ih (i + 1) (acc ++ [hexFig (bt x (i : Int) / 16), hexFig (bt x (i : Int) % 16)]) (by omega) (by omega) (by simp; omega)
    simpa [hexL] using this
theorem spec_Hex_ev (x : ByteArray) : Ev (fun k => spec_Hex.f k x) (hexM x) := by
  unfold spec_Hex.f hexM
  by_cases h : (x.size : Int) > 20000
  · simp only [if_pos h]
    exact ev_some rfl
  · simp only [if_neg h]
    simpa using spec_Hex_l0 x (by omega) _ 0 [] rfl (by omega) (by simp)
theorem hex_table : ∀ v : Fin 16, bt (⟨#[48, 49, 50, 51, 52, 53, 54, 55, 56, 57, 97, 98, 99, 100, 101, 102]⟩ : ByteArray) (v.val : Int) = hexFig (v.val : Int) := by decide
theorem hex_at (v : Int) (h : 0 ≤ v ∧ v < 16) : bt (⟨#[48, 49, 50, 51, 52, 53, 54, 55, 56, 57, 97, 98, 99, 100, 101, 102]⟩ : ByteArray) v = hexFig v := by
  obtain ⟨n, rfl⟩ := Int.eq_ofNat_of_zero_le h.1
  exact hex_table ⟨n, by omega⟩
theorem impl_Hex_l0 (x : ByteArray) (hx : x.size ≤ 20000) (d : Nat) : ∀ (i : Nat) (acc : List Int), x.size - i = d → i ≤ x.size → acc.length ≤ 2 * i →
    Ev (fun k => impl_Hex.l0 k x acc (x.size : Int) (i : Int)) (strOfNums (acc ++ hexL ((bytesOf x).drop i)), true) := by
  induction d with
  | zero =>
    intro i acc hd hi ha
    refine ev_succ ?_
    simp only [impl_Hex.l0, if_neg (show ¬ (i : Int) < (x.size : Int) from by omega)]
    rw [bytes_end x i (by omega)]
    exact ev_some (by simp [hexL])
  | succ d ih =>
    intro i acc hd hi ha
    refine ev_succ ?_
    have hb := bt_lt x (i : Int)
    have e3 : Go.bits .and .u8 (bt x (i : Int)) 15 = bt x (i : Int) % 16 := u8_and15 _ hb.1 hb.2
    simp only [impl_Hex.l0, if_pos (show (i : Int) < (x.size : Int) from by omega), if_pos (show (0 : Int) ≤ (i : Int) from by omega), e3,
      if_pos (show 0 ≤ bt x (i : Int) / 16 from by omega), if_pos (show bt x (i : Int) / 16 < 16 from by omega), if_pos (show 0 ≤ bt x (i : Int) % 16 from by omega), if_pos (show bt x (i : Int) % 16 < 16 from by omega),
      hex_at _ (show 0 ≤ bt x (i : Int) / 16 ∧ bt x (i : Int) / 16 < 16 from by omega), hex_at _ (show 0 ≤ bt x (i : Int) % 16 ∧ bt x (i : Int) % 16 < 16 from by omega),
      Option.bind_some, List.length_cons, List.length_nil, if_pos (show acc.length + (0 + 1 + 1) < 140737488355328 from by omega), wn i (show i < x.size from by omega) (by omega)]
    rw [bytes_drop x i (by omega)]
    have := ih (i + 1) (acc ++ [hexFig (bt x (i : Int) / 16), hexFig (bt x (i : Int) % 16)]) (by omega) (by omega) (by simp; omega)
    simpa [hexL] using this
theorem impl_Hex_ev (x : ByteArray) : Ev (fun k => impl_Hex.f k x) (hexM x) := by
  unfold impl_Hex.f hexM
  by_cases h : (x.size : Int) > 20000
  · simp only [if_pos h]
    exact ev_some rfl
  · simp only [if_neg h]
    simpa using impl_Hex_l0 x (by omega) _ 0 [] rfl (by omega) (by simp)

theorem FnExactHex : laws_FnExactHex.Pure := by
  intro a h
  refine Ev.rounds ?_
  unfold laws_FnExactHex.f
  by_cases hz : (a.size : Int) > 1048576
  · simp only [if_pos hz]
    exact ev_some rfl
  · simp only [if_neg hz]
    refine Ev.bind (spec_Hex_ev a) ?_
    refine Ev.bind (impl_Hex_ev a) ?_
    simp only [if_true, bne_self_eq_false, Bool.false_eq_true, if_false]
    exact ev_some rfl

end Go.Proofs.Ytpmapmgjdecicaa.Pure
