/- The pure statement of FnNumbers, over numbers and lists: it is true of every argument; no condition but the bounds that the statement itself names. -/
import Derived.Test.YtjpngldnkgofaaaDoorPFnNumbersx6
import Derived.Test.YtjpngldnkgofaaaDoorBase
import Derived.Test.YtjpngldnkgofaaaDoorModelRead
import Derived.Test.YtjpngldnkgofaaaDoorModelTrip
import Derived.Test.YtjpngldnkgofaaaDoorModelVar
set_option linter.unusedVariables false
set_option linter.unusedSimpArgs false
namespace Go.Proofs.YtjpngldnkgofaaaDoor.Pure
open Go.RowKit Go.Proofs.YtjpngldnkgofaaaDoor.PFnNumbers Go.Proofs.YtjpngldnkgofaaaDoorW.PrintWords Go.Proofs.YtjpngldnkgofaaaDoorW.PrintLast Go.Proofs.YtjpngldnkgofaaaDoorW.PrintMore Go.Proofs.YtjpngldnkgofaaaDoor.Base

/-! in -/
theorem impl_in_eq (a b c : Int) : impl_in.f a b c = some (decide (b ≤ a ∧ a ≤ c)) := by
  unfold impl_in.f
  by_cases h : a ≥ b <;> by_cases h2 : a ≤ c <;> simp [h, h2] <;> omega

/-! var -/
theorem impl_varText_l0 (n : Nat) : ∀ (acc : List Int), n < 9223372036854775808 → acc.length + (varL n).length < 140737488355328 →
    Ev (fun k => impl_varText.l0 k (n : Int) acc) (strOfNums (acc ++ varL n)) := by
  induction n using Nat.strongRecOn with
  | _ n ih =>
    intro acc hn hl
    refine ev_succ ?_
    by_cases h : 127 < n
    · rw [varL_big h] at hl ⊢
      rw [List.length_cons] at hl
      simp only [impl_varText.l0, if_pos (show (n : Int) > 127 from by omega), if_pos (show acc.length < 140737488355328 from by omega)]
      have e1 : (n : Int) / 128 = ((n / 128 : Nat) : Int) := by omega
      have e2 : (Go.bits .or .i64 (Go.bits .and .i64 (n : Int) 127) 128) % 256 = ((n % 128 + 128 : Nat) : Int) := by
        rw [b_and127 _ (by omega) (by omega), b_or128 _ (by omega) (by omega)]; omega
      simp only [e1, e2]
      have := ih (n / 128) (by omega) (acc ++ [((n % 128 + 128 : Nat) : Int)]) (by omega) (by simp; omega)
      simpa using this
    · rw [varL_small (by omega)] at hl ⊢
      have hl' : acc.length + 1 < 140737488355328 := by simpa using hl
      simp only [impl_varText.l0, if_neg (show ¬ (n : Int) > 127 from by omega), if_pos (show acc.length < 140737488355328 from by omega)]
      rw [show (n : Int) % 256 = (n : Int) from by omega]
      exact ev_some rfl
theorem impl_varText_ev (n : Nat) (h : n < 70368744177664) : Ev (fun k => impl_varText.f k (n : Int)) (varS n) := by
  have := varL_length n
  simpa [impl_varText.f, varS] using impl_varText_l0 n [] (by omega) (by simp; omega)
theorem impl_varText_ev' (a : Int) (h0 : 0 ≤ a) (h : a < 70368744177664) : Ev (fun k => impl_varText.f k a) (varS a.toNat) := by
  obtain ⟨n, rfl⟩ := Int.eq_ofNat_of_zero_le h0
  exact impl_varText_ev n (by omega)

/-! vartext -/
def varTextM (a : Int) : ByteArray × Bool := if 0 ≤ a ∧ a ≤ 1000000000 then (varS a.toNat, true) else ((⟨#[]⟩ : ByteArray), false)
theorem impl_VarText_ev (a : Int) : Ev (fun k => impl_VarText.f k a) (varTextM a) := by
  unfold impl_VarText.f varTextM
  simp only [impl_in_eq, Option.bind_some]
  by_cases h : 0 ≤ a ∧ a ≤ 1000000000
  · simp only [decide_eq_true h, if_true, if_pos h]
    exact Ev.bind (impl_varText_ev' a h.1 (by omega)) (ev_some rfl)
  · simp only [decide_eq_false h, Bool.false_eq_true, if_false, if_neg h]
    exact ev_some rfl

/-! readvar -/
theorem or_comm_i64 (x y : Int) : Go.bits .or .i64 x y = Go.bits .or .i64 y x := by
  unfold bits
  simp only [BitVec.or_comm]
theorem shl7 (k : Nat) (hk : k < 5) (v : Int) (hv : 0 ≤ v ∧ v < 128) : shl .i64 v (wrap64 (7 * (k : Int))) = v * 128 ^ k := by
  rw [w64 (by omega) (by omega)]
  unfold shl
  have e : min (7 * (k : Int)).toNat IntKind.i64.bits = 7 * k := by
    have : IntKind.i64.bits = 64 := rfl
    omega
  rw [e, IntKind.wrap_i64]
  have h : k = 0 ∨ k = 1 ∨ k = 2 ∨ k = 3 ∨ k = 4 := by omega
  rcases h with rfl | rfl | rfl | rfl | rfl <;> omega
theorem or7 (k : Nat) (hk : k < 5) (n v : Int) (hn : 0 ≤ n ∧ n < 128 ^ k) (hv : 0 ≤ v ∧ v < 128) : Go.bits .or .i64 n (v * 128 ^ k) = n + v * 128 ^ k := by
  rw [or_comm_i64]
  have h : k = 0 ∨ k = 1 ∨ k = 2 ∨ k = 3 ∨ k = 4 := by omega
  rcases h with rfl | rfl | rfl | rfl | rfl
  · rw [bits_join .i64 63 (by decide) b_wraps_i64 0 (v * 128 ^ 0) n (by omega) (by omega) (by omega) hn.1 (by omega) (by omega)]; omega
  · rw [bits_join .i64 63 (by decide) b_wraps_i64 7 (v * 128 ^ 1) n (by omega) (by omega) (by omega) hn.1 (by omega) (by omega)]; omega
  · rw [bits_join .i64 63 (by decide) b_wraps_i64 14 (v * 128 ^ 2) n (by omega) (by omega) (by omega) hn.1 (by omega) (by omega)]; omega
  · rw [bits_join .i64 63 (by decide) b_wraps_i64 21 (v * 128 ^ 3) n (by omega) (by omega) (by omega) hn.1 (by omega) (by omega)]; omega
  · rw [bits_join .i64 63 (by decide) b_wraps_i64 28 (v * 128 ^ 4) n (by omega) (by omega) (by omega) hn.1 (by omega) (by omega)]; omega
theorem pow5 (k : Nat) (hk : k < 5) (n v : Int) (hn : 0 ≤ n ∧ n < 128 ^ k) (hv : 0 ≤ v ∧ v < 128) : 0 ≤ n + v * 128 ^ k ∧ n + v * 128 ^ k < 128 ^ (k + 1) ∧ 0 ≤ v * 128 ^ k ∧ v * 128 ^ k < 34359738368 ∧ n + v * 128 ^ k < 34359738368 ∧ (128 : Int) ^ k ≤ 268435456 ∧ 0 < (128 : Int) ^ k := by
  have h : k = 0 ∨ k = 1 ∨ k = 2 ∨ k = 3 ∨ k = 4 := by omega
  rcases h with rfl | rfl | rfl | rfl | rfl <;> omega
theorem impl_ReadVar_l0 (x : ByteArray) (hx : x.size ≤ 140737488351232) (a : Nat) (ha : a ≤ x.size) (f : Nat) : ∀ (k : Nat) (n : Int), k + f = 5 → 0 ≤ n ∧ n < 128 ^ k →
    Ev (fun r => impl_ReadVar.l0 r x (a : Int) n (k : Int)) (rvGo x a f k n) := by
  induction f with
  | zero =>
    intro k n hk hn
    refine ev_succ ?_
    simp only [impl_ReadVar.l0, if_neg (show ¬ (k : Int) < 5 from by omega)]
    refine ev_succ ?_
    simp only [impl_ReadVar.j1, Bool.false_eq_true, if_false]
    exact ev_some rfl
  | succ f ih =>
    intro k n hk hn
    refine ev_succ ?_
    have hk1' : k + 1 + f = 5 := by omega
    have e1 : wrap64 ((a : Int) + (k : Int)) = ((a + k : Nat) : Int) := by rw [w64 (by omega) (by omega)]; omega
    simp only [impl_ReadVar.l0, if_pos (show (k : Int) < 5 from by omega), e1]
    refine ev_succ ?_
    unfold rvGo
    by_cases h1 : a + k < x.size
    · have hb := bt_lt x ((a + k : Nat) : Int)
      have hv : 0 ≤ bt x ((a + k : Nat) : Int) % 128 ∧ bt x ((a + k : Nat) : Int) % 128 < 128 := by omega
      have g1 : ((a + k : Nat) : Int) < (x.size : Int) := by omega
      have g2 : (0 : Int) ≤ ((a + k : Nat) : Int) := by omega
      have g3 : (0 : Int) ≤ 7 * (k : Int) := by omega
      have g4 : bt x ((a + k : Nat) : Int) < 9223372036854775808 := by omega
      have g5 : k < 5 := by omega
      have g6 : x.size ≤ 140737488355328 := by omega
      have g7 : -9223372036854775808 ≤ bt x ((a + k : Nat) : Int) ∧ bt x ((a + k : Nat) : Int) ≤ 9223372036854775807 := by omega
      have g8 : -9223372036854775808 ≤ 7 * (k : Int) ∧ 7 * (k : Int) ≤ 9223372036854775807 := by omega
      have g9 : 5 ≤ 140737488355328 := by omega
      have e6 : wrap64 (((a + k : Nat) : Int) + 1) = ((a + k + 1 : Nat) : Int) := wn (a + k) h1 g6
      have e7 : wrap64 ((k : Int) + 1) = ((k + 1 : Nat) : Int) := wn k g5 g9
      have e2 : wrap64 (bt x ((a + k : Nat) : Int)) = bt x ((a + k : Nat) : Int) := w64 g7.1 g7.2
      have e3 : wrap64 (7 * (k : Int)) = 7 * (k : Int) := w64 g8.1 g8.2
      have e4 := shl7 k g5 _ hv
      rw [e3] at e4
      have e5 := or7 k g5 n _ hn hv
      have hp := pow5 k g5 n _ hn hv
      have hk1 : k + 1 + f = 5 := hk1'
      simp only [impl_ReadVar.j1, decide_eq_true g1, if_true, e1, e2, e3, b_and127 _ hb.1 g4, e4, e5, e6, e7, if_pos g2, if_pos g1, if_pos g3, if_pos h1]
      clear e1 e2 e3 e4 e5 e6 e7
      obtain ⟨p, hpp⟩ : ∃ p : Int, (128 : Int) ^ k = p := ⟨_, rfl⟩
      simp only [hpp] at hp ⊢
      by_cases h2 : bt x ((a + k : Nat) : Int) > 127
      · simp only [if_pos h2, if_neg (show ¬ bt x ((a + k : Nat) : Int) < 128 from by omega)]
        exact ih (k + 1) _ hk1 ⟨hp.1, hp.2.1⟩
      · simp only [if_neg h2, if_pos (show bt x ((a + k : Nat) : Int) < 128 from by omega)]
        by_cases h3 : bt x ((a + k : Nat) : Int) = 0
        · by_cases h4 : 0 < k
          · simp only [if_pos h3, if_pos (show (k : Int) > 0 from by omega), if_pos (show (bt x ((a + k : Nat) : Int) = 0 ∧ 0 < k) ∨ n + bt x ((a + k : Nat) : Int) % 128 * p > 1000000000 from .inl ⟨h3, h4⟩)]
            exact ev_some rfl
          · by_cases h5 : n + bt x ((a + k : Nat) : Int) % 128 * p > 1000000000
            · simp only [if_pos h3, if_neg (show ¬ (k : Int) > 0 from by omega), if_pos h5, if_pos (show (bt x ((a + k : Nat) : Int) = 0 ∧ 0 < k) ∨ n + bt x ((a + k : Nat) : Int) % 128 * p > 1000000000 from .inr h5)]
              exact ev_some rfl
            · simp only [if_pos h3, if_neg (show ¬ (k : Int) > 0 from by omega), if_neg h5, if_neg (show ¬ ((bt x ((a + k : Nat) : Int) = 0 ∧ 0 < k) ∨ n + bt x ((a + k : Nat) : Int) % 128 * p > 1000000000) from fun h => h.elim (fun h => h4 h.2) h5)]
              exact ev_some rfl
        · by_cases h5 : n + bt x ((a + k : Nat) : Int) % 128 * p > 1000000000
          · simp only [if_neg h3, if_pos h5, if_pos (show (bt x ((a + k : Nat) : Int) = 0 ∧ 0 < k) ∨ n + bt x ((a + k : Nat) : Int) % 128 * p > 1000000000 from .inr h5)]
            exact ev_some rfl
          · simp only [if_neg h3, if_neg h5, if_neg (show ¬ ((bt x ((a + k : Nat) : Int) = 0 ∧ 0 < k) ∨ n + bt x ((a + k : Nat) : Int) % 128 * p > 1000000000) from fun h => h.elim (fun h => h3 h.1) h5)]
            exact ev_some rfl
    · simp only [impl_ReadVar.j1, decide_eq_false (show ¬ ((a + k : Nat) : Int) < (x.size : Int) from by omega), Bool.false_eq_true, if_false, if_neg h1]
      exact ev_some rfl
theorem impl_ReadVar_ev (x : ByteArray) (hx : x.size ≤ 140737488351232) (a : Int) : Ev (fun r => impl_ReadVar.f r x a) (readVarM x a) := by
  unfold impl_ReadVar.f readVarM
  simp only [impl_in_eq, Option.bind_some]
  by_cases h : 0 ≤ a ∧ a ≤ (x.size : Int)
  · obtain ⟨m, rfl⟩ := Int.eq_ofNat_of_zero_le h.1
    simp only [decide_eq_true h, if_true, if_pos h]
    exact impl_ReadVar_l0 x hx m (by omega) 5 0 0 rfl (by omega)
  · simp only [decide_eq_false h, Bool.false_eq_true, if_false, if_neg h]
    exact ev_some rfl

/-! shorttext -/
def shortTextM (a : ByteArray) : ByteArray × Bool := if (a.size : Int) > 20000 then ((⟨#[]⟩ : ByteArray), false) else (varS a.size ++ a, true)
theorem impl_ShortText_ev (a : ByteArray) : Ev (fun k => impl_ShortText.f k a) (shortTextM a) := by
  unfold impl_ShortText.f shortTextM
  by_cases h : (a.size : Int) > 20000
  · simp only [if_pos h]
    exact ev_some rfl
  · simp only [if_neg h]
    refine Ev.bind (impl_varText_ev a.size (by omega)) ?_
    have h1 := varS_size a.size
    have h2 := varL_length a.size
    simp only [if_pos (show (varS a.size).size + a.size ≤ 9223372036854775807 from by omega)]
    exact ev_some rfl

/-! readshort -/
theorem impl_ReadShort_ev (x : ByteArray) (hx : x.size ≤ 140737488351232) (a : Int) : Ev (fun r => impl_ReadShort.f r x a) (readShortM x a) := by
  unfold impl_ReadShort.f readShortM
  refine Ev.bind (impl_ReadVar_ev x hx a) ?_
  obtain ⟨i1, i2, i3, i4, i5⟩ := readVarM_range x a
  obtain ⟨⟨n, e, ok⟩, hv⟩ : ∃ v, readVarM x a = v := ⟨_, rfl⟩
  simp only [hv] at i1 i2 i3 i4 i5 ⊢
  cases ok with
  | false => simp only [Bool.false_eq_true, if_false, false_and]; exact ev_some rfl
  | true =>
    simp only [if_true, true_and]
    by_cases h1 : n > 20000
    · simp only [if_pos h1, if_neg (show ¬ (n ≤ 20000 ∧ n ≤ (x.size : Int) - e) from by omega)]; exact ev_some rfl
    · rw [w64 (x := (x.size : Int) - e) (by omega) (by omega), w64 (x := e + n) (by omega) (by omega)]
      by_cases h2 : n > (x.size : Int) - e
      · simp only [if_neg h1, if_pos h2, if_neg (show ¬ (n ≤ 20000 ∧ n ≤ (x.size : Int) - e) from by omega)]; exact ev_some rfl
      · simp only [if_neg h1, if_neg h2, if_pos (show n ≤ 20000 ∧ n ≤ (x.size : Int) - e from by omega), if_pos i3, if_pos (show e ≤ e + n from by omega), if_pos (show e + n ≤ (x.size : Int) from by omega)]; exact ev_some rfl

/-! hex -/
def hexFig (v : Int) : Int := if v < 10 then 48 + v else 87 + v
def hexL : List Int → List Int
  | [] => []
  | b :: l => hexFig (b / 16) :: hexFig (b % 16) :: hexL l
def hexM (x : ByteArray) : ByteArray × Bool := if (x.size : Int) > 20000 then ((⟨#[]⟩ : ByteArray), false) else (strOfNums (hexL (bytesOf x)), true)
theorem hexL_length (l : List Int) : (hexL l).length = 2 * l.length := by
  induction l with
  | nil => rfl
  | cons b l ih => simp [hexL, ih]; omega
theorem hex_table : ∀ v : Fin 16, bt (⟨#[48, 49, 50, 51, 52, 53, 54, 55, 56, 57, 97, 98, 99, 100, 101, 102]⟩ : ByteArray) (v.val : Int) = hexFig (v.val : Int) := by decide
theorem hex_at (v : Int) (h : 0 ≤ v ∧ v < 16) : bt (⟨#[48, 49, 50, 51, 52, 53, 54, 55, 56, 57, 97, 98, 99, 100, 101, 102]⟩ : ByteArray) v = hexFig v := by
  obtain ⟨n, rfl⟩ := Int.eq_ofNat_of_zero_le h.1
  exact hex_table ⟨n, by omega⟩
theorem impl_Hex_l0 (x : ByteArray) (hx : x.size ≤ 20000) (d : Nat) : ∀ (i : Nat) (acc : List Int), x.size - i = d → i ≤ x.size → acc.length ≤ 2 * i →
    Ev (fun k => impl_Hex.l0 k x acc (x.size : Int) (i : Int)) (strOfNums (acc ++ hexL ((bytesOf x).drop i)), true) := by
  induction d with
  | zero =>
    intro i acc hd hi ha
    refine ev_succ ?_
    simp only [impl_Hex.l0, if_neg (show ¬ (i : Int) < (x.size : Int) from by omega)]
    rw [bytes_end x i (by omega)]
    exact ev_some (by simp [hexL])
  | succ d ih =>
    intro i acc hd hi ha
    refine ev_succ ?_
    have hb := bt_lt x (i : Int)
    have e3 : Go.bits .and .u8 (bt x (i : Int)) 15 = bt x (i : Int) % 16 := u8_and15 _ hb.1 hb.2
    simp only [impl_Hex.l0, if_pos (show (i : Int) < (x.size : Int) from by omega), if_pos (show (0 : Int) ≤ (i : Int) from by omega), e3,
      if_pos (show 0 ≤ bt x (i : Int) / 16 from by omega), if_pos (show bt x (i : Int) / 16 < 16 from by omega), if_pos (show 0 ≤ bt x (i : Int) % 16 from by omega), if_pos (show bt x (i : Int) % 16 < 16 from by omega),
      hex_at _ (show 0 ≤ bt x (i : Int) / 16 ∧ bt x (i : Int) / 16 < 16 from by omega), hex_at _ (show 0 ≤ bt x (i : Int) % 16 ∧ bt x (i : Int) % 16 < 16 from by omega),
      Option.bind_some, List.length_cons, List.length_nil, if_pos (show acc.length + (0 + 1 + 1) < 140737488355328 from by omega), wn i (show i < x.size from by omega) (by omega)]
    rw [bytes_drop x i (by omega)]
    have := ih (i + 1) (acc ++ [hexFig (bt x (i : Int) / 16), hexFig (bt x (i : Int) % 16)]) (by omega) (by omega) (by simp; omega)
    simpa [hexL] using this
theorem impl_Hex_ev (x : ByteArray) : Ev (fun k => impl_Hex.f k x) (hexM x) := by
  unfold impl_Hex.f hexM
  by_cases h : (x.size : Int) > 20000
  · simp only [if_pos h]
    exact ev_some rfl
  · simp only [if_neg h]
    simpa using impl_Hex_l0 x (by omega) _ 0 [] rfl (by omega) (by simp)

/-! unhex -/
def hexV (b : Int) : Int := if 48 ≤ b ∧ b ≤ 57 then b - 48 else if 97 ≤ b ∧ b ≤ 102 then b - 87 else -1
theorem hexV_range (b : Int) : -1 ≤ hexV b ∧ hexV b < 16 := by
  unfold hexV
  by_cases h : 48 ≤ b ∧ b ≤ 57
  · rw [if_pos h]; omega
  · rw [if_neg h]
    by_cases h2 : 97 ≤ b ∧ b ≤ 102
    · rw [if_pos h2]; omega
    · rw [if_neg h2]; omega
set_option maxRecDepth 100000 in
theorem index_hex (b : Int) (hb : 0 ≤ b ∧ b < 256) : strings_IndexByte.f (⟨#[48, 49, 50, 51, 52, 53, 54, 55, 56, 57, 97, 98, 99, 100, 101, 102]⟩ : ByteArray) b = some (hexV b) := by
  have h : ∀ n : Fin 256, Lib.indexByte [48, 49, 50, 51, 52, 53, 54, 55, 56, 57, 97, 98, 99, 100, 101, 102] n.val.toUInt8 = hexV (n.val : Int) := by decide
  obtain ⟨n, rfl⟩ := Int.eq_ofNat_of_zero_le hb.1
  unfold strings_IndexByte.f
  rw [Int.toNat_natCast]
  exact congrArg some (h ⟨n, by omega⟩)
theorem or_hex (h l : Int) (hh : 0 ≤ h ∧ h < 16) (hl : 0 ≤ l ∧ l < 16) : Go.bits .or .i64 (wrap64 (h * 16)) l = wrap64 (wrap64 (16 * h) + l) := by
  have e1 : wrap64 (h * 16) = h * 16 := w64 (by omega) (by omega)
  have e2 : wrap64 (16 * h) = 16 * h := w64 (by omega) (by omega)
  have e3 : wrap64 (16 * h + l) = 16 * h + l := w64 (by omega) (by omega)
  rw [e1, e2, e3]
  rw [bits_join .i64 63 (by decide) b_wraps_i64 4 (h * 16) l (by omega) (by omega) (by omega) hl.1 (by omega) (by omega)]
  omega
def unhexGo (x : ByteArray) : Nat → Nat → List Int → ByteArray × Bool
  | 0, _, acc => (strOfNums acc, true)
  | d + 1, i, acc => if hexV (bt x (i : Int)) < 0 ∨ hexV (bt x ((i + 1 : Nat) : Int)) < 0 then ((⟨#[]⟩ : ByteArray), false) else unhexGo x d (i + 2) (acc ++ [(wrap64 (wrap64 (16 * hexV (bt x (i : Int))) + hexV (bt x ((i + 1 : Nat) : Int)))) % 256])
theorem w2 (i : Nat) (h : i ≤ 100000) : wrap64 ((i : Int) + 2) = ((i + 2 : Nat) : Int) := by rw [w64 (by omega) (by omega)]; omega
theorem impl_Unhex_l0 (x : ByteArray) (hx : x.size ≤ 40000) (d : Nat) : ∀ (i : Nat) (acc : List Int), x.size = i + 2 * d → acc.length ≤ i → Ev (fun k => impl_Unhex.l0 k x acc (i : Int)) (unhexGo x d i acc) := by
  induction d with
  | zero =>
    intro i acc hd ha
    refine ev_succ ?_
    simp only [impl_Unhex.l0, if_neg (show ¬ (i : Int) < (x.size : Int) by omega)]
    exact ev_some rfl
  | succ d ih =>
    intro i acc hd ha
    have g1 : (i : Int) < (x.size : Int) := by omega
    have g2 : (0 : Int) ≤ (i : Int) := by omega
    have g3 : (0 : Int) ≤ ((i + 1 : Nat) : Int) := by omega
    have g4 : ((i + 1 : Nat) : Int) < (x.size : Int) := by omega
    have g5 : acc.length < 140737488355328 := by omega
    have r1 := hexV_range (bt x (i : Int))
    have r2 := hexV_range (bt x ((i + 1 : Nat) : Int))
    refine ev_succ ?_
    simp only [impl_Unhex.l0, if_pos g1, if_pos g2, wn i (show i < x.size by omega) (by omega), if_pos g3, if_pos g4, if_pos g5, w2 i (by omega), index_hex _ (bt_lt x _), Option.bind_some]
    unfold unhexGo
    by_cases h1 : hexV (bt x (i : Int)) < 0
    · simp only [if_pos h1, if_pos (Or.inl h1)]
      exact ev_some rfl
    · by_cases h2 : hexV (bt x ((i + 1 : Nat) : Int)) < 0
      · simp only [if_neg h1, if_pos h2, if_pos (Or.inr h2)]
        exact ev_some rfl
      · simp only [if_neg h1, if_neg h2]
        rw [if_neg (by rintro (h | h); exact h1 h; exact h2 h), or_hex _ _ (by omega) (by omega)]
        exact ih (i + 2) _ (by omega) (by simp; omega)
def unhexM (x : ByteArray) : ByteArray × Bool := if (x.size : Int) > 40000 ∨ (x.size : Int) % 2 ≠ 0 then ((⟨#[]⟩ : ByteArray), false) else unhexGo x (x.size / 2) 0 []
theorem impl_Unhex_ev (x : ByteArray) : Ev (fun k => impl_Unhex.f k x) (unhexM x) := by
  unfold impl_Unhex.f unhexM
  by_cases hb : (x.size : Int) > 40000
  · rw [if_pos (Or.inl hb)]
    refine ev_if (fun _ => ?_) (fun _ => ?_)
    · refine ev_succ ?_
      simp only [impl_Unhex.j0, decide_eq_true hb, if_true]
      exact ev_some rfl
    · refine ev_succ ?_
      simp only [impl_Unhex.j0, if_true]
      exact ev_some rfl
  · by_cases hm : (x.size : Int) % 2 = 0
    · rw [if_neg (show ¬ ((x.size : Int) > 40000 ∨ (x.size : Int) % 2 ≠ 0) from fun h => h.elim hb (fun h => h hm))]
      simp only [if_pos hm]
      refine ev_succ ?_
      simp only [impl_Unhex.j0, decide_eq_false hb, Bool.false_eq_true, if_false]
      exact impl_Unhex_l0 x (by omega) (x.size / 2) 0 [] (by omega) (Nat.le_refl _)
    · rw [if_pos (Or.inr hm)]
      simp only [if_neg hm]
      refine ev_succ ?_
      simp only [impl_Unhex.j0, if_true]
      exact ev_some rfl

/-! draws -/
theorem and255 (x : Int) : 0 ≤ bits .and .i64 x 255 ∧ bits .and .i64 x 255 ≤ 255 := by
  unfold bits
  have h : (BitVec.ofInt (IntKind.bits .i64) x &&& BitVec.ofInt (IntKind.bits .i64) 255).toNat ≤ 255 := by
    rw [BitVec.toNat_and]
    exact Nat.le_trans Nat.and_le_right (by decide)
  simp only
  rw [b_wraps_i64 _ (by omega) (by omega)]
  omega
/-- Where a drawing stands: inside its bytes. -/
def Inside (l : List Int) (p : Int) : Prop := 0 ≤ p ∧ p ≤ (l.length : Int)
theorem l01Byte_some (l : List Int) (hl : l.length ≤ 1048576) (p s : Int) (hp : Inside l p) : ∃ b p' s', spec_l01Byte.f l p s = some (b, p', s') ∧ (0 ≤ b ∧ b ≤ 255) ∧ Inside l p' := by
  obtain ⟨h0, h1⟩ := hp
  unfold spec_l01Byte.f
  by_cases h : p < (l.length : Int)
  · rw [if_pos h, if_pos h0]
    refine ⟨_, _, _, rfl, and255 _, ?_⟩
    have e := w64 (x := p + 1) (by omega) (by omega)
    rw [e]
    exact ⟨by omega, by omega⟩
  · rw [if_neg h]
    exact ⟨_, _, _, rfl, and255 _, h0, h1⟩
theorem l01Below_some (l : List Int) (hl : l.length ≤ 1048576) (p s n : Int) (hp : Inside l p) : ∃ b p' s', spec_l01Below.f l p s n = some (b, p', s') ∧ (0 ≤ b ∧ (0 < n → b < n)) ∧ Inside l p' := by
  unfold spec_l01Below.f
  by_cases h : n ≤ 0
  · rw [if_pos h]
    exact ⟨_, _, _, rfl, ⟨Int.le_refl _, fun h2 => by omega⟩, hp⟩
  · rw [if_neg h]
    by_cases h2 : n ≤ 256
    · rw [if_pos h2]
      obtain ⟨b, p', s', e, hb, hp'⟩ := l01Byte_some l hl p s hp
      simp only [e, Option.bind_some, if_neg (show ¬ n = 0 by omega)]
      exact ⟨_, _, _, rfl, ⟨Int.tmod_nonneg _ hb.1, fun h3 => Int.tmod_lt_of_pos _ h3⟩, hp'⟩
    · rw [if_neg h2]
      obtain ⟨b1, p1, s1, e1, hb1, hp1⟩ := l01Byte_some l hl p s hp
      obtain ⟨b2, p2, s2, e2, hb2, hp2⟩ := l01Byte_some l hl p1 s1 hp1
      obtain ⟨b3, p3, s3, e3, hb3, hp3⟩ := l01Byte_some l hl p2 s2 hp2
      obtain ⟨b4, p4, s4, e4, hb4, hp4⟩ := l01Byte_some l hl p3 s3 hp3
      simp only [e1, e2, e3, e4, Option.bind_some, if_neg (show ¬ n = 0 by omega)]
      refine ⟨_, _, _, rfl, ⟨Int.tmod_nonneg _ ?_, fun h3 => Int.tmod_lt_of_pos _ h3⟩, hp4⟩
      have a1 := w64 (x := b1 * 16777216) (by omega) (by omega)
      rw [a1]
      clear a1
      have a2 := w64 (x := b2 * 65536) (by omega) (by omega)
      rw [a2]
      clear a2
      have a3 := w64 (x := b3 * 256) (by omega) (by omega)
      rw [a3]
      clear a3
      have a4 := w64 (x := b1 * 16777216 + b2 * 65536) (by omega) (by omega)
      rw [a4]
      clear a4
      have a5 := w64 (x := b1 * 16777216 + b2 * 65536 + b3 * 256) (by omega) (by omega)
      rw [a5]
      clear a5
      have a6 := w64 (x := b1 * 16777216 + b2 * 65536 + b3 * 256 + b4) (by omega) (by omega)
      rw [a6]
      omega
theorem l01Once_some (l : List Int) (hl : l.length ≤ 1048576) (p s n : Int) (hp : Inside l p) : ∃ (b : Bool) (p' s' : Int), spec_l01Once.f l p s n = some (b, p', s') ∧ Inside l p' := by
  unfold spec_l01Once.f
  obtain ⟨b, p', s', e, _, hp'⟩ := l01Below_some l hl p s n hp
  simp only [e, Option.bind_some]
  exact ⟨_, _, _, rfl, hp'⟩
theorem l01Text_l0 (l : List Int) (hl : l.length ≤ 1048576) (n : Nat) (hn : n ≤ 5000) (d : Nat) : ∀ (i : Nat) (acc : List Int) (p s : Int), n - i = d → i ≤ n → acc.length = i → Inside l p →
    ∃ (t : ByteArray) (p' s' : Int), Ev (fun k => spec_l01Text.l0 k (n : Int) acc (i : Int) l p s) (t, p', s') ∧ t.size = n ∧ Inside l p' := by
  induction d with
  | zero =>
    intro i acc p s hd hi ha hp
    refine ⟨strOfNums acc, p, s, ev_succ ?_, by rw [strOfNums_size]; omega, hp⟩
    simp only [spec_l01Text.l0, if_neg (show ¬ (i : Int) < (n : Int) by omega)]
    exact ev_some rfl
  | succ d ih =>
    intro i acc p s hd hi ha hp
    obtain ⟨b, p1, s1, e, hb, hp1⟩ := l01Byte_some l hl p s hp
    obtain ⟨t, p', s', h, hs, hp'⟩ := ih (i + 1) (acc ++ [b % 256]) p1 s1 (by omega) (by omega) (by simp; omega) hp1
    refine ⟨t, p', s', ev_succ ?_, hs, hp'⟩
    simp only [spec_l01Text.l0, if_pos (show (i : Int) < (n : Int) by omega), e, Option.bind_some, if_pos (show acc.length < 140737488355328 by omega), wn i (show i < n by omega) (by omega)]
    exact h
theorem l01Text_some (l : List Int) (hl : l.length ≤ 1048576) (p s n : Int) (hn : 0 ≤ n ∧ n ≤ 5000) (hp : Inside l p) : ∃ (t : ByteArray) (p' s' : Int), Ev (fun k => spec_l01Text.f k l p s n) (t, p', s') ∧ (t.size : Int) = n ∧ Inside l p' := by
  obtain ⟨m, rfl⟩ := Int.eq_ofNat_of_zero_le hn.1
  obtain ⟨t, p', s', h, hs, hp'⟩ := l01Text_l0 l hl m (by omega) m 0 [] p s (by omega) (by omega) rfl hp
  refine ⟨t, p', s', ?_, by omega, hp'⟩
  unfold spec_l01Text.f
  simp only [if_neg (show ¬ (m : Int) > 5000 by omega)]
  refine ev_succ ?_
  simp only [spec_l01Text.j0]
  exact h
theorem l01New_l0 (l : List Int) (hl : l.length ≤ 1048576) (d : Nat) : ∀ (i : Nat) (s : Int), l.length - i = d → i ≤ l.length → ∃ s', Ev (fun k => spec_l01New.l0 k l s (i : Int)) (l, 0, s') := by
  induction d with
  | zero =>
    intro i s hd hi
    refine ⟨s, ev_succ ?_⟩
    simp only [spec_l01New.l0, if_neg (show ¬ (i : Int) < (l.length : Int) by omega)]
    exact ev_some rfl
  | succ d ih =>
    intro i s hd hi
    by_cases h : (i : Int) < 4000
    · obtain ⟨s', hs⟩ := ih (i + 1) (bits .and .i64 (wrap64 ((wrap64 ((wrap64 (s * 131)) + (wrap64 (rd l (i : Int))))) + 7)) 1073741823) (by omega) (by omega)
      refine ⟨s', ev_succ ?_⟩
      simp only [spec_l01New.l0, if_pos (show (i : Int) < (l.length : Int) by omega), if_pos h, if_pos (show (0 : Int) ≤ (i : Int) by omega), wn i (show i < l.length by omega) (by omega)]
      exact hs
    · refine ⟨s, ev_succ ?_⟩
      simp only [spec_l01New.l0, if_pos (show (i : Int) < (l.length : Int) by omega), if_neg h]
      exact ev_some rfl
theorem l01New_some (l : List Int) (hl : l.length ≤ 1048576) : ∃ s', Ev (fun k => spec_l01New.f k l) (l, 0, s') := by
  unfold spec_l01New.f
  exact l01New_l0 l hl l.length 0 _ (by omega) (by omega)
theorem inside0 (l : List Int) : Inside l 0 := ⟨Int.le_refl _, by omega⟩

/-! pick -/
theorem l01Long_l0 (n : Nat) (v : Int) (hn : n ≤ 100000) (d : Nat) : ∀ (i : Nat) (acc : List Int), n - i = d → i ≤ n → acc.length = n → ∃ t : ByteArray, Ev (fun k => spec_l01Long.l0 k (n : Int) v acc (i : Int)) t ∧ t.size = n := by
  induction d with
  | zero =>
    intro i acc hd hi ha
    refine ⟨strOfNums acc, ev_succ ?_, by rw [strOfNums_size]; exact ha⟩
    simp only [spec_l01Long.l0, if_neg (show ¬ (i : Int) < (n : Int) by omega)]
    exact ev_some rfl
  | succ d ih =>
    intro i acc hd hi ha
    obtain ⟨t, h, hs⟩ := ih (i + 1) (acc.set i v) (by omega) (by omega) (by rw [List.length_set]; exact ha)
    refine ⟨t, ev_succ ?_, hs⟩
    simp only [spec_l01Long.l0, if_pos (show (i : Int) < (n : Int) by omega), if_pos (show (0 : Int) ≤ (i : Int) by omega), ha, Int.toNat_natCast, wn i (show i < n by omega) (by omega)]
    exact h
theorem l01Long_some (n : Int) (v : Int) (hn : 0 ≤ n ∧ n ≤ 100000) : ∃ t : ByteArray, Ev (fun k => spec_l01Long.f k n v) t ∧ (t.size : Int) = n := by
  obtain ⟨m, rfl⟩ := Int.eq_ofNat_of_zero_le hn.1
  obtain ⟨t, h, hs⟩ := l01Long_l0 m v (by omega) m 0 (List.replicate m 0) (by omega) (by omega) (by simp)
  refine ⟨t, ?_, by omega⟩
  unfold spec_l01Long.f
  simp only [if_pos hn.1, Int.toNat_natCast, if_pos (show m ≤ 281474976710656 by omega)]
  exact h
theorem l01PickInt_some (l : List Int) (hl : l.length ≤ 1048576) (p s : Int) (hp : Inside l p) (L : List Int) (hL : 0 < L.length) : ∃ v p' s', spec_l01PickInt.f l p s L = some (v, p', s') ∧ v ∈ L ∧ Inside l p' := by
  unfold spec_l01PickInt.f
  obtain ⟨b, p1, s1, e, hb, hp1⟩ := l01Below_some l hl p s (L.length : Int) hp
  have h2 := hb.2 (by omega)
  refine ⟨rd L b, p1, s1, ?_, ?_, hp1⟩
  · simp only [e, Option.bind_some, if_pos hb.1, if_pos h2]
  · unfold rd
    rw [List.getD_eq_getElem?_getD, List.getElem?_eq_getElem (show b.toNat < L.length by omega)]
    exact List.getElem_mem _

theorem hexV_fig (v : Int) (h : 0 ≤ v ∧ v < 16) : hexV (hexFig v) = v := by
  unfold hexFig hexV
  by_cases h1 : v < 10
  · rw [if_pos h1, if_pos (by omega)]; omega
  · rw [if_neg h1, if_neg (by omega), if_pos (by omega)]; omega
theorem unhexGo_hex (y : ByteArray) (l : List Int) (hl : ∀ b, b ∈ l → 0 ≤ b ∧ b < 256) : ∀ (i : Nat) (acc : List Int), (bytesOf y).drop i = hexL l → unhexGo y l.length i acc = (strOfNums (acc ++ l), true) := by
  induction l with
  | nil => intro i acc _; simp [unhexGo]
  | cons b l ih =>
    intro i acc h
    have hb := hl b (by simp)
    rw [hexL] at h
    obtain ⟨_, b1, h1⟩ := drop_bt y i _ _ h
    obtain ⟨_, b2, h2⟩ := drop_bt y (i + 1) _ _ h1
    have v1 := hexV_fig (b / 16) (by omega)
    have v2 := hexV_fig (b % 16) (by omega)
    simp only [List.length_cons, unhexGo, b1, b2, v1, v2]
    rw [if_neg (by omega), ih (fun c hc => hl c (by simp [hc])) (i + 2) _ h2]
    have e : wrap64 (wrap64 (16 * (b / 16)) + b % 16) % 256 = b := by
      rw [w64 (x := 16 * (b / 16)) (by omega) (by omega), w64 (by omega) (by omega)]
      omega
    rw [e, List.append_assoc]
    rfl
theorem unhexM_hex (t : ByteArray) (h : t.size ≤ 300) : hexM t = (strOfNums (hexL (bytesOf t)), true) ∧ unhexM (strOfNums (hexL (bytesOf t))) = (t, true) := by
  have hl : (bytesOf t).length = t.size := bytesOf_length t
  have hs : (strOfNums (hexL (bytesOf t))).size = 2 * t.size := by rw [strOfNums_size, hexL_length, hl]
  have hr : ∀ b, b ∈ hexL (bytesOf t) → 0 ≤ b ∧ b < 256 := by
    have h2 : ∀ l : List Int, (∀ b, b ∈ l → 0 ≤ b ∧ b < 256) → ∀ b, b ∈ hexL l → 0 ≤ b ∧ b < 256 := by
      intro l
      induction l with
      | nil => intro _ b hb; simp [hexL] at hb
      | cons c l ih =>
        intro hl b hb
        have hc := hl c (by simp)
        have hf : ∀ v : Int, 0 ≤ v ∧ v < 16 → 0 ≤ hexFig v ∧ hexFig v < 256 := by
          intro v hv
          unfold hexFig
          split <;> omega
        simp only [hexL, List.mem_cons] at hb
        rcases hb with rfl | rfl | hb
        · exact hf _ (by omega)
        · exact hf _ (by omega)
        · exact ih (fun d hd => hl d (by simp [hd])) b hb
    exact h2 _ (fun b hb => bytes_mem t hb)
  refine ⟨by unfold hexM; rw [if_neg (by omega)], ?_⟩
  unfold unhexM
  rw [hs, if_neg (by omega), show 2 * t.size / 2 = (bytesOf t).length by omega]
  rw [unhexGo_hex _ (bytesOf t) (fun b hb => bytes_mem t hb) 0 [] (by rw [List.drop_zero, bytes_str _ hr])]
  rw [List.nil_append, str_bytes]
theorem readVar_trip (n : Nat) (hn : n ≤ 1000000000) : readVarM (((⟨#[120]⟩ : ByteArray) ++ varS n) ++ (⟨#[121]⟩ : ByteArray)) 1 = ((n : Int), ((1 + (varL n).length : Nat) : Int), true) := by
  have h : (bytesOf (((⟨#[120]⟩ : ByteArray) ++ varS n) ++ (⟨#[121]⟩ : ByteArray))).drop 1 = varL n ++ bytesOf (⟨#[121]⟩ : ByteArray) := by
    rw [bytes_append, bytes_append, varS_bytes]
    rfl
  exact readVarM_var _ 1 n _ hn h
theorem readShort_trip (t : ByteArray) (h : t.size ≤ 300) : readShortM (varS t.size ++ t) 0 = (t, ((varS t.size ++ t).size : Int), true) := by
  have h1 : (bytesOf (varS t.size ++ t)).drop 0 = varL t.size ++ bytesOf t := by rw [List.drop_zero, bytes_append, varS_bytes]
  have h2 := readVarM_var (varS t.size ++ t) 0 t.size (bytesOf t) (by omega) h1
  have h2' : readVarM (varS t.size ++ t) 0 = ((t.size : Int), ((0 + (varL t.size).length : Nat) : Int), true) := h2
  have hz : (varS t.size ++ t).size = (varL t.size).length + t.size := by rw [size_append, varS_size]
  unfold readShortM
  rw [h2', if_pos ⟨rfl, by simp only; omega, by simp only; omega⟩]
  have he : (varS t.size ++ t).extract (varL t.size).length ((varL t.size).length + t.size) = t := by
    have := drop_ext (varS t.size ++ t) t (varL t.size).length [] (by rw [bytes_append, varS_bytes, List.drop_left]; simp)
    exact this
  refine Prod.ext ?_ (Prod.ext ?_ rfl)
  · simp only [Int.toNat_natCast]
    rw [Nat.zero_add, show ((((varL t.size).length : Nat) : Int) + (t.size : Int)).toNat = (varL t.size).length + t.size by omega]
    exact he
  · simp only; omega
theorem l01Number_some (l : List Int) (hl : l.length ≤ 1048576) (p s : Int) (hp : Inside l p) : ∃ v p' s', spec_l01Number.f l p s = some (v, p', s') ∧ Inside l p' := by
  unfold spec_l01Number.f
  obtain ⟨b, p1, s1, e1, _, i1⟩ := l01Below_some l hl p s 4 hp
  rw [e1, Option.bind_some]
  simp only
  by_cases h0 : b = 0
  · obtain ⟨v, p2, s2, e2, _, i2⟩ := l01PickInt_some l hl p1 s1 i1 [(-1), 0, 127, 128, 16383, 16384, 1000000000, 1000000001, 9223372036854775807, (-9223372036854775808)] (by decide)
    rw [if_pos h0, e2, Option.bind_some]
    exact ⟨_, _, _, rfl, i2⟩
  · rw [if_neg h0]
    by_cases h1 : b = 1
    · obtain ⟨v, p2, s2, e2, _, i2⟩ := l01Below_some l hl p1 s1 1000000000 i1
      rw [if_pos h1, e2, Option.bind_some]
      exact ⟨_, _, _, rfl, i2⟩
    · obtain ⟨v, p2, s2, e2, _, i2⟩ := l01Below_some l hl p1 s1 400 i1
      rw [if_neg h1, e2, Option.bind_some]
      exact ⟨_, _, _, rfl, i2⟩
theorem drawVarText_some (l : List Int) (hl : l.length ≤ 1048576) : ∃ v, Ev (fun k => spec_DrawVarText.f k l) v := by
  unfold spec_DrawVarText.f
  obtain ⟨s, hs⟩ := l01New_some l hl
  obtain ⟨v, p, s1, e, _⟩ := l01Number_some l hl 0 s (inside0 l)
  refine ⟨v, Ev.bind hs ?_⟩
  simp only [e, Option.bind_some]
  exact ev_some rfl
theorem drawHex_some (l : List Int) (hl : l.length ≤ 1048576) : ∃ t, Ev (fun k => spec_DrawHex.f k l) t := by
  unfold spec_DrawHex.f
  obtain ⟨s, hs⟩ := l01New_some l hl
  obtain ⟨b, p1, s1, e1, i1⟩ := l01Once_some l hl 0 s 60 (inside0 l)
  cases b with
  | true =>
    obtain ⟨c, p2, s2, e2, hc, _⟩ := l01Below_some l hl p1 s1 2 i1
    have hc2 := hc.2 (by decide)
    obtain ⟨t, ht, _⟩ := l01Long_some (20000 + c) 200 (by omega)
    refine ⟨t, Ev.bind hs ?_⟩
    simp only [e1, Option.bind_some, if_true, e2, w64 (show -9223372036854775808 ≤ 20000 + c by omega) (show 20000 + c ≤ 9223372036854775807 by omega)]
    exact Ev.bind ht (ev_some rfl)
  | false =>
    obtain ⟨c, p2, s2, e2, hc, i2⟩ := l01Below_some l hl p1 s1 30 i1
    have hc2 := hc.2 (by decide)
    obtain ⟨t, p3, s3, ht, _, _⟩ := l01Text_some l hl p2 s2 c (by omega) i2
    refine ⟨t, Ev.bind hs ?_⟩
    simp only [e1, Option.bind_some, Bool.false_eq_true, if_false, e2]
    exact Ev.bind ht (ev_some rfl)
theorem FnNumbers_j2 (n : Nat) (hn : n ≤ 1000000000) (t : ByteArray) (ht : t.size ≤ 300) : Ev (fun k => laws_FnNumbers.j2 k (n : Int) (varS n) true (n : Int) ((1 + (varL n).length : Nat) : Int) true (n : Int) true t) true := by
  refine ev_succ ?_
  simp only [laws_FnNumbers.j2]
  have s1 : shortTextM t = (varS t.size ++ t, true) := by unfold shortTextM; rw [if_neg (by omega)]
  have hl5 := varL_len5 t.size (by omega)
  have hz : (varS t.size ++ t).size ≤ 140737488351232 := by rw [size_append, varS_size]; omega
  refine Ev.bind (impl_ShortText_ev t) ?_
  rw [s1]
  refine Ev.bind (impl_ReadShort_ev _ hz 0) ?_
  rw [readShort_trip t ht]
  obtain ⟨h1, h2⟩ := unhexM_hex t ht
  refine Ev.bind (impl_Hex_ev t) ?_
  rw [h1]
  refine Ev.bind (impl_Unhex_ev _) ?_
  rw [h2]
  have hw : ((1 + (varL n).length : Nat) : Int) = wrap64 (((varS n).size : Int) + 1) := by
    have := varL_len5 n hn
    rw [varS_size, w64 (by omega) (by omega)]; omega
  simp only [if_true]
  rw [if_pos hw]
  exact ev_some (by simp)
theorem FnNumbers_j1 (l : List Int) (hl : l.length ≤ 1048576) (n : Nat) (hn : n ≤ 1000000000) : Ev (fun k => laws_FnNumbers.j1 k l (n : Int)) true := by
  refine ev_succ ?_
  simp only [laws_FnNumbers.j1]
  have v1 : varTextM (n : Int) = (varS n, true) := by unfold varTextM; rw [if_pos (by omega), Int.toNat_natCast]
  have hl5 := varL_len5 n hn
  have hs : (varS n).size ≤ 5 := by rw [varS_size]; exact hl5
  have hz : (((⟨#[120]⟩ : ByteArray) ++ varS n) ++ (⟨#[121]⟩ : ByteArray)).size ≤ 140737488351232 := by
    rw [size_append, size_append]
    have e1 : (⟨#[120]⟩ : ByteArray).size = 1 := rfl
    have e2 : (⟨#[121]⟩ : ByteArray).size = 1 := rfl
    omega
  refine Ev.bind (impl_VarText_ev (n : Int)) ?_
  rw [v1]
  simp only [if_pos (show 1 + (varS n).size ≤ 9223372036854775807 by omega), if_pos (show 1 + (varS n).size + 1 ≤ 9223372036854775807 by omega)]
  refine Ev.bind (impl_ReadVar_ev _ hz 1) ?_
  rw [readVar_trip n hn]
  have hd : impl_Decimal.f (n : Int) = some (⟨(Lib.itoa (n : Int)).toArray⟩ : ByteArray) := by unfold impl_Decimal.f; rw [if_pos (by omega)]
  have hr : impl_ReadDecimal.f (⟨(Lib.itoa (n : Int)).toArray⟩ : ByteArray) = some ((n : Int), true) := by
    unfold impl_ReadDecimal.f
    have e : Walk.readM (⟨(Lib.itoa (n : Int)).toArray⟩ : ByteArray) = ((n : Int), true) := by
      rw [itoa_nat]
      exact tells_one (Walk.readM_tells _) (tells_yes n hn)
    rw [e, if_pos]
    rw [itoa_nat]
    have := decS_size 10 n (by omega) (by decide)
    omega
  simp only [hd, Option.bind_some, hr]
  obtain ⟨t, ht⟩ := drawHex_some l hl
  refine Ev.bind ht ?_
  refine ev_if (fun _ => ?_) (fun h => ?_)
  · exact FnNumbers_j2 n hn _ (by decide)
  · exact FnNumbers_j2 n hn t (by omega)
theorem FnNumbers_j0 (l : List Int) (hl : l.length ≤ 1048576) (n : Int) (b : Bool) (hb : b = false → 0 ≤ n ∧ n ≤ 1000000000) : Ev (fun k => laws_FnNumbers.j0 k l n b) true := by
  refine ev_succ ?_
  simp only [laws_FnNumbers.j0]
  cases b with
  | true =>
    simp only [if_true]
    exact FnNumbers_j1 l hl 12345 (by decide)
  | false =>
    obtain ⟨h0, h1⟩ := hb rfl
    obtain ⟨m, rfl⟩ := Int.eq_ofNat_of_zero_le h0
    simp only [Bool.false_eq_true, if_false]
    exact FnNumbers_j1 l hl m (by omega)
theorem FnNumbers (l : List Int) : ∃ k, laws_FnNumbers.f k l = some true := by
  refine Ev.rounds ?_
  unfold laws_FnNumbers.f laws_big.f
  simp only [Option.bind_some]
  by_cases hz : (l.length : Int) > 1048576
  · simp only [decide_eq_true hz, if_true]
    exact ev_some rfl
  · simp only [decide_eq_false hz, Bool.false_eq_true, if_false]
    have hl : l.length ≤ 1048576 := by omega
    obtain ⟨v, hv⟩ := drawVarText_some l hl
    refine Ev.bind hv ?_
    by_cases h0 : v < 0
    · simp only [if_pos h0]
      exact FnNumbers_j0 l hl v true (fun h => by cases h)
    · simp only [if_neg h0]
      exact FnNumbers_j0 l hl v _ (fun h => by have := of_decide_eq_false h; omega)

end Go.Proofs.YtjpngldnkgofaaaDoor.Pure
