/- The pure statement of FnExactItemFrame, over numbers and lists: it is true of every argument; no condition but the bounds that the statement itself names. -/
import Derived.Test.YtneffinmiffhpaaPFnExactItemFramex8
import Derived.Test.YtneffinmiffhpaaVFnExactItemFrame1
set_option linter.unusedVariables false
set_option linter.unusedSimpArgs false
namespace Go.Proofs.Ytneffinmiffhpaa.Pure
open Go.RowKit Go.Proofs.Ytneffinmiffhpaa.PFnExactItemFrame Go.Proofs.YtneffinmiffhpaaW.PrintWords Go.Proofs.YtneffinmiffhpaaW.PrintLast Go.Proofs.YtneffinmiffhpaaW.PrintMore Go.Proofs.Ytneffinmiffhpaa.Base

/-! in -/
theorem spec_in_eq (a b c : Int) : spec_l01In.f a b c = some (decide (b ≤ a ∧ a ≤ c)) := by
  unfold spec_l01In.f
  by_cases h : a ≥ b <;> by_cases h2 : a ≤ c <;> simp [h, h2] <;> omega
theorem impl_in_eq (a b c : Int) : impl_in.f a b c = some (decide (b ≤ a ∧ a ≤ c)) := by
  unfold impl_in.f
  by_cases h : a ≥ b <;> by_cases h2 : a ≤ c <;> simp [h, h2] <;> omega

/-! wordok -/
theorem spec_WordOk_l0 (x : ByteArray) (hx : x.size ≤ 140737488351232) (d : Nat) : ∀ i : Nat, x.size - i = d → i ≤ x.size →
    Ev (fun k => spec_WordOk.l0 k x (i : Int)) (wordB ((bytesOf x).drop i) && decide (1 ≤ (x.size : Int) ∧ (x.size : Int) ≤ 8)) := by
  induction d with
  | zero =>
    intro i hd hi
    refine ev_succ ?_
    simp only [spec_WordOk.l0, if_neg (show ¬ (i : Int) < (x.size : Int) from by omega), spec_in_eq, Option.bind_some]
    rw [bytes_end x i (by omega)]
    exact ev_some rfl
  | succ d ih =>
    intro i hd hi
    refine ev_succ ?_
    have hl : (i : Int) < (x.size : Int) := by omega
    rw [bytes_drop x i (by omega), wordB_cons]
    simp only [spec_WordOk.l0, if_pos hl, if_pos (show (0 : Int) ≤ (i : Int) from by omega), wn i (show i < x.size from by omega) (by omega)]
    by_cases h1 : bt x (i : Int) < 97
    · simp only [if_pos h1]
      rw [decide_eq_false (by omega)]
      exact ev_some rfl
    · by_cases h2 : bt x (i : Int) > 122
      · simp only [if_neg h1, if_pos h2]
        rw [decide_eq_false (by omega)]
        exact ev_some rfl
      · simp only [if_neg h1, if_neg h2]
        rw [decide_eq_true (by omega)]
        exact ih (i + 1) (by omega) (by omega)
theorem impl_WordOk_l0 (x : ByteArray) (hx : x.size ≤ 140737488351232) (d : Nat) : ∀ i : Nat, x.size - i = d → i ≤ x.size →
    Ev (fun k => impl_WordOk.l0 k x (x.size : Int) (i : Int)) (wordB ((bytesOf x).drop i)) := by
  induction d with
  | zero =>
    intro i hd hi
    refine ev_succ ?_
    simp only [impl_WordOk.l0, if_neg (show ¬ (i : Int) < (x.size : Int) from by omega)]
    rw [bytes_end x i (by omega)]
    exact ev_some rfl
  | succ d ih =>
    intro i hd hi
    refine ev_succ ?_
    have hl : (i : Int) < (x.size : Int) := by omega
    rw [bytes_drop x i (by omega), wordB_cons]
    simp only [impl_WordOk.l0, if_pos hl, if_pos (show (0 : Int) ≤ (i : Int) from by omega), wn i (show i < x.size from by omega) (by omega)]
    by_cases h1 : bt x (i : Int) < 97
    · simp only [if_pos h1]
      rw [decide_eq_false (by omega)]
      exact ev_some rfl
    · by_cases h2 : bt x (i : Int) > 122
      · simp only [if_neg h1, if_pos h2]
        rw [decide_eq_false (by omega)]
        exact ev_some rfl
      · simp only [if_neg h1, if_neg h2]
        rw [decide_eq_true (by omega)]
        exact ih (i + 1) (by omega) (by omega)
theorem spec_WordOk_ev (x : ByteArray) (hx : x.size ≤ 140737488351232) : Ev (fun k => spec_WordOk.f k x) (wordM x) := by
  simpa [spec_WordOk.f, wordM] using spec_WordOk_l0 x hx _ 0 rfl (by omega)
theorem impl_WordOk_ev (x : ByteArray) (hx : x.size ≤ 140737488351232) : Ev (fun k => impl_WordOk.f k x) (wordM x) := by
  simp only [impl_WordOk.f, impl_in_eq, Option.bind_some, wordM]
  by_cases h : 1 ≤ (x.size : Int) ∧ (x.size : Int) ≤ 8
  · simp only [decide_eq_true h, if_true, Bool.and_true]
    simpa using impl_WordOk_l0 x hx _ 0 rfl (by omega)
  · simp only [decide_eq_false h, Bool.false_eq_true, if_false, Bool.and_false]
    exact ev_some rfl

/-! recok -/
theorem spec_RecOk_ev (a0 a1 a2 a3 a4 : Int) (x5 x6 x7 : ByteArray) (h5 : x5.size ≤ 140737488351232) (h6 : x6.size ≤ 140737488351232) : Ev (fun k => spec_RecOk.f k a0 a1 a2 a3 a4 x5 x6 x7) (recOkM a0 a1 a2 a3 a4 x5 x6 x7) := by
  have t5 := tl_nil x5
  have t6 := tl_nil x6
  have t7 := tl_nil x7
  unfold spec_RecOk.f
  simp only [spec_in_eq, Option.bind_some]
  repeat' first
    | refine ev_if (fun _ => ?_) (fun _ => ?_)
    | refine Ev.bind (spec_WordOk_ev _ (by assumption)) ?_
    | refine ev_some ?_
  all_goals (unfold recOkM; grind)
def ri3 (g : Bool) (a0 a1 a2 a3 a4 : Int) (x5 x6 x7 : ByteArray) (b0 b1 b2 b3 b4 : Int) (y5 y6 y7 : ByteArray) : Bool := if a0 = 1 then (if wordM x5 = true then (if wordM x6 = true then (if decide (1 ≤ a3 ∧ a3 ≤ 10000) = true then (b0 == 0 && (b1 == 0 && (b2 == 0 && (b4 == 0 && (y7.toList == ([] : List UInt8)))))) else false) else false) else false) else if a0 = 3 then (if g = true then (if (x7.size : Int) ≤ 100 then (b0 == 0 && (b1 == 0 && (b2 == 0 && (b3 == 0 && (b4 == 0 && ((y5.toList == ([] : List UInt8)) && (y6.toList == ([] : List UInt8)))))))) else false) else false) else if a0 = 2 then (if g = true then (b0 == 0 && (b1 == 0 && (b2 == 0 && (b3 == 0 && (b4 == 0 && ((y5.toList == ([] : List UInt8)) && ((y6.toList == ([] : List UInt8)) && (y7.toList == ([] : List UInt8))))))))) else false) else if a0 = 4 then (if g = true then (b0 == 0 && (b1 == 0 && (b2 == 0 && (b3 == 0 && (b4 == 0 && ((y5.toList == ([] : List UInt8)) && ((y6.toList == ([] : List UInt8)) && (y7.toList == ([] : List UInt8))))))))) else false) else if a0 = 5 then (if g = true then (b0 == 0 && (b1 == 0 && (b2 == 0 && (b3 == 0 && (b4 == 0 && ((y5.toList == ([] : List UInt8)) && ((y6.toList == ([] : List UInt8)) && (y7.toList == ([] : List UInt8))))))))) else false) else false
def ri2 (g t : Bool) (a0 a1 a2 a3 a4 : Int) (x5 x6 x7 : ByteArray) (b0 b1 b2 b3 b4 : Int) (y5 y6 y7 : ByteArray) : Bool := if t = true then (if g = true then ri3 (decide (0 ≤ a4 ∧ a4 ≤ 7)) a0 a1 a2 a3 a4 x5 x6 x7 b0 b1 b2 b3 0 y5 y6 y7 else ri3 false a0 a1 a2 a3 a4 x5 x6 x7 b0 b1 b2 b3 0 y5 y6 y7) else ri3 g a0 a1 a2 a3 a4 x5 x6 x7 b0 b1 b2 b3 b4 y5 y6 y7
def ri1 (g : Bool) (a0 a1 a2 a3 a4 : Int) (x5 x6 x7 : ByteArray) (b0 b1 b2 b3 b4 : Int) (y5 y6 y7 : ByteArray) : Bool := if a0 = 3 then ri2 g true a0 a1 a2 a3 a4 x5 x6 x7 b0 b1 b2 b3 b4 y5 y6 y7 else ri2 g (a0 == 4) a0 a1 a2 a3 a4 x5 x6 x7 b0 b1 b2 b3 b4 y5 y6 y7
def ri0 (g t : Bool) (a0 a1 a2 a3 a4 : Int) (x5 x6 x7 : ByteArray) (b0 b1 b2 b3 b4 : Int) (y5 y6 y7 : ByteArray) : Bool := if t = true then ri1 (decide (1 ≤ a2 ∧ a2 ≤ 9999)) a0 a1 a2 a3 a4 x5 x6 x7 b0 b1 0 b3 b4 y5 y6 y7 else ri1 g a0 a1 a2 a3 a4 x5 x6 x7 b0 b1 b2 b3 b4 y5 y6 y7
def rif (a0 a1 a2 a3 a4 : Int) (x5 x6 x7 : ByteArray) : Bool := if decide (1 ≤ a1 ∧ a1 ≤ 9999) = true then (if a0 = 3 then ri0 true true a0 a1 a2 a3 a4 x5 x6 x7 0 0 a2 a3 a4 x5 x6 x7 else if a0 = 4 then ri0 true true a0 a1 a2 a3 a4 x5 x6 x7 0 0 a2 a3 a4 x5 x6 x7 else ri0 true (a0 == 5) a0 a1 a2 a3 a4 x5 x6 x7 0 0 a2 a3 a4 x5 x6 x7) else false
theorem impl_RecOk_j3 (g : Bool) (a0 a1 a2 a3 a4 : Int) (x5 x6 x7 : ByteArray) (b0 b1 b2 b3 b4 : Int) (y5 y6 y7 : ByteArray) (h5 : x5.size ≤ 140737488351232) (h6 : x6.size ≤ 140737488351232) : Ev (fun k => impl_RecOk.j3 k g a0 a1 a2 a3 a4 x5 x6 x7 b0 b1 b2 b3 b4 y5 y6 y7) (ri3 g a0 a1 a2 a3 a4 x5 x6 x7 b0 b1 b2 b3 b4 y5 y6 y7) := by
  refine ev_succ ?_
  simp only [impl_RecOk.j3, impl_in_eq, Option.bind_some]
  exact ev_ite (Ev.bind (impl_WordOk_ev x5 h5) (ev_ite (Ev.bind (impl_WordOk_ev x6 h6) (ev_ite (ev_ite (ev_some rfl) (ev_some rfl)) (ev_some rfl))) (ev_some rfl))) (ev_ite (ev_ite (ev_ite (ev_some rfl) (ev_some rfl)) (ev_some rfl)) (ev_ite (ev_ite (ev_some rfl) (ev_some rfl)) (ev_ite (ev_ite (ev_some rfl) (ev_some rfl)) (ev_ite (ev_ite (ev_some rfl) (ev_some rfl)) (ev_some rfl)))))
theorem impl_RecOk_j2 (g t : Bool) (a0 a1 a2 a3 a4 : Int) (x5 x6 x7 : ByteArray) (b0 b1 b2 b3 b4 : Int) (y5 y6 y7 : ByteArray) (h5 : x5.size ≤ 140737488351232) (h6 : x6.size ≤ 140737488351232) : Ev (fun k => impl_RecOk.j2 k g t a0 a1 a2 a3 a4 x5 x6 x7 b0 b1 b2 b3 b4 y5 y6 y7) (ri2 g t a0 a1 a2 a3 a4 x5 x6 x7 b0 b1 b2 b3 b4 y5 y6 y7) := by
  refine ev_succ ?_
  simp only [impl_RecOk.j2, impl_in_eq, Option.bind_some]
  exact ev_ite (ev_ite (impl_RecOk_j3 _ a0 a1 a2 a3 a4 x5 x6 x7 _ _ _ _ _ _ _ _ h5 h6) (impl_RecOk_j3 _ a0 a1 a2 a3 a4 x5 x6 x7 _ _ _ _ _ _ _ _ h5 h6)) (impl_RecOk_j3 _ a0 a1 a2 a3 a4 x5 x6 x7 _ _ _ _ _ _ _ _ h5 h6)
theorem impl_RecOk_j1 (g : Bool) (a0 a1 a2 a3 a4 : Int) (x5 x6 x7 : ByteArray) (b0 b1 b2 b3 b4 : Int) (y5 y6 y7 : ByteArray) (h5 : x5.size ≤ 140737488351232) (h6 : x6.size ≤ 140737488351232) : Ev (fun k => impl_RecOk.j1 k g a0 a1 a2 a3 a4 x5 x6 x7 b0 b1 b2 b3 b4 y5 y6 y7) (ri1 g a0 a1 a2 a3 a4 x5 x6 x7 b0 b1 b2 b3 b4 y5 y6 y7) := by
  refine ev_succ ?_
  simp only [impl_RecOk.j1, impl_in_eq, Option.bind_some]
  exact ev_ite (impl_RecOk_j2 _ _ a0 a1 a2 a3 a4 x5 x6 x7 _ _ _ _ _ _ _ _ h5 h6) (impl_RecOk_j2 _ _ a0 a1 a2 a3 a4 x5 x6 x7 _ _ _ _ _ _ _ _ h5 h6)
theorem impl_RecOk_j0 (g t : Bool) (a0 a1 a2 a3 a4 : Int) (x5 x6 x7 : ByteArray) (b0 b1 b2 b3 b4 : Int) (y5 y6 y7 : ByteArray) (h5 : x5.size ≤ 140737488351232) (h6 : x6.size ≤ 140737488351232) : Ev (fun k => impl_RecOk.j0 k g t a0 a1 a2 a3 a4 x5 x6 x7 b0 b1 b2 b3 b4 y5 y6 y7) (ri0 g t a0 a1 a2 a3 a4 x5 x6 x7 b0 b1 b2 b3 b4 y5 y6 y7) := by
  refine ev_succ ?_
  simp only [impl_RecOk.j0, impl_in_eq, Option.bind_some]
  exact ev_ite (impl_RecOk_j1 _ a0 a1 a2 a3 a4 x5 x6 x7 _ _ _ _ _ _ _ _ h5 h6) (impl_RecOk_j1 _ a0 a1 a2 a3 a4 x5 x6 x7 _ _ _ _ _ _ _ _ h5 h6)
theorem impl_rec_same (a0 a1 a2 a3 a4 : Int) (x5 x6 x7 : ByteArray) : rif a0 a1 a2 a3 a4 x5 x6 x7 = recOkM a0 a1 a2 a3 a4 x5 x6 x7 := by
  have t5 := tl_nil x5
  have t6 := tl_nil x6
  have t7 := tl_nil x7
  unfold rif ri0 ri1 ri2 ri3 recOkM
  grind
theorem impl_RecOk_ev (a0 a1 a2 a3 a4 : Int) (x5 x6 x7 : ByteArray) (h5 : x5.size ≤ 140737488351232) (h6 : x6.size ≤ 140737488351232) : Ev (fun k => impl_RecOk.f k a0 a1 a2 a3 a4 x5 x6 x7) (recOkM a0 a1 a2 a3 a4 x5 x6 x7) := by
  rw [← impl_rec_same]
  unfold impl_RecOk.f
  simp only [impl_in_eq, Option.bind_some]
  exact ev_ite (ev_ite (impl_RecOk_j0 _ _ a0 a1 a2 a3 a4 x5 x6 x7 _ _ _ _ _ _ _ _ h5 h6) (ev_ite (impl_RecOk_j0 _ _ a0 a1 a2 a3 a4 x5 x6 x7 _ _ _ _ _ _ _ _ h5 h6) (impl_RecOk_j0 _ _ a0 a1 a2 a3 a4 x5 x6 x7 _ _ _ _ _ _ _ _ h5 h6))) (ev_some rfl)

/-! var -/
theorem spec_l01Var_l0 (n : Nat) : ∀ (acc : List Int), n < 9223372036854775808 → acc.length + (varL n).length < 140737488355328 →
    Ev (fun k => spec_l01Var.l0 k (n : Int) acc) (strOfNums (acc ++ varL n)) := by
  induction n using Nat.strongRecOn with
  | _ n ih =>
    intro acc hn hl
    refine ev_succ ?_
    by_cases h : 127 < n
    · rw [varL_big h] at hl ⊢
      rw [List.length_cons] at hl
      simp only [spec_l01Var.l0, if_pos (show (n : Int) > 127 from by omega), if_pos (show acc.length < 140737488355328 from by omega)]
      have e1 : wrap64 (Int.tdiv (n : Int) 128) = ((n / 128 : Nat) : Int) := by
        rw [Int.tdiv_eq_ediv_of_nonneg (by omega), w64 (by omega) (by omega)]; omega
      have e2 : wrap64 (Int.tmod (n : Int) 128 + 128) % 256 = ((n % 128 + 128 : Nat) : Int) := by
        rw [Int.tmod_eq_emod_of_nonneg (by omega), w64 (by omega) (by omega)]; omega
      simp only [e1, e2]
      have := ih (n / 128) (by omega) (acc ++ [((n % 128 + 128 : Nat) : Int)]) (by omega) (by simp; omega)
      simpa using this
    · rw [varL_small (by omega)] at hl ⊢
      have hl' : acc.length + 1 < 140737488355328 := by simpa using hl
      simp only [spec_l01Var.l0, if_neg (show ¬ (n : Int) > 127 from by omega), if_pos (show acc.length < 140737488355328 from by omega)]
      rw [show (n : Int) % 256 = (n : Int) from by omega]
      exact ev_some rfl
theorem impl_varText_l0 (n : Nat) : ∀ (acc : List Int), n < 9223372036854775808 → acc.length + (varL n).length < 140737488355328 →
    Ev (fun k => impl_varText.l0 k (n : Int) acc) (strOfNums (acc ++ varL n)) := by
  induction n using Nat.strongRecOn with
  | _ n ih =>
    intro acc hn hl
    refine ev_succ ?_
    by_cases h : 127 < n
    · rw [varL_big h] at hl ⊢
      rw [List.length_cons] at hl
      simp only [impl_varText.l0, if_pos (show (n : Int) > 127 from by omega), if_pos (show acc.length < 140737488355328 from by omega)]
      have e1 : (n : Int) / 128 = ((n / 128 : Nat) : Int) := by omega
      have e2 : (Go.bits .or .i64 (Go.bits .and .i64 (n : Int) 127) 128) % 256 = ((n % 128 + 128 : Nat) : Int) := by
        rw [b_and127 _ (by omega) (by omega), b_or128 _ (by omega) (by omega)]; omega
      simp only [e1, e2]
      have := ih (n / 128) (by omega) (acc ++ [((n % 128 + 128 : Nat) : Int)]) (by omega) (by simp; omega)
      simpa using this
    · rw [varL_small (by omega)] at hl ⊢
      have hl' : acc.length + 1 < 140737488355328 := by simpa using hl
      simp only [impl_varText.l0, if_neg (show ¬ (n : Int) > 127 from by omega), if_pos (show acc.length < 140737488355328 from by omega)]
      rw [show (n : Int) % 256 = (n : Int) from by omega]
      exact ev_some rfl
theorem spec_l01Var_ev (n : Nat) (h : n < 70368744177664) : Ev (fun k => spec_l01Var.f k (n : Int)) (varS n) := by
  have := varL_length n
  simpa [spec_l01Var.f, varS] using spec_l01Var_l0 n [] (by omega) (by simp; omega)
theorem impl_varText_ev (n : Nat) (h : n < 70368744177664) : Ev (fun k => impl_varText.f k (n : Int)) (varS n) := by
  have := varL_length n
  simpa [impl_varText.f, varS] using impl_varText_l0 n [] (by omega) (by simp; omega)
theorem spec_l01Var_ev' (a : Int) (h0 : 0 ≤ a) (h : a < 70368744177664) : Ev (fun k => spec_l01Var.f k a) (varS a.toNat) := by
  obtain ⟨n, rfl⟩ := Int.eq_ofNat_of_zero_le h0
  exact spec_l01Var_ev n (by omega)
theorem impl_varText_ev' (a : Int) (h0 : 0 ≤ a) (h : a < 70368744177664) : Ev (fun k => impl_varText.f k a) (varS a.toNat) := by
  obtain ⟨n, rfl⟩ := Int.eq_ofNat_of_zero_le h0
  exact impl_varText_ev n (by omega)

/-! rectext -/
theorem spec_l06Short_ev (x : ByteArray) (h : x.size ≤ 1000000) : Ev (fun k => spec_l06Short.f k x) (varS x.size ++ x) := by
  unfold spec_l06Short.f
  refine Ev.bind (spec_l01Var_ev _ (by omega)) ?_
  have := varS_small x.size (by omega)
  simp only [if_pos (show (varS x.size).size + x.size ≤ 9223372036854775807 from by omega)]
  exact ev_some rfl
theorem spec_RecText_ev (a0 a1 a2 a3 a4 : Int) (x5 x6 x7 : ByteArray) (h5 : x5.size ≤ 140737488351232) (h6 : x6.size ≤ 140737488351232) : Ev (fun k => spec_RecText.f k a0 a1 a2 a3 a4 x5 x6 x7) (recTextM a0 a1 a2 a3 a4 x5 x6 x7) := by
  unfold spec_RecText.f recTextM
  refine Ev.bind (spec_RecOk_ev a0 a1 a2 a3 a4 x5 x6 x7 h5 h6) ?_
  refine ev_if (fun hok => ?_) (fun hok => ?_)
  · obtain ⟨b0, b1, b2, b3, b4, b5, b6, b7⟩ := recOkM_bounds hok
    rw [if_pos hok]
    simp only [Option.bind_some]
    have s0 : (strOfNums [a0 % 256]).size = 1 := strOfNums_size _
    have s1 := varS_small a1.toNat (by omega)
    have s2 := varS_small a2.toNat (by omega)
    have s3 := varS_small a3.toNat (by omega)
    have s4 := varS_small a4.toNat (by omega)
    have s5 := varS_small x5.size (by omega)
    have s6 := varS_small x6.size (by omega)
    have s7 := varS_small x7.size (by omega)
    refine Ev.bind (spec_l01Var_ev' a1 (by omega) (by omega)) ?_
    refine ev_if (fun _ => ?_) (fun h => absurd (by first | omega | (simp only [size_append]; omega)) h)
    refine Ev.bind (spec_l01Var_ev' a2 (by omega) (by omega)) ?_
    refine ev_if (fun _ => ?_) (fun h => absurd (by first | omega | (simp only [size_append]; omega)) h)
    refine Ev.bind (spec_l01Var_ev' a3 (by omega) (by omega)) ?_
    refine ev_if (fun _ => ?_) (fun h => absurd (by first | omega | (simp only [size_append]; omega)) h)
    refine Ev.bind (spec_l01Var_ev' a4 (by omega) (by omega)) ?_
    refine ev_if (fun _ => ?_) (fun h => absurd (by first | omega | (simp only [size_append]; omega)) h)
    refine Ev.bind (spec_l06Short_ev x5 (by omega)) ?_
    refine ev_if (fun _ => ?_) (fun h => absurd (by first | omega | (simp only [size_append]; omega)) h)
    refine Ev.bind (spec_l06Short_ev x6 (by omega)) ?_
    refine ev_if (fun _ => ?_) (fun h => absurd (by first | omega | (simp only [size_append]; omega)) h)
    refine Ev.bind (spec_l06Short_ev x7 (by omega)) ?_
    refine ev_if (fun _ => ?_) (fun h => absurd (by first | omega | (simp only [size_append]; omega)) h)
    exact ev_some rfl
  · rw [if_neg hok]
    exact ev_some rfl
theorem impl_RecText_l0_next (acc : ByteArray) (l : List Int) (i : Nat) (v : Int) (hv : rd l (i : Int) = v) (hi : i < l.length) (hl : l.length ≤ 1000) (h0 : 0 ≤ v) (h1 : v < 70368744177664) (hs : acc.size ≤ 9000000000000000)
    (a0 a1 a2 a3 a4 : Int) (x5 x6 x7 : ByteArray) {r : ByteArray × Bool} (h : Ev (fun k => impl_RecText.l0 k (acc ++ varS v.toNat) l (l.length : Int) ((i + 1 : Nat) : Int) a0 a1 a2 a3 a4 x5 x6 x7) r) :
    Ev (fun k => impl_RecText.l0 k acc l (l.length : Int) (i : Int) a0 a1 a2 a3 a4 x5 x6 x7) r := by
  refine ev_succ ?_
  have s1 := varS_size v.toNat
  have s2 := varL_length v.toNat
  simp only [impl_RecText.l0, if_pos (show (i : Int) < (l.length : Int) from by omega), if_pos (show (0 : Int) ≤ (i : Int) from by omega), hv]
  refine Ev.bind (impl_varText_ev' v h0 h1) ?_
  simp only [if_pos (show acc.size + (varS v.toNat).size ≤ 9223372036854775807 from by omega), wn i hi (by omega)]
  exact h
theorem impl_RecText_l1_next (acc : ByteArray) (l : List ByteArray) (i : Nat) (v : ByteArray) (hv : rdOf ByteArray.empty l (i : Int) = v) (hi : i < l.length) (hl : l.length ≤ 1000) (h1 : v.size < 100000) (hs : acc.size ≤ 9000000000000000)
    {r : ByteArray × Bool} (h : Ev (fun k => impl_RecText.l1 k (acc ++ (varS v.size ++ v)) l (l.length : Int) ((i + 1 : Nat) : Int)) r) :
    Ev (fun k => impl_RecText.l1 k acc l (l.length : Int) (i : Int)) r := by
  refine ev_succ ?_
  have s1 := varS_size v.size
  have s2 := varL_length v.size
  simp only [impl_RecText.l1, if_pos (show (i : Int) < (l.length : Int) from by omega), if_pos (show (0 : Int) ≤ (i : Int) from by omega), hv]
  refine Ev.bind (impl_varText_ev v.size (by omega)) ?_
  have e4 := wn i hi (show l.length ≤ 140737488355328 from by omega)
  refine ev_if (fun _ => ?_) (fun h => absurd (by first | omega | (simp only [size_append]; omega)) h)
  refine ev_if (fun _ => ?_) (fun h => absurd (by first | omega | (simp only [size_append]; omega)) h)
  simp only [e4]
  exact h
theorem impl_RecText_ev (a0 a1 a2 a3 a4 : Int) (x5 x6 x7 : ByteArray) (h5 : x5.size ≤ 140737488351232) (h6 : x6.size ≤ 140737488351232) : Ev (fun k => impl_RecText.f k a0 a1 a2 a3 a4 x5 x6 x7) (recTextM a0 a1 a2 a3 a4 x5 x6 x7) := by
  unfold impl_RecText.f recTextM
  refine Ev.bind (impl_RecOk_ev a0 a1 a2 a3 a4 x5 x6 x7 h5 h6) ?_
  refine ev_if (fun hok => ?_) (fun hok => ?_)
  · obtain ⟨b0, b1, b2, b3, b4, b5, b6, b7⟩ := recOkM_bounds hok
    rw [if_pos hok]
    simp only [Option.bind_some]
    have s0 : (strOfNums [a0 % 256]).size = 1 := strOfNums_size _
    have s1 := varS_small a1.toNat (by omega)
    have s2 := varS_small a2.toNat (by omega)
    have s3 := varS_small a3.toNat (by omega)
    have s4 := varS_small a4.toNat (by omega)
    have s5 := varS_small x5.size (by omega)
    have s6 := varS_small x6.size (by omega)
    have s7 := varS_small x7.size (by omega)
    refine impl_RecText_l0_next _ [a1, a2, a3, a4] 0 a1 rfl (by simp) (by simp) (by omega) (by omega) (by omega) _ _ _ _ _ _ _ _ ?_
    refine impl_RecText_l0_next _ [a1, a2, a3, a4] (0 + 1) a2 rfl (by simp) (by simp) (by omega) (by omega) (by simp only [size_append]; omega) _ _ _ _ _ _ _ _ ?_
    refine impl_RecText_l0_next _ [a1, a2, a3, a4] (0 + 1 + 1) a3 rfl (by simp) (by simp) (by omega) (by omega) (by simp only [size_append]; omega) _ _ _ _ _ _ _ _ ?_
    refine impl_RecText_l0_next _ [a1, a2, a3, a4] (0 + 1 + 1 + 1) a4 rfl (by simp) (by simp) (by omega) (by omega) (by simp only [size_append]; omega) _ _ _ _ _ _ _ _ ?_
    refine ev_succ ?_
    simp only [impl_RecText.l0, if_neg (show ¬ (((0 + 1 + 1 + 1 + 1 : Nat) : Int) < ([a1, a2, a3, a4].length : Int)) from by simp), Option.bind_some]
    refine impl_RecText_l1_next _ [x5, x6, x7] 0 x5 rfl (by simp) (by simp) (by omega) (by simp only [size_append]; omega) ?_
    refine impl_RecText_l1_next _ [x5, x6, x7] (0 + 1) x6 rfl (by simp) (by simp) (by omega) (by simp only [size_append]; omega) ?_
    refine impl_RecText_l1_next _ [x5, x6, x7] (0 + 1 + 1) x7 rfl (by simp) (by simp) (by omega) (by simp only [size_append]; omega) ?_
    refine ev_succ ?_
    simp only [impl_RecText.l1, if_neg (show ¬ (((0 + 1 + 1 + 1 : Nat) : Int) < ([x5, x6, x7].length : Int)) from by simp)]
    exact ev_some rfl
  · rw [if_neg hok]
    exact ev_some rfl

/-! szrec -/
theorem szRec_eq (a0 a1 a2 a3 a4 : Int) (x5 x6 x7 : ByteArray) (h5 : x5.size ≤ maxLen) (h6 : x6.size ≤ maxLen) (h7 : x7.size ≤ maxLen) :
    ∃ m : Int, laws_szRec.f a0 a1 a2 a3 a4 x5 x6 x7 1048576 = some m ∧ (0 ≤ m → x5.size ≤ 1048576 ∧ x6.size ≤ 1048576 ∧ x7.size ≤ 1048576) := by
  have h5' : x5.size ≤ 9223372036854775807 := h5
  have h6' : x6.size ≤ 9223372036854775807 := h6
  have h7' : x7.size ≤ 9223372036854775807 := h7
  unfold laws_szRec.f
  rw [w64 (x := 1048576 - (x5.size : Int)) (by omega) (by omega)]
  by_cases c5 : 1048576 - (x5.size : Int) < 0
  · rw [if_pos c5]; exact ⟨_, rfl, by omega⟩
  rw [if_neg c5, w64 (x := 1048576 - (x5.size : Int) - (x6.size : Int)) (by omega) (by omega)]
  by_cases c6 : 1048576 - (x5.size : Int) - (x6.size : Int) < 0
  · rw [if_pos c6]; exact ⟨_, rfl, by omega⟩
  rw [if_neg c6, w64 (x := 1048576 - (x5.size : Int) - (x6.size : Int) - (x7.size : Int)) (by omega) (by omega)]
  by_cases c7 : 1048576 - (x5.size : Int) - (x6.size : Int) - (x7.size : Int) < 0
  · rw [if_pos c7]; exact ⟨_, rfl, by omega⟩
  · rw [if_neg c7]; exact ⟨_, rfl, by omega⟩

/-! frameok -/
theorem spec_FrameOk_eq (a b : Int) (c : ByteArray) : spec_FrameOk.f a b c = some (frameOkM a b c) := by
  unfold spec_FrameOk.f frameOkM
  simp only [spec_in_eq, Option.bind_some]
  by_cases h1 : 1 ≤ a ∧ a ≤ 1000000000 <;> by_cases h2 : 1 ≤ b ∧ b ≤ 1000000000 <;> simp [h1, h2]
theorem impl_FrameOk_eq (a b : Int) (c : ByteArray) : impl_FrameOk.f a b c = some (frameOkM a b c) := by
  unfold impl_FrameOk.f frameOkM
  simp only [impl_in_eq, Option.bind_some]
  by_cases h1 : 1 ≤ a ∧ a ≤ 1000000000 <;> by_cases h2 : 1 ≤ b ∧ b ≤ 1000000000 <;> simp [h1, h2]

/-! eqframe -/
theorem eqFrame_same (a b : Int) (c : ByteArray) : laws_eqFrame.f a b c a b c = some true := by
  unfold laws_eqFrame.f
  simp

def itemFrameM (a0 a1 a2 a3 a4 a5 : Int) (x6 x7 x8 : ByteArray) (g : Int) : Int × Int × ByteArray × Bool :=
  if (recTextM a1 a2 a3 a4 a5 x6 x7 x8).2 = true then (if frameOkM g a0 (recTextM a1 a2 a3 a4 a5 x6 x7 x8).1 = true then (g, a0, (recTextM a1 a2 a3 a4 a5 x6 x7 x8).1, true) else (0, 0, (⟨#[]⟩ : ByteArray), false)) else (0, 0, (⟨#[]⟩ : ByteArray), false)
theorem spec_ItemFrame_ev (a0 a1 a2 a3 a4 a5 : Int) (x6 x7 x8 : ByteArray) (g : Int) (h6 : x6.size ≤ 1048576) (h7 : x7.size ≤ 1048576) : Ev (fun k => spec_ItemFrame.f k a0 a1 a2 a3 a4 a5 x6 x7 x8 g) (itemFrameM a0 a1 a2 a3 a4 a5 x6 x7 x8 g) := by
  unfold spec_ItemFrame.f itemFrameM
  refine Ev.bind (spec_RecText_ev a1 a2 a3 a4 a5 x6 x7 x8 (by omega) (by omega)) ?_
  simp only [spec_FrameOk_eq, Option.bind_some]
  refine ev_ite ?_ (ev_some rfl)
  refine ev_ite (ev_some rfl) (ev_some rfl)
theorem impl_ItemFrame_ev (a0 a1 a2 a3 a4 a5 : Int) (x6 x7 x8 : ByteArray) (g : Int) (h6 : x6.size ≤ 1048576) (h7 : x7.size ≤ 1048576) : Ev (fun k => impl_ItemFrame.f k a0 a1 a2 a3 a4 a5 x6 x7 x8 g) (itemFrameM a0 a1 a2 a3 a4 a5 x6 x7 x8 g) := by
  unfold impl_ItemFrame.f itemFrameM
  refine Ev.bind (impl_RecText_ev a1 a2 a3 a4 a5 x6 x7 x8 (by omega) (by omega)) ?_
  simp only [impl_FrameOk_eq, Option.bind_some]
  refine ev_ite ?_ (ev_some rfl)
  refine ev_ite (ev_some rfl) (ev_some rfl)
theorem FnExactItemFrame (a0 a1 a2 a3 a4 a5 : Int) (x6 x7 x8 : ByteArray) (g : Int) (_ : (Lit.int .i64 a0).wf = true) (_ : (Lit.int .i64 a1).wf = true) (_ : (Lit.int .i64 a2).wf = true) (_ : (Lit.int .i64 a3).wf = true) (_ : (Lit.int .i64 a4).wf = true) (_ : (Lit.int .i64 a5).wf = true)
    (h6 : x6.size ≤ maxLen) (h7 : x7.size ≤ maxLen) (h8 : x8.size ≤ maxLen) (_ : (Lit.int .i64 g).wf = true) : ∃ k, laws_FnExactItemFrame.f k a0 a1 a2 a3 a4 a5 x6 x7 x8 g = some true := by
  refine Ev.rounds ?_
  unfold laws_FnExactItemFrame.f laws_toItem.f laws_szItem.f laws_toRec.f
  obtain ⟨m, hm, hs⟩ := szRec_eq a1 a2 a3 a4 a5 x6 x7 x8 h6 h7 h8
  simp only [hm, Option.bind_some]
  by_cases h : m < 0
  · simp only [if_pos h, Option.bind_some, if_pos (show (-1 : Int) < 0 by decide)]
    exact ev_some rfl
  · simp only [if_neg h, Option.bind_some]
    obtain ⟨s6, s7, s8⟩ := hs (by omega)
    refine Ev.bind (spec_ItemFrame_ev a0 a1 a2 a3 a4 a5 x6 x7 x8 g (by omega) (by omega)) ?_
    refine Ev.bind (impl_ItemFrame_ev a0 a1 a2 a3 a4 a5 x6 x7 x8 g (by omega) (by omega)) ?_
    simp only [eqFrame_same, Option.bind_some, if_true, bne_self_eq_false, Bool.false_eq_true, if_false]
    exact ev_some rfl

end Go.Proofs.Ytneffinmiffhpaa.Pure
