/- The pure statement of FnExactDiskNew, over numbers and lists: it is true of every argument; no condition but the bounds that the statement itself names. -/
import Derived.Test.YtdnjjdmlmfoljaaPFnExactDiskNewx4
import Derived.Test.YtdnjjdmlmfoljaaVFnExactDiskNew1
set_option linter.unusedVariables false
set_option linter.unusedSimpArgs false
namespace Go.Proofs.Ytdnjjdmlmfoljaa.Pure
open Go.RowKit Go.Proofs.Ytdnjjdmlmfoljaa.PFnExactDiskNew Go.Proofs.YtdnjjdmlmfoljaaW.PrintWords Go.Proofs.YtdnjjdmlmfoljaaW.PrintLast Go.Proofs.YtdnjjdmlmfoljaaW.PrintMore Go.Proofs.Ytdnjjdmlmfoljaa.Base

/-! in -/
theorem spec_in_eq (a b c : Int) : spec_l01In.f a b c = some (decide (b ≤ a ∧ a ≤ c)) := by
  unfold spec_l01In.f
  by_cases h : a ≥ b <;> by_cases h2 : a ≤ c <;> simp [h, h2] <;> omega
theorem impl_in_eq (a b c : Int) : impl_in.f a b c = some (decide (b ≤ a ∧ a ≤ c)) := by
  unfold impl_in.f
  by_cases h : a ≥ b <;> by_cases h2 : a ≤ c <;> simp [h, h2] <;> omega

/-! disk -/
def W2 (x : S67) : Wr := (x.f0, x.f1)
theorem rdOf_nat {α : Type} (d : α) (l : List α) (i : Nat) : rdOf d l (i : Int) = l.getD i d := by unfold rdOf; rw [Int.toNat_natCast]
theorem getD_drop {α : Type} (d : α) (l : List α) (i : Nat) (h : i < l.length) : l.drop i = l.getD i d :: l.drop (i + 1) := by
  rw [List.drop_eq_getElem_cons h, List.getD_eq_getElem?_getD, List.getElem?_eq_getElem h]
  rfl
theorem set_mid {α : Type} (l r : List α) (x v : α) (i : Nat) (h : l.length = i) : (l ++ x :: r).set i v = l ++ v :: r := by
  rw [List.set_append_right _ _ (by omega), h, Nat.sub_self]
  rfl
theorem eqStringS_l0 (l : List ByteArray) (hl : l.length ≤ 140737488355328) (d : Nat) : ∀ i : Nat, l.length - i = d → i ≤ l.length → Ev (fun k => laws_eqStringS.l0 k l l (i : Int)) true := by
  induction d with
  | zero =>
    intro i hd hi
    refine ev_succ ?_
    simp only [laws_eqStringS.l0, if_neg (show ¬ (i : Int) < (l.length : Int) from by omega)]
    exact ev_some rfl
  | succ d ih =>
    intro i hd hi
    refine ev_succ ?_
    simp only [laws_eqStringS.l0, if_pos (show (i : Int) < (l.length : Int) from by omega), if_pos (show (0 : Int) ≤ (i : Int) from by omega), if_true, wn i (show i < l.length from by omega) (by omega)]
    exact ih (i + 1) (by omega) (by omega)
theorem eqStringS_same (l : List ByteArray) (hl : l.length ≤ 140737488355328) : Ev (fun k => laws_eqStringS.f k l l) true := by
  unfold laws_eqStringS.f
  simp only [if_true]
  exact eqStringS_l0 l hl _ 0 rfl (by omega)
theorem eqWrite_same (a : Int) (b : ByteArray) : laws_eqWrite.f a b a b = some true := by
  unfold laws_eqWrite.f
  simp
theorem eqWriteS_l0 (l : List S67) (hl : l.length ≤ 140737488355328) (d : Nat) : ∀ i : Nat, l.length - i = d → i ≤ l.length → Ev (fun k => laws_eqWriteS.l0 k l l (i : Int)) true := by
  induction d with
  | zero =>
    intro i hd hi
    refine ev_succ ?_
    simp only [laws_eqWriteS.l0, if_neg (show ¬ (i : Int) < (l.length : Int) from by omega)]
    exact ev_some rfl
  | succ d ih =>
    intro i hd hi
    refine ev_succ ?_
    simp only [laws_eqWriteS.l0, if_pos (show (i : Int) < (l.length : Int) from by omega), if_pos (show (0 : Int) ≤ (i : Int) from by omega), eqWrite_same, Option.bind_some, if_true, wn i (show i < l.length from by omega) (by omega)]
    exact ih (i + 1) (by omega) (by omega)
theorem eqWriteS_same (l : List S67) (hl : l.length ≤ 140737488355328) : Ev (fun k => laws_eqWriteS.f k l l) true := by
  unfold laws_eqWriteS.f
  simp only [if_true]
  exact eqWriteS_l0 l hl _ 0 rfl (by omega)
theorem eqDisk_same (l0 : List ByteArray) (l1 : List S67) (h0 : l0.length ≤ 140737488355328) (h1 : l1.length ≤ 140737488355328) : Ev (fun k => laws_eqDisk.f k l0 l1 l0 l1) true := by
  unfold laws_eqDisk.f
  refine Ev.bind (eqStringS_same l0 h0) ?_
  simp only [if_true]
  refine Ev.bind (eqWriteS_same l1 h1) ?_
  simp only [if_true]
  exact ev_some rfl

/-! disknew -/
theorem l01Zero_l0 (n : Nat) (hn : n ≤ 100000) (d : Nat) : ∀ i : Nat, n - i = d → i ≤ n → Ev (fun k => spec_l01Long.l0 k (n : Int) 0 (List.replicate n 0) (i : Int)) (strOfNums (List.replicate n 0)) := by
  induction d with
  | zero =>
    intro i hd hi
    refine ev_succ ?_
    simp only [spec_l01Long.l0, if_neg (show ¬ (i : Int) < (n : Int) by omega)]
    exact ev_some rfl
  | succ d ih =>
    intro i hd hi
    refine ev_succ ?_
    simp only [spec_l01Long.l0, if_pos (show (i : Int) < (n : Int) by omega), if_pos (show (0 : Int) ≤ (i : Int) by omega), List.length_replicate, Int.toNat_natCast, wn i (show i < n by omega) (by omega), List.set_replicate_self]
    exact ih (i + 1) (by omega) (by omega)
def zero32 : ByteArray := strOfNums (List.replicate 32 0)
theorem zero32_size : zero32.size = 32 := strOfNums_size _
theorem l03Zero_ev : Ev (fun k => spec_l03Zero.f k) zero32 := by
  unfold spec_l03Zero.f spec_l01Long.f
  simp only [if_pos (show (0 : Int) ≤ 32 by decide), if_pos (show (32 : Int).toNat ≤ 281474976710656 by decide)]
  exact Ev.bind (l01Zero_l0 32 (by omega) 32 0 (by omega) (by omega)) (ev_some rfl)
theorem repeat_zero : strings_Repeat.f (⟨#[0]⟩ : ByteArray) 32 = some zero32 := by
  unfold strings_Repeat.f zero32
  rw [if_pos (by decide)]
  rfl
theorem spec_DiskNew_l0 (n : Nat) (hn : n ≤ 100) (d : Nat) : ∀ i : Nat, n - i = d → i ≤ n → Ev (fun k => spec_DiskNew.l0 k (n : Int) (i : Int) (List.replicate i zero32)) (List.replicate n zero32, [], true) := by
  induction d with
  | zero =>
    intro i hd hi
    obtain rfl : i = n := by omega
    refine ev_succ ?_
    simp only [spec_DiskNew.l0, if_neg (show ¬ (i : Int) < (i : Int) by omega)]
    exact ev_some rfl
  | succ d ih =>
    intro i hd hi
    refine ev_succ ?_
    simp only [spec_DiskNew.l0, if_pos (show (i : Int) < (n : Int) by omega), wn i (show i < n by omega) (by omega), List.length_replicate, if_pos (show i < 8796093022208 by omega)]
    refine Ev.bind l03Zero_ev ?_
    rw [← List.replicate_succ']
    exact ih (i + 1) (by omega) (by omega)
theorem impl_DiskNew_l0 (n : Nat) (hn : n ≤ 100) (d : Nat) : ∀ i : Nat, n - i = d → i ≤ n → Ev (fun k => impl_DiskNew.l0 k (n : Int) (i : Int) (List.replicate i zero32)) (List.replicate n zero32, [], true) := by
  induction d with
  | zero =>
    intro i hd hi
    obtain rfl : i = n := by omega
    refine ev_succ ?_
    simp only [impl_DiskNew.l0, if_neg (show ¬ (i : Int) < (i : Int) by omega)]
    exact ev_some rfl
  | succ d ih =>
    intro i hd hi
    refine ev_succ ?_
    simp only [impl_DiskNew.l0, if_pos (show (i : Int) < (n : Int) by omega), repeat_zero, Option.bind_some, wn i (show i < n by omega) (by omega), List.length_replicate, if_pos (show i < 8796093022208 by omega)]
    rw [← List.replicate_succ']
    exact ih (i + 1) (by omega) (by omega)
def diskNewM (n : Int) : List ByteArray × List S67 × Bool := if 1 ≤ n ∧ n ≤ 100 then (List.replicate n.toNat zero32, [], true) else ([], [], false)
theorem spec_DiskNew_ev (n : Int) : Ev (fun k => spec_DiskNew.f k n) (diskNewM n) := by
  unfold spec_DiskNew.f diskNewM
  simp only [spec_in_eq, Option.bind_some]
  by_cases h : 1 ≤ n ∧ n ≤ 100
  · obtain ⟨m, rfl⟩ := Int.eq_ofNat_of_zero_le (show 0 ≤ n by omega)
    simp only [decide_eq_true h, if_true, if_pos h, Int.toNat_natCast]
    exact spec_DiskNew_l0 m (by omega) m 0 (by omega) (by omega)
  · simp only [decide_eq_false h, Bool.false_eq_true, if_false, if_neg h]
    exact ev_some rfl
theorem impl_DiskNew_ev (n : Int) : Ev (fun k => impl_DiskNew.f k n) (diskNewM n) := by
  unfold impl_DiskNew.f diskNewM
  simp only [impl_in_eq, Option.bind_some]
  by_cases h : 1 ≤ n ∧ n ≤ 100
  · obtain ⟨m, rfl⟩ := Int.eq_ofNat_of_zero_le (show 0 ≤ n by omega)
    simp only [decide_eq_true h, if_true, if_pos h, Int.toNat_natCast]
    exact impl_DiskNew_l0 m (by omega) m 0 (by omega) (by omega)
  · simp only [decide_eq_false h, Bool.false_eq_true, if_false, if_neg h]
    exact ev_some rfl

/-! marktext -/
theorem markText_l0 (n : Nat) : ∀ (acc : ByteArray), n ≤ 1000000000000 → acc.size + n ≤ 4000000000000000000 → ∃ t, Ev (fun k => laws_markText.l0 k (n : Int) acc) t := by
  induction n using Nat.strongRecOn with
  | _ n ih =>
    intro acc hn ha
    by_cases h : 0 < n
    · have e1 : wrap64 (Int.tdiv (n : Int) 10) = ((n / 10 : Nat) : Int) := by
        rw [Int.tdiv_eq_ediv_of_nonneg (by omega), w64 (by omega) (by omega)]; omega
      obtain ⟨t, ht⟩ := ih (n / 10) (by omega) (strOfNums [(wrap64 (48 + Int.tmod (n : Int) 10)) % 256] ++ acc) (by omega) (by rw [size_append, strOfNums_size]; simp; omega)
      refine ⟨t, ev_succ ?_⟩
      have s1 : (strOfNums [(wrap64 (48 + Int.tmod (n : Int) 10)) % 256]).size = 1 := strOfNums_size _
      simp only [laws_markText.l0, if_pos (show (n : Int) > 0 from by omega), Option.bind_some, s1, if_pos (show 1 + acc.size ≤ 9223372036854775807 from by omega), e1]
      exact ht
    · refine ⟨(⟨#[109]⟩ : ByteArray) ++ acc, ev_succ ?_⟩
      simp only [laws_markText.l0, if_neg (show ¬ (n : Int) > 0 from by omega), if_pos (show 1 + acc.size ≤ 9223372036854775807 from by omega)]
      exact ev_some rfl
theorem markText_some (k : Int) (h0 : 0 ≤ k) (h1 : k ≤ 1000000000000) : ∃ t, Ev (fun n => laws_markText.f n k) t := by
  unfold laws_markText.f
  obtain ⟨n, rfl⟩ := Int.eq_ofNat_of_zero_le h0
  by_cases h : (n : Int) ≤ 0
  · simp only [if_pos h]; exact ⟨_, ev_some rfl⟩
  · simp only [if_neg h]
    exact markText_l0 n _ (by omega) (by have : (⟨#[]⟩ : ByteArray).size = 0 := rfl; omega)
/-- The text that marks a place. -/
noncomputable def markT (k : Int) : ByteArray := by
  classical exact if h : ∃ t, Ev (fun n => laws_markText.f n k) t then h.choose else (⟨#[]⟩ : ByteArray)
theorem markText_ev (k : Int) (h0 : 0 ≤ k) (h1 : k ≤ 1000000000000) : Ev (fun n => laws_markText.f n k) (markT k) := by
  have h := markText_some k h0 h1
  unfold markT
  rw [dif_pos h]
  exact h.choose_spec

/-! markdisk -/
noncomputable def markedS : Nat → Int → List ByteArray
  | 0, _ => []
  | n + 1, k => markT k :: markedS n (k + 1)
theorem markedS_snoc (n : Nat) : ∀ k, markedS (n + 1) k = markedS n k ++ [markT (k + n)] := by
  induction n with
  | zero => intro k; simp [markedS]
  | succ n ih =>
    intro k
    rw [markedS, ih (k + 1)]
    simp only [markedS, List.cons_append]
    have e : k + 1 + (n : Int) = k + ((n + 1 : Nat) : Int) := by omega
    rw [e]
theorem markedS_length (n : Nat) : ∀ k, (markedS n k).length = n := by
  induction n with
  | zero => intro k; rfl
  | succ n ih => intro k; simp [markedS, ih]
theorem markStringS_l0 (n : Nat) (b : Int) (hb : 0 ≤ b ∧ b ≤ 100000000000) (hn : n ≤ 100000000000) (d : Nat) : ∀ (i : Nat) (rest : List ByteArray), rest.length = d → i + d = n →
    Ev (fun k => laws_markStringS.l0 k (markedS i b ++ rest) (b + (i : Int)) (i : Int)) (b + (n : Int), markedS n b) := by
  induction d with
  | zero =>
    intro i rest hr hi
    obtain rfl : rest = [] := List.eq_nil_of_length_eq_zero hr
    obtain rfl : i = n := by omega
    refine ev_succ ?_
    simp only [laws_markStringS.l0, List.append_nil, markedS_length, if_neg (show ¬ (i : Int) < (i : Int) from by omega)]
    exact ev_some rfl
  | succ d ih =>
    intro i rest hr hi
    obtain ⟨x, rest, rfl⟩ : ∃ x t, rest = x :: t := by cases rest with | nil => simp at hr | cons x t => exact ⟨x, t, rfl⟩
    have hr' : rest.length = d := by simpa using hr
    refine ev_succ ?_
    have hlen : (markedS i b ++ x :: rest).length = n := by simp [markedS_length]; omega
    have g0 : (i : Int) < ((markedS i b ++ x :: rest).length : Int) := by omega
    have g1 : (0 : Int) ≤ (i : Int) := by omega
    have q1 : -9223372036854775808 ≤ b + (i : Int) + 1 ∧ b + (i : Int) + 1 ≤ 9223372036854775807 := by omega
    have q4 : 0 ≤ b + (i : Int) ∧ b + (i : Int) ≤ 1000000000000 := by omega
    have q5 : n ≤ 140737488355328 := by omega
    have q6 : i < n := by omega
    have q7 : b + (i : Int) + 1 = b + ((i + 1 : Nat) : Int) := by omega
    have q8 : i + 1 + d = n := by omega
    have e4 : wrap64 ((i : Int) + 1) = ((i + 1 : Nat) : Int) := wn i q6 q5
    simp only [laws_markStringS.l0, if_pos g0, if_pos g1, Int.toNat_natCast, set_mid _ _ _ _ i (markedS_length i b), w64 q1.1 q1.2, e4]
    clear e4
    refine Ev.bind (markText_ev _ q4.1 q4.2) ?_
    have := ih (i + 1) rest hr' q8
    rw [markedS_snoc] at this
    rw [q7]
    simpa using this
theorem markStringS_ev (l : List ByteArray) (b : Int) (hb : 0 ≤ b ∧ b ≤ 100000000000) (hn : l.length ≤ 100000000000) : Ev (fun k => laws_markStringS.f k l b) (b + (l.length : Int), markedS l.length b) := by
  unfold laws_markStringS.f
  simpa [markedS] using markStringS_l0 l.length b hb hn l.length 0 l rfl (by omega)
theorem markedS_at (n : Nat) : ∀ (k : Int) (i : Nat), i < n → (markedS n k).getD i ByteArray.empty = markT (k + i) := by
  induction n with
  | zero => intro k i h; omega
  | succ n ih =>
    intro k i h
    cases i with
    | zero => simp [markedS]
    | succ i =>
      rw [markedS]
      simp only [List.getD_cons_succ]
      rw [ih (k + 1) i (by omega)]
      have e : k + 1 + (i : Int) = k + ((i + 1 : Nat) : Int) := by omega
      rw [e]
theorem heldStringS_l0 (n : Nat) (b : Int) (hb : 0 ≤ b ∧ b ≤ 100000000000) (hn : n ≤ 100000000000) (d : Nat) : ∀ (i : Nat), i + d = n → Ev (fun k => laws_heldStringS.l0 k (markedS n b) (b + (i : Int)) (i : Int)) (b + (n : Int)) := by
  induction d with
  | zero =>
    intro i hi
    obtain rfl : i = n := by omega
    refine ev_succ ?_
    simp only [laws_heldStringS.l0, markedS_length, if_neg (show ¬ (i : Int) < (i : Int) from by omega)]
    exact ev_some rfl
  | succ d ih =>
    intro i hi
    refine ev_succ ?_
    have g0 : (i : Int) < ((markedS n b).length : Int) := by rw [markedS_length]; omega
    have g1 : (0 : Int) ≤ (i : Int) := by omega
    have q1 : -9223372036854775808 ≤ b + (i : Int) + 1 ∧ b + (i : Int) + 1 ≤ 9223372036854775807 := by omega
    have q4 : 0 ≤ b + (i : Int) ∧ b + (i : Int) ≤ 1000000000000 := by omega
    have q5 : n ≤ 140737488355328 := by omega
    have q6 : i < n := by omega
    have q7 : b + (i : Int) + 1 = b + ((i + 1 : Nat) : Int) := by omega
    have q8 : i + 1 + d = n := by omega
    have e4 : wrap64 ((i : Int) + 1) = ((i + 1 : Nat) : Int) := wn i q6 q5
    simp only [laws_heldStringS.l0, if_pos g0, if_pos g1, rdOf_nat, markedS_at n b i q6, w64 q1.1 q1.2, e4]
    clear e4
    refine Ev.bind (markText_ev _ q4.1 q4.2) ?_
    simp only [if_true, q7]
    exact ih (i + 1) q8
theorem heldStringS_ev (n : Nat) (b : Int) (hb : 0 ≤ b ∧ b ≤ 100000000000) (hn : n ≤ 100000000000) : Ev (fun k => laws_heldStringS.f k (markedS n b) b) (b + (n : Int)) := by
  unfold laws_heldStringS.f
  simpa using heldStringS_l0 n b hb hn n 0 (by omega)
noncomputable def markedW : Nat → Int → List S67
  | 0, _ => []
  | n + 1, k => ⟨k, markT (k + 1)⟩ :: markedW n (k + 2)
theorem markedW_snoc (n : Nat) : ∀ k, markedW (n + 1) k = markedW n k ++ [⟨k + 2 * n, markT (k + 2 * n + 1)⟩] := by
  induction n with
  | zero => intro k; simp [markedW]
  | succ n ih =>
    intro k
    rw [markedW, ih (k + 2)]
    simp only [markedW, List.cons_append]
    have e : k + 2 + 2 * (n : Int) = k + 2 * ((n + 1 : Nat) : Int) := by omega
    rw [e]
theorem markedW_length (n : Nat) : ∀ k, (markedW n k).length = n := by
  induction n with
  | zero => intro k; rfl
  | succ n ih => intro k; simp [markedW, ih]
theorem rd_set_W (l : List S67) (i : Nat) (v : S67) (h : i < l.length) : rd_T67 (l.set i v) (i : Int) = v := by
  unfold rd_T67
  rw [List.getD_eq_getElem?_getD, Int.toNat_natCast, List.getElem?_set_self h]
  rfl
theorem markWriteS_l0 (n : Nat) (b : Int) (hb : 0 ≤ b ∧ b ≤ 100000000000) (hn : n ≤ 100000000000) (d : Nat) : ∀ (i : Nat) (rest : List S67), rest.length = d → i + d = n →
    Ev (fun k => laws_markWriteS.l0 k (markedW i b ++ rest) (b + 2 * (i : Int)) (i : Int)) (b + 2 * (n : Int), markedW n b) := by
  induction d with
  | zero =>
    intro i rest hr hi
    obtain rfl : rest = [] := List.eq_nil_of_length_eq_zero hr
    obtain rfl : i = n := by omega
    refine ev_succ ?_
    simp only [laws_markWriteS.l0, List.append_nil, markedW_length, if_neg (show ¬ (i : Int) < (i : Int) from by omega)]
    exact ev_some rfl
  | succ d ih =>
    intro i rest hr hi
    obtain ⟨x, rest, rfl⟩ : ∃ x t, rest = x :: t := by cases rest with | nil => simp at hr | cons x t => exact ⟨x, t, rfl⟩
    have hr' : rest.length = d := by simpa using hr
    refine ev_succ ?_
    have hlen : (markedW i b ++ x :: rest).length = n := by simp [markedW_length]; omega
    have g0 : (i : Int) < ((markedW i b ++ x :: rest).length : Int) := by omega
    have g1 : (0 : Int) ≤ (i : Int) := by omega
    have g2 : i < (markedW i b ++ x :: rest).length := by omega
    have q1 : -9223372036854775808 ≤ b + 2 * (i : Int) + 1 ∧ b + 2 * (i : Int) + 1 ≤ 9223372036854775807 := by omega
    have q2 : -9223372036854775808 ≤ b + 2 * (i : Int) + 1 + 1 ∧ b + 2 * (i : Int) + 1 + 1 ≤ 9223372036854775807 := by omega
    have q4 : 0 ≤ b + 2 * (i : Int) + 1 ∧ b + 2 * (i : Int) + 1 ≤ 1000000000000 := by omega
    have q5 : n ≤ 140737488355328 := by omega
    have q6 : i < n := by omega
    have q7 : b + 2 * (i : Int) + 1 + 1 = b + 2 * ((i + 1 : Nat) : Int) := by omega
    have q8 : i + 1 + d = n := by omega
    have e4 : wrap64 ((i : Int) + 1) = ((i + 1 : Nat) : Int) := wn i q6 q5
    have hrd : ∀ v, rd_T67 ((markedW i b ++ x :: rest).set i v) (i : Int) = v := fun v => rd_set_W _ i v g2
    have hst : ∀ v, (markedW i b ++ x :: rest).set i v = markedW i b ++ v :: rest := fun v => set_mid _ _ _ _ i (markedW_length i b)
    simp only [laws_markWriteS.l0, if_pos g0, if_pos g1, Option.bind_some, Int.toNat_natCast, List.set_set, hrd, w64 q1.1 q1.2, w64 q2.1 q2.2, e4]
    clear e4
    refine Ev.bind (markText_ev _ q4.1 q4.2) ?_
    have := ih (i + 1) rest hr' q8
    rw [markedW_snoc] at this
    simp only [hst]
    rw [q7]
    simpa using this
theorem markWriteS_ev (l : List S67) (b : Int) (hb : 0 ≤ b ∧ b ≤ 100000000000) (hn : l.length ≤ 100000000000) : Ev (fun k => laws_markWriteS.f k l b) (b + 2 * (l.length : Int), markedW l.length b) := by
  unfold laws_markWriteS.f
  simpa [markedW] using markWriteS_l0 l.length b hb hn l.length 0 l rfl (by omega)
theorem markedW_at (n : Nat) : ∀ (k : Int) (i : Nat), i < n → rd_T67 (markedW n k) (i : Int) = ⟨k + 2 * i, markT (k + 2 * i + 1)⟩ := by
  induction n with
  | zero => intro k i h; omega
  | succ n ih =>
    intro k i h
    unfold rd_T67
    rw [Int.toNat_natCast]
    cases i with
    | zero => simp [markedW]
    | succ i =>
      have := ih (k + 2) i (by omega)
      unfold rd_T67 at this
      rw [Int.toNat_natCast] at this
      rw [markedW]
      simp only [List.getD_cons_succ]
      rw [this]
      have e : k + 2 + 2 * (i : Int) = k + 2 * ((i + 1 : Nat) : Int) := by omega
      rw [e]
theorem heldWriteS_l0 (n : Nat) (b : Int) (hb : 0 ≤ b ∧ b ≤ 100000000000) (hn : n ≤ 100000000000) (d : Nat) : ∀ (i : Nat), i + d = n → Ev (fun k => laws_heldWriteS.l0 k (markedW n b) (b + 2 * (i : Int)) (i : Int)) (b + 2 * (n : Int)) := by
  induction d with
  | zero =>
    intro i hi
    obtain rfl : i = n := by omega
    refine ev_succ ?_
    simp only [laws_heldWriteS.l0, markedW_length, if_neg (show ¬ (i : Int) < (i : Int) from by omega)]
    exact ev_some rfl
  | succ d ih =>
    intro i hi
    refine ev_succ ?_
    have g0 : (i : Int) < ((markedW n b).length : Int) := by rw [markedW_length]; omega
    have g1 : (0 : Int) ≤ (i : Int) := by omega
    have q1 : -9223372036854775808 ≤ b + 2 * (i : Int) + 1 ∧ b + 2 * (i : Int) + 1 ≤ 9223372036854775807 := by omega
    have q2 : -9223372036854775808 ≤ b + 2 * (i : Int) + 1 + 1 ∧ b + 2 * (i : Int) + 1 + 1 ≤ 9223372036854775807 := by omega
    have q4 : 0 ≤ b + 2 * (i : Int) + 1 ∧ b + 2 * (i : Int) + 1 ≤ 1000000000000 := by omega
    have q5 : n ≤ 140737488355328 := by omega
    have q6 : i < n := by omega
    have q7 : b + 2 * (i : Int) + 1 + 1 = b + 2 * ((i + 1 : Nat) : Int) := by omega
    have q8 : i + 1 + d = n := by omega
    have e4 : wrap64 ((i : Int) + 1) = ((i + 1 : Nat) : Int) := wn i q6 q5
    simp only [laws_heldWriteS.l0, if_pos g0, if_pos g1, markedW_at n b i q6, if_true, w64 q1.1 q1.2, w64 q2.1 q2.2, e4]
    clear e4
    refine Ev.bind (markText_ev _ q4.1 q4.2) ?_
    simp only [if_true, q7]
    exact ih (i + 1) q8
theorem heldWriteS_ev (n : Nat) (b : Int) (hb : 0 ≤ b ∧ b ≤ 100000000000) (hn : n ≤ 100000000000) : Ev (fun k => laws_heldWriteS.f k (markedW n b) b) (b + 2 * (n : Int)) := by
  unfold laws_heldWriteS.f
  simpa using heldWriteS_l0 n b hb hn n 0 (by omega)
theorem markDisk_ev (l0 : List ByteArray) (l1 : List S67) (h0 : l0.length ≤ 10000000) (h1 : l1.length ≤ 10000000) : Ev (fun k => laws_markDisk.f k l0 l1 1) (1 + (l0.length : Int) + 2 * (l1.length : Int), markedS l0.length 1, markedW l1.length (1 + (l0.length : Int))) := by
  unfold laws_markDisk.f
  refine Ev.bind (markStringS_ev l0 1 (by omega) (by omega)) ?_
  refine Ev.bind (markWriteS_ev l1 _ (by simp; omega) (by omega)) ?_
  exact ev_some rfl
theorem heldDisk_ev (n0 n1 : Nat) (h0 : n0 ≤ 10000000) (h1 : n1 ≤ 10000000) : Ev (fun k => laws_heldDisk.f k (markedS n0 1) (markedW n1 (1 + (n0 : Int))) 1) (1 + (n0 : Int) + 2 * (n1 : Int)) := by
  unfold laws_heldDisk.f
  refine Ev.bind (heldStringS_ev n0 1 (by omega) (by omega)) ?_
  simp only [if_neg (show ¬ 1 + (n0 : Int) < 0 by omega)]
  refine Ev.bind (heldWriteS_ev n1 _ (by omega) (by omega)) ?_
  simp only [if_neg (show ¬ 1 + (n0 : Int) + 2 * (n1 : Int) < 0 by omega)]
  exact ev_some rfl

theorem FnExactDiskNew : laws_FnExactDiskNew.Pure := by
  intro n _
  refine Ev.rounds ?_
  unfold laws_FnExactDiskNew.f
  have h1 := spec_DiskNew_ev n
  have h2 := impl_DiskNew_ev n
  obtain ⟨r, hr⟩ : ∃ r, diskNewM n = r := ⟨_, rfl⟩
  have hz : r.1.length ≤ 100 ∧ r.2.1.length ≤ 100 := by
    rw [← hr]
    unfold diskNewM
    split
    · exact ⟨by simp only [List.length_replicate]; omega, by simp⟩
    · exact ⟨by simp, by simp⟩
  rw [hr] at h1 h2
  obtain ⟨r0, r1, ok⟩ := r
  simp only at hz
  refine Ev.bind h1 ?_
  refine Ev.bind h2 ?_
  refine Ev.bind (eqDisk_same r0 r1 (by omega) (by omega)) ?_
  simp only [if_true, bne_self_eq_false]
  refine ev_succ ?_
  simp only [laws_FnExactDiskNew.j0, Bool.false_eq_true, if_false]
  refine Ev.bind (markDisk_ev r0 r1 (by omega) (by omega)) ?_
  refine Ev.bind (heldDisk_ev r0.length r1.length (by omega) (by omega)) ?_
  simp only [if_neg (show ¬ 1 + (r0.length : Int) + 2 * (r1.length : Int) < 0 by omega), if_true]
  refine Ev.bind h2 ?_
  refine Ev.bind (eqDisk_same r0 r1 (by omega) (by omega)) ?_
  simp only [if_true, bne_self_eq_false]
  refine ev_succ ?_
  simp only [laws_FnExactDiskNew.j1, Bool.false_eq_true, if_false]
  refine Ev.bind (heldDisk_ev r0.length r1.length (by omega) (by omega)) ?_
  simp only [if_neg (show ¬ 1 + (r0.length : Int) + 2 * (r1.length : Int) < 0 by omega), if_true]
  exact ev_some rfl

end Go.Proofs.Ytdnjjdmlmfoljaa.Pure
