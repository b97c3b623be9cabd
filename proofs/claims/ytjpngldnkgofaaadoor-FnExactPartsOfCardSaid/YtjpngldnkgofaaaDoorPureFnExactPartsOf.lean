/- The pure statement of FnExactPartsOf, over numbers and lists: it is true of every argument; no condition but the bounds that the statement itself names. -/
import Derived.Test.YtjpngldnkgofaaaDoorPFnExactPartsOfx2
import Derived.Test.YtjpngldnkgofaaaDoorBase
import Derived.Test.YtjpngldnkgofaaaDoorModelDisk
set_option linter.unusedVariables false
set_option linter.unusedSimpArgs false
namespace Go.Proofs.YtjpngldnkgofaaaDoor.Pure
open Go.RowKit Go.Proofs.YtjpngldnkgofaaaDoor.PFnExactPartsOf Go.Proofs.YtjpngldnkgofaaaDoorW.PrintWords Go.Proofs.YtjpngldnkgofaaaDoorW.PrintLast Go.Proofs.YtjpngldnkgofaaaDoorW.PrintMore Go.Proofs.YtjpngldnkgofaaaDoor.Base

/-! in -/

/-! disk -/
theorem rdOf_nat {α : Type} (d : α) (l : List α) (i : Nat) : rdOf d l (i : Int) = l.getD i d := by unfold rdOf; rw [Int.toNat_natCast]
theorem getD_drop {α : Type} (d : α) (l : List α) (i : Nat) (h : i < l.length) : l.drop i = l.getD i d :: l.drop (i + 1) := by
  rw [List.drop_eq_getElem_cons h, List.getD_eq_getElem?_getD, List.getElem?_eq_getElem h]
  rfl
theorem set_mid {α : Type} (l r : List α) (x v : α) (i : Nat) (h : l.length = i) : (l ++ x :: r).set i v = l ++ v :: r := by
  rw [List.set_append_right _ _ (by omega), h, Nat.sub_self]
  rfl
theorem eqStringS_l0 (l : List ByteArray) (hl : l.length ≤ 140737488355328) (d : Nat) : ∀ i : Nat, l.length - i = d → i ≤ l.length → Ev (fun k => laws_eqStringS.l0 k l l (i : Int)) true := by
  induction d with
  | zero =>
    intro i hd hi
    refine ev_succ ?_
    simp only [laws_eqStringS.l0, if_neg (show ¬ (i : Int) < (l.length : Int) from by omega)]
    exact ev_some rfl
  | succ d ih =>
    intro i hd hi
    refine ev_succ ?_
    simp only [laws_eqStringS.l0, if_pos (show (i : Int) < (l.length : Int) from by omega), if_pos (show (0 : Int) ≤ (i : Int) from by omega), if_true, wn i (show i < l.length from by omega) (by omega)]
    exact ih (i + 1) (by omega) (by omega)
theorem eqStringS_same (l : List ByteArray) (hl : l.length ≤ 140737488355328) : Ev (fun k => laws_eqStringS.f k l l) true := by
  unfold laws_eqStringS.f
  simp only [if_true]
  exact eqStringS_l0 l hl _ 0 rfl (by omega)

/-! partsof -/
def okB (c : UInt8) : Bool := decide (32 ≤ c.toNat ∧ c.toNat ≤ 126)
def mkB (l : List UInt8) : ByteArray := ⟨l.toArray⟩
theorem bt_cons (x : ByteArray) (i : Nat) (h : i < x.size) : ∃ c : UInt8, x.data.toList.drop i = c :: x.data.toList.drop (i + 1) ∧ bt x (i : Int) = (c.toNat : Int) := by
  have hl : i < x.data.toList.length := by rw [Array.length_toList]; exact h
  refine ⟨x.data.toList[i], List.drop_eq_getElem_cons hl, ?_⟩
  have h1 := bytes_drop x i h
  unfold bytesOf at h1
  rw [← List.map_drop, ← List.map_drop, List.drop_eq_getElem_cons hl, List.map_cons] at h1
  exact ((List.cons.inj h1).1).symm
theorem mk_extract (x : ByteArray) (b i : Nat) : x.extract b i = mkB ((x.data.toList.drop b).take (i - b)) := by
  apply ByteArray.ext
  apply Array.ext'
  simp [mkB, ByteArray.data_extract, List.drop_take]
def partsEnd (out : List ByteArray) : List ByteArray × Bool := if (out.length : Int) > 10 then ([], false) else (out, true)
theorem isSp_ok (c : UInt8) (h : okB c = true) : Lib.isSp c = decide (c.toNat = 32) := by
  have h1 : 32 ≤ c.toNat ∧ c.toNat ≤ 126 := by simpa [okB] using h
  have hn : ∀ n : Nat, n < 32 → (c == UInt8.ofNat n) = false := by
    intro n hn
    rw [beq_eq_false_iff_ne]
    rintro rfl
    have : (UInt8.ofNat n).toNat = n % 256 := UInt8.toNat_ofNat'
    omega
  have e9 := hn 9 (by decide)
  have e10 := hn 10 (by decide)
  have e11 := hn 11 (by decide)
  have e12 := hn 12 (by decide)
  have e13 := hn 13 (by decide)
  have e32 : (c == (32 : UInt8)) = decide (c.toNat = 32) := by
    by_cases h : c.toNat = 32
    · rw [decide_eq_true h, beq_iff_eq]
      exact UInt8.toNat_inj.1 (by rw [h]; rfl)
    · rw [decide_eq_false h, beq_eq_false_iff_ne]
      rintro rfl
      exact h rfl
  unfold Lib.isSp
  rw [show (9 : UInt8) = UInt8.ofNat 9 from rfl, show (10 : UInt8) = UInt8.ofNat 10 from rfl, show (11 : UInt8) = UInt8.ofNat 11 from rfl, show (12 : UInt8) = UInt8.ofNat 12 from rfl, show (13 : UInt8) = UInt8.ofNat 13 from rfl, e9, e10, e11, e12, e13, e32]
  rfl
theorem ev_to {α : Type} {g : Nat → Option α} {a b : α} (h : Ev g a) (e : a = b) : Ev g b := e ▸ h
theorem spec_PartsOf_l0 (x : ByteArray) (hx : x.size ≤ 600) (d : Nat) : ∀ (i b : Nat) (out : List ByteArray), x.size - i = d → i ≤ x.size → b ≤ i → out.length ≤ b →
    Ev (fun k => spec_PartsOf.l0 k x out (b : Int) (i : Int)) (if (x.data.toList.drop i).all okB then partsEnd (out ++ (Lib.fieldsGo ((x.data.toList.drop b).take (i - b)) (x.data.toList.drop i)).map mkB) else ([], false)) := by
  have hL : x.data.toList.length = x.size := by rw [Array.length_toList]; rfl
  have step : ∀ (i b : Nat) (out : List ByteArray), i ≤ x.size → b ≤ i → out.length ≤ b → ∀ R, Ev (fun k => spec_PartsOf.l0 k x (if b < i then out ++ [x.extract b i] else out) ((i + 1 : Nat) : Int) ((i + 1 : Nat) : Int)) R →
      Ev (fun k => spec_PartsOf.j2 k x out (b : Int) (i : Int) false) R := by
    intro i b out hi hb ho R hR
    refine ev_succ ?_
    have e1 : wrap64 ((i : Int) + 1) = ((i + 1 : Nat) : Int) := wn i (show i < 700 by omega) (by decide)
    simp only [spec_PartsOf.j2, Bool.false_eq_true, if_false, e1, Int.toNat_natCast]
    by_cases h : b < i
    · rw [if_pos h] at hR
      simp only [if_pos (show (b : Int) < (i : Int) from by omega), if_pos (show (0 : Int) ≤ (b : Int) from by omega), if_pos (show (b : Int) ≤ (i : Int) from by omega), if_pos (show (i : Int) ≤ (x.size : Int) from by omega), if_pos (show out.length < 8796093022208 from by omega)]
      exact hR
    · rw [if_neg h] at hR
      simp only [if_neg (show ¬ (b : Int) < (i : Int) from by omega)]
      exact hR
  induction d with
  | zero =>
    intro i b out hd hi hb ho
    have he : i = x.size := by omega
    refine ev_succ ?_
    simp only [spec_PartsOf.l0, if_pos (show (i : Int) ≤ (x.size : Int) from by omega), if_neg (show ¬ (i : Int) < (x.size : Int) from by omega)]
    refine ev_succ ?_
    simp only [spec_PartsOf.j1, Bool.false_eq_true, if_false, if_neg (show ¬ (i : Int) < (x.size : Int) from by omega)]
    refine step i b out hi hb ho _ ?_
    refine ev_succ ?_
    simp only [spec_PartsOf.l0, if_neg (show ¬ ((i + 1 : Nat) : Int) ≤ (x.size : Int) from by omega)]
    rw [List.drop_eq_nil_of_le (show x.data.toList.length ≤ i by omega)]
    simp only [List.all_nil, if_true, Lib.fieldsGo]
    refine ev_const ?_
    by_cases h : b < i
    · have hn : ((x.data.toList.drop b).take (i - b)).isEmpty = false := by
        rw [List.isEmpty_eq_false_iff]
        intro e
        have := congrArg List.length e
        simp [hL] at this
        omega
      simp only [if_pos h, hn, Bool.false_eq_true, if_false, List.map_cons, List.map_nil, mk_extract, partsEnd]
      split <;> rfl
    · have hn : ((x.data.toList.drop b).take (i - b)).isEmpty = true := by
        rw [show i - b = 0 by omega]; rfl
      simp only [if_neg h, hn, if_true, List.map_nil, List.append_nil, partsEnd]
      split <;> rfl
  | succ d ih =>
    intro i b out hd hi hb ho
    have hlt : i < x.size := by omega
    obtain ⟨c, hc, hbt⟩ := bt_cons x i hlt
    have hcr := c.toNat_lt
    have e1 : wrap64 ((i : Int) + 1) = ((i + 1 : Nat) : Int) := wn i (show i < 700 by omega) (by decide)
    refine ev_succ ?_
    simp only [spec_PartsOf.l0, if_pos (show (i : Int) ≤ (x.size : Int) from by omega), if_pos (show (i : Int) < (x.size : Int) from by omega), if_pos (show (0 : Int) ≤ (i : Int) from by omega), hbt]
    rw [hc]
    by_cases h1 : c.toNat < 32
    · have hk : okB c = false := by simp [okB]; omega
      simp only [if_pos (show (c.toNat : Int) < 32 from by omega), List.all_cons, hk, Bool.false_and, Bool.false_eq_true, if_false]
      refine ev_succ ?_
      simp only [spec_PartsOf.j1, if_true]
      exact ev_some rfl
    · simp only [if_neg (show ¬ (c.toNat : Int) < 32 from by omega)]
      by_cases h2 : c.toNat > 126
      · have hk : okB c = false := by simp [okB]; omega
        simp only [decide_eq_true (show (c.toNat : Int) > 126 from by omega), List.all_cons, hk, Bool.false_and, Bool.false_eq_true, if_false]
        refine ev_succ ?_
        simp only [spec_PartsOf.j1, if_true]
        exact ev_some rfl
      · have hk : okB c = true := by simp [okB]; omega
        simp only [decide_eq_false (show ¬ (c.toNat : Int) > 126 from by omega), List.all_cons, hk, Bool.true_and]
        refine ev_succ ?_
        simp only [spec_PartsOf.j1, Bool.false_eq_true, if_false, if_pos (show (i : Int) < (x.size : Int) from by omega), if_pos (show (0 : Int) ≤ (i : Int) from by omega), hbt]
        have hs := isSp_ok c hk
        by_cases h3 : c.toNat = 32
        · rw [decide_eq_true h3] at hs
          have e2 : ((c.toNat : Int) != 32) = false := by rw [h3]; rfl
          simp only [e2]
          refine step i b out hi hb ho _ ?_
          have := ih (i + 1) (i + 1) (if b < i then out ++ [x.extract b i] else out) (by omega) (by omega) (Nat.le_refl _) (by split <;> (try rw [List.length_append]) <;> (try rw [List.length_singleton]) <;> omega)
          refine ev_to this ?_
          have hfg : (if b < i then out ++ [x.extract b i] else out) ++ (Lib.fieldsGo ((x.data.toList.drop (i + 1)).take (i + 1 - (i + 1))) (x.data.toList.drop (i + 1))).map mkB
              = out ++ (Lib.fieldsGo ((x.data.toList.drop b).take (i - b)) (c :: x.data.toList.drop (i + 1))).map mkB := by
            rw [Nat.sub_self, List.take_zero, Lib.fieldsGo, hs, if_pos rfl]
            by_cases h : b < i
            · have hn : ((x.data.toList.drop b).take (i - b)).isEmpty = false := by
                rw [List.isEmpty_eq_false_iff]
                intro e
                have := congrArg List.length e
                simp [hL] at this
                omega
              rw [hn, if_pos h, if_neg (by decide), List.map_cons, mk_extract, List.append_assoc]
              rfl
            · have hn : ((x.data.toList.drop b).take (i - b)).isEmpty = true := by
                rw [show i - b = 0 by omega]; rfl
              rw [hn, if_neg h, if_pos rfl]
          rw [hfg]
        · rw [decide_eq_false h3] at hs
          have e2 : ((c.toNat : Int) != 32) = true := by rw [bne_iff_ne]; omega
          simp only [e2]
          refine ev_succ ?_
          simp only [spec_PartsOf.j2, if_true, e1]
          have := ih (i + 1) b out (by omega) (by omega) (by omega) ho
          refine ev_to this ?_
          have ht : (x.data.toList.drop b).take (i + 1 - b) = (x.data.toList.drop b).take (i - b) ++ [c] := by
            have hlb : i - b < (x.data.toList.drop b).length := by rw [List.length_drop, hL]; omega
            rw [show i + 1 - b = (i - b) + 1 by omega, List.take_succ_eq_append_getElem hlb]
            congr 2
            rw [List.getElem_drop]
            have h5 : x.data.toList[i]? = some c := by
              have := congrArg (·[0]?) hc
              simpa [List.getElem?_drop] using this
            have h6 : x.data.toList[b + (i - b)]? = some c := by rw [show b + (i - b) = i by omega]; exact h5
            rw [List.getElem?_eq_some_iff] at h6
            exact h6.2
          rw [ht, Lib.fieldsGo, hs, if_neg (show ¬ (false = true) by decide)]
/-- What PartsOf tells. -/
def partsM (x : ByteArray) : List ByteArray × Bool := if x.size ≤ 600 ∧ x.data.toList.all okB = true then partsEnd ((Lib.fields x.data.toList).map mkB) else ([], false)
theorem spec_PartsOf_ev (x : ByteArray) : Ev (fun k => spec_PartsOf.f k x) (partsM x) := by
  unfold spec_PartsOf.f partsM
  simp only [Option.bind_some]
  by_cases h : (x.size : Int) > 600
  · simp only [if_pos h, if_neg (show ¬ (x.size ≤ 600 ∧ x.data.toList.all okB = true) from fun h2 => by omega)]
    exact ev_some rfl
  · simp only [if_neg h]
    have := spec_PartsOf_l0 x (by omega) x.size 0 0 [] (by omega) (by omega) (by omega) (by simp)
    refine ev_to this ?_
    by_cases h2 : x.data.toList.all okB = true
    · rw [List.drop_zero, if_pos h2, if_pos (show x.size ≤ 600 ∧ x.data.toList.all okB = true from ⟨by omega, h2⟩)]; rfl
    · rw [List.drop_zero, if_neg h2, if_neg (show ¬ (x.size ≤ 600 ∧ x.data.toList.all okB = true) from fun h3 => h2 h3.2)]
theorem impl_PartsOf_l0 (x : ByteArray) (hx : x.size ≤ 600) (d : Nat) : ∀ (i : Nat), x.size - i = d → i ≤ x.size → (x.data.toList.take i).all okB = true →
    Ev (fun k => impl_PartsOf.l0 k x (x.size : Int) (i : Int)) (if (x.data.toList.drop i).all okB then partsEnd ((Lib.fields x.data.toList).map mkB) else ([], false)) := by
  have hL : x.data.toList.length = x.size := by rw [Array.length_toList]; rfl
  induction d with
  | zero =>
    intro i hd hi ha
    refine ev_succ ?_
    rw [List.take_of_length_le (by omega)] at ha
    have hf : strings_Fields.f x = some ((Lib.fields x.data.toList).map mkB) := by
      unfold strings_Fields.f
      rw [if_pos ⟨by omega, fun b hb => by
        have h1 := List.all_eq_true.1 ha b hb
        have h2 : 32 ≤ b.toNat ∧ b.toNat ≤ 126 := by simpa [okB] using h1
        omega⟩]
      rfl
    simp only [impl_PartsOf.l0, if_neg (show ¬ (i : Int) < (x.size : Int) from by omega), hf, Option.bind_some]
    rw [List.drop_eq_nil_of_le (show x.data.toList.length ≤ i by omega)]
    refine ev_const ?_
    simp only [List.all_nil, if_true, partsEnd]
    split <;> rfl
  | succ d ih =>
    intro i hd hi ha
    have hlt : i < x.size := by omega
    obtain ⟨c, hc, hbt⟩ := bt_cons x i hlt
    have hcr := c.toNat_lt
    have e1 : wrap64 ((i : Int) + 1) = ((i + 1 : Nat) : Int) := wn i (show i < 700 by omega) (by decide)
    refine ev_succ ?_
    simp only [impl_PartsOf.l0, if_pos (show (i : Int) < (x.size : Int) from by omega), if_pos (show (0 : Int) ≤ (i : Int) from by omega), hbt, e1]
    rw [hc]
    by_cases h1 : c.toNat < 32
    · have hk : okB c = false := by simp [okB]; omega
      simp only [if_pos (show (c.toNat : Int) < 32 from by omega), List.all_cons, hk, Bool.false_and, Bool.false_eq_true, if_false]
      exact ev_some rfl
    · simp only [if_neg (show ¬ (c.toNat : Int) < 32 from by omega)]
      by_cases h2 : c.toNat > 126
      · have hk : okB c = false := by simp [okB]; omega
        simp only [if_pos (show (c.toNat : Int) > 126 from by omega), List.all_cons, hk, Bool.false_and, Bool.false_eq_true, if_false]
        exact ev_some rfl
      · have hk : okB c = true := by simp [okB]; omega
        simp only [if_neg (show ¬ (c.toNat : Int) > 126 from by omega), List.all_cons, hk, Bool.true_and]
        refine ih (i + 1) (by omega) (by omega) ?_
        have h5 : i < x.data.toList.length := by omega
        rw [List.take_succ_eq_append_getElem h5, List.all_append, ha]
        have h6 : x.data.toList[i] = c := by
          have := List.drop_eq_getElem_cons h5
          rw [hc] at this
          exact ((List.cons.inj this).1).symm
        rw [h6]
        simp [hk]
theorem impl_PartsOf_ev (x : ByteArray) : Ev (fun k => impl_PartsOf.f k x) (partsM x) := by
  unfold impl_PartsOf.f partsM
  by_cases h : (x.size : Int) > 600
  · simp only [if_pos h, if_neg (show ¬ (x.size ≤ 600 ∧ x.data.toList.all okB = true) from fun h2 => by omega)]
    exact ev_some rfl
  · simp only [if_neg h]
    have := impl_PartsOf_l0 x (by omega) x.size 0 (by omega) (by omega) (by simp)
    refine ev_to this ?_
    by_cases h2 : x.data.toList.all okB = true
    · rw [List.drop_zero, if_pos h2, if_pos (show x.size ≤ 600 ∧ x.data.toList.all okB = true from ⟨by omega, h2⟩)]
    · rw [List.drop_zero, if_neg h2, if_neg (show ¬ (x.size ≤ 600 ∧ x.data.toList.all okB = true) from fun h3 => h2 h3.2)]
theorem partsM_len (x : ByteArray) : (partsM x).1.length ≤ 10 := by
  unfold partsM partsEnd
  split
  · split
    · simp
    · simp only; omega
  · simp

/-! marktext -/
theorem markText_l0 (n : Nat) : ∀ (acc : ByteArray), n ≤ 1000000000000 → acc.size + n ≤ 4000000000000000000 → ∃ t, Ev (fun k => laws_markText.l0 k (n : Int) acc) t := by
  induction n using Nat.strongRecOn with
  | _ n ih =>
    intro acc hn ha
    by_cases h : 0 < n
    · have e1 : wrap64 (Int.tdiv (n : Int) 10) = ((n / 10 : Nat) : Int) := by
        rw [Int.tdiv_eq_ediv_of_nonneg (by omega), w64 (by omega) (by omega)]; omega
      obtain ⟨t, ht⟩ := ih (n / 10) (by omega) (strOfNums [(wrap64 (48 + Int.tmod (n : Int) 10)) % 256] ++ acc) (by omega) (by rw [size_append, strOfNums_size]; simp; omega)
      refine ⟨t, ev_succ ?_⟩
      have s1 : (strOfNums [(wrap64 (48 + Int.tmod (n : Int) 10)) % 256]).size = 1 := strOfNums_size _
      simp only [laws_markText.l0, if_pos (show (n : Int) > 0 from by omega), Option.bind_some, s1, if_pos (show 1 + acc.size ≤ 9223372036854775807 from by omega), e1]
      exact ht
    · refine ⟨(⟨#[109]⟩ : ByteArray) ++ acc, ev_succ ?_⟩
      simp only [laws_markText.l0, if_neg (show ¬ (n : Int) > 0 from by omega), if_pos (show 1 + acc.size ≤ 9223372036854775807 from by omega)]
      exact ev_some rfl
theorem markText_some (k : Int) (h0 : 0 ≤ k) (h1 : k ≤ 1000000000000) : ∃ t, Ev (fun n => laws_markText.f n k) t := by
  unfold laws_markText.f
  obtain ⟨n, rfl⟩ := Int.eq_ofNat_of_zero_le h0
  by_cases h : (n : Int) ≤ 0
  · simp only [if_pos h]; exact ⟨_, ev_some rfl⟩
  · simp only [if_neg h]
    exact markText_l0 n _ (by omega) (by have : (⟨#[]⟩ : ByteArray).size = 0 := rfl; omega)
/-- The text that marks a place. -/
noncomputable def markT (k : Int) : ByteArray := by
  classical exact if h : ∃ t, Ev (fun n => laws_markText.f n k) t then h.choose else (⟨#[]⟩ : ByteArray)
theorem markText_ev (k : Int) (h0 : 0 ≤ k) (h1 : k ≤ 1000000000000) : Ev (fun n => laws_markText.f n k) (markT k) := by
  have h := markText_some k h0 h1
  unfold markT
  rw [dif_pos h]
  exact h.choose_spec

/-! markdisk -/
noncomputable def markedS : Nat → Int → List ByteArray
  | 0, _ => []
  | n + 1, k => markT k :: markedS n (k + 1)
theorem markedS_snoc (n : Nat) : ∀ k, markedS (n + 1) k = markedS n k ++ [markT (k + n)] := by
  induction n with
  | zero => intro k; simp [markedS]
  | succ n ih =>
    intro k
    rw [markedS, ih (k + 1)]
    simp only [markedS, List.cons_append]
    have e : k + 1 + (n : Int) = k + ((n + 1 : Nat) : Int) := by omega
    rw [e]
theorem markedS_length (n : Nat) : ∀ k, (markedS n k).length = n := by
  induction n with
  | zero => intro k; rfl
  | succ n ih => intro k; simp [markedS, ih]
theorem markStringS_l0 (n : Nat) (b : Int) (hb : 0 ≤ b ∧ b ≤ 100000000000) (hn : n ≤ 100000000000) (d : Nat) : ∀ (i : Nat) (rest : List ByteArray), rest.length = d → i + d = n →
    Ev (fun k => laws_markStringS.l0 k (markedS i b ++ rest) (b + (i : Int)) (i : Int)) (b + (n : Int), markedS n b) := by
  induction d with
  | zero =>
    intro i rest hr hi
    obtain rfl : rest = [] := List.eq_nil_of_length_eq_zero hr
    obtain rfl : i = n := by omega
    refine ev_succ ?_
    simp only [laws_markStringS.l0, List.append_nil, markedS_length, if_neg (show ¬ (i : Int) < (i : Int) from by omega)]
    exact ev_some rfl
  | succ d ih =>
    intro i rest hr hi
    obtain ⟨x, rest, rfl⟩ : ∃ x t, rest = x :: t := by cases rest with | nil => simp at hr | cons x t => exact ⟨x, t, rfl⟩
    have hr' : rest.length = d := by simpa using hr
    refine ev_succ ?_
    have hlen : (markedS i b ++ x :: rest).length = n := by simp [markedS_length]; omega
    have g0 : (i : Int) < ((markedS i b ++ x :: rest).length : Int) := by omega
    have g1 : (0 : Int) ≤ (i : Int) := by omega
    have q1 : -9223372036854775808 ≤ b + (i : Int) + 1 ∧ b + (i : Int) + 1 ≤ 9223372036854775807 := by omega
    have q4 : 0 ≤ b + (i : Int) ∧ b + (i : Int) ≤ 1000000000000 := by omega
    have q5 : n ≤ 140737488355328 := by omega
    have q6 : i < n := by omega
    have q7 : b + (i : Int) + 1 = b + ((i + 1 : Nat) : Int) := by omega
    have q8 : i + 1 + d = n := by omega
    have e4 : wrap64 ((i : Int) + 1) = ((i + 1 : Nat) : Int) := wn i q6 q5
    simp only [laws_markStringS.l0, if_pos g0, if_pos g1, Int.toNat_natCast, set_mid _ _ _ _ i (markedS_length i b), w64 q1.1 q1.2, e4]
    clear e4
    refine Ev.bind (markText_ev _ q4.1 q4.2) ?_
    have := ih (i + 1) rest hr' q8
    rw [markedS_snoc] at this
    rw [q7]
    simpa using this
theorem markStringS_ev (l : List ByteArray) (b : Int) (hb : 0 ≤ b ∧ b ≤ 100000000000) (hn : l.length ≤ 100000000000) : Ev (fun k => laws_markStringS.f k l b) (b + (l.length : Int), markedS l.length b) := by
  unfold laws_markStringS.f
  simpa [markedS] using markStringS_l0 l.length b hb hn l.length 0 l rfl (by omega)
theorem markedS_at (n : Nat) : ∀ (k : Int) (i : Nat), i < n → (markedS n k).getD i ByteArray.empty = markT (k + i) := by
  induction n with
  | zero => intro k i h; omega
  | succ n ih =>
    intro k i h
    cases i with
    | zero => simp [markedS]
    | succ i =>
      rw [markedS]
      simp only [List.getD_cons_succ]
      rw [ih (k + 1) i (by omega)]
      have e : k + 1 + (i : Int) = k + ((i + 1 : Nat) : Int) := by omega
      rw [e]
theorem heldStringS_l0 (n : Nat) (b : Int) (hb : 0 ≤ b ∧ b ≤ 100000000000) (hn : n ≤ 100000000000) (d : Nat) : ∀ (i : Nat), i + d = n → Ev (fun k => laws_heldStringS.l0 k (markedS n b) (b + (i : Int)) (i : Int)) (b + (n : Int)) := by
  induction d with
  | zero =>
    intro i hi
    obtain rfl : i = n := by omega
    refine ev_succ ?_
    simp only [laws_heldStringS.l0, markedS_length, if_neg (show ¬ (i : Int) < (i : Int) from by omega)]
    exact ev_some rfl
  | succ d ih =>
    intro i hi
    refine ev_succ ?_
    have g0 : (i : Int) < ((markedS n b).length : Int) := by rw [markedS_length]; omega
    have g1 : (0 : Int) ≤ (i : Int) := by omega
    have q1 : -9223372036854775808 ≤ b + (i : Int) + 1 ∧ b + (i : Int) + 1 ≤ 9223372036854775807 := by omega
    have q4 : 0 ≤ b + (i : Int) ∧ b + (i : Int) ≤ 1000000000000 := by omega
    have q5 : n ≤ 140737488355328 := by omega
    have q6 : i < n := by omega
    have q7 : b + (i : Int) + 1 = b + ((i + 1 : Nat) : Int) := by omega
    have q8 : i + 1 + d = n := by omega
    have e4 : wrap64 ((i : Int) + 1) = ((i + 1 : Nat) : Int) := wn i q6 q5
    simp only [laws_heldStringS.l0, if_pos g0, if_pos g1, rdOf_nat, markedS_at n b i q6, w64 q1.1 q1.2, e4]
    clear e4
    refine Ev.bind (markText_ev _ q4.1 q4.2) ?_
    simp only [if_true, q7]
    exact ih (i + 1) q8
theorem heldStringS_ev (n : Nat) (b : Int) (hb : 0 ≤ b ∧ b ≤ 100000000000) (hn : n ≤ 100000000000) : Ev (fun k => laws_heldStringS.f k (markedS n b) b) (b + (n : Int)) := by
  unfold laws_heldStringS.f
  simpa using heldStringS_l0 n b hb hn n 0 (by omega)

theorem FnExactPartsOf (x : ByteArray) : ∃ k, laws_FnExactPartsOf.f k x = some true := by
  refine Ev.rounds ?_
  unfold laws_FnExactPartsOf.f
  refine ev_if (fun _ => ev_some rfl) (fun _ => ?_)
  have h1 := spec_PartsOf_ev x
  have h2 := impl_PartsOf_ev x
  have hz := partsM_len x
  obtain ⟨r, hr⟩ : ∃ r, partsM x = r := ⟨_, rfl⟩
  rw [hr] at h1 h2 hz
  obtain ⟨l, ok⟩ := r
  simp only at hz
  refine Ev.bind h1 ?_
  refine Ev.bind h2 ?_
  refine Ev.bind (eqStringS_same l (by omega)) ?_
  simp only [if_true, bne_self_eq_false]
  refine ev_succ ?_
  simp only [laws_FnExactPartsOf.j0, Bool.false_eq_true, if_false]
  refine Ev.bind (markStringS_ev l 1 (by omega) (by omega)) ?_
  refine Ev.bind (heldStringS_ev l.length 1 (by omega) (by omega)) ?_
  simp only [if_neg (show ¬ 1 + (l.length : Int) < 0 by omega), if_true]
  refine Ev.bind h2 ?_
  refine Ev.bind (eqStringS_same l (by omega)) ?_
  simp only [if_true, bne_self_eq_false]
  refine ev_succ ?_
  simp only [laws_FnExactPartsOf.j1, Bool.false_eq_true, if_false]
  refine Ev.bind (heldStringS_ev l.length 1 (by omega) (by omega)) ?_
  simp only [if_neg (show ¬ 1 + (l.length : Int) < 0 by omega), if_true]
  exact ev_some rfl

end Go.Proofs.YtjpngldnkgofaaaDoor.Pure
