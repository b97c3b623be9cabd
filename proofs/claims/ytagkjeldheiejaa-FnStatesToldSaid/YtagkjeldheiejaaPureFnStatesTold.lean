/- The pure statement of FnStatesTold, over numbers and lists: it is true of every argument; no condition but the bounds that the statement itself names. -/
import Derived.Test.YtagkjeldheiejaaPFnStatesToldx25
import Derived.Test.YtagkjeldheiejaaVFnStatesTold1
set_option linter.unusedVariables false
set_option linter.unusedSimpArgs false
namespace Go.Proofs.Ytagkjeldheiejaa.Pure
open Go.RowKit Go.Proofs.Ytagkjeldheiejaa.PFnStatesTold Go.Proofs.YtagkjeldheiejaaW.PrintWords Go.Proofs.YtagkjeldheiejaaW.PrintLast Go.Proofs.YtagkjeldheiejaaW.PrintMore Go.Proofs.Ytagkjeldheiejaa.Base

/-! in -/
theorem spec_in_eq (a b c : Int) : spec_l01In.f a b c = some (decide (b ≤ a ∧ a ≤ c)) := by
 unfold spec_l01In.f
 by_cases h : a ≥ b <;> by_cases h2 : a ≤ c <;> simp [h, h2] <;> omega
theorem impl_in_eq (a b c : Int) : impl_in.f a b c = some (decide (b ≤ a ∧ a ≤ c)) := by
 unfold impl_in.f
 by_cases h : a ≥ b <;> by_cases h2 : a ≤ c <;> simp [h, h2] <;> omega

/-! wordok -/
theorem spec_WordOk_l0 (x : ByteArray) (hx : x.size ≤ 140737488351232) (d : Nat) : ∀ i : Nat, x.size - i = d → i ≤ x.size →
  Ev (fun k => spec_WordOk.l0 k x (i : Int)) (wordB ((bytesOf x).drop i) && decide (1 ≤ (x.size : Int) ∧ (x.size : Int) ≤ 8)) := by
 induction d with
 | zero =>
  intro i hd hi
  refine ev_succ ?_
  simp only [spec_WordOk.l0, if_neg (show ¬ (i : Int) < (x.size : Int) from by omega), spec_in_eq, Option.bind_some]
  rw [bytes_end x i (by omega)]
  exact ev_some rfl
 | succ d ih =>
  intro i hd hi
  refine ev_succ ?_
  have hl : (i : Int) < (x.size : Int) := by omega
  rw [bytes_drop x i (by omega), wordB_cons]
  simp only [spec_WordOk.l0, if_pos hl, if_pos (show (0 : Int) ≤ (i : Int) from by omega), wn i (show i < x.size from by omega) (by omega)]
  by_cases h1 : bt x (i : Int) < 97
  ·simp only [if_pos h1]
   rw [decide_eq_false (by omega)]
   exact ev_some rfl
  ·by_cases h2 : bt x (i : Int) > 122
   ·simp only [if_neg h1, if_pos h2]
    rw [decide_eq_false (by omega)]
    exact ev_some rfl
   ·simp only [if_neg h1, if_neg h2]
    rw [decide_eq_true (by omega)]
    exact ih (i + 1) (by omega) (by omega)
theorem impl_WordOk_l0 (x : ByteArray) (hx : x.size ≤ 140737488351232) (d : Nat) : ∀ i : Nat, x.size - i = d → i ≤ x.size →
  Ev (fun k => impl_WordOk.l0 k x (x.size : Int) (i : Int)) (wordB ((bytesOf x).drop i)) := by
 induction d with
 | zero =>
  intro i hd hi
  refine ev_succ ?_
  simp only [impl_WordOk.l0, if_neg (show ¬ (i : Int) < (x.size : Int) from by omega)]
  rw [bytes_end x i (by omega)]
  exact ev_some rfl
 | succ d ih =>
  intro i hd hi
  refine ev_succ ?_
  have hl : (i : Int) < (x.size : Int) := by omega
  rw [bytes_drop x i (by omega), wordB_cons]
  simp only [impl_WordOk.l0, if_pos hl, if_pos (show (0 : Int) ≤ (i : Int) from by omega), wn i (show i < x.size from by omega) (by omega)]
  by_cases h1 : bt x (i : Int) < 97
  ·simp only [if_pos h1]
   rw [decide_eq_false (by omega)]
   exact ev_some rfl
  ·by_cases h2 : bt x (i : Int) > 122
   ·simp only [if_neg h1, if_pos h2]
    rw [decide_eq_false (by omega)]
    exact ev_some rfl
   ·simp only [if_neg h1, if_neg h2]
    rw [decide_eq_true (by omega)]
    exact ih (i + 1) (by omega) (by omega)
theorem spec_WordOk_ev (x : ByteArray) (hx : x.size ≤ 140737488351232) : Ev (fun k => spec_WordOk.f k x) (wordM x) := by
 simpa [spec_WordOk.f, wordM] using spec_WordOk_l0 x hx _ 0 rfl (by omega)
theorem impl_WordOk_ev (x : ByteArray) (hx : x.size ≤ 140737488351232) : Ev (fun k => impl_WordOk.f k x) (wordM x) := by
 simp only [impl_WordOk.f, impl_in_eq, Option.bind_some, wordM]
 by_cases h : 1 ≤ (x.size : Int) ∧ (x.size : Int) ≤ 8
 ·simp only [decide_eq_true h, if_true, Bool.and_true]
  simpa using impl_WordOk_l0 x hx _ 0 rfl (by omega)
 ·simp only [decide_eq_false h, Bool.false_eq_true, if_false, Bool.and_false]
  exact ev_some rfl

/-! recok -/
theorem spec_RecOk_ev (a0 a1 a2 a3 a4 : Int) (x5 x6 x7 : ByteArray) (h5 : x5.size ≤ 140737488351232) (h6 : x6.size ≤ 140737488351232) : Ev (fun k => spec_RecOk.f k a0 a1 a2 a3 a4 x5 x6 x7) (recOkM a0 a1 a2 a3 a4 x5 x6 x7) := by
 have t5 := tl_nil x5
 have t6 := tl_nil x6
 have t7 := tl_nil x7
 unfold spec_RecOk.f
 simp only [spec_in_eq, Option.bind_some]
 repeat' first
  | refine ev_if (fun _ => ?_) (fun _ => ?_)
  | refine Ev.bind (spec_WordOk_ev _ (by assumption)) ?_
  | refine ev_some ?_
 all_goals (unfold recOkM; grind)
def ri3 (g : Bool) (a0 a1 a2 a3 a4 : Int) (x5 x6 x7 : ByteArray) (b0 b1 b2 b3 b4 : Int) (y5 y6 y7 : ByteArray) : Bool := if a0 = 1 then (if wordM x5 = true then (if wordM x6 = true then (if decide (1 ≤ a3 ∧ a3 ≤ 10000) = true then (b0 == 0 && (b1 == 0 && (b2 == 0 && (b4 == 0 && (y7.toList == ([] : List UInt8)))))) else false) else false) else false) else if a0 = 3 then (if g = true then (if (x7.size : Int) ≤ 100 then (b0 == 0 && (b1 == 0 && (b2 == 0 && (b3 == 0 && (b4 == 0 && ((y5.toList == ([] : List UInt8)) && (y6.toList == ([] : List UInt8)))))))) else false) else false) else if a0 = 2 then (if g = true then (b0 == 0 && (b1 == 0 && (b2 == 0 && (b3 == 0 && (b4 == 0 && ((y5.toList == ([] : List UInt8)) && ((y6.toList == ([] : List UInt8)) && (y7.toList == ([] : List UInt8))))))))) else false) else if a0 = 4 then (if g = true then (b0 == 0 && (b1 == 0 && (b2 == 0 && (b3 == 0 && (b4 == 0 && ((y5.toList == ([] : List UInt8)) && ((y6.toList == ([] : List UInt8)) && (y7.toList == ([] : List UInt8))))))))) else false) else if a0 = 5 then (if g = true then (b0 == 0 && (b1 == 0 && (b2 == 0 && (b3 == 0 && (b4 == 0 && ((y5.toList == ([] : List UInt8)) && ((y6.toList == ([] : List UInt8)) && (y7.toList == ([] : List UInt8))))))))) else false) else false
def ri2 (g t : Bool) (a0 a1 a2 a3 a4 : Int) (x5 x6 x7 : ByteArray) (b0 b1 b2 b3 b4 : Int) (y5 y6 y7 : ByteArray) : Bool := if t = true then (if g = true then ri3 (decide (0 ≤ a4 ∧ a4 ≤ 7)) a0 a1 a2 a3 a4 x5 x6 x7 b0 b1 b2 b3 0 y5 y6 y7 else ri3 false a0 a1 a2 a3 a4 x5 x6 x7 b0 b1 b2 b3 0 y5 y6 y7) else ri3 g a0 a1 a2 a3 a4 x5 x6 x7 b0 b1 b2 b3 b4 y5 y6 y7
def ri1 (g : Bool) (a0 a1 a2 a3 a4 : Int) (x5 x6 x7 : ByteArray) (b0 b1 b2 b3 b4 : Int) (y5 y6 y7 : ByteArray) : Bool := if a0 = 3 then ri2 g true a0 a1 a2 a3 a4 x5 x6 x7 b0 b1 b2 b3 b4 y5 y6 y7 else ri2 g (a0 == 4) a0 a1 a2 a3 a4 x5 x6 x7 b0 b1 b2 b3 b4 y5 y6 y7
def ri0 (g t : Bool) (a0 a1 a2 a3 a4 : Int) (x5 x6 x7 : ByteArray) (b0 b1 b2 b3 b4 : Int) (y5 y6 y7 : ByteArray) : Bool := if t = true then ri1 (decide (1 ≤ a2 ∧ a2 ≤ 9999)) a0 a1 a2 a3 a4 x5 x6 x7 b0 b1 0 b3 b4 y5 y6 y7 else ri1 g a0 a1 a2 a3 a4 x5 x6 x7 b0 b1 b2 b3 b4 y5 y6 y7
def rif (a0 a1 a2 a3 a4 : Int) (x5 x6 x7 : ByteArray) : Bool := if decide (1 ≤ a1 ∧ a1 ≤ 9999) = true then (if a0 = 3 then ri0 true true a0 a1 a2 a3 a4 x5 x6 x7 0 0 a2 a3 a4 x5 x6 x7 else if a0 = 4 then ri0 true true a0 a1 a2 a3 a4 x5 x6 x7 0 0 a2 a3 a4 x5 x6 x7 else ri0 true (a0 == 5) a0 a1 a2 a3 a4 x5 x6 x7 0 0 a2 a3 a4 x5 x6 x7) else false
theorem impl_RecOk_j3 (g : Bool) (a0 a1 a2 a3 a4 : Int) (x5 x6 x7 : ByteArray) (b0 b1 b2 b3 b4 : Int) (y5 y6 y7 : ByteArray) (h5 : x5.size ≤ 140737488351232) (h6 : x6.size ≤ 140737488351232) : Ev (fun k => impl_RecOk.j3 k g a0 a1 a2 a3 a4 x5 x6 x7 b0 b1 b2 b3 b4 y5 y6 y7) (ri3 g a0 a1 a2 a3 a4 x5 x6 x7 b0 b1 b2 b3 b4 y5 y6 y7) := by
 refine ev_succ ?_
 simp only [impl_RecOk.j3, impl_in_eq, Option.bind_some]
 exact ev_ite (Ev.bind (impl_WordOk_ev x5 h5) (ev_ite (Ev.bind (impl_WordOk_ev x6 h6) (ev_ite (ev_ite (ev_some rfl) (ev_some rfl)) (ev_some rfl))) (ev_some rfl))) (ev_ite (ev_ite (ev_ite (ev_some rfl) (ev_some rfl)) (ev_some rfl)) (ev_ite (ev_ite (ev_some rfl) (ev_some rfl)) (ev_ite (ev_ite (ev_some rfl) (ev_some rfl)) (ev_ite (ev_ite (ev_some rfl) (ev_some rfl)) (ev_some rfl)))))
theorem impl_RecOk_j2 (g t : Bool) (a0 a1 a2 a3 a4 : Int) (x5 x6 x7 : ByteArray) (b0 b1 b2 b3 b4 : Int) (y5 y6 y7 : ByteArray) (h5 : x5.size ≤ 140737488351232) (h6 : x6.size ≤ 140737488351232) : Ev (fun k => impl_RecOk.j2 k g t a0 a1 a2 a3 a4 x5 x6 x7 b0 b1 b2 b3 b4 y5 y6 y7) (ri2 g t a0 a1 a2 a3 a4 x5 x6 x7 b0 b1 b2 b3 b4 y5 y6 y7) := by
 refine ev_succ ?_
 simp only [impl_RecOk.j2, impl_in_eq, Option.bind_some]
 exact ev_ite (ev_ite (impl_RecOk_j3 _ a0 a1 a2 a3 a4 x5 x6 x7 _ _ _ _ _ _ _ _ h5 h6) (impl_RecOk_j3 _ a0 a1 a2 a3 a4 x5 x6 x7 _ _ _ _ _ _ _ _ h5 h6)) (impl_RecOk_j3 _ a0 a1 a2 a3 a4 x5 x6 x7 _ _ _ _ _ _ _ _ h5 h6)
theorem impl_RecOk_j1 (g : Bool) (a0 a1 a2 a3 a4 : Int) (x5 x6 x7 : ByteArray) (b0 b1 b2 b3 b4 : Int) (y5 y6 y7 : ByteArray) (h5 : x5.size ≤ 140737488351232) (h6 : x6.size ≤ 140737488351232) : Ev (fun k => impl_RecOk.j1 k g a0 a1 a2 a3 a4 x5 x6 x7 b0 b1 b2 b3 b4 y5 y6 y7) (ri1 g a0 a1 a2 a3 a4 x5 x6 x7 b0 b1 b2 b3 b4 y5 y6 y7) := by
 refine ev_succ ?_
 simp only [impl_RecOk.j1, impl_in_eq, Option.bind_some]
 exact ev_ite (impl_RecOk_j2 _ _ a0 a1 a2 a3 a4 x5 x6 x7 _ _ _ _ _ _ _ _ h5 h6) (impl_RecOk_j2 _ _ a0 a1 a2 a3 a4 x5 x6 x7 _ _ _ _ _ _ _ _ h5 h6)
theorem impl_RecOk_j0 (g t : Bool) (a0 a1 a2 a3 a4 : Int) (x5 x6 x7 : ByteArray) (b0 b1 b2 b3 b4 : Int) (y5 y6 y7 : ByteArray) (h5 : x5.size ≤ 140737488351232) (h6 : x6.size ≤ 140737488351232) : Ev (fun k => impl_RecOk.j0 k g t a0 a1 a2 a3 a4 x5 x6 x7 b0 b1 b2 b3 b4 y5 y6 y7) (ri0 g t a0 a1 a2 a3 a4 x5 x6 x7 b0 b1 b2 b3 b4 y5 y6 y7) := by
 refine ev_succ ?_
 simp only [impl_RecOk.j0, impl_in_eq, Option.bind_some]
 exact ev_ite (impl_RecOk_j1 _ a0 a1 a2 a3 a4 x5 x6 x7 _ _ _ _ _ _ _ _ h5 h6) (impl_RecOk_j1 _ a0 a1 a2 a3 a4 x5 x6 x7 _ _ _ _ _ _ _ _ h5 h6)
theorem impl_rec_same (a0 a1 a2 a3 a4 : Int) (x5 x6 x7 : ByteArray) : rif a0 a1 a2 a3 a4 x5 x6 x7 = recOkM a0 a1 a2 a3 a4 x5 x6 x7 := by
 have t5 := tl_nil x5
 have t6 := tl_nil x6
 have t7 := tl_nil x7
 unfold rif ri0 ri1 ri2 ri3 recOkM
 grind
theorem impl_RecOk_ev (a0 a1 a2 a3 a4 : Int) (x5 x6 x7 : ByteArray) (h5 : x5.size ≤ 140737488351232) (h6 : x6.size ≤ 140737488351232) : Ev (fun k => impl_RecOk.f k a0 a1 a2 a3 a4 x5 x6 x7) (recOkM a0 a1 a2 a3 a4 x5 x6 x7) := by
 rw [← impl_rec_same]
 unfold impl_RecOk.f
 simp only [impl_in_eq, Option.bind_some]
 exact ev_ite (ev_ite (impl_RecOk_j0 _ _ a0 a1 a2 a3 a4 x5 x6 x7 _ _ _ _ _ _ _ _ h5 h6) (ev_ite (impl_RecOk_j0 _ _ a0 a1 a2 a3 a4 x5 x6 x7 _ _ _ _ _ _ _ _ h5 h6) (impl_RecOk_j0 _ _ a0 a1 a2 a3 a4 x5 x6 x7 _ _ _ _ _ _ _ _ h5 h6))) (ev_some rfl)

/-! eqrec -/

/-! items -/
theorem getD_mem {α : Type} (d : α) (l : List α) (i : Nat) (h : i < l.length) : l.getD i d ∈ l := by
 rw [List.getD_eq_getElem?_getD, List.getElem?_eq_getElem h]
 exact List.getElem_mem h

/-! itemsok -/
def okI (x : S32) : Bool := recOkM x.f1.f0 x.f1.f1 x.f1.f2 x.f1.f3 x.f1.f4 x.f1.f5 x.f1.f6 x.f1.f7
def SzJ (x : S32) : Prop := x.f1.f5.size ≤ 1048576 ∧ x.f1.f6.size ≤ 1048576
def itemsGo (l : List S32) : Nat → Nat → Bool
 | 0, _ => true
 | n + 1, i => if (1 ≤ (l.getD i z32).f0 ∧ (l.getD i z32).f0 ≤ 1000000000) then (if okI (l.getD i z32) = true then (if (l.take i).any (itBad (l.getD i z32)) = true then false else itemsGo l n (i + 1)) else false) else false
def itemsOkM (l : List S32) : Bool := itemsGo l l.length 0 && decide ((l.length : Int) ≤ 200)
theorem rd_it (l : List S32) (i : Nat) : rd_T32 l (i : Int) = l.getD i z32 := by unfold rd_T32; rw [Int.toNat_natCast]
theorem impl_ItemsOk_go (l : List S32) (hs : ∀ x, x ∈ l → SzJ x) (n : Nat) : ∀ i, n + i = l.length → Ev (fun k => impl_ItemsOk.go k l n i) (itemsGo l n i) := by
 induction n with
 | zero => intro i _; exact ev_some rfl
 | succ n ih =>
  intro i hi
  have hz := hs _ (getD_mem z32 l i (by omega))
  unfold SzJ at hz
  simp only [impl_ItemsOk.go, itemsGo, rd_it, okI]
  exact ev_ite (Ev.bind (impl_RecOk_ev _ _ _ _ _ _ _ _ (by omega) (by omega)) (ev_ite (ev_ite (ev_some rfl) (ih (i + 1) (by omega))) (ev_some rfl))) (ev_some rfl)
theorem impl_ItemsOk_ev (l : List S32) (hs : ∀ x, x ∈ l → SzJ x) : Ev (fun k => impl_ItemsOk.f k l) (itemsOkM l) := by
 unfold impl_ItemsOk.f itemsOkM
 refine ev_if (fun h => ev_some ?_) (fun h => ?_)
 ·rw [decide_eq_false (by omega), Bool.and_false]
 ·rw [decide_eq_true (by omega), Bool.and_true]
  exact impl_ItemsOk_go l hs _ 0 (by omega)
theorem ev_cong {α : Type} {f g : Nat → Option α} {r : α} (h : ∀ k, f k = g k) (hg : Ev g r) : Ev f r := by
 have e : f = g := funext h
 rw [e]
 exact hg
theorem itBad_cond (x y : S32) : (if y.f0 = x.f0 then (if (!(y.f0 == x.f0) || ((!(y.f1.f0 == x.f1.f0)) || (!(y.f1.f1 == x.f1.f1) || (!(y.f1.f2 == x.f1.f2) || (!(y.f1.f3 == x.f1.f3) || (!(y.f1.f4 == x.f1.f4) || (!(y.f1.f5.toList == x.f1.f5.toList) || (!(y.f1.f6.toList == x.f1.f6.toList) || (!(y.f1.f7.toList == x.f1.f7.toList)))))))))) = true then true else false) else false) = itBad x y := by
 unfold itBad
 by_cases h : y.f0 = x.f0
 ·rw [if_pos h, h]
  simp only [beq_self_eq_true, Bool.not_true, Bool.false_or, Bool.true_and, Bool.not_and, Bool.or_assoc]
  split <;> simp_all
 ·rw [if_neg h, beq_eq_false_iff_ne.2 h]; rfl
theorem ite_bad {α : Type} (x y : S32) (f g : α) : (if y.f0 = x.f0 then (if (!(y.f0 == x.f0) || ((!(y.f1.f0 == x.f1.f0)) || (!(y.f1.f1 == x.f1.f1) || (!(y.f1.f2 == x.f1.f2) || (!(y.f1.f3 == x.f1.f3) || (!(y.f1.f4 == x.f1.f4) || (!(y.f1.f5.toList == x.f1.f5.toList) || (!(y.f1.f6.toList == x.f1.f6.toList) || (!(y.f1.f7.toList == x.f1.f7.toList)))))))))) = true then f else g) else g) = if itBad x y = true then f else g := by
 rw [← itBad_cond x y]
 by_cases h : y.f0 = x.f0
 ·simp only [if_pos h]
  split <;> simp
 ·simp only [if_neg h]
  simp
theorem spec_ItemsOk_l1 (l : List S32) (hl : l.length ≤ 1048576) (i : Nat) (hi : i < l.length) (v : Bool) (hv : Ev (fun q => spec_ItemsOk.l0 q l ((i + 1 : Nat) : Int)) v) (d : Nat) : ∀ k : Nat, i - k = d → k ≤ i →
  Ev (fun q => spec_ItemsOk.l1 q l (i : Int) (k : Int)) (if ((l.take i).drop k).any (itBad (l.getD i z32)) = true then false else v) := by
 induction d with
 | zero =>
  intro k hd hk
  refine ev_succ ?_
  simp only [spec_ItemsOk.l1, if_neg (show ¬ (k : Int) < (i : Int) by omega), wn i hi (show l.length ≤ 140737488355328 by omega)]
  rw [List.drop_eq_nil_of_le (by rw [List.length_take]; omega)]
  simpa using hv
 | succ d ih =>
  intro k hd hk
  have hk2 : k < (l.take i).length := by rw [List.length_take]; omega
  refine ev_succ ?_
  have e : ((l.take i).drop k) = l.getD k z32 :: (l.take i).drop (k + 1) := by
   rw [List.drop_eq_getElem_cons hk2, List.getElem_take, List.getD_eq_getElem?_getD, List.getElem?_eq_getElem (by omega)]
   rfl
  simp only [spec_ItemsOk.l1, if_pos (show (k : Int) < (i : Int) by omega), if_pos (show (0 : Int) ≤ (k : Int) by omega), if_pos (show (k : Int) < (l.length : Int) by omega), if_pos (show (0 : Int) ≤ (i : Int) by omega), if_pos (show (i : Int) < (l.length : Int) by omega), rd_it, wn k (show k < i by omega) (by omega)]
  rw [e, List.any_cons]
  have h2 := ih (k + 1) (by omega) (by omega)
  by_cases hb : itBad (l.getD i z32) (l.getD k z32) = true
  ·rw [hb]
   refine ev_cong (fun q => ?_) (ev_some rfl)
   rw [ite_bad, if_pos hb]
   rfl
  ·rw [Bool.eq_false_iff.2 hb, Bool.false_or]
   refine ev_cong (fun q => ?_) h2
   rw [ite_bad, if_neg hb]
theorem spec_ItemsOk_l0 (l : List S32) (hl : l.length ≤ 1048576) (hs : ∀ x, x ∈ l → SzJ x) (d : Nat) : ∀ i : Nat, l.length - i = d → i ≤ l.length →
  Ev (fun q => spec_ItemsOk.l0 q l (i : Int)) (itemsGo l d i && decide ((l.length : Int) ≤ 200)) := by
 induction d with
 | zero =>
  intro i hd hi
  refine ev_succ ?_
  simp only [spec_ItemsOk.l0, if_neg (show ¬ (i : Int) < (l.length : Int) by omega), itemsGo, Bool.true_and]
  exact ev_some rfl
 | succ d ih =>
  intro i hd hi
  have hlt : i < l.length := by omega
  have hz := hs _ (getD_mem z32 l i hlt)
  unfold SzJ at hz
  have h1 := spec_ItemsOk_l1 l hl i hlt _ (ih (i + 1) (by omega) (by omega)) i 0 (by omega) (by omega)
  refine ev_succ ?_
  simp only [spec_ItemsOk.l0, if_pos (show (i : Int) < (l.length : Int) by omega), if_pos (show (0 : Int) ≤ (i : Int) by omega), rd_it, spec_in_eq, Option.bind_some, itemsGo]
  by_cases c1 : 1 ≤ (l.getD i z32).f0 ∧ (l.getD i z32).f0 ≤ 1000000000
  ·simp only [decide_eq_true c1, if_true, if_pos c1]
   refine Ev.bind (spec_RecOk_ev _ _ _ _ _ _ _ _ (by omega) (by omega)) (ev_succ ?_)
   by_cases c2 : okI (l.getD i z32) = true
   ·have c2' : recOkM (l.getD i z32).f1.f0 (l.getD i z32).f1.f1 (l.getD i z32).f1.f2 (l.getD i z32).f1.f3 (l.getD i z32).f1.f4 (l.getD i z32).f1.f5 (l.getD i z32).f1.f6 (l.getD i z32).f1.f7 = true := c2
    simp only [spec_ItemsOk.j1, c2', Bool.not_true, Bool.false_eq_true, if_false, if_pos c2]
    have e : ((if (l.take i).any (itBad (l.getD i z32)) = true then false else itemsGo l d (i + 1)) && decide ((l.length : Int) ≤ 200)) = (if ((l.take i).drop 0).any (itBad (l.getD i z32)) = true then false else (itemsGo l d (i + 1) && decide ((l.length : Int) ≤ 200))) := by
     rw [List.drop_zero]
     split <;> simp
    rw [e]
    exact h1
   ·have c2' : recOkM (l.getD i z32).f1.f0 (l.getD i z32).f1.f1 (l.getD i z32).f1.f2 (l.getD i z32).f1.f3 (l.getD i z32).f1.f4 (l.getD i z32).f1.f5 (l.getD i z32).f1.f6 (l.getD i z32).f1.f7 = false := Bool.eq_false_iff.2 c2
    simp only [spec_ItemsOk.j1, c2', Bool.not_false, if_true, if_neg c2, Bool.false_and]
    exact ev_some rfl
  ·simp only [decide_eq_false c1, Bool.false_eq_true, if_false, if_neg c1, Bool.false_and]
   refine ev_succ ?_
   simp only [spec_ItemsOk.j1, if_true]
   exact ev_some rfl
theorem spec_ItemsOk_ev (l : List S32) (hl : l.length ≤ 1048576) (hs : ∀ x, x ∈ l → SzJ x) : Ev (fun k => spec_ItemsOk.f k l) (itemsOkM l) := spec_ItemsOk_l0 l hl hs _ 0 rfl (by omega)

/-! statemodel -/
/-! What a list of items tells, plainly. -/
theorem itBad_iff (x y : S32) : itBad x y = true ↔ (x.f0 = y.f0 ∧ ¬ x = y) := by
 obtain ⟨x0, ⟨x1, x2, x3, x4, x5, x6, x7, x8⟩⟩ := x
 obtain ⟨y0, ⟨y1, y2, y3, y4, y5, y6, y7, y8⟩⟩ := y
 unfold itBad
 simp only [Bool.and_eq_true, Bool.not_eq_true', Bool.and_eq_false_iff, beq_iff_eq, beq_eq_false_iff_ne, ne_eq, tl_iff, S32.mk.injEq, S23.mk.injEq]
 grind
def OkL (l : List S32) : Prop := (∀ x, x ∈ l → (1 ≤ x.f0 ∧ x.f0 ≤ 1000000000) ∧ okI x = true) ∧ (∀ x, x ∈ l → ∀ y, y ∈ l → x.f0 = y.f0 → x = y)
def SameM (l1 l2 : List S32) : Prop := ∀ x, x ∈ l1 ↔ x ∈ l2
theorem okL_same {l1 l2 : List S32} (h : OkL l1) (hm : SameM l1 l2) : OkL l2 := ⟨fun x hx => h.1 x ((hm x).2 hx), fun x hx y hy e => h.2 x ((hm x).2 hx) y ((hm y).2 hy) e⟩
theorem sameM_refl (l : List S32) : SameM l l := fun _ => Iff.rfl
theorem sameM_symm {l1 l2 : List S32} (h : SameM l1 l2) : SameM l2 l1 := fun x => (h x).symm
theorem itemsGo_ok (l : List S32) (n : Nat) : ∀ i, n + i = l.length → (itemsGo l n i = true ↔ ∀ j, i ≤ j → j < l.length → ((1 ≤ (l.getD j z32).f0 ∧ (l.getD j z32).f0 ≤ 1000000000) ∧ okI (l.getD j z32) = true) ∧ ¬ (l.take j).any (itBad (l.getD j z32)) = true) := by
 induction n with
 | zero => intro i hi; exact ⟨fun _ j h1 h2 => by omega, fun _ => rfl⟩
 | succ n ih =>
  intro i hi
  have ih := ih (i + 1) (by omega)
  simp only [itemsGo]
  constructor
  ·intro h j h1 h2
   split at h
   ·next c1 =>
    split at h
    ·next c2 =>
     split at h
     ·cases h
     ·next c3 =>
      rcases Nat.eq_or_lt_of_le h1 with e | e
      ·subst e; exact ⟨⟨c1, c2⟩, c3⟩
      ·exact ih.1 h j e h2
    ·cases h
   ·cases h
  ·intro h
   have h0 := h i (Nat.le_refl _) (by omega)
   rw [if_pos h0.1.1, if_pos h0.1.2, if_neg h0.2]
   exact ih.2 fun j h1 h2 => h j (by omega) h2
theorem itemsOkM_iff (l : List S32) : itemsOkM l = true ↔ OkL l ∧ l.length ≤ 200 := by
 unfold itemsOkM
 rw [Bool.and_eq_true, decide_eq_true_eq, itemsGo_ok l _ 0 (by omega)]
 have e : ((l.length : Int) ≤ 200) ↔ l.length ≤ 200 := by omega
 rw [e]
 have gd : ∀ j (hj : j < l.length), l.getD j z32 = l[j] := fun j hj => by rw [List.getD_eq_getElem?_getD, List.getElem?_eq_getElem hj]; rfl
 refine and_congr_left fun _ => ⟨fun h => ⟨fun x hx => ?_, fun x hx y hy exy => ?_⟩, fun h j _ hj => ?_⟩
 ·obtain ⟨j, hj, rfl⟩ := List.getElem_of_mem hx
  have := (h j (Nat.zero_le _) hj).1
  rwa [gd j hj] at this
 ·obtain ⟨i, hi, rfl⟩ := List.getElem_of_mem hx
  obtain ⟨j, hj, rfl⟩ := List.getElem_of_mem hy
  have key : ∀ (i j : Nat) (hi : i < l.length) (hj : j < l.length), i < j → l[i].f0 = l[j].f0 → l[i] = l[j] := by
   intro i j hi hj hij e
   have := (h j (Nat.zero_le _) hj).2
   rw [gd j hj] at this
   apply Classical.byContradiction
   intro hne
   refine this (List.any_eq_true.2 ⟨l[i], List.mem_take_iff_getElem.2 ⟨i, by omega, rfl⟩, (itBad_iff _ _).2 ⟨e.symm, fun e2 => hne e2.symm⟩⟩)
  rcases Nat.lt_trichotomy i j with h1 | h1 | h1
  ·exact key i j hi hj h1 exy
  ·subst h1; rfl
  ·exact (key j i hj hi h1 exy.symm).symm
 ·rw [gd j hj]
  refine ⟨h.1 _ (List.getElem_mem hj), fun hb => ?_⟩
  obtain ⟨y, hy, hyb⟩ := List.any_eq_true.1 hb
  have hb2 := (itBad_iff _ _).1 hyb
  exact hb2.2 (h.2 _ (List.getElem_mem hj) _ (List.mem_of_mem_take hy) hb2.1)
def kdP (k v : Int) (x : S32) : Bool := (x.f1.f0 == k) && (x.f1.f1 == v)
def mlP (k v u : Int) (x : S32) : Bool := kdP k v x && (x.f1.f2 == u)
def seqL (x y : S32) : Bool := decide (x.f0 < y.f0)
def nextL (x y : S32) : Bool := if x.f1.f3 ≠ y.f1.f3 then decide (x.f1.f3 < y.f1.f3) else decide (x.f0 < y.f0)
theorem kdP_iff {k v : Int} {x : S32} : kdP k v x = true ↔ x.f1.f0 = k ∧ x.f1.f1 = v := by unfold kdP; simp
theorem mlP_iff {k v u : Int} {x : S32} : mlP k v u x = true ↔ x.f1.f0 = k ∧ x.f1.f1 = v ∧ x.f1.f2 = u := by unfold mlP; simp [kdP_iff, and_assoc]
def dropd (l : List S32) (v : Int) : Bool := (gLatest (kdP 2 v) seqL z32 l).2
def tellI (l : List S32) (v : Int) : S32 × Bool := gLatest (kdP 1 v) nextL z32 l
def best (l : List S32) (k v u : Int) : S32 × Bool := gLatest (mlP k v u) seqL z32 l
def thereI (l : List S32) (v : Int) : Bool := !(dropd l v) && (tellI l v).2
def mailI (l : List S32) (v u : Int) : S68 := ⟨u, if (best l 4 v u).2 = true then (best l 4 v u).1.f1.f4 else (best l 3 v u).1.f1.f4, (best l 3 v u).1.f1.f7⟩
def uidsI (l : List S32) (v : Int) : List Int := sortC ((l.filter (fun x => kdP 3 v x || kdP 5 v x)).map (fun x => x.f1.f2))
def mailThereI (l : List S32) (v u : Int) : Bool := thereI l v && !(best l 5 v u).2 && (best l 3 v u).2
def mxL (n : Int) (l : List Int) : Int := l.foldl mx n
def boxI (l : List S32) (x : S32) : S66 := ⟨x.f1.f1, x.f1.f5, x.f1.f6, mxL x.f1.f3 ((uidsI l x.f1.f1).map (fun u => u + 1)), ((uidsI l x.f1.f1).filter (mailThereI l x.f1.f1)).map (mailI l x.f1.f1)⟩
def validsI (l : List S32) : List Int := (sortC ((l.filter (fun x => x.f1.f0 == 1)).map (fun x => x.f1.f1))).filter (thereI l)
def stI (l : List S32) : List S66 := (validsI l).map fun v => boxI l (tellI l v).1
def validsStep (l : List S32) (acc : List Int) (x : S32) : List Int := if x.f1.f0 = 1 ∧ ¬ (best l 2 x.f1.f1 0).2 = true then ins acc x.f1.f1 else acc
def validsS (l : List S32) : List Int := l.foldl (validsStep l) []
def tellStep (v : Int) (out x : S32) : S32 := if kdP 1 v x && (out.f0 == 0 || nextL out x) then x else out
def tellS (l : List S32) (v : Int) : S32 := l.foldl (tellStep v) z32
def nextK (x : S32) : Int := if x.f1.f0 = 1 then x.f1.f3 else if x.f1.f0 = 3 ∨ x.f1.f0 = 5 then x.f1.f2 + 1 else 0
def nextStep (v n : Int) (x : S32) : Int := if x.f1.f1 = v then (if nextK x > n then nextK x else n) else n
def nextS (l : List S32) (v : Int) : Int := l.foldl (nextStep v) 1
def uidsStep (l : List S32) (v : Int) (acc : List Int) (x : S32) : List Int := if kdP 3 v x = true ∧ ¬ (best l 5 v x.f1.f2).2 = true then ins acc x.f1.f2 else acc
def uidsS (l : List S32) (v : Int) : List Int := l.foldl (uidsStep l v) []
def boxS (l : List S32) (v : Int) : S66 := ⟨v, (tellS l v).f1.f5, (tellS l v).f1.f6, nextS l v, (uidsS l v).map (mailI l v)⟩
def stS (l : List S32) : List S66 := (validsS l).map (boxS l)
/-! ### Laws of the greatest -/
def rkN (x : S32) : Int := x.f1.f3 * 1000000001 + x.f0
theorem seqL_rk (x y : S32) : seqL x y = decide (x.f0 < y.f0) := rfl
theorem nextL_rk {l : List S32} (h : OkL l) : ∀ x, x ∈ l → ∀ y, y ∈ l → nextL x y = decide (rkN x < rkN y) := by
 intro x hx y hy
 have h1 := (h.1 x hx).1
 have h2 := (h.1 y hy).1
 unfold nextL rkN
 split
 ·next c => rw [decide_eq_decide]; omega
 ·next c => rw [decide_eq_decide]; omega
theorem rkN_inj {l : List S32} (h : OkL l) : ∀ x, x ∈ l → ∀ y, y ∈ l → rkN x = rkN y → x = y := by
 intro x hx y hy e
 have h1 := (h.1 x hx).1
 have h2 := (h.1 y hy).1
 unfold rkN at e
 exact h.2 x hx y hy (by omega)
theorem isG_found {α : Type} {p : α → Bool} {rk : α → Int} {z : α} {l : List α} {r : α × Bool} (h : IsG p rk z l r) : r.2 = true ↔ ∃ x, x ∈ l ∧ p x = true := by
 rcases h with ⟨e, h⟩ | ⟨h1, h2, h3, _⟩
 ·rw [e]
  exact ⟨fun h => (by cases h), fun ⟨x, hx, hp⟩ => (by rw [h x hx] at hp; cases hp)⟩
 ·exact ⟨fun _ => ⟨_, h2, h3⟩, fun _ => h1⟩
theorem best_is (l : List S32) (k v u : Int) : IsG (mlP k v u) (fun x => x.f0) z32 l (best l k v u) := gLatest_is _ _ _ _ _ fun x _ y _ => seqL_rk x y
theorem dropd_is (l : List S32) (v : Int) : IsG (kdP 2 v) (fun x => x.f0) z32 l (gLatest (kdP 2 v) seqL z32 l) := gLatest_is _ _ _ _ _ fun x _ y _ => seqL_rk x y
theorem tellI_is {l : List S32} (h : OkL l) (v : Int) : IsG (kdP 1 v) rkN z32 l (tellI l v) := gLatest_is _ _ _ _ _ (nextL_rk h)
theorem best_same {l1 l2 : List S32} (h : OkL l1) (hm : SameM l1 l2) (k v u : Int) : best l1 k v u = best l2 k v u := isG_same hm h.2 (best_is l1 k v u) (best_is l2 k v u)
theorem tellI_same {l1 l2 : List S32} (h : OkL l1) (hm : SameM l1 l2) (v : Int) : tellI l1 v = tellI l2 v := isG_same hm (rkN_inj h) (tellI_is h v) (tellI_is (okL_same h hm) v)
theorem dropd_iff (l : List S32) (v : Int) : dropd l v = true ↔ ∃ x, x ∈ l ∧ x.f1.f0 = 2 ∧ x.f1.f1 = v := by
 unfold dropd
 rw [isG_found (dropd_is l v)]
 simp only [kdP_iff]
theorem best_iff (l : List S32) (k v u : Int) : (best l k v u).2 = true ↔ ∃ x, x ∈ l ∧ x.f1.f0 = k ∧ x.f1.f1 = v ∧ x.f1.f2 = u := by
 rw [isG_found (best_is l k v u)]
 simp only [mlP_iff]
theorem tellI_iff {l : List S32} (h : OkL l) (v : Int) : (tellI l v).2 = true ↔ ∃ x, x ∈ l ∧ x.f1.f0 = 1 ∧ x.f1.f1 = v := by
 rw [isG_found (tellI_is h v)]
 simp only [kdP_iff]
theorem tellI_at {l : List S32} (h : OkL l) (v : Int) (ht : (tellI l v).2 = true) : (tellI l v).1 ∈ l ∧ ((tellI l v).1.f1.f0 = 1 ∧ (tellI l v).1.f1.f1 = v) ∧ ∀ y, y ∈ l → y.f1.f0 = 1 → y.f1.f1 = v → y.f1.f3 ≤ (tellI l v).1.f1.f3 := by
 rcases tellI_is h v with ⟨e, _⟩ | ⟨_, h2, h3, h4⟩
 ·rw [e] at ht; cases ht
 ·refine ⟨h2, kdP_iff.1 h3, fun y hy hy1 hy2 => ?_⟩
  have h5 := h4 y hy (kdP_iff.2 ⟨hy1, hy2⟩)
  have a1 := (h.1 y hy).1
  have a2 := (h.1 _ h2).1
  unfold rkN at h5
  omega
theorem tellS_eq {l : List S32} (h : OkL l) (v : Int) : tellS l v = (tellI l v).1 := by
 have key : ∀ n, n ≤ l.length → tellS (l.take n) v = (tellI (l.take n) v).1 := by
  intro n
  induction n with
  | zero => intro _; rfl
  | succ n ih =>
   intro hn
   have hn' : n < l.length := by omega
   have ih := ih (by omega)
   have hsub : OkL (l.take n) := ⟨fun x hx => h.1 x (List.mem_of_mem_take hx), fun x hx y hy e => h.2 x (List.mem_of_mem_take hx) y (List.mem_of_mem_take hy) e⟩
   have hi := tellI_is hsub v
   rw [List.take_succ_eq_append_getElem hn']
   have e1 : tellI (l.take n ++ [l[n]]) v = gStep (kdP 1 v) nextL (tellI (l.take n) v) l[n] := gLatest_snoc _ _ _ _ _
   have e2 : tellS (l.take n ++ [l[n]]) v = tellStep v (tellS (l.take n) v) l[n] := by unfold tellS; rw [List.foldl_append]; rfl
   rw [e1, e2, ih]
   have e3 : ((tellI (l.take n) v).1.f0 == 0) = !(tellI (l.take n) v).2 := by
    rcases hi with ⟨e, _⟩ | ⟨a1, a2, _, _⟩
    ·rw [e]; rfl
    ·have := (hsub.1 _ a2).1
     rw [a1]
     simp
     omega
   unfold tellStep gStep
   rw [e3]
   split <;> rfl
 have := key l.length (Nat.le_refl _)
 rwa [List.take_length] at this
/-! ### Ascending lists that are put together one by one -/
theorem foldl_ins (l : List S32) (c : S32 → Prop) [DecidablePred c] (g : S32 → Int) : ∀ acc, Asc acc → Asc (l.foldl (fun acc x => if c x then ins acc (g x) else acc) acc) ∧ ∀ y, y ∈ l.foldl (fun acc x => if c x then ins acc (g x) else acc) acc ↔ y ∈ acc ∨ ∃ x, x ∈ l ∧ c x ∧ g x = y := by
 induction l with
 | nil => intro acc h; exact ⟨h, fun y => by simp⟩
 | cons x l ih =>
  intro acc h
  simp only [List.foldl_cons]
  by_cases hc : c x
  ·rw [if_pos hc]
   obtain ⟨h1, h2⟩ := ih _ (ins_asc acc (g x) h)
   refine ⟨h1, fun y => ?_⟩
   rw [h2 y, ins_mem]
   constructor
   ·rintro ((rfl | h) | ⟨z, hz, hcz, e⟩)
    ·exact Or.inr ⟨x, List.mem_cons_self, hc, rfl⟩
    ·exact Or.inl h
    ·exact Or.inr ⟨z, List.mem_cons_of_mem _ hz, hcz, e⟩
   ·rintro (h | ⟨z, hz, hcz, e⟩)
    ·exact Or.inl (Or.inr h)
    ·rcases List.mem_cons.1 hz with rfl | hz
     ·exact Or.inl (Or.inl e.symm)
     ·exact Or.inr ⟨z, hz, hcz, e⟩
  ·rw [if_neg hc]
   obtain ⟨h1, h2⟩ := ih _ h
   refine ⟨h1, fun y => ?_⟩
   rw [h2 y]
   constructor
   ·rintro (h | ⟨z, hz, hcz, e⟩)
    ·exact Or.inl h
    ·exact Or.inr ⟨z, List.mem_cons_of_mem _ hz, hcz, e⟩
   ·rintro (h | ⟨z, hz, hcz, e⟩)
    ·exact Or.inl h
    ·rcases List.mem_cons.1 hz with rfl | hz
     ·exact absurd hcz hc
     ·exact Or.inr ⟨z, hz, hcz, e⟩
theorem validsS_is (l : List S32) : Asc (validsS l) ∧ ∀ v, v ∈ validsS l ↔ ∃ x, x ∈ l ∧ (x.f1.f0 = 1 ∧ ¬ (best l 2 x.f1.f1 0).2 = true) ∧ x.f1.f1 = v := by
 obtain ⟨h1, h2⟩ := foldl_ins l (fun x => x.f1.f0 = 1 ∧ ¬ (best l 2 x.f1.f1 0).2 = true) (fun x => x.f1.f1) [] List.Pairwise.nil
 exact ⟨h1, fun v => (h2 v).trans ⟨fun h => h.elim (fun h => by simp at h) id, Or.inr⟩⟩
theorem uidsS_is (l : List S32) (v : Int) : Asc (uidsS l v) ∧ ∀ u, u ∈ uidsS l v ↔ ∃ x, x ∈ l ∧ (kdP 3 v x = true ∧ ¬ (best l 5 v x.f1.f2).2 = true) ∧ x.f1.f2 = u := by
 obtain ⟨h1, h2⟩ := foldl_ins l (fun x => kdP 3 v x = true ∧ ¬ (best l 5 v x.f1.f2).2 = true) (fun x => x.f1.f2) [] List.Pairwise.nil
 exact ⟨h1, fun v => (h2 v).trans ⟨fun h => h.elim (fun h => by simp at h) id, Or.inr⟩⟩
theorem asc_filter {l : List Int} (h : Asc l) (p : Int → Bool) : Asc (l.filter p) := List.Pairwise.filter p h
/-! ### The greatest number -/
theorem mx_le (a b : Int) : a ≤ mx a b ∧ b ≤ mx a b ∧ (mx a b = a ∨ mx a b = b) := by unfold mx; split <;> omega
theorem mx_is : ∀ (l : List Int) (n : Int), (mxL n l = n ∨ mxL n l ∈ l) ∧ n ≤ mxL n l ∧ ∀ x, x ∈ l → x ≤ mxL n l := by
 intro l
 induction l with
 | nil => intro n; exact ⟨Or.inl rfl, Int.le_refl _, fun x h => by simp at h⟩
 | cons y l ih =>
  intro n
  obtain ⟨h1, h2, h3⟩ := ih (mx n y)
  have hm := mx_le n y
  have e : mxL n (y :: l) = mxL (mx n y) l := rfl
  rw [e]
  refine ⟨?_, by omega, fun x hx => ?_⟩
  ·rcases h1 with h1 | h1
   ·rw [h1]
    rcases hm.2.2 with h | h
    ·exact Or.inl h
    ·right; rw [h]; exact List.mem_cons_self
   ·exact Or.inr (List.mem_cons_of_mem _ h1)
  ·rcases List.mem_cons.1 hx with rfl | hx
   ·omega
   ·exact h3 x hx
theorem nextS_is (v : Int) : ∀ (l : List S32) (n : Int), (l.foldl (nextStep v) n = n ∨ ∃ x, x ∈ l ∧ x.f1.f1 = v ∧ l.foldl (nextStep v) n = nextK x ∧ n < nextK x) ∧ n ≤ l.foldl (nextStep v) n ∧ ∀ x, x ∈ l → x.f1.f1 = v → nextK x ≤ l.foldl (nextStep v) n := by
 intro l
 induction l with
 | nil => intro n; exact ⟨Or.inl rfl, Int.le_refl _, fun x h => by simp at h⟩
 | cons y l ih =>
  intro n
  simp only [List.foldl_cons]
  obtain ⟨h1, h2, h3⟩ := ih (nextStep v n y)
  have hs : n ≤ nextStep v n y ∧ (y.f1.f1 = v → nextK y ≤ nextStep v n y) ∧ (nextStep v n y = n ∨ y.f1.f1 = v ∧ nextStep v n y = nextK y ∧ n < nextK y) := by
   unfold nextStep
   by_cases c : y.f1.f1 = v
   ·rw [if_pos c]
    by_cases c2 : nextK y > n
    ·rw [if_pos c2]; exact ⟨by omega, fun _ => by omega, Or.inr ⟨c, rfl, c2⟩⟩
    ·rw [if_neg c2]; exact ⟨by omega, fun _ => by omega, Or.inl rfl⟩
   ·rw [if_neg c]; exact ⟨by omega, fun h => absurd h c, Or.inl rfl⟩
  refine ⟨?_, by omega, fun x hx hv => ?_⟩
  ·rcases h1 with h1 | ⟨x, hx, hv, e, hlt⟩
   ·rw [h1]
    rcases hs.2.2 with h | ⟨a, b, c⟩
    ·exact Or.inl h
    ·exact Or.inr ⟨y, List.mem_cons_self, a, b, c⟩
   ·exact Or.inr ⟨x, List.mem_cons_of_mem _ hx, hv, e, by omega⟩
  ·rcases List.mem_cons.1 hx with rfl | hx
   ·have := hs.2.1 hv; omega
   ·exact h3 x hx hv
/-! ### The program's and the reference's answer -/
theorem ok_next {l : List S32} (h : OkL l) {x : S32} (hx : x ∈ l) (h1 : x.f1.f0 = 1) : 1 ≤ x.f1.f3 := by
 have := (h.1 x hx).2
 unfold okI recOkM at this
 rw [if_pos h1] at this
 simp only [Bool.and_eq_true, decide_eq_true_eq] at this
 exact this.2.1.2.1
theorem ok_drop {l : List S32} (h : OkL l) {x : S32} (hx : x ∈ l) (h1 : x.f1.f0 = 2) : x.f1.f2 = 0 := by
 have := (h.1 x hx).2
 unfold okI recOkM at this
 rw [if_neg (by omega), if_pos h1] at this
 simp only [Bool.and_eq_true, decide_eq_true_eq] at this
 exact this.2.1
theorem dropd_best {l : List S32} (h : OkL l) (v : Int) : (best l 2 v 0).2 = true ↔ dropd l v = true := by
 rw [best_iff, dropd_iff]
 exact ⟨fun ⟨x, hx, a, b, _⟩ => ⟨x, hx, a, b⟩, fun ⟨x, hx, a, b⟩ => ⟨x, hx, a, b, ok_drop h hx a⟩⟩
theorem thereI_iff (l : List S32) (v : Int) : thereI l v = true ↔ dropd l v = false ∧ (tellI l v).2 = true := by unfold thereI; simp
theorem validsI_is {l : List S32} (h : OkL l) : Asc (validsI l) ∧ ∀ v, v ∈ validsI l ↔ ∃ x, x ∈ l ∧ (x.f1.f0 = 1 ∧ ¬ (best l 2 x.f1.f1 0).2 = true) ∧ x.f1.f1 = v := by
 refine ⟨asc_filter (sortC_asc _) _, fun v => ?_⟩
 unfold validsI
 rw [List.mem_filter, sortC_mem, List.mem_map, thereI_iff]
 constructor
 ·rintro ⟨⟨x, hx, rfl⟩, hd, _⟩
  rw [List.mem_filter] at hx
  refine ⟨x, hx.1, ⟨by simpa using hx.2, fun hb => ?_⟩, rfl⟩
  rw [(dropd_best h _).1 hb] at hd
  cases hd
 ·rintro ⟨x, hx, ⟨h1, h2⟩, rfl⟩
  refine ⟨⟨x, List.mem_filter.2 ⟨hx, by simp [h1]⟩, rfl⟩, ?_, (tellI_iff h _).2 ⟨x, hx, h1, rfl⟩⟩
  exact Bool.eq_false_iff.2 fun hb => h2 ((dropd_best h _).2 hb)
theorem valids_eq {l1 l2 : List S32} (h : OkL l1) (hm : SameM l1 l2) : validsI l1 = validsS l2 := by
 obtain ⟨a1, b1⟩ := validsI_is h
 obtain ⟨a2, b2⟩ := validsS_is l2
 refine asc_ext _ _ a1 a2 fun v => ?_
 rw [b1 v, b2 v]
 constructor
 ·rintro ⟨x, hx, hc, e⟩; exact ⟨x, (hm x).1 hx, by rw [← best_same h hm]; exact hc, e⟩
 ·rintro ⟨x, hx, hc, e⟩; exact ⟨x, (hm x).2 hx, by rw [best_same h hm]; exact hc, e⟩
theorem uidsI_mem (l : List S32) (v u : Int) : u ∈ uidsI l v ↔ ∃ x, x ∈ l ∧ ((x.f1.f0 = 3 ∨ x.f1.f0 = 5) ∧ x.f1.f1 = v) ∧ x.f1.f2 = u := by
 unfold uidsI
 rw [sortC_mem, List.mem_map]
 constructor
 ·rintro ⟨x, hx, rfl⟩
  rw [List.mem_filter, Bool.or_eq_true, kdP_iff, kdP_iff] at hx
  refine ⟨x, hx.1, ?_, rfl⟩
  rcases hx.2 with h | h
  ·exact ⟨Or.inl h.1, h.2⟩
  ·exact ⟨Or.inr h.1, h.2⟩
 ·rintro ⟨x, hx, hc, rfl⟩
  refine ⟨x, List.mem_filter.2 ⟨hx, ?_⟩, rfl⟩
  rw [Bool.or_eq_true, kdP_iff, kdP_iff]
  rcases hc.1 with h | h
  ·exact Or.inl ⟨h, hc.2⟩
  ·exact Or.inr ⟨h, hc.2⟩
theorem uids_eq {l1 l2 : List S32} (h : OkL l1) (hm : SameM l1 l2) (v : Int) (hv : thereI l1 v = true) : (uidsI l1 v).filter (mailThereI l1 v) = uidsS l2 v := by
 obtain ⟨a2, b2⟩ := uidsS_is l2 v
 refine asc_ext _ _ (asc_filter (sortC_asc _) _) a2 fun u => ?_
 rw [b2 u, List.mem_filter, uidsI_mem]
 unfold mailThereI
 rw [hv]
 simp only [Bool.true_and, Bool.and_eq_true, Bool.not_eq_true', kdP_iff]
 constructor
 ·rintro ⟨_, h5, h3⟩
  obtain ⟨x, hx, e1, e2, e3⟩ := (best_iff l1 3 v u).1 h3
  refine ⟨x, (hm x).1 hx, ⟨⟨e1, e2⟩, ?_⟩, e3⟩
  rw [← best_same h hm, e3, h5]
  simp
 ·rintro ⟨x, hx, ⟨⟨e1, e2⟩, hb⟩, rfl⟩
  rw [← best_same h hm] at hb
  have hx1 := (hm x).2 hx
  exact ⟨⟨x, hx1, ⟨Or.inl e1, e2⟩, rfl⟩, by simpa using hb, (best_iff l1 3 v _).2 ⟨x, hx1, e1, e2, rfl⟩⟩
theorem next_eq {l1 l2 : List S32} (h : OkL l1) (hm : SameM l1 l2) (v : Int) (hv : thereI l1 v = true) : mxL (tellI l1 v).1.f1.f3 ((uidsI l1 v).map (fun u => u + 1)) = nextS l2 v := by
 obtain ⟨t1, ⟨t2, t3⟩, t4⟩ := tellI_at h v ((thereI_iff l1 v).1 hv).2
 obtain ⟨a1, a2, a3⟩ := mx_is ((uidsI l1 v).map (fun u => u + 1)) (tellI l1 v).1.f1.f3
 obtain ⟨b1, b2, b3⟩ := nextS_is v l2 1
 have hn := ok_next h t1 t2
 have k1 : nextK (tellI l1 v).1 = (tellI l1 v).1.f1.f3 := by unfold nextK; rw [if_pos t2]
 have e1 : nextS l2 v = l2.foldl (nextStep v) 1 := rfl
 rw [← e1] at b1 b2 b3
 refine Int.le_antisymm ?_ ?_
 ·rcases a1 with a1 | a1
  ·rw [a1, ← k1]; exact b3 _ ((hm _).1 t1) t3
  ·obtain ⟨u, hu, e⟩ := List.mem_map.1 a1
   obtain ⟨x, hx, ⟨hk, hxv⟩, rfl⟩ := (uidsI_mem l1 v u).1 hu
   have := b3 x ((hm x).1 hx) hxv
   have k2 : nextK x = x.f1.f2 + 1 := by unfold nextK; rw [if_neg (by omega), if_pos hk]
   omega
 ·rcases b1 with b1 | ⟨x, hx, hxv, e, hlt⟩
  ·omega
  ·rw [e]
   have hx1 := (hm x).2 hx
   unfold nextK at hlt ⊢
   by_cases c1 : x.f1.f0 = 1
   ·rw [if_pos c1]
    have := t4 x hx1 c1 hxv
    omega
   ·rw [if_neg c1] at hlt ⊢
    by_cases c2 : x.f1.f0 = 3 ∨ x.f1.f0 = 5
    ·rw [if_pos c2] at hlt ⊢
     exact a3 _ (List.mem_map.2 ⟨x.f1.f2, (uidsI_mem l1 v _).2 ⟨x, hx1, ⟨c2, hxv⟩, rfl⟩, rfl⟩)
    ·rw [if_neg c2] at hlt
     omega
theorem mailI_same {l1 l2 : List S32} (h : OkL l1) (hm : SameM l1 l2) (v u : Int) : mailI l1 v u = mailI l2 v u := by unfold mailI; rw [best_same h hm, best_same h hm]
theorem stI_eq_stS {l1 l2 : List S32} (h : OkL l1) (hm : SameM l1 l2) : stI l1 = stS l2 := by
 unfold stI stS
 rw [valids_eq h hm]
 refine List.map_congr_left fun v hv => ?_
 rw [← valids_eq h hm] at hv
 have ht : thereI l1 v = true := (List.mem_filter.1 hv).2
 obtain ⟨t1, ⟨t2, t3⟩, _⟩ := tellI_at h v ((thereI_iff l1 v).1 ht).2
 unfold boxI boxS
 rw [t3, next_eq h hm v ht, uids_eq h hm v ht, tellS_eq (okL_same h hm), ← tellI_same h hm]
 have e : (uidsS l2 v).map (mailI l1 v) = (uidsS l2 v).map (mailI l2 v) := List.map_congr_left fun u _ => mailI_same h hm v u
 rw [e]

/-! draws -/
theorem and255 (x : Int) : 0 ≤ bits .and .i64 x 255 ∧ bits .and .i64 x 255 ≤ 255 := by
 unfold bits
 have h : (BitVec.ofInt (IntKind.bits .i64) x &&& BitVec.ofInt (IntKind.bits .i64) 255).toNat ≤ 255 := by
  rw [BitVec.toNat_and]
  exact Nat.le_trans Nat.and_le_right (by decide)
 simp only
 rw [b_wraps_i64 _ (by omega) (by omega)]
 omega
def Inside (l : List Int) (p : Int) : Prop := 0 ≤ p ∧ p ≤ (l.length : Int)
theorem l01Byte_some (l : List Int) (hl : l.length ≤ 1048576) (p s : Int) (hp : Inside l p) : ∃ b p' s', spec_l01Byte.f l p s = some (b, p', s') ∧ (0 ≤ b ∧ b ≤ 255) ∧ Inside l p' := by
 obtain ⟨h0, h1⟩ := hp
 unfold spec_l01Byte.f
 by_cases h : p < (l.length : Int)
 ·rw [if_pos h, if_pos h0]
  refine ⟨_, _, _, rfl, and255 _, ?_⟩
  have e := w64 (x := p + 1) (by omega) (by omega)
  rw [e]
  exact ⟨by omega, by omega⟩
 ·rw [if_neg h]
  exact ⟨_, _, _, rfl, and255 _, h0, h1⟩
theorem l01Below_some (l : List Int) (hl : l.length ≤ 1048576) (p s n : Int) (hp : Inside l p) : ∃ b p' s', spec_l01Below.f l p s n = some (b, p', s') ∧ (0 ≤ b ∧ (0 < n → b < n)) ∧ Inside l p' := by
 unfold spec_l01Below.f
 by_cases h : n ≤ 0
 ·rw [if_pos h]
  exact ⟨_, _, _, rfl, ⟨Int.le_refl _, fun h2 => by omega⟩, hp⟩
 ·rw [if_neg h]
  by_cases h2 : n ≤ 256
  ·rw [if_pos h2]
   obtain ⟨b, p', s', e, hb, hp'⟩ := l01Byte_some l hl p s hp
   simp only [e, Option.bind_some, if_neg (show ¬ n = 0 by omega)]
   exact ⟨_, _, _, rfl, ⟨Int.tmod_nonneg _ hb.1, fun h3 => Int.tmod_lt_of_pos _ h3⟩, hp'⟩
  ·rw [if_neg h2]
   obtain ⟨b1, p1, s1, e1, hb1, hp1⟩ := l01Byte_some l hl p s hp
   obtain ⟨b2, p2, s2, e2, hb2, hp2⟩ := l01Byte_some l hl p1 s1 hp1
   obtain ⟨b3, p3, s3, e3, hb3, hp3⟩ := l01Byte_some l hl p2 s2 hp2
   obtain ⟨b4, p4, s4, e4, hb4, hp4⟩ := l01Byte_some l hl p3 s3 hp3
   simp only [e1, e2, e3, e4, Option.bind_some, if_neg (show ¬ n = 0 by omega)]
   refine ⟨_, _, _, rfl, ⟨Int.tmod_nonneg _ ?_, fun h3 => Int.tmod_lt_of_pos _ h3⟩, hp4⟩
   have a1 := w64 (x := b1 * 16777216) (by omega) (by omega)
   rw [a1]
   clear a1
   have a2 := w64 (x := b2 * 65536) (by omega) (by omega)
   rw [a2]
   clear a2
   have a3 := w64 (x := b3 * 256) (by omega) (by omega)
   rw [a3]
   clear a3
   have a4 := w64 (x := b1 * 16777216 + b2 * 65536) (by omega) (by omega)
   rw [a4]
   clear a4
   have a5 := w64 (x := b1 * 16777216 + b2 * 65536 + b3 * 256) (by omega) (by omega)
   rw [a5]
   clear a5
   have a6 := w64 (x := b1 * 16777216 + b2 * 65536 + b3 * 256 + b4) (by omega) (by omega)
   rw [a6]
   omega
theorem l01Once_some (l : List Int) (hl : l.length ≤ 1048576) (p s n : Int) (hp : Inside l p) : ∃ (b : Bool) (p' s' : Int), spec_l01Once.f l p s n = some (b, p', s') ∧ Inside l p' := by
 unfold spec_l01Once.f
 obtain ⟨b, p', s', e, _, hp'⟩ := l01Below_some l hl p s n hp
 simp only [e, Option.bind_some]
 exact ⟨_, _, _, rfl, hp'⟩
theorem l01New_l0 (l : List Int) (hl : l.length ≤ 1048576) (d : Nat) : ∀ (i : Nat) (s : Int), l.length - i = d → i ≤ l.length → ∃ s', Ev (fun k => spec_l01New.l0 k l s (i : Int)) (l, 0, s') := by
 induction d with
 | zero =>
  intro i s hd hi
  refine ⟨s, ev_succ ?_⟩
  simp only [spec_l01New.l0, if_neg (show ¬ (i : Int) < (l.length : Int) by omega)]
  exact ev_some rfl
 | succ d ih =>
  intro i s hd hi
  by_cases h : (i : Int) < 4000
  ·obtain ⟨s', hs⟩ := ih (i + 1) (bits .and .i64 (wrap64 ((wrap64 ((wrap64 (s * 131)) + (wrap64 (rd l (i : Int))))) + 7)) 1073741823) (by omega) (by omega)
   refine ⟨s', ev_succ ?_⟩
   simp only [spec_l01New.l0, if_pos (show (i : Int) < (l.length : Int) by omega), if_pos h, if_pos (show (0 : Int) ≤ (i : Int) by omega), wn i (show i < l.length by omega) (by omega)]
   exact hs
  ·refine ⟨s, ev_succ ?_⟩
   simp only [spec_l01New.l0, if_pos (show (i : Int) < (l.length : Int) by omega), if_neg h]
   exact ev_some rfl
theorem l01New_some (l : List Int) (hl : l.length ≤ 1048576) : ∃ s', Ev (fun k => spec_l01New.f k l) (l, 0, s') := by
 unfold spec_l01New.f
 exact l01New_l0 l hl l.length 0 _ (by omega) (by omega)
theorem inside0 (l : List Int) : Inside l 0 := ⟨Int.le_refl _, by omega⟩

/-! pick -/
theorem l01Long_l0 (n : Nat) (v : Int) (hn : n ≤ 100000) (d : Nat) : ∀ (i : Nat) (acc : List Int), n - i = d → i ≤ n → acc.length = n → ∃ t : ByteArray, Ev (fun k => spec_l01Long.l0 k (n : Int) v acc (i : Int)) t ∧ t.size = n := by
 induction d with
 | zero =>
  intro i acc hd hi ha
  refine ⟨strOfNums acc, ev_succ ?_, by rw [strOfNums_size]; exact ha⟩
  simp only [spec_l01Long.l0, if_neg (show ¬ (i : Int) < (n : Int) by omega)]
  exact ev_some rfl
 | succ d ih =>
  intro i acc hd hi ha
  obtain ⟨t, h, hs⟩ := ih (i + 1) (acc.set i v) (by omega) (by omega) (by rw [List.length_set]; exact ha)
  refine ⟨t, ev_succ ?_, hs⟩
  simp only [spec_l01Long.l0, if_pos (show (i : Int) < (n : Int) by omega), if_pos (show (0 : Int) ≤ (i : Int) by omega), ha, Int.toNat_natCast, wn i (show i < n by omega) (by omega)]
  exact h
theorem l01Long_some (n : Int) (v : Int) (hn : 0 ≤ n ∧ n ≤ 100000) : ∃ t : ByteArray, Ev (fun k => spec_l01Long.f k n v) t ∧ (t.size : Int) = n := by
 obtain ⟨m, rfl⟩ := Int.eq_ofNat_of_zero_le hn.1
 obtain ⟨t, h, hs⟩ := l01Long_l0 m v (by omega) m 0 (List.replicate m 0) (by omega) (by omega) (by simp)
 refine ⟨t, ?_, by omega⟩
 unfold spec_l01Long.f
 simp only [if_pos hn.1, Int.toNat_natCast, if_pos (show m ≤ 281474976710656 by omega)]
 exact h
theorem l01PickInt_some (l : List Int) (hl : l.length ≤ 1048576) (p s : Int) (hp : Inside l p) (L : List Int) (hL : 0 < L.length) : ∃ v p' s', spec_l01PickInt.f l p s L = some (v, p', s') ∧ v ∈ L ∧ Inside l p' := by
 unfold spec_l01PickInt.f
 obtain ⟨b, p1, s1, e, hb, hp1⟩ := l01Below_some l hl p s (L.length : Int) hp
 have h2 := hb.2 (by omega)
 refine ⟨rd L b, p1, s1, ?_, ?_, hp1⟩
 ·simp only [e, Option.bind_some, if_pos hb.1, if_pos h2]
 ·unfold rd
  rw [List.getD_eq_getElem?_getD, List.getElem?_eq_getElem (show b.toNat < L.length by omega)]
  exact List.getElem_mem _

/-! drawframe -/

/-! frameok -/

/-! sum -/

/-! seal -/

/-! var -/

/-! frametext -/

/-! drawfr -/

/-! rectext -/

/-! drawrec -/
theorem l01Pick_some (l : List Int) (hl : l.length ≤ 1048576) (p s : Int) (hp : Inside l p) (L : List ByteArray) (hL : 0 < L.length) : ∃ v p' s', spec_l01Pick.f l p s L = some (v, p', s') ∧ v ∈ L ∧ Inside l p' := by
 unfold spec_l01Pick.f
 obtain ⟨b, p1, s1, e, hb, hp1⟩ := l01Below_some l hl p s (L.length : Int) hp
 have h2 := hb.2 (by omega)
 refine ⟨rdOf ByteArray.empty L b, p1, s1, ?_, ?_, hp1⟩
 ·simp only [e, Option.bind_some, if_pos hb.1, if_pos h2]
 ·unfold rdOf
  rw [List.getD_eq_getElem?_getD, List.getElem?_eq_getElem (show b.toNat < L.length by omega)]
  exact List.getElem_mem _
theorem pick_size {L : List ByteArray} {v : ByteArray} (h : v ∈ L) (hL : (L.all fun x => decide (x.size ≤ 1000)) = true) : v.size ≤ 1000 := of_decide_eq_true (List.all_eq_true.1 hL v h)
theorem rdOf_size {L : List ByteArray} (hL : (L.all fun x => decide (x.size ≤ 1000)) = true) (i : Int) : (rdOf ByteArray.empty L i).size ≤ 1000 := by
 unfold rdOf
 rw [List.getD_eq_getElem?_getD]
 by_cases h : i.toNat < L.length
 ·rw [List.getElem?_eq_getElem h]
  exact pick_size (List.getElem_mem h) hL
 ·rw [List.getElem?_eq_none (by omega)]
  exact (by decide : ByteArray.empty.size ≤ 1000)
theorem pick_all {L : List ByteArray} {v : ByteArray} (P : ByteArray → Bool) (h : v ∈ L) (hL : L.all P = true) : P v = true := List.all_eq_true.1 hL v h
theorem l06Rec_ok (l : List Int) (hl : l.length ≤ 1048576) (p s : Int) (hp : Inside l p) : ∃ a0 a1 a2 a3 a4 x5 x6 x7 p' s', spec_l06Rec.f l p s = some (a0, a1, a2, a3, a4, x5, x6, x7, p', s') ∧ recOkM a0 a1 a2 a3 a4 x5 x6 x7 = true ∧ Inside l p' := by
 have z : (⟨#[]⟩ : ByteArray).size = 0 := rfl
 unfold spec_l06Rec.f
 obtain ⟨k, p1, s1, e1, hk, hp1⟩ := l01PickInt_some l hl p s hp (([1, 1, 2, 3, 3, 3, 3, 4, 4, 5, 5] : List Int)) (by simp)
 obtain ⟨v, p2, s2, e2, hv, hp2⟩ := l01Below_some l hl p1 s1 3 hp1
 have hv2 := hv.2 (by omega)
 have ev := w64 (x := 1 + v) (by omega) (by omega)
 simp only [e1, e2, Option.bind_some, ev]
 clear ev
 have hv3 : 1 ≤ 1 + v ∧ 1 + v ≤ 9999 := by omega
 simp at hk
 by_cases k1 : k = 1
 ·obtain ⟨u, p3, s3, e3, hu, hp3⟩ := l01Pick_some l hl p2 s2 hp2 (([(⟨#[97, 110, 110]⟩ : ByteArray), (⟨#[98, 111, 98]⟩ : ByteArray)] : List ByteArray)) (by simp)
  obtain ⟨n, p4, s4, e4, hn, hp4⟩ := l01Pick_some l hl p3 s3 hp3 (([(⟨#[105, 110, 98, 111, 120]⟩ : ByteArray), (⟨#[119, 111, 114, 107]⟩ : ByteArray)] : List ByteArray)) (by simp)
  obtain ⟨b, p5, s5, e5, hb, hp5⟩ := l01Below_some l hl p4 s4 6 hp4
  have hb2 := hb.2 (by omega)
  have ew := w64 (x := 1 + b) (by omega) (by omega)
  simp only [if_pos k1, e3, e4, e5, Option.bind_some, ew]
  clear ew
  refine ⟨_, _, _, _, _, _, _, _, _, _, rfl, ?_, hp5⟩
  unfold recOkM
  rw [if_pos k1, decide_eq_true hv3, pick_all wordM hu (by decide +kernel), pick_all wordM hn (by decide +kernel), decide_eq_true (show 1 ≤ 1 + b ∧ 1 + b ≤ 10000 by omega)]
  rfl
 by_cases k3 : k = 3
 ·obtain ⟨u, p3, s3, e3, hu, hp3⟩ := l01Below_some l hl p2 s2 5 hp2
  obtain ⟨n, p4, s4, e4, hn, hp4⟩ := l01Below_some l hl p3 s3 8 hp3
  obtain ⟨t, p5, s5, e5, ht, hp5⟩ := l01Pick_some l hl p4 s4 hp4 (([(⟨#[104, 101, 108, 108, 111]⟩ : ByteArray), (⟨#[102, 114, 111, 109, 58, 32, 97, 110, 110, 10, 10, 104, 105]⟩ : ByteArray), (⟨#[115, 117, 98, 106, 101, 99, 116, 58, 32, 120, 10, 10, 98, 111, 100, 121, 32, 111, 102, 32, 105, 116, 10, 46, 100, 111, 116, 10]⟩ : ByteArray), (⟨#[]⟩ : ByteArray), (⟨#[120, 10, 46, 46, 10]⟩ : ByteArray)] : List ByteArray)) (by simp)
  have hu2 := hu.2 (by omega)
  have hn2 := hn.2 (by omega)
  have htz : t.size ≤ 100 := of_decide_eq_true (pick_all (fun x => decide (x.size ≤ 100)) ht (by decide))
  have ew := w64 (x := 1 + u) (by omega) (by omega)
  have e6 : spec_l06Text.f l p4 s4 = some (t, p5, s5) := by unfold spec_l06Text.f; simp only [e5, Option.bind_some]
  simp only [if_neg k1, if_pos k3, e3, e4, e6, Option.bind_some, ew]
  clear ew
  refine ⟨_, _, _, _, _, _, _, _, _, _, rfl, ?_, hp5⟩
  unfold recOkM
  rw [if_neg k1, if_neg (by omega), if_pos k3, decide_eq_true hv3, decide_eq_true ⟨by omega, by omega, htz, rfl, z, z⟩]
  rfl
 by_cases k4 : k = 4
 ·obtain ⟨u, p3, s3, e3, hu, hp3⟩ := l01Below_some l hl p2 s2 5 hp2
  obtain ⟨n, p4, s4, e4, hn, hp4⟩ := l01Below_some l hl p3 s3 8 hp3
  have hu2 := hu.2 (by omega)
  have hn2 := hn.2 (by omega)
  have ew := w64 (x := 1 + u) (by omega) (by omega)
  simp only [if_neg k1, if_neg k3, if_pos k4, e3, e4, Option.bind_some, ew]
  clear ew
  refine ⟨_, _, _, _, _, _, _, _, _, _, rfl, ?_, hp4⟩
  unfold recOkM
  rw [if_neg k1, if_neg (by omega), if_neg k3, if_pos k4, decide_eq_true hv3, decide_eq_true ⟨by omega, by omega, rfl, z, z, z⟩]
  rfl
 by_cases k5 : k = 5
 ·obtain ⟨u, p3, s3, e3, hu, hp3⟩ := l01Below_some l hl p2 s2 5 hp2
  have hu2 := hu.2 (by omega)
  have ew := w64 (x := 1 + u) (by omega) (by omega)
  simp only [if_neg k1, if_neg k3, if_neg k4, if_pos k5, e3, Option.bind_some, ew]
  clear ew
  refine ⟨_, _, _, _, _, _, _, _, _, _, rfl, ?_, hp3⟩
  unfold recOkM
  rw [if_neg k1, if_neg (by omega), if_neg k3, if_neg k4, if_pos k5, decide_eq_true hv3, decide_eq_true ⟨by omega, rfl, rfl, z, z, z⟩]
  rfl
 ·have k2 : k = 2 := by omega
  simp only [if_neg k1, if_neg k3, if_neg k4, if_neg k5]
  refine ⟨_, _, _, _, _, _, _, _, _, _, rfl, ?_, hp2⟩
  unfold recOkM
  rw [if_neg k1, if_pos k2, decide_eq_true hv3, decide_eq_true ⟨rfl, rfl, rfl, z, z, z⟩]
  rfl
def Numb (l : List S32) : Prop := (∀ (i : Nat) (h : i < l.length), l[i].f0 = 2 + (i : Int)) ∧ ∀ x, x ∈ l → okI x = true
theorem numb_ok {l : List S32} (h : Numb l) (hl : l.length ≤ 1000) : OkL l := by
 refine ⟨fun x hx => ?_, fun x hx y hy e => ?_⟩
 ·obtain ⟨i, hi, rfl⟩ := List.getElem_of_mem hx
  have := h.1 i hi
  exact ⟨by omega, h.2 _ hx⟩
 ·obtain ⟨i, hi, rfl⟩ := List.getElem_of_mem hx
  obtain ⟨j, hj, rfl⟩ := List.getElem_of_mem hy
  rw [h.1 i hi, h.1 j hj] at e
  obtain rfl : i = j := by omega
  rfl
theorem numb_snoc {l : List S32} (h : Numb l) (x : S32) (h1 : x.f0 = 2 + (l.length : Int)) (h2 : okI x = true) : Numb (l ++ [x]) := by
 refine ⟨fun i hi => ?_, fun y hy => ?_⟩
 ·rw [List.getElem_append]
  split
  ·exact h.1 i _
  ·next hn =>
   simp at hi
   have : i - l.length = 0 := by omega
   simp only [this, List.getElem_singleton, h1]
   omega
 ·rcases List.mem_append.1 hy with hy | hy
  ·exact h.2 y hy
  ·rw [List.mem_singleton.1 hy]; exact h2
theorem okL_rep {l : List S32} (h : OkL l) (x : S32) (hx : x ∈ l) : OkL (l ++ [x]) ∧ SameM (l ++ [x]) l := by
 have hm : SameM (l ++ [x]) l := fun y => by
  rw [List.mem_append, List.mem_singleton]
  exact ⟨fun h => h.elim id (fun e => e ▸ hx), Or.inl⟩
 exact ⟨okL_same h (sameM_symm hm), hm⟩
theorem l07Items_end (l : List Int) (hl : l.length ≤ 1048576) (acc : List S32) (p1 s1 : Int) (ha : acc.length ≤ 23) (hn : Numb acc) (hp1 : Inside l p1) : ∃ (r : List S32) (p' s' : Int), Ev (fun k => if (acc.length : Int) > 1 then ((spec_l01Once.f l p1 s1 3).bind fun bt209 => (if bt209.1 = true then ((spec_l01Below.f l bt209.2.1 bt209.2.2 (acc.length : Int)).bind fun bt212 => (if 0 ≤ bt212.1 then (if bt212.1 < (acc.length : Int) then (if acc.length < 1466015503701 then (some ((acc ++ [(⟨(rd_T32 acc bt212.1).f0, (⟨(rd_T32 acc bt212.1).f1.f0, (rd_T32 acc bt212.1).f1.f1, (rd_T32 acc bt212.1).f1.f2, (rd_T32 acc bt212.1).f1.f3, (rd_T32 acc bt212.1).f1.f4, (rd_T32 acc bt212.1).f1.f5, (rd_T32 acc bt212.1).f1.f6, (rd_T32 acc bt212.1).f1.f7⟩ : S23)⟩ : S32)]), bt212.2.1, bt212.2.2)) else (none)) else (none)) else (none))) else (some (acc, bt209.2.1, bt209.2.2)))) else (some (acc, p1, s1))) (r, p', s') ∧ (OkL r ∧ r.length ≤ 24) ∧ Inside l p' := by
 have hok := numb_ok hn (by omega)
 by_cases c : (acc.length : Int) > 1
 ·obtain ⟨b, p2, s2, e2, hp2⟩ := l01Once_some l hl p1 s1 3 hp1
  cases b with
  | true =>
   obtain ⟨b, p3, s3, e3, hb, hp3⟩ := l01Below_some l hl p2 s2 (acc.length : Int) hp2
   have hb2 := hb.2 (by omega)
   obtain ⟨j, rfl⟩ := Int.eq_ofNat_of_zero_le hb.1
   have hj : j < acc.length := by omega
   have hr := okL_rep hok _ (List.getElem_mem hj)
   refine ⟨acc ++ [acc[j]], p3, s3, ?_, ⟨hr.1, by simp; omega⟩, hp3⟩
   have erd : rd_T32 acc (j : Int) = acc[j] := by
    unfold rd_T32
    rw [Int.toNat_natCast, List.getD_eq_getElem?_getD, List.getElem?_eq_getElem hj]
    rfl
   simp only [if_pos c, e2, e3, Option.bind_some, if_true, if_pos hb.1, if_pos hb2, if_pos (show acc.length < 1466015503701 by omega), erd]
   exact ev_some rfl
  | false =>
   refine ⟨acc, p2, s2, ?_, ⟨hok, by omega⟩, hp2⟩
   simp only [if_pos c, e2, Option.bind_some, Bool.false_eq_true, if_false]
   exact ev_some rfl
 ·refine ⟨acc, p1, s1, ?_, ⟨hok, by omega⟩, hp1⟩
  simp only [if_neg c]
  exact ev_some rfl
theorem l07Items_l0 (l : List Int) (hl : l.length ≤ 1048576) (d : Nat) : ∀ (i : Nat) (acc : List S32) (p s : Int), 22 - i = d → i ≤ 22 → acc.length = i → Numb acc → Inside l p →
  ∃ (r : List S32) (p' s' : Int), Ev (fun k => spec_l07Items.l0 k acc (i : Int) l p s) (r, p', s') ∧ (OkL r ∧ r.length ≤ 24) ∧ Inside l p' := by
 induction d with
 | zero =>
  intro i acc p s hd hi ha hn hp
  obtain ⟨b, p1, s1, e, hb, hp1⟩ := l01Below_some l hl p s 22 hp
  have hb2 := hb.2 (by omega)
  have hend := l07Items_end l hl acc p1 s1 (by omega) hn hp1
  obtain ⟨r, p', s', h, hr, hp'⟩ := hend
  refine ⟨r, p', s', ev_succ ?_, hr, hp'⟩
  simp only [spec_l07Items.l0, e, Option.bind_some, if_neg (show ¬ (i : Int) < b by omega)]
  exact h
 | succ d ih =>
  intro i acc p s hd hi ha hn hp
  obtain ⟨b, p1, s1, e, hb, hp1⟩ := l01Below_some l hl p s 22 hp
  by_cases h : (i : Int) < b
  ·obtain ⟨a0, a1, a2, a3, a4, x5, x6, x7, p2, s2, e2, hok, hp2⟩ := l06Rec_ok l hl p1 s1 hp1
   have ew := w64 (x := 2 + (i : Int)) (by omega) (by omega)
   obtain ⟨r, p', s', hr, hrr, hp'⟩ := ih (i + 1) (acc ++ [⟨2 + (i : Int), ⟨a0, a1, a2, a3, a4, x5, x6, x7⟩⟩]) p2 s2 (by omega) (by omega) (by simp; omega) (numb_snoc hn ⟨2 + (i : Int), ⟨a0, a1, a2, a3, a4, x5, x6, x7⟩⟩ (by simp only [ha]) hok) hp2
   refine ⟨r, p', s', ev_succ ?_, hrr, hp'⟩
   simp only [spec_l07Items.l0, e, e2, Option.bind_some, if_pos h, if_pos (show acc.length < 1466015503701 by omega), ew, wn i (show i < 22 by omega) (by omega)]
   exact hr
  ·obtain ⟨r, p', s', hr, hrr, hp'⟩ := l07Items_end l hl acc p1 s1 (by omega) hn hp1
   refine ⟨r, p', s', ev_succ ?_, hrr, hp'⟩
   simp only [spec_l07Items.l0, e, Option.bind_some, if_neg h]
   exact hr
theorem l07Items_ok (l : List Int) (hl : l.length ≤ 1048576) (p s : Int) (hp : Inside l p) : ∃ (r : List S32) (p' s' : Int), Ev (fun k => spec_l07Items.f k l p s) (r, p', s') ∧ (OkL r ∧ r.length ≤ 24) ∧ Inside l p' :=
 l07Items_l0 l hl 22 0 [] p s rfl (by omega) rfl ⟨fun i h => by simp at h, fun x h => by simp at h⟩ hp

/-! state -/
def tup (r : S32 × Bool) : Int × Int × Int × Int × Int × Int × ByteArray × ByteArray × ByteArray × Bool := (r.1.f0, r.1.f1.f0, r.1.f1.f1, r.1.f1.f2, r.1.f1.f3, r.1.f1.f4, r.1.f1.f5, r.1.f1.f6, r.1.f1.f7, r.2)
theorem rd_item (l : List S32) (i : Nat) (h : i < l.length) : rd_T32 l (i : Int) = l[i] := by
 unfold rd_T32
 rw [Int.toNat_natCast, List.getD_eq_getElem?_getD, List.getElem?_eq_getElem h]
 rfl
theorem rd_num (l : List Int) (i : Nat) (h : i < l.length) : rd l (i : Int) = l[i] := by
 unfold rd
 rw [Int.toNat_natCast, List.getD_eq_getElem?_getD, List.getElem?_eq_getElem h]
 rfl
theorem okL_sz {l : List S32} (h : OkL l) : ∀ x, x ∈ l → SzJ x := by
 intro x hx
 have hb := recOkM_bounds (h.1 x hx).2
 unfold SzJ
 omega
theorem okL_uid {l : List S32} (h : OkL l) : ∀ x, x ∈ l → 0 ≤ x.f1.f2 ∧ x.f1.f2 ≤ 9999 := fun x hx => (recOkM_bounds (h.1 x hx).2).2.2.1
theorem impl_boxThere_eq (l : List S32) (v : Int) : impl_boxThere.f l v = some (if dropd l v = true then (0, 0, 0, 0, 0, 0, (⟨#[]⟩ : ByteArray), (⟨#[]⟩ : ByteArray), (⟨#[]⟩ : ByteArray), false) else tup (tellI l v)) := rfl
theorem impl_boxThere_at (l : List S32) (v : Int) : (thereI l v = true ∧ impl_boxThere.f l v = some (tup (tellI l v)) ∧ (tellI l v).2 = true) ∨ (thereI l v = false ∧ ∃ t, impl_boxThere.f l v = some t ∧ t.2.2.2.2.2.2.2.2.2 = false) := by
 rw [impl_boxThere_eq]
 unfold thereI
 cases hd : dropd l v with
 | true => exact Or.inr ⟨by simp, _, rfl, rfl⟩
 | false =>
  cases ht : (tellI l v).2 with
  | true => exact Or.inl ⟨by simp, by simp, rfl⟩
  | false => exact Or.inr ⟨by simp, _, rfl, ht⟩
theorem impl_mailItem_eq (l : List S32) (k v u : Int) : impl_mailItem.f l k v u = some (tup (best l k v u)) := rfl
theorem impl_mailThere_at (l : List S32) (v u : Int) : (mailThereI l v u = true ∧ impl_mailThere.f l v u = some (tup (best l 3 v u)) ∧ (best l 3 v u).2 = true) ∨ (mailThereI l v u = false ∧ ∃ t, impl_mailThere.f l v u = some t ∧ t.2.2.2.2.2.2.2.2.2 = false) := by
 unfold impl_mailThere.f mailThereI
 rcases impl_boxThere_at l v with ⟨h1, h2, h3⟩ | ⟨h1, t, h2, h3⟩
 ·rw [h2, h1]
  simp only [Option.bind_some, impl_mailItem_eq, tup, h3, if_true, Bool.true_and]
  cases h5 : (best l 5 v u).2 with
  | true => exact Or.inr ⟨by simp, _, rfl, rfl⟩
  | false =>
   cases h6 : (best l 3 v u).2 with
   | true => exact Or.inl ⟨by simp, by simp, rfl⟩
   | false => exact Or.inr ⟨by simp, _, rfl, rfl⟩
 ·rw [h2, h1]
  simp only [Option.bind_some, h3, Bool.false_eq_true, if_false]
  exact Or.inr ⟨by simp, _, rfl, rfl⟩
theorem impl_boxState_l0 (l : List S32) (v : Int) (U : List Int) (hU : U.length ≤ 1048576) (hb : ∀ u, u ∈ U → 0 ≤ u ∧ u ≤ 9999) (w : Int) (us nm : ByteArray) (d : Nat) : ∀ (i : Nat) (n : Int) (acc : List S68), U.length - i = d → i ≤ U.length → acc.length ≤ i →
  Ev (fun k => impl_boxState.l0 k l U (U.length : Int) (i : Int) v w us nm n acc) (w, us, nm, mxL n ((U.drop i).map (fun u => u + 1)), acc ++ ((U.drop i).filter (mailThereI l v)).map (mailI l v)) := by
 induction d with
 | zero =>
  intro i n acc hd hi ha
  refine ev_succ ?_
  rw [List.drop_eq_nil_of_le (by omega)]
  simp only [impl_boxState.l0, if_neg (show ¬ (i : Int) < (U.length : Int) by omega)]
  exact ev_some (by simp [mxL])
 | succ d ih =>
  intro i n acc hd hi ha
  have hlt : i < U.length := by omega
  refine ev_succ ?_
  have hu := hb _ (List.getElem_mem hlt)
  have ew := w64 (x := U[i] + 1) (by omega) (by omega)
  rw [List.drop_eq_getElem_cons hlt]
  simp only [impl_boxState.l0, if_pos (show (i : Int) < (U.length : Int) by omega), if_pos (show (0 : Int) ≤ (i : Int) by omega), rd_num U i hlt, ew, wn i hlt (show U.length ≤ 140737488355328 by omega)]
  clear ew
  generalize hx : U[i] = u
  have em : mxL n ((u :: U.drop (i + 1)).map (fun u => u + 1)) = mxL (mx n (u + 1)) ((U.drop (i + 1)).map (fun u => u + 1)) := rfl
  rw [em]
  rcases impl_mailThere_at l v u with ⟨h1, h2, h3⟩ | ⟨h1, t, h2, h3⟩
  ·simp only [h2, Option.bind_some, tup, h3, if_true, impl_mailItem_eq, if_pos (show acc.length < 4398046511104 by omega)]
   have ef : ((u :: U.drop (i + 1)).filter (mailThereI l v)).map (mailI l v) = mailI l v u :: ((U.drop (i + 1)).filter (mailThereI l v)).map (mailI l v) := by rw [List.filter_cons_of_pos h1]; rfl
   rw [ef, List.append_cons acc (mailI l v u) (((U.drop (i + 1)).filter (mailThereI l v)).map (mailI l v))]
   have hz := ih (i + 1) (mx n (u + 1)) (acc ++ [mailI l v u]) (by omega) (by omega) (by simp; omega)
   by_cases h4 : (best l 4 v u).2 = true
   ·simp only [h4, if_true]
    have e : mailI l v u = ⟨u, (best l 4 v u).1.f1.f4, (best l 3 v u).1.f1.f7⟩ := by unfold mailI; rw [if_pos h4]
    rw [← e]
    exact hz
   ·have h4' : (best l 4 v u).2 = false := by simpa using h4
    simp only [h4', Bool.false_eq_true, if_false]
    have e : mailI l v u = ⟨u, (best l 3 v u).1.f1.f4, (best l 3 v u).1.f1.f7⟩ := by unfold mailI; rw [if_neg h4]
    rw [← e]
    exact hz
  ·simp only [h2, Option.bind_some, h3, Bool.false_eq_true, if_false]
   rw [List.filter_cons_of_neg (by rw [h1]; simp)]
   exact ih (i + 1) (mx n (u + 1)) acc (by omega) (by omega) (by omega)
theorem uidsI_bound {l : List S32} (h : OkL l) (v : Int) : ∀ u, u ∈ uidsI l v → 0 ≤ u ∧ u ≤ 9999 := by
 intro u hu
 obtain ⟨x, hx, _, rfl⟩ := (uidsI_mem l v u).1 hu
 exact okL_uid h x hx
theorem uidsI_len (l : List S32) (v : Int) : (uidsI l v).length ≤ l.length := by
 unfold uidsI
 refine Nat.le_trans (sortC_len _) ?_
 rw [List.length_map]
 exact List.length_filter_le _ _
theorem impl_boxState_ev {l : List S32} (h : OkL l) (hl : l.length ≤ 200) (x : S32) : Ev (fun k => impl_boxState.f k l x.f0 x.f1.f0 x.f1.f1 x.f1.f2 x.f1.f3 x.f1.f4 x.f1.f5 x.f1.f6 x.f1.f7) ((boxI l x).f0, (boxI l x).f1, (boxI l x).f2, (boxI l x).f3, (boxI l x).f4) := by
 have hU := uidsI_len l x.f1.f1
 have e : impl_numbers_uid.f l x.f1.f1 = some (uidsI l x.f1.f1) := by unfold impl_numbers_uid.f; rw [if_pos (by omega)]; rfl
 unfold impl_boxState.f
 simp only [e, Option.bind_some]
 have := impl_boxState_l0 l x.f1.f1 (uidsI l x.f1.f1) (by omega) (uidsI_bound h _) x.f1.f1 x.f1.f5 x.f1.f6 _ 0 x.f1.f3 [] rfl (by omega) (by simp)
 simpa [boxI] using this
theorem impl_StateOf_l0 {l : List S32} (h : OkL l) (hl : l.length ≤ 200) (V : List Int) (hV : V.length ≤ 1048576) (d : Nat) : ∀ (i : Nat) (acc : List S66), V.length - i = d → i ≤ V.length → acc.length ≤ i →
  Ev (fun k => impl_StateOf.l0 k l V (V.length : Int) (i : Int) acc) (acc ++ ((V.drop i).filter (thereI l)).map (fun v => boxI l (tellI l v).1)) := by
 induction d with
 | zero =>
  intro i acc hd hi ha
  refine ev_succ ?_
  rw [List.drop_eq_nil_of_le (by omega)]
  simp only [impl_StateOf.l0, if_neg (show ¬ (i : Int) < (V.length : Int) by omega)]
  exact ev_some (by simp)
 | succ d ih =>
  intro i acc hd hi ha
  have hlt : i < V.length := by omega
  refine ev_succ ?_
  rw [List.drop_eq_getElem_cons hlt]
  simp only [impl_StateOf.l0, if_pos (show (i : Int) < (V.length : Int) by omega), if_pos (show (0 : Int) ≤ (i : Int) by omega), rd_num V i hlt, wn i hlt (show V.length ≤ 140737488355328 by omega)]
  generalize hx : V[i] = v
  rcases impl_boxThere_at l v with ⟨h1, h2, h3⟩ | ⟨h1, t, h2, h3⟩
  ·simp only [h2, Option.bind_some, tup, h3, if_true, if_pos (show acc.length < 1954687338268 by omega)]
   rw [List.filter_cons_of_pos h1, List.map_cons, ← List.singleton_append, ← List.append_assoc]
   refine Ev.bind (impl_boxState_ev h hl (tellI l v).1) ?_
   exact ih (i + 1) (acc ++ [boxI l (tellI l v).1]) (by omega) (by omega) (by simp; omega)
  ·simp only [h2, Option.bind_some, h3, Bool.false_eq_true, if_false]
   rw [List.filter_cons_of_neg (by rw [h1]; simp)]
   exact ih (i + 1) acc (by omega) (by omega) (by omega)
theorem impl_StateOf_ev (l : List S32) (hs : ∀ x, x ∈ l → SzJ x) : Ev (fun k => impl_StateOf.f k l) (if itemsOkM l = true then stI l else []) := by
 unfold impl_StateOf.f
 refine Ev.bind (impl_ItemsOk_ev l hs) ?_
 refine ev_if (fun hok => ?_) (fun hok => ?_)
 ·obtain ⟨h, hl⟩ := (itemsOkM_iff l).1 hok
  have e : impl_numbers_valid.f l = some (sortC ((l.filter (fun x => x.f1.f0 == 1)).map (fun x => x.f1.f1))) := by unfold impl_numbers_valid.f; rw [if_pos (by omega)]; rfl
  have hV : (sortC ((l.filter (fun x => x.f1.f0 == 1)).map (fun x => x.f1.f1))).length ≤ l.length := by
   refine Nat.le_trans (sortC_len _) ?_
   rw [List.length_map]
   exact List.length_filter_le _ _
  rw [if_pos hok]
  simp only [e, Option.bind_some]
  have := impl_StateOf_l0 h hl (sortC ((l.filter (fun x => x.f1.f0 == 1)).map (fun x => x.f1.f1))) (by omega) _ 0 [] rfl (by omega) (by simp)
  simpa [stI, validsI] using this
 ·rw [if_neg hok]
  exact ev_some rfl
theorem spec_l07Best_l0 (l : List S32) (hl : l.length ≤ 1048576) (k v u : Int) (d : Nat) : ∀ (i : Nat) (st : S32 × Bool), l.length - i = d → i ≤ l.length →
  Ev (fun q => spec_l07Best.l0 q l k v u st.2 (i : Int) st.1.f0 st.1.f1.f0 st.1.f1.f1 st.1.f1.f2 st.1.f1.f3 st.1.f1.f4 st.1.f1.f5 st.1.f1.f6 st.1.f1.f7) (tup ((l.drop i).foldl (gStep (mlP k v u) seqL) st)) := by
 induction d with
 | zero =>
  intro i st hd hi
  refine ev_succ ?_
  rw [List.drop_eq_nil_of_le (by omega)]
  simp only [spec_l07Best.l0, if_neg (show ¬ (i : Int) < (l.length : Int) by omega)]
  exact ev_some rfl
 | succ d ih =>
  intro i st hd hi
  have hlt : i < l.length := by omega
  refine ev_succ ?_
  rw [List.drop_eq_getElem_cons hlt, List.foldl_cons]
  simp only [spec_l07Best.l0, if_pos (show (i : Int) < (l.length : Int) by omega), if_pos (show (0 : Int) ≤ (i : Int) by omega), rd_item l i hlt, wn i hlt (show l.length ≤ 140737488355328 by omega)]
  generalize hx : l[i] = x
  have hz := ih (i + 1) (gStep (mlP k v u) seqL st x) (by omega) (by omega)
  by_cases c1 : x.f1.f0 = k
  ·by_cases c2 : x.f1.f1 = v
   ·by_cases c3 : x.f1.f2 = u
    ·have hp : mlP k v u x = true := mlP_iff.2 ⟨c1, c2, c3⟩
     simp only [if_pos c1, if_pos c2, if_pos c3]
     by_cases c4 : st.2 = true
     ·by_cases c5 : x.f0 > st.1.f0
      ·have e : gStep (mlP k v u) seqL st x = (x, true) := by unfold gStep seqL; rw [hp, c4, decide_eq_true (show st.1.f0 < x.f0 by omega)]; rfl
       rw [e] at hz ⊢
       simp only [if_pos c4, if_pos c5]
       exact hz
      ·have e : gStep (mlP k v u) seqL st x = st := by unfold gStep seqL; rw [hp, c4, decide_eq_false (show ¬ st.1.f0 < x.f0 by omega)]; rfl
       rw [e] at hz ⊢
       simp only [if_pos c4, if_neg c5]
       exact hz
     ·have c4' : st.2 = false := by simpa using c4
      have e : gStep (mlP k v u) seqL st x = (x, true) := by unfold gStep; rw [hp, c4']; rfl
      rw [e] at hz ⊢
      simp only [if_neg c4]
      exact hz
    ·have e : gStep (mlP k v u) seqL st x = st := by unfold gStep; rw [Bool.eq_false_iff.2 (fun h => c3 (mlP_iff.1 h).2.2)]; rfl
     rw [e] at hz ⊢
     simp only [if_pos c1, if_pos c2, if_neg c3]
     exact hz
   ·have e : gStep (mlP k v u) seqL st x = st := by unfold gStep; rw [Bool.eq_false_iff.2 (fun h => c2 (mlP_iff.1 h).2.1)]; rfl
    rw [e] at hz ⊢
    simp only [if_pos c1, if_neg c2]
    exact hz
  ·have e : gStep (mlP k v u) seqL st x = st := by unfold gStep; rw [Bool.eq_false_iff.2 (fun h => c1 (mlP_iff.1 h).1)]; rfl
   rw [e] at hz ⊢
   simp only [if_neg c1]
   exact hz
theorem spec_l07Best_ev (l : List S32) (hl : l.length ≤ 1048576) (k v u : Int) : Ev (fun q => spec_l07Best.f q l k v u) (tup (best l k v u)) := spec_l07Best_l0 l hl k v u _ 0 (z32, false) rfl (by omega)
theorem spec_l07Sorted_l1 (l : List Int) (hl : l.length ≤ 1048576) (x : Int) (d : Nat) : ∀ (i : Nat) (acc : List Int), l.length - i = d → i ≤ l.length → acc.length ≤ 1048577 + i →
  Ev (fun q => spec_l07Sorted.l1 q l x acc (i : Int)) (acc ++ (l.drop i).filter (fun y => decide (x < y))) := by
 induction d with
 | zero =>
  intro i acc hd hi ha
  refine ev_succ ?_
  rw [List.drop_eq_nil_of_le (by omega)]
  simp only [spec_l07Sorted.l1, if_neg (show ¬ (i : Int) < (l.length : Int) by omega)]
  exact ev_some (by simp)
 | succ d ih =>
  intro i acc hd hi ha
  have hlt : i < l.length := by omega
  refine ev_succ ?_
  rw [List.drop_eq_getElem_cons hlt]
  simp only [spec_l07Sorted.l1, if_pos (show (i : Int) < (l.length : Int) by omega), if_pos (show (0 : Int) ≤ (i : Int) by omega), rd_num l i hlt, wn i hlt (show l.length ≤ 140737488355328 by omega), if_pos (show acc.length < 17592186044416 by omega)]
  by_cases c : l[i] > x
  ·rw [List.filter_cons_of_pos (p := fun y => decide (x < y)) (a := l[i]) (decide_eq_true c), List.append_cons acc l[i] ((l.drop (i + 1)).filter (fun y => decide (x < y)))]
   simp only [if_pos c]
   exact ih (i + 1) (acc ++ [l[i]]) (by omega) (by omega) (by simp; omega)
  ·rw [List.filter_cons_of_neg (p := fun y => decide (x < y)) (a := l[i]) (fun h => c (of_decide_eq_true h))]
   simp only [if_neg c]
   exact ih (i + 1) _ (by omega) (by omega) (by omega)
theorem spec_l07Sorted_l0 (l : List Int) (hl : l.length ≤ 1048576) (x : Int) (d : Nat) : ∀ (i : Nat) (acc : List Int), l.length - i = d → i ≤ l.length → acc.length ≤ i →
  Ev (fun q => spec_l07Sorted.l0 q l x acc (i : Int)) (acc ++ (l.drop i).filter (fun y => decide (y < x)) ++ x :: l.filter (fun y => decide (x < y))) := by
 induction d with
 | zero =>
  intro i acc hd hi ha
  refine ev_succ ?_
  rw [List.drop_eq_nil_of_le (by omega)]
  simp only [spec_l07Sorted.l0, if_neg (show ¬ (i : Int) < (l.length : Int) by omega), if_pos (show acc.length < 17592186044416 by omega)]
  have := spec_l07Sorted_l1 l hl x _ 0 (acc ++ [x]) rfl (by omega) (by simp; omega)
  simpa using this
 | succ d ih =>
  intro i acc hd hi ha
  have hlt : i < l.length := by omega
  refine ev_succ ?_
  rw [List.drop_eq_getElem_cons hlt]
  simp only [spec_l07Sorted.l0, if_pos (show (i : Int) < (l.length : Int) by omega), if_pos (show (0 : Int) ≤ (i : Int) by omega), rd_num l i hlt, wn i hlt (show l.length ≤ 140737488355328 by omega), if_pos (show acc.length < 17592186044416 by omega)]
  by_cases c : l[i] < x
  ·rw [List.filter_cons_of_pos (p := fun y => decide (y < x)) (a := l[i]) (decide_eq_true c)]
   simp only [if_pos c]
   have := ih (i + 1) (acc ++ [l[i]]) (by omega) (by omega) (by simp; omega)
   simpa using this
  ·rw [List.filter_cons_of_neg (p := fun y => decide (y < x)) (a := l[i]) (fun h => c (of_decide_eq_true h))]
   simp only [if_neg c]
   exact ih (i + 1) _ (by omega) (by omega) (by omega)
theorem spec_l07Sorted_ev (l : List Int) (hl : l.length ≤ 1048576) (x : Int) : Ev (fun q => spec_l07Sorted.f q l x) (ins l x) := by
 have := spec_l07Sorted_l0 l hl x _ 0 [] rfl (by omega) (by simp)
 unfold spec_l07Sorted.f ins
 simpa using this
theorem spec_l07Tell_l0 (l : List S32) (hl : l.length ≤ 1048576) (v : Int) (d : Nat) : ∀ (i : Nat) (st : S32), l.length - i = d → i ≤ l.length →
  Ev (fun q => spec_l07Tell.l0 q l v (i : Int) st.f0 st.f1.f0 st.f1.f1 st.f1.f2 st.f1.f3 st.f1.f4 st.f1.f5 st.f1.f6 st.f1.f7) (((l.drop i).foldl (tellStep v) st).f0, ((l.drop i).foldl (tellStep v) st).f1.f0, ((l.drop i).foldl (tellStep v) st).f1.f1, ((l.drop i).foldl (tellStep v) st).f1.f2, ((l.drop i).foldl (tellStep v) st).f1.f3, ((l.drop i).foldl (tellStep v) st).f1.f4, ((l.drop i).foldl (tellStep v) st).f1.f5, ((l.drop i).foldl (tellStep v) st).f1.f6, ((l.drop i).foldl (tellStep v) st).f1.f7) := by
 induction d with
 | zero =>
  intro i st hd hi
  refine ev_succ ?_
  rw [List.drop_eq_nil_of_le (by omega)]
  simp only [spec_l07Tell.l0, if_neg (show ¬ (i : Int) < (l.length : Int) by omega)]
  exact ev_some rfl
 | succ d ih =>
  intro i st hd hi
  have hlt : i < l.length := by omega
  refine ev_succ ?_
  rw [List.drop_eq_getElem_cons hlt, List.foldl_cons]
  simp only [spec_l07Tell.l0, if_pos (show (i : Int) < (l.length : Int) by omega), if_pos (show (0 : Int) ≤ (i : Int) by omega), rd_item l i hlt]
  generalize hx : l[i] = x
  have hz := ih (i + 1) (tellStep v st x) (by omega) (by omega)
  by_cases c1 : x.f1.f0 = 1
  ·simp only [if_pos c1]
   refine ev_succ ?_
   by_cases c2 : x.f1.f1 = v
   ·have hb : (x.f1.f1 != v) = false := by simp [c2]
    have hp : kdP 1 v x = true := kdP_iff.2 ⟨c1, c2⟩
    simp only [spec_l07Tell.j1, hb, Bool.false_eq_true, if_false, wn i hlt (show l.length ≤ 140737488355328 by omega)]
    by_cases c3 : st.f0 = 0
    ·have e : tellStep v st x = x := by unfold tellStep; rw [hp, c3]; rfl
     rw [e] at hz ⊢
     simp only [if_pos c3]
     exact hz
    ·have c3' : (st.f0 == 0) = false := by simpa using c3
     simp only [if_neg c3]
     by_cases c4 : x.f1.f3 > st.f1.f3
     ·have e : tellStep v st x = x := by
       unfold tellStep nextL
       rw [hp, c3', if_pos (show st.f1.f3 ≠ x.f1.f3 by omega), decide_eq_true (show st.f1.f3 < x.f1.f3 by omega)]
       rfl
      rw [e] at hz ⊢
      simp only [if_pos c4]
      exact hz
     ·simp only [if_neg c4]
      by_cases c5 : x.f1.f3 = st.f1.f3
      ·simp only [if_pos c5]
       by_cases c6 : x.f0 > st.f0
       ·have e : tellStep v st x = x := by
         unfold tellStep nextL
         rw [hp, c3', if_neg (show ¬ st.f1.f3 ≠ x.f1.f3 by omega), decide_eq_true (show st.f0 < x.f0 by omega)]
         rfl
        rw [e] at hz ⊢
        simp only [if_pos c6]
        exact hz
       ·have e : tellStep v st x = st := by
         unfold tellStep nextL
         rw [hp, c3', if_neg (show ¬ st.f1.f3 ≠ x.f1.f3 by omega), decide_eq_false (show ¬ st.f0 < x.f0 by omega)]
         rfl
        rw [e] at hz ⊢
        simp only [if_neg c6]
        exact hz
      ·have e : tellStep v st x = st := by
        unfold tellStep nextL
        rw [hp, c3', if_pos (show st.f1.f3 ≠ x.f1.f3 by omega), decide_eq_false (show ¬ st.f1.f3 < x.f1.f3 by omega)]
        rfl
       rw [e] at hz ⊢
       simp only [if_neg c5]
       exact hz
   ·have hb : (x.f1.f1 != v) = true := by simp [c2]
    have e : tellStep v st x = st := by unfold tellStep; rw [Bool.eq_false_iff.2 (fun h => c2 (kdP_iff.1 h).2)]; rfl
    simp only [spec_l07Tell.j1, hb, if_true, wn i hlt (show l.length ≤ 140737488355328 by omega)]
    rw [e] at hz ⊢
    exact hz
  ·have e : tellStep v st x = st := by unfold tellStep; rw [Bool.eq_false_iff.2 (fun h => c1 (kdP_iff.1 h).1)]; rfl
   simp only [if_neg c1]
   refine ev_succ ?_
   simp only [spec_l07Tell.j1, if_true, wn i hlt (show l.length ≤ 140737488355328 by omega)]
   rw [e] at hz ⊢
   exact hz
theorem spec_l07Tell_ev (l : List S32) (hl : l.length ≤ 1048576) (v : Int) : Ev (fun q => spec_l07Tell.f q l v) ((tellS l v).f0, (tellS l v).f1.f0, (tellS l v).f1.f1, (tellS l v).f1.f2, (tellS l v).f1.f3, (tellS l v).f1.f4, (tellS l v).f1.f5, (tellS l v).f1.f6, (tellS l v).f1.f7) := spec_l07Tell_l0 l hl v _ 0 z32 rfl (by omega)
theorem spec_l07Next_l0 (l : List S32) (hl : l.length ≤ 1048576) (hu : ∀ x, x ∈ l → 0 ≤ x.f1.f2 ∧ x.f1.f2 ≤ 9999) (v : Int) (d : Nat) : ∀ (i : Nat) (n : Int), l.length - i = d → i ≤ l.length →
  Ev (fun q => spec_l07Next.l0 q l v n (i : Int)) ((l.drop i).foldl (nextStep v) n) := by
 induction d with
 | zero =>
  intro i n hd hi
  refine ev_succ ?_
  rw [List.drop_eq_nil_of_le (by omega)]
  simp only [spec_l07Next.l0, if_neg (show ¬ (i : Int) < (l.length : Int) by omega)]
  exact ev_some rfl
 | succ d ih =>
  intro i n hd hi
  have hlt : i < l.length := by omega
  refine ev_succ ?_
  rw [List.drop_eq_getElem_cons hlt, List.foldl_cons]
  have hux := hu _ (List.getElem_mem hlt)
  simp only [spec_l07Next.l0, if_pos (show (i : Int) < (l.length : Int) by omega), if_pos (show (0 : Int) ≤ (i : Int) by omega), rd_item l i hlt, wn i hlt (show l.length ≤ 140737488355328 by omega)]
  revert hux
  generalize hx : l[i] = x
  intro hux
  have ew := w64 (x := x.f1.f2 + 1) (by omega) (by omega)
  have hz := ih (i + 1) (nextStep v n x) (by omega) (by omega)
  unfold nextStep nextK at hz ⊢
  by_cases c1 : x.f1.f1 = v
  ·simp only [if_pos c1] at hz ⊢
   by_cases c2 : x.f1.f0 = 1
   ·simp only [if_pos c2] at hz ⊢
    by_cases c3 : x.f1.f3 > n
    ·simp only [if_pos c3] at hz ⊢; exact hz
    ·simp only [if_neg c3] at hz ⊢; exact hz
   ·simp only [if_neg c2] at hz ⊢
    by_cases c3 : x.f1.f0 = 3
    ·simp only [if_pos c3, if_pos (show x.f1.f0 = 3 ∨ x.f1.f0 = 5 from Or.inl c3)] at hz ⊢
     refine ev_succ ?_
     have hb : (x.f1.f0 == 3) = true := by simp [c3]
     simp only [spec_l07Next.j1, hb, if_true, ew, wn i hlt (show l.length ≤ 140737488355328 by omega)]
     by_cases c4 : x.f1.f2 + 1 > n
     ·simp only [if_pos c4] at hz ⊢; exact hz
     ·simp only [if_neg c4] at hz ⊢; exact hz
    ·simp only [if_neg c3]
     refine ev_succ ?_
     by_cases c5 : x.f1.f0 = 5
     ·have hb : (x.f1.f0 == 5) = true := by simp [c5]
      simp only [if_pos (show x.f1.f0 = 3 ∨ x.f1.f0 = 5 from Or.inr c5)] at hz ⊢
      simp only [spec_l07Next.j1, hb, if_true, ew, wn i hlt (show l.length ≤ 140737488355328 by omega)]
      by_cases c4 : x.f1.f2 + 1 > n
      ·simp only [if_pos c4] at hz ⊢; exact hz
      ·simp only [if_neg c4] at hz ⊢; exact hz
     ·have hb : (x.f1.f0 == 5) = false := by simp [c5]
      simp only [if_neg (show ¬ (x.f1.f0 = 3 ∨ x.f1.f0 = 5) by omega)] at hz ⊢
      simp only [spec_l07Next.j1, hb, Bool.false_eq_true, if_false, wn i hlt (show l.length ≤ 140737488355328 by omega)]
      by_cases c4 : 0 > n
      ·simp only [if_pos c4] at hz ⊢; exact hz
      ·simp only [if_neg c4] at hz ⊢; exact hz
  ·simp only [if_neg c1] at hz ⊢
   exact hz
theorem spec_l07Next_ev (l : List S32) (hl : l.length ≤ 1048576) (hu : ∀ x, x ∈ l → 0 ≤ x.f1.f2 ∧ x.f1.f2 ≤ 9999) (v : Int) : Ev (fun q => spec_l07Next.f q l v) (nextS l v) := spec_l07Next_l0 l hl hu v _ 0 1 rfl (by omega)
theorem spec_l07Mails_l1 (l : List S32) (hl : l.length ≤ 1048576) (v : Int) (U : List Int) (hU : U.length ≤ 1048576) (d : Nat) : ∀ (i : Nat) (acc : List S68), U.length - i = d → i ≤ U.length → acc.length ≤ i →
  Ev (fun q => spec_l07Mails.l1 q l v U acc (i : Int)) (acc ++ (U.drop i).map (mailI l v)) := by
 induction d with
 | zero =>
  intro i acc hd hi ha
  refine ev_succ ?_
  rw [List.drop_eq_nil_of_le (by omega)]
  simp only [spec_l07Mails.l1, if_neg (show ¬ (i : Int) < (U.length : Int) by omega)]
  exact ev_some (by simp)
 | succ d ih =>
  intro i acc hd hi ha
  have hlt : i < U.length := by omega
  refine ev_succ ?_
  rw [List.drop_eq_getElem_cons hlt, List.map_cons, ← List.singleton_append, ← List.append_assoc]
  simp only [spec_l07Mails.l1, if_pos (show (i : Int) < (U.length : Int) by omega), if_pos (show (0 : Int) ≤ (i : Int) by omega), rd_num U i hlt, wn i hlt (show U.length ≤ 140737488355328 by omega), if_pos (show acc.length < 4398046511104 by omega)]
  generalize hx : U[i] = u
  have hz := ih (i + 1) (acc ++ [mailI l v u]) (by omega) (by omega) (by simp; omega)
  refine Ev.bind (spec_l07Best_ev l hl 3 v u) (Ev.bind (spec_l07Best_ev l hl 4 v u) ?_)
  simp only [tup]
  refine ev_if (fun h4 => ?_) (fun h4 => ?_)
  ·have e : mailI l v u = ⟨u, (best l 4 v u).1.f1.f4, (best l 3 v u).1.f1.f7⟩ := by unfold mailI; rw [if_pos h4]
   rw [← e]
   exact hz
  ·have e : mailI l v u = ⟨u, (best l 3 v u).1.f1.f4, (best l 3 v u).1.f1.f7⟩ := by unfold mailI; rw [if_neg h4]
   rw [← e]
   exact hz
theorem foldl_drop {α β : Type} (f : β → α → β) (l : List α) (i : Nat) (b : β) (h : i < l.length) : (l.drop i).foldl f b = (l.drop (i + 1)).foldl f (f b l[i]) := by rw [List.drop_eq_getElem_cons h, List.foldl_cons]
theorem ins_in {acc : List Int} {x : Int} {L : List Int} (h : ∀ y, y ∈ acc → y ∈ L) (hx : x ∈ L) : ∀ y, y ∈ ins acc x → y ∈ L := by
 intro y hy
 rcases (ins_mem acc x y).1 hy with rfl | hy
 ·exact hx
 ·exact h y hy
theorem spec_l07Mails_l0 (l : List S32) (hl : l.length ≤ 1048576) (v : Int) (d : Nat) : ∀ (i : Nat) (acc : List Int), l.length - i = d → i ≤ l.length → Asc acc → (∀ y, y ∈ acc → y ∈ l.map (fun x => x.f1.f2)) →
  Ev (fun q => spec_l07Mails.l0 q l v acc (i : Int)) (((l.drop i).foldl (uidsStep l v) acc).map (mailI l v)) := by
 induction d with
 | zero =>
  intro i acc hd hi ha hm
  have hlen := asc_len _ _ ha hm
  rw [List.length_map] at hlen
  refine ev_succ ?_
  rw [List.drop_eq_nil_of_le (by omega)]
  simp only [spec_l07Mails.l0, if_neg (show ¬ (i : Int) < (l.length : Int) by omega)]
  have := spec_l07Mails_l1 l hl v acc (by omega) _ 0 [] rfl (by omega) (by simp)
  simpa using this
 | succ d ih =>
  intro i acc hd hi ha hm
  have hlt : i < l.length := by omega
  have hlen := asc_len _ _ ha hm
  rw [List.length_map] at hlen
  refine ev_succ ?_
  rw [foldl_drop _ _ _ _ hlt]
  have hxm : l[i].f1.f2 ∈ l.map (fun x => x.f1.f2) := List.mem_map.2 ⟨_, List.getElem_mem hlt, rfl⟩
  simp only [spec_l07Mails.l0, if_pos (show (i : Int) < (l.length : Int) by omega), if_pos (show (0 : Int) ≤ (i : Int) by omega), rd_item l i hlt, wn i hlt (show l.length ≤ 140737488355328 by omega)]
  revert hxm
  generalize hx : l[i] = x
  intro hxm
  refine Ev.bind (spec_l07Best_ev l hl 5 v x.f1.f2) ?_
  simp only [tup]
  have hkeep : ∀ h : ¬ (kdP 3 v x = true ∧ ¬ (best l 5 v x.f1.f2).2 = true), Ev (fun q => spec_l07Mails.l0 q l v acc ((i + 1 : Nat) : Int)) (((l.drop (i + 1)).foldl (uidsStep l v) (uidsStep l v acc x)).map (mailI l v)) := by
   intro h
   have e : uidsStep l v acc x = acc := by unfold uidsStep; rw [if_neg h]
   rw [e]
   exact ih (i + 1) acc (by omega) (by omega) ha hm
  refine ev_if (fun c1 => ?_) (fun c1 => hkeep fun h => c1 (kdP_iff.1 h.1).1)
  refine ev_if (fun c2 => ?_) (fun c2 => hkeep fun h => c2 (kdP_iff.1 h.1).2)
  refine ev_if (fun c3 => hkeep fun h => h.2 c3) (fun c3 => ?_)
  refine Ev.bind (spec_l07Sorted_ev acc (by omega) x.f1.f2) ?_
  have e : uidsStep l v acc x = ins acc x.f1.f2 := by unfold uidsStep; rw [if_pos ⟨kdP_iff.2 ⟨c1, c2⟩, c3⟩]
  rw [e]
  exact ih (i + 1) _ (by omega) (by omega) (ins_asc _ _ ha) (ins_in hm hxm)
theorem spec_l07Mails_ev (l : List S32) (hl : l.length ≤ 1048576) (v : Int) : Ev (fun q => spec_l07Mails.f q l v) ((uidsS l v).map (mailI l v)) := spec_l07Mails_l0 l hl v _ 0 [] rfl (by omega) List.Pairwise.nil (fun y h => by simp at h)
theorem spec_StateOf_l1 (l : List S32) (hl : l.length ≤ 1048576) (hu : ∀ x, x ∈ l → 0 ≤ x.f1.f2 ∧ x.f1.f2 ≤ 9999) (V : List Int) (hV : V.length ≤ 1048576) (d : Nat) : ∀ (i : Nat) (acc : List S66), V.length - i = d → i ≤ V.length → acc.length ≤ i →
  Ev (fun q => spec_StateOf.l1 q l V (i : Int) acc) (acc ++ (V.drop i).map (boxS l)) := by
 induction d with
 | zero =>
  intro i acc hd hi ha
  refine ev_succ ?_
  rw [List.drop_eq_nil_of_le (by omega)]
  simp only [spec_StateOf.l1, if_neg (show ¬ (i : Int) < (V.length : Int) by omega)]
  exact ev_some (by simp)
 | succ d ih =>
  intro i acc hd hi ha
  have hlt : i < V.length := by omega
  refine ev_succ ?_
  rw [List.drop_eq_getElem_cons hlt, List.map_cons, ← List.singleton_append, ← List.append_assoc]
  simp only [spec_StateOf.l1, if_pos (show (i : Int) < (V.length : Int) by omega), if_pos (show (0 : Int) ≤ (i : Int) by omega), rd_num V i hlt, wn i hlt (show V.length ≤ 140737488355328 by omega), if_pos (show acc.length < 1954687338268 by omega)]
  generalize hx : V[i] = v
  exact Ev.bind (spec_l07Tell_ev l hl v) (Ev.bind (spec_l07Next_ev l hl hu v) (Ev.bind (spec_l07Mails_ev l hl v) (ih (i + 1) (acc ++ [boxS l v]) (by omega) (by omega) (by simp; omega))))
theorem spec_StateOf_l0 (l : List S32) (hl : l.length ≤ 1048576) (hu : ∀ x, x ∈ l → 0 ≤ x.f1.f2 ∧ x.f1.f2 ≤ 9999) (d : Nat) : ∀ (i : Nat) (acc : List Int), l.length - i = d → i ≤ l.length → Asc acc → (∀ y, y ∈ acc → y ∈ l.map (fun x => x.f1.f1)) →
  Ev (fun q => spec_StateOf.l0 q l acc (i : Int)) (((l.drop i).foldl (validsStep l) acc).map (boxS l)) := by
 induction d with
 | zero =>
  intro i acc hd hi ha hm
  have hlen := asc_len _ _ ha hm
  rw [List.length_map] at hlen
  refine ev_succ ?_
  rw [List.drop_eq_nil_of_le (by omega)]
  simp only [spec_StateOf.l0, if_neg (show ¬ (i : Int) < (l.length : Int) by omega)]
  have := spec_StateOf_l1 l hl hu acc (by omega) _ 0 [] rfl (by omega) (by simp)
  simpa using this
 | succ d ih =>
  intro i acc hd hi ha hm
  have hlt : i < l.length := by omega
  have hlen := asc_len _ _ ha hm
  rw [List.length_map] at hlen
  refine ev_succ ?_
  rw [foldl_drop _ _ _ _ hlt]
  have hxm : l[i].f1.f1 ∈ l.map (fun x => x.f1.f1) := List.mem_map.2 ⟨_, List.getElem_mem hlt, rfl⟩
  simp only [spec_StateOf.l0, if_pos (show (i : Int) < (l.length : Int) by omega), if_pos (show (0 : Int) ≤ (i : Int) by omega), rd_item l i hlt, wn i hlt (show l.length ≤ 140737488355328 by omega)]
  revert hxm
  generalize hx : l[i] = x
  intro hxm
  refine Ev.bind (spec_l07Best_ev l hl 2 x.f1.f1 0) ?_
  simp only [tup]
  have hkeep : ∀ h : ¬ (x.f1.f0 = 1 ∧ ¬ (best l 2 x.f1.f1 0).2 = true), Ev (fun q => spec_StateOf.l0 q l acc ((i + 1 : Nat) : Int)) (((l.drop (i + 1)).foldl (validsStep l) (validsStep l acc x)).map (boxS l)) := by
   intro h
   have e : validsStep l acc x = acc := by unfold validsStep; rw [if_neg h]
   rw [e]
   exact ih (i + 1) acc (by omega) (by omega) ha hm
  refine ev_if (fun c1 => ?_) (fun c1 => hkeep fun h => c1 h.1)
  refine ev_if (fun c3 => hkeep fun h => h.2 c3) (fun c3 => ?_)
  refine Ev.bind (spec_l07Sorted_ev acc (by omega) x.f1.f1) ?_
  have e : validsStep l acc x = ins acc x.f1.f1 := by unfold validsStep; rw [if_pos ⟨c1, c3⟩]
  rw [e]
  exact ih (i + 1) _ (by omega) (by omega) (ins_asc _ _ ha) (ins_in hm hxm)
theorem spec_StateOf_ev (l : List S32) (hl : l.length ≤ 1048576) (hs : ∀ x, x ∈ l → SzJ x) : Ev (fun q => spec_StateOf.f q l) (if itemsOkM l = true then stS l else []) := by
 unfold spec_StateOf.f
 refine Ev.bind (spec_ItemsOk_ev l hl hs) ?_
 refine ev_if (fun hok => ?_) (fun hok => ?_)
 ·obtain ⟨h, _⟩ := (itemsOkM_iff l).1 hok
  rw [if_pos hok]
  exact spec_StateOf_l0 l hl (okL_uid h) _ 0 [] rfl (by omega) List.Pairwise.nil (fun y h => by simp at h)
 ·rw [if_neg hok]
  exact ev_some rfl

/-! stateprops -/
theorem uidsS_len (l : List S32) (v : Int) : (uidsS l v).length ≤ l.length := by
 obtain ⟨h1, h2⟩ := uidsS_is l v
 have := asc_len _ (l.map (fun x => x.f1.f2)) h1 (fun u hu => by
  obtain ⟨x, hx, _, e⟩ := (h2 u).1 hu
  exact List.mem_map.2 ⟨x, hx, e⟩)
 rwa [List.length_map] at this
theorem validsS_len (l : List S32) : (validsS l).length ≤ l.length := by
 obtain ⟨h1, h2⟩ := validsS_is l
 have := asc_len _ (l.map (fun x => x.f1.f1)) h1 (fun u hu => by
  obtain ⟨x, hx, _, e⟩ := (h2 u).1 hu
  exact List.mem_map.2 ⟨x, hx, e⟩)
 rwa [List.length_map] at this
theorem rd_box2 (l : List S66) (i : Nat) (h : i < l.length) : rd_T66 l (i : Int) = l[i] := by
 unfold rd_T66
 rw [Int.toNat_natCast, List.getD_eq_getElem?_getD, List.getElem?_eq_getElem h]
 rfl
def TinyS (s : List S66) : Prop := s.length ≤ 1048576 ∧ ∀ x, x ∈ s → x.f4.length ≤ 1048576
theorem stS_tiny (l : List S32) (hl : l.length ≤ 1048576) : TinyS (stS l) := by
 refine ⟨?_, fun x hx => ?_⟩
 ·unfold stS
  rw [List.length_map]
  have := validsS_len l
  omega
 ·unfold stS at hx
  obtain ⟨v, _, rfl⟩ := List.mem_map.1 hx
  unfold boxS
  simp only [List.length_map]
  have := uidsS_len l v
  omega
theorem impl_ValidAfter_l0 (l : List S32) (hl : l.length ≤ 1048576) (hv : ∀ x, x ∈ l → -1000000000 ≤ x.f1.f1 ∧ x.f1.f1 ≤ 1000000000) (d : Nat) : ∀ (i : Nat) (n : Int), l.length - i = d → i ≤ l.length → 0 ≤ n → n ≤ 1000000000 → Ev (fun k => impl_ValidAfter.l0 k n l (l.length : Int) (i : Int)) (mxL n ((l.drop i).map (fun x => x.f1.f1)) + 1) := by
 induction d with
 | zero =>
  intro i n hd hi h0 h1
  refine ev_succ ?_
  rw [List.drop_eq_nil_of_le (by omega)]
  simp only [impl_ValidAfter.l0, if_neg (show ¬ (i : Int) < (l.length : Int) by omega), w64 (x := n + 1) (by omega) (by omega)]
  exact ev_some rfl
 | succ d ih =>
  intro i n hd hi h0 h1
  have hlt : i < l.length := by omega
  refine ev_succ ?_
  rw [List.drop_eq_getElem_cons hlt]
  have hz := hv _ (List.getElem_mem hlt)
  have hm := mx_le n l[i].f1.f1
  simp only [impl_ValidAfter.l0, if_pos (show (i : Int) < (l.length : Int) by omega), if_pos (show (0 : Int) ≤ (i : Int) by omega), rd_item l i hlt, wn i hlt (show l.length ≤ 140737488355328 by omega)]
  exact ih (i + 1) (mx n l[i].f1.f1) (by omega) (by omega) (by omega) (by omega)
theorem impl_ValidAfter_ev (l : List S32) (hl : l.length ≤ 1048576) (hv : ∀ x, x ∈ l → -1000000000 ≤ x.f1.f1 ∧ x.f1.f1 ≤ 1000000000) : Ev (fun k => impl_ValidAfter.f k l) (mxL 0 (l.map (fun x => x.f1.f1)) + 1) := impl_ValidAfter_l0 l hl hv _ 0 0 rfl (by omega) (by omega) (by omega)

/-! drawtold -/
theorem rd_bound {L : List Int} (hL : (L.all fun x => decide (-1000000000 ≤ x ∧ x ≤ 1000000000)) = true) (i : Int) : -1000000000 ≤ rd L i ∧ rd L i ≤ 1000000000 := by
 unfold rd
 rw [List.getD_eq_getElem?_getD]
 by_cases h : i.toNat < L.length
 ·rw [List.getElem?_eq_getElem h]
  exact of_decide_eq_true (List.all_eq_true.1 hL _ (List.getElem_mem h))
 ·rw [List.getElem?_eq_none (by omega)]
  exact ⟨by decide, by decide⟩
theorem l06Any_val (l : List Int) (hl : l.length ≤ 1048576) (p s : Int) (hp : Inside l p) : ∃ a0 a1 a2 a3 a4 x5 x6 x7 p' s', Ev (fun k => spec_l06Any.f k l p s) (a0, a1, a2, a3, a4, x5, x6, x7, p', s') ∧ ((x5.size ≤ 1000 ∧ x6.size ≤ 1000) ∧ -1000000000 ≤ a1 ∧ a1 ≤ 1000000000) ∧ Inside l p' := by
 unfold spec_l06Any.f
 obtain ⟨k, p1, s1, e1, _, hp1⟩ := l01Below_some l hl p s 14 hp
 obtain ⟨x, p2, s2, e2, hx, hp2⟩ := l01Below_some l hl p1 s1 60 hp1
 obtain ⟨a0, a1, a2, a3, a4, x5, x6, x7, p3, s3, e3, hok, hp3⟩ := l06Rec_ok l hl p2 s2 hp2
 have hb := recOkM_bounds hok
 have hz : (x5.size ≤ 1000 ∧ x6.size ≤ 1000) ∧ -1000000000 ≤ a1 ∧ a1 ≤ 1000000000 := by omega
 clear hb hok
 simp only [e1, e2, e3, Option.bind_some]
 have m3 := Int.tmod_nonneg 3 hx.1
 have m3' := Int.tmod_lt_of_pos x (show (0 : Int) < 3 by decide)
 have m4 := Int.tmod_nonneg 4 hx.1
 have m4' := Int.tmod_lt_of_pos x (show (0 : Int) < 4 by decide)
 by_cases k0 : k = 0
 ·simp only [if_pos k0]; exact ⟨_, _, _, _, _, _, _, _, _, _, ev_some rfl, hz, hp3⟩
 by_cases k1 : k = 1
 ·simp only [if_neg k0, if_pos k1, if_pos m3, if_pos (show Int.tmod x 3 < (([0, 9999, 10000] : List Int).length : Int) from m3')]; exact ⟨_, _, _, _, _, _, _, _, _, _, ev_some rfl, ⟨hz.1, rd_bound (by decide) _⟩, hp3⟩
 by_cases k2 : k = 2
 ·simp only [if_neg k0, if_neg k1, if_pos k2, if_pos m4, if_pos (show Int.tmod x 4 < (([0, 9999, 10000, (-1)] : List Int).length : Int) from m4')]; exact ⟨_, _, _, _, _, _, _, _, _, _, ev_some rfl, hz, hp3⟩
 by_cases k3 : k = 3
 ·simp only [if_neg k0, if_neg k1, if_neg k2, if_pos k3]; exact ⟨_, _, _, _, _, _, _, _, _, _, ev_some rfl, hz, hp3⟩
 by_cases k4 : k = 4
 ·simp only [if_neg k0, if_neg k1, if_neg k2, if_neg k3, if_pos k4, if_pos m3, if_pos (show Int.tmod x 3 < (([(⟨#[]⟩ : ByteArray), (⟨#[65]⟩ : ByteArray), (⟨#[110, 105, 110, 101, 98, 121, 116, 101, 115]⟩ : ByteArray)] : List ByteArray).length : Int) from m3')]
  exact ⟨_, _, _, _, _, _, _, _, _, _, ev_some rfl, ⟨⟨rdOf_size (by decide) _, hz.1.2⟩, hz.2⟩, hp3⟩
 by_cases k5 : k = 5
 ·have m2 := Int.tmod_nonneg 2 hx.1
  have m2' := Int.tmod_lt_of_pos x (show (0 : Int) < 2 by decide)
  have ew := w64 (x := 100 + Int.tmod x 2) (by omega) (by omega)
  obtain ⟨t, ht, hts⟩ := l01Long_some (100 + Int.tmod x 2) 97 (by omega)
  simp only [if_neg k0, if_neg k1, if_neg k2, if_neg k3, if_neg k4, if_pos k5, ew]
  clear ew
  exact ⟨_, _, _, _, _, _, _, t, _, _, Ev.bind ht (ev_some rfl), hz, hp3⟩
 by_cases k6 : k = 6
 ·simp only [if_neg k0, if_neg k1, if_neg k2, if_neg k3, if_neg k4, if_neg k5, if_pos k6]; exact ⟨_, _, _, _, _, _, _, _, _, _, ev_some rfl, hz, hp3⟩
 ·simp only [if_neg k0, if_neg k1, if_neg k2, if_neg k3, if_neg k4, if_neg k5, if_neg k6]; exact ⟨_, _, _, _, _, _, _, _, _, _, ev_some rfl, hz, hp3⟩
def AnyL (l : List S32) : Prop := ∀ x, x ∈ l → SzJ x ∧ -1000000000 ≤ x.f1.f1 ∧ x.f1.f1 ≤ 1000000000
theorem okL_any {l : List S32} (h : OkL l) : AnyL l := fun x hx => by
 have hb := recOkM_bounds (h.1 x hx).2
 exact ⟨okL_sz h x hx, by omega, by omega⟩
theorem any_snoc {l : List S32} (h : AnyL l) (x : S32) (h1 : x.f1.f5.size ≤ 1000 ∧ x.f1.f6.size ≤ 1000) (h2 : -1000000000 ≤ x.f1.f1 ∧ x.f1.f1 ≤ 1000000000) : AnyL (l ++ [x]) := by
 intro y hy
 rcases List.mem_append.1 hy with hy | hy
 ·exact h y hy
 ·rw [List.mem_singleton.1 hy]
  unfold SzJ
  omega
theorem l07Any_l0 (x : Int) (hx : 0 ≤ x ∧ x < 60) (c : List Int) (p s : Int) (d : Nat) : ∀ acc : List S32, 300 - acc.length = d → acc.length ≤ 250 → AnyL acc →
  ∃ r : List S32, Ev (fun k => spec_l07Any.l0 k x acc c p s) (r, p, s) ∧ AnyL r ∧ r.length ≤ 250 := by
 have m3 := Int.tmod_nonneg 3 hx.1
 have m3' := Int.tmod_lt_of_pos x (show (0 : Int) < 3 by decide)
 have ew := w64 (x := 199 + Int.tmod x 3) (by omega) (by omega)
 induction d with
 | zero => intro acc hd ha h; omega
 | succ d ih =>
  intro acc hd ha h
  by_cases c1 : (acc.length : Int) < 199 + Int.tmod x 3
  ·have ew2 := w64 (x := 100 + (acc.length : Int)) (by omega) (by omega)
   obtain ⟨r, hr, hrr⟩ := ih (acc ++ [⟨100 + (acc.length : Int), ⟨2, 7, 0, 0, 0, (⟨#[]⟩ : ByteArray), (⟨#[]⟩ : ByteArray), (⟨#[]⟩ : ByteArray)⟩⟩]) (by simp; omega) (by simp; omega) (any_snoc h _ ⟨by show (⟨#[]⟩ : ByteArray).size ≤ 1000; decide, by show (⟨#[]⟩ : ByteArray).size ≤ 1000; decide⟩ ⟨by show (-1000000000 : Int) ≤ 7; decide, by show (7 : Int) ≤ 1000000000; decide⟩)
   refine ⟨r, ev_succ ?_, hrr⟩
   simp only [spec_l07Any.l0, ew, ew2, if_pos c1, if_pos (show acc.length < 1466015503701 by omega)]
   exact hr
  ·refine ⟨acc, ev_succ ?_, h, ha⟩
   simp only [spec_l07Any.l0, ew, if_neg c1]
   exact ev_some rfl
theorem l07Any_some (l : List Int) (hl : l.length ≤ 1048576) (p s : Int) (hp : Inside l p) : ∃ (r : List S32) (p' s' : Int), Ev (fun k => spec_l07Any.f k l p s) (r, p', s') ∧ AnyL r ∧ r.length ≤ 250 := by
 unfold spec_l07Any.f
 obtain ⟨k, p1, s1, e1, _, hp1⟩ := l01Below_some l hl p s 14 hp
 obtain ⟨x, p2, s2, e2, hx, hp2⟩ := l01Below_some l hl p1 s1 60 hp1
 obtain ⟨L, p3, s3, hL, ⟨hok, hlen⟩, hp3⟩ := l07Items_ok l hl p2 s2 hp2
 have hx2 : 0 ≤ x ∧ x < 60 := ⟨hx.1, hx.2 (by omega)⟩
 have hA := okL_any hok
 obtain ⟨a0, a1, a2, a3, a4, x5, x6, x7, p4, s4, e4, hrok, hp4⟩ := l06Rec_ok l hl p3 s3 hp3
 have hb := recOkM_bounds hrok
 obtain ⟨b0, b1, b2, b3, b4, y5, y6, y7, p5, s5, e5, hy, hp5⟩ := l06Any_val l hl p3 s3 hp3
 obtain ⟨R, hR, hRA, hRl⟩ := l07Any_l0 x hx2 l p3 s3 _ L rfl (by omega) hA
 simp only [e1, e2, Option.bind_some, List.length_nil, Nat.zero_add, List.nil_append]
 by_cases k0 : k = 0
 ·refine ⟨_, p4, s4, Ev.bind hL ?_, any_snoc hA ⟨2, ⟨a0, a1, a2, a3, a4, x5, x6, x7⟩⟩ ⟨by show x5.size ≤ 1000; omega, by show x6.size ≤ 1000; omega⟩ ⟨by show -1000000000 ≤ a1; omega, by show a1 ≤ 1000000000; omega⟩, by simp; omega⟩
  simp only [if_pos (show L.length < 1466015503701 by omega), if_pos k0, e4, Option.bind_some]
  exact ev_some rfl
 by_cases k1 : k = 1
 ·refine ⟨_, p5, s5, Ev.bind hL ?_, any_snoc hA ⟨99, ⟨b0, b1, b2, b3, b4, y5, y6, y7⟩⟩ hy.1 hy.2, by simp; omega⟩
  simp only [if_pos (show L.length < 1466015503701 by omega), if_neg k0, if_pos k1]
  exact Ev.bind e5 (ev_some rfl)
 by_cases k2 : k = 2
 ·refine ⟨_, p4, s4, Ev.bind hL ?_, any_snoc hA ⟨0, ⟨a0, a1, a2, a3, a4, x5, x6, x7⟩⟩ ⟨by show x5.size ≤ 1000; omega, by show x6.size ≤ 1000; omega⟩ ⟨by show -1000000000 ≤ a1; omega, by show a1 ≤ 1000000000; omega⟩, by simp; omega⟩
  simp only [if_pos (show L.length < 1466015503701 by omega), if_neg k0, if_neg k1, if_pos k2, e4, Option.bind_some]
  exact ev_some rfl
 by_cases k3 : k = 3
 ·refine ⟨R, p3, s3, Ev.bind hL ?_, hRA, hRl⟩
  simp only [if_pos (show L.length < 1466015503701 by omega), if_neg k0, if_neg k1, if_neg k2, if_pos k3]
  exact hR
 ·refine ⟨L, p3, s3, Ev.bind hL ?_, hA, by omega⟩
  simp only [if_pos (show L.length < 1466015503701 by omega), if_neg k0, if_neg k1, if_neg k2, if_neg k3]
  exact ev_some rfl
theorem spec_DrawStateOf_some (l : List Int) (hl : l.length ≤ 1048576) : ∃ r : List S32, Ev (fun k => spec_DrawStateOf.f k l) r ∧ AnyL r ∧ r.length ≤ 250 := by
 unfold spec_DrawStateOf.f
 obtain ⟨s, hs⟩ := l01New_some l hl
 obtain ⟨r, p', s', h, hr⟩ := l07Any_some l hl 0 s (inside0 l)
 exact ⟨r, Ev.bind hs (Ev.bind h (ev_some rfl)), hr⟩
def TinyW (s : List S66) : Prop := TinyS s ∧ ∀ x, x ∈ s → x.f1.size ≤ 1000 ∧ x.f2.size ≤ 1000
theorem stS_tinyW {L : List S32} (hok : OkL L) (hl : L.length ≤ 1000) : TinyW (stS L) ∧ ∀ x, x ∈ stS L → x.f4.length ≤ 1000 := by
 refine ⟨⟨stS_tiny L (by omega), fun x hx => ?_⟩, fun x hx => ?_⟩
 ·unfold stS at hx
  obtain ⟨v, _, rfl⟩ := List.mem_map.1 hx
  unfold boxS
  simp only [tellS_eq hok]
  rcases tellI_is hok v with ⟨e, _⟩ | ⟨_, h2, _, _⟩
  ·rw [e]; exact ⟨by decide, by decide⟩
  ·have hb := recOkM_bounds (hok.1 _ h2).2
   omega
 ·unfold stS at hx
  obtain ⟨v, _, rfl⟩ := List.mem_map.1 hx
  unfold boxS
  simp only [List.length_map]
  have := uidsS_len L v
  omega
theorem tinyW_set {s : List S66} (h : TinyW s) (i : Nat) (b : S66) (h1 : b.f1.size ≤ 1000 ∧ b.f2.size ≤ 1000) (h2 : b.f4.length ≤ 1048576) : TinyW (s.set i b) := by
 refine ⟨⟨by rw [List.length_set]; exact h.1.1, fun x hx => ?_⟩, fun x hx => ?_⟩
 ·rcases List.mem_or_eq_of_mem_set hx with hx | rfl
  ·exact h.1.2 x hx
  ·exact h2
 ·rcases List.mem_or_eq_of_mem_set hx with hx | rfl
  ·exact h.2 x hx
  ·exact h1
theorem l07State_some (l : List Int) (hl : l.length ≤ 1048576) (p s : Int) (hp : Inside l p) : ∃ (r : List S66) (p' s' : Int), Ev (fun k => spec_l07State.f k l p s) (r, p', s') ∧ TinyW r := by
 unfold spec_l07State.f
 obtain ⟨k, p1, s1, e1, _, hp1⟩ := l01Below_some l hl p s 8 hp
 obtain ⟨x, p2, s2, e2, hx, hp2⟩ := l01Below_some l hl p1 s1 60 hp1
 obtain ⟨L, p3, s3, hL, ⟨hok, hlen⟩, hp3⟩ := l07Items_ok l hl p2 s2 hp2
 have hokM : itemsOkM L = true := (itemsOkM_iff L).2 ⟨hok, by omega⟩
 have eS := spec_StateOf_ev L (by omega) (okL_sz hok)
 rw [if_pos hokM] at eS
 obtain ⟨hT, hT4⟩ := stS_tinyW hok (by omega)
 simp only [e1, e2, Option.bind_some]
 by_cases c0 : ((stS L).length : Int) > 0
 ·obtain ⟨i, hi⟩ := Int.eq_ofNat_of_zero_le (Int.tmod_nonneg ((stS L).length : Int) hx.1)
  have hi2 : (i : Int) < ((stS L).length : Int) := by rw [← hi]; exact Int.tmod_lt_of_pos x c0
  have hil : i < (stS L).length := by omega
  have m2 := Int.tmod_nonneg 2 hx.1
  have m2' := Int.tmod_lt_of_pos x (show (0 : Int) < 2 by decide)
  have hb := hT.2 _ (List.getElem_mem hil)
  have hb4 := hT4 _ (List.getElem_mem hil)
  have g0 : (0 : Int) ≤ (i : Int) := by omega
  by_cases k0 : k = 0
  ·refine ⟨_, p3, s3, Ev.bind hL (Ev.bind eS ?_), tinyW_set hT i ⟨Int.tmod x 5, (stS L)[i].f1, (stS L)[i].f2, (stS L)[i].f3, (stS L)[i].f4⟩ hb (by show (stS L)[i].f4.length ≤ 1048576; omega)⟩
   simp only [if_pos c0, if_neg (show ¬ ((stS L).length : Int) = 0 by omega), if_pos k0, hi, if_pos g0, if_pos hi2, rd_box2 _ i hil, Int.toNat_natCast]
   exact ev_some rfl
  by_cases k1 : k = 1
  ·refine ⟨_, p3, s3, Ev.bind hL (Ev.bind eS ?_), tinyW_set hT i ⟨(stS L)[i].f0, (stS L)[i].f1, (stS L)[i].f2, Int.tmod x 4, (stS L)[i].f4⟩ hb (by show (stS L)[i].f4.length ≤ 1048576; omega)⟩
   simp only [if_pos c0, if_neg (show ¬ ((stS L).length : Int) = 0 by omega), if_neg k0, if_pos k1, hi, if_pos g0, if_pos hi2, rd_box2 _ i hil, Int.toNat_natCast]
   exact ev_some rfl
  by_cases k2 : k = 2
  ·refine ⟨_, p3, s3, Ev.bind hL (Ev.bind eS ?_), tinyW_set hT i ⟨(stS L)[i].f0, rdOf ByteArray.empty ([(⟨#[]⟩ : ByteArray), (⟨#[97, 110, 110]⟩ : ByteArray)] : List ByteArray) (Int.tmod x 2), (stS L)[i].f2, (stS L)[i].f3, (stS L)[i].f4⟩ ⟨rdOf_size (by decide) _, hb.2⟩ (by show (stS L)[i].f4.length ≤ 1048576; omega)⟩
   simp only [if_pos c0, if_neg (show ¬ ((stS L).length : Int) = 0 by omega), if_neg k0, if_neg k1, if_pos k2, hi, if_pos g0, if_pos hi2, rd_box2 _ i hil, Int.toNat_natCast, Option.bind_some, if_pos m2, if_pos (show Int.tmod x 2 < (([(⟨#[]⟩ : ByteArray), (⟨#[97, 110, 110]⟩ : ByteArray)] : List ByteArray).length : Int) from m2')]
   exact ev_some rfl
  by_cases k3 : k = 3
  ·refine ⟨_, p3, s3, Ev.bind hL (Ev.bind eS ?_), tinyW_set hT i ⟨(stS L)[i].f0, (stS L)[i].f1, (stS L)[i].f2, (stS L)[i].f3, (stS L)[i].f4 ++ [⟨Int.tmod x 7, Int.tmod x 9, (⟨#[]⟩ : ByteArray)⟩]⟩ hb (by show ((stS L)[i].f4 ++ [_]).length ≤ 1048576; simp; omega)⟩
   simp only [if_pos c0, if_neg (show ¬ ((stS L).length : Int) = 0 by omega), if_neg k0, if_neg k1, if_neg k2, if_pos k3, hi, if_pos g0, if_pos hi2, rd_box2 _ i hil, Int.toNat_natCast, if_pos (show (stS L)[i].f4.length < 4398046511104 by omega)]
   exact ev_some rfl
  ·refine ⟨stS L, p3, s3, Ev.bind hL (Ev.bind eS ?_), hT⟩
   simp only [if_pos c0, if_neg (show ¬ ((stS L).length : Int) = 0 by omega), if_neg k0, if_neg k1, if_neg k2, if_neg k3]
   exact ev_some rfl
 ·refine ⟨stS L, p3, s3, Ev.bind hL (Ev.bind eS ?_), hT⟩
  simp only [if_neg c0]
  exact ev_some rfl
theorem spec_DrawSameState_some (l : List Int) (hl : l.length ≤ 1048576) : ∃ a b : List S66, Ev (fun k => spec_DrawSameState.f k l) (a, b) ∧ TinyW a ∧ TinyW b := by
 unfold spec_DrawSameState.f
 obtain ⟨s, hs⟩ := l01New_some l hl
 obtain ⟨L, p1, s1, hL, ⟨hok, hlen⟩, hp1⟩ := l07Items_ok l hl 0 s (inside0 l)
 have hokM : itemsOkM L = true := (itemsOkM_iff L).2 ⟨hok, by omega⟩
 have eS := spec_StateOf_ev L (by omega) (okL_sz hok)
 rw [if_pos hokM] at eS
 have hT := (stS_tinyW hok (by omega)).1
 obtain ⟨b, p2, s2, e2, hp2⟩ := l01Once_some l hl p1 s1 2 hp1
 obtain ⟨r, p3, s3, h3, hr⟩ := l07State_some l hl p2 s2 hp2
 cases b with
 | true =>
  refine ⟨stS L, stS L, Ev.bind hs (Ev.bind hL (Ev.bind eS ?_)), hT, hT⟩
  simp only [e2, Option.bind_some, if_true]
  exact Ev.bind eS (ev_some rfl)
 | false =>
  refine ⟨stS L, r, Ev.bind hs (Ev.bind hL (Ev.bind eS ?_)), hT, hr⟩
  simp only [e2, Option.bind_some, Bool.false_eq_true, if_false]
  exact Ev.bind h3 (ev_some rfl)
theorem spec_DrawStateOk_some (l : List Int) (hl : l.length ≤ 1048576) : ∃ a : List S66, Ev (fun k => spec_DrawStateOk.f k l) a ∧ TinyW a := by
 unfold spec_DrawStateOk.f
 obtain ⟨s, hs⟩ := l01New_some l hl
 obtain ⟨r, p3, s3, h3, hr⟩ := l07State_some l hl 0 s (inside0 l)
 exact ⟨r, Ev.bind hs (Ev.bind h3 (ev_some rfl)), hr⟩

/-! samestate -/
theorem rd_mail (l : List S68) (i : Nat) (h : i < l.length) : rd_T68 l (i : Int) = l[i] := by
 unfold rd_T68
 rw [Int.toNat_natCast, List.getD_eq_getElem?_getD, List.getElem?_eq_getElem h]
 rfl
theorem rd_box (l : List S66) (i : Nat) (h : i < l.length) : rd_T66 l (i : Int) = l[i] := by
 unfold rd_T66
 rw [Int.toNat_natCast, List.getD_eq_getElem?_getD, List.getElem?_eq_getElem h]
 rfl
theorem mail_ne (x y : S68) : (!(x.f0 == y.f0) || (!(x.f1 == y.f1) || (!(x.f2.toList == y.f2.toList)))) = true ↔ ¬ x = y := by
 obtain ⟨x0, x1, x2⟩ := x
 obtain ⟨y0, y1, y2⟩ := y
 simp only [Bool.or_eq_true, Bool.not_eq_true', beq_eq_false_iff_ne, ne_eq, tl_iff, S68.mk.injEq]
 grind
theorem drop_ext {α : Type} {a b : List α} (hl : a.length = b.length) (i : Nat) (h : i < a.length) : a.drop i = b.drop i ↔ a[i] = b[i]'(by omega) ∧ a.drop (i + 1) = b.drop (i + 1) := by
 rw [List.drop_eq_getElem_cons h, List.drop_eq_getElem_cons (show i < b.length by omega), List.cons.injEq]
theorem impl_Mail_l0 (a b : List S68) (hl : a.length = b.length) (hs : a.length ≤ 140737488355328) (d : Nat) : ∀ i : Nat, a.length - i = d → i ≤ a.length → ∃ r, Ev (fun k => impl_Mail.l0 k a b (a.length : Int) (i : Int)) r ∧ (r = true ↔ a.drop i = b.drop i) := by
 induction d with
 | zero =>
  intro i hd hi
  refine ⟨true, ev_succ ?_, by rw [List.drop_eq_nil_of_le (by omega), List.drop_eq_nil_of_le (by omega)]; simp⟩
  simp only [impl_Mail.l0, if_neg (show ¬ (i : Int) < (a.length : Int) by omega)]
  exact ev_some rfl
 | succ d ih =>
  intro i hd hi
  have hlt : i < a.length := by omega
  have hlt2 : i < b.length := by omega
  rw [drop_ext hl i hlt]
  by_cases c : a[i] = b[i]
  ·obtain ⟨r, hr, hrr⟩ := ih (i + 1) (by omega) (by omega)
   refine ⟨r, ev_succ ?_, by rw [hrr]; simp [c]⟩
   simp only [impl_Mail.l0, if_pos (show (i : Int) < (a.length : Int) by omega), if_pos (show (0 : Int) ≤ (i : Int) by omega), if_pos (show (i : Int) < (b.length : Int) by omega), rd_mail a i hlt, rd_mail b i hlt2, if_neg (fun h => (mail_ne _ _).1 h c), wn i hlt hs]
   exact hr
  ·refine ⟨false, ev_succ ?_, by simp [c]⟩
   simp only [impl_Mail.l0, if_pos (show (i : Int) < (a.length : Int) by omega), if_pos (show (0 : Int) ≤ (i : Int) by omega), if_pos (show (i : Int) < (b.length : Int) by omega), rd_mail a i hlt, rd_mail b i hlt2, if_pos ((mail_ne _ _).2 c)]
   exact ev_some rfl
theorem impl_Mail_ev (a b : List S68) (hs : a.length ≤ 140737488355328) : ∃ r, Ev (fun k => impl_Mail.f k a b) r ∧ (r = true ↔ a = b) := by
 unfold impl_Mail.f
 by_cases c : (a.length : Int) = (b.length : Int)
 ·obtain ⟨r, hr, hrr⟩ := impl_Mail_l0 a b (by omega) hs _ 0 rfl (by omega)
  refine ⟨r, ?_, by simpa using hrr⟩
  simp only [if_pos c]
  exact hr
 ·refine ⟨false, ?_, ?_⟩
  ·simp only [if_neg c]; exact ev_some rfl
  ·simp; intro e; rw [e] at c; exact c rfl
theorem impl_sameBox_ev (x y : S66) (hs : x.f4.length ≤ 140737488355328) : ∃ r, Ev (fun k => impl_sameBox.f k x.f0 x.f1 x.f2 x.f3 x.f4 y.f0 y.f1 y.f2 y.f3 y.f4) r ∧ (r = true ↔ x = y) := by
 obtain ⟨x0, x1, x2, x3, x4⟩ := x
 obtain ⟨y0, y1, y2, y3, y4⟩ := y
 obtain ⟨r, hr, hrr⟩ := impl_Mail_ev x4 y4 hs
 unfold impl_sameBox.f
 simp only [S66.mk.injEq]
 by_cases c0 : x0 = y0
 ·by_cases c1 : x1 = y1
  ·by_cases c2 : x2 = y2
   ·by_cases c3 : x3 = y3
    ·subst c0 c1 c2 c3
     refine ⟨r, ?_, by simpa using hrr⟩
     simp only [if_true]
     exact Ev.bind hr (ev_some rfl)
    ·refine ⟨false, ?_, by simp [c3]⟩
     simp only [if_pos c0, if_pos ((tl_iff _ _).2 c1), if_pos ((tl_iff _ _).2 c2), if_neg c3]
     exact ev_some rfl
   ·refine ⟨false, ?_, by simp [c2]⟩
    simp only [if_pos c0, if_pos ((tl_iff _ _).2 c1), if_neg (fun h => c2 ((tl_iff _ _).1 h))]
    exact ev_some rfl
  ·refine ⟨false, ?_, by simp [c1]⟩
   simp only [if_pos c0, if_neg (fun h => c1 ((tl_iff _ _).1 h))]
   exact ev_some rfl
 ·refine ⟨false, ?_, by simp [c0]⟩
  simp only [if_neg c0]
  exact ev_some rfl
def SmallS (a : List S66) : Prop := a.length ≤ 140737488355328 ∧ ∀ x, x ∈ a → x.f4.length ≤ 140737488355328
theorem impl_same_l0 (a b : List S66) (hl : a.length = b.length) (hs : SmallS a) (d : Nat) : ∀ i : Nat, a.length - i = d → i ≤ a.length → ∃ r, Ev (fun k => slices_EqualFunc_sameBox.l0 k b a (a.length : Int) (i : Int)) r ∧ (r = true ↔ a.drop i = b.drop i) := by
 induction d with
 | zero =>
  intro i hd hi
  refine ⟨true, ev_succ ?_, by rw [List.drop_eq_nil_of_le (by omega), List.drop_eq_nil_of_le (by omega)]; simp⟩
  simp only [slices_EqualFunc_sameBox.l0, if_neg (show ¬ (i : Int) < (a.length : Int) by omega)]
  exact ev_some rfl
 | succ d ih =>
  intro i hd hi
  have hlt : i < a.length := by omega
  have hlt2 : i < b.length := by omega
  rw [drop_ext hl i hlt]
  obtain ⟨r1, hr1, hrr1⟩ := impl_sameBox_ev a[i] b[i] (hs.2 _ (List.getElem_mem hlt))
  by_cases c : a[i] = b[i]
  ·obtain ⟨r, hr, hrr⟩ := ih (i + 1) (by omega) (by omega)
   refine ⟨r, ev_succ ?_, by rw [hrr]; simp [c]⟩
   simp only [slices_EqualFunc_sameBox.l0, if_pos (show (i : Int) < (a.length : Int) by omega), if_pos (show (0 : Int) ≤ (i : Int) by omega), if_pos (show (i : Int) < (b.length : Int) by omega), rd_box a i hlt, rd_box b i hlt2, wn i hlt hs.1]
   refine Ev.bind hr1 ?_
   simp only [if_pos (hrr1.2 c)]
   exact hr
  ·refine ⟨false, ev_succ ?_, by simp [c]⟩
   simp only [slices_EqualFunc_sameBox.l0, if_pos (show (i : Int) < (a.length : Int) by omega), if_pos (show (0 : Int) ≤ (i : Int) by omega), if_pos (show (i : Int) < (b.length : Int) by omega), rd_box a i hlt, rd_box b i hlt2]
   refine Ev.bind hr1 ?_
   simp only [if_neg (fun h => c (hrr1.1 h))]
   exact ev_some rfl
theorem impl_SameState_ev (a b : List S66) (hs : SmallS a) : ∃ r, Ev (fun k => impl_SameState.f k a b) r ∧ (r = true ↔ a = b) := by
 unfold impl_SameState.f slices_EqualFunc_sameBox.f
 by_cases c : (a.length : Int) = (b.length : Int)
 ·obtain ⟨r, hr, hrr⟩ := impl_same_l0 a b (by omega) hs _ 0 rfl (by omega)
  refine ⟨r, ?_, by simpa using hrr⟩
  simp only [if_pos c]
  exact Ev.bind hr (ev_some rfl)
 ·refine ⟨false, ?_, ?_⟩
  ·simp only [if_neg c]; exact ev_some rfl
  ·simp; intro e; rw [e] at c; exact c rfl
theorem impl_SameState_same {a b : List S66} (hs : SmallS a) (h : a = b) : Ev (fun k => impl_SameState.f k a b) true := by
 obtain ⟨r, hr, hrr⟩ := impl_SameState_ev a b hs
 rw [hrr.2 h] at hr
 exact hr
theorem spec_Same_l1 (x y : S66) (a b : List S66) (i : Nat) (hi : i < a.length) (hs : a.length ≤ 1048576) (hx : x.f4.length ≤ 1048576) (hl : x.f4.length = y.f4.length) (P : Prop) (v : Bool) (hv : Ev (fun k => spec_SameState.l0 k ((i + 1 : Nat) : Int) a b) v) (hvP : v = true ↔ P) (d : Nat) : ∀ j : Nat, x.f4.length - j = d → j ≤ x.f4.length →
  ∃ r, Ev (fun k => spec_SameState.l1 k (i : Int) (j : Int) a b x.f0 x.f1 x.f2 x.f3 x.f4 y.f0 y.f1 y.f2 y.f3 y.f4) r ∧ (r = true ↔ x.f4.drop j = y.f4.drop j ∧ P) := by
 induction d with
 | zero =>
  intro j hd hj
  refine ⟨v, ev_succ ?_, by rw [List.drop_eq_nil_of_le (by omega), List.drop_eq_nil_of_le (by omega)]; simpa using hvP⟩
  simp only [spec_SameState.l1, if_neg (show ¬ (j : Int) < (x.f4.length : Int) by omega), wn i hi (show a.length ≤ 140737488355328 by omega)]
  exact hv
 | succ d ih =>
  intro j hd hj
  have hlt : j < x.f4.length := by omega
  have hlt2 : j < y.f4.length := by omega
  rw [drop_ext hl j hlt]
  by_cases c : x.f4[j] = y.f4[j]
  ·obtain ⟨r, hr, hrr⟩ := ih (j + 1) (by omega) (by omega)
   refine ⟨r, ev_succ ?_, by rw [hrr]; simp [c]⟩
   simp only [spec_SameState.l1, if_pos (show (j : Int) < (x.f4.length : Int) by omega), if_pos (show (0 : Int) ≤ (j : Int) by omega), if_pos (show (j : Int) < (y.f4.length : Int) by omega), rd_mail x.f4 j hlt, rd_mail y.f4 j hlt2, if_neg (fun h => (mail_ne _ _).1 h c), wn j hlt (show x.f4.length ≤ 140737488355328 by omega)]
   exact hr
  ·refine ⟨false, ev_succ ?_, by simp [c]⟩
   simp only [spec_SameState.l1, if_pos (show (j : Int) < (x.f4.length : Int) by omega), if_pos (show (0 : Int) ≤ (j : Int) by omega), if_pos (show (j : Int) < (y.f4.length : Int) by omega), rd_mail x.f4 j hlt, rd_mail y.f4 j hlt2, if_pos ((mail_ne _ _).2 c)]
   exact ev_some rfl
theorem spec_Same_l0 (a b : List S66) (hl : a.length = b.length) (hs : TinyS a) (d : Nat) : ∀ i : Nat, a.length - i = d → i ≤ a.length → ∃ r, Ev (fun k => spec_SameState.l0 k (i : Int) a b) r ∧ (r = true ↔ a.drop i = b.drop i) := by
 have hs1 := hs.1
 induction d with
 | zero =>
  intro i hd hi
  refine ⟨true, ev_succ ?_, by rw [List.drop_eq_nil_of_le (by omega), List.drop_eq_nil_of_le (by omega)]; simp⟩
  simp only [spec_SameState.l0, if_neg (show ¬ (i : Int) < (a.length : Int) by omega)]
  exact ev_some rfl
 | succ d ih =>
  intro i hd hi
  have hlt : i < a.length := by omega
  have hlt2 : i < b.length := by omega
  rw [drop_ext hl i hlt]
  have hx4 := hs.2 _ (List.getElem_mem hlt)
  obtain ⟨v, hv, hvP⟩ := ih (i + 1) (by omega) (by omega)
  have G : ∀ x y : S66, a[i] = x → b[i] = y → x.f4.length ≤ 1048576 → ∃ r, Ev (fun k => spec_SameState.l0 k (i : Int) a b) r ∧ (r = true ↔ x = y ∧ a.drop (i + 1) = b.drop (i + 1)) := by
   intro x y ex ey hx
   have hj : ∀ A, Ev (fun k => spec_SameState.j1 k (i : Int) true a b x.f0 x.f1 x.f2 x.f3 x.f4 y.f0 y.f1 y.f2 y.f3 y.f4) A → True := fun _ _ => trivial
   have hT : Ev (fun k => spec_SameState.j1 k (i : Int) true a b x.f0 x.f1 x.f2 x.f3 x.f4 y.f0 y.f1 y.f2 y.f3 y.f4) false := by
    refine ev_succ ?_
    simp only [spec_SameState.j1, if_true]
    exact ev_some rfl
   have hF : x.f4.length = y.f4.length → ∃ r, Ev (fun k => spec_SameState.j1 k (i : Int) false a b x.f0 x.f1 x.f2 x.f3 x.f4 y.f0 y.f1 y.f2 y.f3 y.f4) r ∧ (r = true ↔ x.f4 = y.f4 ∧ a.drop (i + 1) = b.drop (i + 1)) := by
    intro hxy
    obtain ⟨r, hr, hrr⟩ := spec_Same_l1 x y a b i hlt hs1 hx hxy _ v hv hvP _ 0 rfl (by omega)
    refine ⟨r, ev_succ ?_, by simpa using hrr⟩
    simp only [spec_SameState.j1, Bool.false_eq_true, if_false]
    exact hr
   have step : ∀ r, (Ev (fun k => if x.f0 = y.f0 then (if x.f1 = y.f1 then (if x.f2 = y.f2 then (if x.f3 = y.f3 then (spec_SameState.j1 k (i : Int) ((x.f4.length : Int) != (y.f4.length : Int)) a b x.f0 x.f1 x.f2 x.f3 x.f4 y.f0 y.f1 y.f2 y.f3 y.f4) else (spec_SameState.j1 k (i : Int) true a b x.f0 x.f1 x.f2 x.f3 x.f4 y.f0 y.f1 y.f2 y.f3 y.f4)) else (spec_SameState.j1 k (i : Int) true a b x.f0 x.f1 x.f2 x.f3 x.f4 y.f0 y.f1 y.f2 y.f3 y.f4)) else (spec_SameState.j1 k (i : Int) true a b x.f0 x.f1 x.f2 x.f3 x.f4 y.f0 y.f1 y.f2 y.f3 y.f4)) else (spec_SameState.j1 k (i : Int) true a b x.f0 x.f1 x.f2 x.f3 x.f4 y.f0 y.f1 y.f2 y.f3 y.f4)) r) → Ev (fun k => spec_SameState.l0 k (i : Int) a b) r := by
    intro r h
    refine ev_succ ?_
    simp only [spec_SameState.l0, if_pos (show (i : Int) < (a.length : Int) by omega), if_pos (show (0 : Int) ≤ (i : Int) by omega), if_pos (show (i : Int) < (b.length : Int) by omega), rd_box a i hlt, rd_box b i hlt2, ex, ey, tl_iff]
    exact h
   obtain ⟨x0, x1, x2, x3, x4⟩ := x
   obtain ⟨y0, y1, y2, y3, y4⟩ := y
   simp only [S66.mk.injEq] at *
   by_cases c0 : x0 = y0
   ·by_cases c1 : x1 = y1
    ·by_cases c2 : x2 = y2
     ·by_cases c3 : x3 = y3
      ·by_cases c4 : x4.length = y4.length
       ·obtain ⟨r, hr, hrr⟩ := hF c4
        refine ⟨r, step r ?_, by rw [hrr]; simp [c0, c1, c2, c3]⟩
        have hb : ((x4.length : Int) != (y4.length : Int)) = false := by simp [c4]
        simp only [if_pos c0, if_pos c1, if_pos c2, if_pos c3, hb]
        exact hr
       ·refine ⟨false, step _ ?_, by simp; intro _ _ _ _ e; rw [e] at c4; exact absurd rfl c4⟩
        have hb : ((x4.length : Int) != (y4.length : Int)) = true := by simp; omega
        simp only [if_pos c0, if_pos c1, if_pos c2, if_pos c3, hb]
        exact hT
      ·refine ⟨false, step _ ?_, by simp [c3]⟩
       simp only [if_pos c0, if_pos c1, if_pos c2, if_neg c3]
       exact hT
     ·refine ⟨false, step _ ?_, by simp [c2]⟩
      simp only [if_pos c0, if_pos c1, if_neg c2]
      exact hT
    ·refine ⟨false, step _ ?_, by simp [c1]⟩
     simp only [if_pos c0, if_neg c1]
     exact hT
   ·refine ⟨false, step _ ?_, by simp [c0]⟩
    simp only [if_neg c0]
    exact hT
  exact G _ _ rfl rfl hx4
theorem spec_SameState_ev (a b : List S66) (hs : TinyS a) : ∃ r, Ev (fun k => spec_SameState.f k a b) r ∧ (r = true ↔ a = b) := by
 unfold spec_SameState.f
 by_cases c : (a.length : Int) = (b.length : Int)
 ·obtain ⟨r, hr, hrr⟩ := spec_Same_l0 a b (by omega) hs _ 0 rfl (by omega)
  refine ⟨r, ?_, by simpa using hrr⟩
  simp only [if_pos c]
  exact hr
 ·refine ⟨false, ?_, ?_⟩
  ·simp only [if_neg c]; exact ev_some rfl
  ·simp; intro e; rw [e] at c; exact c rfl
def boxOkM (s : List S66) (i : Nat) (b : S66) : Bool := decide (1 ≤ b.f0 ∧ b.f0 ≤ 9999) && wordM b.f1 && wordM b.f2 && decide (1 ≤ b.f3 ∧ b.f3 ≤ 10000) && !(decide (0 < i) && decide ((s.getD (i - 1) z66).f0 ≥ b.f0))
def mailOkM (b : S66) (j : Nat) (m : S68) : Bool := decide (1 ≤ m.f0 ∧ m.f0 ≤ wrap64 (b.f3 - 1)) && decide (0 ≤ m.f1 ∧ m.f1 ≤ 7) && !decide ((m.f2.size : Int) > 100) && !(decide (0 < j) && decide ((b.f4.getD (j - 1) z68).f0 ≥ m.f0))
def mailsGo (b : S66) : Nat → Nat → Bool
 | 0, _ => true
 | d + 1, j => mailOkM b j (b.f4.getD j z68) && mailsGo b d (j + 1)
def stateGo (s : List S66) : Nat → Nat → Bool
 | 0, _ => true
 | d + 1, i => boxOkM s i (s.getD i z66) && !((s.take i).any (bxP (s.getD i z66).f1 (s.getD i z66).f2)) && mailsGo (s.getD i z66) (s.getD i z66).f4.length 0 && stateGo s d (i + 1)
theorem rd_boxD (l : List S66) (i : Nat) : rd_T66 l (i : Int) = l.getD i z66 := by unfold rd_T66; rw [Int.toNat_natCast]
theorem rd_mailD (l : List S68) (i : Nat) : rd_T68 l (i : Int) = l.getD i z68 := by unfold rd_T68; rw [Int.toNat_natCast]
theorem pred64 (i : Nat) (h : 0 < i) (hi : i ≤ 140737488355328) : wrap64 ((i : Int) - 1) = ((i - 1 : Nat) : Int) := by rw [w64 (by omega) (by omega)]; omega
theorem impl_Ok_l1 (s : List S66) (hs : s.length ≤ 1048576) (i : Nat) (hi : i < s.length) (b : S66) (hb : b.f4.length ≤ 1048576) (v : Bool) (hv : Ev (fun k => impl_StateOk.l0 k s (s.length : Int) ((i + 1 : Nat) : Int) s) v) (d : Nat) : ∀ j : Nat, b.f4.length - j = d → j ≤ b.f4.length →
  Ev (fun k => impl_StateOk.l1 k s (s.length : Int) (i : Int) b.f4 (b.f4.length : Int) (j : Int) s b.f0 b.f1 b.f2 b.f3 b.f4) (mailsGo b d j && v) := by
 induction d with
 | zero =>
  intro j hd hj
  refine ev_succ ?_
  simp only [impl_StateOk.l1, if_neg (show ¬ (j : Int) < (b.f4.length : Int) by omega), wn i hi (show s.length ≤ 140737488355328 by omega), mailsGo, Bool.true_and]
  exact hv
 | succ d ih =>
  intro j hd hj
  have hlt : j < b.f4.length := by omega
  have hz := ih (j + 1) (by omega) (by omega)
  have hT : Ev (fun k => impl_StateOk.j3 k s (s.length : Int) (i : Int) b.f4 (b.f4.length : Int) (j : Int) true s b.f0 b.f1 b.f2 b.f3 b.f4) false := by
   refine ev_succ ?_
   simp only [impl_StateOk.j3, if_true]
   exact ev_some rfl
  have hF : Ev (fun k => impl_StateOk.j3 k s (s.length : Int) (i : Int) b.f4 (b.f4.length : Int) (j : Int) false s b.f0 b.f1 b.f2 b.f3 b.f4) (mailsGo b d (j + 1) && v) := by
   refine ev_succ ?_
   simp only [impl_StateOk.j3, Bool.false_eq_true, if_false, wn j hlt (show b.f4.length ≤ 140737488355328 by omega)]
   exact hz
  refine ev_succ ?_
  simp only [impl_StateOk.l1, if_pos (show (j : Int) < (b.f4.length : Int) by omega), if_pos (show (0 : Int) ≤ (j : Int) by omega), rd_mailD, impl_in_eq, Option.bind_some, mailsGo]
  generalize hm : b.f4.getD j z68 = m
  by_cases c1 : 1 ≤ m.f0 ∧ m.f0 ≤ wrap64 (b.f3 - 1)
  ·by_cases c2 : 0 ≤ m.f1 ∧ m.f1 ≤ 7
   ·by_cases c3 : (m.f2.size : Int) > 100
    ·have e : mailOkM b j m = false := by unfold mailOkM; rw [decide_eq_true c3]; simp
     simp only [decide_eq_true c1, decide_eq_true c2, if_true, if_pos c3, e, Bool.false_and]
     exact hT
    ·by_cases c4 : (j : Int) > 0
     ·have e : mailOkM b j m = !decide ((b.f4.getD (j - 1) z68).f0 ≥ m.f0) := by unfold mailOkM; rw [decide_eq_true c1, decide_eq_true c2, decide_eq_false c3, decide_eq_true (show 0 < j by omega)]; simp
      simp only [decide_eq_true c1, decide_eq_true c2, if_true, if_neg c3, if_pos c4, pred64 j (by omega) (by omega), if_pos (show (0 : Int) ≤ ((j - 1 : Nat) : Int) by omega), if_pos (show ((j - 1 : Nat) : Int) < (b.f4.length : Int) by omega), rd_mailD, e]
      cases decide ((b.f4.getD (j - 1) z68).f0 ≥ m.f0) with
      | true => exact hT
      | false => simpa using hF
     ·have e : mailOkM b j m = true := by unfold mailOkM; rw [decide_eq_true c1, decide_eq_true c2, decide_eq_false c3, decide_eq_false (show ¬ 0 < j by omega)]; simp
      simp only [decide_eq_true c1, decide_eq_true c2, if_true, if_neg c3, if_neg c4, e, Bool.true_and]
      exact hF
   ·have e : mailOkM b j m = false := by unfold mailOkM; rw [decide_eq_false c2]; simp
    simp only [decide_eq_true c1, decide_eq_false c2, if_true, Bool.false_eq_true, if_false, e, Bool.false_and]
    exact hT
  ·have e : mailOkM b j m = false := by unfold mailOkM; rw [decide_eq_false c1]; simp
   simp only [decide_eq_false c1, Bool.false_eq_true, if_false, e, Bool.false_and]
   exact hT
theorem impl_Ok_l0 (s : List S66) (hs : TinyW s) (d : Nat) : ∀ i : Nat, s.length - i = d → i ≤ s.length → Ev (fun k => impl_StateOk.l0 k s (s.length : Int) (i : Int) s) (stateGo s d i) := by
 have hs1 := hs.1.1
 induction d with
 | zero =>
  intro i hd hi
  refine ev_succ ?_
  simp only [impl_StateOk.l0, if_neg (show ¬ (i : Int) < (s.length : Int) by omega), stateGo]
  exact ev_some rfl
 | succ d ih =>
  intro i hd hi
  have hlt : i < s.length := by omega
  have hmem : s.getD i z66 ∈ s := by rw [List.getD_eq_getElem?_getD, List.getElem?_eq_getElem hlt]; exact List.getElem_mem hlt
  have hsz := hs.2 _ hmem
  have hb4 := hs.1.2 _ hmem
  have hz := ih (i + 1) (by omega) (by omega)
  refine ev_succ ?_
  simp only [impl_StateOk.l0, if_pos (show (i : Int) < (s.length : Int) by omega), if_pos (show (0 : Int) ≤ (i : Int) by omega), rd_boxD, impl_in_eq, Option.bind_some, stateGo]
  revert hsz hb4
  generalize hb : s.getD i z66 = b
  intro hsz hb4
  have hT : Ev (fun k => impl_StateOk.j1 k (i : Int) s (s.length : Int) (i : Int) true s b.f0 b.f1 b.f2 b.f3 b.f4) false := by
   refine ev_succ ?_
   simp only [impl_StateOk.j1, if_true]
   exact ev_some rfl
  have hF : Ev (fun k => impl_StateOk.j1 k (i : Int) s (s.length : Int) (i : Int) false s b.f0 b.f1 b.f2 b.f3 b.f4) (!((s.take i).any (bxP b.f1 b.f2)) && mailsGo b b.f4.length 0 && stateGo s d (i + 1)) := by
   have h1 := impl_Ok_l1 s hs1 i hlt b hb4 _ hz _ 0 rfl (by omega)
   refine ev_succ ?_
   simp only [impl_StateOk.j1, Bool.false_eq_true, if_false, if_pos (show (0 : Int) ≤ (i : Int) by omega), if_pos (show (i : Int) ≤ (s.length : Int) by omega), impl_anyBox.f, Option.bind_some, Int.toNat_natCast]
   cases (s.take i).any (bxP b.f1 b.f2) with
   | true => exact ev_some rfl
   | false => simpa using h1
  by_cases c1 : 1 ≤ b.f0 ∧ b.f0 ≤ 9999
  ·simp only [decide_eq_true c1, if_true]
   refine Ev.bind (impl_WordOk_ev b.f1 (by omega)) ?_
   by_cases c2 : wordM b.f1 = true
   ·simp only [c2, if_true]
    refine Ev.bind (impl_WordOk_ev b.f2 (by omega)) ?_
    by_cases c3 : wordM b.f2 = true
    ·simp only [c3, if_true]
     by_cases c4 : 1 ≤ b.f3 ∧ b.f3 ≤ 10000
     ·simp only [decide_eq_true c4, if_true]
      by_cases c5 : (i : Int) > 0
      ·have e : boxOkM s i b = !decide ((s.getD (i - 1) z66).f0 ≥ b.f0) := by unfold boxOkM; rw [decide_eq_true c1, c2, c3, decide_eq_true c4, decide_eq_true (show 0 < i by omega)]; simp
       simp only [if_pos c5, pred64 i (by omega) (by omega), if_pos (show (0 : Int) ≤ ((i - 1 : Nat) : Int) by omega), if_pos (show ((i - 1 : Nat) : Int) < (s.length : Int) by omega), rd_boxD, e]
       cases decide ((s.getD (i - 1) z66).f0 ≥ b.f0) with
       | true => simpa using hT
       | false => simpa using hF
      ·have e : boxOkM s i b = true := by unfold boxOkM; rw [decide_eq_true c1, c2, c3, decide_eq_true c4, decide_eq_false (show ¬ 0 < i by omega)]; simp
       simp only [if_neg c5, e, Bool.true_and]
       exact hF
     ·have e : boxOkM s i b = false := by unfold boxOkM; rw [decide_eq_false c4]; simp
      simp only [decide_eq_false c4, Bool.false_eq_true, if_false, e, Bool.false_and]
      exact hT
    ·have e : boxOkM s i b = false := by unfold boxOkM; rw [Bool.eq_false_iff.2 c3]; simp
     simp only [Bool.eq_false_iff.2 c3, Bool.false_eq_true, if_false, e, Bool.false_and]
     exact hT
   ·have e : boxOkM s i b = false := by unfold boxOkM; rw [Bool.eq_false_iff.2 c2]; simp
    simp only [Bool.eq_false_iff.2 c2, Bool.false_eq_true, if_false, e, Bool.false_and]
    exact hT
  ·have e : boxOkM s i b = false := by unfold boxOkM; rw [decide_eq_false c1]; simp
   simp only [decide_eq_false c1, Bool.false_eq_true, if_false, e, Bool.false_and]
   exact hT
theorem impl_StateOk_ev (s : List S66) (hs : TinyW s) : Ev (fun k => impl_StateOk.f k s) (stateGo s s.length 0) := impl_Ok_l0 s hs _ 0 rfl (by omega)
theorem spec_Ok_l2 (s : List S66) (hs : s.length ≤ 1048576) (i : Nat) (hi : i < s.length) (b : S66) (hb : b.f4.length ≤ 1048576) (v : Bool) (hv : Ev (fun k => spec_StateOk.l0 k ((i + 1 : Nat) : Int) s) v) (d : Nat) : ∀ j : Nat, b.f4.length - j = d → j ≤ b.f4.length →
  Ev (fun k => spec_StateOk.l2 k (i : Int) (j : Int) s b.f0 b.f1 b.f2 b.f3 b.f4) (mailsGo b d j && v) := by
 induction d with
 | zero =>
  intro j hd hj
  refine ev_succ ?_
  simp only [spec_StateOk.l2, if_neg (show ¬ (j : Int) < (b.f4.length : Int) by omega), wn i hi (show s.length ≤ 140737488355328 by omega), mailsGo, Bool.true_and]
  exact hv
 | succ d ih =>
  intro j hd hj
  have hlt : j < b.f4.length := by omega
  have hz := ih (j + 1) (by omega) (by omega)
  have hT : Ev (fun k => spec_StateOk.j4 k (i : Int) (j : Int) true s b.f0 b.f1 b.f2 b.f3 b.f4) false := by
   refine ev_succ ?_
   simp only [spec_StateOk.j4, if_true]
   exact ev_some rfl
  have hF : Ev (fun k => spec_StateOk.j4 k (i : Int) (j : Int) false s b.f0 b.f1 b.f2 b.f3 b.f4) (mailsGo b d (j + 1) && v) := by
   refine ev_succ ?_
   simp only [spec_StateOk.j4, Bool.false_eq_true, if_false, wn j hlt (show b.f4.length ≤ 140737488355328 by omega)]
   exact hz
  refine ev_succ ?_
  simp only [spec_StateOk.l2, if_pos (show (j : Int) < (b.f4.length : Int) by omega), if_pos (show (0 : Int) ≤ (j : Int) by omega), rd_mailD, spec_in_eq, Option.bind_some, mailsGo]
  generalize hm : b.f4.getD j z68 = m
  by_cases c1 : 1 ≤ m.f0 ∧ m.f0 ≤ wrap64 (b.f3 - 1)
  ·simp only [decide_eq_true c1, if_true]
   have rest : ∀ u : Bool, (u = true → mailOkM b j m = (decide (0 ≤ m.f1 ∧ m.f1 ≤ 7) && !decide ((m.f2.size : Int) > 100))) → u = true → Ev (fun k => if decide (0 ≤ m.f1 ∧ m.f1 ≤ 7) = true then (spec_StateOk.j4 k (i : Int) (j : Int) (decide ((m.f2.size : Int) > 100)) s b.f0 b.f1 b.f2 b.f3 b.f4) else (spec_StateOk.j4 k (i : Int) (j : Int) true s b.f0 b.f1 b.f2 b.f3 b.f4)) (mailOkM b j m && mailsGo b d (j + 1) && v) := by
    intro u hu hu1
    rw [hu hu1]
    by_cases c2 : 0 ≤ m.f1 ∧ m.f1 ≤ 7
    ·simp only [decide_eq_true c2, if_true, Bool.true_and]
     cases decide ((m.f2.size : Int) > 100) with
     | true => simpa using hT
     | false => simpa using hF
    ·simp only [decide_eq_false c2, Bool.false_eq_true, if_false, Bool.false_and]
     exact hT
   by_cases c4 : (j : Int) > 0
   ·simp only [if_pos c4, pred64 j (by omega) (by omega), if_pos (show (0 : Int) ≤ ((j - 1 : Nat) : Int) by omega), if_pos (show ((j - 1 : Nat) : Int) < (b.f4.length : Int) by omega), rd_mailD]
    by_cases c5 : (b.f4.getD (j - 1) z68).f0 ≥ m.f0
    ·have e : mailOkM b j m = false := by unfold mailOkM; rw [decide_eq_true c5, decide_eq_true (show 0 < j by omega)]; simp
     simp only [if_pos c5, e, Bool.false_and]
     exact hT
    ·simp only [if_neg c5]
     refine rest true (fun _ => ?_) rfl
     unfold mailOkM
     rw [decide_eq_true c1, decide_eq_false c5]
     simp
   ·simp only [if_neg c4]
    refine rest true (fun _ => ?_) rfl
    unfold mailOkM
    rw [decide_eq_true c1, decide_eq_false (show ¬ 0 < j by omega)]
    simp
  ·have e : mailOkM b j m = false := by unfold mailOkM; rw [decide_eq_false c1]; simp
   simp only [decide_eq_false c1, Bool.false_eq_true, if_false, e, Bool.false_and]
   exact hT
theorem spec_Ok_l1 (s : List S66) (hs : s.length ≤ 1048576) (i : Nat) (hi : i < s.length) (b : S66) (v : Bool) (hv : Ev (fun k => spec_StateOk.l2 k (i : Int) 0 s b.f0 b.f1 b.f2 b.f3 b.f4) v) (d : Nat) : ∀ j : Nat, i - j = d → j ≤ i →
  Ev (fun k => spec_StateOk.l1 k (i : Int) (j : Int) s b.f0 b.f1 b.f2 b.f3 b.f4) (!(((s.take i).drop j).any (bxP b.f1 b.f2)) && v) := by
 induction d with
 | zero =>
  intro j hd hj
  refine ev_succ ?_
  rw [List.drop_eq_nil_of_le (by rw [List.length_take]; omega)]
  simp only [spec_StateOk.l1, if_neg (show ¬ (j : Int) < (i : Int) by omega)]
  simpa using hv
 | succ d ih =>
  intro j hd hj
  have hlt : j < s.length := by omega
  have hlt2 : j < (s.take i).length := by rw [List.length_take]; omega
  have hz := ih (j + 1) (by omega) (by omega)
  refine ev_succ ?_
  rw [List.drop_eq_getElem_cons hlt2, List.getElem_take, List.any_cons]
  simp only [spec_StateOk.l1, if_pos (show (j : Int) < (i : Int) by omega), if_pos (show (0 : Int) ≤ (j : Int) by omega), if_pos (show (j : Int) < (s.length : Int) by omega), rd_box2 s j hlt, wn j (show j < i by omega) (by omega)]
  by_cases c1 : s[j].f1.toList = b.f1.toList
  ·by_cases c2 : s[j].f2.toList = b.f2.toList
   ·have e : bxP b.f1 b.f2 s[j] = true := by unfold bxP; simp [c1, c2]
    simp only [if_pos c1, if_pos c2, e, Bool.true_or, Bool.not_true, Bool.false_and]
    exact ev_some rfl
   ·have e : bxP b.f1 b.f2 s[j] = false := by unfold bxP; simp [c2]
    simp only [if_pos c1, if_neg c2, e, Bool.false_or]
    exact hz
  ·have e : bxP b.f1 b.f2 s[j] = false := by unfold bxP; simp [c1]
   simp only [if_neg c1, e, Bool.false_or]
   exact hz
theorem spec_Ok_l0 (s : List S66) (hs : TinyW s) (d : Nat) : ∀ i : Nat, s.length - i = d → i ≤ s.length → Ev (fun k => spec_StateOk.l0 k (i : Int) s) (stateGo s d i) := by
 have hs1 := hs.1.1
 induction d with
 | zero =>
  intro i hd hi
  refine ev_succ ?_
  simp only [spec_StateOk.l0, if_neg (show ¬ (i : Int) < (s.length : Int) by omega), stateGo]
  exact ev_some rfl
 | succ d ih =>
  intro i hd hi
  have hlt : i < s.length := by omega
  have hmem : s.getD i z66 ∈ s := by rw [List.getD_eq_getElem?_getD, List.getElem?_eq_getElem hlt]; exact List.getElem_mem hlt
  have hsz := hs.2 _ hmem
  have hb4 := hs.1.2 _ hmem
  have hz := ih (i + 1) (by omega) (by omega)
  refine ev_succ ?_
  simp only [spec_StateOk.l0, if_pos (show (i : Int) < (s.length : Int) by omega), if_pos (show (0 : Int) ≤ (i : Int) by omega), rd_boxD, spec_in_eq, Option.bind_some, stateGo]
  revert hsz hb4
  generalize hb : s.getD i z66 = b
  intro hsz hb4
  have hT : Ev (fun k => spec_StateOk.j1 k (i : Int) true s b.f0 b.f1 b.f2 b.f3 b.f4) false := by
   refine ev_succ ?_
   simp only [spec_StateOk.j1, if_true]
   exact ev_some rfl
  have hF : Ev (fun k => spec_StateOk.j1 k (i : Int) false s b.f0 b.f1 b.f2 b.f3 b.f4) (!((s.take i).any (bxP b.f1 b.f2)) && mailsGo b b.f4.length 0 && stateGo s d (i + 1)) := by
   have h2 := spec_Ok_l2 s hs1 i hlt b hb4 _ hz _ 0 rfl (by omega)
   have h1 := spec_Ok_l1 s hs1 i hlt b _ h2 _ 0 rfl (by omega)
   refine ev_succ ?_
   simp only [spec_StateOk.j1, Bool.false_eq_true, if_false]
   rw [Bool.and_assoc]
   simpa using h1
  by_cases c1 : 1 ≤ b.f0 ∧ b.f0 ≤ 9999
  ·simp only [decide_eq_true c1, if_true]
   have rest : boxOkM s i b = (wordM b.f1 && wordM b.f2 && decide (1 ≤ b.f3 ∧ b.f3 ≤ 10000)) → Ev (fun k => (spec_WordOk.f k b.f1).bind fun t688 => (if t688 = true then ((spec_WordOk.f k b.f2).bind fun t689 => (if t689 = true then (spec_StateOk.j1 k (i : Int) (!(decide (1 ≤ b.f3 ∧ b.f3 ≤ 10000))) s b.f0 b.f1 b.f2 b.f3 b.f4) else (spec_StateOk.j1 k (i : Int) true s b.f0 b.f1 b.f2 b.f3 b.f4))) else (spec_StateOk.j1 k (i : Int) true s b.f0 b.f1 b.f2 b.f3 b.f4))) (boxOkM s i b && !((s.take i).any (bxP b.f1 b.f2)) && mailsGo b b.f4.length 0 && stateGo s d (i + 1)) := by
    intro e
    rw [e]
    refine Ev.bind (spec_WordOk_ev b.f1 (by omega)) ?_
    cases wordM b.f1 with
    | true =>
     simp only [if_true]
     refine Ev.bind (spec_WordOk_ev b.f2 (by omega)) ?_
     cases wordM b.f2 with
     | true =>
      simp only [if_true]
      cases decide (1 ≤ b.f3 ∧ b.f3 ≤ 10000) with
      | true => simpa using hF
      | false => simpa using hT
     | false =>
      simp only [Bool.false_eq_true, if_false, Bool.and_false, Bool.false_and]
      exact hT
    | false =>
     simp only [Bool.false_eq_true, if_false, Bool.false_and]
     exact hT
   by_cases c4 : (i : Int) > 0
   ·simp only [if_pos c4, pred64 i (by omega) (by omega), if_pos (show (0 : Int) ≤ ((i - 1 : Nat) : Int) by omega), if_pos (show ((i - 1 : Nat) : Int) < (s.length : Int) by omega), rd_boxD]
    by_cases c5 : (s.getD (i - 1) z66).f0 ≥ b.f0
    ·have e : boxOkM s i b = false := by unfold boxOkM; rw [decide_eq_true c5, decide_eq_true (show 0 < i by omega)]; simp
     simp only [if_pos c5, e, Bool.false_and]
     exact hT
    ·simp only [if_neg c5]
     refine rest ?_
     unfold boxOkM
     rw [decide_eq_true c1, decide_eq_false c5]
     simp
   ·simp only [if_neg c4]
    refine rest ?_
    unfold boxOkM
    rw [decide_eq_true c1, decide_eq_false (show ¬ 0 < i by omega)]
    simp
  ·have e : boxOkM s i b = false := by unfold boxOkM; rw [decide_eq_false c1]; simp
   simp only [decide_eq_false c1, Bool.false_eq_true, if_false, e, Bool.false_and]
   exact hT
theorem spec_StateOk_ev (s : List S66) (hs : TinyW s) : Ev (fun k => spec_StateOk.f k s) (stateGo s s.length 0) := spec_Ok_l0 s hs _ 0 rfl (by omega)

theorem FnStatesTold : laws_FnStatesTold.Pure := by
 intro l _ _ _
 refine Ev.rounds ?_
 unfold laws_FnStatesTold.f laws_big.f
 simp only [Option.bind_some]
 refine ev_if (fun _ => ev_some rfl) (fun hbig => ?_)
 have hl : l.length ≤ 1048576 := by simp only [decide_eq_true_eq] at hbig; omega
 obtain ⟨L, hL, hA, hlen⟩ := spec_DrawStateOf_some l hl
 obtain ⟨a, b, hab, ha, hb⟩ := spec_DrawSameState_some l hl
 obtain ⟨s, hs, hsT⟩ := spec_DrawStateOk_some l hl
 have hsz : ∀ x, x ∈ L → SzJ x := fun x hx => (hA x hx).1
 have e1 := impl_StateOf_ev L hsz
 have e2 := spec_StateOf_ev L (by omega) hsz
 have heq : (if itemsOkM L = true then stI L else []) = (if itemsOkM L = true then stS L else []) := by
  by_cases h : itemsOkM L = true
  ·rw [if_pos h, if_pos h]
   exact stI_eq_stS ((itemsOkM_iff L).1 h).1 (sameM_refl L)
  ·rw [if_neg h, if_neg h]
 rw [heq] at e1
 have hT : TinyS (if itemsOkM L = true then stS L else []) := by
  by_cases h : itemsOkM L = true
  ·rw [if_pos h]; exact stS_tiny L (by omega)
  ·rw [if_neg h]; exact ⟨by simp, fun x hx => by simp at hx⟩
 refine Ev.bind hL (Ev.bind hab (Ev.bind hs (Ev.bind e1 (Ev.bind (impl_ItemsOk_ev L hsz) (Ev.bind (spec_ItemsOk_ev L (by omega) hsz) ?_)))))
 simp only [beq_self_eq_true, if_true]
 obtain ⟨r1, h1, hr1⟩ := spec_SameState_ev _ (if itemsOkM L = true then stS L else []) hT
 have hr1 := hr1.2 rfl
 subst hr1
 refine Ev.bind e2 (Ev.bind h1 ?_)
 simp only [if_true]
 have hsm : ∀ x : List S66, TinyS x → SmallS x := fun x hx => ⟨by have := hx.1; omega, fun y hy => by have := hx.2 y hy; omega⟩
 obtain ⟨r2, h2, hr2⟩ := impl_SameState_ev a b (hsm a ha.1)
 obtain ⟨r3, h3, hr3⟩ := spec_SameState_ev a b ha.1
 have h23 : (r2 == r3) = true := by
  rw [beq_iff_eq, Bool.eq_iff_iff]
  exact hr2.trans hr3.symm
 refine Ev.bind h2 (Ev.bind h3 ?_)
 simp only [h23, if_true]
 refine Ev.bind (impl_SameState_same (hsm a ha.1) rfl) ?_
 simp only [if_true]
 refine Ev.bind (impl_StateOk_ev s hsT) (Ev.bind (spec_StateOk_ev s hsT) ?_)
 simp only [beq_self_eq_true, if_true]
 have hnil : TinyW ([] : List S66) := ⟨⟨by simp, fun x hx => by simp at hx⟩, fun x hx => by simp at hx⟩
 have h0 : Ev (fun k => impl_StateOk.f k ([] : List S66)) true := impl_StateOk_ev [] hnil
 refine Ev.bind h0 ?_
 simp only [if_true]
 refine Ev.bind (impl_ValidAfter_ev L (by omega) (fun x hx => (hA x hx).2)) (ev_some ?_)
 have := (mx_is (L.map (fun x => x.f1.f1)) 0).2.1
 exact decide_eq_true (by omega)

end Go.Proofs.Ytagkjeldheiejaa.Pure
