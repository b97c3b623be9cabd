-- Written for this claim by a program of mine (a turned copy of the kit's print): functions as plain Lean, and their contracts. Lean checks it.
import Derived.Test.YtdnjjdmlmfoljaaPFnExactCrashDiskx0
import Derived.Test.YtdnjjdmlmfoljaaVFnExactCrashDisk1
namespace Go.Proofs.Ytdnjjdmlmfoljaa.PFnExactCrashDisk
open Go.RowKit Go.Proofs.YtdnjjdmlmfoljaaW.PrintWords Go.Proofs.YtdnjjdmlmfoljaaW.PrintLast Go.Proofs.YtdnjjdmlmfoljaaW.PrintMore
attribute [local go_sem] max2_int min2_int max_two min_two max_three min_three max_four min_four   -- for this text's walks alone
set_option linter.unusedVariables false
set_option linter.unusedSimpArgs false

/-! ### laws_toIntS: function 36 -/
def laws_toIntS.l0 : Nat → List Int → List Int → Int → Option (List Int)
 | 0, _, _, _ => none
 | k + 1, x0, x3, x4 => if x4 < (x0.length : Int) then (if 0 ≤ x4 then (if x4 < (x3.length : Int) then (laws_toIntS.l0 k x0 (x3.set (x4 : Int).toNat (rd x0 x4)) (wrap64 (x4 + 1))) else (none)) else (none)) else (some x3)
def laws_toIntS.f (k : Nat) (l0 : List Int) : Option (List Int) := if 0 ≤ (l0.length : Int) then (if ((l0.length : Int) : Int).toNat ≤ 35184372088832 then (laws_toIntS.l0 k l0 (List.replicate ((l0.length : Int) : Int).toNat 0) 0) else (none)) else (none)
theorem laws_toIntS.mono_l : ∀ k, (∀ y0 y1 y2, LeO (laws_toIntS.l0 k y0 y1 y2) (laws_toIntS.l0 (k + 1) y0 y1 y2))
 | 0 => fun _ _ _ r h => by simp [laws_toIntS.l0] at h
 | k + 1 => by
  have ih0 := laws_toIntS.mono_l k
  ·intro y0 y1 y2
   unfold laws_toIntS.l0
   repeat' first
   | (with_reducible exact ih0 _ _ _)
   | (with_reducible exact LeO.refl _)
   | (with_reducible exact LeO.none _)
   | (with_reducible refine LeO.ite ?_ ?_)
   | (with_reducible refine LeO.bind ?_ (fun _ => ?_))
   | exact ih0 _ _ _
   | exact LeO.none _
   | refine LeO.ite ?_ ?_
   | refine LeO.bind ?_ (fun _ => ?_)
theorem laws_toIntS.mono : ∀ a0 k, LeO (laws_toIntS.f k a0) (laws_toIntS.f (k + 1) a0) := by
 intro a0 k
 have ih0 := laws_toIntS.mono_l k
 unfold laws_toIntS.f
 repeat' first
   | (with_reducible exact ih0 _ _ _)
   | (with_reducible exact LeO.refl _)
   | (with_reducible exact LeO.none _)
   | (with_reducible refine LeO.ite ?_ ?_)
   | (with_reducible refine LeO.bind ?_ (fun _ => ?_))
   | exact ih0 _ _ _
   | exact LeO.none _
   | refine LeO.ite ?_ ?_
   | refine LeO.bind ?_ (fun _ => ?_)
set_option maxHeartbeats 8000000 in
set_option maxRecDepth 100000 in
theorem laws_toIntS.calls (k : Nat) (A0 : Option Addr) (c0 : Nat) (l0 : List Int) (r : List Int) (w : World) (hr0 : Kd.C (Kd.int .i64) w A0 l0.length l0) (hc0 : l0.length ≤ c0) (h : laws_toIntS.f k l0 = some r) :
  Calls Try.prog 36 #[.slice A0 l0.length c0] w fun e w' => ∃ v0_ : Value, e = .returned (v0_) ∧ Kd.R (Kd.int .i64) 3 w' w.heap.size (fun _ => True) v0_ r ∧ Below w.heap.size w w' := by
 have HR0 := Aside0.mk hr0
 have HC0 := Aside0.mk hc0
 clear hr0 hc0
 have HB := ak (Below.refl w.heap.size w)
 have H : (if 0 ≤ (l0.length : Int) then (if ((l0.length : Int) : Int).toNat ≤ 35184372088832 then (laws_toIntS.l0 k l0 (List.replicate ((l0.length : Int) : Int).toNat 0) 0) else (none)) else (none)) = some r := h
 clear h
 by_cases c2 : 0 ≤ (l0.length : Int)
 ·rw [if_pos c2] at H
  have c2b0 := eq_true c2
  have c2b1 : decide (0 ≤ (l0.length : Int)) = true := decide_eq_true c2
  clear c2
  by_cases c3 : ((l0.length : Int) : Int).toNat ≤ 35184372088832
  ·rw [if_pos c3] at H
   have c3b0 := eq_true c3
   have c3b1 : decide (((l0.length : Int) : Int).toNat ≤ 35184372088832) = true := decide_eq_true c3
   clear c3
   obtain ⟨y204, hy204⟩ : ∃ y_ : List Int, y_ = (List.replicate ((l0.length : Int) : Int).toNat 0) := ⟨_, rfl⟩
   replace H : (laws_toIntS.l0 k l0 y204 0) = some r := by first | (rw [hy204]; with_reducible exact H) | (have H2_ := (Option.bind_some _ _).symm.trans H; rw [hy204]; with_reducible exact H2_) | (have H2_ := (Option.bind_some _ _).symm.trans H; with_reducible exact H2_) | with_reducible exact H | (rw [hy204]; exact H) | exact H
   have Ny204 := Aside0.mk hy204
   clear hy204
   have H' := Aside0.mk H
   clear H
   go_enter Try.func36, Try.ntmps36
   go_wp2_with (first | ((with_reducible refine gate_dst (N := 7) rfl ?_); refine Kd.R_make (Kd.int .i64) _ 3 rfl (N := 7) rfl 48 _ _ rfl (l0.length : Int) rfl rfl Try.underlying48 (.int .i64 0) 8 info3 rfl (by decide) (by omega) 0 (ok := fun _ => True) (okp := fun _ => True) rfl (fun _ hk => hk) trivial (of_decide_eq_true (by first | (with_reducible assumption) | assumption)) (Nat.le_trans (Nat.mul_le_mul_right _ (of_decide_eq_true (by first | (with_reducible assumption) | assumption) : (l0.length : Int).toNat ≤ 35184372088832)) (by omega)) (Below.refl _ _) (Nat.le_refl _) ?_; intro v205 w4 ho5 hb hg_ hnew_; clear hg_ hnew_; (first | rw [← Ny204.out] at ho5 | (simp only [Int.reduceToNat] at ho5; rw [← Ny204.out] at ho5)); replace HO206 := ak (Kd.R_lower ho5 (below_size (lG HB))); replace HB := lB HB hb; clear hb ho5))
   go_loopg [4] k (fun kq v4 w' => ∃ (x3_1 : List Int) (x4_1 : Int), v4 = .int .i64 x4_1 ∧ Aside0 (laws_toIntS.l0 kq l0 x3_1 x4_1 = some r) ∧ Aside0 (kq ≤ k) ∧ Aside0 (Kd.R (Kd.int .i64) 3 w' w.heap.size (fun _ => True) v205 x3_1) ∧ Aside0 (Below w.heap.size w w'))
   case atStart => exact ⟨(y204), (0), (by first | rfl | (simp; done) | (simp [*]; done)), H', ⟨Nat.le_refl _⟩, ⟨by (with_reducible repeat (first | apply Kd.R_alloc | apply Kd.R_drewN | apply Kd.R_drew)); exact HO206.out⟩, ⟨by exact lG HB⟩⟩
   case round =>
    clear H'
    try clear c2
    try clear c2b0
    try clear c2b1
    try clear p2
    try clear c3
    try clear c3b0
    try clear c3b1
    obtain ⟨x3_1, x4_1, rfl, HA, HK1, HO_3, HB⟩ := hrel
    cases gk with
    | zero => exact absurd HA.out (by simp [laws_toIntS.l0])
    | succ k1 =>
     have H := HA.out
     clear HA
     simp only [laws_toIntS.l0] at H
     by_cases c6 : x4_1 < (l0.length : Int)
     ·rw [if_pos c6] at H
      have c6b0 : decide (x4_1 < (l0.length : Int)) = true := decide_eq_true c6
      clear c6
      by_cases c7 : 0 ≤ x4_1
      ·rw [if_pos c7] at H
       have c7b0 : decide (0 ≤ x4_1) = true := decide_eq_true c7
       clear c7
       by_cases c8 : x4_1 < (x3_1.length : Int)
       ·rw [if_pos c8] at H
        have c8b0 : decide (x4_1 < (x3_1.length : Int)) = true := decide_eq_true c8
        clear c8
        obtain ⟨y208, hy208⟩ : ∃ y_ : List Int, y_ = (x3_1.set (x4_1 : Int).toNat (rd l0 x4_1)) := ⟨_, rfl⟩
        replace H : (laws_toIntS.l0 k1 l0 y208 (wrap64 (x4_1 + 1))) = some r := by first | (rw [hy208]; with_reducible exact H) | (have H2_ := (Option.bind_some _ _).symm.trans H; rw [hy208]; with_reducible exact H2_) | (have H2_ := (Option.bind_some _ _).symm.trans H; with_reducible exact H2_) | with_reducible exact H | (rw [hy208]; exact H) | exact H
        have Ny208 := Aside0.mk hy208
        clear hy208
        have H' := Aside0.mk H
        clear H
        have p207 : 0 ≤ (x4_1 : Int) := of_decide_eq_true (by first | (with_reducible assumption) | assumption)
        have q207 : x4_1 < (l0.length : Int) := of_decide_eq_true (by first | (with_reducible assumption) | assumption)
        obtain ⟨ad207, e207, hx207_0⟩ := Kd.at_int HR0.out x4_1 p207 q207
        cases e207
        replace hx207_0 := (HB.out.cell (World.block_lt_of_cell? w _ hx207_0)).trans hx207_0
        replace p207 := eq_true p207
        replace q207 := eq_true q207
        have p9 : 0 ≤ (x4_1 : Int) := of_decide_eq_true (by first | (with_reducible assumption) | assumption)
        have q9 : (x4_1 : Int) < ((x3_1.length : Int) : Int) := of_decide_eq_true (by first | (with_reducible assumption) | assumption)
        obtain ⟨go9, co9, eo9, gb9, gl9, cl9, HG9⟩ := Kd.R_form HO_3.out (by omega)
        (first | cases eo9 | (injection eo9 with ea_ en_ ec_; (first | subst ea_ | (injection ea_ with ea_; subst ea_)); subst ec_; clear en_))
        have GB9 := Aside0.mk gb9
        have GG9 := Aside0.mk HG9
        clear gb9 gl9 HG9
        obtain ⟨hx9_0, hf9_0⟩ := Kd.R_celln 0 HO_3.out (x4_1 : Int) p9 q9
        replace p9 := eq_true p9
        replace q9 := eq_true q9
        have HP10 := Kd.R_putg HO_3.out (x4_1 : Int) (rd l0 x4_1)
        go_wp2_with (first | ((with_reducible refine gate_store (t := 3) (p := 20) rfl ?_); refine store_event (t := 3) (p := 20) (v := ?vo_w11) (w1 := (wr.setCell ⟨go9, (x4_1 : Int).toNat, none⟩ (.int .i64 (rd l0 x4_1)))) ?hg ?ho ?hn ?hr ?_; (case ho => rfl); (case hg => rfl); (case hn => rfl); (case hr => first | (go_simp; done) | (go_simp; rfl)); intro w11 hw; have hg : wr.grownBy w11 (some go9) := (by rw [hw]; exact HP10.2); have hp_ : Kd.R (Kd.int .i64) 3 w11 w.heap.size (fun _ => True) (.slice (some ⟨go9, 0, none⟩) x3_1.length co9) y208 := (by rw [hw, Ny208.out]; exact HP10.1); clear HP10; replace HO_3 := ak (hp_); replace HB := ak ((by rw [hw]; exact below_set (HB.out) GB9.out : Below w.heap.size w w11)); clear hg hw hp_))
        go_roundg k1
        case measure => have := HK1.out; omega
        case rel => exact ⟨(y208), (wrap64 (x4_1 + 1)), (by first | rfl | (simp; done) | (simp [*]; done)), H', ⟨by have := HK1.out; omega⟩, ⟨by (with_reducible repeat (first | apply Kd.R_alloc | apply Kd.R_drewN | apply Kd.R_drew)); exact HO_3.out⟩, ⟨by exact lG HB⟩⟩
       ·rw [if_neg c8] at H
        exact absurd H (by simp)
      ·rw [if_neg c7] at H
       exact absurd H (by simp)
     ·rw [if_neg c6] at H
      have c6b0 : decide (x4_1 < (l0.length : Int)) = false := decide_eq_false c6
      clear c6
      obtain rfl := Option.some.inj H
      go_wp2
      go_ret
      exact ⟨_, by first | rfl | (simp [errW_none, errW_some] <;> rfl) | (simp [*, errW_none, errW_some] <;> rfl), by (with_reducible repeat (first | apply Kd.R_alloc | apply Kd.R_drewN | apply Kd.R_drew)); exact HO_3.out, by exact lG HB⟩
  ·rw [if_neg c3] at H
   exact absurd H (by simp)
 ·rw [if_neg c2] at H
  exact absurd H (by simp)

/-! ### impl_in: function 52 -/
def impl_in.f (a0 : Int) (a1 : Int) (a2 : Int) : Option (Bool) := if a0 ≥ a1 then (some (decide (a0 ≤ a2))) else (some false)
set_option maxHeartbeats 8000000 in
set_option maxRecDepth 100000 in
theorem impl_in.calls (a0 : Int) (a1 : Int) (a2 : Int) (r : Bool) (w : World) (h : impl_in.f a0 a1 a2 = some r) :
  Calls Try.prog 52 #[.int .i64 a0, .int .i64 a1, .int .i64 a2] w fun e w' => e = .returned (.bool r) ∧ Drawn0 w w' := by
 have H : (if a0 ≥ a1 then (some (decide (a0 ≤ a2))) else (some false)) = some r := h
 clear h
 by_cases c4 : a0 ≥ a1
 ·rw [if_pos c4] at H
  have c4b0 : decide (a1 ≤ a0) = true := decide_eq_true c4
  clear c4
  obtain rfl := Option.some.inj H
  go_enter Try.func52, Try.ntmps52
  go_wp2
  go_ret
  exact ⟨by first | rfl | (simp; done) | (simp [*]; done), by repeat (first | exact Drawn0.refl _ | apply Drawn0.step)⟩
 ·rw [if_neg c4] at H
  have c4b0 : decide (a1 ≤ a0) = false := decide_eq_false c4
  clear c4
  obtain rfl := Option.some.inj H
  go_enter Try.func52, Try.ntmps52
  go_wp2
  go_ret
  exact ⟨by first | rfl | (simp; done) | (simp [*]; done), by repeat (first | exact Drawn0.refl _ | apply Drawn0.step)⟩

-- NOT PRINTED: function 78 (slices_IndexFunc_string_string)

-- NOT PRINTED: function 55 (slices_ContainsFunc_string_string)

-- NOT PRINTED: function 79 (impl_Write_79)

-- NOT PRINTED: function 57 (impl_Write_57)

/-! ### impl_DiskOk: function 22 -/
theorem at_str {w : World} {A : Option Addr} {n : Nat} {xs : List ByteArray} (h : Kd.C Kd.string w A n xs) (i : Int) (h0 : 0 ≤ i) (h1 : i < n) : ∃ ad, A = some ad ∧ w.cell? (ad.add i.toNat) = some (.string (rdOf ByteArray.empty xs i)) := by
 obtain ⟨ad, c, e, hl, hK, hc⟩ := Kd.C_get h ByteArray.empty i h0 h1
 have hK' : c = [.string (xs.getD i.toNat ByteArray.empty)] := hK
 subst hK'
 have := hc 0 _ rfl
 exact ⟨ad, e, by simpa [Kd.string, Kd.scalar, rdOf] using this⟩
set_option maxHeartbeats 4000000 in
set_option maxRecDepth 100000 in
theorem idx_str (caps : Array Value) (p : ByteArray → Bool) (A0 : Option Addr) (c0 : Nat) (l0 : List ByteArray) (w : World) (hr0 : Kd.C Kd.string w A0 l0.length l0) (hc0 : l0.length ≤ c0)
  (hp : ∀ x, x ∈ l0 → ∀ W, Below w.heap.size w W → Calls Try.prog 56 (#[.string x] ++ caps) W fun e W' => e = .returned (.bool (p x)) ∧ Below W.heap.size W W') :
  Calls Try.prog 78 #[.slice A0 l0.length c0, .func (.func 56) #[] caps] w fun e w' => ∃ v : Int, e = .returned (.int .i64 v) ∧ Aside0 (decide (0 ≤ v) = l0.any p) ∧ Below w.heap.size w w' := by
 have HR0 := Aside0.mk hr0
 have HC0 := Aside0.mk hc0
 have HP := Aside0.mk hp
 have hm : l0.length ≤ 9223372036854775807 := hr0.2.1
 clear hr0 hc0 hp
 have HB := ak (Below.refl w.heap.size w)
 go_enter Try.func78, Try.ntmps78
 go_wp2
 go_loopg [8] l0.length (fun kq v8 w' => ∃ x8 : Int, v8 = .int .i64 x8 ∧ Aside0 (0 ≤ x8 ∧ x8 + kq = l0.length ∧ ∀ x, x ∈ l0.take x8.toNat → p x = false) ∧ Aside0 (Below w.heap.size w w'))
 case atStart => exact ⟨0, by first | rfl | (simp; done), ⟨by omega, by omega, by simp⟩, ⟨by first | exact HB.out | exact Below.refl _ _⟩⟩
 case round =>
  obtain ⟨x8, rfl, HX, HB⟩ := hrel
  by_cases c4 : x8 < (l0.length : Int)
  ·have c4b0 : decide (x8 < (l0.length : Int)) = true := decide_eq_true c4
   have c5b0 : decide (0 ≤ x8) = true := decide_eq_true HX.out.1
   have hl : x8.toNat < l0.length := by have := HX.out.1; omega
   have hmem : rdOf ByteArray.empty l0 x8 ∈ l0 := by
    unfold rdOf
    rw [List.getD_eq_getElem?_getD, List.getElem?_eq_getElem hl]
    exact List.getElem_mem hl
   have HQ := ak (fun W hW => HP.out _ hmem W hW)
   clear c4 hl hmem
   have p103 : 0 ≤ (x8 : Int) := of_decide_eq_true (by first | (with_reducible assumption) | assumption)
   have q103 : x8 < (l0.length : Int) := of_decide_eq_true (by first | (with_reducible assumption) | assumption)
   obtain ⟨ad103, e103, hx103_0⟩ := at_str HR0.out x8 p103 q103
   cases e103
   replace hx103_0 := (HB.out.cell (World.block_lt_of_cell? w _ hx103_0)).trans hx103_0
   replace p103 := eq_true p103
   replace q103 := eq_true q103
   obtain ⟨b, hb0⟩ : ∃ b, p (rdOf ByteArray.empty l0 x8) = b := ⟨_, rfl⟩
   have HPB := Aside0.mk hb0
   rw [hb0] at HQ
   clear hb0
   cases b with
   | true =>
    go_wp2_with (go_at_call 56; refine (HQ.out _ HB.out).mono ?_; rintro e w8 ⟨rfl, hb⟩; replace HB := ak (below_step (by exact HB.out) hb); clear hb)
    go_ret
    have h0 : 0 ≤ x8 := HX.out.1
    have hl : x8.toNat < l0.length := by have := HX.out.1; have := of_eq_true q103; omega
    refine ⟨x8, rfl, ⟨?_⟩, HB.out⟩
    rw [decide_eq_true h0]
    symm
    rw [List.any_eq_true]
    refine ⟨rdOf ByteArray.empty l0 x8, ?_, HPB.out⟩
    unfold rdOf
    rw [List.getD_eq_getElem?_getD, List.getElem?_eq_getElem hl]
    exact List.getElem_mem hl
   | false =>
    cases gk with
    | zero => exact absurd HX.out (by have := of_eq_true q103; omega)
    | succ k1 =>
    go_wp2_with (go_at_call 56; refine (HQ.out _ HB.out).mono ?_; rintro e w8 ⟨rfl, hb⟩; replace HB := ak (below_step (by exact HB.out) hb); clear hb)
    go_roundg k1
    case measure => omega
    case rel =>
     have h0 : 0 ≤ x8 := HX.out.1
     have h1 := HX.out.2.1
     have hl : x8.toNat < l0.length := by have := of_eq_true q103; omega
     have e1 : wrap64 (x8 + 1) = x8 + 1 := by unfold wrap64; omega
     refine ⟨x8 + 1, by first | rfl | (rw [e1]) | (simp [e1]; done), ⟨by omega, by omega, ?_⟩, HB⟩
     intro x hx
     rw [show (x8 + 1).toNat = x8.toNat + 1 by omega, List.take_succ_eq_append_getElem hl] at hx
     rcases List.mem_append.1 hx with hx | hx
     ·exact HX.out.2.2 x hx
     ·have hx' := List.mem_singleton.1 hx
      subst hx'
      have := HPB.out
      unfold rdOf at this
      rw [List.getD_eq_getElem?_getD, List.getElem?_eq_getElem hl] at this
      exact this
  ·have c4b0 : decide (x8 < (l0.length : Int)) = false := decide_eq_false c4
   clear c4
   go_wp2
   go_ret
   have h0 : 0 ≤ x8 := HX.out.1
   have h1 := HX.out.2.1
   have h2 := of_decide_eq_false c4b0
   refine ⟨-1, rfl, ⟨?_⟩, HB.out⟩
   symm
   rw [decide_eq_false (by omega)]
   rw [List.any_eq_false]
   intro x hx
   have := HX.out.2.2 x (by rw [List.take_of_length_le (by omega)]; exact hx)
   simp [this]
set_option maxHeartbeats 2000000 in
set_option maxRecDepth 100000 in
theorem cont_str (caps : Array Value) (p : ByteArray → Bool) (A0 : Option Addr) (c0 : Nat) (l0 : List ByteArray) (w : World) (hr0 : Kd.C Kd.string w A0 l0.length l0) (hc0 : l0.length ≤ c0)
  (hp : ∀ x, x ∈ l0 → ∀ W, Below w.heap.size w W → Calls Try.prog 56 (#[.string x] ++ caps) W fun e W' => e = .returned (.bool (p x)) ∧ Below W.heap.size W W') :
  Calls Try.prog 55 #[.slice A0 l0.length c0, .func (.func 56) #[] caps] w fun e w' => e = .returned (.bool (l0.any p)) ∧ Below w.heap.size w w' := by
 have HC := ak (fun (W : World) => idx_str caps p A0 c0 l0 w hr0 hc0 hp)
 clear hr0 hc0 hp
 go_enter Try.func55, Try.ntmps55
 go_wp2_with (go_at_call 78; refine (HC.out w).mono ?_; rintro e w8 ⟨v, rfl, hv, hb⟩)
 go_ret
 exact ⟨by rw [← hv.out]; rfl, hb⟩
set_option maxHeartbeats 4000000 in
set_option maxRecDepth 100000 in
theorem idx_wr (caps : Array Value) (p : S67 → Bool) (A0 : Option Addr) (c0 : Nat) (l0 : List S67) (w : World) (hr0 : Kd.C k67 w A0 l0.length l0) (hc0 : l0.length ≤ c0)
  (hp : ∀ x, x ∈ l0 → ∀ W, Below w.heap.size w W → Calls Try.prog 58 (#[.agg #[.int .i64 x.f0, .string x.f1]] ++ caps) W fun e W' => e = .returned (.bool (p x)) ∧ Below W.heap.size W W') :
  Calls Try.prog 79 #[.slice A0 l0.length c0, .func (.func 58) #[] caps] w fun e w' => ∃ v : Int, e = .returned (.int .i64 v) ∧ Aside0 (decide (0 ≤ v) = l0.any p) ∧ Below w.heap.size w w' := by
 have HR0 := Aside0.mk hr0
 have HC0 := Aside0.mk hc0
 have HP := Aside0.mk hp
 have hm : l0.length ≤ 9223372036854775807 := hr0.2.1
 clear hr0 hc0 hp
 have HB := ak (Below.refl w.heap.size w)
 go_enter Try.func79, Try.ntmps79
 go_wp2
 go_loopg [8] l0.length (fun kq v8 w' => ∃ x8 : Int, v8 = .int .i64 x8 ∧ Aside0 (0 ≤ x8 ∧ x8 + kq = l0.length ∧ ∀ x, x ∈ l0.take x8.toNat → p x = false) ∧ Aside0 (Below w.heap.size w w'))
 case atStart => exact ⟨0, by first | rfl | (simp; done), ⟨by omega, by omega, by simp⟩, ⟨by first | exact HB.out | exact Below.refl _ _⟩⟩
 case round =>
  obtain ⟨x8, rfl, HX, HB⟩ := hrel
  by_cases c4 : x8 < (l0.length : Int)
  ·have c4b0 : decide (x8 < (l0.length : Int)) = true := decide_eq_true c4
   have c5b0 : decide (0 ≤ x8) = true := decide_eq_true HX.out.1
   have hl : x8.toNat < l0.length := by have := HX.out.1; omega
   have hmem : rd_T67 l0 x8 ∈ l0 := by
    unfold rd_T67
    rw [List.getD_eq_getElem?_getD, List.getElem?_eq_getElem hl]
    exact List.getElem_mem hl
   have HQ := ak (fun W hW => HP.out _ hmem W hW)
   clear c4 hl hmem
   have p103 : 0 ≤ (x8 : Int) := of_decide_eq_true (by first | (with_reducible assumption) | assumption)
   have q103 : x8 < (l0.length : Int) := of_decide_eq_true (by first | (with_reducible assumption) | assumption)
   obtain ⟨ad103, e103, hx103_0, hx103_1⟩ := at_T67 HR0.out x8 p103 q103
   cases e103
   replace hx103_0 := (HB.out.cell (World.block_lt_of_cell? w _ hx103_0)).trans hx103_0
   replace hx103_1 := (HB.out.cell (World.block_lt_of_cell? w _ hx103_1)).trans hx103_1
   replace p103 := eq_true p103
   replace q103 := eq_true q103
   obtain ⟨b, hb0⟩ : ∃ b, p (rd_T67 l0 x8) = b := ⟨_, rfl⟩
   have HPB := Aside0.mk hb0
   rw [hb0] at HQ
   clear hb0
   cases b with
   | true =>
    go_wp2_with (go_at_call 58; refine (HQ.out _ HB.out).mono ?_; rintro e w8 ⟨rfl, hb⟩; replace HB := ak (below_step (by exact HB.out) hb); clear hb)
    go_ret
    have h0 : 0 ≤ x8 := HX.out.1
    have hl : x8.toNat < l0.length := by have := HX.out.1; have := of_eq_true q103; omega
    refine ⟨x8, rfl, ⟨?_⟩, HB.out⟩
    rw [decide_eq_true h0]
    symm
    rw [List.any_eq_true]
    refine ⟨rd_T67 l0 x8, ?_, HPB.out⟩
    unfold rd_T67
    rw [List.getD_eq_getElem?_getD, List.getElem?_eq_getElem hl]
    exact List.getElem_mem hl
   | false =>
    cases gk with
    | zero => exact absurd HX.out (by have := of_eq_true q103; omega)
    | succ k1 =>
    go_wp2_with (go_at_call 58; refine (HQ.out _ HB.out).mono ?_; rintro e w8 ⟨rfl, hb⟩; replace HB := ak (below_step (by exact HB.out) hb); clear hb)
    go_roundg k1
    case measure => omega
    case rel =>
     have h0 : 0 ≤ x8 := HX.out.1
     have h1 := HX.out.2.1
     have hl : x8.toNat < l0.length := by have := of_eq_true q103; omega
     have e1 : wrap64 (x8 + 1) = x8 + 1 := by unfold wrap64; omega
     refine ⟨x8 + 1, by first | rfl | (rw [e1]) | (simp [e1]; done), ⟨by omega, by omega, ?_⟩, HB⟩
     intro x hx
     rw [show (x8 + 1).toNat = x8.toNat + 1 by omega, List.take_succ_eq_append_getElem hl] at hx
     rcases List.mem_append.1 hx with hx | hx
     ·exact HX.out.2.2 x hx
     ·have hx' := List.mem_singleton.1 hx
      subst hx'
      have := HPB.out
      unfold rd_T67 at this
      rw [List.getD_eq_getElem?_getD, List.getElem?_eq_getElem hl] at this
      exact this
  ·have c4b0 : decide (x8 < (l0.length : Int)) = false := decide_eq_false c4
   clear c4
   go_wp2
   go_ret
   have h0 : 0 ≤ x8 := HX.out.1
   have h1 := HX.out.2.1
   have h2 := of_decide_eq_false c4b0
   refine ⟨-1, rfl, ⟨?_⟩, HB.out⟩
   symm
   rw [decide_eq_false (by omega)]
   rw [List.any_eq_false]
   intro x hx
   have := HX.out.2.2 x (by rw [List.take_of_length_le (by omega)]; exact hx)
   simp [this]
set_option maxHeartbeats 2000000 in
set_option maxRecDepth 100000 in
theorem cont_wr (caps : Array Value) (p : S67 → Bool) (A0 : Option Addr) (c0 : Nat) (l0 : List S67) (w : World) (hr0 : Kd.C k67 w A0 l0.length l0) (hc0 : l0.length ≤ c0)
  (hp : ∀ x, x ∈ l0 → ∀ W, Below w.heap.size w W → Calls Try.prog 58 (#[.agg #[.int .i64 x.f0, .string x.f1]] ++ caps) W fun e W' => e = .returned (.bool (p x)) ∧ Below W.heap.size W W') :
  Calls Try.prog 57 #[.slice A0 l0.length c0, .func (.func 58) #[] caps] w fun e w' => e = .returned (.bool (l0.any p)) ∧ Below w.heap.size w w' := by
 have HC := ak (fun (W : World) => idx_wr caps p A0 c0 l0 w hr0 hc0 hp)
 clear hr0 hc0 hp
 go_enter Try.func57, Try.ntmps57
 go_wp2_with (go_at_call 79; refine (HC.out w).mono ?_; rintro e w8 ⟨v, rfl, hv, hb⟩)
 go_ret
 exact ⟨by rw [← hv.out]; rfl, hb⟩
def wrBad (n0 : Nat) (x : S67) : Bool := !decide (0 ≤ x.f0 ∧ x.f0 ≤ (n0 : Int) - 1) || decide (x.f1.size ≠ 32)
def strBad (x : ByteArray) : Bool := decide (x.size ≠ 32)
theorem in_is (a b c : Int) : impl_in.f a b c = some (decide (b ≤ a ∧ a ≤ c)) := by
 unfold impl_in.f
 by_cases h : a ≥ b <;> by_cases h2 : a ≤ c <;> simp [h, h2] <;> omega
set_option maxHeartbeats 2000000 in
set_option maxRecDepth 100000 in
theorem clo_wr (gb n0 n1 c0 c1 : Nat) (A0 A1 : Option Addr) (x : S67) (W : World) (hn : n0 ≤ 100) (hb : W.heap[gb]? = some (.cells #[.slice A0 n0 c0, .slice A1 n1 c1] 30 (0, 0))) :
  Calls Try.prog 58 #[.agg #[.int .i64 x.f0, .string x.f1], .pointer (some ⟨gb, 0, none⟩)] W fun e W' => e = .returned (.bool (wrBad n0 x)) ∧ Below W.heap.size W W' := by
 obtain ⟨f0, f1⟩ := x
 have huW := Try.underlying67
 have huD := Try.underlying30
 have hi := in_is f0 0 ((n0 : Int) - 1)
 have hcz0 : W.cell? ⟨gb, 0, none⟩ = some (.slice A0 n0 c0) := (blk_cell hb 0).trans rfl
 have hcz1 : ∀ o, (W.alloc o).cell? ⟨gb, 0, none⟩ = some (.slice A0 n0 c0) := fun o => pw_cell_below (below_alloc (Below.refl _ _) o) hcz0
 have HA := ak (fun o => below_alloc (Below.refl W.heap.size W) o)
 clear hb hcz0
 by_cases h1 : 0 ≤ f0 ∧ f0 ≤ (n0 : Int) - 1
 ·rw [decide_eq_true h1] at hi
  have HI := Aside0.mk hi
  have HH := ak (show wrBad n0 ⟨f0, f1⟩ = decide (f1.size ≠ 32) by unfold wrBad; rw [decide_eq_true h1]; rfl)
  clear hi h1
  by_cases h2 : f1.size = 32
  ·have h3 : ((f1.size : Int) != 32) = false := by simp; omega
   have HH2 := Aside0.mk h2
   clear h2
   go_enter Try.func58, Try.ntmps58
   go_wp2_with (go_at_call 52; refine (impl_in.calls _ _ _ true _ HI.out).mono ?_; rintro e w8 ⟨rfl, ⟨nq, rfl⟩⟩)
   go_ret
   refine ⟨?_, ?_⟩
   ·rw [HH.out, decide_eq_false (by rw [HH2.out]; simp)]; rfl
   ·exact pw_below_drewN (HA.out _) _
  ·have h3 : ((f1.size : Int) != 32) = true := by simp; omega
   have HH2 := Aside0.mk h2
   clear h2
   go_enter Try.func58, Try.ntmps58
   go_wp2_with (go_at_call 52; refine (impl_in.calls _ _ _ true _ HI.out).mono ?_; rintro e w8 ⟨rfl, ⟨nq, rfl⟩⟩)
   go_ret
   refine ⟨?_, ?_⟩
   ·rw [HH.out, decide_eq_true HH2.out]; rfl
   ·exact pw_below_drewN (HA.out _) _
 ·rw [decide_eq_false h1] at hi
  have HI := Aside0.mk hi
  have HH := ak (show wrBad n0 ⟨f0, f1⟩ = true by unfold wrBad; rw [decide_eq_false h1]; rfl)
  clear hi h1
  go_enter Try.func58, Try.ntmps58
  go_wp2_with (go_at_call 52; refine (impl_in.calls _ _ _ false _ HI.out).mono ?_; rintro e w8 ⟨rfl, ⟨nq, rfl⟩⟩)
  go_ret
  refine ⟨?_, ?_⟩
  ·rw [HH.out]; rfl
  ·exact pw_below_drewN (HA.out _) _
set_option maxRecDepth 100000 in
theorem clo_str (x : ByteArray) (W : World) : Calls Try.prog 56 #[.string x] W fun e W' => e = .returned (.bool (strBad x)) ∧ Below W.heap.size W W' := by
 by_cases h2 : x.size = 32
 ·have h3 : ((x.size : Int) != 32) = false := by simp; omega
  have HH := ak (show strBad x = false by unfold strBad; rw [decide_eq_false (by rw [h2]; simp)])
  clear h2
  go_enter Try.func56, Try.ntmps56
  go_wp2
  go_ret
  exact ⟨by rw [HH.out]; rfl, Below.refl _ _⟩
 ·have h3 : ((x.size : Int) != 32) = true := by simp; omega
  have HH := ak (show strBad x = true by unfold strBad; rw [decide_eq_true h2])
  clear h2
  go_enter Try.func56, Try.ntmps56
  go_wp2
  go_ret
  exact ⟨by rw [HH.out]; rfl, Below.refl _ _⟩
def impl_DiskOk.f (l0_0 : List ByteArray) (l0_1 : List S67) : Option Bool := some (decide ((1 ≤ l0_0.length ∧ l0_0.length ≤ 100) ∧ l0_1.length ≤ 60) && (!l0_0.any strBad && !l0_1.any (wrBad l0_0.length)))
set_option maxHeartbeats 8000000 in
set_option maxRecDepth 100000 in
theorem impl_DiskOk.calls (A0_0 : Option Addr) (c0_0 : Nat) (l0_0 : List ByteArray) (A0_1 : Option Addr) (c0_1 : Nat) (l0_1 : List (S67)) (r : Bool) (w : World) (hr0_0 : Kd.C Kd.string w A0_0 l0_0.length l0_0) (hc0_0 : l0_0.length ≤ c0_0) (hr0_1 : Kd.C k67 w A0_1 l0_1.length l0_1) (hc0_1 : l0_1.length ≤ c0_1) (h : impl_DiskOk.f l0_0 l0_1 = some r) :
  Calls Try.prog 22 #[.agg #[.slice A0_0 l0_0.length c0_0, .slice A0_1 l0_1.length c0_1]] w fun e w' => e = .returned (.bool r) ∧ Below w.heap.size w w' := by
 have huD := Try.underlying30
 have hmf : ∀ (fn : Fn) (first cap : Array Value) (w : World), (Instr.makeFunc fn first cap).run Try.prog w = .ok (.func fn first cap) w := fun _ _ _ _ => rfl
 have HF := ak (Option.some.inj h)
 have HR0 := Aside0.mk hr0_0
 have HR1 := Aside0.mk hr0_1
 have HC0 := Aside0.mk hc0_0
 have HC1 := Aside0.mk hc0_1
 have HB := ak (Below.refl w.heap.size w)
 have hi := in_is (l0_0.length : Int) 1 100
 clear h hr0_0 hr0_1 hc0_0 hc0_1
 by_cases h1 : 1 ≤ l0_0.length ∧ l0_0.length ≤ 100
 ·rw [decide_eq_true (show 1 ≤ (l0_0.length : Int) ∧ (l0_0.length : Int) ≤ 100 by omega)] at hi
  have HI := Aside0.mk hi
  have HN := Aside0.mk h1
  clear hi h1
  by_cases h2 : l0_1.length ≤ 60
  ·have h3 : decide ((l0_1.length : Int) > 60) = false := by simp; omega
   have h3' : decide ((60 : Int) < (l0_1.length : Int)) = false := by simp; omega
   have h3'' : decide (60 < l0_1.length) = false := by simp; omega
   have HF2 := ak (show (!l0_0.any strBad && !l0_1.any (wrBad l0_0.length)) = r by have := HF.out; rw [decide_eq_true ⟨HN.out, h2⟩] at this; simpa using this)
   clear h2 HF
   obtain ⟨s, hs⟩ : ∃ s, l0_0.any strBad = s := ⟨_, rfl⟩
   have HS := Aside0.mk hs
   clear hs
   cases s with
   | true =>
    have HR := ak (show false = r by have := HF2.out; rw [HS.out] at this; simpa using this)
    clear HF2
    go_enter Try.func22, Try.ntmps22
    go_wp2_with (first
     | ((with_reducible refine gate_dst (N := 1) rfl ?_); refine box_event ?hg (N := 1) ?hd (cs := #[.slice A0_0 l0_0.length c0_0, .slice A0_1 l0_1.length c0_1]) (t := 30) ?hr ?_; (case hd => rfl); (case hg => rfl); (case hr => first | (go_simp; done) | (go_simp; rfl)); intro gb hg w5 hbox hb; have BK := Aside0.mk hbox; replace HB := ak (below_step HB.out hb); clear hg hbox hb; have hcz0 : w5.cell? ⟨gb, 0, none⟩ = some (.slice A0_0 l0_0.length c0_0) := (blk_cell BK.out 0).trans rfl; have hcz1 : w5.cell? ⟨gb, 1, none⟩ = some (.slice A0_1 l0_1.length c0_1) := (blk_cell BK.out 1).trans rfl)
     | (go_at_call 52; refine (impl_in.calls _ _ _ true _ HI.out).mono ?_; rintro e w8 ⟨rfl, ⟨nq, rfl⟩⟩; have n0_ := ak (pw_below_drewN HB.out nq); have n1_ := ak (blk_drewN BK.out nq); clear HB BK; generalize World.drewN w5 nq = w6 at n0_ n1_ ⊢; have HB := n0_; have BK := n1_; clear n0_ n1_; have hcy0 : w6.cell? ⟨gb, 0, none⟩ = some (.slice A0_0 l0_0.length c0_0) := (blk_cell BK.out 0).trans rfl; have hcy1 : w6.cell? ⟨gb, 1, none⟩ = some (.slice A0_1 l0_1.length c0_1) := (blk_cell BK.out 1).trans rfl)
     | (go_at_call 55; refine (cont_str #[] strBad _ _ l0_0 _ (Kd.C_below HR0.out HB.out) HC0.out (fun x _ W _ => clo_str x W)).mono ?_; rintro e w9 ⟨rfl, hb⟩; replace HB := ak (below_step HB.out hb); clear hb; have hs1 := HS.out))
    go_ret
    exact ⟨by rw [← HR.out]; rfl, HB.out⟩
   | false =>
    have HR := ak (show (!l0_1.any (wrBad l0_0.length)) = r by have := HF2.out; rw [HS.out] at this; simpa using this)
    clear HF2
    go_enter Try.func22, Try.ntmps22
    go_wp2_with (first
     | ((with_reducible refine gate_dst (N := 1) rfl ?_); refine box_event ?hg (N := 1) ?hd (cs := #[.slice A0_0 l0_0.length c0_0, .slice A0_1 l0_1.length c0_1]) (t := 30) ?hr ?_; (case hd => rfl); (case hg => rfl); (case hr => first | (go_simp; done) | (go_simp; rfl)); intro gb hg w5 hbox hb; have BK := Aside0.mk hbox; replace HB := ak (below_step HB.out hb); clear hg hbox hb; have hcz0 : w5.cell? ⟨gb, 0, none⟩ = some (.slice A0_0 l0_0.length c0_0) := (blk_cell BK.out 0).trans rfl; have hcz1 : w5.cell? ⟨gb, 1, none⟩ = some (.slice A0_1 l0_1.length c0_1) := (blk_cell BK.out 1).trans rfl)
     | (go_at_call 52; refine (impl_in.calls _ _ _ true _ HI.out).mono ?_; rintro e w8 ⟨rfl, ⟨nq, rfl⟩⟩; have n0_ := ak (pw_below_drewN HB.out nq); have n1_ := ak (blk_drewN BK.out nq); clear HB BK; generalize World.drewN w5 nq = w6 at n0_ n1_ ⊢; have HB := n0_; have BK := n1_; clear n0_ n1_; have hcy0 : w6.cell? ⟨gb, 0, none⟩ = some (.slice A0_0 l0_0.length c0_0) := (blk_cell BK.out 0).trans rfl; have hcy1 : w6.cell? ⟨gb, 1, none⟩ = some (.slice A0_1 l0_1.length c0_1) := (blk_cell BK.out 1).trans rfl)
     | (go_at_call 55; refine (cont_str #[] strBad _ _ l0_0 _ (Kd.C_below HR0.out HB.out) HC0.out (fun x _ W _ => clo_str x W)).mono ?_; rintro e w9 ⟨rfl, hb⟩; have n0_ := ak (below_step HB.out hb); have n1_ := ak (blk_below (g := gb) (o := .cells #[.slice A0_0 l0_0.length c0_0, .slice A0_1 l0_1.length c0_1] 30 (0, 0)) BK.out hb); clear HB BK; have HB := n0_; have BK := n1_; clear n0_ n1_ hb; have hs1 := HS.out; have hcx0 : w9.cell? ⟨gb, 0, none⟩ = some (.slice A0_0 l0_0.length c0_0) := (blk_cell BK.out 0).trans rfl; have hcx1 : w9.cell? ⟨gb, 1, none⟩ = some (.slice A0_1 l0_1.length c0_1) := (blk_cell BK.out 1).trans rfl)
     | (go_at_call 57; refine (cont_wr #[.pointer (some ⟨gb, 0, none⟩)] (wrBad l0_0.length) _ _ l0_1 _ (Kd.C_below HR1.out HB.out) HC1.out (fun x _ W hW => clo_wr gb _ _ _ _ _ _ x W HN.out.2 (blk_below (g := gb) (o := .cells #[.slice A0_0 l0_0.length c0_0, .slice A0_1 l0_1.length c0_1] 30 (0, 0)) BK.out hW))).mono ?_; rintro e w10 ⟨rfl, hb⟩; replace HB := ak (below_step HB.out hb); clear hb))
    go_ret
    exact ⟨by rw [← HR.out]; rfl, HB.out⟩
  ·have h3 : decide ((l0_1.length : Int) > 60) = true := by simp; omega
   have h3' : decide ((60 : Int) < (l0_1.length : Int)) = true := by simp; omega
   have h3'' : decide (60 < l0_1.length) = true := by simp; omega
   have HR := ak (show false = r by have := HF.out; rw [decide_eq_false (fun hh => h2 hh.2)] at this; simpa using this)
   clear h2 HF
   go_enter Try.func22, Try.ntmps22
   go_wp2_with (first
     | ((with_reducible refine gate_dst (N := 1) rfl ?_); refine box_event ?hg (N := 1) ?hd (cs := #[.slice A0_0 l0_0.length c0_0, .slice A0_1 l0_1.length c0_1]) (t := 30) ?hr ?_; (case hd => rfl); (case hg => rfl); (case hr => first | (go_simp; done) | (go_simp; rfl)); intro gb hg w5 hbox hb; have BK := Aside0.mk hbox; replace HB := ak (below_step HB.out hb); clear hg hbox hb; have hcz0 : w5.cell? ⟨gb, 0, none⟩ = some (.slice A0_0 l0_0.length c0_0) := (blk_cell BK.out 0).trans rfl; have hcz1 : w5.cell? ⟨gb, 1, none⟩ = some (.slice A0_1 l0_1.length c0_1) := (blk_cell BK.out 1).trans rfl)
     | (go_at_call 52; refine (impl_in.calls _ _ _ true _ HI.out).mono ?_; rintro e w8 ⟨rfl, ⟨nq, rfl⟩⟩; have n0_ := ak (pw_below_drewN HB.out nq); have n1_ := ak (blk_drewN BK.out nq); clear HB BK; generalize World.drewN w5 nq = w6 at n0_ n1_ ⊢; have HB := n0_; have BK := n1_; clear n0_ n1_; have hcy0 : w6.cell? ⟨gb, 0, none⟩ = some (.slice A0_0 l0_0.length c0_0) := (blk_cell BK.out 0).trans rfl; have hcy1 : w6.cell? ⟨gb, 1, none⟩ = some (.slice A0_1 l0_1.length c0_1) := (blk_cell BK.out 1).trans rfl))
   go_ret
   exact ⟨by rw [← HR.out]; rfl, HB.out⟩
 ·rw [decide_eq_false (show ¬ (1 ≤ (l0_0.length : Int) ∧ (l0_0.length : Int) ≤ 100) by omega)] at hi
  have HI := Aside0.mk hi
  have HR := ak (show false = r by have := HF.out; rw [decide_eq_false (fun hh => h1 hh.1)] at this; simpa using this)
  clear hi h1 HF
  go_enter Try.func22, Try.ntmps22
  go_wp2_with (first
     | ((with_reducible refine gate_dst (N := 1) rfl ?_); refine box_event ?hg (N := 1) ?hd (cs := #[.slice A0_0 l0_0.length c0_0, .slice A0_1 l0_1.length c0_1]) (t := 30) ?hr ?_; (case hd => rfl); (case hg => rfl); (case hr => first | (go_simp; done) | (go_simp; rfl)); intro gb hg w5 hbox hb; have BK := Aside0.mk hbox; replace HB := ak (below_step HB.out hb); clear hg hbox hb; have hcz0 : w5.cell? ⟨gb, 0, none⟩ = some (.slice A0_0 l0_0.length c0_0) := (blk_cell BK.out 0).trans rfl; have hcz1 : w5.cell? ⟨gb, 1, none⟩ = some (.slice A0_1 l0_1.length c0_1) := (blk_cell BK.out 1).trans rfl)
     | (go_at_call 52; refine (impl_in.calls _ _ _ false _ HI.out).mono ?_; rintro e w8 ⟨rfl, ⟨nq, rfl⟩⟩; have n0_ := ak (pw_below_drewN HB.out nq); have n1_ := ak (blk_drewN BK.out nq); clear HB BK; generalize World.drewN w5 nq = w6 at n0_ n1_ ⊢; have HB := n0_; have BK := n1_; clear n0_ n1_; have hcy0 : w6.cell? ⟨gb, 0, none⟩ = some (.slice A0_0 l0_0.length c0_0) := (blk_cell BK.out 0).trans rfl; have hcy1 : w6.cell? ⟨gb, 1, none⟩ = some (.slice A0_1 l0_1.length c0_1) := (blk_cell BK.out 1).trans rfl))
  go_ret
  exact ⟨by rw [← HR.out]; rfl, HB.out⟩

/-! ### slices_Clone_string_string: function 80 -/
def slices_Clone_string_string.f (l0 : List ByteArray) : Option (List ByteArray) := (some (([] : List ByteArray) : List ByteArray)).bind fun y209 => (if y209.length + l0.length < 8796093022208 then (some (y209 ++ l0)) else (none))
set_option maxHeartbeats 8000000 in
set_option maxRecDepth 100000 in
theorem slices_Clone_string_string.calls (A0 : Option Addr) (c0 : Nat) (l0 : List ByteArray) (r : List ByteArray) (w : World) (hr0 : Kd.C Kd.string w A0 l0.length l0) (hc0 : l0.length ≤ c0) (h : slices_Clone_string_string.f l0 = some r) :
  Calls Try.prog 80 #[.slice A0 l0.length c0] w fun e w' => ∃ v0_ : Value, e = .returned (v0_) ∧ Kd.R Kd.string 9 w' w.heap.size (fun _ => True) v0_ r ∧ Below w.heap.size w w' := by
 cases A0 with
 | none =>
  have hl_ : l0 = [] := by
   cases l0 with
   | nil => rfl
   | cons x_ t_ => (obtain ⟨ad_, h0_, _⟩ := hr0.2.2 (by simp); cases h0_)
  subst hl_
  have hr_ : [] = r := by simpa [slices_Clone_string_string.f] using h
  subst hr_
  have hnil_ := fun W_ : World => Lib.run_eql_slice_nil (P := Try.prog) W_ 22 9 none 0 c0 0 0 Try.underlying22
  go_enter Try.func80, Try.ntmps80
  go_wp2
  go_ret
  exact ⟨.slice none 0 0, rfl, Kd.R_nil _ _ _ _ _, Below.refl _ _⟩
 | some a0_ =>
 have hnil_ := fun W_ : World => Lib.run_eql_slice_nil (P := Try.prog) W_ 22 9 (some a0_) l0.length c0 0 0 Try.underlying22
 have HR0 := Aside0.mk hr0
 have HC0 := Aside0.mk hc0
 clear hr0 hc0
 have HB := ak (Below.refl w.heap.size w)
 have H : ((some (([] : List ByteArray) : List ByteArray)).bind fun y209 => (if y209.length + l0.length < 8796093022208 then (some (y209 ++ l0)) else (none))) = some r := h
 clear h
 obtain ⟨y209, hy209⟩ : ∃ y_ : List ByteArray, y_ = (([] : List ByteArray)) := ⟨_, rfl⟩
 replace H : (if y209.length + l0.length < 8796093022208 then (some (y209 ++ l0)) else (none)) = some r := by first | (rw [hy209]; with_reducible exact H) | (have H2_ := (Option.bind_some _ _).symm.trans H; rw [hy209]; with_reducible exact H2_) | (have H2_ := (Option.bind_some _ _).symm.trans H; with_reducible exact H2_) | with_reducible exact H | (rw [hy209]; exact H) | exact H
 have Ny209 := Aside0.mk hy209
 clear hy209
 by_cases c2 : y209.length + l0.length < 8796093022208
 ·rw [if_pos c2] at H
  have LMc2 := Aside0.mk c2
  clear c2
  obtain ⟨y212, hy212⟩ : ∃ y_ : List ByteArray, y_ = (y209 ++ l0) := ⟨_, rfl⟩
  replace H : (some y212) = some r := by first | (rw [hy212]; with_reducible exact H) | (have H2_ := (Option.bind_some _ _).symm.trans H; rw [hy212]; with_reducible exact H2_) | (have H2_ := (Option.bind_some _ _).symm.trans H; with_reducible exact H2_) | with_reducible exact H | (rw [hy212]; exact H) | exact H
  have Ny212 := Aside0.mk hy212
  clear hy212
  obtain rfl := Option.some.inj H
  go_enter Try.func80, Try.ntmps80
  go_wp2_with (first | ((with_reducible refine gate_dst (N := 5) rfl ?_); refine Kd.R_lit Kd.string _ 9 ?hg (N := 5) ?hd (xs := ([] : List ByteArray)) (inner := []) (ok := fun _ => True) (okp := fun _ => True) ?hr ?hp (fun _ hk => hk) trivial (Below.refl _ _) (Nat.le_refl _) (by simp) ?_; (case hd => rfl); (case hg => rfl); (case hr => first | (go_simp; done) | (go_simp; rfl)); (case hp => exact (Reps.none _ _)); intro v210 w3 ho4 hb hg_ hnew_; clear hg_ hnew_; (first | rw [← Ny209.out] at ho4 | (simp only [Int.reduceToNat] at ho4; rw [← Ny209.out] at ho4)); replace HO211 := ak (Kd.R_lower ho4 (below_size (lG HB))); replace HB := lB HB hb; clear hb ho4) | ((with_reducible refine gate_builtin (b := .append) (xs := #[.tmp 5, .tmp 6]) rfl ?_); at_builtin; refine Kd.R_append_rows Kd.string (w0 := w) w.heap.size rfl (.tmp 5) (.tmp 6) 22 9 (.string ⟨#[]⟩) 16 rfl Try.underlying22 info9 rfl (by decide) (by omega) v210 y209 l0 _ _ _ (fun _ => True) (fun _ => False) rfl rfl ?aO ?aR (fun _ _ h => h) (fun _ h => h.elim) ?aF ?aB ?aS ?aL ?_; (case aR => exact cG (Kd.C_below HR0.out HB.out)); (case aB => exact (lG HB)); (case aF => exact (fun _ _ => trivial)); (case aO => exact (rG HO211)); (case aS => exact (below_size (lG HB))); (case aL => have := LMc2.out; omega); intro v213 w5 ho hb hg hat; rw [← Ny212.out] at ho; have n0_ := ak (hb); have n1_ := ak (ho); clear HB; clear HO211; have HB := n0_; have HO214 := n1_; clear n0_ n1_; clear ho hb hg hat))
  go_ret
  exact ⟨_, by first | rfl | (simp [errW_none, errW_some] <;> rfl) | (simp [*, errW_none, errW_some] <;> rfl), by (with_reducible repeat (first | apply Kd.R_alloc | apply Kd.R_drewN | apply Kd.R_drew)); exact HO214.out, by exact lG HB⟩
 ·rw [if_neg c2] at H
  exact absurd H (by simp)

/-! ### impl_Write_81: function 81 -/
def impl_Write_81.f (l0 : List (S67)) : Option ((List (S67))) := (some (([] : List (S67)) : List (S67))).bind fun y215 => (if y215.length + l0.length < 5864062014805 then (some (y215 ++ l0)) else (none))
set_option maxHeartbeats 8000000 in
set_option maxRecDepth 100000 in
theorem impl_Write_81.calls (A0 : Option Addr) (c0 : Nat) (l0 : List (S67)) (r : List (S67)) (w : World) (hr0 : Kd.C k67 w A0 l0.length l0) (hc0 : l0.length ≤ c0) (h : impl_Write_81.f l0 = some r) :
  Calls Try.prog 81 #[.slice A0 l0.length c0] w fun e w' => ∃ v0_ : Value, e = .returned (v0_) ∧ Kd.R k67 67 w' w.heap.size (fun _ => True) v0_ r ∧ Below w.heap.size w w' := by
 cases A0 with
 | none =>
  have hl_ : l0 = [] := by
   cases l0 with
   | nil => rfl
   | cons x_ t_ => (obtain ⟨ad_, h0_, _⟩ := hr0.2.2 (by simp); cases h0_)
  subst hl_
  have hr_ : [] = r := by simpa [impl_Write_81.f] using h
  subst hr_
  have hnil_ := fun W_ : World => Lib.run_eql_slice_nil (P := Try.prog) W_ 28 67 none 0 c0 0 0 Try.underlying28
  go_enter Try.func81, Try.ntmps81
  go_wp2
  go_ret
  exact ⟨.slice none 0 0, rfl, Kd.R_nil _ _ _ _ _, Below.refl _ _⟩
 | some a0_ =>
 have hnil_ := fun W_ : World => Lib.run_eql_slice_nil (P := Try.prog) W_ 28 67 (some a0_) l0.length c0 0 0 Try.underlying28
 have HR0 := Aside0.mk hr0
 have HC0 := Aside0.mk hc0
 clear hr0 hc0
 have HB := ak (Below.refl w.heap.size w)
 have H : ((some (([] : List (S67)) : List (S67))).bind fun y215 => (if y215.length + l0.length < 5864062014805 then (some (y215 ++ l0)) else (none))) = some r := h
 clear h
 obtain ⟨y215, hy215⟩ : ∃ y_ : List (S67), y_ = (([] : List (S67))) := ⟨_, rfl⟩
 replace H : (if y215.length + l0.length < 5864062014805 then (some (y215 ++ l0)) else (none)) = some r := by first | (rw [hy215]; with_reducible exact H) | (have H2_ := (Option.bind_some _ _).symm.trans H; rw [hy215]; with_reducible exact H2_) | (have H2_ := (Option.bind_some _ _).symm.trans H; with_reducible exact H2_) | with_reducible exact H | (rw [hy215]; exact H) | exact H
 have Ny215 := Aside0.mk hy215
 clear hy215
 by_cases c2 : y215.length + l0.length < 5864062014805
 ·rw [if_pos c2] at H
  have LMc2 := Aside0.mk c2
  clear c2
  obtain ⟨y218, hy218⟩ : ∃ y_ : List (S67), y_ = (y215 ++ l0) := ⟨_, rfl⟩
  replace H : (some y218) = some r := by first | (rw [hy218]; with_reducible exact H) | (have H2_ := (Option.bind_some _ _).symm.trans H; rw [hy218]; with_reducible exact H2_) | (have H2_ := (Option.bind_some _ _).symm.trans H; with_reducible exact H2_) | with_reducible exact H | (rw [hy218]; exact H) | exact H
  have Ny218 := Aside0.mk hy218
  clear hy218
  obtain rfl := Option.some.inj H
  go_enter Try.func81, Try.ntmps81
  go_wp2_with (first | ((with_reducible refine gate_dst (N := 5) rfl ?_); refine Kd.R_lit k67 _ 67 ?hg (N := 5) ?hd (xs := ([] : List (S67))) (inner := []) (ok := fun _ => True) (okp := fun _ => True) ?hr ?hp (fun _ hk => hk) trivial (Below.refl _ _) (Nat.le_refl _) (by simp) ?_; (case hd => rfl); (case hg => rfl); (case hr => first | (go_simp; done) | (go_simp; rfl)); (case hp => exact (Reps.none _ _)); intro v216 w3 ho4 hb hg_ hnew_; clear hg_ hnew_; (first | rw [← Ny215.out] at ho4 | (simp only [Int.reduceToNat] at ho4; rw [← Ny215.out] at ho4)); replace HO217 := ak (Kd.R_lower ho4 (below_size (lG HB))); replace HB := lB HB hb; clear hb ho4) | ((with_reducible refine gate_builtin (b := .append) (xs := #[.tmp 5, .tmp 6]) rfl ?_); at_builtin; refine Kd.R_append_rows k67 (w0 := w) w.heap.size rfl (.tmp 5) (.tmp 6) 28 67 (.agg #[(.int .i64 0), (.string ⟨#[]⟩)]) 24 rfl Try.underlying28 info67 rfl (by decide) (by omega) v216 y215 l0 _ _ _ (fun _ => True) (fun _ => False) rfl rfl ?aO ?aR (fun _ _ h => h) (fun _ h => h.elim) ?aF ?aB ?aS ?aL ?_; (case aR => exact cG (Kd.C_below HR0.out HB.out)); (case aB => exact (lG HB)); (case aF => exact (fun _ _ => trivial)); (case aO => exact (rG HO217)); (case aS => exact (below_size (lG HB))); (case aL => have := LMc2.out; omega); intro v219 w5 ho hb hg hat; rw [← Ny218.out] at ho; have n0_ := ak (hb); have n1_ := ak (ho); clear HB; clear HO217; have HB := n0_; have HO220 := n1_; clear n0_ n1_; clear ho hb hg hat))
  go_ret
  exact ⟨_, by first | rfl | (simp [errW_none, errW_some] <;> rfl) | (simp [*, errW_none, errW_some] <;> rfl), by (with_reducible repeat (first | apply Kd.R_alloc | apply Kd.R_drewN | apply Kd.R_drew)); exact HO220.out, by exact lG HB⟩
 ·rw [if_neg c2] at H
  exact absurd H (by simp)

/-! ### impl_cloneDisk: function 62 -/
def impl_cloneDisk.f (l0_0 : List ByteArray) (l0_1 : List (S67)) : Option (List ByteArray × (List (S67))) := (slices_Clone_string_string.f l0_0).bind fun t223 => ((impl_Write_81.f l0_1).bind fun t226 => (some (t223, t226)))
def impl_cloneDisk.T1 : Bool × List (List Nat × List Nat) := (true, [([], []), ([0], [0]), ([1], [1]), ([], []), ([3], [3]), ([4, 2], [4]), ([2, 5], [2, 5]), ([6, 5, 0, 1, 2, 3, 4, 5, 6], [6])])
def impl_cloneDisk.B1 : List Nat := [0, 1, 3, 0, 8, 31, 63, 127]
theorem impl_cloneDisk.tab1 : rtab .any (opsOf Try.f62 1) = impl_cloneDisk.T1 := by kernel_rfl
theorem impl_cloneDisk.bits1 : waitsOk impl_cloneDisk.T1.2 impl_cloneDisk.B1 = true := by kernel_rfl
set_option maxHeartbeats 8000000 in
set_option maxRecDepth 100000 in
theorem impl_cloneDisk.calls (A0_0 : Option Addr) (c0_0 : Nat) (l0_0 : List ByteArray) (A0_1 : Option Addr) (c0_1 : Nat) (l0_1 : List (S67)) (r1 : List ByteArray) (r2 : List (S67)) (w : World) (hr0_0 : Kd.C Kd.string w A0_0 l0_0.length l0_0) (hc0_0 : l0_0.length ≤ c0_0) (hr0_1 : Kd.C k67 w A0_1 l0_1.length l0_1) (hc0_1 : l0_1.length ≤ c0_1) (h : impl_cloneDisk.f l0_0 l0_1 = some (r1, r2)) :
  Calls Try.prog 62 #[.agg #[.slice A0_0 l0_0.length c0_0, .slice A0_1 l0_1.length c0_1]] w fun e w' => ∃ v0_ v1_ : Value, e = .returned (.agg #[v0_, v1_]) ∧ Kd.R Kd.string 9 w' w.heap.size (fun _ => True) v0_ r1 ∧ Kd.R k67 67 w' w.heap.size (fun _ => True) v1_ r2 ∧ Below w.heap.size w w' := by
 have hu30 := Try.underlying30
 have HR0_0 := Aside0.mk hr0_0
 have HC0_0 := Aside0.mk hc0_0
 clear hr0_0 hc0_0
 have HR0_1 := Aside0.mk hr0_1
 have HC0_1 := Aside0.mk hc0_1
 clear hr0_1 hc0_1
 have HB := ak (Below.refl w.heap.size w)
 have H : ((slices_Clone_string_string.f l0_0).bind fun t223 => ((impl_Write_81.f l0_1).bind fun t226 => (some (t223, t226)))) = some (r1, r2) := h
 clear h
 replace H := Option.bind_eq_some_iff.mp H
 obtain ⟨t223, A20, H⟩ := H
 replace H : ((impl_Write_81.f l0_1).bind fun t226 => (some (t223, t226))) = some (r1, r2) := H
 have A2 := Aside0.mk A20
 clear A20
 replace H := Option.bind_eq_some_iff.mp H
 obtain ⟨t226, A30, H⟩ := H
 replace H : (some (t223, t226)) = some (r1, r2) := H
 have A3 := Aside0.mk A30
 clear A30
 simp only [Option.some.injEq, Prod.mk.injEq] at H
 obtain ⟨rfl, rfl⟩ := H
 go_enter Try.func62, Try.ntmps62
 try go_wp2_with (first | ((with_reducible refine gate_dst (N := 1) rfl ?_); refine box_event ?hg (N := 1) ?hd (cs := #[.slice A0_0 l0_0.length c0_0, .slice A0_1 l0_1.length c0_1]) (t := 30) ?hr ?_; (case hd => rfl); (case hg => rfl); (case hr => first | (go_simp; done) | (go_simp; rfl)); intro gb221 hg w4 hbox hb; replace BK221 := ak (hbox); replace GW221 := ak ((by rw [hg]; exact (below_size (lG HB)) : w.heap.size ≤ gb221)); replace GE221 := ak ((by rw [hg]; exact (below_size (lG HB)) : w.heap.size ≤ gb221)); replace HB := lB HB hb; clear hb hbox hg) | ((with_reducible refine gate_dst (N := 2) rfl ?_); refine box_event ?hg (N := 2) ?hd (cs := #[.slice none 0 0, .slice none 0 0]) (t := 30) ?hr ?_; (case hd => rfl); (case hg => rfl); (case hr => first | (go_simp; done) | (go_simp; rfl)); intro gb222 hg w5 hbox hb; replace BK222 := ak (hbox); replace GW222 := ak ((by rw [hg]; exact (below_size (lT HB (gC GE221 gN))) : w.heap.size ≤ gb222)); replace GE222 := ak ((by rw [hg]; exact (below_size (lT HB (gC GE221 gN))) : w.heap.size ≤ gb222)); replace HB := ak (below_step (lT HB (gC GE221 gN)) hb); replace NB221_222 := ak ((by rw [hg]; exact Nat.ne_of_lt (blk_lt (bG BK221)) : gb221 ≠ gb222)); replace NB222_221 := ak ((by rw [hg]; exact Nat.ne_of_gt (blk_lt (bG BK221)) : gb222 ≠ gb221)); replace BK221 := bB BK221 hb; clear hb hbox hg))
 have n0_ := ak (blk_drew BK221.out)
 have n1_ := ak (blk_drew BK222.out)
 have n2_ := ak (below_drew1 HB.out)
 clear BK221
 clear BK222
 clear HB
 have BK221 := n0_
 have BK222 := n1_
 have HB := n2_
 clear n0_ n1_ n2_
 refine start_ (n := 8) (S := fun w' => w'.cell? ⟨gb221, 0, none⟩ = some (.slice A0_0 l0_0.length c0_0) ∧ w'.cell? ⟨gb221, 1, none⟩ = some (.slice A0_1 l0_1.length c0_1)) (ds := []) #[false, false, false, false, false, false, false, false] (by kernel_rfl) rfl rfl ⟨(blk_cell BK221.out 0).trans rfl, (blk_cell BK221.out 1).trans rfl⟩ (fun hHeld => ?_); refine with_tabW impl_cloneDisk.tab1 impl_cloneDisk.bits1 (fun HT_ HW_ => ?_)
 generalize w5.drew = w6 at BK221 BK222 HB hHeld ⊢
 refine pure_ (i := 0) (N := some 3) (v := ?_) (a' := ?_) #[true, false, false, false, false, false, false, false] rfl rfl (any_of HT_.out (by kernel_rfl)) (fun _ _ _ h => h) (Or.inl ⟨by rfl, ?_⟩) ?_ ?_
 rotate_left
 ·intro w'
  go_simp
  with_reducible rfl
 rotate_left
 ·simp only [Act.put, List.setIfInBounds_toArray, List.set_cons_zero, List.set_cons_succ, i64_w, i32_w]
  rfl
 refine pure_ (i := 3) (N := some 6) (v := ?_) (a' := ?_) #[true, false, false, true, false, false, false, false] rfl rfl (any_of HT_.out (by kernel_rfl)) (fun _ _ _ h => h) (Or.inl ⟨by rfl, ?_⟩) ?_ ?_
 rotate_left
 ·intro w'
  go_simp
  with_reducible rfl
 rotate_left
 ·simp only [Act.put, List.setIfInBounds_toArray, List.set_cons_zero, List.set_cons_succ, i64_w, i32_w]
  rfl
 refine take_ (i := 1) (N := some 4) (v := ?_) (a' := ?_) #[true, true, false, true, false, false, false, false] rfl rfl (take_ofW HT_.out HW_.out (by kernel_rfl)) (fun _ _ _ h => h) (Or.inl ⟨by rfl, ?_⟩) hHeld ?_ ?_
 rotate_left
 ·rintro w' ⟨s0, s1⟩
  go_simp
  with_reducible rfl
 rotate_left
 ·simp only [Act.put, List.setIfInBounds_toArray, List.set_cons_zero, List.set_cons_succ, i64_w, i32_w]
  rfl
 refine take_ (i := 4) (N := some 7) (v := ?_) (a' := ?_) #[true, true, false, true, true, false, false, false] rfl rfl (take_ofW HT_.out HW_.out (by kernel_rfl)) (fun _ _ _ h => h) (Or.inl ⟨by rfl, ?_⟩) hHeld ?_ ?_
 rotate_left
 ·rintro w' ⟨s0, s1⟩
  go_simp
  with_reducible rfl
 rotate_left
 ·simp only [Act.put, List.setIfInBounds_toArray, List.set_cons_zero, List.set_cons_succ, i64_w, i32_w]
  rfl
 refine one_ (i := 2) (N := some 5) #[true, true, true, true, true, false, false, false] rfl rfl (one_of HT_.out (by kernel_rfl)) (by decide) (fun K hK => ?_)
 refine goes_ Try.func80 (by kernel_rfl) rfl #[.slice A0_0 l0_0.length c0_0] (by rfl) rfl rfl (by (try simp only [List.map_toArray, List.map_cons, List.map_nil]); first | done | rfl | (simp only [List.length_drop, List.length_take]; rfl)) ?_
 with_reducible refine (slices_Clone_string_string.calls _ _ l0_0 t223 _ ?side1 ?side2 A2.out).mono ?_
 (case side1 => exact cG (Kd.C_below HR0_0.out HB.out))
 (case side2 => exact HC0_0.out)
 rintro e w7 ⟨v224, rfl, ho0, hb⟩
 refine ⟨_, rfl, ?_⟩
 have n0_ := ak (Kd.R_lower ho0 (below_size (lT HB (gC GE221 (gC GE222 gN)))))
 have n1_ := ak (blk_below (bG BK221) hb)
 have n2_ := ak (blk_below (bG BK222) hb)
 have n3_ := ak (below_step (lT HB (gC GE221 (gC GE222 gN))) hb)
 clear BK221
 clear BK222
 clear HB
 have HO225 := n0_
 have BK221 := n1_
 have BK222 := n2_
 have HB := n3_
 clear n0_ n1_ n2_ n3_
 (try clear hb)
 (try clear hb2)
 (try clear hk)
 (try clear hi)
 (try clear ho0)
 refine hK.out _ _ ⟨(blk_cell BK221.out 0).trans rfl, (blk_cell BK221.out 1).trans rfl⟩ (fun hHeld => ?_)
 clear hK K
 refine norm_ (a' := ?_) ?_ ?_
 rotate_left
 ·show Act.put _ (some 5) _ = _
  simp only [Act.put, List.setIfInBounds_toArray, List.set_cons_zero, List.set_cons_succ, i64_w, i32_w]
  rfl
 refine one_ (i := 5) (N := some 8) #[true, true, true, true, true, true, false, false] rfl rfl (one_of HT_.out (by kernel_rfl)) (by decide) (fun K hK => ?_)
 refine goes_ Try.func81 (by kernel_rfl) rfl #[.slice A0_1 l0_1.length c0_1] (by rfl) rfl rfl (by (try simp only [List.map_toArray, List.map_cons, List.map_nil]); first | done | rfl | (simp only [List.length_drop, List.length_take]; rfl)) ?_
 with_reducible refine (impl_Write_81.calls _ _ l0_1 t226 _ ?side1 ?side2 A3.out).mono ?_
 (case side1 => exact cG (Kd.C_below HR0_1.out HB.out))
 (case side2 => exact HC0_1.out)
 rintro e w8 ⟨v227, rfl, ho0, hb⟩
 refine ⟨_, rfl, ?_⟩
 have n0_ := ak (Kd.R_below (rG HO225) hb)
 have n1_ := ak (Kd.R_lower ho0 (below_size (lT HB (gC GE221 (gC GE222 gN)))))
 have n2_ := ak (blk_below (bG BK221) hb)
 have n3_ := ak (blk_below (bG BK222) hb)
 have n4_ := ak (below_step (lT HB (gC GE221 (gC GE222 gN))) hb)
 clear HO225
 clear BK221
 clear BK222
 clear HB
 have HO225 := n0_
 have HO228 := n1_
 have BK221 := n2_
 have BK222 := n3_
 have HB := n4_
 clear n0_ n1_ n2_ n3_ n4_
 (try clear hb)
 (try clear hb2)
 (try clear hk)
 (try clear hi)
 (try clear ho0)
 obtain ⟨Ao9, co9, eo9⟩ := Kd.R_slice HO228.out
 (first | subst eo9 | (injection eo9 with f1_ f2_ f3_; have f4_ := f1_.symm; have f5_ := f3_.symm; clear f1_ f2_ f3_; subst f4_; subst f5_))
 obtain ⟨Ao10, co10, eo10⟩ := Kd.R_slice HO225.out
 (first | subst eo10 | (injection eo10 with f1_ f2_ f3_; have f4_ := f1_.symm; have f5_ := f3_.symm; clear f1_ f2_ f3_; subst f4_; subst f5_))
 refine hK.out _ _ ⟨(blk_cell BK221.out 0).trans rfl, (blk_cell BK221.out 1).trans rfl⟩ (fun hHeld => ?_)
 clear hK K
 refine norm_ (a' := ?_) ?_ ?_
 rotate_left
 ·show Act.put _ (some 8) _ = _
  simp only [Act.put, List.setIfInBounds_toArray, List.set_cons_zero, List.set_cons_succ, i64_w, i32_w]
  rfl
 refine pure_ (i := 6) (N := some 9) (v := ?_) (a' := ?_) #[true, true, true, true, true, true, true, false] rfl rfl (any_of HT_.out (by kernel_rfl)) (fun _ _ _ h => h) (Or.inl ⟨by rfl, ?_⟩) ?_ ?_
 rotate_left
 ·intro w'
  go_simp
  with_reducible rfl
 rotate_left
 ·simp only [Act.put, List.setIfInBounds_toArray, List.set_cons_zero, List.set_cons_succ, i64_w, i32_w]
  rfl
 refine one_ (i := 7) (N := none) #[true, true, true, true, true, true, true, true] rfl rfl (one_of HT_.out (by kernel_rfl)) (by decide) (fun K hK => ?_)
 have hs11 : w8.cell? ⟨gb222, 0, none⟩ = some (.slice none 0 0) := (blk_cell BK222.out 0).trans rfl
 have hfs11 := blk_frozen BK222.out 0
 have hns11_0 := NB221_222.out
 have hms11_0 := NB222_221.out
 have hs12 : w8.cell? ⟨gb222, 1, none⟩ = some (.slice none 0 0) := (blk_cell BK222.out 1).trans rfl
 have hfs12 := blk_frozen BK222.out 1
 have hns12_0 := NB221_222.out
 have hms12_0 := NB222_221.out
 refine skip_ (w1 := ?_) (by rfl) rfl ?_ ?_
 rotate_left
 ·go_simp
  rfl
 refine hK.out _ _ ⟨((cell_far (p := ⟨gb222, _, none⟩) NB221_222.out _).trans (((cell_far (p := ⟨gb222, _, none⟩) NB221_222.out _).trans (hHeld.1)))), ((cell_far (p := ⟨gb222, _, none⟩) NB221_222.out _).trans (((cell_far (p := ⟨gb222, _, none⟩) NB221_222.out _).trans (hHeld.2))))⟩ (fun hHeld => ?_)
 clear hK K
 refine done_ (done_of HT_.out (by kernel_rfl)) ?_
 try go_wp2
 refine bodyPost_ret (results_cell_row rfl _ _ gb222 30 #[.slice Ao10 t223.length co10, .slice Ao9 t226.length co9] (0, 0) _ rfl (by (with_reducible repeat (first | refine blk_drewN ?_ _ | refine blk_drew ?_ | refine blk_alloc ?_ _)); refine blk_put (cs := #[.slice Ao10 t223.length co10, .slice none 0 0]) ?_ 1 _ rfl; (with_reducible repeat (first | refine blk_drewN ?_ _ | refine blk_drew ?_ | refine blk_alloc ?_ _)); refine blk_put (cs := #[.slice none 0 0, .slice none 0 0]) ?_ 0 _ rfl; (with_reducible repeat (first | refine blk_drewN ?_ _ | refine blk_drew ?_ | refine blk_alloc ?_ _)); exact BK222.out) Try.underlying30 rfl (by kernel_rfl)) rfl ?_
 exact ⟨_, _, by first | rfl | (simp [errW_none, errW_some] <;> rfl) | (simp [*, errW_none, errW_some] <;> rfl), by (with_reducible repeat (first | apply Kd.R_alloc | apply Kd.R_drewN | apply Kd.R_drew)); exact Kd.R_mono (Kd.R_far (p := ⟨gb222, 1, none⟩) (Kd.R_far (p := ⟨gb222, 0, none⟩) (Kd.R_types HO225.out BK222.out (by decide)) (fun _ hk => hk.2) (.slice Ao10 t223.length co10)) (fun _ hk => hk.2) (.slice Ao9 t226.length co9)) (fun _ hk => trivial), by (with_reducible repeat (first | apply Kd.R_alloc | apply Kd.R_drewN | apply Kd.R_drew)); exact Kd.R_mono (Kd.R_far (p := ⟨gb222, 1, none⟩) (Kd.R_far (p := ⟨gb222, 0, none⟩) (Kd.R_types HO228.out BK222.out (by decide)) (fun _ hk => hk.2) (.slice Ao10 t223.length co10)) (fun _ hk => hk.2) (.slice Ao9 t226.length co9)) (fun _ hk => trivial), by exact lT HB (gC GE221 (gC GE222 gN))⟩

end Go.Proofs.Ytdnjjdmlmfoljaa.PFnExactCrashDisk
