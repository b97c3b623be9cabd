-- Written for this claim by a program of mine (a turned copy of the kit's print): functions as plain Lean, and their contracts. Lean checks it.
import Derived.Test.YtjpngldnkgofaaaPFnDisksToldx0
import Derived.Test.YtjpngldnkgofaaaVFnDisksTold1
namespace Go.Proofs.Ytjpngldnkgofaaa.PFnDisksTold
open Go.RowKit Go.Proofs.YtjpngldnkgofaaaW.PrintWords Go.Proofs.YtjpngldnkgofaaaW.PrintLast Go.Proofs.YtjpngldnkgofaaaW.PrintMore
attribute [local go_sem] max2_int min2_int max_two min_two max_three min_three max_four min_four   -- for this text's walks alone
set_option linter.unusedVariables false
set_option linter.unusedSimpArgs false

/-! ### laws_big: function 9 -/
def laws_big.f (l0 : List Int) : Option (Bool) := some (decide ((l0.length : Int) > 1048576))
set_option maxHeartbeats 8000000 in
set_option maxRecDepth 100000 in
theorem laws_big.calls (A0 : Option Addr) (c0 : Nat) (l0 : List Int) (r : Bool) (w : World) (hr0 : Kd.C (Kd.int .u8) w A0 l0.length l0) (hc0 : l0.length ≤ c0) (h : laws_big.f l0 = some r) :
  Calls Try.prog 9 #[.slice A0 l0.length c0] w fun e w' => e = .returned (.bool r) ∧ Drawn0 w w' := by
 have HR0 := Aside0.mk hr0
 have HC0 := Aside0.mk hc0
 clear hr0 hc0
 have H : (some (decide ((l0.length : Int) > 1048576))) = some r := h
 clear h
 obtain rfl := Option.some.inj H
 go_enter Try.func9, Try.ntmps9
 go_wp2
 go_ret
 exact ⟨by first | rfl | (simp; done) | (simp [*]; done), by repeat (first | exact Drawn0.refl _ | apply Drawn0.step)⟩

/-! ### impl_in: function 50 -/
def impl_in.f (a0 : Int) (a1 : Int) (a2 : Int) : Option (Bool) := if a0 ≥ a1 then (some (decide (a0 ≤ a2))) else (some false)
set_option maxHeartbeats 8000000 in
set_option maxRecDepth 100000 in
theorem impl_in.calls (a0 : Int) (a1 : Int) (a2 : Int) (r : Bool) (w : World) (h : impl_in.f a0 a1 a2 = some r) :
  Calls Try.prog 50 #[.int .i64 a0, .int .i64 a1, .int .i64 a2] w fun e w' => e = .returned (.bool r) ∧ Drawn0 w w' := by
 have H : (if a0 ≥ a1 then (some (decide (a0 ≤ a2))) else (some false)) = some r := h
 clear h
 by_cases c4 : a0 ≥ a1
 ·rw [if_pos c4] at H
  have c4b0 : decide (a1 ≤ a0) = true := decide_eq_true c4
  clear c4
  obtain rfl := Option.some.inj H
  go_enter Try.func50, Try.ntmps50
  go_wp2
  go_ret
  exact ⟨by first | rfl | (simp; done) | (simp [*]; done), by repeat (first | exact Drawn0.refl _ | apply Drawn0.step)⟩
 ·rw [if_neg c4] at H
  have c4b0 : decide (a1 ≤ a0) = false := decide_eq_false c4
  clear c4
  obtain rfl := Option.some.inj H
  go_enter Try.func50, Try.ntmps50
  go_wp2
  go_ret
  exact ⟨by first | rfl | (simp; done) | (simp [*]; done), by repeat (first | exact Drawn0.refl _ | apply Drawn0.step)⟩

-- NOT PRINTED: function 76 (slices_IndexFunc_string_string)

-- NOT PRINTED: function 51 (slices_ContainsFunc_string_string)

-- NOT PRINTED: function 77 (impl_Write_77)

-- NOT PRINTED: function 53 (impl_Write_53)

/-! ### impl_DiskOk: function 16 -/
theorem at_str {w : World} {A : Option Addr} {n : Nat} {xs : List ByteArray} (h : Kd.C Kd.string w A n xs) (i : Int) (h0 : 0 ≤ i) (h1 : i < n) : ∃ ad, A = some ad ∧ w.cell? (ad.add i.toNat) = some (.string (rdOf ByteArray.empty xs i)) := by
 obtain ⟨ad, c, e, hl, hK, hc⟩ := Kd.C_get h ByteArray.empty i h0 h1
 have hK' : c = [.string (xs.getD i.toNat ByteArray.empty)] := hK
 subst hK'
 have := hc 0 _ rfl
 exact ⟨ad, e, by simpa [Kd.string, Kd.scalar, rdOf] using this⟩
set_option maxHeartbeats 4000000 in
set_option maxRecDepth 100000 in
theorem idx_str (caps : Array Value) (p : ByteArray → Bool) (A0 : Option Addr) (c0 : Nat) (l0 : List ByteArray) (w : World) (hr0 : Kd.C Kd.string w A0 l0.length l0) (hc0 : l0.length ≤ c0)
  (hp : ∀ x, x ∈ l0 → ∀ W, Below w.heap.size w W → Calls Try.prog 52 (#[.string x] ++ caps) W fun e W' => e = .returned (.bool (p x)) ∧ Below W.heap.size W W') :
  Calls Try.prog 76 #[.slice A0 l0.length c0, .func (.func 52) #[] caps] w fun e w' => ∃ v : Int, e = .returned (.int .i64 v) ∧ Aside0 (decide (0 ≤ v) = l0.any p) ∧ Below w.heap.size w w' := by
 have HR0 := Aside0.mk hr0
 have HC0 := Aside0.mk hc0
 have HP := Aside0.mk hp
 have hm : l0.length ≤ 9223372036854775807 := hr0.2.1
 clear hr0 hc0 hp
 have HB := ak (Below.refl w.heap.size w)
 go_enter Try.func76, Try.ntmps76
 go_wp2
 go_loopg [8] l0.length (fun kq v8 w' => ∃ x8 : Int, v8 = .int .i64 x8 ∧ Aside0 (0 ≤ x8 ∧ x8 + kq = l0.length ∧ ∀ x, x ∈ l0.take x8.toNat → p x = false) ∧ Aside0 (Below w.heap.size w w'))
 case atStart => exact ⟨0, by first | rfl | (simp; done), ⟨by omega, by omega, by simp⟩, ⟨by first | exact HB.out | exact Below.refl _ _⟩⟩
 case round =>
  obtain ⟨x8, rfl, HX, HB⟩ := hrel
  by_cases c4 : x8 < (l0.length : Int)
  ·have c4b0 : decide (x8 < (l0.length : Int)) = true := decide_eq_true c4
   have c5b0 : decide (0 ≤ x8) = true := decide_eq_true HX.out.1
   have hl : x8.toNat < l0.length := by have := HX.out.1; omega
   have hmem : rdOf ByteArray.empty l0 x8 ∈ l0 := by
    unfold rdOf
    rw [List.getD_eq_getElem?_getD, List.getElem?_eq_getElem hl]
    exact List.getElem_mem hl
   have HQ := ak (fun W hW => HP.out _ hmem W hW)
   clear c4 hl hmem
   have p103 : 0 ≤ (x8 : Int) := of_decide_eq_true (by first | (with_reducible assumption) | assumption)
   have q103 : x8 < (l0.length : Int) := of_decide_eq_true (by first | (with_reducible assumption) | assumption)
   obtain ⟨ad103, e103, hx103_0⟩ := at_str HR0.out x8 p103 q103
   cases e103
   replace hx103_0 := (HB.out.cell (World.block_lt_of_cell? w _ hx103_0)).trans hx103_0
   replace p103 := eq_true p103
   replace q103 := eq_true q103
   obtain ⟨b, hb0⟩ : ∃ b, p (rdOf ByteArray.empty l0 x8) = b := ⟨_, rfl⟩
   have HPB := Aside0.mk hb0
   rw [hb0] at HQ
   clear hb0
   cases b with
   | true =>
    go_wp2_with (go_at_call 52; refine (HQ.out _ HB.out).mono ?_; rintro e w8 ⟨rfl, hb⟩; replace HB := ak (below_step (by exact HB.out) hb); clear hb)
    go_ret
    have h0 : 0 ≤ x8 := HX.out.1
    have hl : x8.toNat < l0.length := by have := HX.out.1; have := of_eq_true q103; omega
    refine ⟨x8, rfl, ⟨?_⟩, HB.out⟩
    rw [decide_eq_true h0]
    symm
    rw [List.any_eq_true]
    refine ⟨rdOf ByteArray.empty l0 x8, ?_, HPB.out⟩
    unfold rdOf
    rw [List.getD_eq_getElem?_getD, List.getElem?_eq_getElem hl]
    exact List.getElem_mem hl
   | false =>
    cases gk with
    | zero => exact absurd HX.out (by have := of_eq_true q103; omega)
    | succ k1 =>
    go_wp2_with (go_at_call 52; refine (HQ.out _ HB.out).mono ?_; rintro e w8 ⟨rfl, hb⟩; replace HB := ak (below_step (by exact HB.out) hb); clear hb)
    go_roundg k1
    case measure => omega
    case rel =>
     have h0 : 0 ≤ x8 := HX.out.1
     have h1 := HX.out.2.1
     have hl : x8.toNat < l0.length := by have := of_eq_true q103; omega
     have e1 : wrap64 (x8 + 1) = x8 + 1 := by unfold wrap64; omega
     refine ⟨x8 + 1, by first | rfl | (rw [e1]) | (simp [e1]; done), ⟨by omega, by omega, ?_⟩, HB⟩
     intro x hx
     rw [show (x8 + 1).toNat = x8.toNat + 1 by omega, List.take_succ_eq_append_getElem hl] at hx
     rcases List.mem_append.1 hx with hx | hx
     ·exact HX.out.2.2 x hx
     ·have hx' := List.mem_singleton.1 hx
      subst hx'
      have := HPB.out
      unfold rdOf at this
      rw [List.getD_eq_getElem?_getD, List.getElem?_eq_getElem hl] at this
      exact this
  ·have c4b0 : decide (x8 < (l0.length : Int)) = false := decide_eq_false c4
   clear c4
   go_wp2
   go_ret
   have h0 : 0 ≤ x8 := HX.out.1
   have h1 := HX.out.2.1
   have h2 := of_decide_eq_false c4b0
   refine ⟨-1, rfl, ⟨?_⟩, HB.out⟩
   symm
   rw [decide_eq_false (by omega)]
   rw [List.any_eq_false]
   intro x hx
   have := HX.out.2.2 x (by rw [List.take_of_length_le (by omega)]; exact hx)
   simp [this]
set_option maxHeartbeats 2000000 in
set_option maxRecDepth 100000 in
theorem cont_str (caps : Array Value) (p : ByteArray → Bool) (A0 : Option Addr) (c0 : Nat) (l0 : List ByteArray) (w : World) (hr0 : Kd.C Kd.string w A0 l0.length l0) (hc0 : l0.length ≤ c0)
  (hp : ∀ x, x ∈ l0 → ∀ W, Below w.heap.size w W → Calls Try.prog 52 (#[.string x] ++ caps) W fun e W' => e = .returned (.bool (p x)) ∧ Below W.heap.size W W') :
  Calls Try.prog 51 #[.slice A0 l0.length c0, .func (.func 52) #[] caps] w fun e w' => e = .returned (.bool (l0.any p)) ∧ Below w.heap.size w w' := by
 have HC := ak (fun (W : World) => idx_str caps p A0 c0 l0 w hr0 hc0 hp)
 clear hr0 hc0 hp
 go_enter Try.func51, Try.ntmps51
 go_wp2_with (go_at_call 76; refine (HC.out w).mono ?_; rintro e w8 ⟨v, rfl, hv, hb⟩)
 go_ret
 exact ⟨by rw [← hv.out]; rfl, hb⟩
set_option maxHeartbeats 4000000 in
set_option maxRecDepth 100000 in
theorem idx_wr (caps : Array Value) (p : S63 → Bool) (A0 : Option Addr) (c0 : Nat) (l0 : List S63) (w : World) (hr0 : Kd.C k63 w A0 l0.length l0) (hc0 : l0.length ≤ c0)
  (hp : ∀ x, x ∈ l0 → ∀ W, Below w.heap.size w W → Calls Try.prog 54 (#[.agg #[.int .i64 x.f0, .string x.f1]] ++ caps) W fun e W' => e = .returned (.bool (p x)) ∧ Below W.heap.size W W') :
  Calls Try.prog 77 #[.slice A0 l0.length c0, .func (.func 54) #[] caps] w fun e w' => ∃ v : Int, e = .returned (.int .i64 v) ∧ Aside0 (decide (0 ≤ v) = l0.any p) ∧ Below w.heap.size w w' := by
 have HR0 := Aside0.mk hr0
 have HC0 := Aside0.mk hc0
 have HP := Aside0.mk hp
 have hm : l0.length ≤ 9223372036854775807 := hr0.2.1
 clear hr0 hc0 hp
 have HB := ak (Below.refl w.heap.size w)
 go_enter Try.func77, Try.ntmps77
 go_wp2
 go_loopg [8] l0.length (fun kq v8 w' => ∃ x8 : Int, v8 = .int .i64 x8 ∧ Aside0 (0 ≤ x8 ∧ x8 + kq = l0.length ∧ ∀ x, x ∈ l0.take x8.toNat → p x = false) ∧ Aside0 (Below w.heap.size w w'))
 case atStart => exact ⟨0, by first | rfl | (simp; done), ⟨by omega, by omega, by simp⟩, ⟨by first | exact HB.out | exact Below.refl _ _⟩⟩
 case round =>
  obtain ⟨x8, rfl, HX, HB⟩ := hrel
  by_cases c4 : x8 < (l0.length : Int)
  ·have c4b0 : decide (x8 < (l0.length : Int)) = true := decide_eq_true c4
   have c5b0 : decide (0 ≤ x8) = true := decide_eq_true HX.out.1
   have hl : x8.toNat < l0.length := by have := HX.out.1; omega
   have hmem : rd_T63 l0 x8 ∈ l0 := by
    unfold rd_T63
    rw [List.getD_eq_getElem?_getD, List.getElem?_eq_getElem hl]
    exact List.getElem_mem hl
   have HQ := ak (fun W hW => HP.out _ hmem W hW)
   clear c4 hl hmem
   have p103 : 0 ≤ (x8 : Int) := of_decide_eq_true (by first | (with_reducible assumption) | assumption)
   have q103 : x8 < (l0.length : Int) := of_decide_eq_true (by first | (with_reducible assumption) | assumption)
   obtain ⟨ad103, e103, hx103_0, hx103_1⟩ := at_T63 HR0.out x8 p103 q103
   cases e103
   replace hx103_0 := (HB.out.cell (World.block_lt_of_cell? w _ hx103_0)).trans hx103_0
   replace hx103_1 := (HB.out.cell (World.block_lt_of_cell? w _ hx103_1)).trans hx103_1
   replace p103 := eq_true p103
   replace q103 := eq_true q103
   obtain ⟨b, hb0⟩ : ∃ b, p (rd_T63 l0 x8) = b := ⟨_, rfl⟩
   have HPB := Aside0.mk hb0
   rw [hb0] at HQ
   clear hb0
   cases b with
   | true =>
    go_wp2_with (go_at_call 54; refine (HQ.out _ HB.out).mono ?_; rintro e w8 ⟨rfl, hb⟩; replace HB := ak (below_step (by exact HB.out) hb); clear hb)
    go_ret
    have h0 : 0 ≤ x8 := HX.out.1
    have hl : x8.toNat < l0.length := by have := HX.out.1; have := of_eq_true q103; omega
    refine ⟨x8, rfl, ⟨?_⟩, HB.out⟩
    rw [decide_eq_true h0]
    symm
    rw [List.any_eq_true]
    refine ⟨rd_T63 l0 x8, ?_, HPB.out⟩
    unfold rd_T63
    rw [List.getD_eq_getElem?_getD, List.getElem?_eq_getElem hl]
    exact List.getElem_mem hl
   | false =>
    cases gk with
    | zero => exact absurd HX.out (by have := of_eq_true q103; omega)
    | succ k1 =>
    go_wp2_with (go_at_call 54; refine (HQ.out _ HB.out).mono ?_; rintro e w8 ⟨rfl, hb⟩; replace HB := ak (below_step (by exact HB.out) hb); clear hb)
    go_roundg k1
    case measure => omega
    case rel =>
     have h0 : 0 ≤ x8 := HX.out.1
     have h1 := HX.out.2.1
     have hl : x8.toNat < l0.length := by have := of_eq_true q103; omega
     have e1 : wrap64 (x8 + 1) = x8 + 1 := by unfold wrap64; omega
     refine ⟨x8 + 1, by first | rfl | (rw [e1]) | (simp [e1]; done), ⟨by omega, by omega, ?_⟩, HB⟩
     intro x hx
     rw [show (x8 + 1).toNat = x8.toNat + 1 by omega, List.take_succ_eq_append_getElem hl] at hx
     rcases List.mem_append.1 hx with hx | hx
     ·exact HX.out.2.2 x hx
     ·have hx' := List.mem_singleton.1 hx
      subst hx'
      have := HPB.out
      unfold rd_T63 at this
      rw [List.getD_eq_getElem?_getD, List.getElem?_eq_getElem hl] at this
      exact this
  ·have c4b0 : decide (x8 < (l0.length : Int)) = false := decide_eq_false c4
   clear c4
   go_wp2
   go_ret
   have h0 : 0 ≤ x8 := HX.out.1
   have h1 := HX.out.2.1
   have h2 := of_decide_eq_false c4b0
   refine ⟨-1, rfl, ⟨?_⟩, HB.out⟩
   symm
   rw [decide_eq_false (by omega)]
   rw [List.any_eq_false]
   intro x hx
   have := HX.out.2.2 x (by rw [List.take_of_length_le (by omega)]; exact hx)
   simp [this]
set_option maxHeartbeats 2000000 in
set_option maxRecDepth 100000 in
theorem cont_wr (caps : Array Value) (p : S63 → Bool) (A0 : Option Addr) (c0 : Nat) (l0 : List S63) (w : World) (hr0 : Kd.C k63 w A0 l0.length l0) (hc0 : l0.length ≤ c0)
  (hp : ∀ x, x ∈ l0 → ∀ W, Below w.heap.size w W → Calls Try.prog 54 (#[.agg #[.int .i64 x.f0, .string x.f1]] ++ caps) W fun e W' => e = .returned (.bool (p x)) ∧ Below W.heap.size W W') :
  Calls Try.prog 53 #[.slice A0 l0.length c0, .func (.func 54) #[] caps] w fun e w' => e = .returned (.bool (l0.any p)) ∧ Below w.heap.size w w' := by
 have HC := ak (fun (W : World) => idx_wr caps p A0 c0 l0 w hr0 hc0 hp)
 clear hr0 hc0 hp
 go_enter Try.func53, Try.ntmps53
 go_wp2_with (go_at_call 77; refine (HC.out w).mono ?_; rintro e w8 ⟨v, rfl, hv, hb⟩)
 go_ret
 exact ⟨by rw [← hv.out]; rfl, hb⟩
def wrBad (n0 : Nat) (x : S63) : Bool := !decide (0 ≤ x.f0 ∧ x.f0 ≤ (n0 : Int) - 1) || decide (x.f1.size ≠ 32)
def strBad (x : ByteArray) : Bool := decide (x.size ≠ 32)
theorem in_is (a b c : Int) : impl_in.f a b c = some (decide (b ≤ a ∧ a ≤ c)) := by
 unfold impl_in.f
 by_cases h : a ≥ b <;> by_cases h2 : a ≤ c <;> simp [h, h2] <;> omega
set_option maxHeartbeats 2000000 in
set_option maxRecDepth 100000 in
theorem clo_wr (gb n0 n1 c0 c1 : Nat) (A0 A1 : Option Addr) (x : S63) (W : World) (hn : n0 ≤ 100) (hb : W.heap[gb]? = some (.cells #[.slice A0 n0 c0, .slice A1 n1 c1] 27 (0, 0))) :
  Calls Try.prog 54 #[.agg #[.int .i64 x.f0, .string x.f1], .pointer (some ⟨gb, 0, none⟩)] W fun e W' => e = .returned (.bool (wrBad n0 x)) ∧ Below W.heap.size W W' := by
 obtain ⟨f0, f1⟩ := x
 have huW := Try.underlying63
 have huD := Try.underlying27
 have hi := in_is f0 0 ((n0 : Int) - 1)
 have hcz0 : W.cell? ⟨gb, 0, none⟩ = some (.slice A0 n0 c0) := (blk_cell hb 0).trans rfl
 have hcz1 : ∀ o, (W.alloc o).cell? ⟨gb, 0, none⟩ = some (.slice A0 n0 c0) := fun o => pw_cell_below (below_alloc (Below.refl _ _) o) hcz0
 have HA := ak (fun o => below_alloc (Below.refl W.heap.size W) o)
 clear hb hcz0
 by_cases h1 : 0 ≤ f0 ∧ f0 ≤ (n0 : Int) - 1
 ·rw [decide_eq_true h1] at hi
  have HI := Aside0.mk hi
  have HH := ak (show wrBad n0 ⟨f0, f1⟩ = decide (f1.size ≠ 32) by unfold wrBad; rw [decide_eq_true h1]; rfl)
  clear hi h1
  by_cases h2 : f1.size = 32
  ·have h3 : ((f1.size : Int) != 32) = false := by simp; omega
   have HH2 := Aside0.mk h2
   clear h2
   go_enter Try.func54, Try.ntmps54
   go_wp2_with (go_at_call 50; refine (impl_in.calls _ _ _ true _ HI.out).mono ?_; rintro e w8 ⟨rfl, ⟨nq, rfl⟩⟩)
   go_ret
   refine ⟨?_, ?_⟩
   ·rw [HH.out, decide_eq_false (by rw [HH2.out]; simp)]; rfl
   ·exact pw_below_drewN (HA.out _) _
  ·have h3 : ((f1.size : Int) != 32) = true := by simp; omega
   have HH2 := Aside0.mk h2
   clear h2
   go_enter Try.func54, Try.ntmps54
   go_wp2_with (go_at_call 50; refine (impl_in.calls _ _ _ true _ HI.out).mono ?_; rintro e w8 ⟨rfl, ⟨nq, rfl⟩⟩)
   go_ret
   refine ⟨?_, ?_⟩
   ·rw [HH.out, decide_eq_true HH2.out]; rfl
   ·exact pw_below_drewN (HA.out _) _
 ·rw [decide_eq_false h1] at hi
  have HI := Aside0.mk hi
  have HH := ak (show wrBad n0 ⟨f0, f1⟩ = true by unfold wrBad; rw [decide_eq_false h1]; rfl)
  clear hi h1
  go_enter Try.func54, Try.ntmps54
  go_wp2_with (go_at_call 50; refine (impl_in.calls _ _ _ false _ HI.out).mono ?_; rintro e w8 ⟨rfl, ⟨nq, rfl⟩⟩)
  go_ret
  refine ⟨?_, ?_⟩
  ·rw [HH.out]; rfl
  ·exact pw_below_drewN (HA.out _) _
set_option maxRecDepth 100000 in
theorem clo_str (x : ByteArray) (W : World) : Calls Try.prog 52 #[.string x] W fun e W' => e = .returned (.bool (strBad x)) ∧ Below W.heap.size W W' := by
 by_cases h2 : x.size = 32
 ·have h3 : ((x.size : Int) != 32) = false := by simp; omega
  have HH := ak (show strBad x = false by unfold strBad; rw [decide_eq_false (by rw [h2]; simp)])
  clear h2
  go_enter Try.func52, Try.ntmps52
  go_wp2
  go_ret
  exact ⟨by rw [HH.out]; rfl, Below.refl _ _⟩
 ·have h3 : ((x.size : Int) != 32) = true := by simp; omega
  have HH := ak (show strBad x = true by unfold strBad; rw [decide_eq_true h2])
  clear h2
  go_enter Try.func52, Try.ntmps52
  go_wp2
  go_ret
  exact ⟨by rw [HH.out]; rfl, Below.refl _ _⟩
def impl_DiskOk.f (l0_0 : List ByteArray) (l0_1 : List S63) : Option Bool := some (decide ((1 ≤ l0_0.length ∧ l0_0.length ≤ 100) ∧ l0_1.length ≤ 60) && (!l0_0.any strBad && !l0_1.any (wrBad l0_0.length)))
set_option maxHeartbeats 8000000 in
set_option maxRecDepth 100000 in
theorem impl_DiskOk.calls (A0_0 : Option Addr) (c0_0 : Nat) (l0_0 : List ByteArray) (A0_1 : Option Addr) (c0_1 : Nat) (l0_1 : List (S63)) (r : Bool) (w : World) (hr0_0 : Kd.C Kd.string w A0_0 l0_0.length l0_0) (hc0_0 : l0_0.length ≤ c0_0) (hr0_1 : Kd.C k63 w A0_1 l0_1.length l0_1) (hc0_1 : l0_1.length ≤ c0_1) (h : impl_DiskOk.f l0_0 l0_1 = some r) :
  Calls Try.prog 16 #[.agg #[.slice A0_0 l0_0.length c0_0, .slice A0_1 l0_1.length c0_1]] w fun e w' => e = .returned (.bool r) ∧ Below w.heap.size w w' := by
 have huD := Try.underlying27
 have hmf : ∀ (fn : Fn) (first cap : Array Value) (w : World), (Instr.makeFunc fn first cap).run Try.prog w = .ok (.func fn first cap) w := fun _ _ _ _ => rfl
 have HF := ak (Option.some.inj h)
 have HR0 := Aside0.mk hr0_0
 have HR1 := Aside0.mk hr0_1
 have HC0 := Aside0.mk hc0_0
 have HC1 := Aside0.mk hc0_1
 have HB := ak (Below.refl w.heap.size w)
 have hi := in_is (l0_0.length : Int) 1 100
 clear h hr0_0 hr0_1 hc0_0 hc0_1
 by_cases h1 : 1 ≤ l0_0.length ∧ l0_0.length ≤ 100
 ·rw [decide_eq_true (show 1 ≤ (l0_0.length : Int) ∧ (l0_0.length : Int) ≤ 100 by omega)] at hi
  have HI := Aside0.mk hi
  have HN := Aside0.mk h1
  clear hi h1
  by_cases h2 : l0_1.length ≤ 60
  ·have h3 : decide ((l0_1.length : Int) > 60) = false := by simp; omega
   have h3' : decide ((60 : Int) < (l0_1.length : Int)) = false := by simp; omega
   have h3'' : decide (60 < l0_1.length) = false := by simp; omega
   have HF2 := ak (show (!l0_0.any strBad && !l0_1.any (wrBad l0_0.length)) = r by have := HF.out; rw [decide_eq_true ⟨HN.out, h2⟩] at this; simpa using this)
   clear h2 HF
   obtain ⟨s, hs⟩ : ∃ s, l0_0.any strBad = s := ⟨_, rfl⟩
   have HS := Aside0.mk hs
   clear hs
   cases s with
   | true =>
    have HR := ak (show false = r by have := HF2.out; rw [HS.out] at this; simpa using this)
    clear HF2
    go_enter Try.func16, Try.ntmps16
    go_wp2_with (first
     | ((with_reducible refine gate_dst (N := 1) rfl ?_); refine bx 1 #[.slice A0_0 l0_0.length c0_0, .slice A0_1 l0_1.length c0_1] 27 ?_; intro gb hg w5 hbox hb; have BK := Aside0.mk hbox; replace HB := ak (below_step HB.out hb); clear hg hbox hb; have hcz0 : w5.cell? ⟨gb, 0, none⟩ = some (.slice A0_0 l0_0.length c0_0) := (blk_cell BK.out 0).trans rfl; have hcz1 : w5.cell? ⟨gb, 1, none⟩ = some (.slice A0_1 l0_1.length c0_1) := (blk_cell BK.out 1).trans rfl)
     | (go_at_call 50; refine (impl_in.calls _ _ _ true _ HI.out).mono ?_; rintro e w8 ⟨rfl, ⟨nq, rfl⟩⟩; have n0_ := ak (pw_below_drewN HB.out nq); have n1_ := ak (blk_drewN BK.out nq); clear HB BK; generalize World.drewN w5 nq = w6 at n0_ n1_ ⊢; have HB := n0_; have BK := n1_; clear n0_ n1_; have hcy0 : w6.cell? ⟨gb, 0, none⟩ = some (.slice A0_0 l0_0.length c0_0) := (blk_cell BK.out 0).trans rfl; have hcy1 : w6.cell? ⟨gb, 1, none⟩ = some (.slice A0_1 l0_1.length c0_1) := (blk_cell BK.out 1).trans rfl)
     | (go_at_call 51; refine (cont_str #[] strBad _ _ l0_0 _ (Kd.C_below HR0.out HB.out) HC0.out (fun x _ W _ => clo_str x W)).mono ?_; rintro e w9 ⟨rfl, hb⟩; replace HB := ak (below_step HB.out hb); clear hb; have hs1 := HS.out))
    go_ret
    exact ⟨by rw [← HR.out]; rfl, HB.out⟩
   | false =>
    have HR := ak (show (!l0_1.any (wrBad l0_0.length)) = r by have := HF2.out; rw [HS.out] at this; simpa using this)
    clear HF2
    go_enter Try.func16, Try.ntmps16
    go_wp2_with (first
     | ((with_reducible refine gate_dst (N := 1) rfl ?_); refine bx 1 #[.slice A0_0 l0_0.length c0_0, .slice A0_1 l0_1.length c0_1] 27 ?_; intro gb hg w5 hbox hb; have BK := Aside0.mk hbox; replace HB := ak (below_step HB.out hb); clear hg hbox hb; have hcz0 : w5.cell? ⟨gb, 0, none⟩ = some (.slice A0_0 l0_0.length c0_0) := (blk_cell BK.out 0).trans rfl; have hcz1 : w5.cell? ⟨gb, 1, none⟩ = some (.slice A0_1 l0_1.length c0_1) := (blk_cell BK.out 1).trans rfl)
     | (go_at_call 50; refine (impl_in.calls _ _ _ true _ HI.out).mono ?_; rintro e w8 ⟨rfl, ⟨nq, rfl⟩⟩; have n0_ := ak (pw_below_drewN HB.out nq); have n1_ := ak (blk_drewN BK.out nq); clear HB BK; generalize World.drewN w5 nq = w6 at n0_ n1_ ⊢; have HB := n0_; have BK := n1_; clear n0_ n1_; have hcy0 : w6.cell? ⟨gb, 0, none⟩ = some (.slice A0_0 l0_0.length c0_0) := (blk_cell BK.out 0).trans rfl; have hcy1 : w6.cell? ⟨gb, 1, none⟩ = some (.slice A0_1 l0_1.length c0_1) := (blk_cell BK.out 1).trans rfl)
     | (go_at_call 51; refine (cont_str #[] strBad _ _ l0_0 _ (Kd.C_below HR0.out HB.out) HC0.out (fun x _ W _ => clo_str x W)).mono ?_; rintro e w9 ⟨rfl, hb⟩; have n0_ := ak (below_step HB.out hb); have n1_ := ak (blk_below (g := gb) (o := .cells #[.slice A0_0 l0_0.length c0_0, .slice A0_1 l0_1.length c0_1] 27 (0, 0)) BK.out hb); clear HB BK; have HB := n0_; have BK := n1_; clear n0_ n1_ hb; have hs1 := HS.out; have hcx0 : w9.cell? ⟨gb, 0, none⟩ = some (.slice A0_0 l0_0.length c0_0) := (blk_cell BK.out 0).trans rfl; have hcx1 : w9.cell? ⟨gb, 1, none⟩ = some (.slice A0_1 l0_1.length c0_1) := (blk_cell BK.out 1).trans rfl)
     | (go_at_call 53; refine (cont_wr #[.pointer (some ⟨gb, 0, none⟩)] (wrBad l0_0.length) _ _ l0_1 _ (Kd.C_below HR1.out HB.out) HC1.out (fun x _ W hW => clo_wr gb _ _ _ _ _ _ x W HN.out.2 (blk_below (g := gb) (o := .cells #[.slice A0_0 l0_0.length c0_0, .slice A0_1 l0_1.length c0_1] 27 (0, 0)) BK.out hW))).mono ?_; rintro e w10 ⟨rfl, hb⟩; replace HB := ak (below_step HB.out hb); clear hb))
    go_ret
    exact ⟨by rw [← HR.out]; rfl, HB.out⟩
  ·have h3 : decide ((l0_1.length : Int) > 60) = true := by simp; omega
   have h3' : decide ((60 : Int) < (l0_1.length : Int)) = true := by simp; omega
   have h3'' : decide (60 < l0_1.length) = true := by simp; omega
   have HR := ak (show false = r by have := HF.out; rw [decide_eq_false (fun hh => h2 hh.2)] at this; simpa using this)
   clear h2 HF
   go_enter Try.func16, Try.ntmps16
   go_wp2_with (first
     | ((with_reducible refine gate_dst (N := 1) rfl ?_); refine bx 1 #[.slice A0_0 l0_0.length c0_0, .slice A0_1 l0_1.length c0_1] 27 ?_; intro gb hg w5 hbox hb; have BK := Aside0.mk hbox; replace HB := ak (below_step HB.out hb); clear hg hbox hb; have hcz0 : w5.cell? ⟨gb, 0, none⟩ = some (.slice A0_0 l0_0.length c0_0) := (blk_cell BK.out 0).trans rfl; have hcz1 : w5.cell? ⟨gb, 1, none⟩ = some (.slice A0_1 l0_1.length c0_1) := (blk_cell BK.out 1).trans rfl)
     | (go_at_call 50; refine (impl_in.calls _ _ _ true _ HI.out).mono ?_; rintro e w8 ⟨rfl, ⟨nq, rfl⟩⟩; have n0_ := ak (pw_below_drewN HB.out nq); have n1_ := ak (blk_drewN BK.out nq); clear HB BK; generalize World.drewN w5 nq = w6 at n0_ n1_ ⊢; have HB := n0_; have BK := n1_; clear n0_ n1_; have hcy0 : w6.cell? ⟨gb, 0, none⟩ = some (.slice A0_0 l0_0.length c0_0) := (blk_cell BK.out 0).trans rfl; have hcy1 : w6.cell? ⟨gb, 1, none⟩ = some (.slice A0_1 l0_1.length c0_1) := (blk_cell BK.out 1).trans rfl))
   go_ret
   exact ⟨by rw [← HR.out]; rfl, HB.out⟩
 ·rw [decide_eq_false (show ¬ (1 ≤ (l0_0.length : Int) ∧ (l0_0.length : Int) ≤ 100) by omega)] at hi
  have HI := Aside0.mk hi
  have HR := ak (show false = r by have := HF.out; rw [decide_eq_false (fun hh => h1 hh.1)] at this; simpa using this)
  clear hi h1 HF
  go_enter Try.func16, Try.ntmps16
  go_wp2_with (first
     | ((with_reducible refine gate_dst (N := 1) rfl ?_); refine bx 1 #[.slice A0_0 l0_0.length c0_0, .slice A0_1 l0_1.length c0_1] 27 ?_; intro gb hg w5 hbox hb; have BK := Aside0.mk hbox; replace HB := ak (below_step HB.out hb); clear hg hbox hb; have hcz0 : w5.cell? ⟨gb, 0, none⟩ = some (.slice A0_0 l0_0.length c0_0) := (blk_cell BK.out 0).trans rfl; have hcz1 : w5.cell? ⟨gb, 1, none⟩ = some (.slice A0_1 l0_1.length c0_1) := (blk_cell BK.out 1).trans rfl)
     | (go_at_call 50; refine (impl_in.calls _ _ _ false _ HI.out).mono ?_; rintro e w8 ⟨rfl, ⟨nq, rfl⟩⟩; have n0_ := ak (pw_below_drewN HB.out nq); have n1_ := ak (blk_drewN BK.out nq); clear HB BK; generalize World.drewN w5 nq = w6 at n0_ n1_ ⊢; have HB := n0_; have BK := n1_; clear n0_ n1_; have hcy0 : w6.cell? ⟨gb, 0, none⟩ = some (.slice A0_0 l0_0.length c0_0) := (blk_cell BK.out 0).trans rfl; have hcy1 : w6.cell? ⟨gb, 1, none⟩ = some (.slice A0_1 l0_1.length c0_1) := (blk_cell BK.out 1).trans rfl))
  go_ret
  exact ⟨by rw [← HR.out]; rfl, HB.out⟩

/-! ### slices_Clone_string_string: function 74 -/
def slices_Clone_string_string.f (l0 : List ByteArray) : Option (List ByteArray) := (some (([] : List ByteArray) : List ByteArray)).bind fun y101 => (if y101.length + l0.length < 8796093022208 then (some (y101 ++ l0)) else (none))
set_option maxHeartbeats 8000000 in
set_option maxRecDepth 100000 in
theorem slices_Clone_string_string.calls (A0 : Option Addr) (c0 : Nat) (l0 : List ByteArray) (r : List ByteArray) (w : World) (hr0 : Kd.C Kd.string w A0 l0.length l0) (hc0 : l0.length ≤ c0) (h : slices_Clone_string_string.f l0 = some r) :
  Calls Try.prog 74 #[.slice A0 l0.length c0] w fun e w' => ∃ v0_ : Value, e = .returned (v0_) ∧ Kd.R Kd.string 9 w' w.heap.size (fun _ => True) v0_ r ∧ Below w.heap.size w w' := by
 cases A0 with
 | none =>
  have hl_ : l0 = [] := by
   cases l0 with
   | nil => rfl
   | cons x_ t_ => (obtain ⟨ad_, h0_, _⟩ := hr0.2.2 (by simp); cases h0_)
  subst hl_
  have hr_ : [] = r := by simpa [slices_Clone_string_string.f] using h
  subst hr_
  have hnil_ := fun W_ : World => Lib.run_eql_slice_nil (P := Try.prog) W_ 24 9 none 0 c0 0 0 Try.underlying24
  go_enter Try.func74, Try.ntmps74
  go_wp2
  go_ret
  exact ⟨.slice none 0 0, rfl, Kd.R_nil _ _ _ _ _, Below.refl _ _⟩
 | some a0_ =>
 have hnil_ := fun W_ : World => Lib.run_eql_slice_nil (P := Try.prog) W_ 24 9 (some a0_) l0.length c0 0 0 Try.underlying24
 have HR0 := Aside0.mk hr0
 have HC0 := Aside0.mk hc0
 clear hr0 hc0
 have HB := ak (Below.refl w.heap.size w)
 have H : ((some (([] : List ByteArray) : List ByteArray)).bind fun y101 => (if y101.length + l0.length < 8796093022208 then (some (y101 ++ l0)) else (none))) = some r := h
 clear h
 obtain ⟨y101, hy101⟩ : ∃ y_ : List ByteArray, y_ = (([] : List ByteArray)) := ⟨_, rfl⟩
 replace H : (if y101.length + l0.length < 8796093022208 then (some (y101 ++ l0)) else (none)) = some r := by first | (rw [hy101]; with_reducible exact H) | (have H2_ := (Option.bind_some _ _).symm.trans H; rw [hy101]; with_reducible exact H2_) | (have H2_ := (Option.bind_some _ _).symm.trans H; with_reducible exact H2_) | with_reducible exact H | (rw [hy101]; exact H) | exact H
 have Ny101 := Aside0.mk hy101
 clear hy101
 by_cases c2 : y101.length + l0.length < 8796093022208
 ·rw [if_pos c2] at H
  have LMc2 := Aside0.mk c2
  clear c2
  obtain ⟨y104, hy104⟩ : ∃ y_ : List ByteArray, y_ = (y101 ++ l0) := ⟨_, rfl⟩
  replace H : (some y104) = some r := by first | (rw [hy104]; with_reducible exact H) | (have H2_ := (Option.bind_some _ _).symm.trans H; rw [hy104]; with_reducible exact H2_) | (have H2_ := (Option.bind_some _ _).symm.trans H; with_reducible exact H2_) | with_reducible exact H | (rw [hy104]; exact H) | exact H
  have Ny104 := Aside0.mk hy104
  clear hy104
  obtain rfl := Option.some.inj H
  go_enter Try.func74, Try.ntmps74
  go_wp2_with (first | ((with_reducible refine gate_dst (N := 5) rfl ?_); refine Kd.R_lit Kd.string _ 9 ?hg (N := 5) ?hd (xs := ([] : List ByteArray)) (inner := []) (ok := fun _ => True) (okp := fun _ => True) ?hr ?hp (fun _ hk => hk) trivial (Below.refl _ _) (Nat.le_refl _) (by simp) ?_; (case hd => rfl); (case hg => rfl); (case hr => first | (go_simp; done) | (go_simp; rfl)); (case hp => exact (Reps.none _ _)); intro v102 w3 ho4 hb hg_ hnew_; clear hg_ hnew_; (first | rw [← Ny101.out] at ho4 | (simp only [Int.reduceToNat] at ho4; rw [← Ny101.out] at ho4)); replace HO103 := ak (Kd.R_lower ho4 (below_size (lG HB))); replace HB := lB HB hb; clear hb ho4) | ((with_reducible refine gate_builtin (b := .append) (xs := #[.tmp 5, .tmp 6]) rfl ?_); at_builtin; refine Kd.R_append_rows Kd.string (w0 := w) w.heap.size rfl (.tmp 5) (.tmp 6) 24 9 (.string ⟨#[]⟩) 16 rfl Try.underlying24 info9 rfl (by decide) (by omega) v102 y101 l0 _ _ _ (fun _ => True) (fun _ => False) rfl rfl ?aO ?aR (fun _ _ h => h) (fun _ h => h.elim) ?aF ?aB ?aS ?aL ?_; (case aR => exact cG (Kd.C_below HR0.out HB.out)); (case aB => exact (lG HB)); (case aF => exact (fun _ _ => trivial)); (case aO => exact (rG HO103)); (case aS => exact (below_size (lG HB))); (case aL => have := LMc2.out; omega); intro v105 w5 ho hb hg hat; rw [← Ny104.out] at ho; have n0_ := ak (hb); have n1_ := ak (ho); clear HB; clear HO103; have HB := n0_; have HO106 := n1_; clear n0_ n1_; clear ho hb hg hat))
  go_ret
  exact ⟨_, ew, by (with_reducible repeat (first | apply Kd.R_alloc | apply Kd.R_drewN | apply Kd.R_drew)); exact HO106.out, by exact lG HB⟩
 ·rw [if_neg c2] at H
  exact absurd H (by simp)

/-! ### impl_Write_75: function 75 -/
def impl_Write_75.f (l0 : List (S63)) : Option ((List (S63))) := (some (([] : List (S63)) : List (S63))).bind fun y107 => (if y107.length + l0.length < 5864062014805 then (some (y107 ++ l0)) else (none))
set_option maxHeartbeats 8000000 in
set_option maxRecDepth 100000 in
theorem impl_Write_75.calls (A0 : Option Addr) (c0 : Nat) (l0 : List (S63)) (r : List (S63)) (w : World) (hr0 : Kd.C k63 w A0 l0.length l0) (hc0 : l0.length ≤ c0) (h : impl_Write_75.f l0 = some r) :
  Calls Try.prog 75 #[.slice A0 l0.length c0] w fun e w' => ∃ v0_ : Value, e = .returned (v0_) ∧ Kd.R k63 63 w' w.heap.size (fun _ => True) v0_ r ∧ Below w.heap.size w w' := by
 cases A0 with
 | none =>
  have hl_ : l0 = [] := by
   cases l0 with
   | nil => rfl
   | cons x_ t_ => (obtain ⟨ad_, h0_, _⟩ := hr0.2.2 (by simp); cases h0_)
  subst hl_
  have hr_ : [] = r := by simpa [impl_Write_75.f] using h
  subst hr_
  have hnil_ := fun W_ : World => Lib.run_eql_slice_nil (P := Try.prog) W_ 25 63 none 0 c0 0 0 Try.underlying25
  go_enter Try.func75, Try.ntmps75
  go_wp2
  go_ret
  exact ⟨.slice none 0 0, rfl, Kd.R_nil _ _ _ _ _, Below.refl _ _⟩
 | some a0_ =>
 have hnil_ := fun W_ : World => Lib.run_eql_slice_nil (P := Try.prog) W_ 25 63 (some a0_) l0.length c0 0 0 Try.underlying25
 have HR0 := Aside0.mk hr0
 have HC0 := Aside0.mk hc0
 clear hr0 hc0
 have HB := ak (Below.refl w.heap.size w)
 have H : ((some (([] : List (S63)) : List (S63))).bind fun y107 => (if y107.length + l0.length < 5864062014805 then (some (y107 ++ l0)) else (none))) = some r := h
 clear h
 obtain ⟨y107, hy107⟩ : ∃ y_ : List (S63), y_ = (([] : List (S63))) := ⟨_, rfl⟩
 replace H : (if y107.length + l0.length < 5864062014805 then (some (y107 ++ l0)) else (none)) = some r := by first | (rw [hy107]; with_reducible exact H) | (have H2_ := (Option.bind_some _ _).symm.trans H; rw [hy107]; with_reducible exact H2_) | (have H2_ := (Option.bind_some _ _).symm.trans H; with_reducible exact H2_) | with_reducible exact H | (rw [hy107]; exact H) | exact H
 have Ny107 := Aside0.mk hy107
 clear hy107
 by_cases c2 : y107.length + l0.length < 5864062014805
 ·rw [if_pos c2] at H
  have LMc2 := Aside0.mk c2
  clear c2
  obtain ⟨y110, hy110⟩ : ∃ y_ : List (S63), y_ = (y107 ++ l0) := ⟨_, rfl⟩
  replace H : (some y110) = some r := by first | (rw [hy110]; with_reducible exact H) | (have H2_ := (Option.bind_some _ _).symm.trans H; rw [hy110]; with_reducible exact H2_) | (have H2_ := (Option.bind_some _ _).symm.trans H; with_reducible exact H2_) | with_reducible exact H | (rw [hy110]; exact H) | exact H
  have Ny110 := Aside0.mk hy110
  clear hy110
  obtain rfl := Option.some.inj H
  go_enter Try.func75, Try.ntmps75
  go_wp2_with (first | ((with_reducible refine gate_dst (N := 5) rfl ?_); refine Kd.R_lit k63 _ 63 ?hg (N := 5) ?hd (xs := ([] : List (S63))) (inner := []) (ok := fun _ => True) (okp := fun _ => True) ?hr ?hp (fun _ hk => hk) trivial (Below.refl _ _) (Nat.le_refl _) (by simp) ?_; (case hd => rfl); (case hg => rfl); (case hr => first | (go_simp; done) | (go_simp; rfl)); (case hp => exact (Reps.none _ _)); intro v108 w3 ho4 hb hg_ hnew_; clear hg_ hnew_; (first | rw [← Ny107.out] at ho4 | (simp only [Int.reduceToNat] at ho4; rw [← Ny107.out] at ho4)); replace HO109 := ak (Kd.R_lower ho4 (below_size (lG HB))); replace HB := lB HB hb; clear hb ho4) | ((with_reducible refine gate_builtin (b := .append) (xs := #[.tmp 5, .tmp 6]) rfl ?_); at_builtin; refine Kd.R_append_rows k63 (w0 := w) w.heap.size rfl (.tmp 5) (.tmp 6) 25 63 (.agg #[(.int .i64 0), (.string ⟨#[]⟩)]) 24 rfl Try.underlying25 info63 rfl (by decide) (by omega) v108 y107 l0 _ _ _ (fun _ => True) (fun _ => False) rfl rfl ?aO ?aR (fun _ _ h => h) (fun _ h => h.elim) ?aF ?aB ?aS ?aL ?_; (case aR => exact cG (Kd.C_below HR0.out HB.out)); (case aB => exact (lG HB)); (case aF => exact (fun _ _ => trivial)); (case aO => exact (rG HO109)); (case aS => exact (below_size (lG HB))); (case aL => have := LMc2.out; omega); intro v111 w5 ho hb hg hat; rw [← Ny110.out] at ho; have n0_ := ak (hb); have n1_ := ak (ho); clear HB; clear HO109; have HB := n0_; have HO112 := n1_; clear n0_ n1_; clear ho hb hg hat))
  go_ret
  exact ⟨_, ew, by (with_reducible repeat (first | apply Kd.R_alloc | apply Kd.R_drewN | apply Kd.R_drew)); exact HO112.out, by exact lG HB⟩
 ·rw [if_neg c2] at H
  exact absurd H (by simp)

/-! ### impl_cloneDisk: function 48 -/
def impl_cloneDisk.f (l0_0 : List ByteArray) (l0_1 : List (S63)) : Option (List ByteArray × (List (S63))) := (slices_Clone_string_string.f l0_0).bind fun t115 => ((impl_Write_75.f l0_1).bind fun t118 => (some (t115, t118)))
def impl_cloneDisk.T1 : Bool × List (List Nat × List Nat) := (true, [([], []), ([0], [0]), ([1], [1]), ([], []), ([3], [3]), ([4, 2], [4]), ([2, 5], [2, 5]), ([6, 5, 0, 1, 2, 3, 4, 5, 6], [6])])
def impl_cloneDisk.B1 : List Nat := [0, 1, 3, 0, 8, 31, 63, 127]
theorem impl_cloneDisk.tab1 : rtab .any (opsOf Try.f48 1) = impl_cloneDisk.T1 := by kernel_rfl
theorem impl_cloneDisk.bits1 : waitsOk impl_cloneDisk.T1.2 impl_cloneDisk.B1 = true := by kernel_rfl
set_option maxHeartbeats 8000000 in
set_option maxRecDepth 100000 in
theorem impl_cloneDisk.calls (A0_0 : Option Addr) (c0_0 : Nat) (l0_0 : List ByteArray) (A0_1 : Option Addr) (c0_1 : Nat) (l0_1 : List (S63)) (r1 : List ByteArray) (r2 : List (S63)) (w : World) (hr0_0 : Kd.C Kd.string w A0_0 l0_0.length l0_0) (hc0_0 : l0_0.length ≤ c0_0) (hr0_1 : Kd.C k63 w A0_1 l0_1.length l0_1) (hc0_1 : l0_1.length ≤ c0_1) (h : impl_cloneDisk.f l0_0 l0_1 = some (r1, r2)) :
  Calls Try.prog 48 #[.agg #[.slice A0_0 l0_0.length c0_0, .slice A0_1 l0_1.length c0_1]] w fun e w' => ∃ v0_ v1_ : Value, e = .returned (.agg #[v0_, v1_]) ∧ Kd.R Kd.string 9 w' w.heap.size (fun _ => True) v0_ r1 ∧ Kd.R k63 63 w' w.heap.size (fun _ => True) v1_ r2 ∧ Below w.heap.size w w' := by
 have hu27 := Try.underlying27
 have HR0_0 := Aside0.mk hr0_0
 have HC0_0 := Aside0.mk hc0_0
 clear hr0_0 hc0_0
 have HR0_1 := Aside0.mk hr0_1
 have HC0_1 := Aside0.mk hc0_1
 clear hr0_1 hc0_1
 have HB := ak (Below.refl w.heap.size w)
 have H : ((slices_Clone_string_string.f l0_0).bind fun t115 => ((impl_Write_75.f l0_1).bind fun t118 => (some (t115, t118)))) = some (r1, r2) := h
 clear h
 replace H := Option.bind_eq_some_iff.mp H
 obtain ⟨t115, A20, H⟩ := H
 replace H : ((impl_Write_75.f l0_1).bind fun t118 => (some (t115, t118))) = some (r1, r2) := H
 have A2 := Aside0.mk A20
 clear A20
 replace H := Option.bind_eq_some_iff.mp H
 obtain ⟨t118, A30, H⟩ := H
 replace H : (some (t115, t118)) = some (r1, r2) := H
 have A3 := Aside0.mk A30
 clear A30
 simp only [Option.some.injEq, Prod.mk.injEq] at H
 obtain ⟨rfl, rfl⟩ := H
 go_enter Try.func48, Try.ntmps48
 try go_wp2_with (first | ((with_reducible refine gate_dst (N := 1) rfl ?_); refine bx 1 #[.slice A0_0 l0_0.length c0_0, .slice A0_1 l0_1.length c0_1] 27 ?_; intro gb113 hg w4 hbox hb; replace BK113 := ak (hbox); replace GW113 := ak (bz hg (lG HB)); replace GE113 := ak (bz hg (lG HB)); replace HB := lB HB hb; clear hb hbox hg) | ((with_reducible refine gate_dst (N := 2) rfl ?_); refine bx 2 #[.slice none 0 0, .slice none 0 0] 27 ?_; intro gb114 hg w5 hbox hb; replace BK114 := ak (hbox); replace GW114 := ak (bz hg (lT HB (gC GE113 gN))); replace GE114 := ak (bz hg (lT HB (gC GE113 gN))); replace HB := ak (below_step (lT HB (gC GE113 gN)) hb); replace NB113_114 := ak (nl hg (bG BK113)); replace NB114_113 := ak (ng hg (bG BK113)); replace BK113 := bB BK113 hb; clear hb hbox hg))
 replace BK113 := ak (blk_drew BK113.out)
 replace BK114 := ak (blk_drew BK114.out)
 replace HB := ak (below_drew1 HB.out)
 refine start_ (n := 8) (S := fun w' => w'.cell? ⟨gb113, 0, none⟩ = some (.slice A0_0 l0_0.length c0_0) ∧ w'.cell? ⟨gb113, 1, none⟩ = some (.slice A0_1 l0_1.length c0_1)) (ds := []) #[f_,f_,f_,f_,f_,f_,f_,f_] (by kernel_rfl) rfl rfl ⟨bc BK113 0, bc BK113 1⟩ (fun hHeld => ?_); refine with_tabW impl_cloneDisk.tab1 impl_cloneDisk.bits1 (fun HT_ HW_ => ?_)
 generalize w5.drew = w6 at BK113 BK114 HB hHeld ⊢
 refine pu 0 3 (fb 8 1) HT_ ?_
 refine pu 3 6 (fb 8 9) HT_ ?_
 refine tk 1 4 (fb 8 11) HT_ HW_ hHeld ?_
 refine tk 4 7 (fb 8 27) HT_ HW_ hHeld ?_
 refine on 2 (some 5) (fb 8 31) HT_ (fun K hK => ?_)
 refine goes_ Try.func74 (by kernel_rfl) rfl #[.slice A0_0 l0_0.length c0_0] (by rfl) rfl rfl (by (try simp only [List.map_toArray, List.map_cons, List.map_nil]); first | done | rfl | (simp only [List.length_drop, List.length_take]; rfl)) ?_
 with_reducible refine (slices_Clone_string_string.calls _ _ l0_0 t115 _ ?side1 ?side2 A2.out).mono ?_
 (case side1 => exact cG (Kd.C_below HR0_0.out HB.out))
 (case side2 => exact HC0_0.out)
 rintro e w7 ⟨v116, rfl, ho0, hb⟩
 refine ⟨_, rfl, ?_⟩
 replace HO117 := ak (Kd.R_lower ho0 (below_size (lT HB (gC GE113 (gC GE114 gN)))))
 replace BK113 := bB BK113 hb
 replace BK114 := bB BK114 hb
 replace HB := ak (below_step (lT HB (gC GE113 (gC GE114 gN))) hb)
 (try clear hb)
 (try clear hb2)
 (try clear hk)
 (try clear hi)
 (try clear ho0)
 refine hK.out _ _ ⟨bc BK113 0, bc BK113 1⟩ (fun hHeld => ?_)
 clear hK K
 refine nm ?_
 refine on 5 (some 8) (fb 8 63) HT_ (fun K hK => ?_)
 refine goes_ Try.func75 (by kernel_rfl) rfl #[.slice A0_1 l0_1.length c0_1] (by rfl) rfl rfl (by (try simp only [List.map_toArray, List.map_cons, List.map_nil]); first | done | rfl | (simp only [List.length_drop, List.length_take]; rfl)) ?_
 with_reducible refine (impl_Write_75.calls _ _ l0_1 t118 _ ?side1 ?side2 A3.out).mono ?_
 (case side1 => exact cG (Kd.C_below HR0_1.out HB.out))
 (case side2 => exact HC0_1.out)
 rintro e w8 ⟨v119, rfl, ho0, hb⟩
 refine ⟨_, rfl, ?_⟩
 replace HO117 := rB HO117 hb
 replace HO120 := ak (Kd.R_lower ho0 (below_size (lT HB (gC GE113 (gC GE114 gN)))))
 replace BK113 := bB BK113 hb
 replace BK114 := bB BK114 hb
 replace HB := ak (below_step (lT HB (gC GE113 (gC GE114 gN))) hb)
 (try clear hb)
 (try clear hb2)
 (try clear hk)
 (try clear hi)
 (try clear ho0)
 obtain ⟨Ao9, co9, eo9⟩ := Kd.R_slice HO120.out
 (first | subst eo9 | (injection eo9 with f1_ f2_ f3_; have f4_ := f1_.symm; have f5_ := f3_.symm; clear f1_ f2_ f3_; subst f4_; subst f5_))
 obtain ⟨Ao10, co10, eo10⟩ := Kd.R_slice HO117.out
 (first | subst eo10 | (injection eo10 with f1_ f2_ f3_; have f4_ := f1_.symm; have f5_ := f3_.symm; clear f1_ f2_ f3_; subst f4_; subst f5_))
 refine hK.out _ _ ⟨bc BK113 0, bc BK113 1⟩ (fun hHeld => ?_)
 clear hK K
 refine nm ?_
 refine pu 6 9 (fb 8 127) HT_ ?_
 refine on 7 none (fb 8 255) HT_ (fun K hK => ?_)
 have hs11 : w8.cell? ⟨gb114, 0, none⟩ = some (.slice none 0 0) := bc BK114 0
 have hfs11 := blk_frozen BK114.out 0
 have hns11_0 := NB113_114.out
 have hms11_0 := NB114_113.out
 have hs12 : w8.cell? ⟨gb114, 1, none⟩ = some (.slice none 0 0) := bc BK114 1
 have hfs12 := blk_frozen BK114.out 1
 have hns12_0 := NB113_114.out
 have hms12_0 := NB114_113.out
 refine skip_ (w1 := ?_) (by rfl) rfl ?_ ?_
 rotate_left
 ·go_simp
  rfl
 refine hK.out _ _ ⟨((cell_far (p := ⟨gb114, _, none⟩) NB113_114.out _).trans (((cell_far (p := ⟨gb114, _, none⟩) NB113_114.out _).trans (hHeld.1)))), ((cell_far (p := ⟨gb114, _, none⟩) NB113_114.out _).trans (((cell_far (p := ⟨gb114, _, none⟩) NB113_114.out _).trans (hHeld.2))))⟩ (fun hHeld => ?_)
 clear hK K
 refine done_ (done_of HT_.out (by kernel_rfl)) ?_
 try go_wp2
 refine bodyPost_ret (results_cell_row rfl _ _ gb114 27 #[.slice Ao10 t115.length co10, .slice Ao9 t118.length co9] (0, 0) _ rfl (bW BK114) Try.underlying27 rfl (by kernel_rfl)) rfl ?_
 exact ⟨_, _, ew, by exact Kd.R_mono (rT HO117 BK114 (by decide)) (fun _ hk => trivial), by exact Kd.R_mono (rT HO120 BK114 (by decide)) (fun _ hk => trivial), by exact lT HB (gC GE113 (gC GE114 gN))⟩

/-! ### impl_FlushDisk: function 13 -/
def impl_FlushDisk.l0 : Nat → List (S63) → Int → Int → List ByteArray → List (S63) → Option (List ByteArray × (List (S63)))
 | 0, _, _, _, _, _ => none
 | k + 1, x13, x14, x15, x130000, x130001 => if x15 < x14 then (if 0 ≤ x15 then (if x15 < (x13.length : Int) then (if 0 ≤ ((rd_T63 x13 x15).f0) then (if ((rd_T63 x13 x15).f0) < (x130000.length : Int) then (impl_FlushDisk.l0 k x13 x14 (wrap64 (x15 + 1)) (x130000.set (((rd_T63 x13 x15).f0) : Int).toNat ((rd_T63 x13 x15).f1)) x130001) else (none)) else (none)) else (none)) else (none)) else (some (x130000, ([] : List (S63))))
def impl_FlushDisk.f (k : Nat) (l0_0 : List ByteArray) (l0_1 : List (S63)) : Option (List ByteArray × (List (S63))) := (impl_cloneDisk.f l0_0 l0_1).bind fun bt123 => ((impl_DiskOk.f l0_0 l0_1).bind fun t130 => (if t130 = true then (impl_FlushDisk.l0 k l0_1 (l0_1.length : Int) 0 bt123.1 bt123.2) else (some (bt123.1, bt123.2))))
theorem impl_FlushDisk.mono_l : ∀ k, (∀ y0 y1 y2 y3 y4, LeO (impl_FlushDisk.l0 k y0 y1 y2 y3 y4) (impl_FlushDisk.l0 (k + 1) y0 y1 y2 y3 y4))
 | 0 => fun _ _ _ _ _ r h => by simp [impl_FlushDisk.l0] at h
 | k + 1 => by
  have ih0 := impl_FlushDisk.mono_l k
  ·intro y0 y1 y2 y3 y4
   unfold impl_FlushDisk.l0
   repeat' first
   | (with_reducible exact ih0 _ _ _ _ _)
   | (with_reducible exact LeO.refl _)
   | (with_reducible exact LeO.none _)
   | (with_reducible refine LeO.ite ?_ ?_)
   | (with_reducible refine LeO.bind ?_ (fun _ => ?_))
   | exact ih0 _ _ _ _ _
   | exact LeO.none _
   | refine LeO.ite ?_ ?_
   | refine LeO.bind ?_ (fun _ => ?_)
theorem impl_FlushDisk.mono : ∀ a0 a1 k, LeO (impl_FlushDisk.f k a0 a1) (impl_FlushDisk.f (k + 1) a0 a1) := by
 intro a0 a1 k
 have ih0 := impl_FlushDisk.mono_l k
 unfold impl_FlushDisk.f
 repeat' first
   | (with_reducible exact ih0 _ _ _ _ _)
   | (with_reducible exact LeO.refl _)
   | (with_reducible exact LeO.none _)
   | (with_reducible refine LeO.ite ?_ ?_)
   | (with_reducible refine LeO.bind ?_ (fun _ => ?_))
   | exact ih0 _ _ _ _ _
   | exact LeO.none _
   | refine LeO.ite ?_ ?_
   | refine LeO.bind ?_ (fun _ => ?_)
set_option maxHeartbeats 8000000 in
set_option maxRecDepth 100000 in
theorem impl_FlushDisk.calls (k : Nat) (A0_0 : Option Addr) (c0_0 : Nat) (l0_0 : List ByteArray) (A0_1 : Option Addr) (c0_1 : Nat) (l0_1 : List (S63)) (r1 : List ByteArray) (r2 : List (S63)) (w : World) (hr0_0 : Kd.C Kd.string w A0_0 l0_0.length l0_0) (hc0_0 : l0_0.length ≤ c0_0) (hr0_1 : Kd.C k63 w A0_1 l0_1.length l0_1) (hc0_1 : l0_1.length ≤ c0_1) (h : impl_FlushDisk.f k l0_0 l0_1 = some (r1, r2)) :
  Calls Try.prog 13 #[.agg #[.slice A0_0 l0_0.length c0_0, .slice A0_1 l0_1.length c0_1]] w fun e w' => ∃ v0_ v1_ : Value, e = .returned (.agg #[v0_, v1_]) ∧ Kd.R Kd.string 9 w' w.heap.size (fun _ => True) v0_ r1 ∧ Kd.R k63 63 w' w.heap.size (fun _ => True) v1_ r2 ∧ Below w.heap.size w w' := by
 have hu27 := Try.underlying27
 have hu63 := Try.underlying63
 have HR0_0 := Aside0.mk hr0_0
 have HC0_0 := Aside0.mk hc0_0
 clear hr0_0 hc0_0
 have HR0_1 := Aside0.mk hr0_1
 have HC0_1 := Aside0.mk hc0_1
 clear hr0_1 hc0_1
 have HB := ak (Below.refl w.heap.size w)
 have H : ((impl_cloneDisk.f l0_0 l0_1).bind fun bt123 => ((impl_DiskOk.f l0_0 l0_1).bind fun t130 => (if t130 = true then (impl_FlushDisk.l0 k l0_1 (l0_1.length : Int) 0 bt123.1 bt123.2) else (some (bt123.1, bt123.2))))) = some (r1, r2) := h
 clear h
 replace H := Option.bind_eq_some_iff.mp H
 obtain ⟨⟨t123, t126⟩, A20, H⟩ := H
 replace H : ((impl_DiskOk.f l0_0 l0_1).bind fun t130 => (if t130 = true then (impl_FlushDisk.l0 k l0_1 (l0_1.length : Int) 0 t123 t126) else (some (t123, t126)))) = some (r1, r2) := H
 have A2 := Aside0.mk A20
 clear A20
 replace H := Option.bind_eq_some_iff.mp H
 obtain ⟨t130, A30, H⟩ := H
 replace H : (if t130 = true then (impl_FlushDisk.l0 k l0_1 (l0_1.length : Int) 0 t123 t126) else (some (t123, t126))) = some (r1, r2) := H
 have A3 := Aside0.mk A30
 clear A30
 by_cases c4 : t130 = true
 ·subst c4
  have H1 : (impl_FlushDisk.l0 k l0_1 (l0_1.length : Int) 0 t123 t126) = some (r1, r2) := by rw [if_pos rfl] at H; exact H
  clear H
  have H := H1
  clear H1
  have H' := Aside0.mk H
  clear H
  go_enter Try.func13, Try.ntmps13
  go_wp2_with (first | ((with_reducible refine gate_dst (N := 1) rfl ?_); refine bx 1 #[.slice A0_0 l0_0.length c0_0, .slice A0_1 l0_1.length c0_1] 27 ?_; intro gb121 hg w5 hbox hb; replace BK121 := ak (hbox); replace GW121 := ak (bz hg (lG HB)); replace GE121 := ak (bz hg (lG HB)); replace HB := lB HB hb; clear hb hbox hg) | ((with_reducible refine gate_dst (N := 2) rfl ?_); refine bx 2 #[.slice none 0 0, .slice none 0 0] 27 ?_; intro gb122 hg w6 hbox hb; replace BK122 := ak (hbox); replace GW122 := ak (bz hg (lT HB (gC GE121 gN))); replace GE122 := ak (bz hg (lT HB (gC GE121 gN))); replace HB := ak (below_step (lT HB (gC GE121 gN)) hb); replace NB121_122 := ak (nl hg (bG BK121)); replace NB122_121 := ak (ng hg (bG BK121)); replace BK121 := bB BK121 hb; clear hb hbox hg; have hnb7 := NB121_122.out; have hnc7 := NB122_121.out; obtain ⟨hcz8_0, hcz8_1, hfz8_0, hfz8_1⟩ := bC2 BK121) | ((with_reducible refine gate_callee (f := 48) rfl ?_); refine gl (some 7) Try.func48 #[.agg #[.slice A0_0 l0_0.length c0_0, .slice A0_1 l0_1.length c0_1]] ?_; (with_reducible refine (impl_cloneDisk.calls _ _ l0_0 _ _ l0_1 t123 t126 _ ?side1 ?side2 ?side3 ?side4 A2.out).mono ?_); (case side1 => exact cG (Kd.C_below HR0_0.out HB.out)); (case side2 => exact HC0_0.out); (case side3 => exact cG (Kd.C_below HR0_1.out HB.out)); (case side4 => exact HC0_1.out); rintro e w9 ⟨v124, v127, rfl, ho0, ho1, hb⟩; refine ⟨_, rfl, ?_⟩; replace HO125 := ak (Kd.R_lower ho0 (below_size (lT HB (gC GE121 (gC GE122 gN))))); replace HO128 := ak (Kd.R_lower ho1 (below_size (lT HB (gC GE121 (gC GE122 gN))))); replace BK121 := bB BK121 hb; replace BK122 := bB BK122 hb; replace HB := ak (below_step (lT HB (gC GE121 (gC GE122 gN))) hb); (try clear hb); (try clear hk); (try clear ho0); (try clear ho1)) | ((with_reducible refine gate_dst (N := 3) rfl ?_); refine bx 3 #[.slice none 0 0, .slice none 0 0] 27 ?_; intro gb129 hg w10 hbox hb; replace HO125 := rB HO125 hb; replace HO128 := rB HO128 hb; replace BK129 := ak (hbox); replace GW129 := ak (bz hg (lT HB (gC GE121 (gC GE122 gN)))); replace GE129 := ak (bz hg (lT HB (gC GE121 (gC GE122 gN)))); replace HB := ak (below_step (lT HB (gC GE121 (gC GE122 gN))) hb); replace NB121_129 := ak (nl hg (bG BK121)); replace NB129_121 := ak (ng hg (bG BK121)); replace BK121 := bB BK121 hb; replace NB122_129 := ak (nl hg (bG BK122)); replace NB129_122 := ak (ng hg (bG BK122)); replace BK122 := bB BK122 hb; clear hb hbox hg; obtain ⟨Ao11, co11, eo11⟩ := Kd.R_slice HO125.out; subst eo11; have hnb12 := NB129_121.out; have hnc12 := NB121_129.out; have hnb13 := NB129_122.out; have hnc13 := NB122_129.out; obtain ⟨hcz14_0, hcz14_1, hfz14_0, hfz14_1⟩ := bC2 BK129; obtain ⟨Ao15, co15, eo15⟩ := Kd.R_slice HO128.out; subst eo15; obtain ⟨hcz16_0, hcz16_1, hfz16_0, hfz16_1⟩ := bC2 BK121) | ((with_reducible refine gate_callee (f := 16) rfl ?_); refine gl (some 9) Try.func16 #[.agg #[.slice A0_0 l0_0.length c0_0, .slice A0_1 l0_1.length c0_1]] ?_; (with_reducible refine (impl_DiskOk.calls _ _ l0_0 _ _ l0_1 true _ ?side1 ?side2 ?side3 ?side4 A3.out).mono ?_); (case side1 => exact Kd.C_below HR0_0.out (lT HB (gC GE121 (gC GE122 (gC GE129 gN))))); (case side2 => exact HC0_0.out); (case side3 => exact Kd.C_below HR0_1.out (lT HB (gC GE121 (gC GE122 (gC GE129 gN))))); (case side4 => exact HC0_1.out); rintro e w17 ⟨rfl, hb⟩; refine ⟨_, rfl, ?_⟩; replace HO125 := ak (Kd.R_below (rT HO125 BK129 (by decide)) hb); replace HO128 := ak (Kd.R_below (rT HO128 BK129 (by decide)) hb); replace BK121 := ak (blk_below (bT BK121 (nC NB121_129 nN)) hb); replace BK122 := ak (blk_below (bT BK122 (nC NB122_129 nN)) hb); replace BK129 := ak (blk_below (g := gb129) (o := .cells #[.slice Ao11 t123.length co11, .slice Ao15 t126.length co15] 27 (0, 0)) (bW BK129) hb); replace HB := ak (below_step (lT HB (gC GE121 (gC GE122 (gC GE129 gN)))) hb); (try clear hb); (try clear hk); obtain ⟨hcz18_0, hcz18_1, hfz18_0, hfz18_1⟩ := bC2 BK121))
  go_loopg [15] k (fun kq v15 w' => ∃ (x15_1 : Int) (x130000_1 : List ByteArray) (u130000 : Value), v15 = .int .i64 x15_1 ∧ Aside0 (impl_FlushDisk.l0 kq l0_1 (l0_1.length : Int) x15_1 x130000_1 t126 = some (r1, r2)) ∧ Aside0 (kq ≤ k) ∧ Aside0 (Kd.R Kd.string 9 w' w.heap.size (fun _ => True) u130000 x130000_1) ∧ Aside0 (Kd.R k63 63 w' w.heap.size (fun _ => True) (.slice Ao15 t126.length co15) t126) ∧ Aside0 (w'.heap[gb121]? = some (.cells #[(.slice A0_0 l0_0.length c0_0), (.slice A0_1 l0_1.length c0_1)] 27 (0, 0))) ∧ Aside0 (w'.heap[gb122]? = some (.cells #[(.slice none 0 0), (.slice none 0 0)] 27 (0, 0))) ∧ Aside0 (w'.heap[gb129]? = some (.cells #[u130000, (.slice Ao15 t126.length co15)] 27 (0, 0))) ∧ Aside0 (Below w.heap.size w w'))
  case atStart => exact ⟨(0), (t123), (.slice Ao11 t123.length co11), (by first | rfl | (simp; done) | (simp [*]; done)), H', ⟨Nat.le_refl _⟩, ⟨by (with_reducible repeat (first | apply Kd.R_alloc | apply Kd.R_drewN | apply Kd.R_drew)); exact HO125.out⟩, ⟨by (with_reducible repeat (first | apply Kd.R_alloc | apply Kd.R_drewN | apply Kd.R_drew)); exact HO128.out⟩, ⟨bG BK121⟩, ⟨bG BK122⟩, ⟨bG BK129⟩, ⟨by exact lT HB (gC GE121 (gC GE122 (gC GE129 gN)))⟩⟩
  case round =>
   clear H'
   try clear c1
   try clear p2
   try clear c4
   try clear c7
   try clear c12
   try clear c13
   try clear c16
   try clear hcz14_0
   try clear hcz14_1
   try clear hcz16_0
   try clear hcz16_1
   try clear hcz18_0
   try clear hcz18_1
   try clear hcz8_0
   try clear hcz8_1
   try clear hfz14_0
   try clear hfz14_1
   try clear hfz16_0
   try clear hfz16_1
   try clear hfz18_0
   try clear hfz18_1
   try clear hfz8_0
   try clear hfz8_1
   obtain ⟨x15_1, x130000_1, u130000, rfl, HA, HK1, HO_130000, HO_130001, BK121, BK122, BK129, HB⟩ := hrel
   cases gk with
   | zero => exact absurd HA.out (by simp [impl_FlushDisk.l0])
   | succ k1 =>
    have H := HA.out
    clear HA
    simp only [impl_FlushDisk.l0] at H
    by_cases c19 : x15_1 < (l0_1.length : Int)
    ·rw [if_pos c19] at H
     have c19b0 : decide (x15_1 < (l0_1.length : Int)) = true := decide_eq_true c19
     clear c19
     by_cases c20 : 0 ≤ x15_1
     ·rw [if_pos c20] at H
      have c20b0 : decide (0 ≤ x15_1) = true := decide_eq_true c20
      clear c20
      by_cases c21 : x15_1 < (l0_1.length : Int)
      ·rw [if_pos c21] at H
       have c21b0 : decide (x15_1 < (l0_1.length : Int)) = true := decide_eq_true c21
       clear c21
       by_cases c22 : 0 ≤ ((rd_T63 l0_1 x15_1).f0)
       ·rw [if_pos c22] at H
        have c22b0 : decide (0 ≤ ((rd_T63 l0_1 x15_1).f0)) = true := decide_eq_true c22
        clear c22
        by_cases c23 : ((rd_T63 l0_1 x15_1).f0) < (x130000_1.length : Int)
        ·rw [if_pos c23] at H
         have c23b0 : decide (((rd_T63 l0_1 x15_1).f0) < (x130000_1.length : Int)) = true := decide_eq_true c23
         clear c23
         obtain ⟨y133, hy133⟩ : ∃ y_ : List ByteArray, y_ = (x130000_1.set (((rd_T63 l0_1 x15_1).f0) : Int).toNat ((rd_T63 l0_1 x15_1).f1)) := ⟨_, rfl⟩
         replace H : (impl_FlushDisk.l0 k1 l0_1 (l0_1.length : Int) (wrap64 (x15_1 + 1)) y133 t126) = some (r1, r2) := by first | (rw [hy133]; with_reducible exact H) | (have H2_ := (Option.bind_some _ _).symm.trans H; rw [hy133]; with_reducible exact H2_) | (have H2_ := (Option.bind_some _ _).symm.trans H; with_reducible exact H2_) | with_reducible exact H | (rw [hy133]; exact H) | exact H
         have Ny133 := Aside0.mk hy133
         clear hy133
         have H' := Aside0.mk H
         clear H
         have p131 : 0 ≤ (x15_1 : Int) := of_decide_eq_true (by first | (with_reducible assumption) | assumption)
         have q131 : x15_1 < (l0_1.length : Int) := of_decide_eq_true (by first | (with_reducible assumption) | assumption)
         obtain ⟨ad131, e131, hx131_0, hx131_1⟩ := at_T63 HR0_1.out x15_1 p131 q131
         cases e131
         replace hx131_0 := (HB.out.cell (World.block_lt_of_cell? w _ hx131_0)).trans hx131_0
         replace hx131_1 := (HB.out.cell (World.block_lt_of_cell? w _ hx131_1)).trans hx131_1
         replace p131 := eq_true p131
         replace q131 := eq_true q131
         go_wp2_with (first | ((with_reducible refine gate_dst (N := 5) rfl ?_); refine bx 5 #[.int .i64 0, .string (⟨#[]⟩ : ByteArray)] 63 ?_; intro gb132 hg w25 hbox hb; replace HO_130000 := rB HO_130000 hb; replace HO_130001 := ak (Kd.R_below (Kd.R_elderB (rG HO_130001) gb132 (Nat.le_of_eq hg.symm)) hb); replace BK132 := ak (hbox); replace GW132 := ak (bz hg (lT HB (gC GE121 (gC GE122 (gC GE129 gN))))); replace GE132 := ak (bz hg (lT HB (gC GE121 (gC GE122 (gC GE129 gN))))); replace HB := ak (below_step (lT HB (gC GE121 (gC GE122 (gC GE129 gN)))) hb); replace NB121_132 := ak (nl hg (bG BK121)); replace NB132_121 := ak (ng hg (bG BK121)); replace BK121 := bB BK121 hb; replace NB122_132 := ak (nl hg (bG BK122)); replace NB132_122 := ak (ng hg (bG BK122)); replace BK122 := bB BK122 hb; replace NB129_132 := ak (nl hg (bG BK129)); replace NB132_129 := ak (ng hg (bG BK129)); replace BK129 := bB BK129 hb; clear hb hbox hg; have hnb26 := NB132_121.out; have hnc26 := NB121_132.out; have hnb27 := NB132_122.out; have hnc27 := NB122_132.out; have hnb28 := NB132_129.out; have hnc28 := NB129_132.out; obtain ⟨hcz29_0, hcz29_1, hfz29_0, hfz29_1⟩ := bC2 BK132) | ((with_reducible refine gate_store (t := 63) (p := 5) rfl ?_); refine store_event (t := 63) (p := 5) (v := ?vo_w30) (w1 := ((w25.setCell ⟨gb132, 0, none⟩ (.int .i64 ((rd_T63 l0_1 x15_1).f0))).setCell ⟨gb132, 1, none⟩ (.string ((rd_T63 l0_1 x15_1).f1)))) ?hg ?ho ?hn ?hr ?_; (case ho => rfl); (case hg => rfl); (case hn => rfl); (case hr => first | (go_simp; done) | (go_simp; rfl)); intro w30 hw; have n0_ : Aside0 (Kd.R Kd.string 9 w30 w.heap.size (fun _ => True) u130000 x130000_1) := ⟨(by rw [hw]; exact (by exact Kd.R_mono (rT HO_130000 BK132 (by decide)) (fun _ hk => trivial)))⟩; have n1_ : Aside0 (Kd.R k63 63 w30 w.heap.size (fun k_ => k_ ≠ gb132) (.slice Ao15 t126.length co15) t126) := ⟨(by rw [hw]; exact (by (with_reducible repeat (first | apply Kd.R_alloc | apply Kd.R_drewN | apply Kd.R_drew)); exact Kd.R_mono (Kd.R_far (p := ⟨gb132, 1, none⟩) (Kd.R_far (p := ⟨gb132, 0, none⟩) (Kd.R_mono HO_130001.out (fun k_ hk => (⟨hk, hk.2⟩ : _ ∧ k_ ≠ gb132))) (fun _ hk => hk.2) (.int .i64 ((rd_T63 l0_1 x15_1).f0))) (fun _ hk => hk.2) (.string ((rd_T63 l0_1 x15_1).f1))) (fun _ hk => hk.1.2)))⟩; have n2_ : Aside0 (w30.heap[gb121]? = some (.cells #[.slice A0_0 l0_0.length c0_0, .slice (some ad131) l0_1.length c0_1] 27 (0, 0))) := ⟨(by rw [hw]; exact (bT BK121 (nC NB121_132 nN)))⟩; have n3_ : Aside0 (w30.heap[gb122]? = some (.cells #[.slice none 0 0, .slice none 0 0] 27 (0, 0))) := ⟨(by rw [hw]; exact (bT BK122 (nC NB122_132 nN)))⟩; have n4_ : Aside0 (w30.heap[gb129]? = some (.cells #[u130000, .slice Ao15 t126.length co15] 27 (0, 0))) := ⟨(by rw [hw]; exact (bT BK129 (nC NB129_132 nN)))⟩; have n5_ : Aside0 (w30.heap[gb132]? = some (.cells #[.int .i64 ((rd_T63 l0_1 x15_1).f0), .string ((rd_T63 l0_1 x15_1).f1)] 63 (0, 0))) := ⟨(by rw [hw]; exact (bW BK132))⟩; have n6_ : Aside0 (Below w.heap.size w w30) := ⟨(by rw [hw]; exact (lT HB (gC GE121 (gC GE122 (gC GE129 (gC GE132 gN))))))⟩; clear hw; clear HO_130000; clear HO_130001; clear BK121; clear BK122; clear BK129; clear BK132; clear HB; have HO_130000 := n0_; have HO_130001 := n1_; have BK121 := n2_; have BK122 := n3_; have BK129 := n4_; have BK132 := n5_; have HB := n6_; clear n0_ n1_ n2_ n3_ n4_ n5_ n6_; have hnb31 := NB129_121.out; have hnc31 := NB121_129.out; have hnb32 := NB129_122.out; have hnc32 := NB122_129.out; obtain ⟨hcz33_0, hcz33_1, hfz33_0, hfz33_1⟩ := bC2 BK129; obtain ⟨hcz34_0, hcz34_1, hfz34_0, hfz34_1⟩ := bC2 BK132; have p24 : 0 ≤ (((rd_T63 l0_1 x15_1).f0) : Int) := of_decide_eq_true (by first | (with_reducible assumption) | assumption); have q24 : (((rd_T63 l0_1 x15_1).f0) : Int) < ((x130000_1.length : Int) : Int) := of_decide_eq_true (by first | (with_reducible assumption) | assumption); obtain ⟨go24, co24, eo24, gb24, gl24, cl24, HG24⟩ := Kd.R_form HO_130000.out (by omega); (first | cases eo24 | (injection eo24 with ea_ en_ ec_; (first | subst ea_ | (injection ea_ with ea_; subst ea_)); subst ec_; clear en_)); have GB24 := Aside0.mk gb24; have GG24 := Aside0.mk HG24; clear gb24 gl24 HG24; obtain ⟨hx24_0, hf24_0⟩ := Kd.R_celln (⟨#[]⟩ : ByteArray) HO_130000.out (((rd_T63 l0_1 x15_1).f0) : Int) p24 q24; replace p24 := eq_true p24; replace q24 := eq_true q24; obtain ⟨hy35_, hz35_⟩ := Kd.R_celln (⟨#[]⟩ : ByteArray) HO_130000.out (((rd_T63 l0_1 x15_1).f0) : Int) (of_decide_eq_true (by first | (with_reducible assumption) | assumption)) (of_decide_eq_true (by first | (with_reducible assumption) | assumption)); have HP35 := Kd.R_putg HO_130000.out (((rd_T63 l0_1 x15_1).f0) : Int) ((rd_T63 l0_1 x15_1).f1)) | ((with_reducible refine gate_store (t := 9) (p := 25) rfl ?_); refine store_event (t := 9) (p := 25) (v := ?vo_w36) (w1 := (w30.setCell ⟨go24, (((rd_T63 l0_1 x15_1).f0) : Int).toNat, none⟩ (.string ((rd_T63 l0_1 x15_1).f1)))) ?hg ?ho ?hn ?hr ?_; (case ho => rfl); (case hg => rfl); (case hn => rfl); (case hr => first | (go_simp; done) | (go_simp; rfl)); intro w36 hw; have hg : w30.grownBy w36 (some go24) := (by rw [hw]; exact HP35.2); have hp_ : Kd.R Kd.string 9 w36 w.heap.size (fun _ => True) (.slice (some ⟨go24, 0, none⟩) x130000_1.length co24) y133 := (by rw [hw, Ny133.out]; exact HP35.1); clear HP35; replace HO_130001 := ak (Kd.R_over' (v := (.slice (some ⟨go24, 0, none⟩) x130000_1.length co24)) (rG HO_130001) (Kd.R_typed HO_130000.out) (by decide) hg); replace BK121 := ak (blk_grown (g := gb121) (o := .cells #[.slice A0_0 l0_0.length c0_0, .slice (some ad131) l0_1.length c0_1] 27 (0, 0)) (bG BK121) hg (Kd.R_ne HO_130000.out BK121.out (by decide))); replace BK122 := ak (blk_grown (g := gb122) (o := .cells #[.slice none 0 0, .slice none 0 0] 27 (0, 0)) (bG BK122) hg (Kd.R_ne HO_130000.out BK122.out (by decide))); replace BK129 := ak (blk_grown (g := gb129) (o := .cells #[.slice (some ⟨go24, 0, none⟩) x130000_1.length co24, .slice Ao15 t126.length co15] 27 (0, 0)) (bG BK129) hg (Kd.R_ne HO_130000.out BK129.out (by decide))); replace BK132 := ak (blk_grown (g := gb132) (o := .cells #[.int .i64 ((rd_T63 l0_1 x15_1).f0), .string ((rd_T63 l0_1 x15_1).f1)] 63 (0, 0)) (bG BK132) hg (Kd.R_ne HO_130000.out BK132.out (by decide))); replace HO_130000 := ak (hp_); replace HB := ak ((by rw [hw]; exact below_set (HB.out) GB24.out : Below w.heap.size w w36)); clear hg hw hp_))
         go_roundg k1
         case measure => have := HK1.out; omega
         case rel => exact ⟨(wrap64 (x15_1 + 1)), (y133), (.slice (some ⟨go24, 0, none⟩) x130000_1.length co24), (by first | rfl | (simp; done) | (simp [*]; done)), H', ⟨by have := HK1.out; omega⟩, ⟨by (with_reducible repeat (first | apply Kd.R_alloc | apply Kd.R_drewN | apply Kd.R_drew)); exact HO_130000.out⟩, ⟨by (with_reducible repeat (first | apply Kd.R_alloc | apply Kd.R_drewN | apply Kd.R_drew)); exact Kd.R_mono HO_130001.out (fun _ hk => trivial)⟩, ⟨bG BK121⟩, ⟨bG BK122⟩, ⟨bG BK129⟩, ⟨by exact lT HB (gC GE121 (gC GE122 (gC GE129 (gC GE132 gN))))⟩⟩
        ·rw [if_neg c23] at H
         exact absurd H (by simp)
       ·rw [if_neg c22] at H
        exact absurd H (by simp)
      ·rw [if_neg c21] at H
       exact absurd H (by simp)
     ·rw [if_neg c20] at H
      exact absurd H (by simp)
    ·rw [if_neg c19] at H
     have c19b0 : decide (x15_1 < (l0_1.length : Int)) = false := decide_eq_false c19
     clear c19
     simp only [Option.some.injEq, Prod.mk.injEq] at H
     obtain ⟨rfl, rfl⟩ := H
     have hnb37 := NB129_121.out
     have hnc37 := NB121_129.out
     have hnb38 := NB129_122.out
     have hnc38 := NB122_129.out
     have hcz39_0 : wr.cell? ⟨gb129, 0, none⟩ = some (u130000) := bc BK129 0
     have hcz39_1 : wr.cell? ⟨gb129, 1, none⟩ = some (.slice Ao15 t126.length co15) := bc BK129 1
     have hfz39_0 := blk_frozen BK129.out 0
     have hfz39_1 := blk_frozen BK129.out 1
     obtain ⟨Ao40, co40, eo40⟩ := Kd.R_slice HO_130000.out
     subst eo40
     have hnb41 := NB122_121.out
     have hnc41 := NB121_122.out
     have hcz42_0 : wr.cell? ⟨gb122, 0, none⟩ = some (.slice none 0 0) := bc BK122 0
     have hcz42_1 : wr.cell? ⟨gb122, 1, none⟩ = some (.slice none 0 0) := bc BK122 1
     have hfz42_0 := blk_frozen BK122.out 0
     have hfz42_1 := blk_frozen BK122.out 1
     go_wp2
     refine bodyPost_ret (results_cell_row rfl _ _ gb122 27 #[.slice Ao40 x130000_1.length co40, .slice none 0 0] (0, 0) _ rfl (by (with_reducible repeat (first | refine blk_drewN ?_ _ | refine blk_drew ?_ | refine blk_alloc ?_ _)); refine blk_put (cs := #[.slice Ao40 x130000_1.length co40, .slice none 0 0]) ?_ 1 _ rfl; (with_reducible repeat (first | refine blk_drewN ?_ _ | refine blk_drew ?_ | refine blk_alloc ?_ _)); refine blk_put (cs := #[.slice none 0 0, .slice none 0 0]) ?_ 0 _ rfl; (with_reducible repeat (first | refine blk_drewN ?_ _ | refine blk_drew ?_ | refine blk_alloc ?_ _)); refine blk_far ?_ NB122_129.out _; (with_reducible repeat (first | refine blk_drewN ?_ _ | refine blk_drew ?_ | refine blk_alloc ?_ _)); exact BK122.out) Try.underlying27 rfl (by kernel_rfl)) rfl ?_
     exact ⟨_, _, ew, by exact Kd.R_mono (rT2 HO_130000 BK129 BK122 (by decide) (by decide)) (fun _ hk => trivial), nil_, by exact lT HB (gC GE121 (gC GE122 (gC GE129 gN)))⟩
 ·replace c4 := Bool.eq_false_iff.mpr c4
  subst c4
  have H1 : (some (t123, t126)) = some (r1, r2) := by rw [if_neg (show ¬ (false = true) by decide)] at H; exact H
  clear H
  have H := H1
  clear H1
  simp only [Option.some.injEq, Prod.mk.injEq] at H
  obtain ⟨rfl, rfl⟩ := H
  go_enter Try.func13, Try.ntmps13
  go_wp2_with (first | ((with_reducible refine gate_dst (N := 1) rfl ?_); refine bx 1 #[.slice A0_0 l0_0.length c0_0, .slice A0_1 l0_1.length c0_1] 27 ?_; intro gb121 hg w43 hbox hb; replace BK121 := ak (hbox); replace GW121 := ak (bz hg (lG HB)); replace GE121 := ak (bz hg (lG HB)); replace HB := lB HB hb; clear hb hbox hg) | ((with_reducible refine gate_dst (N := 2) rfl ?_); refine bx 2 #[.slice none 0 0, .slice none 0 0] 27 ?_; intro gb122 hg w44 hbox hb; replace BK122 := ak (hbox); replace GW122 := ak (bz hg (lT HB (gC GE121 gN))); replace GE122 := ak (bz hg (lT HB (gC GE121 gN))); replace HB := ak (below_step (lT HB (gC GE121 gN)) hb); replace NB121_122 := ak (nl hg (bG BK121)); replace NB122_121 := ak (ng hg (bG BK121)); replace BK121 := bB BK121 hb; clear hb hbox hg; have hnb45 := NB121_122.out; have hnc45 := NB122_121.out; obtain ⟨hcz46_0, hcz46_1, hfz46_0, hfz46_1⟩ := bC2 BK121) | ((with_reducible refine gate_callee (f := 48) rfl ?_); refine gl (some 7) Try.func48 #[.agg #[.slice A0_0 l0_0.length c0_0, .slice A0_1 l0_1.length c0_1]] ?_; (with_reducible refine (impl_cloneDisk.calls _ _ l0_0 _ _ l0_1 t123 t126 _ ?side1 ?side2 ?side3 ?side4 A2.out).mono ?_); (case side1 => exact cG (Kd.C_below HR0_0.out HB.out)); (case side2 => exact HC0_0.out); (case side3 => exact cG (Kd.C_below HR0_1.out HB.out)); (case side4 => exact HC0_1.out); rintro e w47 ⟨v124, v127, rfl, ho0, ho1, hb⟩; refine ⟨_, rfl, ?_⟩; replace HO125 := ak (Kd.R_lower ho0 (below_size (lT HB (gC GE121 (gC GE122 gN))))); replace HO128 := ak (Kd.R_lower ho1 (below_size (lT HB (gC GE121 (gC GE122 gN))))); replace BK121 := bB BK121 hb; replace BK122 := bB BK122 hb; replace HB := ak (below_step (lT HB (gC GE121 (gC GE122 gN))) hb); (try clear hb); (try clear hk); (try clear ho0); (try clear ho1)) | ((with_reducible refine gate_dst (N := 3) rfl ?_); refine bx 3 #[.slice none 0 0, .slice none 0 0] 27 ?_; intro gb129 hg w48 hbox hb; replace HO125 := rB HO125 hb; replace HO128 := rB HO128 hb; replace BK129 := ak (hbox); replace GW129 := ak (bz hg (lT HB (gC GE121 (gC GE122 gN)))); replace GE129 := ak (bz hg (lT HB (gC GE121 (gC GE122 gN)))); replace HB := ak (below_step (lT HB (gC GE121 (gC GE122 gN))) hb); replace NB121_129 := ak (nl hg (bG BK121)); replace NB129_121 := ak (ng hg (bG BK121)); replace BK121 := bB BK121 hb; replace NB122_129 := ak (nl hg (bG BK122)); replace NB129_122 := ak (ng hg (bG BK122)); replace BK122 := bB BK122 hb; clear hb hbox hg; obtain ⟨Ao49, co49, eo49⟩ := Kd.R_slice HO125.out; subst eo49; have hnb50 := NB129_121.out; have hnc50 := NB121_129.out; have hnb51 := NB129_122.out; have hnc51 := NB122_129.out; obtain ⟨hcz52_0, hcz52_1, hfz52_0, hfz52_1⟩ := bC2 BK129; obtain ⟨Ao53, co53, eo53⟩ := Kd.R_slice HO128.out; subst eo53; obtain ⟨hcz54_0, hcz54_1, hfz54_0, hfz54_1⟩ := bC2 BK121) | ((with_reducible refine gate_callee (f := 16) rfl ?_); refine gl (some 9) Try.func16 #[.agg #[.slice A0_0 l0_0.length c0_0, .slice A0_1 l0_1.length c0_1]] ?_; (with_reducible refine (impl_DiskOk.calls _ _ l0_0 _ _ l0_1 false _ ?side1 ?side2 ?side3 ?side4 A3.out).mono ?_); (case side1 => exact Kd.C_below HR0_0.out (lT HB (gC GE121 (gC GE122 (gC GE129 gN))))); (case side2 => exact HC0_0.out); (case side3 => exact Kd.C_below HR0_1.out (lT HB (gC GE121 (gC GE122 (gC GE129 gN))))); (case side4 => exact HC0_1.out); rintro e w55 ⟨rfl, hb⟩; refine ⟨_, rfl, ?_⟩; replace HO125 := ak (Kd.R_below (rT HO125 BK129 (by decide)) hb); replace HO128 := ak (Kd.R_below (rT HO128 BK129 (by decide)) hb); replace BK121 := ak (blk_below (bT BK121 (nC NB121_129 nN)) hb); replace BK122 := ak (blk_below (bT BK122 (nC NB122_129 nN)) hb); replace BK129 := ak (blk_below (g := gb129) (o := .cells #[.slice Ao49 t123.length co49, .slice Ao53 t126.length co53] 27 (0, 0)) (bW BK129) hb); replace HB := ak (below_step (lT HB (gC GE121 (gC GE122 (gC GE129 gN)))) hb); (try clear hb); (try clear hk); obtain ⟨hcz56_0, hcz56_1, hfz56_0, hfz56_1⟩ := bC2 BK129; obtain ⟨hcz57_0, hcz57_1, hfz57_0, hfz57_1⟩ := bC2 BK122))
  refine bodyPost_ret (results_cell_row rfl _ _ gb122 27 #[.slice Ao49 t123.length co49, .slice Ao53 t126.length co53] (0, 0) _ rfl (bW BK122) Try.underlying27 rfl (by kernel_rfl)) rfl ?_
  exact ⟨_, _, ew, by exact Kd.R_mono (rT HO125 BK122 (by decide)) (fun _ hk => trivial), by exact Kd.R_mono (rT HO128 BK122 (by decide)) (fun _ hk => trivial), by exact lT HB (gC GE121 (gC GE122 (gC GE129 gN)))⟩

/-! ### spec_l01In: function 49 -/
def spec_l01In.f (a0 : Int) (a1 : Int) (a2 : Int) : Option (Bool) := if a0 ≥ a1 then (some (decide (a0 ≤ a2))) else (some false)
set_option maxHeartbeats 8000000 in
set_option maxRecDepth 100000 in
theorem spec_l01In.calls (a0 : Int) (a1 : Int) (a2 : Int) (r : Bool) (w : World) (h : spec_l01In.f a0 a1 a2 = some r) :
  Calls Try.prog 49 #[.int .i64 a0, .int .i64 a1, .int .i64 a2] w fun e w' => e = .returned (.bool r) ∧ Drawn0 w w' := by
 have H : (if a0 ≥ a1 then (some (decide (a0 ≤ a2))) else (some false)) = some r := h
 clear h
 by_cases c4 : a0 ≥ a1
 ·rw [if_pos c4] at H
  have c4b0 : decide (a1 ≤ a0) = true := decide_eq_true c4
  clear c4
  obtain rfl := Option.some.inj H
  go_enter Try.func49, Try.ntmps49
  go_wp2
  go_ret
  exact ⟨by first | rfl | (simp; done) | (simp [*]; done), by repeat (first | exact Drawn0.refl _ | apply Drawn0.step)⟩
 ·rw [if_neg c4] at H
  have c4b0 : decide (a1 ≤ a0) = false := decide_eq_false c4
  clear c4
  obtain rfl := Option.some.inj H
  go_enter Try.func49, Try.ntmps49
  go_wp2
  go_ret
  exact ⟨by first | rfl | (simp; done) | (simp [*]; done), by repeat (first | exact Drawn0.refl _ | apply Drawn0.step)⟩

end Go.Proofs.Ytjpngldnkgofaaa.PFnDisksTold
