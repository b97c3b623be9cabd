-- Written by a program of mine (a turned copy of the kit's print): functions as plain Lean, their contracts.
import Derived.Test.YtagkjeldheiejaaPFnAnyOrderx5
import Derived.Test.YtagkjeldheiejaaVFnAnyOrder1
namespace Go.Proofs.Ytagkjeldheiejaa.PFnAnyOrder
open Go.RowKit Go.Proofs.YtagkjeldheiejaaW.PrintWords Go.Proofs.YtagkjeldheiejaaW.PrintLast Go.Proofs.YtagkjeldheiejaaW.PrintMore
attribute [local go_sem] max2_int min2_int max_two min_two max_three min_three max_four min_four   -- for this text's walks alone
set_option maxHeartbeats 40000000
set_option maxRecDepth 100000
set_option linter.unusedVariables false
set_option linter.unusedSimpArgs false
-- NOT PRINTED: function 98 (impl_Item_98)
-- NOT PRINTED: function 64 (impl_Item_64)
/-! ### impl_ItemsOk: function 21 -/
theorem idx_it (caps : Array Value) (p : S32 → Bool) (A0 : Option Addr) (c0 : Nat) (l0 : List S32) (w : World) (hr0 : Kd.C k32 w A0 l0.length l0) (hc0 : l0.length ≤ c0)
  (hp : ∀ x, x ∈ l0 → ∀ W, Below w.heap.size w W → Calls Try.prog 65 (#[.agg #[.int .i64 x.f0, .int .i64 x.f1.f0, .int .i64 x.f1.f1, .int .i64 x.f1.f2, .int .i64 x.f1.f3, .int .i64 x.f1.f4, .string x.f1.f5, .string x.f1.f6, .string x.f1.f7]] ++ caps) W fun e W' => e = .returned (.bool (p x)) ∧ Below W.heap.size W W') :
  Calls Try.prog 98 #[.slice A0 l0.length c0, .func (.func 65) #[] caps] w fun e w' => ∃ v : Int, e = .returned (.int .i64 v) ∧ Aside0 (decide (0 ≤ v) = l0.any p) ∧ Below w.heap.size w w' := by
 have HR0 := Aside0.mk hr0
 have HC0 := Aside0.mk hc0
 have HP := Aside0.mk hp
 have hm : l0.length ≤ 9223372036854775807 := hr0.2.1
 clear hr0 hc0 hp
 have HB := ak (Below.refl w.heap.size w)
 go_enter Try.func98, Try.ntmps98
 go_wp2
 go_loopg [8] l0.length (fun kq v8 w' => ∃ x8 : Int, v8 = .int .i64 x8 ∧ Aside0 (0 ≤ x8 ∧ x8 + kq = l0.length ∧ ∀ x, x ∈ l0.take x8.toNat → p x = false) ∧ Aside0 (Below w.heap.size w w'))
 case atStart => exact ⟨0, by first | rfl | (simp; done), ⟨by omega, by omega, by simp⟩, ⟨by first | exact HB.out | exact Below.refl _ _⟩⟩
 case round =>
  obtain ⟨x8, rfl, HX, HB⟩ := hrel
  by_cases c4 : x8 < (l0.length : Int)
  ·have c4b0 : decide (x8 < (l0.length : Int)) = true := decide_eq_true c4
   have c5b0 : decide (0 ≤ x8) = true := decide_eq_true HX.out.1
   have hl : x8.toNat < l0.length := by have := HX.out.1; omega
   have hmem : rd_T32 l0 x8 ∈ l0 := by
    unfold rd_T32
    rw [List.getD_eq_getElem?_getD, List.getElem?_eq_getElem hl]
    exact List.getElem_mem hl
   have HQ := ak (fun W hW => HP.out _ hmem W hW)
   clear c4 hl hmem
   have p103 : 0 ≤ (x8 : Int) := oda
   have q103 : x8 < (l0.length : Int) := oda
   obtain ⟨ad103, e103, hx103_0, hx103_1, hx103_2, hx103_3, hx103_4, hx103_5, hx103_6, hx103_7, hx103_8⟩ := at_T32 HR0.out x8 p103 q103
   cases e103
   replace hx103_0 := (HB.out.cell (World.block_lt_of_cell? w _ hx103_0)).trans hx103_0
   replace hx103_1 := (HB.out.cell (World.block_lt_of_cell? w _ hx103_1)).trans hx103_1
   replace hx103_2 := (HB.out.cell (World.block_lt_of_cell? w _ hx103_2)).trans hx103_2
   replace hx103_3 := (HB.out.cell (World.block_lt_of_cell? w _ hx103_3)).trans hx103_3
   replace hx103_4 := (HB.out.cell (World.block_lt_of_cell? w _ hx103_4)).trans hx103_4
   replace hx103_5 := (HB.out.cell (World.block_lt_of_cell? w _ hx103_5)).trans hx103_5
   replace hx103_6 := (HB.out.cell (World.block_lt_of_cell? w _ hx103_6)).trans hx103_6
   replace hx103_7 := (HB.out.cell (World.block_lt_of_cell? w _ hx103_7)).trans hx103_7
   replace hx103_8 := (HB.out.cell (World.block_lt_of_cell? w _ hx103_8)).trans hx103_8
   replace p103 := eq_true p103
   replace q103 := eq_true q103
   obtain ⟨b, hb0⟩ : ∃ b, p (rd_T32 l0 x8) = b := ⟨_, rfl⟩
   have HPB := Aside0.mk hb0
   rw [hb0] at HQ
   clear hb0
   cases b with
   | true =>
    go_wp2_with (go_at_call 65; refine (HQ.out _ HB.out).mono ?_; rintro e w8 ⟨rfl, hb⟩; replace HB := ak (below_step (by exact HB.out) hb); clear hb)
    go_ret
    have h0 : 0 ≤ x8 := HX.out.1
    have hl : x8.toNat < l0.length := by have := HX.out.1; have := of_eq_true q103; omega
    refine ⟨x8, rfl, ⟨?_⟩, HB.out⟩
    rw [decide_eq_true h0]
    symm
    rw [List.any_eq_true]
    refine ⟨rd_T32 l0 x8, ?_, HPB.out⟩
    unfold rd_T32
    rw [List.getD_eq_getElem?_getD, List.getElem?_eq_getElem hl]
    exact List.getElem_mem hl
   | false =>
    cases gk with
    | zero => exact absurd HX.out (by have := of_eq_true q103; omega)
    | succ k1 =>
    go_wp2_with (go_at_call 65; refine (HQ.out _ HB.out).mono ?_; rintro e w8 ⟨rfl, hb⟩; replace HB := ak (below_step (by exact HB.out) hb); clear hb)
    go_roundg k1
    case measure => omega
    case rel =>
     have h0 : 0 ≤ x8 := HX.out.1
     have h1 := HX.out.2.1
     have hl : x8.toNat < l0.length := by have := of_eq_true q103; omega
     have e1 : wrap64 (x8 + 1) = x8 + 1 := by unfold wrap64; omega
     refine ⟨x8 + 1, by first | rfl | (rw [e1]) | (simp [e1]; done), ⟨by omega, by omega, ?_⟩, HB⟩
     intro x hx
     rw [show (x8 + 1).toNat = x8.toNat + 1 by omega, List.take_succ_eq_append_getElem hl] at hx
     rcases List.mem_append.1 hx with hx | hx
     ·exact HX.out.2.2 x hx
     ·have hx' := List.mem_singleton.1 hx
      subst hx'
      have := HPB.out
      unfold rd_T32 at this
      rw [List.getD_eq_getElem?_getD, List.getElem?_eq_getElem hl] at this
      exact this
  ·have c4b0 : decide (x8 < (l0.length : Int)) = false := decide_eq_false c4
   clear c4
   go_wp2
   go_ret
   have h0 : 0 ≤ x8 := HX.out.1
   have h1 := HX.out.2.1
   have h2 := of_decide_eq_false c4b0
   refine ⟨-1, rfl, ⟨?_⟩, HB.out⟩
   symm
   rw [decide_eq_false (by omega)]
   rw [List.any_eq_false]
   intro x hx
   have := HX.out.2.2 x (by rw [List.take_of_length_le (by omega)]; exact hx)
   simp [this]
theorem cont_it (caps : Array Value) (p : S32 → Bool) (A0 : Option Addr) (c0 : Nat) (l0 : List S32) (w : World) (hr0 : Kd.C k32 w A0 l0.length l0) (hc0 : l0.length ≤ c0)
  (hp : ∀ x, x ∈ l0 → ∀ W, Below w.heap.size w W → Calls Try.prog 65 (#[.agg #[.int .i64 x.f0, .int .i64 x.f1.f0, .int .i64 x.f1.f1, .int .i64 x.f1.f2, .int .i64 x.f1.f3, .int .i64 x.f1.f4, .string x.f1.f5, .string x.f1.f6, .string x.f1.f7]] ++ caps) W fun e W' => e = .returned (.bool (p x)) ∧ Below W.heap.size W W') :
  Calls Try.prog 64 #[.slice A0 l0.length c0, .func (.func 65) #[] caps] w fun e w' => e = .returned (.bool (l0.any p)) ∧ Below w.heap.size w w' := by
 have HC := ak (fun (W : World) => idx_it caps p A0 c0 l0 w hr0 hc0 hp)
 clear hr0 hc0 hp
 go_enter Try.func64, Try.ntmps64
 go_wp2_with (go_at_call 98; refine (HC.out w).mono ?_; rintro e w8 ⟨v, rfl, hv, hb⟩)
 go_ret
 exact ⟨by rw [← hv.out]; rfl, hb⟩
theorem cont_n (n : Nat) (caps : Array Value) (p : S32 → Bool) (A0 : Option Addr) (c0 : Nat) (l0 : List S32) (w : World) (hn : l0.length = n) (hr0 : Kd.C k32 w A0 l0.length l0) (hc0 : l0.length ≤ c0)
  (hp : ∀ x, x ∈ l0 → ∀ W, Below w.heap.size w W → Calls Try.prog 65 (#[.agg #[.int .i64 x.f0, .int .i64 x.f1.f0, .int .i64 x.f1.f1, .int .i64 x.f1.f2, .int .i64 x.f1.f3, .int .i64 x.f1.f4, .string x.f1.f5, .string x.f1.f6, .string x.f1.f7]] ++ caps) W fun e W' => e = .returned (.bool (p x)) ∧ Below W.heap.size W W') :
  Calls Try.prog 64 #[.slice A0 n c0, .func (.func 65) #[] caps] w fun e w' => e = .returned (.bool (l0.any p)) ∧ Below w.heap.size w w' := by
 subst hn
 exact cont_it caps p A0 c0 l0 w hr0 hc0 hp
def itBad (x y : S32) : Bool := (y.f0 == x.f0) && !((y.f0 == x.f0) && (y.f1.f0 == x.f1.f0) && (y.f1.f1 == x.f1.f1) && (y.f1.f2 == x.f1.f2) && (y.f1.f3 == x.f1.f3) && (y.f1.f4 == x.f1.f4) && (y.f1.f5.toList == x.f1.f5.toList) && (y.f1.f6.toList == x.f1.f6.toList) && (y.f1.f7.toList == x.f1.f7.toList))
theorem in_is (a b c : Int) : impl_in.f a b c = some (decide (b ≤ a ∧ a ≤ c)) := by
 unfold impl_in.f
 by_cases h : a ≥ b <;> by_cases h2 : a ≤ c <;> simp [h, h2] <;> omega
theorem clo_it (gb : Nat) (x y : S32) (W : World) (hb : W.heap[gb]? = some (.cells #[.int .i64 x.f0, .int .i64 x.f1.f0, .int .i64 x.f1.f1, .int .i64 x.f1.f2, .int .i64 x.f1.f3, .int .i64 x.f1.f4, .string x.f1.f5, .string x.f1.f6, .string x.f1.f7] 32 (0, 0))) :
  Calls Try.prog 65 #[.agg #[.int .i64 y.f0, .int .i64 y.f1.f0, .int .i64 y.f1.f1, .int .i64 y.f1.f2, .int .i64 y.f1.f3, .int .i64 y.f1.f4, .string y.f1.f5, .string y.f1.f6, .string y.f1.f7], .pointer (some ⟨gb, 0, none⟩)] W fun e W' => e = .returned (.bool (itBad x y)) ∧ Below W.heap.size W W' := by
 have huW := Try.underlying32
 have huR := Try.underlying23
 have BK := ak hb
 have HB := ak (Below.refl W.heap.size W)
 obtain ⟨x0, ⟨x1, x2, x3, x4, x5, x6, x7, x8⟩⟩ := x
 obtain ⟨y0, ⟨y1, y2, y3, y4, y5, y6, y7, y8⟩⟩ := y
 simp only at BK ⊢
 have hx : ∀ o, (W.alloc o).heap[gb]? = some (.cells #[.int .i64 x0, .int .i64 x1, .int .i64 x2, .int .i64 x3, .int .i64 x4, .int .i64 x5, .string x6, .string x7, .string x8] 32 (0, 0)) := fun o => blk_alloc BK.out o
 have h0 : ∀ o, (W.alloc o).cell? ⟨gb, 0, none⟩ = some (.int .i64 x0) := fun o => bc (ak (hx o)) 0
 have h1 : ∀ o, (W.alloc o).cell? ⟨gb, 1, none⟩ = some (.int .i64 x1) := fun o => bc (ak (hx o)) 1
 have h2 : ∀ o, (W.alloc o).cell? ⟨gb, 2, none⟩ = some (.int .i64 x2) := fun o => bc (ak (hx o)) 2
 have h3 : ∀ o, (W.alloc o).cell? ⟨gb, 3, none⟩ = some (.int .i64 x3) := fun o => bc (ak (hx o)) 3
 have h4 : ∀ o, (W.alloc o).cell? ⟨gb, 4, none⟩ = some (.int .i64 x4) := fun o => bc (ak (hx o)) 4
 have h5 : ∀ o, (W.alloc o).cell? ⟨gb, 5, none⟩ = some (.int .i64 x5) := fun o => bc (ak (hx o)) 5
 have h6 : ∀ o, (W.alloc o).cell? ⟨gb, 6, none⟩ = some (.string x6) := fun o => bc (ak (hx o)) 6
 have h7 : ∀ o, (W.alloc o).cell? ⟨gb, 7, none⟩ = some (.string x7) := fun o => bc (ak (hx o)) 7
 have h8 : ∀ o, (W.alloc o).cell? ⟨gb, 8, none⟩ = some (.string x8) := fun o => bc (ak (hx o)) 8
 have HA := ak (fun o => below_alloc (Below.refl W.heap.size W) o)
 clear hx BK HB
 clear hb
 by_cases c0 : y0 = x0
 ·subst c0
  go_enter Try.func65, Try.ntmps65
  go_wp2
  all_goals (go_ret; refine ⟨?_, HA.out _⟩; simp [itBad, *])
 ·have c0b : (y0 == x0) = false := beq_eq_false_iff_ne.mpr c0
  have HE := ak (show itBad ⟨x0, ⟨x1, x2, x3, x4, x5, x6, x7, x8⟩⟩ ⟨y0, ⟨y1, y2, y3, y4, y5, y6, y7, y8⟩⟩ = false by unfold itBad; rw [c0b]; rfl)
  go_enter Try.func65, Try.ntmps65
  go_wp2
  go_ret
  exact ⟨by rw [HE.out]; rfl, HA.out _⟩
def impl_ItemsOk.go (k : Nat) (l0 : List S32) : Nat → Nat → Option Bool
 | 0, _ => some true
 | n + 1, i => if (1 ≤ (rd_T32 l0 (i : Int)).f0 ∧ (rd_T32 l0 (i : Int)).f0 ≤ 1000000000) then (impl_RecOk.f k (rd_T32 l0 (i : Int)).f1.f0 (rd_T32 l0 (i : Int)).f1.f1 (rd_T32 l0 (i : Int)).f1.f2 (rd_T32 l0 (i : Int)).f1.f3 (rd_T32 l0 (i : Int)).f1.f4 (rd_T32 l0 (i : Int)).f1.f5 (rd_T32 l0 (i : Int)).f1.f6 (rd_T32 l0 (i : Int)).f1.f7).bind fun b => if b = true then (if (l0.take i).any (itBad (rd_T32 l0 (i : Int))) = true then some false else impl_ItemsOk.go k l0 n (i + 1)) else some false else some false
def impl_ItemsOk.f (k : Nat) (l0 : List S32) : Option Bool := if 200 < l0.length then some false else impl_ItemsOk.go k l0 l0.length 0
theorem impl_ItemsOk.mono : ∀ a0 k, LeO (impl_ItemsOk.f k a0) (impl_ItemsOk.f (k + 1) a0) := by
 intro a0 k
 have hg : ∀ n i, LeO (impl_ItemsOk.go k a0 n i) (impl_ItemsOk.go (k + 1) a0 n i) := fun n => by
  induction n with
  | zero => intro i; exact LeO.refl _
  | succ n ih => intro i; exact LeO.ite (LeO.bind (impl_RecOk.mono _ _ _ _ _ _ _ _ _) (fun _ => LeO.ite (LeO.ite (LeO.refl _) (ih _)) (LeO.refl _))) (LeO.refl _)
 unfold impl_ItemsOk.f
 exact LeO.ite (LeO.refl _) (hg _ _)
theorem d0_below {W w8 : World} (h : Drawn0 W w8) : Below W.heap.size W w8 := h.below
theorem impl_ItemsOk.calls (k : Nat) (A0 : Option Addr) (c0 : Nat) (l0 : List (S32)) (r : Bool) (w : World) (hr0 : Kd.C k32 w A0 l0.length l0) (hc0 : l0.length ≤ c0) (h : impl_ItemsOk.f k l0 = some r) :
  Calls Try.prog 21 #[.slice A0 l0.length c0] w fun e w' => e = .returned (.bool r) ∧ Below w.heap.size w w' := by
 have hu23 := Try.underlying23
 have hu32 := Try.underlying32
 have HR0 := ak hr0
 have HC0 := ak hc0
 have HB := ak (Below.refl w.heap.size w)
 have hmf : ∀ (fn : Fn) (first cap : Array Value) (w : World), (Instr.makeFunc fn first cap).run Try.prog w = .ok (.func fn first cap) w := fun _ _ _ _ => rfl
 clear hr0 hc0
 unfold impl_ItemsOk.f at h
 by_cases c1 : 200 < l0.length
 ·rw [if_pos c1] at h
  obtain rfl := Option.some.inj h
  have c1b0 : decide ((l0.length : Int) > 200) = true := by simp; omega
  have c1b1 : decide ((200 : Int) < (l0.length : Int)) = true := by simp; omega
  have c1b2 : decide (200 < l0.length) = true := by simp; omega
  clear c1 h
  go_enter Try.func21, Try.ntmps21
  go_wp2
  go_ret
  exact ⟨rfl, HB.out⟩
 ·rw [if_neg c1] at h
  have c1b0 : decide ((l0.length : Int) > 200) = false := by simp; omega
  have c1b1 : decide ((200 : Int) < (l0.length : Int)) = false := by simp; omega
  have c1b2 : decide (200 < l0.length) = false := by simp; omega
  have HM := ak (show l0.length ≤ 200 by omega)
  have HA := ak h
  clear c1 h
  go_enter Try.func21, Try.ntmps21
  go_wp2
  go_loopg [10] l0.length (fun kq v10 w' => ∃ (x10 : Int) (i : Nat), v10 = .int .i64 x10 ∧ Aside0 (x10 = (i : Int) ∧ kq + i = l0.length ∧ impl_ItemsOk.go k l0 kq i = some r) ∧ Aside0 (Below w.heap.size w w'))
  case atStart => exact ⟨0, 0, by first | rfl | (simp; done), ⟨rfl, rfl, HA.out⟩, HB⟩
  case round =>
   clear HA HB
   obtain ⟨x10, i, rfl, HX, HB⟩ := hrel
   cases gk with
   | zero =>
    have hr : true = r := Option.some.inj HX.out.2.2
    subst hr
    have c4 : decide (x10 < (l0.length : Int)) = false := decide_eq_false (by have := HX.out; omega)
    clear HX
    go_wp2
    go_ret
    exact ⟨rfl, HB.out⟩
   | succ k1 =>
    have c4 : decide (x10 < (l0.length : Int)) = true := decide_eq_true (by have := HX.out; omega)
    have c5 : decide (0 ≤ x10) = true := decide_eq_true (by have := HX.out; omega)
    have hi : i < l0.length := by have := HX.out; omega
    have hxi : x10 = (i : Int) := HX.out.1
    have H : (if (1 ≤ (rd_T32 l0 x10).f0 ∧ (rd_T32 l0 x10).f0 ≤ 1000000000) then (impl_RecOk.f k (rd_T32 l0 x10).f1.f0 (rd_T32 l0 x10).f1.f1 (rd_T32 l0 x10).f1.f2 (rd_T32 l0 x10).f1.f3 (rd_T32 l0 x10).f1.f4 (rd_T32 l0 x10).f1.f5 (rd_T32 l0 x10).f1.f6 (rd_T32 l0 x10).f1.f7).bind fun b => if b = true then (if (l0.take i).any (itBad (rd_T32 l0 x10)) = true then some false else impl_ItemsOk.go k l0 k1 (i + 1)) else some false else some false) = some r := by rw [hxi]; exact HX.out.2.2
    have p103 : 0 ≤ (x10 : Int) := by omega
    have q103 : x10 < (l0.length : Int) := by omega
    have HT := ak (Kd.C_take (m := i) HR0.out (by omega))
    have HL := ak (show (l0.take i).length = i by rw [List.length_take]; omega)
    have HI2 := ak (show x10 = (i : Int) ∧ i < l0.length ∧ k1 + (i + 1) = l0.length by have := HX.out; omega)
    obtain ⟨ad103, e103, hx103_0, hx103_1, hx103_2, hx103_3, hx103_4, hx103_5, hx103_6, hx103_7, hx103_8⟩ := at_T32 HR0.out x10 p103 q103
    cases e103
    replace hx103_0 := (HB.out.cell (World.block_lt_of_cell? w _ hx103_0)).trans hx103_0
    replace hx103_1 := (HB.out.cell (World.block_lt_of_cell? w _ hx103_1)).trans hx103_1
    replace hx103_2 := (HB.out.cell (World.block_lt_of_cell? w _ hx103_2)).trans hx103_2
    replace hx103_3 := (HB.out.cell (World.block_lt_of_cell? w _ hx103_3)).trans hx103_3
    replace hx103_4 := (HB.out.cell (World.block_lt_of_cell? w _ hx103_4)).trans hx103_4
    replace hx103_5 := (HB.out.cell (World.block_lt_of_cell? w _ hx103_5)).trans hx103_5
    replace hx103_6 := (HB.out.cell (World.block_lt_of_cell? w _ hx103_6)).trans hx103_6
    replace hx103_7 := (HB.out.cell (World.block_lt_of_cell? w _ hx103_7)).trans hx103_7
    replace hx103_8 := (HB.out.cell (World.block_lt_of_cell? w _ hx103_8)).trans hx103_8
    replace p103 := eq_true p103
    replace q103 := eq_true q103
    have s103 : ¬ (c0 : Int) < x10 := by have := HC0.out; omega
    clear HX hi hxi
    obtain ⟨y, hy⟩ : ∃ y, rd_T32 l0 x10 = y := ⟨_, rfl⟩
    rw [hy] at H hx103_0 hx103_1 hx103_2 hx103_3 hx103_4 hx103_5 hx103_6 hx103_7 hx103_8
    clear hy
    obtain ⟨y0, ⟨y1, y2, y3, y4, y5, y6, y7, y8⟩⟩ := y
    simp only at H hx103_0 hx103_1 hx103_2 hx103_3 hx103_4 hx103_5 hx103_6 hx103_7 hx103_8
    have hi := in_is y0 1 1000000000
    by_cases c6 : 1 ≤ y0 ∧ y0 ≤ 1000000000
    ·rw [if_pos c6] at H
     rw [decide_eq_true c6] at hi
     have HI := ak hi
     clear hi c6
     replace H := Option.bind_eq_some_iff.mp H
     obtain ⟨ok, A0, H⟩ := H
     have AV := ak A0
     clear A0
     cases ok with
     | false =>
      have hr : false = r := by rw [if_neg (by simp)] at H; exact Option.some.inj H
      subst hr
      clear H
      go_wp2_with (first | ((with_reducible refine gate_dst (N := 4) rfl ?_); refine bx 4 #[.int .i64 0, .int .i64 0, .int .i64 0, .int .i64 0, .int .i64 0, .int .i64 0, .string (⟨#[]⟩ : ByteArray), .string (⟨#[]⟩ : ByteArray), .string (⟨#[]⟩ : ByteArray)] 32 ?_; intro gx hg w5 hbox hb; replace BX := ak (hbox); replace GX := ak (bz hg (lG HB)); replace HB := lB HB hb; replace hx103_0 := (hb.cell (World.block_lt_of_cell? _ _ hx103_0)).trans hx103_0; replace hx103_1 := (hb.cell (World.block_lt_of_cell? _ _ hx103_1)).trans hx103_1; replace hx103_2 := (hb.cell (World.block_lt_of_cell? _ _ hx103_2)).trans hx103_2; replace hx103_3 := (hb.cell (World.block_lt_of_cell? _ _ hx103_3)).trans hx103_3; replace hx103_4 := (hb.cell (World.block_lt_of_cell? _ _ hx103_4)).trans hx103_4; replace hx103_5 := (hb.cell (World.block_lt_of_cell? _ _ hx103_5)).trans hx103_5; replace hx103_6 := (hb.cell (World.block_lt_of_cell? _ _ hx103_6)).trans hx103_6; replace hx103_7 := (hb.cell (World.block_lt_of_cell? _ _ hx103_7)).trans hx103_7; replace hx103_8 := (hb.cell (World.block_lt_of_cell? _ _ hx103_8)).trans hx103_8; clear hb hbox hg; obtain ⟨hcz_0, hcz_1, hcz_2, hcz_3, hcz_4, hcz_5, hcz_6, hcz_7, hcz_8, hfz_0, hfz_1, hfz_2, hfz_3, hfz_4, hfz_5, hfz_6, hfz_7, hfz_8⟩ := bC9 BX; skip) | (go_at_call 63; refine (impl_in.calls _ _ _ true _ HI.out).mono ?_; rintro e w8 ⟨rfl, hd⟩; have hb := d0_below hd; replace HB := ak (below_step (lT HB (gC GX gN)) hb); replace BX := ak (blk_below (bW (r := #[.int .i64 y0, .int .i64 y1, .int .i64 y2, .int .i64 y3, .int .i64 y4, .int .i64 y5, .string y6, .string y7, .string y8]) BX) hb); clear hb hd; obtain ⟨hci_0, hci_1, hci_2, hci_3, hci_4, hci_5, hci_6, hci_7, hci_8, hfi_0, hfi_1, hfi_2, hfi_3, hfi_4, hfi_5, hfi_6, hfi_7, hfi_8⟩ := bC9 BX; skip) | (go_at_call 28; refine (impl_RecOk.calls k y1 y2 y3 y4 y5 y6 y7 y8 false _ AV.out).mono ?_; rintro e w9 ⟨rfl, hb⟩; replace HB := lB HB hb; replace BX := bB BX hb; clear hb; obtain ⟨hck_0, hck_1, hck_2, hck_3, hck_4, hck_5, hck_6, hck_7, hck_8, hfk_0, hfk_1, hfk_2, hfk_3, hfk_4, hfk_5, hfk_6, hfk_7, hfk_8⟩ := bC9 BX; skip))
      go_ret
      exact ⟨rfl, by exact lT HB (gC GX gN)⟩
     | true =>
      rw [if_pos rfl] at H
      obtain ⟨an, hy⟩ : ∃ an, (l0.take i).any (itBad ⟨y0, ⟨y1, y2, y3, y4, y5, y6, y7, y8⟩⟩) = an := ⟨_, rfl⟩
      rw [hy] at H
      have HY := ak hy
      clear hy
      cases an with
      | true =>
       have hr : false = r := by rw [if_pos rfl] at H; exact Option.some.inj H
       subst hr
       clear H
       go_wp2_with (first | ((with_reducible refine gate_dst (N := 4) rfl ?_); refine bx 4 #[.int .i64 0, .int .i64 0, .int .i64 0, .int .i64 0, .int .i64 0, .int .i64 0, .string (⟨#[]⟩ : ByteArray), .string (⟨#[]⟩ : ByteArray), .string (⟨#[]⟩ : ByteArray)] 32 ?_; intro gx hg w5 hbox hb; replace BX := ak (hbox); replace GX := ak (bz hg (lG HB)); replace HB := lB HB hb; replace hx103_0 := (hb.cell (World.block_lt_of_cell? _ _ hx103_0)).trans hx103_0; replace hx103_1 := (hb.cell (World.block_lt_of_cell? _ _ hx103_1)).trans hx103_1; replace hx103_2 := (hb.cell (World.block_lt_of_cell? _ _ hx103_2)).trans hx103_2; replace hx103_3 := (hb.cell (World.block_lt_of_cell? _ _ hx103_3)).trans hx103_3; replace hx103_4 := (hb.cell (World.block_lt_of_cell? _ _ hx103_4)).trans hx103_4; replace hx103_5 := (hb.cell (World.block_lt_of_cell? _ _ hx103_5)).trans hx103_5; replace hx103_6 := (hb.cell (World.block_lt_of_cell? _ _ hx103_6)).trans hx103_6; replace hx103_7 := (hb.cell (World.block_lt_of_cell? _ _ hx103_7)).trans hx103_7; replace hx103_8 := (hb.cell (World.block_lt_of_cell? _ _ hx103_8)).trans hx103_8; clear hb hbox hg; obtain ⟨hcz_0, hcz_1, hcz_2, hcz_3, hcz_4, hcz_5, hcz_6, hcz_7, hcz_8, hfz_0, hfz_1, hfz_2, hfz_3, hfz_4, hfz_5, hfz_6, hfz_7, hfz_8⟩ := bC9 BX; skip) | (go_at_call 63; refine (impl_in.calls _ _ _ true _ HI.out).mono ?_; rintro e w8 ⟨rfl, hd⟩; have hb := d0_below hd; replace HB := ak (below_step (lT HB (gC GX gN)) hb); replace BX := ak (blk_below (bW (r := #[.int .i64 y0, .int .i64 y1, .int .i64 y2, .int .i64 y3, .int .i64 y4, .int .i64 y5, .string y6, .string y7, .string y8]) BX) hb); clear hb hd; obtain ⟨hci_0, hci_1, hci_2, hci_3, hci_4, hci_5, hci_6, hci_7, hci_8, hfi_0, hfi_1, hfi_2, hfi_3, hfi_4, hfi_5, hfi_6, hfi_7, hfi_8⟩ := bC9 BX; skip) | (go_at_call 28; refine (impl_RecOk.calls k y1 y2 y3 y4 y5 y6 y7 y8 true _ AV.out).mono ?_; rintro e w9 ⟨rfl, hb⟩; replace HB := lB HB hb; replace BX := bB BX hb; clear hb; obtain ⟨hck_0, hck_1, hck_2, hck_3, hck_4, hck_5, hck_6, hck_7, hck_8, hfk_0, hfk_1, hfk_2, hfk_3, hfk_4, hfk_5, hfk_6, hfk_7, hfk_8⟩ := bC9 BX; skip) | (go_at_call 64; refine (cont_n x10.toNat #[.pointer (some ⟨gx, 0, none⟩)] (itBad ⟨y0, ⟨y1, y2, y3, y4, y5, y6, y7, y8⟩⟩) (some ad103) c0 (l0.take i) _ (by have := HL.out; have := HI2.out; omega) (Kd.C_below HT.out HB.out) (by have := HL.out; have := HC0.out; have := HI2.out; omega) (fun y _ W hW => clo_it gx ⟨y0, ⟨y1, y2, y3, y4, y5, y6, y7, y8⟩⟩ y W (blk_below BX.out hW))).mono ?_; rintro e w10 ⟨rfl, hb⟩; have hany := HY.out; replace HB := lB HB hb; clear hb))
       go_ret
       exact ⟨rfl, HB.out⟩
      | false =>
       have H2 : impl_ItemsOk.go k l0 k1 (i + 1) = some r := by rw [if_neg (by simp)] at H; exact H
       have HA := ak H2
       clear H H2
       go_wp2_with (first | ((with_reducible refine gate_dst (N := 4) rfl ?_); refine bx 4 #[.int .i64 0, .int .i64 0, .int .i64 0, .int .i64 0, .int .i64 0, .int .i64 0, .string (⟨#[]⟩ : ByteArray), .string (⟨#[]⟩ : ByteArray), .string (⟨#[]⟩ : ByteArray)] 32 ?_; intro gx hg w5 hbox hb; replace BX := ak (hbox); replace GX := ak (bz hg (lG HB)); replace HB := lB HB hb; replace hx103_0 := (hb.cell (World.block_lt_of_cell? _ _ hx103_0)).trans hx103_0; replace hx103_1 := (hb.cell (World.block_lt_of_cell? _ _ hx103_1)).trans hx103_1; replace hx103_2 := (hb.cell (World.block_lt_of_cell? _ _ hx103_2)).trans hx103_2; replace hx103_3 := (hb.cell (World.block_lt_of_cell? _ _ hx103_3)).trans hx103_3; replace hx103_4 := (hb.cell (World.block_lt_of_cell? _ _ hx103_4)).trans hx103_4; replace hx103_5 := (hb.cell (World.block_lt_of_cell? _ _ hx103_5)).trans hx103_5; replace hx103_6 := (hb.cell (World.block_lt_of_cell? _ _ hx103_6)).trans hx103_6; replace hx103_7 := (hb.cell (World.block_lt_of_cell? _ _ hx103_7)).trans hx103_7; replace hx103_8 := (hb.cell (World.block_lt_of_cell? _ _ hx103_8)).trans hx103_8; clear hb hbox hg; obtain ⟨hcz_0, hcz_1, hcz_2, hcz_3, hcz_4, hcz_5, hcz_6, hcz_7, hcz_8, hfz_0, hfz_1, hfz_2, hfz_3, hfz_4, hfz_5, hfz_6, hfz_7, hfz_8⟩ := bC9 BX; skip) | (go_at_call 63; refine (impl_in.calls _ _ _ true _ HI.out).mono ?_; rintro e w8 ⟨rfl, hd⟩; have hb := d0_below hd; replace HB := ak (below_step (lT HB (gC GX gN)) hb); replace BX := ak (blk_below (bW (r := #[.int .i64 y0, .int .i64 y1, .int .i64 y2, .int .i64 y3, .int .i64 y4, .int .i64 y5, .string y6, .string y7, .string y8]) BX) hb); clear hb hd; obtain ⟨hci_0, hci_1, hci_2, hci_3, hci_4, hci_5, hci_6, hci_7, hci_8, hfi_0, hfi_1, hfi_2, hfi_3, hfi_4, hfi_5, hfi_6, hfi_7, hfi_8⟩ := bC9 BX; skip) | (go_at_call 28; refine (impl_RecOk.calls k y1 y2 y3 y4 y5 y6 y7 y8 true _ AV.out).mono ?_; rintro e w9 ⟨rfl, hb⟩; replace HB := lB HB hb; replace BX := bB BX hb; clear hb; obtain ⟨hck_0, hck_1, hck_2, hck_3, hck_4, hck_5, hck_6, hck_7, hck_8, hfk_0, hfk_1, hfk_2, hfk_3, hfk_4, hfk_5, hfk_6, hfk_7, hfk_8⟩ := bC9 BX; skip) | (go_at_call 64; refine (cont_n x10.toNat #[.pointer (some ⟨gx, 0, none⟩)] (itBad ⟨y0, ⟨y1, y2, y3, y4, y5, y6, y7, y8⟩⟩) (some ad103) c0 (l0.take i) _ (by have := HL.out; have := HI2.out; omega) (Kd.C_below HT.out HB.out) (by have := HL.out; have := HC0.out; have := HI2.out; omega) (fun y _ W hW => clo_it gx ⟨y0, ⟨y1, y2, y3, y4, y5, y6, y7, y8⟩⟩ y W (blk_below BX.out hW))).mono ?_; rintro e w10 ⟨rfl, hb⟩; have hany := HY.out; replace HB := lB HB hb; clear hb))
       go_roundg k1
       case measure => omega
       case rel =>
        have e1 : wrap64 (x10 + 1) = x10 + 1 := by have := HI2.out; have := HM.out; unfold wrap64; omega
        exact ⟨x10 + 1, i + 1, by first | rfl | (rw [e1]) | (simp [e1]; done), ⟨by have := HI2.out; omega, by have := HI2.out; omega, HA.out⟩, HB⟩
    ·rw [if_neg c6] at H
     rw [decide_eq_false c6] at hi
     have HI := ak hi
     have hr : false = r := Option.some.inj H
     subst hr
     clear hi c6 H
     go_wp2_with (first | ((with_reducible refine gate_dst (N := 4) rfl ?_); refine bx 4 #[.int .i64 0, .int .i64 0, .int .i64 0, .int .i64 0, .int .i64 0, .int .i64 0, .string (⟨#[]⟩ : ByteArray), .string (⟨#[]⟩ : ByteArray), .string (⟨#[]⟩ : ByteArray)] 32 ?_; intro gx hg w5 hbox hb; replace BX := ak (hbox); replace GX := ak (bz hg (lG HB)); replace HB := lB HB hb; replace hx103_0 := (hb.cell (World.block_lt_of_cell? _ _ hx103_0)).trans hx103_0; replace hx103_1 := (hb.cell (World.block_lt_of_cell? _ _ hx103_1)).trans hx103_1; replace hx103_2 := (hb.cell (World.block_lt_of_cell? _ _ hx103_2)).trans hx103_2; replace hx103_3 := (hb.cell (World.block_lt_of_cell? _ _ hx103_3)).trans hx103_3; replace hx103_4 := (hb.cell (World.block_lt_of_cell? _ _ hx103_4)).trans hx103_4; replace hx103_5 := (hb.cell (World.block_lt_of_cell? _ _ hx103_5)).trans hx103_5; replace hx103_6 := (hb.cell (World.block_lt_of_cell? _ _ hx103_6)).trans hx103_6; replace hx103_7 := (hb.cell (World.block_lt_of_cell? _ _ hx103_7)).trans hx103_7; replace hx103_8 := (hb.cell (World.block_lt_of_cell? _ _ hx103_8)).trans hx103_8; clear hb hbox hg; obtain ⟨hcz_0, hcz_1, hcz_2, hcz_3, hcz_4, hcz_5, hcz_6, hcz_7, hcz_8, hfz_0, hfz_1, hfz_2, hfz_3, hfz_4, hfz_5, hfz_6, hfz_7, hfz_8⟩ := bC9 BX; skip) | (go_at_call 63; refine (impl_in.calls _ _ _ false _ HI.out).mono ?_; rintro e w8 ⟨rfl, hd⟩; have hb := d0_below hd; replace HB := ak (below_step (lT HB (gC GX gN)) hb); replace BX := ak (blk_below (bW (r := #[.int .i64 y0, .int .i64 y1, .int .i64 y2, .int .i64 y3, .int .i64 y4, .int .i64 y5, .string y6, .string y7, .string y8]) BX) hb); clear hb hd; obtain ⟨hci_0, hci_1, hci_2, hci_3, hci_4, hci_5, hci_6, hci_7, hci_8, hfi_0, hfi_1, hfi_2, hfi_3, hfi_4, hfi_5, hfi_6, hfi_7, hfi_8⟩ := bC9 BX; skip))
     go_ret
     exact ⟨rfl, by exact lT HB (gC GX gN)⟩
/-! ### laws_big: function 23 -/
def laws_big.f (l0 : List Int) : Option (Bool) := some (decide ((l0.length : Int) > 1048576))
theorem laws_big.calls (A0 : Option Addr) (c0 : Nat) (l0 : List Int) (r : Bool) (w : World) (hr0 : Kd.C (Kd.int .u8) w A0 l0.length l0) (hc0 : l0.length ≤ c0) (h : laws_big.f l0 = some r) :
  Calls Try.prog 23 #[.slice A0 l0.length c0] w fun e w' => e = .returned (.bool r) ∧ Drawn0 w w' := by
 have HR0 := Aside0.mk hr0
 have HC0 := Aside0.mk hc0
 clear hr0 hc0
 have H : (some (decide ((l0.length : Int) > 1048576))) = some r := h
 clear h
 obtain rfl := Option.some.inj H
 go_enter Try.func23, Try.ntmps23
 go_wp2
 go_ret
 exact ⟨by first | rfl | (simp; done) | (simp [*]; done), by repeat (first | exact Drawn0.refl _ | apply Drawn0.step)⟩
/-- A state of type 134 at block g of W; what its slices lead to came in by w0. -/
def IsS134 (w0 W : World) (g : Nat) (f0 : List Int) (f1 : Int) (f2 : Int) : Prop := ∃ A0 c0, W.heap[g]? = some (.cells #[.slice A0 f0.length c0, .int .i64 f1, .int .i64 f2] 134 (0, 0)) ∧ w0.heap.size ≤ g ∧ Kd.C (Kd.int .u8) w0 A0 f0.length f0
theorem IsS134.T_ {w0 W W' : World} {g : Nat} {f0 : List Int} {f1 : Int} {f2 : Int} {L : List Nat} (h : Aside0 (IsS134 w0 W g f0 f1 f2)) (p : ∀ x : Nat, x ∈ L → g ≠ x) [d : Touched L W W'] : IsS134 w0 W' g f0 f1 f2 := by
 obtain ⟨A0, c0, h1, h2⟩ := h.out
 exact ⟨A0, c0, d.blk g _ _ p h1, h2⟩
theorem IsS134.grown {w0 W : World} {g : Nat} {f0 : List Int} {f1 : Int} {f2 : Int} {W1 : World} {row : Option Nat} (h : IsS134 w0 W g f0 f1 f2) (hw : W.grownBy W1 row) (hne : some g ≠ row) : IsS134 w0 W1 g f0 f1 f2 := by
 obtain ⟨A0, c0, hb, hg, hr0⟩ := h
 exact ⟨A0, c0, blk_grown hb hw hne, hg, hr0⟩
theorem IsS134.own_neN {w0 W : World} {g : Nat} {f0 : List Int} {f1 : Int} {f2 : Int} {α : Type} {d : Kd α} {e : Nat} {base : Nat} {ok : Nat → Prop} {v : Value} {xs : List α} (h : IsS134 w0 W g f0 f1 f2) (ho : Kd.N d e W base ok v xs) (ht : e ≠ 134) : some g ≠ v.ownBlock := by
 obtain ⟨A0, c0, hb, hg, hr0⟩ := h
 exact Kd.N_ne ho hb ht
theorem IsS134.fresh {w0 W : World} {g : Nat} {f0 : List Int} {f1 : Int} {f2 : Int} (h : IsS134 w0 W g f0 f1 f2) : ∀ k, W.heap.size ≤ k → k ≠ g := by
 obtain ⟨A0, c0, hb, hg, hr0⟩ := h
 exact Kd.freshB hb
theorem IsS134.kept {w0 W : World} {g : Nat} {f0 : List Int} {f1 : Int} {f2 : Int} {W1 : World} {S : Nat → Prop} (h : IsS134 w0 W g f0 f1 f2) (hk : Kept W W1 S) (hne : ¬ S g) : IsS134 w0 W1 g f0 f1 f2 := by
 obtain ⟨A0, c0, hb, hg, hr0⟩ := h
 exact ⟨A0, c0, blk_kept hb hk hne, hg, hr0⟩
theorem IsS134.below {w0 W : World} {g : Nat} {f0 : List Int} {f1 : Int} {f2 : Int} {W1 : World} (h : IsS134 w0 W g f0 f1 f2) (hw : Below W.heap.size W W1) : IsS134 w0 W1 g f0 f1 f2 := h.grown (grown_of_below hw none) (by simp)
theorem IsS134.alloc {w0 W : World} {g : Nat} {f0 : List Int} {f1 : Int} {f2 : Int} (h : IsS134 w0 W g f0 f1 f2) (o : Obj) : IsS134 w0 (W.alloc o) g f0 f1 f2 := h.below (below_alloc (Below.refl _ _) o)
theorem IsS134.drewN {w0 W : World} {g : Nat} {f0 : List Int} {f1 : Int} {f2 : Int} (h : IsS134 w0 W g f0 f1 f2) (m : Nat) : IsS134 w0 (W.drewN m) g f0 f1 f2 := h
theorem IsS134.drew {w0 W : World} {g : Nat} {f0 : List Int} {f1 : Int} {f2 : Int} (h : IsS134 w0 W g f0 f1 f2) : IsS134 w0 W.drew g f0 f1 f2 := h
theorem IsS134.at_ {w0 W : World} {g : Nat} {f0 : List Int} {f1 : Int} {f2 : Int} {w' : World} {m : Nat} (hq : W.drewN m = w') (h : IsS134 w0 W g f0 f1 f2) : IsS134 w0 w' g f0 f1 f2 := by subst hq; exact IsS134.drewN h m
theorem IsS134.apart {w0 W : World} {g : Nat} {f0 : List Int} {f1 : Int} {f2 : Int} {α : Type} {d : Kd α} {e : Nat} {base : Nat} {ok : Nat → Prop} {v : Value} {xs : List α} (h : IsS134 w0 W g f0 f1 f2) (ho : d.R e W base ok v xs) (ht : ∀ q, q ∈ e :: d.E → q ≠ 134) : d.R e W base (fun k => ok k ∧ k ≠ g) v xs := by
 obtain ⟨A0, c0, hb, hg, hr0⟩ := h
 exact Kd.R_types ho hb ht
theorem IsS134.own_ne {w0 W : World} {g : Nat} {f0 : List Int} {f1 : Int} {f2 : Int} {α : Type} {d : Kd α} {e : Nat} {base : Nat} {ok : Nat → Prop} {v : Value} {xs : List α} (h : IsS134 w0 W g f0 f1 f2) (ho : d.R e W base ok v xs) (ht : e ≠ 134) : some g ≠ v.ownBlock := by
 obtain ⟨A0, c0, hb, hg, hr0⟩ := h
 exact Kd.R_ne ho hb ht
theorem IsS134.apartQ {w0 W : World} {g : Nat} {f0 : List Int} {f1 : Int} {f2 : Int} {α : Type} {d : Kd α} {e : Nat} {base : Nat} {ok : Nat → Prop} {v : Value} {xs : List α} (h : IsS134 w0 W g f0 f1 f2) (ho : d.Q e W base ok v xs) (ht : ∀ q, q ∈ e :: d.E → q ≠ 134) : d.Q e W base (fun k => ok k ∧ k ≠ g) v xs := by
 obtain ⟨A0, c0, hb, hg, hr0⟩ := h
 exact Kd.Q_types ho hb ht
theorem IsS134.own_neQ {w0 W : World} {g : Nat} {f0 : List Int} {f1 : Int} {f2 : Int} {α : Type} {d : Kd α} {e : Nat} {base : Nat} {ok : Nat → Prop} {v : Value} {xs : List α} (h : IsS134 w0 W g f0 f1 f2) (ho : d.Q e W base ok v xs) (ht : e ≠ 134) : some g ≠ v.ownBlock := by
 obtain ⟨A0, c0, hb, hg, hr0⟩ := h
 exact Kd.Q_ne ho hb ht
theorem IsS134.apartS {w0 W : World} {g : Nat} {f0 : List Int} {f1 : Int} {f2 : Int} {α : Type} {d : Kd α} {e : Nat} {base : Nat} {ok : Nat → Prop} {v : Value} {xs : List α} (h : IsS134 w0 W g f0 f1 f2) (ho : d.S e W base ok v xs) (ht : ∀ q, q ∈ e :: d.E → q ≠ 134) : d.S e W base (fun k => ok k ∧ k ≠ g) v xs := by
 obtain ⟨A0, c0, hb, hg, hr0⟩ := h
 exact Kd.S_types ho hb ht
theorem IsS134.own_neS {w0 W : World} {g : Nat} {f0 : List Int} {f1 : Int} {f2 : Int} {α : Type} {d : Kd α} {e : Nat} {base : Nat} {ok : Nat → Prop} {v : Value} {xs : List α} (h : IsS134 w0 W g f0 f1 f2) (ho : d.S e W base ok v xs) (ht : e ≠ 134) : some g ≠ v.ownBlock := by
 obtain ⟨A0, c0, hb, hg, hr0⟩ := h
 exact Kd.S_ne ho hb ht
theorem IsS134.lt {w0 W : World} {g : Nat} {f0 : List Int} {f1 : Int} {f2 : Int} (h : IsS134 w0 W g f0 f1 f2) : g < W.heap.size := by
 obtain ⟨A0, c0, hb, hg, hr0⟩ := h
 exact blk_lt hb
theorem IsS134.ge {w0 W : World} {g : Nat} {f0 : List Int} {f1 : Int} {f2 : Int} (h : IsS134 w0 W g f0 f1 f2) : w0.heap.size ≤ g := by
 obtain ⟨A0, c0, hb, hg, hr0⟩ := h
 exact hg
theorem IsS134.ne_blk {w0 W : World} {g : Nat} {f0 : List Int} {f1 : Int} {f2 : Int} {a : Nat} {cs : Array Value} {t : TypeId} {fr : Nat × Nat} (h : IsS134 w0 W g f0 f1 f2) (hb2 : W.heap[a]? = some (.cells cs t fr)) (ht : t ≠ 134) : g ≠ a := by
 obtain ⟨A0, c0, hb, hg, hr0⟩ := h
 rintro rfl
 rw [hb] at hb2
 injection hb2 with hb2
 injection hb2 with _ ht2
 exact ht ht2.symm
theorem IsS134.far {w0 W : World} {g : Nat} {f0 : List Int} {f1 : Int} {f2 : Int} {p : Addr} (h : IsS134 w0 W g f0 f1 f2) (hne : g ≠ p.block) (u : Value) : IsS134 w0 (W.setCell p u) g f0 f1 f2 := by
 obtain ⟨A0, c0, hb, hg, hr0⟩ := h
 exact ⟨A0, c0, blk_far hb hne u, hg, hr0⟩
theorem cellS134_0 {W : World} {g : Nat} {A0 : Option Addr} {c0 : Nat} {f0 : List Int} {f1 : Int} {f2 : Int} (h : W.heap[g]? = some (.cells #[.slice A0 f0.length c0, .int .i64 f1, .int .i64 f2] 134 (0, 0))) : W.cell? ⟨g, 0, none⟩ = some (.slice A0 f0.length c0) := (blk_cell h 0).trans rfl
theorem cellS134_1 {W : World} {g : Nat} {A0 : Option Addr} {c0 : Nat} {f0 : List Int} {f1 : Int} {f2 : Int} (h : W.heap[g]? = some (.cells #[.slice A0 f0.length c0, .int .i64 f1, .int .i64 f2] 134 (0, 0))) : W.cell? ⟨g, 1, none⟩ = some (.int .i64 f1) := (blk_cell h 1).trans rfl
theorem IsS134.set_1 {w0 W : World} {g : Nat} {f0 : List Int} {f1 : Int} {f2 : Int} (h : IsS134 w0 W g f0 f1 f2) (x : Int) : IsS134 w0 (W.setCell ⟨g, 1, none⟩ (.int .i64 x)) g f0 x f2 := by
 obtain ⟨A0, c0, hb, hg, hr0⟩ := h
 exact ⟨A0, c0, by simpa using blk_set hb 1 (.int .i64 x), hg, hr0⟩
theorem cellS134_2 {W : World} {g : Nat} {A0 : Option Addr} {c0 : Nat} {f0 : List Int} {f1 : Int} {f2 : Int} (h : W.heap[g]? = some (.cells #[.slice A0 f0.length c0, .int .i64 f1, .int .i64 f2] 134 (0, 0))) : W.cell? ⟨g, 2, none⟩ = some (.int .i64 f2) := (blk_cell h 2).trans rfl
theorem IsS134.set_2 {w0 W : World} {g : Nat} {f0 : List Int} {f1 : Int} {f2 : Int} (h : IsS134 w0 W g f0 f1 f2) (x : Int) : IsS134 w0 (W.setCell ⟨g, 2, none⟩ (.int .i64 x)) g f0 f1 x := by
 obtain ⟨A0, c0, hb, hg, hr0⟩ := h
 exact ⟨A0, c0, by simpa using blk_set hb 2 (.int .i64 x), hg, hr0⟩
theorem IsS134.new (w0 W : World) (A0 : Option Addr) (c0 : Nat) (f0 : List Int) (f1 : Int) (f2 : Int) (hB : Below w0.heap.size w0 W) (hr0 : Kd.C (Kd.int .u8) w0 A0 f0.length f0) : IsS134 w0 (W.alloc (.cells #[.slice A0 f0.length c0, .int .i64 f1, .int .i64 f2] 134)) W.heap.size f0 f1 f2 := ⟨A0, c0, by simpa using heap_alloc_new W _, hB.size, hr0⟩
/-! ### spec_l01New: function 67 -/
def spec_l01New.l0 : Nat → List Int → Int → Int → Option (List Int × Int × Int)
 | 0, _, _, _ => none
 | k + 1, x0, x3, x4 => if x4 < (x0.length : Int) then (if x4 < 4000 then (if 0 ≤ x4 then (spec_l01New.l0 k x0 (Go.bits .and .i64 (wrap64 ((wrap64 ((wrap64 (x3 * 131)) + (wrap64 (rd x0 x4)))) + 7)) 1073741823) (wrap64 (x4 + 1))) else (none)) else (some (x0, 0, x3))) else (some (x0, 0, x3))
def spec_l01New.f (k : Nat) (l0 : List Int) : Option (List Int × Int × Int) := spec_l01New.l0 k l0 (wrap64 (76001 + (l0.length : Int))) 0
theorem spec_l01New.mono_l : ∀ k, (∀ y0 y1 y2, LeO (spec_l01New.l0 k y0 y1 y2) (spec_l01New.l0 (k + 1) y0 y1 y2))
 | 0 => fun _ _ _ r h => by simp [spec_l01New.l0] at h
 | k + 1 => by
  have ih0 := spec_l01New.mono_l k
  ·intro y0 y1 y2
   unfold spec_l01New.l0
   repeat' first
   | (with_reducible exact ih0 _ _ _)
   | (with_reducible exact LeO.refl _)
   | (with_reducible exact LeO.none _)
   | (with_reducible refine LeO.ite ?_ ?_)
   | (with_reducible refine LeO.bind ?_ (fun _ => ?_))
   | exact ih0 _ _ _
   | exact LeO.none _
   | refine LeO.ite ?_ ?_
   | refine LeO.bind ?_ (fun _ => ?_)
theorem spec_l01New.mono : ∀ a0 k, LeO (spec_l01New.f k a0) (spec_l01New.f (k + 1) a0) := by
 intro a0 k
 have ih0 := spec_l01New.mono_l k
 unfold spec_l01New.f
 repeat' first
   | (with_reducible exact ih0 _ _ _)
   | (with_reducible exact LeO.refl _)
   | (with_reducible exact LeO.none _)
   | (with_reducible refine LeO.ite ?_ ?_)
   | (with_reducible refine LeO.bind ?_ (fun _ => ?_))
   | exact ih0 _ _ _
   | exact LeO.none _
   | refine LeO.ite ?_ ?_
   | refine LeO.bind ?_ (fun _ => ?_)
theorem spec_l01New.calls (k : Nat) (A0 : Option Addr) (c0 : Nat) (l0 : List Int) (r1 : List Int) (r2 : Int) (r3 : Int) (w0 w : World) (hB : Below w0.heap.size w0 w) (hr0 : Kd.C (Kd.int .u8) w0 A0 l0.length l0) (hc0 : l0.length ≤ c0) (h : spec_l01New.f k l0 = some (r1, r2, r3)) :
  Calls Try.prog 67 #[.slice A0 l0.length c0] w fun e w' => ∃ g_ : Nat, e = .returned (.pointer (some ⟨g_, 0, none⟩)) ∧ IsS134 w0 w' g_ r1 r2 r3 ∧ Below w0.heap.size w0 w' ∧ Below w.heap.size w w' := by
 have hu134 := Try.underlying134
 have HR0 := Aside0.mk hr0
 have HC0 := Aside0.mk hc0
 clear hr0 hc0
 have HBW := ak (Below.refl w.heap.size w)
 have HW0 := Aside0.mk hB.size
 have HB := Aside0.mk hB
 clear hB
 have H : (spec_l01New.l0 k l0 (wrap64 (76001 + (l0.length : Int))) 0) = some (r1, r2, r3) := h
 clear h
 have H' := Aside0.mk H
 clear H
 go_enter Try.func67, Try.ntmps67
 go_wp2
 go_loopg [3, 4] k (fun kq v3 v4 w' => ∃ (x3_1 : Int) (x4_1 : Int), v3 = .int .i64 x3_1 ∧ v4 = .int .i64 x4_1 ∧ Aside0 (spec_l01New.l0 kq l0 x3_1 x4_1 = some (r1, r2, r3)) ∧ Aside0 (kq ≤ k) ∧ Aside0 (Below w0.heap.size w0 w') ∧ Aside0 (Below w.heap.size w w'))
 case atStart => exact ⟨_, _, rr, rr, H', ⟨Nat.le_refl _⟩, ⟨by exact lG HB⟩, ⟨by exact lG HBW⟩⟩
 case round =>
  clear H'
  obtain ⟨x3_1, x4_1, rfl, rfl, HA, HK1, HB, HBW⟩ := hrel
  cases gk with
  | zero => exact absurd HA.out (by simp [spec_l01New.l0])
  | succ k1 =>
   have H := HA.out
   clear HA
   simp only [spec_l01New.l0] at H
   by_cases c2 : x4_1 < (l0.length : Int)
   ·rw [if_pos c2] at H
    have c2b0 : decide (x4_1 < (l0.length : Int)) = true := decide_eq_true c2
    clear c2
    by_cases c3 : x4_1 < 4000
    ·rw [if_pos c3] at H
     have c3b0 : decide (x4_1 < 4000) = true := decide_eq_true c3
     clear c3
     by_cases c4 : 0 ≤ x4_1
     ·rw [if_pos c4] at H
      have c4b0 : decide (0 ≤ x4_1) = true := decide_eq_true c4
      clear c4
      have H' := Aside0.mk H
      clear H
      have p110 : 0 ≤ (x4_1 : Int) := oda
      have q110 : x4_1 < (l0.length : Int) := oda
      obtain ⟨ad110, e110, hx110_0⟩ := Kd.at_int HR0.out x4_1 p110 q110
      cases e110
      replace hx110_0 := pw_cell_below HB.out hx110_0
      replace p110 := eq_true p110
      replace q110 := eq_true q110
      go_wp2
      go_roundg k1
      case measure => have := HK1.out; omega
      case rel => exact ⟨_, _, rr, rr, H', ⟨by have := HK1.out; omega⟩, ⟨by exact lG HB⟩, ⟨by exact lG HBW⟩⟩
     ·rw [if_neg c4] at H
      exact absurd H (by simp)
    ·rw [if_neg c3] at H
     have c3b0 : decide (x4_1 < 4000) = false := decide_eq_false c3
     clear c3
     simp only [Option.some.injEq, Prod.mk.injEq] at H
     obtain ⟨rfl, rfl, rfl⟩ := H
     go_wp2_with (first | ((with_reducible refine gate_dst (N := 31) rfl ?_); refine bx 31 #[.slice A0 l0.length c0, .int .i64 0, .int .i64 x3_1] 134 ?_; intro gb111 hg w5 hbox hb; replace HB := lB HB hb; replace BK111 := ak (hbox); replace GW111 := ak ((by rw [hg]; exact (below_size (by repeat (first | (with_reducible first | exact HBW.out | apply below_alloc | apply pw_below_drewN | apply below_drew1) | exact HBW.out))) : w.heap.size ≤ gb111)); replace GE111 := ak ((Nat.le_trans HW0.out (by rw [hg]; exact (below_size (by repeat (first | (with_reducible first | exact HBW.out | apply below_alloc | apply pw_below_drewN | apply below_drew1) | exact HBW.out))) : w.heap.size ≤ gb111) : w0.heap.size ≤ gb111)); replace HBW := ak (below_step HBW.out hb); clear hb hbox hg))
     go_ret
     exact ⟨_, rfl, (show IsS134 w0 _ gb111 l0 0 x3_1 from ⟨_, _, by (with_reducible repeat (first | refine blk_drewN ?_ _ | refine blk_drew ?_ | refine blk_alloc ?_ _)); exact BK111.out, GE111.out, HR0.out⟩), by exact lT HB (gC GE111 gN), by repeat (first | (with_reducible first | exact HBW.out | apply below_alloc | apply pw_below_drewN | apply below_drew1 | refine below_set ?_ GW111.out) | exact HBW.out)⟩
   ·rw [if_neg c2] at H
    have c2b0 : decide (x4_1 < (l0.length : Int)) = false := decide_eq_false c2
    clear c2
    simp only [Option.some.injEq, Prod.mk.injEq] at H
    obtain ⟨rfl, rfl, rfl⟩ := H
    go_wp2_with (first | ((with_reducible refine gate_dst (N := 31) rfl ?_); refine bx 31 #[.slice A0 l0.length c0, .int .i64 0, .int .i64 x3_1] 134 ?_; intro gb112 hg w6 hbox hb; replace HB := lB HB hb; replace BK112 := ak (hbox); replace GW112 := ak ((by rw [hg]; exact (below_size (by repeat (first | (with_reducible first | exact HBW.out | apply below_alloc | apply pw_below_drewN | apply below_drew1) | exact HBW.out))) : w.heap.size ≤ gb112)); replace GE112 := ak ((Nat.le_trans HW0.out (by rw [hg]; exact (below_size (by repeat (first | (with_reducible first | exact HBW.out | apply below_alloc | apply pw_below_drewN | apply below_drew1) | exact HBW.out))) : w.heap.size ≤ gb112) : w0.heap.size ≤ gb112)); replace HBW := ak (below_step HBW.out hb); clear hb hbox hg))
    go_ret
    exact ⟨_, rfl, (show IsS134 w0 _ gb112 l0 0 x3_1 from ⟨_, _, by (with_reducible repeat (first | refine blk_drewN ?_ _ | refine blk_drew ?_ | refine blk_alloc ?_ _)); exact BK112.out, GE112.out, HR0.out⟩), by exact lT HB (gC GE112 gN), by repeat (first | (with_reducible first | exact HBW.out | apply below_alloc | apply pw_below_drewN | apply below_drew1 | refine below_set ?_ GW112.out) | exact HBW.out)⟩
/-! ### spec_l01Byte: function 73 -/
def spec_l01Byte.f (s0_0 : List Int) (s0_1 : Int) (s0_2 : Int) : Option (Int × Int × Int) := if s0_1 < (s0_0.length : Int) then (if 0 ≤ s0_1 then (some (Go.bits .and .i64 (wrap64 ((Go.bits .and .i64 (Go.bits .xor .i64 ((wrap64 ((wrap64 (s0_2 * 6364136223846793005)) + 1442695040888963407)) / 8589934592) ((wrap64 ((wrap64 (s0_2 * 6364136223846793005)) + 1442695040888963407)) / 35184372088832)) 255) + (wrap64 (rd s0_0 s0_1)))) 255, wrap64 (s0_1 + 1), wrap64 ((wrap64 (s0_2 * 6364136223846793005)) + 1442695040888963407))) else (none)) else (some (Go.bits .and .i64 (Go.bits .xor .i64 ((wrap64 ((wrap64 (s0_2 * 6364136223846793005)) + 1442695040888963407)) / 8589934592) ((wrap64 ((wrap64 (s0_2 * 6364136223846793005)) + 1442695040888963407)) / 35184372088832)) 255, s0_1, wrap64 ((wrap64 (s0_2 * 6364136223846793005)) + 1442695040888963407)))
theorem spec_l01Byte.calls (g : Nat) (s0_0 : List Int) (s0_1 : Int) (s0_2 : Int) (r1 : Int) (r2 : Int) (r3 : Int) (w0 w : World) (hI : IsS134 w0 w g s0_0 s0_1 s0_2) (hB : Below w0.heap.size w0 w) (h : spec_l01Byte.f s0_0 s0_1 s0_2 = some (r1, r2, r3)) :
  Calls Try.prog 73 #[.pointer (some ⟨g, 0, none⟩)] w fun e w' => e = .returned (.int .i64 r1) ∧ IsS134 w0 w' g s0_0 r2 r3 ∧ Below w0.heap.size w0 w' ∧ KeepBut w w' g none := by
 have HI0 := Aside0.mk hI
 have HK := ak (KeepBut.refl w g none)
 have HL := Aside0.mk hB.size
 clear hI
 have HW0 := Aside0.mk hB.size
 have HB := Aside0.mk hB
 clear hB
 have H : (if s0_1 < (s0_0.length : Int) then (if 0 ≤ s0_1 then (some (Go.bits .and .i64 (wrap64 ((Go.bits .and .i64 (Go.bits .xor .i64 ((wrap64 ((wrap64 (s0_2 * 6364136223846793005)) + 1442695040888963407)) / 8589934592) ((wrap64 ((wrap64 (s0_2 * 6364136223846793005)) + 1442695040888963407)) / 35184372088832)) 255) + (wrap64 (rd s0_0 s0_1)))) 255, wrap64 (s0_1 + 1), wrap64 ((wrap64 (s0_2 * 6364136223846793005)) + 1442695040888963407))) else (none)) else (some (Go.bits .and .i64 (Go.bits .xor .i64 ((wrap64 ((wrap64 (s0_2 * 6364136223846793005)) + 1442695040888963407)) / 8589934592) ((wrap64 ((wrap64 (s0_2 * 6364136223846793005)) + 1442695040888963407)) / 35184372088832)) 255, s0_1, wrap64 ((wrap64 (s0_2 * 6364136223846793005)) + 1442695040888963407)))) = some (r1, r2, r3) := h
 clear h
 by_cases c2 : s0_1 < (s0_0.length : Int)
 ·rw [if_pos c2] at H
  have c2b0 : decide (s0_1 < (s0_0.length : Int)) = true := decide_eq_true c2
  clear c2
  by_cases c3 : 0 ≤ s0_1
  ·rw [if_pos c3] at H
   have c3b0 : decide (0 ≤ s0_1) = true := decide_eq_true c3
   clear c3
   simp only [Option.some.injEq, Prod.mk.injEq] at H
   obtain ⟨rfl, rfl, rfl⟩ := H
   obtain ⟨ASz4_0, cSz4_0, HGz4, hgz4, HSz4_0⟩ := HI0.out
   have hcz4_0 := cellS134_0 HGz4
   have hcz4_1 := cellS134_1 HGz4
   have hcz4_2 := cellS134_2 HGz4
   have hfz4_1 := blk_frozen HGz4 1
   have hfz4_2 := blk_frozen HGz4 2
   clear HGz4 hgz4
   have p113 : 0 ≤ (s0_1 : Int) := oda
   have q113 : s0_1 < (s0_0.length : Int) := oda
   obtain ⟨ad113, e113, hx113_0⟩ := Kd.at_int HSz4_0 s0_1 p113 q113
   cases e113
   have hn113_0 : ad113.block ≠ g := Nat.ne_of_lt (Nat.lt_of_lt_of_le (by have := World.block_lt_of_cell? _ _ hx113_0; first | rwa [add_block] at this | exact this) (IsS134.ge HI0.out))
   replace hx113_0 := pw_cell_below HB.out hx113_0
   replace hx113_0 := (cell_far (p := ⟨g, 2, none⟩) (by first | (rw [add_block]; exact hn113_0) | (show (Addr.add _ _).block ≠ _; rw [add_block]; exact hn113_0) | exact hn113_0) (.int .i64 (wrap64 ((wrap64 (s0_2 * 6364136223846793005)) + 1442695040888963407)))).trans hx113_0
   (try have hy113_0 := fun (n_ : Nat) => (show (((w.drewN n_).setCell ⟨g, 2, none⟩ (.int .i64 (wrap64 ((wrap64 (s0_2 * 6364136223846793005)) + 1442695040888963407))))).cell? _ = some _ from hx113_0))
   clear hn113_0
   replace p113 := eq_true p113
   replace q113 := eq_true q113
   go_enter Try.func73, Try.ntmps73
   go_wp2
   repeat (go_quiet (fail); try go_wp2)
   go_ret
   exact ⟨by first | rfl | (simp [errW_none, errW_some] <;> rfl) | (simp [*, errW_none, errW_some] <;> rfl), by repeat (first | (with_reducible first | exact HI0.out | apply IsS134.alloc | apply IsS134.drewN | apply IsS134.drew | apply IsS134.set_1 | apply IsS134.set_2) | exact HI0.out), by repeat (first | (with_reducible first | exact HB.out | apply below_alloc | apply pw_below_drewN | apply below_drew1 | refine below_set ?_ (IsS134.ge HI0.out)) | exact HB.out), by repeat (first | (with_reducible first | exact HK.out | apply KeepBut.set_ | apply keep_drewN | apply keep_drew | apply keep_alloc) | exact HK.out)⟩
  ·rw [if_neg c3] at H
   exact absurd H (by simp)
 ·rw [if_neg c2] at H
  have c2b0 : decide (s0_1 < (s0_0.length : Int)) = false := decide_eq_false c2
  clear c2
  simp only [Option.some.injEq, Prod.mk.injEq] at H
  obtain ⟨rfl, rfl, rfl⟩ := H
  obtain ⟨ASz5_0, cSz5_0, HGz5, hgz5, HSz5_0⟩ := HI0.out
  have hcz5_0 := cellS134_0 HGz5
  have hcz5_1 := cellS134_1 HGz5
  have hcz5_2 := cellS134_2 HGz5
  have hfz5_1 := blk_frozen HGz5 1
  have hfz5_2 := blk_frozen HGz5 2
  clear HGz5 hgz5
  go_enter Try.func73, Try.ntmps73
  go_wp2
  repeat (go_quiet (fail); try go_wp2)
  go_ret
  exact ⟨by first | rfl | (simp [errW_none, errW_some] <;> rfl) | (simp [*, errW_none, errW_some] <;> rfl), by repeat (first | (with_reducible first | exact HI0.out | apply IsS134.alloc | apply IsS134.drewN | apply IsS134.drew | apply IsS134.set_1 | apply IsS134.set_2) | exact HI0.out), by repeat (first | (with_reducible first | exact HB.out | apply below_alloc | apply pw_below_drewN | apply below_drew1 | refine below_set ?_ (IsS134.ge HI0.out)) | exact HB.out), by repeat (first | (with_reducible first | exact HK.out | apply KeepBut.set_ | apply keep_drewN | apply keep_drew | apply keep_alloc) | exact HK.out)⟩
/-! ### spec_l01Below: function 69 -/
def spec_l01Below.f (s0_0 : List Int) (s0_1 : Int) (s0_2 : Int) (a1 : Int) : Option (Int × Int × Int) := if a1 ≤ 0 then (some (0, s0_1, s0_2)) else (if a1 ≤ 256 then ((spec_l01Byte.f s0_0 s0_1 s0_2).bind fun bt114 => (if a1 = 0 then (none) else (some (Int.tmod bt114.1 a1, bt114.2.1, bt114.2.2)))) else ((spec_l01Byte.f s0_0 s0_1 s0_2).bind fun bt117 => ((spec_l01Byte.f s0_0 bt117.2.1 bt117.2.2).bind fun bt120 => ((spec_l01Byte.f s0_0 bt120.2.1 bt120.2.2).bind fun bt123 => ((spec_l01Byte.f s0_0 bt123.2.1 bt123.2.2).bind fun bt126 => (if a1 = 0 then (none) else (some (Int.tmod (wrap64 ((wrap64 ((wrap64 ((wrap64 (bt117.1 * 16777216)) + (wrap64 (bt120.1 * 65536)))) + (wrap64 (bt123.1 * 256)))) + bt126.1)) a1, bt126.2.1, bt126.2.2))))))))
theorem spec_l01Below.calls (g : Nat) (s0_0 : List Int) (s0_1 : Int) (s0_2 : Int) (a1 : Int) (r1 : Int) (r2 : Int) (r3 : Int) (w0 w : World) (hI : IsS134 w0 w g s0_0 s0_1 s0_2) (hB : Below w0.heap.size w0 w) (h : spec_l01Below.f s0_0 s0_1 s0_2 a1 = some (r1, r2, r3)) :
  Calls Try.prog 69 #[.pointer (some ⟨g, 0, none⟩), .int .i64 a1] w fun e w' => e = .returned (.int .i64 r1) ∧ IsS134 w0 w' g s0_0 r2 r3 ∧ Below w0.heap.size w0 w' ∧ KeepBut w w' g none := by
 have HI0 := Aside0.mk hI
 have HK := ak (KeepBut.refl w g none)
 have HL := Aside0.mk hB.size
 clear hI
 have HW0 := Aside0.mk hB.size
 have HB := Aside0.mk hB
 clear hB
 have H : (if a1 ≤ 0 then (some (0, s0_1, s0_2)) else (if a1 ≤ 256 then ((spec_l01Byte.f s0_0 s0_1 s0_2).bind fun bt114 => (if a1 = 0 then (none) else (some (Int.tmod bt114.1 a1, bt114.2.1, bt114.2.2)))) else ((spec_l01Byte.f s0_0 s0_1 s0_2).bind fun bt117 => ((spec_l01Byte.f s0_0 bt117.2.1 bt117.2.2).bind fun bt120 => ((spec_l01Byte.f s0_0 bt120.2.1 bt120.2.2).bind fun bt123 => ((spec_l01Byte.f s0_0 bt123.2.1 bt123.2.2).bind fun bt126 => (if a1 = 0 then (none) else (some (Int.tmod (wrap64 ((wrap64 ((wrap64 ((wrap64 (bt117.1 * 16777216)) + (wrap64 (bt120.1 * 65536)))) + (wrap64 (bt123.1 * 256)))) + bt126.1)) a1, bt126.2.1, bt126.2.2))))))))) = some (r1, r2, r3) := h
 clear h
 by_cases c3 : a1 ≤ 0
 ·rw [if_pos c3] at H
  have c3b0 : decide (a1 ≤ 0) = true := decide_eq_true c3
  clear c3
  simp only [Option.some.injEq, Prod.mk.injEq] at H
  obtain ⟨rfl, rfl, rfl⟩ := H
  go_enter Try.func69, Try.ntmps69
  go_wp2
  go_ret
  exact ⟨ew, IsS134.T_ HI0 nN, lT HB gN, kT HK gN⟩
 ·rw [if_neg c3] at H
  have c3b0 : decide (a1 ≤ 0) = false := decide_eq_false c3
  clear c3
  by_cases c4 : a1 ≤ 256
  ·rw [if_pos c4] at H
   have c4b0 : decide (a1 ≤ 256) = true := decide_eq_true c4
   clear c4
   obtain ⟨⟨t114, t115, t116⟩, A5, H⟩ := eb H
   try dsimp only at H
   by_cases c6 : a1 = 0
   ·rw [if_pos c6] at H
    exact absurd H (by simp)
   ·rw [if_neg c6] at H
    have c6b0 : (a1 == 0) = false := beq_eq_false_iff_ne.mpr c6
    have c6b1 : (a1 != 0) = true := bne_iff_ne.mpr c6
    simp only [Option.some.injEq, Prod.mk.injEq] at H
    obtain ⟨rfl, rfl, rfl⟩ := H
    go_enter Try.func69, Try.ntmps69
    go_wp2_with (first | ((with_reducible refine gate_callee (f := 73) rfl ?_); refine gl (some 14) Try.func73 #[.pointer (some ⟨g, 0, none⟩)] ?_; (with_reducible refine (spec_l01Byte.calls g s0_0 s0_1 s0_2 t114 t115 t116 w0 _ ?side1 ?side2 A5.out).mono ?_); (case side1 => exact IsS134.T_ HI0 nN); (case side2 => exact lT HB gN); rintro e w7 ⟨rfl, hi, hb, hk⟩; refine ⟨_, rfl, ?_⟩; replace HK := ak (KeepBut.trans (kT HK gN) hk (.inl rfl)); replace HB := ak (hb); replace HI0 := ak (hi); (try clear hb); (try clear hk); (try clear hi)))
    go_ret
    exact ⟨ew, IsS134.T_ HI0 nN, lT HB gN, kT HK gN⟩
  ·rw [if_neg c4] at H
   have c4b0 : decide (a1 ≤ 256) = false := decide_eq_false c4
   clear c4
   obtain ⟨⟨t117, t118, t119⟩, A8, H⟩ := eb H
   try dsimp only at H
   obtain ⟨⟨t120, t121, t122⟩, A9, H⟩ := eb H
   try dsimp only at H
   obtain ⟨⟨t123, t124, t125⟩, A10, H⟩ := eb H
   try dsimp only at H
   obtain ⟨⟨t126, t127, t128⟩, A11, H⟩ := eb H
   try dsimp only at H
   by_cases c12 : a1 = 0
   ·rw [if_pos c12] at H
    exact absurd H (by simp)
   ·rw [if_neg c12] at H
    have c12b0 : (a1 == 0) = false := beq_eq_false_iff_ne.mpr c12
    have c12b1 : (a1 != 0) = true := bne_iff_ne.mpr c12
    simp only [Option.some.injEq, Prod.mk.injEq] at H
    obtain ⟨rfl, rfl, rfl⟩ := H
    go_enter Try.func69, Try.ntmps69
    go_wp2_with (first | ((with_reducible refine gate_callee (f := 73) rfl ?_); refine gl (some 18) Try.func73 #[.pointer (some ⟨g, 0, none⟩)] ?_; (with_reducible refine (spec_l01Byte.calls g s0_0 s0_1 s0_2 t117 t118 t119 w0 _ ?side1 ?side2 A8.out).mono ?_); (case side1 => exact IsS134.T_ HI0 nN); (case side2 => exact lT HB gN); rintro e w13 ⟨rfl, hi, hb, hk⟩; refine ⟨_, rfl, ?_⟩; replace HK := ak (KeepBut.trans (kT HK gN) hk (.inl rfl)); replace HB := ak (hb); replace HI0 := ak (hi); (try clear hb); (try clear hk); (try clear hi)) | ((with_reducible refine gate_callee (f := 73) rfl ?_); refine gl (some 20) Try.func73 #[.pointer (some ⟨g, 0, none⟩)] ?_; (with_reducible refine (spec_l01Byte.calls g s0_0 t118 t119 t120 t121 t122 w0 _ ?side1 ?side2 A9.out).mono ?_); (case side1 => exact IsS134.T_ HI0 nN); (case side2 => exact lT HB gN); rintro e w14 ⟨rfl, hi, hb, hk⟩; refine ⟨_, rfl, ?_⟩; replace HK := ak (KeepBut.trans (kT HK gN) hk (.inl rfl)); replace HB := ak (hb); replace HI0 := ak (hi); (try clear hb); (try clear hk); (try clear hi)) | ((with_reducible refine gate_callee (f := 73) rfl ?_); refine gl (some 22) Try.func73 #[.pointer (some ⟨g, 0, none⟩)] ?_; (with_reducible refine (spec_l01Byte.calls g s0_0 t121 t122 t123 t124 t125 w0 _ ?side1 ?side2 A10.out).mono ?_); (case side1 => exact IsS134.T_ HI0 nN); (case side2 => exact lT HB gN); rintro e w15 ⟨rfl, hi, hb, hk⟩; refine ⟨_, rfl, ?_⟩; replace HK := ak (KeepBut.trans (kT HK gN) hk (.inl rfl)); replace HB := ak (hb); replace HI0 := ak (hi); (try clear hb); (try clear hk); (try clear hi)) | ((with_reducible refine gate_callee (f := 73) rfl ?_); refine gl (some 24) Try.func73 #[.pointer (some ⟨g, 0, none⟩)] ?_; (with_reducible refine (spec_l01Byte.calls g s0_0 t124 t125 t126 t127 t128 w0 _ ?side1 ?side2 A11.out).mono ?_); (case side1 => exact IsS134.T_ HI0 nN); (case side2 => exact lT HB gN); rintro e w16 ⟨rfl, hi, hb, hk⟩; refine ⟨_, rfl, ?_⟩; replace HK := ak (KeepBut.trans (kT HK gN) hk (.inl rfl)); replace HB := ak (hb); replace HI0 := ak (hi); (try clear hb); (try clear hk); (try clear hi)))
    go_ret
    exact ⟨ew, IsS134.T_ HI0 nN, lT HB gN, kT HK gN⟩
/-! ### spec_l01Once: function 88 -/
def spec_l01Once.f (s0_0 : List Int) (s0_1 : Int) (s0_2 : Int) (a1 : Int) : Option (Bool × Int × Int) := (spec_l01Below.f s0_0 s0_1 s0_2 a1).bind fun bt129 => (some ((bt129.1 == 0), bt129.2.1, bt129.2.2))
theorem spec_l01Once.calls (g : Nat) (s0_0 : List Int) (s0_1 : Int) (s0_2 : Int) (a1 : Int) (r1 : Bool) (r2 : Int) (r3 : Int) (w0 w : World) (hI : IsS134 w0 w g s0_0 s0_1 s0_2) (hB : Below w0.heap.size w0 w) (h : spec_l01Once.f s0_0 s0_1 s0_2 a1 = some (r1, r2, r3)) :
  Calls Try.prog 88 #[.pointer (some ⟨g, 0, none⟩), .int .i64 a1] w fun e w' => e = .returned (.bool r1) ∧ IsS134 w0 w' g s0_0 r2 r3 ∧ Below w0.heap.size w0 w' ∧ KeepBut w w' g none := by
 have HI0 := Aside0.mk hI
 have HK := ak (KeepBut.refl w g none)
 have HL := Aside0.mk hB.size
 clear hI
 have HW0 := Aside0.mk hB.size
 have HB := Aside0.mk hB
 clear hB
 have H : ((spec_l01Below.f s0_0 s0_1 s0_2 a1).bind fun bt129 => (some ((bt129.1 == 0), bt129.2.1, bt129.2.2))) = some (r1, r2, r3) := h
 clear h
 obtain ⟨⟨t129, t130, t131⟩, A3, H⟩ := eb H
 try dsimp only at H
 simp only [Option.some.injEq, Prod.mk.injEq] at H
 obtain ⟨rfl, rfl, rfl⟩ := H
 go_enter Try.func88, Try.ntmps88
 go_wp2_with (first | ((with_reducible refine gate_callee (f := 69) rfl ?_); refine gl (some 7) Try.func69 #[.pointer (some ⟨g, 0, none⟩), .int .i64 a1] ?_; (with_reducible refine (spec_l01Below.calls g s0_0 s0_1 s0_2 a1 t129 t130 t131 w0 _ ?side1 ?side2 A3.out).mono ?_); (case side1 => exact IsS134.T_ HI0 nN); (case side2 => exact lT HB gN); rintro e w4 ⟨rfl, hi, hb, hk⟩; refine ⟨_, rfl, ?_⟩; replace HK := ak (KeepBut.trans (kT HK gN) hk (.inl rfl)); replace HB := ak (hb); replace HI0 := ak (hi); (try clear hb); (try clear hk); (try clear hi)))
 go_ret
 exact ⟨ew, IsS134.T_ HI0 nN, lT HB gN, kT HK gN⟩
/-! ### spec_l01Pick: function 71 -/
def spec_l01Pick.f (s0_0 : List Int) (s0_1 : Int) (s0_2 : Int) (l1 : List ByteArray) : Option (ByteArray × Int × Int) := (spec_l01Below.f s0_0 s0_1 s0_2 (l1.length : Int)).bind fun bt132 => (if 0 ≤ bt132.1 then (if bt132.1 < (l1.length : Int) then (some (rdOf ByteArray.empty l1 bt132.1, bt132.2.1, bt132.2.2)) else (none)) else (none))
theorem spec_l01Pick.calls (g : Nat) (s0_0 : List Int) (s0_1 : Int) (s0_2 : Int) (A1 : Option Addr) (c1 : Nat) (l1 : List ByteArray) (r1 : ByteArray) (r2 : Int) (r3 : Int) (w0 w : World) (hI : IsS134 w0 w g s0_0 s0_1 s0_2) (hB : Below w0.heap.size w0 w) (hr1 : Kd.C Kd.string w A1 l1.length l1) (hc1 : l1.length ≤ c1) (hf1 : ∀ ad, A1 = some ad → 0 < l1.length → ad.block ≠ g) (h : spec_l01Pick.f s0_0 s0_1 s0_2 l1 = some (r1, r2, r3)) :
  Calls Try.prog 71 #[.pointer (some ⟨g, 0, none⟩), .slice A1 l1.length c1] w fun e w' => e = .returned (.string r1) ∧ IsS134 w0 w' g s0_0 r2 r3 ∧ Below w0.heap.size w0 w' ∧ KeepBut w w' g none := by
 have HR1 := Aside0.mk hr1
 have HC1 := Aside0.mk hc1
 clear hr1 hc1
 have HI0 := Aside0.mk hI
 have HK := ak (KeepBut.refl w g none)
 have HL := Aside0.mk hB.size
 clear hI
 have HW0 := Aside0.mk hB.size
 have HB := Aside0.mk hB
 clear hB
 have H : ((spec_l01Below.f s0_0 s0_1 s0_2 (l1.length : Int)).bind fun bt132 => (if 0 ≤ bt132.1 then (if bt132.1 < (l1.length : Int) then (some (rdOf ByteArray.empty l1 bt132.1, bt132.2.1, bt132.2.2)) else (none)) else (none))) = some (r1, r2, r3) := h
 clear h
 obtain ⟨⟨t132, t133, t134⟩, A3, H⟩ := eb H
 try dsimp only at H
 by_cases c4 : 0 ≤ t132
 ·rw [if_pos c4] at H
  have c4b0 : decide (0 ≤ t132) = true := decide_eq_true c4
  clear c4
  by_cases c5 : t132 < (l1.length : Int)
  ·rw [if_pos c5] at H
   have c5b0 : decide (t132 < (l1.length : Int)) = true := decide_eq_true c5
   clear c5
   simp only [Option.some.injEq, Prod.mk.injEq] at H
   obtain ⟨rfl, rfl, rfl⟩ := H
   go_enter Try.func71, Try.ntmps71
   go_wp2_with (first | ((with_reducible refine gate_callee (f := 69) rfl ?_); refine gl (some 9) Try.func69 #[.pointer (some ⟨g, 0, none⟩), .int .i64 (l1.length : Int)] ?_; (with_reducible refine (spec_l01Below.calls g s0_0 s0_1 s0_2 (l1.length : Int) t132 t133 t134 w0 _ ?side1 ?side2 A3.out).mono ?_); (case side1 => exact IsS134.T_ HI0 nN); (case side2 => exact lT HB gN); rintro e w6 ⟨rfl, hi, hb, hk⟩; refine ⟨_, rfl, ?_⟩; replace HK := ak (KeepBut.trans (kT HK gN) hk (.inl rfl)); replace HB := ak (hb); replace HI0 := ak (hi); (try clear hb); (try clear hk); (try clear hi); have p135 : 0 ≤ (t132 : Int) := oda; have q135 : t132 < (l1.length : Int) := oda; obtain ⟨ad135, e135, hx135_0⟩ := Kd.at_string HR1.out t132 p135 q135; cases e135; replace hx135_0 := keep_cell HK.out hx135_0 (by first | (rw [add_block]; exact hf1 _ rfl (by omega)) | exact hf1 _ rfl (by omega) | exact hf1 ad135 rfl (by omega)); replace p135 := eq_true p135; replace q135 := eq_true q135))
   go_ret
   exact ⟨ew, IsS134.T_ HI0 nN, lT HB gN, kT HK gN⟩
  ·rw [if_neg c5] at H
   exact absurd H (by simp)
 ·rw [if_neg c4] at H
  exact absurd H (by simp)
/-! ### spec_l01PickInt: function 116 -/
def spec_l01PickInt.f (s0_0 : List Int) (s0_1 : Int) (s0_2 : Int) (l1 : List Int) : Option (Int × Int × Int) := (spec_l01Below.f s0_0 s0_1 s0_2 (l1.length : Int)).bind fun bt136 => (if 0 ≤ bt136.1 then (if bt136.1 < (l1.length : Int) then (some (rd l1 bt136.1, bt136.2.1, bt136.2.2)) else (none)) else (none))
theorem spec_l01PickInt.calls (g : Nat) (s0_0 : List Int) (s0_1 : Int) (s0_2 : Int) (A1 : Option Addr) (c1 : Nat) (l1 : List Int) (r1 : Int) (r2 : Int) (r3 : Int) (w0 w : World) (hI : IsS134 w0 w g s0_0 s0_1 s0_2) (hB : Below w0.heap.size w0 w) (hr1 : Kd.C (Kd.int .i64) w A1 l1.length l1) (hc1 : l1.length ≤ c1) (hf1 : ∀ ad, A1 = some ad → 0 < l1.length → ad.block ≠ g) (h : spec_l01PickInt.f s0_0 s0_1 s0_2 l1 = some (r1, r2, r3)) :
  Calls Try.prog 116 #[.pointer (some ⟨g, 0, none⟩), .slice A1 l1.length c1] w fun e w' => e = .returned (.int .i64 r1) ∧ IsS134 w0 w' g s0_0 r2 r3 ∧ Below w0.heap.size w0 w' ∧ KeepBut w w' g none := by
 have HR1 := Aside0.mk hr1
 have HC1 := Aside0.mk hc1
 clear hr1 hc1
 have HI0 := Aside0.mk hI
 have HK := ak (KeepBut.refl w g none)
 have HL := Aside0.mk hB.size
 clear hI
 have HW0 := Aside0.mk hB.size
 have HB := Aside0.mk hB
 clear hB
 have H : ((spec_l01Below.f s0_0 s0_1 s0_2 (l1.length : Int)).bind fun bt136 => (if 0 ≤ bt136.1 then (if bt136.1 < (l1.length : Int) then (some (rd l1 bt136.1, bt136.2.1, bt136.2.2)) else (none)) else (none))) = some (r1, r2, r3) := h
 clear h
 obtain ⟨⟨t136, t137, t138⟩, A3, H⟩ := eb H
 try dsimp only at H
 by_cases c4 : 0 ≤ t136
 ·rw [if_pos c4] at H
  have c4b0 : decide (0 ≤ t136) = true := decide_eq_true c4
  clear c4
  by_cases c5 : t136 < (l1.length : Int)
  ·rw [if_pos c5] at H
   have c5b0 : decide (t136 < (l1.length : Int)) = true := decide_eq_true c5
   clear c5
   simp only [Option.some.injEq, Prod.mk.injEq] at H
   obtain ⟨rfl, rfl, rfl⟩ := H
   go_enter Try.func116, Try.ntmps116
   go_wp2_with (first | ((with_reducible refine gate_callee (f := 69) rfl ?_); refine gl (some 9) Try.func69 #[.pointer (some ⟨g, 0, none⟩), .int .i64 (l1.length : Int)] ?_; (with_reducible refine (spec_l01Below.calls g s0_0 s0_1 s0_2 (l1.length : Int) t136 t137 t138 w0 _ ?side1 ?side2 A3.out).mono ?_); (case side1 => exact IsS134.T_ HI0 nN); (case side2 => exact lT HB gN); rintro e w6 ⟨rfl, hi, hb, hk⟩; refine ⟨_, rfl, ?_⟩; replace HK := ak (KeepBut.trans (kT HK gN) hk (.inl rfl)); replace HB := ak (hb); replace HI0 := ak (hi); (try clear hb); (try clear hk); (try clear hi); have p139 : 0 ≤ (t136 : Int) := oda; have q139 : t136 < (l1.length : Int) := oda; obtain ⟨ad139, e139, hx139_0⟩ := Kd.at_int HR1.out t136 p139 q139; cases e139; replace hx139_0 := keep_cell HK.out hx139_0 (by first | (rw [add_block]; exact hf1 _ rfl (by omega)) | exact hf1 _ rfl (by omega) | exact hf1 ad139 rfl (by omega)); replace p139 := eq_true p139; replace q139 := eq_true q139))
   go_ret
   exact ⟨ew, IsS134.T_ HI0 nN, lT HB gN, kT HK gN⟩
  ·rw [if_neg c5] at H
   exact absurd H (by simp)
 ·rw [if_neg c4] at H
  exact absurd H (by simp)
/-! ### spec_l06Text: function 117 -/
def spec_l06Text.f (s0_0 : List Int) (s0_1 : Int) (s0_2 : Int) : Option (ByteArray × Int × Int) := (spec_l01Pick.f s0_0 s0_1 s0_2 (([(⟨#[104, 101, 108, 108, 111]⟩ : ByteArray), (⟨#[102, 114, 111, 109, 58, 32, 97, 110, 110, 10, 10, 104, 105]⟩ : ByteArray), (⟨#[115, 117, 98, 106, 101, 99, 116, 58, 32, 120, 10, 10, 98, 111, 100, 121, 32, 111, 102, 32, 105, 116, 10, 46, 100, 111, 116, 10]⟩ : ByteArray), (⟨#[]⟩ : ByteArray), (⟨#[120, 10, 46, 46, 10]⟩ : ByteArray)] : List ByteArray))).bind fun bt143 => (some (bt143.1, bt143.2.1, bt143.2.2))
theorem spec_l06Text.calls (g : Nat) (s0_0 : List Int) (s0_1 : Int) (s0_2 : Int) (r1 : ByteArray) (r2 : Int) (r3 : Int) (w0 w : World) (hI : IsS134 w0 w g s0_0 s0_1 s0_2) (hB : Below w0.heap.size w0 w) (h : spec_l06Text.f s0_0 s0_1 s0_2 = some (r1, r2, r3)) :
  Calls Try.prog 117 #[.pointer (some ⟨g, 0, none⟩)] w fun e w' => e = .returned (.string r1) ∧ IsS134 w0 w' g s0_0 r2 r3 ∧ Below w0.heap.size w0 w' ∧ KeepBut w w' g none := by
 have HI0 := Aside0.mk hI
 have HK := ak (KeepBut.refl w g none)
 have HL := Aside0.mk hB.size
 clear hI
 have HW0 := Aside0.mk hB.size
 have HB := Aside0.mk hB
 clear hB
 have H : ((spec_l01Pick.f s0_0 s0_1 s0_2 (([(⟨#[104, 101, 108, 108, 111]⟩ : ByteArray), (⟨#[102, 114, 111, 109, 58, 32, 97, 110, 110, 10, 10, 104, 105]⟩ : ByteArray), (⟨#[115, 117, 98, 106, 101, 99, 116, 58, 32, 120, 10, 10, 98, 111, 100, 121, 32, 111, 102, 32, 105, 116, 10, 46, 100, 111, 116, 10]⟩ : ByteArray), (⟨#[]⟩ : ByteArray), (⟨#[120, 10, 46, 46, 10]⟩ : ByteArray)] : List ByteArray))).bind fun bt143 => (some (bt143.1, bt143.2.1, bt143.2.2))) = some (r1, r2, r3) := h
 clear h
 obtain ⟨y140, hy140⟩ : ∃ y_ : List ByteArray, y_ = (([(⟨#[104, 101, 108, 108, 111]⟩ : ByteArray), (⟨#[102, 114, 111, 109, 58, 32, 97, 110, 110, 10, 10, 104, 105]⟩ : ByteArray), (⟨#[115, 117, 98, 106, 101, 99, 116, 58, 32, 120, 10, 10, 98, 111, 100, 121, 32, 111, 102, 32, 105, 116, 10, 46, 100, 111, 116, 10]⟩ : ByteArray), (⟨#[]⟩ : ByteArray), (⟨#[120, 10, 46, 46, 10]⟩ : ByteArray)] : List ByteArray)) := ⟨_, rfl⟩
 replace H : ((spec_l01Pick.f s0_0 s0_1 s0_2 y140).bind fun bt143 => (some (bt143.1, bt143.2.1, bt143.2.2))) = some (r1, r2, r3) := by first | (rw [hy140]; with_reducible exact H) | (have H2_ := (Option.bind_some _ _).symm.trans H; rw [hy140]; with_reducible exact H2_) | (have H2_ := (Option.bind_some _ _).symm.trans H; with_reducible exact H2_) | with_reducible exact H | (rw [hy140]; exact H) | exact H
 have Ny140 := Aside0.mk hy140
 clear hy140
 obtain ⟨⟨t143, t144, t145⟩, A2, H⟩ := eb H
 try dsimp only at H
 simp only [Option.some.injEq, Prod.mk.injEq] at H
 obtain ⟨rfl, rfl, rfl⟩ := H
 go_enter Try.func117, Try.ntmps117
 go_wp2_with (first | ((with_reducible refine gate_dst (N := 4) rfl ?_); refine Kd.R_lit Kd.string _ 9 ?hg (N := 4) ?hd (xs := ([(⟨#[104, 101, 108, 108, 111]⟩ : ByteArray), (⟨#[102, 114, 111, 109, 58, 32, 97, 110, 110, 10, 10, 104, 105]⟩ : ByteArray), (⟨#[115, 117, 98, 106, 101, 99, 116, 58, 32, 120, 10, 10, 98, 111, 100, 121, 32, 111, 102, 32, 105, 116, 10, 46, 100, 111, 116, 10]⟩ : ByteArray), (⟨#[]⟩ : ByteArray), (⟨#[120, 10, 46, 46, 10]⟩ : ByteArray)] : List ByteArray)) (inner := [.string (⟨#[104, 101, 108, 108, 111]⟩ : ByteArray), .string (⟨#[102, 114, 111, 109, 58, 32, 97, 110, 110, 10, 10, 104, 105]⟩ : ByteArray), .string (⟨#[115, 117, 98, 106, 101, 99, 116, 58, 32, 120, 10, 10, 98, 111, 100, 121, 32, 111, 102, 32, 105, 116, 10, 46, 100, 111, 116, 10]⟩ : ByteArray), .string (⟨#[]⟩ : ByteArray), .string (⟨#[120, 10, 46, 46, 10]⟩ : ByteArray)]) (ok := fun _ => True) (okp := fun _ => True) ?hr ?hp (fun _ hk => hk) trivial (Below.refl _ _) (Nat.le_refl _) (by simp) ?_; (case hd => rfl); (case hg => rfl); (case hr => first | (go_simp; done) | (go_simp; rfl)); (case hp => exact (Reps.one (show Kd.M Kd.string _ _ _ (⟨#[104, 101, 108, 108, 111]⟩ : ByteArray) [.string (⟨#[104, 101, 108, 108, 111]⟩ : ByteArray)] from rfl) (Reps.one (show Kd.M Kd.string _ _ _ (⟨#[102, 114, 111, 109, 58, 32, 97, 110, 110, 10, 10, 104, 105]⟩ : ByteArray) [.string (⟨#[102, 114, 111, 109, 58, 32, 97, 110, 110, 10, 10, 104, 105]⟩ : ByteArray)] from rfl) (Reps.one (show Kd.M Kd.string _ _ _ (⟨#[115, 117, 98, 106, 101, 99, 116, 58, 32, 120, 10, 10, 98, 111, 100, 121, 32, 111, 102, 32, 105, 116, 10, 46, 100, 111, 116, 10]⟩ : ByteArray) [.string (⟨#[115, 117, 98, 106, 101, 99, 116, 58, 32, 120, 10, 10, 98, 111, 100, 121, 32, 111, 102, 32, 105, 116, 10, 46, 100, 111, 116, 10]⟩ : ByteArray)] from rfl) (Reps.one (show Kd.M Kd.string _ _ _ (⟨#[]⟩ : ByteArray) [.string (⟨#[]⟩ : ByteArray)] from rfl) (Reps.one (show Kd.M Kd.string _ _ _ (⟨#[120, 10, 46, 46, 10]⟩ : ByteArray) [.string (⟨#[120, 10, 46, 46, 10]⟩ : ByteArray)] from rfl) (Reps.none _ _))))))); intro v141 w3 ho4 hb hg_ hnew_; clear hg_ hnew_; (first | rw [← Ny140.out] at ho4 | (simp only [Int.reduceToNat] at ho4; rw [← Ny140.out] at ho4)); replace HO142 := ak (Kd.R_lower ho4 (keep_size (w := w) (g := g) (row := none) (kT HK gN))); replace HK := ak (KeepBut.trans (kT HK gN) (KeepBut.of_below hb g none) (.inl rfl)); replace HB := ak (below_step (lT HB gN) hb); replace HI0 := ak (IsS134.below (IsS134.T_ HI0 nN) hb); clear hb ho4; obtain ⟨Ao5, co5, eo5⟩ := Kd.R_slice HO142.out; subst eo5) | ((with_reducible refine gate_callee (f := 71) rfl ?_); refine gl (some 5) Try.func71 #[.pointer (some ⟨g, 0, none⟩), .slice Ao5 y140.length co5] ?_; (with_reducible refine (spec_l01Pick.calls g s0_0 s0_1 s0_2 _ _ y140 t143 t144 t145 w0 _ ?side1 ?side2 ?side3 ?side4 ?side5 A2.out).mono ?_); (case side1 => exact IsS134.T_ HI0 nN); (case side2 => exact lT HB gN); (case side3 => exact cG (Kd.R_reads' HO142.out).2.2); (case side4 => exact (Kd.R_reads' HO142.out).2.1); (case side5 => exact far_slice (IsS134.own_ne HI0.out HO142.out (by decide))); rintro e w6 ⟨rfl, hi, hb, hk⟩; refine ⟨_, rfl, ?_⟩; replace HO142 := ak (Kd.R_mono (Kd.R_keep (IsS134.apart (show IsS134 w0 _ g s0_0 s0_1 s0_2 from IsS134.T_ HI0 nN) (rG HO142) (by decide)) hk (fun _ h => h.2)) (fun _ h => h.1)); replace HK := ak (KeepBut.trans (kT HK gN) hk (.inl rfl)); replace HB := ak (hb); replace HI0 := ak (hi); (try clear hb); (try clear hk); (try clear hi)))
 go_ret
 exact ⟨ew, IsS134.T_ HI0 nN, lT HB gN, kT HK gN⟩
end Go.Proofs.Ytagkjeldheiejaa.PFnAnyOrder
