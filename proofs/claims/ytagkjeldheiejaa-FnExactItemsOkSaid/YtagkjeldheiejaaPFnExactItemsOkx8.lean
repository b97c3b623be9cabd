-- Written for this claim by a program of mine (a turned copy of the kit's print): functions as plain Lean, and their contracts. Lean checks it.
import Derived.Test.YtagkjeldheiejaaPFnExactItemsOkx0
import Derived.Test.YtagkjeldheiejaaPFnExactItemsOkx5
import Derived.Test.YtagkjeldheiejaaPFnExactItemsOkx7
import Derived.Test.YtagkjeldheiejaaVFnExactItemsOk1
namespace Go.Proofs.Ytagkjeldheiejaa.PFnExactItemsOk
open Go.RowKit Go.Proofs.YtagkjeldheiejaaW.PrintWords Go.Proofs.YtagkjeldheiejaaW.PrintLast Go.Proofs.YtagkjeldheiejaaW.PrintMore
attribute [local go_sem] max2_int min2_int max_two min_two max_three min_three max_four min_four   -- for this text's walks alone
set_option linter.unusedVariables false
set_option linter.unusedSimpArgs false

-- NOT PRINTED: function 98 (impl_Item_98)

-- NOT PRINTED: function 64 (impl_Item_64)

/-! ### impl_ItemsOk: function 21 -/
set_option maxHeartbeats 4000000 in
set_option maxRecDepth 100000 in
theorem idx_it (caps : Array Value) (p : S32 → Bool) (A0 : Option Addr) (c0 : Nat) (l0 : List S32) (w : World) (hr0 : Kd.C k32 w A0 l0.length l0) (hc0 : l0.length ≤ c0)
  (hp : ∀ x, x ∈ l0 → ∀ W, Below w.heap.size w W → Calls Try.prog 65 (#[.agg #[.int .i64 x.f0, .int .i64 x.f1.f0, .int .i64 x.f1.f1, .int .i64 x.f1.f2, .int .i64 x.f1.f3, .int .i64 x.f1.f4, .string x.f1.f5, .string x.f1.f6, .string x.f1.f7]] ++ caps) W fun e W' => e = .returned (.bool (p x)) ∧ Below W.heap.size W W') :
  Calls Try.prog 98 #[.slice A0 l0.length c0, .func (.func 65) #[] caps] w fun e w' => ∃ v : Int, e = .returned (.int .i64 v) ∧ Aside0 (decide (0 ≤ v) = l0.any p) ∧ Below w.heap.size w w' := by
 have HR0 := Aside0.mk hr0
 have HC0 := Aside0.mk hc0
 have HP := Aside0.mk hp
 have hm : l0.length ≤ 9223372036854775807 := hr0.2.1
 clear hr0 hc0 hp
 have HB := ak (Below.refl w.heap.size w)
 go_enter Try.func98, Try.ntmps98
 go_wp2
 go_loopg [8] l0.length (fun kq v8 w' => ∃ x8 : Int, v8 = .int .i64 x8 ∧ Aside0 (0 ≤ x8 ∧ x8 + kq = l0.length ∧ ∀ x, x ∈ l0.take x8.toNat → p x = false) ∧ Aside0 (Below w.heap.size w w'))
 case atStart => exact ⟨0, by first | rfl | (simp; done), ⟨by omega, by omega, by simp⟩, ⟨by first | exact HB.out | exact Below.refl _ _⟩⟩
 case round =>
  obtain ⟨x8, rfl, HX, HB⟩ := hrel
  by_cases c4 : x8 < (l0.length : Int)
  ·have c4b0 : decide (x8 < (l0.length : Int)) = true := decide_eq_true c4
   have c5b0 : decide (0 ≤ x8) = true := decide_eq_true HX.out.1
   have hl : x8.toNat < l0.length := by have := HX.out.1; omega
   have hmem : rd_T32 l0 x8 ∈ l0 := by
    unfold rd_T32
    rw [List.getD_eq_getElem?_getD, List.getElem?_eq_getElem hl]
    exact List.getElem_mem hl
   have HQ := ak (fun W hW => HP.out _ hmem W hW)
   clear c4 hl hmem
   have p103 : 0 ≤ (x8 : Int) := of_decide_eq_true (by first | (with_reducible assumption) | assumption)
   have q103 : x8 < (l0.length : Int) := of_decide_eq_true (by first | (with_reducible assumption) | assumption)
   obtain ⟨ad103, e103, hx103_0, hx103_1, hx103_2, hx103_3, hx103_4, hx103_5, hx103_6, hx103_7, hx103_8⟩ := at_T32 HR0.out x8 p103 q103
   cases e103
   replace hx103_0 := (HB.out.cell (World.block_lt_of_cell? w _ hx103_0)).trans hx103_0
   replace hx103_1 := (HB.out.cell (World.block_lt_of_cell? w _ hx103_1)).trans hx103_1
   replace hx103_2 := (HB.out.cell (World.block_lt_of_cell? w _ hx103_2)).trans hx103_2
   replace hx103_3 := (HB.out.cell (World.block_lt_of_cell? w _ hx103_3)).trans hx103_3
   replace hx103_4 := (HB.out.cell (World.block_lt_of_cell? w _ hx103_4)).trans hx103_4
   replace hx103_5 := (HB.out.cell (World.block_lt_of_cell? w _ hx103_5)).trans hx103_5
   replace hx103_6 := (HB.out.cell (World.block_lt_of_cell? w _ hx103_6)).trans hx103_6
   replace hx103_7 := (HB.out.cell (World.block_lt_of_cell? w _ hx103_7)).trans hx103_7
   replace hx103_8 := (HB.out.cell (World.block_lt_of_cell? w _ hx103_8)).trans hx103_8
   replace p103 := eq_true p103
   replace q103 := eq_true q103
   obtain ⟨b, hb0⟩ : ∃ b, p (rd_T32 l0 x8) = b := ⟨_, rfl⟩
   have HPB := Aside0.mk hb0
   rw [hb0] at HQ
   clear hb0
   cases b with
   | true =>
    go_wp2_with (go_at_call 65; refine (HQ.out _ HB.out).mono ?_; rintro e w8 ⟨rfl, hb⟩; replace HB := ak (below_step (by exact HB.out) hb); clear hb)
    go_ret
    have h0 : 0 ≤ x8 := HX.out.1
    have hl : x8.toNat < l0.length := by have := HX.out.1; have := of_eq_true q103; omega
    refine ⟨x8, rfl, ⟨?_⟩, HB.out⟩
    rw [decide_eq_true h0]
    symm
    rw [List.any_eq_true]
    refine ⟨rd_T32 l0 x8, ?_, HPB.out⟩
    unfold rd_T32
    rw [List.getD_eq_getElem?_getD, List.getElem?_eq_getElem hl]
    exact List.getElem_mem hl
   | false =>
    cases gk with
    | zero => exact absurd HX.out (by have := of_eq_true q103; omega)
    | succ k1 =>
    go_wp2_with (go_at_call 65; refine (HQ.out _ HB.out).mono ?_; rintro e w8 ⟨rfl, hb⟩; replace HB := ak (below_step (by exact HB.out) hb); clear hb)
    go_roundg k1
    case measure => omega
    case rel =>
     have h0 : 0 ≤ x8 := HX.out.1
     have h1 := HX.out.2.1
     have hl : x8.toNat < l0.length := by have := of_eq_true q103; omega
     have e1 : wrap64 (x8 + 1) = x8 + 1 := by unfold wrap64; omega
     refine ⟨x8 + 1, by first | rfl | (rw [e1]) | (simp [e1]; done), ⟨by omega, by omega, ?_⟩, HB⟩
     intro x hx
     rw [show (x8 + 1).toNat = x8.toNat + 1 by omega, List.take_succ_eq_append_getElem hl] at hx
     rcases List.mem_append.1 hx with hx | hx
     ·exact HX.out.2.2 x hx
     ·have hx' := List.mem_singleton.1 hx
      subst hx'
      have := HPB.out
      unfold rd_T32 at this
      rw [List.getD_eq_getElem?_getD, List.getElem?_eq_getElem hl] at this
      exact this
  ·have c4b0 : decide (x8 < (l0.length : Int)) = false := decide_eq_false c4
   clear c4
   go_wp2
   go_ret
   have h0 : 0 ≤ x8 := HX.out.1
   have h1 := HX.out.2.1
   have h2 := of_decide_eq_false c4b0
   refine ⟨-1, rfl, ⟨?_⟩, HB.out⟩
   symm
   rw [decide_eq_false (by omega)]
   rw [List.any_eq_false]
   intro x hx
   have := HX.out.2.2 x (by rw [List.take_of_length_le (by omega)]; exact hx)
   simp [this]
set_option maxHeartbeats 2000000 in
set_option maxRecDepth 100000 in
theorem cont_it (caps : Array Value) (p : S32 → Bool) (A0 : Option Addr) (c0 : Nat) (l0 : List S32) (w : World) (hr0 : Kd.C k32 w A0 l0.length l0) (hc0 : l0.length ≤ c0)
  (hp : ∀ x, x ∈ l0 → ∀ W, Below w.heap.size w W → Calls Try.prog 65 (#[.agg #[.int .i64 x.f0, .int .i64 x.f1.f0, .int .i64 x.f1.f1, .int .i64 x.f1.f2, .int .i64 x.f1.f3, .int .i64 x.f1.f4, .string x.f1.f5, .string x.f1.f6, .string x.f1.f7]] ++ caps) W fun e W' => e = .returned (.bool (p x)) ∧ Below W.heap.size W W') :
  Calls Try.prog 64 #[.slice A0 l0.length c0, .func (.func 65) #[] caps] w fun e w' => e = .returned (.bool (l0.any p)) ∧ Below w.heap.size w w' := by
 have HC := ak (fun (W : World) => idx_it caps p A0 c0 l0 w hr0 hc0 hp)
 clear hr0 hc0 hp
 go_enter Try.func64, Try.ntmps64
 go_wp2_with (go_at_call 98; refine (HC.out w).mono ?_; rintro e w8 ⟨v, rfl, hv, hb⟩)
 go_ret
 exact ⟨by rw [← hv.out]; rfl, hb⟩
theorem cont_n (n : Nat) (caps : Array Value) (p : S32 → Bool) (A0 : Option Addr) (c0 : Nat) (l0 : List S32) (w : World) (hn : l0.length = n) (hr0 : Kd.C k32 w A0 l0.length l0) (hc0 : l0.length ≤ c0)
  (hp : ∀ x, x ∈ l0 → ∀ W, Below w.heap.size w W → Calls Try.prog 65 (#[.agg #[.int .i64 x.f0, .int .i64 x.f1.f0, .int .i64 x.f1.f1, .int .i64 x.f1.f2, .int .i64 x.f1.f3, .int .i64 x.f1.f4, .string x.f1.f5, .string x.f1.f6, .string x.f1.f7]] ++ caps) W fun e W' => e = .returned (.bool (p x)) ∧ Below W.heap.size W W') :
  Calls Try.prog 64 #[.slice A0 n c0, .func (.func 65) #[] caps] w fun e w' => e = .returned (.bool (l0.any p)) ∧ Below w.heap.size w w' := by
 subst hn
 exact cont_it caps p A0 c0 l0 w hr0 hc0 hp
def itBad (x y : S32) : Bool := (y.f0 == x.f0) && !((y.f0 == x.f0) && (y.f1.f0 == x.f1.f0) && (y.f1.f1 == x.f1.f1) && (y.f1.f2 == x.f1.f2) && (y.f1.f3 == x.f1.f3) && (y.f1.f4 == x.f1.f4) && (y.f1.f5.toList == x.f1.f5.toList) && (y.f1.f6.toList == x.f1.f6.toList) && (y.f1.f7.toList == x.f1.f7.toList))
theorem in_is (a b c : Int) : impl_in.f a b c = some (decide (b ≤ a ∧ a ≤ c)) := by
 unfold impl_in.f
 by_cases h : a ≥ b <;> by_cases h2 : a ≤ c <;> simp [h, h2] <;> omega
set_option maxHeartbeats 4000000 in
set_option maxRecDepth 100000 in
theorem clo_it (gb : Nat) (x y : S32) (W : World) (hb : W.heap[gb]? = some (.cells #[.int .i64 x.f0, .int .i64 x.f1.f0, .int .i64 x.f1.f1, .int .i64 x.f1.f2, .int .i64 x.f1.f3, .int .i64 x.f1.f4, .string x.f1.f5, .string x.f1.f6, .string x.f1.f7] 32 (0, 0))) :
  Calls Try.prog 65 #[.agg #[.int .i64 y.f0, .int .i64 y.f1.f0, .int .i64 y.f1.f1, .int .i64 y.f1.f2, .int .i64 y.f1.f3, .int .i64 y.f1.f4, .string y.f1.f5, .string y.f1.f6, .string y.f1.f7], .pointer (some ⟨gb, 0, none⟩)] W fun e W' => e = .returned (.bool (itBad x y)) ∧ Below W.heap.size W W' := by
 have huW := Try.underlying32
 have huR := Try.underlying23
 have BK := ak hb
 have HB := ak (Below.refl W.heap.size W)
 obtain ⟨x0, ⟨x1, x2, x3, x4, x5, x6, x7, x8⟩⟩ := x
 obtain ⟨y0, ⟨y1, y2, y3, y4, y5, y6, y7, y8⟩⟩ := y
 simp only at BK ⊢
 have hx : ∀ o, (W.alloc o).heap[gb]? = some (.cells #[.int .i64 x0, .int .i64 x1, .int .i64 x2, .int .i64 x3, .int .i64 x4, .int .i64 x5, .string x6, .string x7, .string x8] 32 (0, 0)) := fun o => blk_alloc BK.out o
 have h0 : ∀ o, (W.alloc o).cell? ⟨gb, 0, none⟩ = some (.int .i64 x0) := fun o => bc (ak (hx o)) 0
 have h1 : ∀ o, (W.alloc o).cell? ⟨gb, 1, none⟩ = some (.int .i64 x1) := fun o => bc (ak (hx o)) 1
 have h2 : ∀ o, (W.alloc o).cell? ⟨gb, 2, none⟩ = some (.int .i64 x2) := fun o => bc (ak (hx o)) 2
 have h3 : ∀ o, (W.alloc o).cell? ⟨gb, 3, none⟩ = some (.int .i64 x3) := fun o => bc (ak (hx o)) 3
 have h4 : ∀ o, (W.alloc o).cell? ⟨gb, 4, none⟩ = some (.int .i64 x4) := fun o => bc (ak (hx o)) 4
 have h5 : ∀ o, (W.alloc o).cell? ⟨gb, 5, none⟩ = some (.int .i64 x5) := fun o => bc (ak (hx o)) 5
 have h6 : ∀ o, (W.alloc o).cell? ⟨gb, 6, none⟩ = some (.string x6) := fun o => bc (ak (hx o)) 6
 have h7 : ∀ o, (W.alloc o).cell? ⟨gb, 7, none⟩ = some (.string x7) := fun o => bc (ak (hx o)) 7
 have h8 : ∀ o, (W.alloc o).cell? ⟨gb, 8, none⟩ = some (.string x8) := fun o => bc (ak (hx o)) 8
 have HA := ak (fun o => below_alloc (Below.refl W.heap.size W) o)
 clear hx BK HB
 clear hb
 by_cases c0 : y0 = x0
 ·subst c0
  go_enter Try.func65, Try.ntmps65
  go_wp2
  all_goals (go_ret; refine ⟨?_, HA.out _⟩; simp [itBad, *])
 ·have c0b : (y0 == x0) = false := beq_eq_false_iff_ne.mpr c0
  have HE := ak (show itBad ⟨x0, ⟨x1, x2, x3, x4, x5, x6, x7, x8⟩⟩ ⟨y0, ⟨y1, y2, y3, y4, y5, y6, y7, y8⟩⟩ = false by unfold itBad; rw [c0b]; rfl)
  go_enter Try.func65, Try.ntmps65
  go_wp2
  go_ret
  exact ⟨by rw [HE.out]; rfl, HA.out _⟩
def impl_ItemsOk.go (k : Nat) (l0 : List S32) : Nat → Nat → Option Bool
 | 0, _ => some true
 | n + 1, i => if (1 ≤ (rd_T32 l0 (i : Int)).f0 ∧ (rd_T32 l0 (i : Int)).f0 ≤ 1000000000) then (impl_RecOk.f k (rd_T32 l0 (i : Int)).f1.f0 (rd_T32 l0 (i : Int)).f1.f1 (rd_T32 l0 (i : Int)).f1.f2 (rd_T32 l0 (i : Int)).f1.f3 (rd_T32 l0 (i : Int)).f1.f4 (rd_T32 l0 (i : Int)).f1.f5 (rd_T32 l0 (i : Int)).f1.f6 (rd_T32 l0 (i : Int)).f1.f7).bind fun b => if b = true then (if (l0.take i).any (itBad (rd_T32 l0 (i : Int))) = true then some false else impl_ItemsOk.go k l0 n (i + 1)) else some false else some false
def impl_ItemsOk.f (k : Nat) (l0 : List S32) : Option Bool := if 200 < l0.length then some false else impl_ItemsOk.go k l0 l0.length 0
theorem impl_ItemsOk.mono : ∀ a0 k, LeO (impl_ItemsOk.f k a0) (impl_ItemsOk.f (k + 1) a0) := by
 intro a0 k
 have hg : ∀ n i, LeO (impl_ItemsOk.go k a0 n i) (impl_ItemsOk.go (k + 1) a0 n i) := fun n => by
  induction n with
  | zero => intro i; exact LeO.refl _
  | succ n ih => intro i; exact LeO.ite (LeO.bind (impl_RecOk.mono _ _ _ _ _ _ _ _ _) (fun _ => LeO.ite (LeO.ite (LeO.refl _) (ih _)) (LeO.refl _))) (LeO.refl _)
 unfold impl_ItemsOk.f
 exact LeO.ite (LeO.refl _) (hg _ _)
theorem d0_below {W w8 : World} (h : Drawn0 W w8) : Below W.heap.size W w8 := h.below
set_option maxHeartbeats 40000000 in
set_option maxRecDepth 100000 in
theorem impl_ItemsOk.calls (k : Nat) (A0 : Option Addr) (c0 : Nat) (l0 : List (S32)) (r : Bool) (w : World) (hr0 : Kd.C k32 w A0 l0.length l0) (hc0 : l0.length ≤ c0) (h : impl_ItemsOk.f k l0 = some r) :
  Calls Try.prog 21 #[.slice A0 l0.length c0] w fun e w' => e = .returned (.bool r) ∧ Below w.heap.size w w' := by
 have hu23 := Try.underlying23
 have hu32 := Try.underlying32
 have HR0 := ak hr0
 have HC0 := ak hc0
 have HB := ak (Below.refl w.heap.size w)
 have hmf : ∀ (fn : Fn) (first cap : Array Value) (w : World), (Instr.makeFunc fn first cap).run Try.prog w = .ok (.func fn first cap) w := fun _ _ _ _ => rfl
 clear hr0 hc0
 unfold impl_ItemsOk.f at h
 by_cases c1 : 200 < l0.length
 ·rw [if_pos c1] at h
  obtain rfl := Option.some.inj h
  have c1b0 : decide ((l0.length : Int) > 200) = true := by simp; omega
  have c1b1 : decide ((200 : Int) < (l0.length : Int)) = true := by simp; omega
  have c1b2 : decide (200 < l0.length) = true := by simp; omega
  clear c1 h
  go_enter Try.func21, Try.ntmps21
  go_wp2
  go_ret
  exact ⟨rfl, HB.out⟩
 ·rw [if_neg c1] at h
  have c1b0 : decide ((l0.length : Int) > 200) = false := by simp; omega
  have c1b1 : decide ((200 : Int) < (l0.length : Int)) = false := by simp; omega
  have c1b2 : decide (200 < l0.length) = false := by simp; omega
  have HM := ak (show l0.length ≤ 200 by omega)
  have HA := ak h
  clear c1 h
  go_enter Try.func21, Try.ntmps21
  go_wp2
  go_loopg [10] l0.length (fun kq v10 w' => ∃ (x10 : Int) (i : Nat), v10 = .int .i64 x10 ∧ Aside0 (x10 = (i : Int) ∧ kq + i = l0.length ∧ impl_ItemsOk.go k l0 kq i = some r) ∧ Aside0 (Below w.heap.size w w'))
  case atStart => exact ⟨0, 0, by first | rfl | (simp; done), ⟨rfl, rfl, HA.out⟩, HB⟩
  case round =>
   clear HA HB
   obtain ⟨x10, i, rfl, HX, HB⟩ := hrel
   cases gk with
   | zero =>
    have hr : true = r := Option.some.inj HX.out.2.2
    subst hr
    have c4 : decide (x10 < (l0.length : Int)) = false := decide_eq_false (by have := HX.out; omega)
    clear HX
    go_wp2
    go_ret
    exact ⟨rfl, HB.out⟩
   | succ k1 =>
    have c4 : decide (x10 < (l0.length : Int)) = true := decide_eq_true (by have := HX.out; omega)
    have c5 : decide (0 ≤ x10) = true := decide_eq_true (by have := HX.out; omega)
    have hi : i < l0.length := by have := HX.out; omega
    have hxi : x10 = (i : Int) := HX.out.1
    have H : (if (1 ≤ (rd_T32 l0 x10).f0 ∧ (rd_T32 l0 x10).f0 ≤ 1000000000) then (impl_RecOk.f k (rd_T32 l0 x10).f1.f0 (rd_T32 l0 x10).f1.f1 (rd_T32 l0 x10).f1.f2 (rd_T32 l0 x10).f1.f3 (rd_T32 l0 x10).f1.f4 (rd_T32 l0 x10).f1.f5 (rd_T32 l0 x10).f1.f6 (rd_T32 l0 x10).f1.f7).bind fun b => if b = true then (if (l0.take i).any (itBad (rd_T32 l0 x10)) = true then some false else impl_ItemsOk.go k l0 k1 (i + 1)) else some false else some false) = some r := by rw [hxi]; exact HX.out.2.2
    have p103 : 0 ≤ (x10 : Int) := by omega
    have q103 : x10 < (l0.length : Int) := by omega
    have HT := ak (Kd.C_take (m := i) HR0.out (by omega))
    have HL := ak (show (l0.take i).length = i by rw [List.length_take]; omega)
    have HI2 := ak (show x10 = (i : Int) ∧ i < l0.length ∧ k1 + (i + 1) = l0.length by have := HX.out; omega)
    obtain ⟨ad103, e103, hx103_0, hx103_1, hx103_2, hx103_3, hx103_4, hx103_5, hx103_6, hx103_7, hx103_8⟩ := at_T32 HR0.out x10 p103 q103
    cases e103

    replace hx103_0 := (HB.out.cell (World.block_lt_of_cell? w _ hx103_0)).trans hx103_0
    replace hx103_1 := (HB.out.cell (World.block_lt_of_cell? w _ hx103_1)).trans hx103_1
    replace hx103_2 := (HB.out.cell (World.block_lt_of_cell? w _ hx103_2)).trans hx103_2
    replace hx103_3 := (HB.out.cell (World.block_lt_of_cell? w _ hx103_3)).trans hx103_3
    replace hx103_4 := (HB.out.cell (World.block_lt_of_cell? w _ hx103_4)).trans hx103_4
    replace hx103_5 := (HB.out.cell (World.block_lt_of_cell? w _ hx103_5)).trans hx103_5
    replace hx103_6 := (HB.out.cell (World.block_lt_of_cell? w _ hx103_6)).trans hx103_6
    replace hx103_7 := (HB.out.cell (World.block_lt_of_cell? w _ hx103_7)).trans hx103_7
    replace hx103_8 := (HB.out.cell (World.block_lt_of_cell? w _ hx103_8)).trans hx103_8
    replace p103 := eq_true p103
    replace q103 := eq_true q103
    have s103 : ¬ (c0 : Int) < x10 := by have := HC0.out; omega
    clear HX hi hxi
    obtain ⟨y, hy⟩ : ∃ y, rd_T32 l0 x10 = y := ⟨_, rfl⟩
    rw [hy] at H hx103_0 hx103_1 hx103_2 hx103_3 hx103_4 hx103_5 hx103_6 hx103_7 hx103_8
    clear hy
    obtain ⟨y0, ⟨y1, y2, y3, y4, y5, y6, y7, y8⟩⟩ := y
    simp only at H hx103_0 hx103_1 hx103_2 hx103_3 hx103_4 hx103_5 hx103_6 hx103_7 hx103_8
    have hi := in_is y0 1 1000000000
    by_cases c6 : 1 ≤ y0 ∧ y0 ≤ 1000000000
    ·rw [if_pos c6] at H
     rw [decide_eq_true c6] at hi
     have HI := ak hi
     clear hi c6
     replace H := Option.bind_eq_some_iff.mp H
     obtain ⟨ok, A0, H⟩ := H
     have AV := ak A0
     clear A0
     cases ok with
     | false =>
      have hr : false = r := by rw [if_neg (by simp)] at H; exact Option.some.inj H
      subst hr
      clear H
      go_wp2_with (first | ((with_reducible refine gate_dst (N := 4) rfl ?_); refine bx 4 #[.int .i64 0, .int .i64 0, .int .i64 0, .int .i64 0, .int .i64 0, .int .i64 0, .string (⟨#[]⟩ : ByteArray), .string (⟨#[]⟩ : ByteArray), .string (⟨#[]⟩ : ByteArray)] 32 ?_; intro gx hg w5 hbox hb; replace BX := ak (hbox); replace GX := ak (bz hg (lG HB)); replace HB := lB HB hb; replace hx103_0 := (hb.cell (World.block_lt_of_cell? _ _ hx103_0)).trans hx103_0; replace hx103_1 := (hb.cell (World.block_lt_of_cell? _ _ hx103_1)).trans hx103_1; replace hx103_2 := (hb.cell (World.block_lt_of_cell? _ _ hx103_2)).trans hx103_2; replace hx103_3 := (hb.cell (World.block_lt_of_cell? _ _ hx103_3)).trans hx103_3; replace hx103_4 := (hb.cell (World.block_lt_of_cell? _ _ hx103_4)).trans hx103_4; replace hx103_5 := (hb.cell (World.block_lt_of_cell? _ _ hx103_5)).trans hx103_5; replace hx103_6 := (hb.cell (World.block_lt_of_cell? _ _ hx103_6)).trans hx103_6; replace hx103_7 := (hb.cell (World.block_lt_of_cell? _ _ hx103_7)).trans hx103_7; replace hx103_8 := (hb.cell (World.block_lt_of_cell? _ _ hx103_8)).trans hx103_8; clear hb hbox hg; obtain ⟨hcz_0, hcz_1, hcz_2, hcz_3, hcz_4, hcz_5, hcz_6, hcz_7, hcz_8, hfz_0, hfz_1, hfz_2, hfz_3, hfz_4, hfz_5, hfz_6, hfz_7, hfz_8⟩ := bC9 BX; skip) | (go_at_call 63; refine (impl_in.calls _ _ _ true _ HI.out).mono ?_; rintro e w8 ⟨rfl, hd⟩; have hb := d0_below hd; replace HB := ak (below_step (lT HB (gC GX gN)) hb); replace BX := ak (blk_below (bW (r := #[.int .i64 y0, .int .i64 y1, .int .i64 y2, .int .i64 y3, .int .i64 y4, .int .i64 y5, .string y6, .string y7, .string y8]) BX) hb); clear hb hd; obtain ⟨hci_0, hci_1, hci_2, hci_3, hci_4, hci_5, hci_6, hci_7, hci_8, hfi_0, hfi_1, hfi_2, hfi_3, hfi_4, hfi_5, hfi_6, hfi_7, hfi_8⟩ := bC9 BX; skip) | (go_at_call 28; refine (impl_RecOk.calls k y1 y2 y3 y4 y5 y6 y7 y8 false _ AV.out).mono ?_; rintro e w9 ⟨rfl, hb⟩; replace HB := lB HB hb; replace BX := bB BX hb; clear hb; obtain ⟨hck_0, hck_1, hck_2, hck_3, hck_4, hck_5, hck_6, hck_7, hck_8, hfk_0, hfk_1, hfk_2, hfk_3, hfk_4, hfk_5, hfk_6, hfk_7, hfk_8⟩ := bC9 BX; skip))
      go_ret
      exact ⟨rfl, by exact lT HB (gC GX gN)⟩
     | true =>
      rw [if_pos rfl] at H
      obtain ⟨an, hy⟩ : ∃ an, (l0.take i).any (itBad ⟨y0, ⟨y1, y2, y3, y4, y5, y6, y7, y8⟩⟩) = an := ⟨_, rfl⟩
      rw [hy] at H
      have HY := ak hy
      clear hy
      cases an with
      | true =>
       have hr : false = r := by rw [if_pos rfl] at H; exact Option.some.inj H
       subst hr
       clear H
       go_wp2_with (first | ((with_reducible refine gate_dst (N := 4) rfl ?_); refine bx 4 #[.int .i64 0, .int .i64 0, .int .i64 0, .int .i64 0, .int .i64 0, .int .i64 0, .string (⟨#[]⟩ : ByteArray), .string (⟨#[]⟩ : ByteArray), .string (⟨#[]⟩ : ByteArray)] 32 ?_; intro gx hg w5 hbox hb; replace BX := ak (hbox); replace GX := ak (bz hg (lG HB)); replace HB := lB HB hb; replace hx103_0 := (hb.cell (World.block_lt_of_cell? _ _ hx103_0)).trans hx103_0; replace hx103_1 := (hb.cell (World.block_lt_of_cell? _ _ hx103_1)).trans hx103_1; replace hx103_2 := (hb.cell (World.block_lt_of_cell? _ _ hx103_2)).trans hx103_2; replace hx103_3 := (hb.cell (World.block_lt_of_cell? _ _ hx103_3)).trans hx103_3; replace hx103_4 := (hb.cell (World.block_lt_of_cell? _ _ hx103_4)).trans hx103_4; replace hx103_5 := (hb.cell (World.block_lt_of_cell? _ _ hx103_5)).trans hx103_5; replace hx103_6 := (hb.cell (World.block_lt_of_cell? _ _ hx103_6)).trans hx103_6; replace hx103_7 := (hb.cell (World.block_lt_of_cell? _ _ hx103_7)).trans hx103_7; replace hx103_8 := (hb.cell (World.block_lt_of_cell? _ _ hx103_8)).trans hx103_8; clear hb hbox hg; obtain ⟨hcz_0, hcz_1, hcz_2, hcz_3, hcz_4, hcz_5, hcz_6, hcz_7, hcz_8, hfz_0, hfz_1, hfz_2, hfz_3, hfz_4, hfz_5, hfz_6, hfz_7, hfz_8⟩ := bC9 BX; skip) | (go_at_call 63; refine (impl_in.calls _ _ _ true _ HI.out).mono ?_; rintro e w8 ⟨rfl, hd⟩; have hb := d0_below hd; replace HB := ak (below_step (lT HB (gC GX gN)) hb); replace BX := ak (blk_below (bW (r := #[.int .i64 y0, .int .i64 y1, .int .i64 y2, .int .i64 y3, .int .i64 y4, .int .i64 y5, .string y6, .string y7, .string y8]) BX) hb); clear hb hd; obtain ⟨hci_0, hci_1, hci_2, hci_3, hci_4, hci_5, hci_6, hci_7, hci_8, hfi_0, hfi_1, hfi_2, hfi_3, hfi_4, hfi_5, hfi_6, hfi_7, hfi_8⟩ := bC9 BX; skip) | (go_at_call 28; refine (impl_RecOk.calls k y1 y2 y3 y4 y5 y6 y7 y8 true _ AV.out).mono ?_; rintro e w9 ⟨rfl, hb⟩; replace HB := lB HB hb; replace BX := bB BX hb; clear hb; obtain ⟨hck_0, hck_1, hck_2, hck_3, hck_4, hck_5, hck_6, hck_7, hck_8, hfk_0, hfk_1, hfk_2, hfk_3, hfk_4, hfk_5, hfk_6, hfk_7, hfk_8⟩ := bC9 BX; skip) | (go_at_call 64; refine (cont_n x10.toNat #[.pointer (some ⟨gx, 0, none⟩)] (itBad ⟨y0, ⟨y1, y2, y3, y4, y5, y6, y7, y8⟩⟩) (some ad103) c0 (l0.take i) _ (by have := HL.out; have := HI2.out; omega) (Kd.C_below HT.out HB.out) (by have := HL.out; have := HC0.out; have := HI2.out; omega) (fun y _ W hW => clo_it gx ⟨y0, ⟨y1, y2, y3, y4, y5, y6, y7, y8⟩⟩ y W (blk_below BX.out hW))).mono ?_; rintro e w10 ⟨rfl, hb⟩; have hany := HY.out; replace HB := lB HB hb; clear hb))
       go_ret
       exact ⟨rfl, HB.out⟩
      | false =>
       have H2 : impl_ItemsOk.go k l0 k1 (i + 1) = some r := by rw [if_neg (by simp)] at H; exact H
       have HA := ak H2
       clear H H2
       go_wp2_with (first | ((with_reducible refine gate_dst (N := 4) rfl ?_); refine bx 4 #[.int .i64 0, .int .i64 0, .int .i64 0, .int .i64 0, .int .i64 0, .int .i64 0, .string (⟨#[]⟩ : ByteArray), .string (⟨#[]⟩ : ByteArray), .string (⟨#[]⟩ : ByteArray)] 32 ?_; intro gx hg w5 hbox hb; replace BX := ak (hbox); replace GX := ak (bz hg (lG HB)); replace HB := lB HB hb; replace hx103_0 := (hb.cell (World.block_lt_of_cell? _ _ hx103_0)).trans hx103_0; replace hx103_1 := (hb.cell (World.block_lt_of_cell? _ _ hx103_1)).trans hx103_1; replace hx103_2 := (hb.cell (World.block_lt_of_cell? _ _ hx103_2)).trans hx103_2; replace hx103_3 := (hb.cell (World.block_lt_of_cell? _ _ hx103_3)).trans hx103_3; replace hx103_4 := (hb.cell (World.block_lt_of_cell? _ _ hx103_4)).trans hx103_4; replace hx103_5 := (hb.cell (World.block_lt_of_cell? _ _ hx103_5)).trans hx103_5; replace hx103_6 := (hb.cell (World.block_lt_of_cell? _ _ hx103_6)).trans hx103_6; replace hx103_7 := (hb.cell (World.block_lt_of_cell? _ _ hx103_7)).trans hx103_7; replace hx103_8 := (hb.cell (World.block_lt_of_cell? _ _ hx103_8)).trans hx103_8; clear hb hbox hg; obtain ⟨hcz_0, hcz_1, hcz_2, hcz_3, hcz_4, hcz_5, hcz_6, hcz_7, hcz_8, hfz_0, hfz_1, hfz_2, hfz_3, hfz_4, hfz_5, hfz_6, hfz_7, hfz_8⟩ := bC9 BX; skip) | (go_at_call 63; refine (impl_in.calls _ _ _ true _ HI.out).mono ?_; rintro e w8 ⟨rfl, hd⟩; have hb := d0_below hd; replace HB := ak (below_step (lT HB (gC GX gN)) hb); replace BX := ak (blk_below (bW (r := #[.int .i64 y0, .int .i64 y1, .int .i64 y2, .int .i64 y3, .int .i64 y4, .int .i64 y5, .string y6, .string y7, .string y8]) BX) hb); clear hb hd; obtain ⟨hci_0, hci_1, hci_2, hci_3, hci_4, hci_5, hci_6, hci_7, hci_8, hfi_0, hfi_1, hfi_2, hfi_3, hfi_4, hfi_5, hfi_6, hfi_7, hfi_8⟩ := bC9 BX; skip) | (go_at_call 28; refine (impl_RecOk.calls k y1 y2 y3 y4 y5 y6 y7 y8 true _ AV.out).mono ?_; rintro e w9 ⟨rfl, hb⟩; replace HB := lB HB hb; replace BX := bB BX hb; clear hb; obtain ⟨hck_0, hck_1, hck_2, hck_3, hck_4, hck_5, hck_6, hck_7, hck_8, hfk_0, hfk_1, hfk_2, hfk_3, hfk_4, hfk_5, hfk_6, hfk_7, hfk_8⟩ := bC9 BX; skip) | (go_at_call 64; refine (cont_n x10.toNat #[.pointer (some ⟨gx, 0, none⟩)] (itBad ⟨y0, ⟨y1, y2, y3, y4, y5, y6, y7, y8⟩⟩) (some ad103) c0 (l0.take i) _ (by have := HL.out; have := HI2.out; omega) (Kd.C_below HT.out HB.out) (by have := HL.out; have := HC0.out; have := HI2.out; omega) (fun y _ W hW => clo_it gx ⟨y0, ⟨y1, y2, y3, y4, y5, y6, y7, y8⟩⟩ y W (blk_below BX.out hW))).mono ?_; rintro e w10 ⟨rfl, hb⟩; have hany := HY.out; replace HB := lB HB hb; clear hb))
       go_roundg k1
       case measure => omega
       case rel =>
        have e1 : wrap64 (x10 + 1) = x10 + 1 := by have := HI2.out; have := HM.out; unfold wrap64; omega
        exact ⟨x10 + 1, i + 1, by first | rfl | (rw [e1]) | (simp [e1]; done), ⟨by have := HI2.out; omega, by have := HI2.out; omega, HA.out⟩, HB⟩
    ·rw [if_neg c6] at H
     rw [decide_eq_false c6] at hi
     have HI := ak hi
     have hr : false = r := Option.some.inj H
     subst hr
     clear hi c6 H
     go_wp2_with (first | ((with_reducible refine gate_dst (N := 4) rfl ?_); refine bx 4 #[.int .i64 0, .int .i64 0, .int .i64 0, .int .i64 0, .int .i64 0, .int .i64 0, .string (⟨#[]⟩ : ByteArray), .string (⟨#[]⟩ : ByteArray), .string (⟨#[]⟩ : ByteArray)] 32 ?_; intro gx hg w5 hbox hb; replace BX := ak (hbox); replace GX := ak (bz hg (lG HB)); replace HB := lB HB hb; replace hx103_0 := (hb.cell (World.block_lt_of_cell? _ _ hx103_0)).trans hx103_0; replace hx103_1 := (hb.cell (World.block_lt_of_cell? _ _ hx103_1)).trans hx103_1; replace hx103_2 := (hb.cell (World.block_lt_of_cell? _ _ hx103_2)).trans hx103_2; replace hx103_3 := (hb.cell (World.block_lt_of_cell? _ _ hx103_3)).trans hx103_3; replace hx103_4 := (hb.cell (World.block_lt_of_cell? _ _ hx103_4)).trans hx103_4; replace hx103_5 := (hb.cell (World.block_lt_of_cell? _ _ hx103_5)).trans hx103_5; replace hx103_6 := (hb.cell (World.block_lt_of_cell? _ _ hx103_6)).trans hx103_6; replace hx103_7 := (hb.cell (World.block_lt_of_cell? _ _ hx103_7)).trans hx103_7; replace hx103_8 := (hb.cell (World.block_lt_of_cell? _ _ hx103_8)).trans hx103_8; clear hb hbox hg; obtain ⟨hcz_0, hcz_1, hcz_2, hcz_3, hcz_4, hcz_5, hcz_6, hcz_7, hcz_8, hfz_0, hfz_1, hfz_2, hfz_3, hfz_4, hfz_5, hfz_6, hfz_7, hfz_8⟩ := bC9 BX; skip) | (go_at_call 63; refine (impl_in.calls _ _ _ false _ HI.out).mono ?_; rintro e w8 ⟨rfl, hd⟩; have hb := d0_below hd; replace HB := ak (below_step (lT HB (gC GX gN)) hb); replace BX := ak (blk_below (bW (r := #[.int .i64 y0, .int .i64 y1, .int .i64 y2, .int .i64 y3, .int .i64 y4, .int .i64 y5, .string y6, .string y7, .string y8]) BX) hb); clear hb hd; obtain ⟨hci_0, hci_1, hci_2, hci_3, hci_4, hci_5, hci_6, hci_7, hci_8, hfi_0, hfi_1, hfi_2, hfi_3, hfi_4, hfi_5, hfi_6, hfi_7, hfi_8⟩ := bC9 BX; skip))
     go_ret
     exact ⟨rfl, by exact lT HB (gC GX gN)⟩


/-! ### laws_eqRec: function 12 -/
def laws_eqRec.f (a0_0 : Int) (a0_1 : Int) (a0_2 : Int) (a0_3 : Int) (a0_4 : Int) (a0_5 : ByteArray) (a0_6 : ByteArray) (a0_7 : ByteArray) (a1_0 : Int) (a1_1 : Int) (a1_2 : Int) (a1_3 : Int) (a1_4 : Int) (a1_5 : ByteArray) (a1_6 : ByteArray) (a1_7 : ByteArray) : Option (Bool) := if a0_0 = a1_0 then (if a0_1 = a1_1 then (if a0_2 = a1_2 then (if a0_3 = a1_3 then (if a0_4 = a1_4 then (if a0_5.toList = a1_5.toList then (if a0_6.toList = a1_6.toList then (if a0_7.toList = a1_7.toList then (some true) else (some false)) else (some false)) else (some false)) else (some false)) else (some false)) else (some false)) else (some false)) else (some false)
set_option maxHeartbeats 8000000 in
set_option maxRecDepth 100000 in
theorem laws_eqRec.calls (a0_0 : Int) (a0_1 : Int) (a0_2 : Int) (a0_3 : Int) (a0_4 : Int) (a0_5 : ByteArray) (a0_6 : ByteArray) (a0_7 : ByteArray) (a1_0 : Int) (a1_1 : Int) (a1_2 : Int) (a1_3 : Int) (a1_4 : Int) (a1_5 : ByteArray) (a1_6 : ByteArray) (a1_7 : ByteArray) (r : Bool) (w : World) (h : laws_eqRec.f a0_0 a0_1 a0_2 a0_3 a0_4 a0_5 a0_6 a0_7 a1_0 a1_1 a1_2 a1_3 a1_4 a1_5 a1_6 a1_7 = some r) :
  Calls Try.prog 12 #[.agg #[.int .i64 a0_0, .int .i64 a0_1, .int .i64 a0_2, .int .i64 a0_3, .int .i64 a0_4, .string a0_5, .string a0_6, .string a0_7], .agg #[.int .i64 a1_0, .int .i64 a1_1, .int .i64 a1_2, .int .i64 a1_3, .int .i64 a1_4, .string a1_5, .string a1_6, .string a1_7]] w fun e w' => e = .returned (.bool r) ∧ Below w.heap.size w w' := by
 have hu23 := Try.underlying23
 have HB := ak (Below.refl w.heap.size w)
 have H : (if a0_0 = a1_0 then (if a0_1 = a1_1 then (if a0_2 = a1_2 then (if a0_3 = a1_3 then (if a0_4 = a1_4 then (if a0_5.toList = a1_5.toList then (if a0_6.toList = a1_6.toList then (if a0_7.toList = a1_7.toList then (some true) else (some false)) else (some false)) else (some false)) else (some false)) else (some false)) else (some false)) else (some false)) else (some false)) = some r := h
 clear h
 by_cases c3 : a0_0 = a1_0
 ·rw [if_pos c3] at H
  have c3b0 : (a0_0 == a1_0) = true := beq_iff_eq.mpr c3
  have c3b1 : (a0_0 != a1_0) = false := bne_eq_false_iff_eq.mpr c3
  clear c3
  by_cases c4 : a0_1 = a1_1
  ·rw [if_pos c4] at H
   have c4b0 : (a0_1 == a1_1) = true := beq_iff_eq.mpr c4
   have c4b1 : (a0_1 != a1_1) = false := bne_eq_false_iff_eq.mpr c4
   clear c4
   by_cases c5 : a0_2 = a1_2
   ·rw [if_pos c5] at H
    have c5b0 : (a0_2 == a1_2) = true := beq_iff_eq.mpr c5
    have c5b1 : (a0_2 != a1_2) = false := bne_eq_false_iff_eq.mpr c5
    clear c5
    by_cases c6 : a0_3 = a1_3
    ·rw [if_pos c6] at H
     have c6b0 : (a0_3 == a1_3) = true := beq_iff_eq.mpr c6
     have c6b1 : (a0_3 != a1_3) = false := bne_eq_false_iff_eq.mpr c6
     clear c6
     by_cases c7 : a0_4 = a1_4
     ·rw [if_pos c7] at H
      have c7b0 : (a0_4 == a1_4) = true := beq_iff_eq.mpr c7
      have c7b1 : (a0_4 != a1_4) = false := bne_eq_false_iff_eq.mpr c7
      clear c7
      by_cases c8 : a0_5.toList = a1_5.toList
      ·rw [if_pos c8] at H
       have c8b0 : (a0_5.toList == a1_5.toList) = true := beq_iff_eq.mpr c8
       have c8b1 : (a0_5.toList != a1_5.toList) = false := bne_eq_false_iff_eq.mpr c8
       clear c8
       by_cases c9 : a0_6.toList = a1_6.toList
       ·rw [if_pos c9] at H
        have c9b0 : (a0_6.toList == a1_6.toList) = true := beq_iff_eq.mpr c9
        have c9b1 : (a0_6.toList != a1_6.toList) = false := bne_eq_false_iff_eq.mpr c9
        clear c9
        by_cases c10 : a0_7.toList = a1_7.toList
        ·rw [if_pos c10] at H
         have c10b0 : (a0_7.toList == a1_7.toList) = true := beq_iff_eq.mpr c10
         have c10b1 : (a0_7.toList != a1_7.toList) = false := bne_eq_false_iff_eq.mpr c10
         clear c10
         obtain rfl := Option.some.inj H
         go_enter Try.func12, Try.ntmps12
         go_wp2_with (first | ((with_reducible refine gate_dst (N := 2) rfl ?_); refine bx 2 #[.int .i64 a0_0, .int .i64 a0_1, .int .i64 a0_2, .int .i64 a0_3, .int .i64 a0_4, .string a0_5, .string a0_6, .string a0_7] 23 ?_; intro gb174 hg w11 hbox hb; replace BK174 := ak (hbox); replace GW174 := ak (bz hg (lG HB)); replace GE174 := ak (bz hg (lG HB)); replace HB := lB HB hb; clear hb hbox hg) | ((with_reducible refine gate_dst (N := 3) rfl ?_); refine bx 3 #[.int .i64 a1_0, .int .i64 a1_1, .int .i64 a1_2, .int .i64 a1_3, .int .i64 a1_4, .string a1_5, .string a1_6, .string a1_7] 23 ?_; intro gb175 hg w12 hbox hb; replace BK175 := ak (hbox); replace GW175 := ak (bz hg (lT HB (gC GE174 gN))); replace GE175 := ak (bz hg (lT HB (gC GE174 gN))); replace HB := ak (below_step (lT HB (gC GE174 gN)) hb); replace NB174_175 := ak (nl hg (bG BK174)); replace NB175_174 := ak (ng hg (bG BK174)); replace BK174 := bB BK174 hb; clear hb hbox hg; have hnb13 := NB174_175.out; have hnc13 := NB175_174.out; obtain ⟨hcz14_0, hcz14_1, hcz14_2, hcz14_3, hcz14_4, hcz14_5, hcz14_6, hcz14_7, hfz14_0, hfz14_1, hfz14_2, hfz14_3, hfz14_4, hfz14_5, hfz14_6, hfz14_7⟩ := bC8 BK174; obtain ⟨hcz15_0, hcz15_1, hcz15_2, hcz15_3, hcz15_4, hcz15_5, hcz15_6, hcz15_7, hfz15_0, hfz15_1, hfz15_2, hfz15_3, hfz15_4, hfz15_5, hfz15_6, hfz15_7⟩ := bC8 BK175))
         go_ret
         exact ⟨ew, by exact lT HB (gC GE174 (gC GE175 gN))⟩
        ·rw [if_neg c10] at H
         have c10b0 : (a0_7.toList == a1_7.toList) = false := beq_eq_false_iff_ne.mpr c10
         have c10b1 : (a0_7.toList != a1_7.toList) = true := bne_iff_ne.mpr c10
         obtain rfl := Option.some.inj H
         go_enter Try.func12, Try.ntmps12
         go_wp2_with (first | ((with_reducible refine gate_dst (N := 2) rfl ?_); refine bx 2 #[.int .i64 a0_0, .int .i64 a0_1, .int .i64 a0_2, .int .i64 a0_3, .int .i64 a0_4, .string a0_5, .string a0_6, .string a0_7] 23 ?_; intro gb174 hg w16 hbox hb; replace BK174 := ak (hbox); replace GW174 := ak (bz hg (lG HB)); replace GE174 := ak (bz hg (lG HB)); replace HB := lB HB hb; clear hb hbox hg) | ((with_reducible refine gate_dst (N := 3) rfl ?_); refine bx 3 #[.int .i64 a1_0, .int .i64 a1_1, .int .i64 a1_2, .int .i64 a1_3, .int .i64 a1_4, .string a1_5, .string a1_6, .string a1_7] 23 ?_; intro gb175 hg w17 hbox hb; replace BK175 := ak (hbox); replace GW175 := ak (bz hg (lT HB (gC GE174 gN))); replace GE175 := ak (bz hg (lT HB (gC GE174 gN))); replace HB := ak (below_step (lT HB (gC GE174 gN)) hb); replace NB174_175 := ak (nl hg (bG BK174)); replace NB175_174 := ak (ng hg (bG BK174)); replace BK174 := bB BK174 hb; clear hb hbox hg; have hnb18 := NB174_175.out; have hnc18 := NB175_174.out; obtain ⟨hcz19_0, hcz19_1, hcz19_2, hcz19_3, hcz19_4, hcz19_5, hcz19_6, hcz19_7, hfz19_0, hfz19_1, hfz19_2, hfz19_3, hfz19_4, hfz19_5, hfz19_6, hfz19_7⟩ := bC8 BK174; obtain ⟨hcz20_0, hcz20_1, hcz20_2, hcz20_3, hcz20_4, hcz20_5, hcz20_6, hcz20_7, hfz20_0, hfz20_1, hfz20_2, hfz20_3, hfz20_4, hfz20_5, hfz20_6, hfz20_7⟩ := bC8 BK175))
         go_ret
         exact ⟨ew, by exact lT HB (gC GE174 (gC GE175 gN))⟩
       ·rw [if_neg c9] at H
        have c9b0 : (a0_6.toList == a1_6.toList) = false := beq_eq_false_iff_ne.mpr c9
        have c9b1 : (a0_6.toList != a1_6.toList) = true := bne_iff_ne.mpr c9
        obtain rfl := Option.some.inj H
        go_enter Try.func12, Try.ntmps12
        go_wp2_with (first | ((with_reducible refine gate_dst (N := 2) rfl ?_); refine bx 2 #[.int .i64 a0_0, .int .i64 a0_1, .int .i64 a0_2, .int .i64 a0_3, .int .i64 a0_4, .string a0_5, .string a0_6, .string a0_7] 23 ?_; intro gb174 hg w21 hbox hb; replace BK174 := ak (hbox); replace GW174 := ak (bz hg (lG HB)); replace GE174 := ak (bz hg (lG HB)); replace HB := lB HB hb; clear hb hbox hg) | ((with_reducible refine gate_dst (N := 3) rfl ?_); refine bx 3 #[.int .i64 a1_0, .int .i64 a1_1, .int .i64 a1_2, .int .i64 a1_3, .int .i64 a1_4, .string a1_5, .string a1_6, .string a1_7] 23 ?_; intro gb175 hg w22 hbox hb; replace BK175 := ak (hbox); replace GW175 := ak (bz hg (lT HB (gC GE174 gN))); replace GE175 := ak (bz hg (lT HB (gC GE174 gN))); replace HB := ak (below_step (lT HB (gC GE174 gN)) hb); replace NB174_175 := ak (nl hg (bG BK174)); replace NB175_174 := ak (ng hg (bG BK174)); replace BK174 := bB BK174 hb; clear hb hbox hg; have hnb23 := NB174_175.out; have hnc23 := NB175_174.out; obtain ⟨hcz24_0, hcz24_1, hcz24_2, hcz24_3, hcz24_4, hcz24_5, hcz24_6, hcz24_7, hfz24_0, hfz24_1, hfz24_2, hfz24_3, hfz24_4, hfz24_5, hfz24_6, hfz24_7⟩ := bC8 BK174; obtain ⟨hcz25_0, hcz25_1, hcz25_2, hcz25_3, hcz25_4, hcz25_5, hcz25_6, hcz25_7, hfz25_0, hfz25_1, hfz25_2, hfz25_3, hfz25_4, hfz25_5, hfz25_6, hfz25_7⟩ := bC8 BK175))
        go_ret
        exact ⟨ew, by exact lT HB (gC GE174 (gC GE175 gN))⟩
      ·rw [if_neg c8] at H
       have c8b0 : (a0_5.toList == a1_5.toList) = false := beq_eq_false_iff_ne.mpr c8
       have c8b1 : (a0_5.toList != a1_5.toList) = true := bne_iff_ne.mpr c8
       obtain rfl := Option.some.inj H
       go_enter Try.func12, Try.ntmps12
       go_wp2_with (first | ((with_reducible refine gate_dst (N := 2) rfl ?_); refine bx 2 #[.int .i64 a0_0, .int .i64 a0_1, .int .i64 a0_2, .int .i64 a0_3, .int .i64 a0_4, .string a0_5, .string a0_6, .string a0_7] 23 ?_; intro gb174 hg w26 hbox hb; replace BK174 := ak (hbox); replace GW174 := ak (bz hg (lG HB)); replace GE174 := ak (bz hg (lG HB)); replace HB := lB HB hb; clear hb hbox hg) | ((with_reducible refine gate_dst (N := 3) rfl ?_); refine bx 3 #[.int .i64 a1_0, .int .i64 a1_1, .int .i64 a1_2, .int .i64 a1_3, .int .i64 a1_4, .string a1_5, .string a1_6, .string a1_7] 23 ?_; intro gb175 hg w27 hbox hb; replace BK175 := ak (hbox); replace GW175 := ak (bz hg (lT HB (gC GE174 gN))); replace GE175 := ak (bz hg (lT HB (gC GE174 gN))); replace HB := ak (below_step (lT HB (gC GE174 gN)) hb); replace NB174_175 := ak (nl hg (bG BK174)); replace NB175_174 := ak (ng hg (bG BK174)); replace BK174 := bB BK174 hb; clear hb hbox hg; have hnb28 := NB174_175.out; have hnc28 := NB175_174.out; obtain ⟨hcz29_0, hcz29_1, hcz29_2, hcz29_3, hcz29_4, hcz29_5, hcz29_6, hcz29_7, hfz29_0, hfz29_1, hfz29_2, hfz29_3, hfz29_4, hfz29_5, hfz29_6, hfz29_7⟩ := bC8 BK174; obtain ⟨hcz30_0, hcz30_1, hcz30_2, hcz30_3, hcz30_4, hcz30_5, hcz30_6, hcz30_7, hfz30_0, hfz30_1, hfz30_2, hfz30_3, hfz30_4, hfz30_5, hfz30_6, hfz30_7⟩ := bC8 BK175))
       go_ret
       exact ⟨ew, by exact lT HB (gC GE174 (gC GE175 gN))⟩
     ·rw [if_neg c7] at H
      have c7b0 : (a0_4 == a1_4) = false := beq_eq_false_iff_ne.mpr c7
      have c7b1 : (a0_4 != a1_4) = true := bne_iff_ne.mpr c7
      obtain rfl := Option.some.inj H
      go_enter Try.func12, Try.ntmps12
      go_wp2_with (first | ((with_reducible refine gate_dst (N := 2) rfl ?_); refine bx 2 #[.int .i64 a0_0, .int .i64 a0_1, .int .i64 a0_2, .int .i64 a0_3, .int .i64 a0_4, .string a0_5, .string a0_6, .string a0_7] 23 ?_; intro gb174 hg w31 hbox hb; replace BK174 := ak (hbox); replace GW174 := ak (bz hg (lG HB)); replace GE174 := ak (bz hg (lG HB)); replace HB := lB HB hb; clear hb hbox hg) | ((with_reducible refine gate_dst (N := 3) rfl ?_); refine bx 3 #[.int .i64 a1_0, .int .i64 a1_1, .int .i64 a1_2, .int .i64 a1_3, .int .i64 a1_4, .string a1_5, .string a1_6, .string a1_7] 23 ?_; intro gb175 hg w32 hbox hb; replace BK175 := ak (hbox); replace GW175 := ak (bz hg (lT HB (gC GE174 gN))); replace GE175 := ak (bz hg (lT HB (gC GE174 gN))); replace HB := ak (below_step (lT HB (gC GE174 gN)) hb); replace NB174_175 := ak (nl hg (bG BK174)); replace NB175_174 := ak (ng hg (bG BK174)); replace BK174 := bB BK174 hb; clear hb hbox hg; have hnb33 := NB174_175.out; have hnc33 := NB175_174.out; obtain ⟨hcz34_0, hcz34_1, hcz34_2, hcz34_3, hcz34_4, hcz34_5, hcz34_6, hcz34_7, hfz34_0, hfz34_1, hfz34_2, hfz34_3, hfz34_4, hfz34_5, hfz34_6, hfz34_7⟩ := bC8 BK174; obtain ⟨hcz35_0, hcz35_1, hcz35_2, hcz35_3, hcz35_4, hcz35_5, hcz35_6, hcz35_7, hfz35_0, hfz35_1, hfz35_2, hfz35_3, hfz35_4, hfz35_5, hfz35_6, hfz35_7⟩ := bC8 BK175))
      go_ret
      exact ⟨ew, by exact lT HB (gC GE174 (gC GE175 gN))⟩
    ·rw [if_neg c6] at H
     have c6b0 : (a0_3 == a1_3) = false := beq_eq_false_iff_ne.mpr c6
     have c6b1 : (a0_3 != a1_3) = true := bne_iff_ne.mpr c6
     obtain rfl := Option.some.inj H
     go_enter Try.func12, Try.ntmps12
     go_wp2_with (first | ((with_reducible refine gate_dst (N := 2) rfl ?_); refine bx 2 #[.int .i64 a0_0, .int .i64 a0_1, .int .i64 a0_2, .int .i64 a0_3, .int .i64 a0_4, .string a0_5, .string a0_6, .string a0_7] 23 ?_; intro gb174 hg w36 hbox hb; replace BK174 := ak (hbox); replace GW174 := ak (bz hg (lG HB)); replace GE174 := ak (bz hg (lG HB)); replace HB := lB HB hb; clear hb hbox hg) | ((with_reducible refine gate_dst (N := 3) rfl ?_); refine bx 3 #[.int .i64 a1_0, .int .i64 a1_1, .int .i64 a1_2, .int .i64 a1_3, .int .i64 a1_4, .string a1_5, .string a1_6, .string a1_7] 23 ?_; intro gb175 hg w37 hbox hb; replace BK175 := ak (hbox); replace GW175 := ak (bz hg (lT HB (gC GE174 gN))); replace GE175 := ak (bz hg (lT HB (gC GE174 gN))); replace HB := ak (below_step (lT HB (gC GE174 gN)) hb); replace NB174_175 := ak (nl hg (bG BK174)); replace NB175_174 := ak (ng hg (bG BK174)); replace BK174 := bB BK174 hb; clear hb hbox hg; have hnb38 := NB174_175.out; have hnc38 := NB175_174.out; obtain ⟨hcz39_0, hcz39_1, hcz39_2, hcz39_3, hcz39_4, hcz39_5, hcz39_6, hcz39_7, hfz39_0, hfz39_1, hfz39_2, hfz39_3, hfz39_4, hfz39_5, hfz39_6, hfz39_7⟩ := bC8 BK174; obtain ⟨hcz40_0, hcz40_1, hcz40_2, hcz40_3, hcz40_4, hcz40_5, hcz40_6, hcz40_7, hfz40_0, hfz40_1, hfz40_2, hfz40_3, hfz40_4, hfz40_5, hfz40_6, hfz40_7⟩ := bC8 BK175))
     go_ret
     exact ⟨ew, by exact lT HB (gC GE174 (gC GE175 gN))⟩
   ·rw [if_neg c5] at H
    have c5b0 : (a0_2 == a1_2) = false := beq_eq_false_iff_ne.mpr c5
    have c5b1 : (a0_2 != a1_2) = true := bne_iff_ne.mpr c5
    obtain rfl := Option.some.inj H
    go_enter Try.func12, Try.ntmps12
    go_wp2_with (first | ((with_reducible refine gate_dst (N := 2) rfl ?_); refine bx 2 #[.int .i64 a0_0, .int .i64 a0_1, .int .i64 a0_2, .int .i64 a0_3, .int .i64 a0_4, .string a0_5, .string a0_6, .string a0_7] 23 ?_; intro gb174 hg w41 hbox hb; replace BK174 := ak (hbox); replace GW174 := ak (bz hg (lG HB)); replace GE174 := ak (bz hg (lG HB)); replace HB := lB HB hb; clear hb hbox hg) | ((with_reducible refine gate_dst (N := 3) rfl ?_); refine bx 3 #[.int .i64 a1_0, .int .i64 a1_1, .int .i64 a1_2, .int .i64 a1_3, .int .i64 a1_4, .string a1_5, .string a1_6, .string a1_7] 23 ?_; intro gb175 hg w42 hbox hb; replace BK175 := ak (hbox); replace GW175 := ak (bz hg (lT HB (gC GE174 gN))); replace GE175 := ak (bz hg (lT HB (gC GE174 gN))); replace HB := ak (below_step (lT HB (gC GE174 gN)) hb); replace NB174_175 := ak (nl hg (bG BK174)); replace NB175_174 := ak (ng hg (bG BK174)); replace BK174 := bB BK174 hb; clear hb hbox hg; have hnb43 := NB174_175.out; have hnc43 := NB175_174.out; obtain ⟨hcz44_0, hcz44_1, hcz44_2, hcz44_3, hcz44_4, hcz44_5, hcz44_6, hcz44_7, hfz44_0, hfz44_1, hfz44_2, hfz44_3, hfz44_4, hfz44_5, hfz44_6, hfz44_7⟩ := bC8 BK174; obtain ⟨hcz45_0, hcz45_1, hcz45_2, hcz45_3, hcz45_4, hcz45_5, hcz45_6, hcz45_7, hfz45_0, hfz45_1, hfz45_2, hfz45_3, hfz45_4, hfz45_5, hfz45_6, hfz45_7⟩ := bC8 BK175))
    go_ret
    exact ⟨ew, by exact lT HB (gC GE174 (gC GE175 gN))⟩
  ·rw [if_neg c4] at H
   have c4b0 : (a0_1 == a1_1) = false := beq_eq_false_iff_ne.mpr c4
   have c4b1 : (a0_1 != a1_1) = true := bne_iff_ne.mpr c4
   obtain rfl := Option.some.inj H
   go_enter Try.func12, Try.ntmps12
   go_wp2_with (first | ((with_reducible refine gate_dst (N := 2) rfl ?_); refine bx 2 #[.int .i64 a0_0, .int .i64 a0_1, .int .i64 a0_2, .int .i64 a0_3, .int .i64 a0_4, .string a0_5, .string a0_6, .string a0_7] 23 ?_; intro gb174 hg w46 hbox hb; replace BK174 := ak (hbox); replace GW174 := ak (bz hg (lG HB)); replace GE174 := ak (bz hg (lG HB)); replace HB := lB HB hb; clear hb hbox hg) | ((with_reducible refine gate_dst (N := 3) rfl ?_); refine bx 3 #[.int .i64 a1_0, .int .i64 a1_1, .int .i64 a1_2, .int .i64 a1_3, .int .i64 a1_4, .string a1_5, .string a1_6, .string a1_7] 23 ?_; intro gb175 hg w47 hbox hb; replace BK175 := ak (hbox); replace GW175 := ak (bz hg (lT HB (gC GE174 gN))); replace GE175 := ak (bz hg (lT HB (gC GE174 gN))); replace HB := ak (below_step (lT HB (gC GE174 gN)) hb); replace NB174_175 := ak (nl hg (bG BK174)); replace NB175_174 := ak (ng hg (bG BK174)); replace BK174 := bB BK174 hb; clear hb hbox hg; have hnb48 := NB174_175.out; have hnc48 := NB175_174.out; obtain ⟨hcz49_0, hcz49_1, hcz49_2, hcz49_3, hcz49_4, hcz49_5, hcz49_6, hcz49_7, hfz49_0, hfz49_1, hfz49_2, hfz49_3, hfz49_4, hfz49_5, hfz49_6, hfz49_7⟩ := bC8 BK174; obtain ⟨hcz50_0, hcz50_1, hcz50_2, hcz50_3, hcz50_4, hcz50_5, hcz50_6, hcz50_7, hfz50_0, hfz50_1, hfz50_2, hfz50_3, hfz50_4, hfz50_5, hfz50_6, hfz50_7⟩ := bC8 BK175))
   go_ret
   exact ⟨ew, by exact lT HB (gC GE174 (gC GE175 gN))⟩
 ·rw [if_neg c3] at H
  have c3b0 : (a0_0 == a1_0) = false := beq_eq_false_iff_ne.mpr c3
  have c3b1 : (a0_0 != a1_0) = true := bne_iff_ne.mpr c3
  obtain rfl := Option.some.inj H
  go_enter Try.func12, Try.ntmps12
  go_wp2_with (first | ((with_reducible refine gate_dst (N := 2) rfl ?_); refine bx 2 #[.int .i64 a0_0, .int .i64 a0_1, .int .i64 a0_2, .int .i64 a0_3, .int .i64 a0_4, .string a0_5, .string a0_6, .string a0_7] 23 ?_; intro gb174 hg w51 hbox hb; replace BK174 := ak (hbox); replace GW174 := ak (bz hg (lG HB)); replace GE174 := ak (bz hg (lG HB)); replace HB := lB HB hb; clear hb hbox hg) | ((with_reducible refine gate_dst (N := 3) rfl ?_); refine bx 3 #[.int .i64 a1_0, .int .i64 a1_1, .int .i64 a1_2, .int .i64 a1_3, .int .i64 a1_4, .string a1_5, .string a1_6, .string a1_7] 23 ?_; intro gb175 hg w52 hbox hb; replace BK175 := ak (hbox); replace GW175 := ak (bz hg (lT HB (gC GE174 gN))); replace GE175 := ak (bz hg (lT HB (gC GE174 gN))); replace HB := ak (below_step (lT HB (gC GE174 gN)) hb); replace NB174_175 := ak (nl hg (bG BK174)); replace NB175_174 := ak (ng hg (bG BK174)); replace BK174 := bB BK174 hb; clear hb hbox hg; have hnb53 := NB174_175.out; have hnc53 := NB175_174.out; obtain ⟨hcz54_0, hcz54_1, hcz54_2, hcz54_3, hcz54_4, hcz54_5, hcz54_6, hcz54_7, hfz54_0, hfz54_1, hfz54_2, hfz54_3, hfz54_4, hfz54_5, hfz54_6, hfz54_7⟩ := bC8 BK174; obtain ⟨hcz55_0, hcz55_1, hcz55_2, hcz55_3, hcz55_4, hcz55_5, hcz55_6, hcz55_7, hfz55_0, hfz55_1, hfz55_2, hfz55_3, hfz55_4, hfz55_5, hfz55_6, hfz55_7⟩ := bC8 BK175))
  go_ret
  exact ⟨ew, by exact lT HB (gC GE174 (gC GE175 gN))⟩

/-! ### laws_eqItem: function 17 -/
def laws_eqItem.f (a0_0 : Int) (a0_1 : Int) (a0_2 : Int) (a0_3 : Int) (a0_4 : Int) (a0_5 : Int) (a0_6 : ByteArray) (a0_7 : ByteArray) (a0_8 : ByteArray) (a1_0 : Int) (a1_1 : Int) (a1_2 : Int) (a1_3 : Int) (a1_4 : Int) (a1_5 : Int) (a1_6 : ByteArray) (a1_7 : ByteArray) (a1_8 : ByteArray) : Option (Bool) := if a0_0 = a1_0 then ((laws_eqRec.f a0_1 a0_2 a0_3 a0_4 a0_5 a0_6 a0_7 a0_8 a1_1 a1_2 a1_3 a1_4 a1_5 a1_6 a1_7 a1_8).bind fun t178 => (if t178 = true then (some true) else (some false))) else (some false)
set_option maxHeartbeats 8000000 in
set_option maxRecDepth 100000 in
theorem laws_eqItem.calls (a0_0 : Int) (a0_1 : Int) (a0_2 : Int) (a0_3 : Int) (a0_4 : Int) (a0_5 : Int) (a0_6 : ByteArray) (a0_7 : ByteArray) (a0_8 : ByteArray) (a1_0 : Int) (a1_1 : Int) (a1_2 : Int) (a1_3 : Int) (a1_4 : Int) (a1_5 : Int) (a1_6 : ByteArray) (a1_7 : ByteArray) (a1_8 : ByteArray) (r : Bool) (w : World) (h : laws_eqItem.f a0_0 a0_1 a0_2 a0_3 a0_4 a0_5 a0_6 a0_7 a0_8 a1_0 a1_1 a1_2 a1_3 a1_4 a1_5 a1_6 a1_7 a1_8 = some r) :
  Calls Try.prog 17 #[.agg #[.int .i64 a0_0, .int .i64 a0_1, .int .i64 a0_2, .int .i64 a0_3, .int .i64 a0_4, .int .i64 a0_5, .string a0_6, .string a0_7, .string a0_8], .agg #[.int .i64 a1_0, .int .i64 a1_1, .int .i64 a1_2, .int .i64 a1_3, .int .i64 a1_4, .int .i64 a1_5, .string a1_6, .string a1_7, .string a1_8]] w fun e w' => e = .returned (.bool r) ∧ Below w.heap.size w w' := by
 have hu32 := Try.underlying32
 have hu23 := Try.underlying23
 have HB := ak (Below.refl w.heap.size w)
 have H : (if a0_0 = a1_0 then ((laws_eqRec.f a0_1 a0_2 a0_3 a0_4 a0_5 a0_6 a0_7 a0_8 a1_1 a1_2 a1_3 a1_4 a1_5 a1_6 a1_7 a1_8).bind fun t178 => (if t178 = true then (some true) else (some false))) else (some false)) = some r := h
 clear h
 by_cases c3 : a0_0 = a1_0
 ·rw [if_pos c3] at H
  have c3b0 : (a0_0 == a1_0) = true := beq_iff_eq.mpr c3
  have c3b1 : (a0_0 != a1_0) = false := bne_eq_false_iff_eq.mpr c3
  clear c3
  replace H := Option.bind_eq_some_iff.mp H
  obtain ⟨t178, A40, H⟩ := H
  replace H : (if t178 = true then (some true) else (some false)) = some r := H
  have A4 := Aside0.mk A40
  clear A40
  by_cases c5 : t178 = true
  ·subst c5
   have H1 : (some true) = some r := by rw [if_pos rfl] at H; exact H
   clear H
   have H := H1
   clear H1
   obtain rfl := Option.some.inj H
   go_enter Try.func17, Try.ntmps17
   go_wp2_with (first | ((with_reducible refine gate_dst (N := 2) rfl ?_); refine bx 2 #[.int .i64 a0_0, .int .i64 a0_1, .int .i64 a0_2, .int .i64 a0_3, .int .i64 a0_4, .int .i64 a0_5, .string a0_6, .string a0_7, .string a0_8] 32 ?_; intro gb176 hg w6 hbox hb; replace BK176 := ak (hbox); replace GW176 := ak (bz hg (lG HB)); replace GE176 := ak (bz hg (lG HB)); replace HB := lB HB hb; clear hb hbox hg) | ((with_reducible refine gate_dst (N := 3) rfl ?_); refine bx 3 #[.int .i64 a1_0, .int .i64 a1_1, .int .i64 a1_2, .int .i64 a1_3, .int .i64 a1_4, .int .i64 a1_5, .string a1_6, .string a1_7, .string a1_8] 32 ?_; intro gb177 hg w7 hbox hb; replace BK177 := ak (hbox); replace GW177 := ak (bz hg (lT HB (gC GE176 gN))); replace GE177 := ak (bz hg (lT HB (gC GE176 gN))); replace HB := ak (below_step (lT HB (gC GE176 gN)) hb); replace NB176_177 := ak (nl hg (bG BK176)); replace NB177_176 := ak (ng hg (bG BK176)); replace BK176 := bB BK176 hb; clear hb hbox hg; have hnb8 := NB176_177.out; have hnc8 := NB177_176.out; obtain ⟨hcz9_0, hcz9_1, hcz9_2, hcz9_3, hcz9_4, hcz9_5, hcz9_6, hcz9_7, hcz9_8, hfz9_0, hfz9_1, hfz9_2, hfz9_3, hfz9_4, hfz9_5, hfz9_6, hfz9_7, hfz9_8⟩ := bC9 BK176; obtain ⟨hcz10_0, hcz10_1, hcz10_2, hcz10_3, hcz10_4, hcz10_5, hcz10_6, hcz10_7, hcz10_8, hfz10_0, hfz10_1, hfz10_2, hfz10_3, hfz10_4, hfz10_5, hfz10_6, hfz10_7, hfz10_8⟩ := bC9 BK177) | ((with_reducible refine gate_callee (f := 12) rfl ?_); refine gl (some 14) Try.func12 #[.agg #[.int .i64 a0_1, .int .i64 a0_2, .int .i64 a0_3, .int .i64 a0_4, .int .i64 a0_5, .string a0_6, .string a0_7, .string a0_8], .agg #[.int .i64 a1_1, .int .i64 a1_2, .int .i64 a1_3, .int .i64 a1_4, .int .i64 a1_5, .string a1_6, .string a1_7, .string a1_8]] ?_; (with_reducible refine (laws_eqRec.calls a0_1 a0_2 a0_3 a0_4 a0_5 a0_6 a0_7 a0_8 a1_1 a1_2 a1_3 a1_4 a1_5 a1_6 a1_7 a1_8 true _ A4.out).mono ?_); rintro e w11 ⟨rfl, hb⟩; refine ⟨_, rfl, ?_⟩; replace BK176 := bB BK176 hb; replace BK177 := bB BK177 hb; replace HB := ak (below_step (lT HB (gC GE176 (gC GE177 gN))) hb); (try clear hb); (try clear hk)))
   go_ret
   exact ⟨ew, by exact lT HB (gC GE176 (gC GE177 gN))⟩
  ·replace c5 := Bool.eq_false_iff.mpr c5
   subst c5
   have H1 : (some false) = some r := by rw [if_neg (show ¬ (false = true) by decide)] at H; exact H
   clear H
   have H := H1
   clear H1
   obtain rfl := Option.some.inj H
   go_enter Try.func17, Try.ntmps17
   go_wp2_with (first | ((with_reducible refine gate_dst (N := 2) rfl ?_); refine bx 2 #[.int .i64 a0_0, .int .i64 a0_1, .int .i64 a0_2, .int .i64 a0_3, .int .i64 a0_4, .int .i64 a0_5, .string a0_6, .string a0_7, .string a0_8] 32 ?_; intro gb176 hg w12 hbox hb; replace BK176 := ak (hbox); replace GW176 := ak (bz hg (lG HB)); replace GE176 := ak (bz hg (lG HB)); replace HB := lB HB hb; clear hb hbox hg) | ((with_reducible refine gate_dst (N := 3) rfl ?_); refine bx 3 #[.int .i64 a1_0, .int .i64 a1_1, .int .i64 a1_2, .int .i64 a1_3, .int .i64 a1_4, .int .i64 a1_5, .string a1_6, .string a1_7, .string a1_8] 32 ?_; intro gb177 hg w13 hbox hb; replace BK177 := ak (hbox); replace GW177 := ak (bz hg (lT HB (gC GE176 gN))); replace GE177 := ak (bz hg (lT HB (gC GE176 gN))); replace HB := ak (below_step (lT HB (gC GE176 gN)) hb); replace NB176_177 := ak (nl hg (bG BK176)); replace NB177_176 := ak (ng hg (bG BK176)); replace BK176 := bB BK176 hb; clear hb hbox hg; have hnb14 := NB176_177.out; have hnc14 := NB177_176.out; obtain ⟨hcz15_0, hcz15_1, hcz15_2, hcz15_3, hcz15_4, hcz15_5, hcz15_6, hcz15_7, hcz15_8, hfz15_0, hfz15_1, hfz15_2, hfz15_3, hfz15_4, hfz15_5, hfz15_6, hfz15_7, hfz15_8⟩ := bC9 BK176; obtain ⟨hcz16_0, hcz16_1, hcz16_2, hcz16_3, hcz16_4, hcz16_5, hcz16_6, hcz16_7, hcz16_8, hfz16_0, hfz16_1, hfz16_2, hfz16_3, hfz16_4, hfz16_5, hfz16_6, hfz16_7, hfz16_8⟩ := bC9 BK177) | ((with_reducible refine gate_callee (f := 12) rfl ?_); refine gl (some 14) Try.func12 #[.agg #[.int .i64 a0_1, .int .i64 a0_2, .int .i64 a0_3, .int .i64 a0_4, .int .i64 a0_5, .string a0_6, .string a0_7, .string a0_8], .agg #[.int .i64 a1_1, .int .i64 a1_2, .int .i64 a1_3, .int .i64 a1_4, .int .i64 a1_5, .string a1_6, .string a1_7, .string a1_8]] ?_; (with_reducible refine (laws_eqRec.calls a0_1 a0_2 a0_3 a0_4 a0_5 a0_6 a0_7 a0_8 a1_1 a1_2 a1_3 a1_4 a1_5 a1_6 a1_7 a1_8 false _ A4.out).mono ?_); rintro e w17 ⟨rfl, hb⟩; refine ⟨_, rfl, ?_⟩; replace BK176 := bB BK176 hb; replace BK177 := bB BK177 hb; replace HB := ak (below_step (lT HB (gC GE176 (gC GE177 gN))) hb); (try clear hb); (try clear hk)))
   go_ret
   exact ⟨ew, by exact lT HB (gC GE176 (gC GE177 gN))⟩
 ·rw [if_neg c3] at H
  have c3b0 : (a0_0 == a1_0) = false := beq_eq_false_iff_ne.mpr c3
  have c3b1 : (a0_0 != a1_0) = true := bne_iff_ne.mpr c3
  obtain rfl := Option.some.inj H
  go_enter Try.func17, Try.ntmps17
  go_wp2_with (first | ((with_reducible refine gate_dst (N := 2) rfl ?_); refine bx 2 #[.int .i64 a0_0, .int .i64 a0_1, .int .i64 a0_2, .int .i64 a0_3, .int .i64 a0_4, .int .i64 a0_5, .string a0_6, .string a0_7, .string a0_8] 32 ?_; intro gb176 hg w18 hbox hb; replace BK176 := ak (hbox); replace GW176 := ak (bz hg (lG HB)); replace GE176 := ak (bz hg (lG HB)); replace HB := lB HB hb; clear hb hbox hg) | ((with_reducible refine gate_dst (N := 3) rfl ?_); refine bx 3 #[.int .i64 a1_0, .int .i64 a1_1, .int .i64 a1_2, .int .i64 a1_3, .int .i64 a1_4, .int .i64 a1_5, .string a1_6, .string a1_7, .string a1_8] 32 ?_; intro gb177 hg w19 hbox hb; replace BK177 := ak (hbox); replace GW177 := ak (bz hg (lT HB (gC GE176 gN))); replace GE177 := ak (bz hg (lT HB (gC GE176 gN))); replace HB := ak (below_step (lT HB (gC GE176 gN)) hb); replace NB176_177 := ak (nl hg (bG BK176)); replace NB177_176 := ak (ng hg (bG BK176)); replace BK176 := bB BK176 hb; clear hb hbox hg; have hnb20 := NB176_177.out; have hnc20 := NB177_176.out; obtain ⟨hcz21_0, hcz21_1, hcz21_2, hcz21_3, hcz21_4, hcz21_5, hcz21_6, hcz21_7, hcz21_8, hfz21_0, hfz21_1, hfz21_2, hfz21_3, hfz21_4, hfz21_5, hfz21_6, hfz21_7, hfz21_8⟩ := bC9 BK176; obtain ⟨hcz22_0, hcz22_1, hcz22_2, hcz22_3, hcz22_4, hcz22_5, hcz22_6, hcz22_7, hcz22_8, hfz22_0, hfz22_1, hfz22_2, hfz22_3, hfz22_4, hfz22_5, hfz22_6, hfz22_7, hfz22_8⟩ := bC9 BK177))
  go_ret
  exact ⟨ew, by exact lT HB (gC GE176 (gC GE177 gN))⟩

end Go.Proofs.Ytagkjeldheiejaa.PFnExactItemsOk
