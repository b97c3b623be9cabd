-- printed
import Derived.Test.YtagkjeldheiejaaPFnStatesToldx7
import Derived.Test.YtagkjeldheiejaaVFnStatesTold1
namespace Go.Proofs.Ytagkjeldheiejaa.PFnStatesTold
open Go.RowKit YtagkjeldheiejaaW.PrintWords YtagkjeldheiejaaW.PrintLast YtagkjeldheiejaaW.PrintMore
set_option linter.unusedVariables false
set_option linter.unusedSimpArgs false
attribute [local go_sem] max2_int min2_int max_two min_two max_three min_three max_four min_four
set_option maxHeartbeats 40000000
set_option maxRecDepth 100000
-- NOT PRINTED: function 98 (impl_Item_98)
-- NOT PRINTED: function 64 (impl_Item_64)
theorem idx_it (caps : Array Value) (p : S32 → Bool) (A0 : Option Addr) (c0 : Nat) (l0 : List S32) (w : World) (hr0 : Kd.C k32 w A0 l0.length l0) (hc0 : l0.length ≤ c0)
  (hp : ∀ x, x ∈ l0 → ∀ W, Below w.heap.size w W → Calls Try.prog 65 (#[.agg #[.int .i64 x.f0, .int .i64 x.f1.f0, .int .i64 x.f1.f1, .int .i64 x.f1.f2, .int .i64 x.f1.f3, .int .i64 x.f1.f4, .string x.f1.f5, .string x.f1.f6, .string x.f1.f7]] ++ caps) W fun e W' => e = .returned (.bool (p x)) ∧ Below W.heap.size W W') :
  Calls Try.prog 98 #[.slice A0 l0.length c0, .func (.func 65) #[] caps] w fun e w' => ∃ v : Int, e = .returned (.int .i64 v) ∧ Aside0 (decide (0 ≤ v) = l0.any p) ∧ Below w.heap.size w w' := by
 have HR0 := Aside0.mk hr0
 have HC0 := Aside0.mk hc0
 have HP := Aside0.mk hp
 have hm : l0.length ≤ 9223372036854775807 := hr0.2.1
 clear hr0 hc0 hp
 have HB := ak (Below.refl w.heap.size w)
 go_enter Try.func98, Try.ntmps98
 go_wp2
 go_loopg [8] l0.length (fun kq v8 w' => ∃ x8 : Int, v8 = .int .i64 x8 ∧ Aside0 (0 ≤ x8 ∧ x8 + kq = l0.length ∧ ∀ x, x ∈ l0.take x8.toNat → p x = false) ∧ Aside0 (Below w.heap.size w w'))
 case atStart => exact ⟨0, by first | rfl | (simp; done), ⟨by omega, by omega, by simp⟩, ⟨by first | exact HB.out | exact Below.refl _ _⟩⟩
 case round =>
  skip;{
 obtain ⟨x8, rfl, HX, HB⟩ := hrel
 by_cases c4 : x8 < (l0.length : Int)
 {
 have c4b0 : decide (x8 < (l0.length : Int)) = true := decide_eq_true c4
 have c5b0 : decide (0 ≤ x8) = true := decide_eq_true HX.out.1
 have hl : x8.toNat < l0.length := by have := HX.out.1; omega
 have hmem : rd_T32 l0 x8 ∈ l0 := by
  unfold rd_T32
  rw [List.getD_eq_getElem?_getD, List.getElem?_eq_getElem hl]
  exact List.getElem_mem hl
 have HQ := ak (fun W hW => HP.out _ hmem W hW)
 clear c4 hl hmem
 have p103 : 0 ≤ (x8 : Int) := oda
 have q103 : x8 < (l0.length : Int) := oda
 obtain ⟨ad103, e103, hx103_0, hx103_1, hx103_2, hx103_3, hx103_4, hx103_5, hx103_6, hx103_7, hx103_8⟩ := at_T32 HR0.out x8 p103 q103
 cases e103
 replace hx103_0 := clB HB hx103_0
 replace hx103_1 := clB HB hx103_1
 replace hx103_2 := clB HB hx103_2
 replace hx103_3 := clB HB hx103_3
 replace hx103_4 := clB HB hx103_4
 replace hx103_5 := clB HB hx103_5
 replace hx103_6 := clB HB hx103_6
 replace hx103_7 := clB HB hx103_7
 replace hx103_8 := clB HB hx103_8
 replace p103 := eq_true p103
 replace q103 := eq_true q103
 obtain ⟨b, hb0⟩ : ∃ b, p (rd_T32 l0 x8) = b := ⟨_, rfl⟩
 have HPB := Aside0.mk hb0
 rw [hb0] at HQ
 clear hb0
 cases b with
 | true =>
  skip;{
 go_wp2_with (go_at_call 65; refine (HQ.out _ HB.out).mono ?_; rintro e w8 ⟨rfl, hb⟩; replace HB := ak (below_step (by exact HB.out) hb); clear hb)
 go_ret
 have h0 : 0 ≤ x8 := HX.out.1
 have hl : x8.toNat < l0.length := by have := HX.out.1; have := of_eq_true q103; omega
 refine ⟨x8, rfl, ⟨?_⟩, HB.out⟩
 rw [decide_eq_true h0]
 symm
 rw [List.any_eq_true]
 refine ⟨rd_T32 l0 x8, ?_, HPB.out⟩
 unfold rd_T32
 rw [List.getD_eq_getElem?_getD, List.getElem?_eq_getElem hl]
 exact List.getElem_mem hl
 }
 | false =>
  skip;{
 cases gk with
 | zero => exact absurd HX.out (by have := of_eq_true q103; omega)
 | succ k1 =>
 go_wp2_with (go_at_call 65; refine (HQ.out _ HB.out).mono ?_; rintro e w8 ⟨rfl, hb⟩; replace HB := ak (below_step (by exact HB.out) hb); clear hb)
 go_roundg k1
 case measure => omega
 case rel =>
  skip;{
 have h0 : 0 ≤ x8 := HX.out.1
 have h1 := HX.out.2.1
 have hl : x8.toNat < l0.length := by have := of_eq_true q103; omega
 have e1 : wrap64 (x8 + 1) = x8 + 1 := by unfold wrap64; omega
 refine ⟨x8 + 1, by first | rfl | (rw [e1]) | (simp [e1]; done), ⟨by omega, by omega, ?_⟩, HB⟩
 intro x hx
 rw [show (x8 + 1).toNat = x8.toNat + 1 by omega, List.take_succ_eq_append_getElem hl] at hx
 rcases List.mem_append.1 hx with hx | hx
 {
 exact HX.out.2.2 x hx
 }
 {
 have hx' := List.mem_singleton.1 hx
 subst hx'
 have := HPB.out
 unfold rd_T32 at this
 rw [List.getD_eq_getElem?_getD, List.getElem?_eq_getElem hl] at this
 exact this
 }
 }
 }
 }
 {
 have c4b0 : decide (x8 < (l0.length : Int)) = false := decide_eq_false c4
 clear c4
 go_wp2
 go_ret
 have h0 : 0 ≤ x8 := HX.out.1
 have h1 := HX.out.2.1
 have h2 := of_decide_eq_false c4b0
 refine ⟨-1, rfl, ⟨?_⟩, HB.out⟩
 symm
 rw [decide_eq_false (by omega)]
 rw [List.any_eq_false]
 intro x hx
 have := HX.out.2.2 x (by rw [List.take_of_length_le (by omega)]; exact hx)
 simp [this]
 }
 }
theorem cont_it (caps : Array Value) (p : S32 → Bool) (A0 : Option Addr) (c0 : Nat) (l0 : List S32) (w : World) (hr0 : Kd.C k32 w A0 l0.length l0) (hc0 : l0.length ≤ c0)
  (hp : ∀ x, x ∈ l0 → ∀ W, Below w.heap.size w W → Calls Try.prog 65 (#[.agg #[.int .i64 x.f0, .int .i64 x.f1.f0, .int .i64 x.f1.f1, .int .i64 x.f1.f2, .int .i64 x.f1.f3, .int .i64 x.f1.f4, .string x.f1.f5, .string x.f1.f6, .string x.f1.f7]] ++ caps) W fun e W' => e = .returned (.bool (p x)) ∧ Below W.heap.size W W') :
  Calls Try.prog 64 #[.slice A0 l0.length c0, .func (.func 65) #[] caps] w fun e w' => e = .returned (.bool (l0.any p)) ∧ Below w.heap.size w w' := by
 have HC := ak (fun (W : World) => idx_it caps p A0 c0 l0 w hr0 hc0 hp)
 clear hr0 hc0 hp
 go_enter Try.func64, Try.ntmps64
 go_wp2_with (go_at_call 98; refine (HC.out w).mono ?_; rintro e w8 ⟨v, rfl, hv, hb⟩)
 go_ret
 exact ⟨by rw [← hv.out]; rfl, hb⟩
theorem cont_n (n : Nat) (caps : Array Value) (p : S32 → Bool) (A0 : Option Addr) (c0 : Nat) (l0 : List S32) (w : World) (hn : l0.length = n) (hr0 : Kd.C k32 w A0 l0.length l0) (hc0 : l0.length ≤ c0)
  (hp : ∀ x, x ∈ l0 → ∀ W, Below w.heap.size w W → Calls Try.prog 65 (#[.agg #[.int .i64 x.f0, .int .i64 x.f1.f0, .int .i64 x.f1.f1, .int .i64 x.f1.f2, .int .i64 x.f1.f3, .int .i64 x.f1.f4, .string x.f1.f5, .string x.f1.f6, .string x.f1.f7]] ++ caps) W fun e W' => e = .returned (.bool (p x)) ∧ Below W.heap.size W W') :
  Calls Try.prog 64 #[.slice A0 n c0, .func (.func 65) #[] caps] w fun e w' => e = .returned (.bool (l0.any p)) ∧ Below w.heap.size w w' := by
 subst hn
 exact cont_it caps p A0 c0 l0 w hr0 hc0 hp
def itBad (x y : S32) : Bool := (y.f0 == x.f0) && !((y.f0 == x.f0) && (y.f1.f0 == x.f1.f0) && (y.f1.f1 == x.f1.f1) && (y.f1.f2 == x.f1.f2) && (y.f1.f3 == x.f1.f3) && (y.f1.f4 == x.f1.f4) && (y.f1.f5.toList == x.f1.f5.toList) && (y.f1.f6.toList == x.f1.f6.toList) && (y.f1.f7.toList == x.f1.f7.toList))
theorem in_is (a b c : Int) : impl_in.f a b c = some (decide (b ≤ a ∧ a ≤ c)) := by
 unfold impl_in.f
 by_cases h : a ≥ b <;> by_cases h2 : a ≤ c <;> simp [h, h2] <;> omega
theorem clo_it (gb : Nat) (x y : S32) (W : World) (hb : W.heap[gb]? = some (.cells #[.int .i64 x.f0, .int .i64 x.f1.f0, .int .i64 x.f1.f1, .int .i64 x.f1.f2, .int .i64 x.f1.f3, .int .i64 x.f1.f4, .string x.f1.f5, .string x.f1.f6, .string x.f1.f7] 32 (0, 0))) :
  Calls Try.prog 65 #[.agg #[.int .i64 y.f0, .int .i64 y.f1.f0, .int .i64 y.f1.f1, .int .i64 y.f1.f2, .int .i64 y.f1.f3, .int .i64 y.f1.f4, .string y.f1.f5, .string y.f1.f6, .string y.f1.f7], .pointer (some ⟨gb, 0, none⟩)] W fun e W' => e = .returned (.bool (itBad x y)) ∧ Below W.heap.size W W' := by
 have huW := Try.underlying32
 have huR := Try.underlying23
 have BK := ak hb
 have HB := ak (Below.refl W.heap.size W)
 obtain ⟨x0, ⟨x1, x2, x3, x4, x5, x6, x7, x8⟩⟩ := x
 obtain ⟨y0, ⟨y1, y2, y3, y4, y5, y6, y7, y8⟩⟩ := y
 simp only at BK ⊢
 have hx : ∀ o, (W.alloc o).heap[gb]? = some (.cells #[.int .i64 x0, .int .i64 x1, .int .i64 x2, .int .i64 x3, .int .i64 x4, .int .i64 x5, .string x6, .string x7, .string x8] 32 (0, 0)) := fun o => blk_alloc BK.out o
 have h0 : ∀ o, (W.alloc o).cell? ⟨gb, 0, none⟩ = some (.int .i64 x0) := fun o => bc (ak (hx o)) 0
 have h1 : ∀ o, (W.alloc o).cell? ⟨gb, 1, none⟩ = some (.int .i64 x1) := fun o => bc (ak (hx o)) 1
 have h2 : ∀ o, (W.alloc o).cell? ⟨gb, 2, none⟩ = some (.int .i64 x2) := fun o => bc (ak (hx o)) 2
 have h3 : ∀ o, (W.alloc o).cell? ⟨gb, 3, none⟩ = some (.int .i64 x3) := fun o => bc (ak (hx o)) 3
 have h4 : ∀ o, (W.alloc o).cell? ⟨gb, 4, none⟩ = some (.int .i64 x4) := fun o => bc (ak (hx o)) 4
 have h5 : ∀ o, (W.alloc o).cell? ⟨gb, 5, none⟩ = some (.int .i64 x5) := fun o => bc (ak (hx o)) 5
 have h6 : ∀ o, (W.alloc o).cell? ⟨gb, 6, none⟩ = some (.string x6) := fun o => bc (ak (hx o)) 6
 have h7 : ∀ o, (W.alloc o).cell? ⟨gb, 7, none⟩ = some (.string x7) := fun o => bc (ak (hx o)) 7
 have h8 : ∀ o, (W.alloc o).cell? ⟨gb, 8, none⟩ = some (.string x8) := fun o => bc (ak (hx o)) 8
 have HA := ak (fun o => below_alloc (Below.refl W.heap.size W) o)
 clear hx BK HB
 clear hb
 by_cases c0 : y0 = x0
 {
 subst c0
 go_enter Try.func65, Try.ntmps65
 go_wp2
 all_goals (go_ret; refine ⟨?_, HA.out _⟩; simp [itBad, *])
 }
 {
 have c0b : (y0 == x0) = false := beq_eq_false_iff_ne.mpr c0
 have HE := ak (show itBad ⟨x0, ⟨x1, x2, x3, x4, x5, x6, x7, x8⟩⟩ ⟨y0, ⟨y1, y2, y3, y4, y5, y6, y7, y8⟩⟩ = false by unfold itBad; rw [c0b]; rfl)
 go_enter Try.func65, Try.ntmps65
 go_wp2
 go_ret
 exact ⟨by rw [HE.out]; rfl, HA.out _⟩
 }
def impl_ItemsOk.go (k : Nat) (l0 : List S32) : Nat → Nat → Option Bool
 | 0, _ => some true
 | n + 1, i => if (1 ≤ (rd_T32 l0 (i : Int)).f0 ∧ (rd_T32 l0 (i : Int)).f0 ≤ 1000000000) then (impl_RecOk.f k (rd_T32 l0 (i : Int)).f1.f0 (rd_T32 l0 (i : Int)).f1.f1 (rd_T32 l0 (i : Int)).f1.f2 (rd_T32 l0 (i : Int)).f1.f3 (rd_T32 l0 (i : Int)).f1.f4 (rd_T32 l0 (i : Int)).f1.f5 (rd_T32 l0 (i : Int)).f1.f6 (rd_T32 l0 (i : Int)).f1.f7).bind fun b => if b = true then (if (l0.take i).any (itBad (rd_T32 l0 (i : Int))) = true then some false else impl_ItemsOk.go k l0 n (i + 1)) else some false else some false
def impl_ItemsOk.f (k : Nat) (l0 : List S32) : Option Bool := if 200 < l0.length then some false else impl_ItemsOk.go k l0 l0.length 0
theorem impl_ItemsOk.mono : ∀ a0 k, LeO (impl_ItemsOk.f k a0) (impl_ItemsOk.f (k + 1) a0) := by
 intro a0 k
 have hg : ∀ n i, LeO (impl_ItemsOk.go k a0 n i) (impl_ItemsOk.go (k + 1) a0 n i) := fun n => by
  induction n with
  | zero => intro i; exact LeO.refl _
  | succ n ih => intro i; exact LeO.ite (LeO.bind (impl_RecOk.mono _ _ _ _ _ _ _ _ _) (fun _ => LeO.ite (LeO.ite (LeO.refl _) (ih _)) (LeO.refl _))) (LeO.refl _)
 unfold impl_ItemsOk.f
 exact LeO.ite (LeO.refl _) (hg _ _)
theorem d0_below {W w8 : World} (h : Drawn0 W w8) : Below W.heap.size W w8 := h.below
theorem impl_ItemsOk.calls (k : Nat) (A0 : Option Addr) (c0 : Nat) (l0 : List (S32)) (r : Bool) (w : World) (hr0 : Kd.C k32 w A0 l0.length l0) (hc0 : l0.length ≤ c0) (h : impl_ItemsOk.f k l0 = some r) :
  Calls Try.prog 21 #[.slice A0 l0.length c0] w fun e w' => e = .returned (.bool r) ∧ Below w.heap.size w w' := by
 have hu23 := Try.underlying23
 have hu32 := Try.underlying32
 have HR0 := ak hr0
 have HC0 := ak hc0
 have HB := ak (Below.refl w.heap.size w)
 have hmf : ∀ (fn : Fn) (first cap : Array Value) (w : World), (Instr.makeFunc fn first cap).run Try.prog w = .ok (.func fn first cap) w := fun _ _ _ _ => rfl
 clear hr0 hc0
 unfold impl_ItemsOk.f at h
 by_cases c1 : 200 < l0.length
 {
 rw [if_pos c1] at h
 obtain rfl := Option.some.inj h
 have c1b0 : decide ((l0.length : Int) > 200) = true := by simp; omega
 have c1b1 : decide ((200 : Int) < (l0.length : Int)) = true := by simp; omega
 have c1b2 : decide (200 < l0.length) = true := by simp; omega
 clear c1 h
 go_enter Try.func21, Try.ntmps21
 go_wp2
 go_ret
 exact ⟨rfl, HB.out⟩
 }
 {
 rw [if_neg c1] at h
 have c1b0 : decide ((l0.length : Int) > 200) = false := by simp; omega
 have c1b1 : decide ((200 : Int) < (l0.length : Int)) = false := by simp; omega
 have c1b2 : decide (200 < l0.length) = false := by simp; omega
 have HM := ak (show l0.length ≤ 200 by omega)
 have HA := ak h
 clear c1 h
 go_enter Try.func21, Try.ntmps21
 go_wp2
 go_loopg [10] l0.length (fun kq v10 w' => ∃ (x10 : Int) (i : Nat), v10 = .int .i64 x10 ∧ Aside0 (x10 = (i : Int) ∧ kq + i = l0.length ∧ impl_ItemsOk.go k l0 kq i = some r) ∧ Aside0 (Below w.heap.size w w'))
 case atStart => exact ⟨0, 0, by first | rfl | (simp; done), ⟨rfl, rfl, HA.out⟩, HB⟩
 case round =>
  skip;{
 clear HA HB
 obtain ⟨x10, i, rfl, HX, HB⟩ := hrel
 cases gk with
 | zero =>
  skip;{
 have hr : true = r := Option.some.inj HX.out.2.2
 subst hr
 have c4 : decide (x10 < (l0.length : Int)) = false := decide_eq_false (by have := HX.out; omega)
 clear HX
 go_wp2
 go_ret
 exact ⟨rfl, HB.out⟩
 }
 | succ k1 =>
  skip;{
 have c4 : decide (x10 < (l0.length : Int)) = true := decide_eq_true (by have := HX.out; omega)
 have c5 : decide (0 ≤ x10) = true := decide_eq_true (by have := HX.out; omega)
 have hi : i < l0.length := by have := HX.out; omega
 have hxi : x10 = (i : Int) := HX.out.1
 have H : (if (1 ≤ (rd_T32 l0 x10).f0 ∧ (rd_T32 l0 x10).f0 ≤ 1000000000) then (impl_RecOk.f k (rd_T32 l0 x10).f1.f0 (rd_T32 l0 x10).f1.f1 (rd_T32 l0 x10).f1.f2 (rd_T32 l0 x10).f1.f3 (rd_T32 l0 x10).f1.f4 (rd_T32 l0 x10).f1.f5 (rd_T32 l0 x10).f1.f6 (rd_T32 l0 x10).f1.f7).bind fun b => if b = true then (if (l0.take i).any (itBad (rd_T32 l0 x10)) = true then some false else impl_ItemsOk.go k l0 k1 (i + 1)) else some false else some false) = some r := by rw [hxi]; exact HX.out.2.2
 have p103 : 0 ≤ (x10 : Int) := by omega
 have q103 : x10 < (l0.length : Int) := by omega
 have HT := ak (Kd.C_take (m := i) HR0.out (by omega))
 have HL := ak (show (l0.take i).length = i by rw [List.length_take]; omega)
 have HI2 := ak (show x10 = (i : Int) ∧ i < l0.length ∧ k1 + (i + 1) = l0.length by have := HX.out; omega)
 obtain ⟨ad103, e103, hx103_0, hx103_1, hx103_2, hx103_3, hx103_4, hx103_5, hx103_6, hx103_7, hx103_8⟩ := at_T32 HR0.out x10 p103 q103
 cases e103
 replace hx103_0 := clB HB hx103_0
 replace hx103_1 := clB HB hx103_1
 replace hx103_2 := clB HB hx103_2
 replace hx103_3 := clB HB hx103_3
 replace hx103_4 := clB HB hx103_4
 replace hx103_5 := clB HB hx103_5
 replace hx103_6 := clB HB hx103_6
 replace hx103_7 := clB HB hx103_7
 replace hx103_8 := clB HB hx103_8
 replace p103 := eq_true p103
 replace q103 := eq_true q103
 have s103 : ¬ (c0 : Int) < x10 := by have := HC0.out; omega
 clear HX hi hxi
 obtain ⟨y, hy⟩ : ∃ y, rd_T32 l0 x10 = y := ⟨_, rfl⟩
 rw [hy] at H hx103_0 hx103_1 hx103_2 hx103_3 hx103_4 hx103_5 hx103_6 hx103_7 hx103_8
 clear hy
 obtain ⟨y0, ⟨y1, y2, y3, y4, y5, y6, y7, y8⟩⟩ := y
 simp only at H hx103_0 hx103_1 hx103_2 hx103_3 hx103_4 hx103_5 hx103_6 hx103_7 hx103_8
 have hi := in_is y0 1 1000000000
 by_cases c6 : 1 ≤ y0 ∧ y0 ≤ 1000000000
 {
 rw [if_pos c6] at H
 rw [decide_eq_true c6] at hi
 have HI := ak hi
 clear hi c6
 replace H := Option.bind_eq_some_iff.mp H
 obtain ⟨ok, A0, H⟩ := H
 have AV := ak A0
 clear A0
 cases ok with
 | false =>
  skip;{
 have hr : false = r := by rw [if_neg (by simp)] at H; exact Option.some.inj H
 subst hr
 clear H
 go_wp2_with (first | ((with_reducible refine gate_dst (N := 4) rfl ?_); refine b9 4 ?_; intro gx hg w5 hbox hb; replace BX := ak (hbox); replace GX := ak (bz hg (lG HB)); replace HB := lB HB hb; replace hx103_0 := clb hb hx103_0; replace hx103_1 := clb hb hx103_1; replace hx103_2 := clb hb hx103_2; replace hx103_3 := clb hb hx103_3; replace hx103_4 := clb hb hx103_4; replace hx103_5 := clb hb hx103_5; replace hx103_6 := clb hb hx103_6; replace hx103_7 := clb hb hx103_7; replace hx103_8 := clb hb hx103_8; clear hb hbox hg; obtain ⟨hcz_0, hcz_1, hcz_2, hcz_3, hcz_4, hcz_5, hcz_6, hcz_7, hcz_8, hfz_0, hfz_1, hfz_2, hfz_3, hfz_4, hfz_5, hfz_6, hfz_7, hfz_8⟩ := bC9 BX; skip) | (go_at_call 63; refine (impl_in.calls _ _ _ true _ HI.out).mono ?_; rintro e w8 ⟨rfl, hd⟩; have hb := d0_below hd; replace HB := ak (below_step (lT HB (gC GX gN)) hb); replace BX := ak (blk_below (bW (r := #[.int .i64 y0, .int .i64 y1, .int .i64 y2, .int .i64 y3, .int .i64 y4, .int .i64 y5, .string y6, .string y7, .string y8]) BX) hb); clear hb hd; obtain ⟨hci_0, hci_1, hci_2, hci_3, hci_4, hci_5, hci_6, hci_7, hci_8, hfi_0, hfi_1, hfi_2, hfi_3, hfi_4, hfi_5, hfi_6, hfi_7, hfi_8⟩ := bC9 BX; skip) | (go_at_call 28; refine (impl_RecOk.calls k y1 y2 y3 y4 y5 y6 y7 y8 false _ AV.out).mono ?_; rintro e w9 ⟨rfl, hb⟩; replace HB := lB HB hb; replace BX := bB BX hb; clear hb; obtain ⟨hck_0, hck_1, hck_2, hck_3, hck_4, hck_5, hck_6, hck_7, hck_8, hfk_0, hfk_1, hfk_2, hfk_3, hfk_4, hfk_5, hfk_6, hfk_7, hfk_8⟩ := bC9 BX; skip))
 go_ret
 exact ⟨rfl, by exact lT HB (gC GX gN)⟩
 }
 | true =>
  skip;{
 rw [if_pos rfl] at H
 obtain ⟨an, hy⟩ : ∃ an, (l0.take i).any (itBad ⟨y0, ⟨y1, y2, y3, y4, y5, y6, y7, y8⟩⟩) = an := ⟨_, rfl⟩
 rw [hy] at H
 have HY := ak hy
 clear hy
 cases an with
 | true =>
  skip;{
 have hr : false = r := by rw [if_pos rfl] at H; exact Option.some.inj H
 subst hr
 clear H
 go_wp2_with (first | ((with_reducible refine gate_dst (N := 4) rfl ?_); refine b9 4 ?_; intro gx hg w5 hbox hb; replace BX := ak (hbox); replace GX := ak (bz hg (lG HB)); replace HB := lB HB hb; replace hx103_0 := clb hb hx103_0; replace hx103_1 := clb hb hx103_1; replace hx103_2 := clb hb hx103_2; replace hx103_3 := clb hb hx103_3; replace hx103_4 := clb hb hx103_4; replace hx103_5 := clb hb hx103_5; replace hx103_6 := clb hb hx103_6; replace hx103_7 := clb hb hx103_7; replace hx103_8 := clb hb hx103_8; clear hb hbox hg; obtain ⟨hcz_0, hcz_1, hcz_2, hcz_3, hcz_4, hcz_5, hcz_6, hcz_7, hcz_8, hfz_0, hfz_1, hfz_2, hfz_3, hfz_4, hfz_5, hfz_6, hfz_7, hfz_8⟩ := bC9 BX; skip) | (go_at_call 63; refine (impl_in.calls _ _ _ true _ HI.out).mono ?_; rintro e w8 ⟨rfl, hd⟩; have hb := d0_below hd; replace HB := ak (below_step (lT HB (gC GX gN)) hb); replace BX := ak (blk_below (bW (r := #[.int .i64 y0, .int .i64 y1, .int .i64 y2, .int .i64 y3, .int .i64 y4, .int .i64 y5, .string y6, .string y7, .string y8]) BX) hb); clear hb hd; obtain ⟨hci_0, hci_1, hci_2, hci_3, hci_4, hci_5, hci_6, hci_7, hci_8, hfi_0, hfi_1, hfi_2, hfi_3, hfi_4, hfi_5, hfi_6, hfi_7, hfi_8⟩ := bC9 BX; skip) | (go_at_call 28; refine (impl_RecOk.calls k y1 y2 y3 y4 y5 y6 y7 y8 true _ AV.out).mono ?_; rintro e w9 ⟨rfl, hb⟩; replace HB := lB HB hb; replace BX := bB BX hb; clear hb; obtain ⟨hck_0, hck_1, hck_2, hck_3, hck_4, hck_5, hck_6, hck_7, hck_8, hfk_0, hfk_1, hfk_2, hfk_3, hfk_4, hfk_5, hfk_6, hfk_7, hfk_8⟩ := bC9 BX; skip) | (go_at_call 64; refine (cont_n x10.toNat #[.pointer (some ⟨gx, 0, none⟩)] (itBad ⟨y0, ⟨y1, y2, y3, y4, y5, y6, y7, y8⟩⟩) (some ad103) c0 (l0.take i) _ (by have := HL.out; have := HI2.out; omega) (Kd.C_below HT.out HB.out) (by have := HL.out; have := HC0.out; have := HI2.out; omega) (fun y _ W hW => clo_it gx ⟨y0, ⟨y1, y2, y3, y4, y5, y6, y7, y8⟩⟩ y W (blk_below BX.out hW))).mono ?_; rintro e w10 ⟨rfl, hb⟩; have hany := HY.out; replace HB := lB HB hb; clear hb))
 go_ret
 exact ⟨rfl, HB.out⟩
 }
 | false =>
  skip;{
 have H2 : impl_ItemsOk.go k l0 k1 (i + 1) = some r := by rw [if_neg (by simp)] at H; exact H
 have HA := ak H2
 clear H H2
 go_wp2_with (first | ((with_reducible refine gate_dst (N := 4) rfl ?_); refine b9 4 ?_; intro gx hg w5 hbox hb; replace BX := ak (hbox); replace GX := ak (bz hg (lG HB)); replace HB := lB HB hb; replace hx103_0 := clb hb hx103_0; replace hx103_1 := clb hb hx103_1; replace hx103_2 := clb hb hx103_2; replace hx103_3 := clb hb hx103_3; replace hx103_4 := clb hb hx103_4; replace hx103_5 := clb hb hx103_5; replace hx103_6 := clb hb hx103_6; replace hx103_7 := clb hb hx103_7; replace hx103_8 := clb hb hx103_8; clear hb hbox hg; obtain ⟨hcz_0, hcz_1, hcz_2, hcz_3, hcz_4, hcz_5, hcz_6, hcz_7, hcz_8, hfz_0, hfz_1, hfz_2, hfz_3, hfz_4, hfz_5, hfz_6, hfz_7, hfz_8⟩ := bC9 BX; skip) | (go_at_call 63; refine (impl_in.calls _ _ _ true _ HI.out).mono ?_; rintro e w8 ⟨rfl, hd⟩; have hb := d0_below hd; replace HB := ak (below_step (lT HB (gC GX gN)) hb); replace BX := ak (blk_below (bW (r := #[.int .i64 y0, .int .i64 y1, .int .i64 y2, .int .i64 y3, .int .i64 y4, .int .i64 y5, .string y6, .string y7, .string y8]) BX) hb); clear hb hd; obtain ⟨hci_0, hci_1, hci_2, hci_3, hci_4, hci_5, hci_6, hci_7, hci_8, hfi_0, hfi_1, hfi_2, hfi_3, hfi_4, hfi_5, hfi_6, hfi_7, hfi_8⟩ := bC9 BX; skip) | (go_at_call 28; refine (impl_RecOk.calls k y1 y2 y3 y4 y5 y6 y7 y8 true _ AV.out).mono ?_; rintro e w9 ⟨rfl, hb⟩; replace HB := lB HB hb; replace BX := bB BX hb; clear hb; obtain ⟨hck_0, hck_1, hck_2, hck_3, hck_4, hck_5, hck_6, hck_7, hck_8, hfk_0, hfk_1, hfk_2, hfk_3, hfk_4, hfk_5, hfk_6, hfk_7, hfk_8⟩ := bC9 BX; skip) | (go_at_call 64; refine (cont_n x10.toNat #[.pointer (some ⟨gx, 0, none⟩)] (itBad ⟨y0, ⟨y1, y2, y3, y4, y5, y6, y7, y8⟩⟩) (some ad103) c0 (l0.take i) _ (by have := HL.out; have := HI2.out; omega) (Kd.C_below HT.out HB.out) (by have := HL.out; have := HC0.out; have := HI2.out; omega) (fun y _ W hW => clo_it gx ⟨y0, ⟨y1, y2, y3, y4, y5, y6, y7, y8⟩⟩ y W (blk_below BX.out hW))).mono ?_; rintro e w10 ⟨rfl, hb⟩; have hany := HY.out; replace HB := lB HB hb; clear hb))
 go_roundg k1
 case measure => omega
 case rel =>
  skip;{
 have e1 : wrap64 (x10 + 1) = x10 + 1 := by have := HI2.out; have := HM.out; unfold wrap64; omega
 exact ⟨x10 + 1, i + 1, by first | rfl | (rw [e1]) | (simp [e1]; done), ⟨by have := HI2.out; omega, by have := HI2.out; omega, HA.out⟩, HB⟩
 }
 }
 }
 }
 {
 rw [if_neg c6] at H
 rw [decide_eq_false c6] at hi
 have HI := ak hi
 have hr : false = r := Option.some.inj H
 subst hr
 clear hi c6 H
 go_wp2_with (first | ((with_reducible refine gate_dst (N := 4) rfl ?_); refine b9 4 ?_; intro gx hg w5 hbox hb; replace BX := ak (hbox); replace GX := ak (bz hg (lG HB)); replace HB := lB HB hb; replace hx103_0 := clb hb hx103_0; replace hx103_1 := clb hb hx103_1; replace hx103_2 := clb hb hx103_2; replace hx103_3 := clb hb hx103_3; replace hx103_4 := clb hb hx103_4; replace hx103_5 := clb hb hx103_5; replace hx103_6 := clb hb hx103_6; replace hx103_7 := clb hb hx103_7; replace hx103_8 := clb hb hx103_8; clear hb hbox hg; obtain ⟨hcz_0, hcz_1, hcz_2, hcz_3, hcz_4, hcz_5, hcz_6, hcz_7, hcz_8, hfz_0, hfz_1, hfz_2, hfz_3, hfz_4, hfz_5, hfz_6, hfz_7, hfz_8⟩ := bC9 BX; skip) | (go_at_call 63; refine (impl_in.calls _ _ _ false _ HI.out).mono ?_; rintro e w8 ⟨rfl, hd⟩; have hb := d0_below hd; replace HB := ak (below_step (lT HB (gC GX gN)) hb); replace BX := ak (blk_below (bW (r := #[.int .i64 y0, .int .i64 y1, .int .i64 y2, .int .i64 y3, .int .i64 y4, .int .i64 y5, .string y6, .string y7, .string y8]) BX) hb); clear hb hd; obtain ⟨hci_0, hci_1, hci_2, hci_3, hci_4, hci_5, hci_6, hci_7, hci_8, hfi_0, hfi_1, hfi_2, hfi_3, hfi_4, hfi_5, hfi_6, hfi_7, hfi_8⟩ := bC9 BX; skip))
 go_ret
 exact ⟨rfl, by exact lT HB (gC GX gN)⟩
 }
 }
 }
 }
def laws_big.f (l0 : List Int) : Option (Bool) := some (decide ((l0.length : Int) > 1048576))
theorem laws_big.calls (A0 : Option Addr) (c0 : Nat) (l0 : List Int) (r : Bool) (w : World) (hr0 : Kd.C (Kd.int .u8) w A0 l0.length l0) (hc0 : l0.length ≤ c0) (h : laws_big.f l0 = some r) :
  Calls Try.prog 23 #[.slice A0 l0.length c0] w fun e w' => e = .returned (.bool r) ∧ Drawn0 w w' := by
 have HR0 := Aside0.mk hr0
 have HC0 := Aside0.mk hc0
 clear hr0 hc0
 have H := h
 clear h
 unfold laws_big.f at H
 obtain rfl := Option.some.inj H
 go_enter Try.func23, Try.ntmps23
 go_wp2
 go_ret
 exact ⟨by first | rfl | (simp; done) | (simp [*]; done), by repeat (first | exact Drawn0.refl _ | apply Drawn0.step)⟩
-- NOT PRINTED: function 137 (cmp_isNaN_int)
-- NOT PRINTED: function 127 (cmp_Less_int)
-- NOT PRINTED: function 121 (slices_insertionSortOrdered_int)
-- NOT PRINTED: function 132 (slices_siftDownOrdered_int)
-- NOT PRINTED: function 122 (slices_heapSortOrdered_int)
-- NOT PRINTED: function 130 (bits_Len32)
-- NOT PRINTED: function 131 (bits_Len64)
-- NOT PRINTED: function 119 (bits_Len)
-- NOT PRINTED: function 133 (slices_nextPowerOfTwo)
-- NOT PRINTED: function 134 (slices_xorshift_Next)
-- NOT PRINTED: function 123 (slices_breakPatternsOrdered_int)
-- NOT PRINTED: function 138 (slices_order2Ordered_int)
-- NOT PRINTED: function 136 (slices_medianOrdered_int)
-- NOT PRINTED: function 135 (slices_medianAdjacentOrdered_int)
-- NOT PRINTED: function 124 (slices_choosePivotOrdered_int)
-- NOT PRINTED: function 125 (slices_reverseRangeOrdered_int)
-- NOT PRINTED: function 126 (slices_partialInsertionSortOrdered_int)
-- NOT PRINTED: function 128 (slices_partitionEqualOrdered_int)
-- NOT PRINTED: function 129 (slices_partitionOrdered_int)
-- NOT PRINTED: function 118 (slices_pdqsortOrdered_int)
-- NOT PRINTED: function 102 (slices_Sort_int_int)
-- NOT PRINTED: function 103 (slices_Compact_int_int)
-- NOT PRINTED: function 74 (impl_numbers)
def numL (g : S32 → Int × Bool) (l : List S32) : List Int := (l.filter (fun x => (g x).2)).map (fun x => (g x).1)
def numC (xs : List Int) : List Int := Lib.compact (xs.mergeSort fun x y => decide (x ≤ y))
theorem numL_take (g : S32 → Int × Bool) (l : List S32) (i : Nat) (h : i < l.length) : numL g (l.take (i + 1)) = numL g (l.take i) ++ (if (g (rd_T32 l (i : Int))).2 then [(g (rd_T32 l (i : Int))).1] else []) := by
 have e : rd_T32 l (i : Int) = l[i] := by
  unfold rd_T32
  rw [Int.toNat_natCast, List.getD_eq_getElem?_getD, List.getElem?_eq_getElem h]
  rfl
 unfold numL
 rw [List.take_succ_eq_append_getElem h, List.filter_append, List.map_append, e]
 congr 1
 cases hc : (g l[i]).2 <;> simp [hc]
theorem numL_len (g : S32 → Int × Bool) (l : List S32) : (numL g l).length ≤ l.length := by
 unfold numL
 rw [List.length_map]
 exact List.length_filter_le _ _
theorem num_sort (v : Value) (xs : List Int) (w : World) (base : Nat) (hR : Kd.R (Kd.int .i64) 3 w base (fun _ => True) v xs) (hl : xs.length < 4611686018427387904) :
  Calls Try.prog 102 #[v] w fun e w' => e = .returned (.tuple #[]) ∧ Kd.R (Kd.int .i64) 3 w' base (fun _ => True) v (xs.mergeSort fun x y => decide (x ≤ y)) ∧ ∀ w0 : World, w0.heap.size = base → Below base w0 w → Below base w0 w' := by
 have ho := Kd.own_of_R hR
 rcases ho.2 with ⟨rfl, h0⟩ | ⟨g, cap, cur, rfl, hg, hh, hn, hcap, hsz, htk⟩
 {
 obtain rfl : xs = [] := List.eq_nil_of_length_eq_zero h0
 refine (Any.slices_Sort_int_none Try.lays189 none 0 w).mono ?_
 rintro e w' ⟨rfl, rfl⟩
 exact ⟨rfl, by simpa using hR, fun _ _ h => h⟩
 }
 {
 have htk' : cur.toList.take xs.length = xs.map (Value.int .i64) := by simpa [encs] using htk
 refine (Any.slices_Sort_int Try.lays189 g 0 cap xs w (holds_of_blockI hh htk') (blk_lt hh) hl).mono ?_
 rintro e w' ⟨rfl, n, os, rfl⟩
 have hlen : (xs.mergeSort fun x y => decide (x ≤ y)).length = xs.length := List.length_mergeSort _
 refine ⟨rfl, Kd.R_of_own ?_ (fun _ _ => trivial), fun w0 hb0 hB => hB.grown (grownBy_sortedI _) (by have := own_lt ho g rfl; omega) (fun k hk => by injection hk with hk; omega)⟩
 have h2 := ownsRow_sortedI (os := os) (n := n) hlen hg hh hn hcap hsz
 rw [← hlen] at h2
 rw [← hlen]
 simpa [encs] using h2
 }
theorem num_compact (v : Value) (xs : List Int) (w : World) (base : Nat) (hR : Kd.R (Kd.int .i64) 3 w base (fun _ => True) v xs) (hl : xs.length ≤ 9223372036854775807) :
  Calls Try.prog 103 #[v] w fun e w' => ∃ v1, e = .returned v1 ∧ Kd.R (Kd.int .i64) 3 w' base (fun _ => True) v1 (Lib.compact xs) ∧ ∀ w0 : World, w0.heap.size = base → Below base w0 w → Below base w0 w' := by
 have ho := Kd.own_of_R hR
 rcases ho.2 with ⟨rfl, h0⟩ | ⟨g, cap, cur, rfl, hg, hh, hn, hcap, hsz, htk⟩
 {
 obtain rfl : xs = [] := List.eq_nil_of_length_eq_zero h0
 refine (Any.slices_Compact_int_empty Try.lays2_20 none 0 w).mono ?_
 rintro e w' ⟨rfl, rfl⟩
 exact ⟨_, rfl, hR, fun _ _ h => h⟩
 }
 {
 have htk' : cur.toList.take xs.length = xs.map (Value.int .i64) := by simpa [encs] using htk
 refine (Any.slices_Compact_int Try.lays2_20 g 0 cap xs w (holds_of_blockI hh htk') hl hn).mono ?_
 rintro e w' ⟨rfl, q, rfl⟩
 have hle : (Lib.compact xs).length ≤ xs.length := Lib.compact_length_le xs
 obtain ⟨ts, hts⟩ : ∃ ts, Lib.compact xs ++ List.replicate (xs.length - (Lib.compact xs).length) 0 = ts := ⟨_, rfl⟩
 have hlen : ts.length = xs.length := by rw [← hts]; simp; omega
 rw [hts]
 have e0 : ∀ W : World, Sort.grow W #[] = W := fun W => by simp [Sort.grow]
 rw [← e0 (Sort.putRow (Value.int .i64) (Sort.ahead w q) g 0 ts.toArray)]
 refine ⟨_, rfl, Kd.R_of_own ?_ (fun _ _ => trivial), fun w0 hb0 hB => hB.grown (grownBy_sortedI _) (by have := own_lt ho g rfl; omega) (fun k hk => by injection hk with hk; omega)⟩
 have h2 := ownsRow_sortedI (os := #[]) (n := q) hlen hg hh hn hcap hsz
 rcases h2.2 with ⟨h3, _⟩ | ⟨g', cap', cur', h3, hg', hh', hn', hcap', hsz', htk2⟩
 {
 cases h3
 }
 {
 injection h3 with h4 h5 h6
 injection h4 with h4
 injection h4 with h4
 subst h4
 subst h6
 refine ⟨by simp [encs], .inr ⟨g, cap, cur', rfl, hg, hh', by omega, hcap, hsz', ?_⟩⟩
 have h7 : (cur'.toList.take (xs.length * 1)).take (Lib.compact xs).length = (ts.map (Value.int .i64)).take (Lib.compact xs).length := by rw [htk2]
 rw [List.take_take, Nat.mul_one, Nat.min_eq_left hle] at h7
 rw [Nat.mul_one, h7, ← hts]
 simp [encs]
 }
 }
theorem numbers_nv (caps : Array Value) (g : S32 → Int × Bool) (A0 : Option Addr) (c0 : Nat) (l0 : List S32) (w : World) (hr0 : Kd.C k32 w A0 l0.length l0) (hc0 : l0.length ≤ c0) (hl0 : l0.length < 17592186044416)
  (hp : ∀ x, x ∈ l0 → ∀ W, Below w.heap.size w W → Calls Try.prog 75 (#[.agg #[.int .i64 x.f1.f0, .int .i64 x.f1.f1, .int .i64 x.f1.f2, .int .i64 x.f1.f3, .int .i64 x.f1.f4, .string x.f1.f5, .string x.f1.f6, .string x.f1.f7]] ++ caps) W fun e W' => e = .returned (.tuple #[.int .i64 (g x).1, .bool (g x).2]) ∧ Below W.heap.size W W') :
  Calls Try.prog 74 #[.slice A0 l0.length c0, .func (.func 75) #[] caps] w fun e w' => ∃ v0_ : Value, e = .returned (v0_) ∧ Kd.R (Kd.int .i64) 3 w' w.heap.size (fun _ => True) v0_ (numC (numL g l0)) ∧ Below w.heap.size w w' := by
 have hu23 := Try.underlying23
 have hu32 := Try.underlying32
 have hu56 := Try.underlying56
 have HR0 := ak hr0
 have HC0 := ak hc0
 have HP := ak hp
 have hm : l0.length ≤ 9223372036854775807 := hr0.2.1
 have HB := ak (Below.refl w.heap.size w)
 clear hr0 hc0 hp
 go_enter Try.func74, Try.ntmps74
 go_wp2_with (first | ((with_reducible refine gate_dst (N := 10) rfl ?_); refine Kd.R_lit (Kd.int .i64) _ 3 ?hg (N := 10) ?hd (xs := ([] : List Int)) (inner := []) (ok := fun _ => True) (okp := fun _ => True) ?hr ?hp (fun _ hk => hk) trivial (Below.refl _ _) (Nat.le_refl _) (by simp) ?_; (case hd => rfl); (case hg => rfl); (case hr => first | (go_simp; done) | (go_simp; rfl)); (case hp => exact (Reps.none _ _)); intro v443 w3 ho4 hb hg_ hnew_; clear hg_ hnew_; replace HO := ak (Kd.R_lower ho4 (below_size (lG HB))); replace HB := lB HB hb; clear hb ho4))
 go_loopg [5, 13] l0.length (fun kq v5 v13 w' => ∃ (x13 : Int) (i : Nat), v13 = .int .i64 x13 ∧ Aside0 (x13 = (i : Int) ∧ kq + i = l0.length) ∧ Aside0 (Kd.R (Kd.int .i64) 3 w' w.heap.size (fun _ => True) v5 (numL g (l0.take i))) ∧ Aside0 (Below w.heap.size w w'))
 case atStart => exact ⟨0, 0, by first | rfl | (simp; done), ⟨rfl, by omega⟩, ⟨rG HO⟩, ⟨lG HB⟩⟩
 case round =>
  skip;{
 clear HB HO
 obtain ⟨x13, i, rfl, HX, HO, HB⟩ := hrel
 cases gk with
 | zero =>
  skip;{
 have c4 : decide (x13 < (l0.length : Int)) = false := decide_eq_false (by have := HX.out; omega)
 have hall : l0.take i = l0 := List.take_of_length_le (by have := HX.out; omega)
 rw [hall] at HO
 have LM := ak (Nat.lt_of_le_of_lt (numL_len g l0) hl0)
 go_wp2_with (first | (go_at_call 102; refine (num_sort u5 (numL g l0) _ w.heap.size (rG HO) (by have := LM.out; omega)).mono ?_; rintro e w10 ⟨rfl, ho, hb⟩; replace HO := ak ho; replace HB := ak (hb w rfl (lG HB)); clear ho hb; skip) | (go_at_call 103; refine (num_compact u5 _ _ w.heap.size (rG HO) (by rw [List.length_mergeSort]; have := LM.out; omega)).mono ?_; rintro e w11 ⟨v1, rfl, ho, hb⟩; replace HO := ak ho; replace HB := ak (hb w rfl (lG HB)); clear ho hb; skip))
 go_ret
 exact ⟨_, rfl, rG HO, lG HB⟩
 }
 | succ k1 =>
  skip;{
 have c4 : decide (x13 < (l0.length : Int)) = true := decide_eq_true (by have := HX.out; omega)
 have c5 : decide (0 ≤ x13) = true := decide_eq_true (by have := HX.out; omega)
 have hi : i < l0.length := by have := HX.out; omega
 have hstep := numL_take g l0 i hi
 rw [← HX.out.1] at hstep
 have hmem : rd_T32 l0 x13 ∈ l0 := by
  rw [HX.out.1]
  unfold rd_T32
  rw [Int.toNat_natCast, List.getD_eq_getElem?_getD, List.getElem?_eq_getElem hi]
  exact List.getElem_mem hi
 have LM : Aside0 ((numL g (l0.take i)).length < 17592186044415) := ⟨by have := numL_len g (l0.take i); rw [List.length_take] at this; omega⟩
 have p103 : 0 ≤ (x13 : Int) := by have := HX.out; omega
 have q103 : x13 < (l0.length : Int) := by have := HX.out; omega
 obtain ⟨ad103, e103, hx103_0, hx103_1, hx103_2, hx103_3, hx103_4, hx103_5, hx103_6, hx103_7, hx103_8⟩ := at_T32 HR0.out x13 p103 q103
 cases e103
 replace hx103_0 := clB HB hx103_0
 replace hx103_1 := clB HB hx103_1
 replace hx103_2 := clB HB hx103_2
 replace hx103_3 := clB HB hx103_3
 replace hx103_4 := clB HB hx103_4
 replace hx103_5 := clB HB hx103_5
 replace hx103_6 := clB HB hx103_6
 replace hx103_7 := clB HB hx103_7
 replace hx103_8 := clB HB hx103_8
 replace p103 := eq_true p103
 replace q103 := eq_true q103
 obtain ⟨y, hy⟩ : ∃ y, rd_T32 l0 x13 = y := ⟨_, rfl⟩
 rw [hy] at hmem hstep hx103_0 hx103_1 hx103_2 hx103_3 hx103_4 hx103_5 hx103_6 hx103_7 hx103_8
 have HQ0 := HP.out _ hmem
 clear hy hmem
 obtain ⟨y0, ⟨y1, y2, y3, y4, y5, y6, y7, y8⟩⟩ := y
 simp only at hx103_0 hx103_1 hx103_2 hx103_3 hx103_4 hx103_5 hx103_6 hx103_7 hx103_8
 obtain ⟨⟨gn, gb⟩, hgv⟩ : ∃ gv, g (⟨y0, ⟨y1, y2, y3, y4, y5, y6, y7, y8⟩⟩ : S32) = gv := ⟨_, rfl⟩
 simp only [hgv] at HQ0 hstep
 have HQ := ak HQ0
 clear HQ0 hgv
 have e1 : wrap64 (x13 + 1) = x13 + 1 := by have := HX.out; unfold wrap64; omega
 cases gb with
 | false =>
  skip;{
 have HS2 := ak (show numL g (l0.take (i + 1)) = numL g (l0.take i) by rw [hstep]; simp)
 clear hstep
 go_wp2_with (first | ((with_reducible refine gate_dst (N := 7) rfl ?_); refine b9 7 ?_; intro gx hg w7 hbox hb; replace HO := rB HO hb; replace BX := ak (hbox); replace GX := ak (bz hg (lG HB)); replace HB := lB HB hb; replace hx103_0 := clb hb hx103_0; replace hx103_1 := clb hb hx103_1; replace hx103_2 := clb hb hx103_2; replace hx103_3 := clb hb hx103_3; replace hx103_4 := clb hb hx103_4; replace hx103_5 := clb hb hx103_5; replace hx103_6 := clb hb hx103_6; replace hx103_7 := clb hb hx103_7; replace hx103_8 := clb hb hx103_8; clear hb hbox hg; obtain ⟨hcx_0, hcx_1, hcx_2, hcx_3, hcx_4, hcx_5, hcx_6, hcx_7, hcx_8, hfx_0, hfx_1, hfx_2, hfx_3, hfx_4, hfx_5, hfx_6, hfx_7, hfx_8⟩ := bC9 BX; skip) | (go_at_call 75; refine (HQ.out _ (lT HB (gC GX gN))).mono ?_; rintro e w8 ⟨rfl, hb⟩; replace HO := ak (Kd.R_mono (Kd.R_below (rT HO BX (by decide)) hb) (fun _ _ => trivial)); replace HB := ak (below_step (lT HB (gC GX gN)) hb); clear hb BX; skip))
 go_roundg k1
 case measure => omega
 case rel => exact ⟨x13 + 1, i + 1, by first | rfl | (rw [e1]) | (simp [e1]; done), ⟨by have := HX.out; omega, by have := HX.out; omega⟩, by rw [HS2.out]; exact ⟨rG HO⟩, ⟨lG HB⟩⟩
 }
 | true =>
  skip;{
 have HS2 := ak (show numL g (l0.take (i + 1)) = numL g (l0.take i) ++ [gn] by rw [hstep]; simp)
 clear hstep
 go_wp2_with (first | ((with_reducible refine gate_dst (N := 7) rfl ?_); refine b9 7 ?_; intro gx hg w7 hbox hb; replace HO := rB HO hb; replace BX := ak (hbox); replace GX := ak (bz hg (lG HB)); replace HB := lB HB hb; replace hx103_0 := clb hb hx103_0; replace hx103_1 := clb hb hx103_1; replace hx103_2 := clb hb hx103_2; replace hx103_3 := clb hb hx103_3; replace hx103_4 := clb hb hx103_4; replace hx103_5 := clb hb hx103_5; replace hx103_6 := clb hb hx103_6; replace hx103_7 := clb hb hx103_7; replace hx103_8 := clb hb hx103_8; clear hb hbox hg; obtain ⟨hcx_0, hcx_1, hcx_2, hcx_3, hcx_4, hcx_5, hcx_6, hcx_7, hcx_8, hfx_0, hfx_1, hfx_2, hfx_3, hfx_4, hfx_5, hfx_6, hfx_7, hfx_8⟩ := bC9 BX; skip) | (go_at_call 75; refine (HQ.out _ (lT HB (gC GX gN))).mono ?_; rintro e w8 ⟨rfl, hb⟩; replace HO := ak (Kd.R_mono (Kd.R_below (rT HO BX (by decide)) hb) (fun _ _ => trivial)); replace HB := ak (below_step (lT HB (gC GX gN)) hb); clear hb BX; skip) | ((with_reducible refine gate_builtin (b := .append) (xs := #[.tmp 25, .tmp 27]) rfl ?_); at_builtin; refine Kd.R_append (Kd.int .i64) (w0 := w) w.heap.size rfl (.tmp 25) (.tmp 27) 56 3 (.int .i64 0) 8 rfl Try.underlying56 info3 rfl (by decide) (by omega) u5 (numL g (l0.take i)) gn [.int .i64 gn] (fun _ => True) (fun _ => False) rfl rfl ?aP (fun _ hk => hk.elim) ?aF ?aO ?aB ?aS ?aL ?_; (case aP => exact rfl); (case aB => exact (lG HB)); (case aF => exact (fun _ _ => trivial)); (case aO => exact (rG HO)); (case aS => exact (below_size (lG HB))); (case aL => have := LM.out; omega); intro v448 w9 ho hb hg hat; replace HB := ak (hb); replace HO := ak (ho); clear ho hb hg hat))
 go_roundg k1
 case measure => omega
 case rel => exact ⟨x13 + 1, i + 1, by first | rfl | (rw [e1]) | (simp [e1]; done), ⟨by have := HX.out; omega, by have := HX.out; omega⟩, by rw [HS2.out]; exact ⟨rG HO⟩, ⟨lG HB⟩⟩
 }
 }
 }
def nvG (x : S32) : Int × Bool := (x.f1.f1, x.f1.f0 == 1)
theorem clo_nv (x : S32) (W : World) : Calls Try.prog 75 #[.agg #[.int .i64 x.f1.f0, .int .i64 x.f1.f1, .int .i64 x.f1.f2, .int .i64 x.f1.f3, .int .i64 x.f1.f4, .string x.f1.f5, .string x.f1.f6, .string x.f1.f7]] W fun e W' => e = .returned (.tuple #[.int .i64 (nvG x).1, .bool (nvG x).2]) ∧ Below W.heap.size W W' := by
 have hu23 := Try.underlying23
 unfold nvG
 obtain ⟨x0, ⟨x1, x2, x3, x4, x5, x6, x7, x8⟩⟩ := x
 simp only
 have HB := ak (Below.refl W.heap.size W)
 go_enter Try.func75, Try.ntmps75
 go_wp2_with (first | ((with_reducible refine gate_dst (N := 1) rfl ?_); refine bx 1 #[.int .i64 x1, .int .i64 x2, .int .i64 x3, .int .i64 x4, .int .i64 x5, .string x6, .string x7, .string x8] 23 ?_; intro gb hg w5 hbox hb; replace BX := ak (hbox); replace HB := lB HB hb; clear hb hbox hg; obtain ⟨_, _, _, _, _, _, _, _, _, _, _, _, _, _, _, _⟩ := bC8 BX; skip))
 repeat (go_quiet (fail); try go_wp2)
 go_ret2
 exact ⟨rfl, lG HB⟩
def impl_numbers_valid.f (l0 : List S32) : Option (List Int) := if l0.length < 17592186044416 then some (numC (numL nvG l0)) else none
theorem impl_numbers_valid.calls (A0 : Option Addr) (c0 : Nat) (l0 : List S32) (r : List Int) (w : World) (hr0 : Kd.C k32 w A0 l0.length l0) (hc0 : l0.length ≤ c0) (h : impl_numbers_valid.f l0 = some r) :
  Calls Try.prog 74 #[.slice A0 l0.length c0, .func (.func 75) #[] #[]] w fun e w' => ∃ v0_ : Value, e = .returned (v0_) ∧ Kd.R (Kd.int .i64) 3 w' w.heap.size (fun _ => True) v0_ r ∧ Below w.heap.size w w' := by
 unfold impl_numbers_valid.f at h
 split at h
 {
 next hl =>
 obtain rfl := Option.some.inj h
 exact numbers_nv #[] nvG A0 c0 l0 w hr0 hc0 hl (fun x _ W _ => clo_nv x W)
 }
 {
 cases h
 }
end Go.Proofs.Ytagkjeldheiejaa.PFnStatesTold
