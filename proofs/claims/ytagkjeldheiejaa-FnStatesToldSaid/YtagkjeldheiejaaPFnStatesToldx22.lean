-- printed
import Derived.Test.YtagkjeldheiejaaPFnStatesToldx0
import Derived.Test.YtagkjeldheiejaaVFnStatesTold1
namespace Go.Proofs.Ytagkjeldheiejaa.PFnStatesTold
open Go.RowKit YtagkjeldheiejaaW.PrintWords YtagkjeldheiejaaW.PrintLast YtagkjeldheiejaaW.PrintMore
set_option linter.unusedVariables false
set_option linter.unusedSimpArgs false
attribute [local go_sem] max2_int min2_int max_two min_two max_three min_three max_four min_four
set_option maxHeartbeats 4000000
set_option maxRecDepth 100000
-- NOT PRINTED: function 115 (impl_Box_115)
-- NOT PRINTED: function 90 (impl_Box_90)
theorem idx_bx (caps : Array Value) (p : S66 → Bool) (A0 : Option Addr) (c0 : Nat) (l0 : List S66) (w : World) (hr0 : Kd.C k66 w A0 l0.length l0) (hc0 : l0.length ≤ c0)
  (hp : ∀ x, x ∈ l0 → ∀ (AA : Option Addr) (cc : Nat) W, Below w.heap.size w W → Calls Try.prog 91 (#[.agg #[.int .i64 x.f0, .string x.f1, .string x.f2, .int .i64 x.f3, .slice AA x.f4.length cc]] ++ caps) W fun e W' => e = .returned (.bool (p x)) ∧ Below W.heap.size W W') :
  Calls Try.prog 115 #[.slice A0 l0.length c0, .func (.func 91) #[] caps] w fun e w' => ∃ v : Int, e = .returned (.int .i64 v) ∧ Aside0 (decide (0 ≤ v) = l0.any p) ∧ Below w.heap.size w w' := by
 have HR0 := Aside0.mk hr0
 have HC0 := Aside0.mk hc0
 have HP := Aside0.mk hp
 have hm : l0.length ≤ 9223372036854775807 := hr0.2.1
 clear hr0 hc0 hp
 have HB := ak (Below.refl w.heap.size w)
 go_enter Try.func115, Try.ntmps115
 go_wp2
 go_loopg [8] l0.length (fun kq v8 w' => ∃ x8 : Int, v8 = .int .i64 x8 ∧ Aside0 (0 ≤ x8 ∧ x8 + kq = l0.length ∧ ∀ x, x ∈ l0.take x8.toNat → p x = false) ∧ Aside0 (Below w.heap.size w w'))
 case atStart => exact ⟨0, by first | rfl | (simp; done), ⟨by omega, by omega, by simp⟩, ⟨by first | exact HB.out | exact Below.refl _ _⟩⟩
 case round =>
  skip;{
 obtain ⟨x8, rfl, HX, HB⟩ := hrel
 by_cases c4 : x8 < (l0.length : Int)
 {
 have c4b0 : decide (x8 < (l0.length : Int)) = true := decide_eq_true c4
 have c5b0 : decide (0 ≤ x8) = true := decide_eq_true HX.out.1
 have hl : x8.toNat < l0.length := by have := HX.out.1; omega
 have hmem : rd_T66 l0 x8 ∈ l0 := by
  unfold rd_T66
  rw [List.getD_eq_getElem?_getD, List.getElem?_eq_getElem hl]
  exact List.getElem_mem hl
 have HQ := ak (fun AA cc W hW => HP.out _ hmem AA cc W hW)
 clear c4 hl hmem
 have p103 : 0 ≤ (x8 : Int) := oda
 have q103 : x8 < (l0.length : Int) := oda
 obtain ⟨ad103, A4, c4, e103, hx103_0, hx103_1, hx103_2, hx103_3, hx103_4, hl103, hi103⟩ := at_T66 HR0.out x8 p103 q103
 cases e103
 clear hl103 hi103
 replace hx103_0 := clB HB hx103_0
 replace hx103_1 := clB HB hx103_1
 replace hx103_2 := clB HB hx103_2
 replace hx103_3 := clB HB hx103_3
 replace hx103_4 := clB HB hx103_4
 replace p103 := eq_true p103
 replace q103 := eq_true q103
 obtain ⟨b, hb0⟩ : ∃ b, p (rd_T66 l0 x8) = b := ⟨_, rfl⟩
 have HPB := Aside0.mk hb0
 rw [hb0] at HQ
 clear hb0
 cases b with
 | true =>
  skip;{
 go_wp2_with (go_at_call 91; refine (HQ.out _ _ _ HB.out).mono ?_; rintro e w8 ⟨rfl, hb⟩; replace HB := ak (below_step (by exact HB.out) hb); clear hb)
 go_ret
 have h0 : 0 ≤ x8 := HX.out.1
 have hl : x8.toNat < l0.length := by have := HX.out.1; have := of_eq_true q103; omega
 refine ⟨x8, rfl, ⟨?_⟩, HB.out⟩
 rw [decide_eq_true h0]
 symm
 rw [List.any_eq_true]
 refine ⟨rd_T66 l0 x8, ?_, HPB.out⟩
 unfold rd_T66
 rw [List.getD_eq_getElem?_getD, List.getElem?_eq_getElem hl]
 exact List.getElem_mem hl
 }
 | false =>
  skip;{
 cases gk with
 | zero => exact absurd HX.out (by have := of_eq_true q103; omega)
 | succ k1 =>
 go_wp2_with (go_at_call 91; refine (HQ.out _ _ _ HB.out).mono ?_; rintro e w8 ⟨rfl, hb⟩; replace HB := ak (below_step (by exact HB.out) hb); clear hb)
 go_roundg k1
 case measure => omega
 case rel =>
  skip;{
 have h0 : 0 ≤ x8 := HX.out.1
 have h1 := HX.out.2.1
 have hl : x8.toNat < l0.length := by have := of_eq_true q103; omega
 have e1 : wrap64 (x8 + 1) = x8 + 1 := by unfold wrap64; omega
 refine ⟨x8 + 1, by first | rfl | (rw [e1]) | (simp [e1]; done), ⟨by omega, by omega, ?_⟩, HB⟩
 intro x hx
 rw [show (x8 + 1).toNat = x8.toNat + 1 by omega, List.take_succ_eq_append_getElem hl] at hx
 rcases List.mem_append.1 hx with hx | hx
 {
 exact HX.out.2.2 x hx
 }
 {
 have hx' := List.mem_singleton.1 hx
 subst hx'
 have := HPB.out
 unfold rd_T66 at this
 rw [List.getD_eq_getElem?_getD, List.getElem?_eq_getElem hl] at this
 exact this
 }
 }
 }
 }
 {
 have c4b0 : decide (x8 < (l0.length : Int)) = false := decide_eq_false c4
 clear c4
 go_wp2
 go_ret
 have h0 : 0 ≤ x8 := HX.out.1
 have h1 := HX.out.2.1
 have h2 := of_decide_eq_false c4b0
 refine ⟨-1, rfl, ⟨?_⟩, HB.out⟩
 symm
 rw [decide_eq_false (by omega)]
 rw [List.any_eq_false]
 intro x hx
 have := HX.out.2.2 x (by rw [List.take_of_length_le (by omega)]; exact hx)
 simp [this]
 }
 }
theorem cont_bx (caps : Array Value) (p : S66 → Bool) (A0 : Option Addr) (c0 : Nat) (l0 : List S66) (w : World) (hr0 : Kd.C k66 w A0 l0.length l0) (hc0 : l0.length ≤ c0)
  (hp : ∀ x, x ∈ l0 → ∀ (AA : Option Addr) (cc : Nat) W, Below w.heap.size w W → Calls Try.prog 91 (#[.agg #[.int .i64 x.f0, .string x.f1, .string x.f2, .int .i64 x.f3, .slice AA x.f4.length cc]] ++ caps) W fun e W' => e = .returned (.bool (p x)) ∧ Below W.heap.size W W') :
  Calls Try.prog 90 #[.slice A0 l0.length c0, .func (.func 91) #[] caps] w fun e w' => e = .returned (.bool (l0.any p)) ∧ Below w.heap.size w w' := by
 have HC := ak (fun (W : World) => idx_bx caps p A0 c0 l0 w hr0 hc0 hp)
 clear hr0 hc0 hp
 go_enter Try.func90, Try.ntmps90
 go_wp2_with (go_at_call 115; refine (HC.out w).mono ?_; rintro e w8 ⟨v, rfl, hv, hb⟩)
 go_ret
 exact ⟨by rw [← hv.out]; rfl, hb⟩
def bxP (a1 a2 : ByteArray) (x : S66) : Bool := (x.f1.toList == a1.toList) && (x.f2.toList == a2.toList)
theorem clo_bx (gb : Nat) (v0 v3 v4 : Value) (a1 a2 : ByteArray) (x : S66) (AA : Option Addr) (cc : Nat) (W : World) (hb : W.heap[gb]? = some (.cells #[v0, .string a1, .string a2, v3, v4] 66 (0, 0))) :
  Calls Try.prog 91 #[.agg #[.int .i64 x.f0, .string x.f1, .string x.f2, .int .i64 x.f3, .slice AA x.f4.length cc], .pointer (some ⟨gb, 0, none⟩)] W fun e W' => e = .returned (.bool (bxP a1 a2 x)) ∧ Below W.heap.size W W' := by
 have huW := Try.underlying66
 have BK := ak hb
 obtain ⟨y0, y1, y2, y3, y4⟩ := x
 have hx : ∀ o, (W.alloc o).heap[gb]? = some (.cells #[v0, .string a1, .string a2, v3, v4] 66 (0, 0)) := fun o => blk_alloc BK.out o
 have h1 : ∀ o, (W.alloc o).cell? ⟨gb, 1, none⟩ = some (.string a1) := fun o => bc (ak (hx o)) 1
 have h2 : ∀ o, (W.alloc o).cell? ⟨gb, 2, none⟩ = some (.string a2) := fun o => bc (ak (hx o)) 2
 have HA := ak (fun o => below_alloc (Below.refl W.heap.size W) o)
 clear hx BK hb
 by_cases c0 : y1.toList = a1.toList
 {
 have c0b : (y1.toList == a1.toList) = true := beq_iff_eq.mpr c0
 have HE := ak (show bxP a1 a2 ⟨y0, y1, y2, y3, y4⟩ = (y2.toList == a2.toList) by unfold bxP; rw [c0b]; rfl)
 clear c0
 go_enter Try.func91, Try.ntmps91
 go_wp2
 go_ret
 exact ⟨by rw [HE.out]; rfl, HA.out _⟩
 }
 {
 have c0b : (y1.toList == a1.toList) = false := beq_eq_false_iff_ne.mpr c0
 have HE := ak (show bxP a1 a2 ⟨y0, y1, y2, y3, y4⟩ = false by unfold bxP; rw [c0b]; rfl)
 clear c0
 go_enter Try.func91, Try.ntmps91
 go_wp2
 go_ret
 exact ⟨by rw [HE.out]; rfl, HA.out _⟩
 }
def impl_anyBox.f (l0 : List S66) (a1 : ByteArray) (a2 : ByteArray) : Option Bool := some (l0.any (bxP a1 a2))
theorem impl_anyBox.calls (gv : Nat) (A0 : Option Addr) (c0 : Nat) (l0 : List S66) (a1 : ByteArray) (a2 : ByteArray) (r : Bool) (w : World) (hv : ∃ v0 v3 v4, w.heap[gv]? = some (.cells #[v0, .string a1, .string a2, v3, v4] 66 (0, 0))) (hr0 : Kd.C k66 w A0 l0.length l0) (hc0 : l0.length ≤ c0) (h : impl_anyBox.f l0 a1 a2 = some r) :
  Calls Try.prog 90 #[.slice A0 l0.length c0, .func (.func 91) #[] #[.pointer (some ⟨gv, 0, none⟩)]] w fun e w' => e = .returned (.bool r) ∧ Below w.heap.size w w' := by
 obtain rfl := Option.some.inj h
 obtain ⟨v0, v3, v4, hv⟩ := hv
 exact cont_bx #[.pointer (some ⟨gv, 0, none⟩)] (bxP a1 a2) A0 c0 l0 w hr0 hc0 (fun x _ AA cc W hW => clo_bx gv v0 v3 v4 a1 a2 x AA cc W (blk_below hv hW))
end Go.Proofs.Ytagkjeldheiejaa.PFnStatesTold
