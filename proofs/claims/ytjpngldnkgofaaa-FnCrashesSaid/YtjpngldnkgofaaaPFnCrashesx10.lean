-- Written for this claim by a program of mine (a turned copy of the kit's print): functions as plain Lean, and their contracts. Lean checks it.
import Derived.Test.YtjpngldnkgofaaaPFnCrashesx0
import Derived.Test.YtjpngldnkgofaaaPFnCrashesx5
import Derived.Test.YtjpngldnkgofaaaPFnCrashesx9
import Derived.Test.YtjpngldnkgofaaaVFnCrashes1
namespace Go.Proofs.Ytjpngldnkgofaaa.PFnCrashes
open Go.RowKit Go.Proofs.YtjpngldnkgofaaaW.PrintWords Go.Proofs.YtjpngldnkgofaaaW.PrintLast Go.Proofs.YtjpngldnkgofaaaW.PrintMore
attribute [local go_sem] max2_int min2_int max_two min_two max_three min_three max_four min_four   -- for this text's walks alone
set_option linter.unusedVariables false
set_option linter.unusedSimpArgs false

/-! ### spec_l01New: function 45 -/
def spec_l01New.l0 : Nat → List Int → Int → Int → Option (List Int × Int × Int)
 | 0, _, _, _ => none
 | k + 1, x0, x3, x4 => if x4 < (x0.length : Int) then (if x4 < 4000 then (if 0 ≤ x4 then (spec_l01New.l0 k x0 (Go.bits .and .i64 (wrap64 ((wrap64 ((wrap64 (x3 * 131)) + (wrap64 (rd x0 x4)))) + 7)) 1073741823) (wrap64 (x4 + 1))) else (none)) else (some (x0, 0, x3))) else (some (x0, 0, x3))
def spec_l01New.f (k : Nat) (l0 : List Int) : Option (List Int × Int × Int) := spec_l01New.l0 k l0 (wrap64 (76001 + (l0.length : Int))) 0
theorem spec_l01New.mono_l : ∀ k, (∀ y0 y1 y2, LeO (spec_l01New.l0 k y0 y1 y2) (spec_l01New.l0 (k + 1) y0 y1 y2))
 | 0 => fun _ _ _ r h => by simp [spec_l01New.l0] at h
 | k + 1 => by
  have ih0 := spec_l01New.mono_l k
  ·intro y0 y1 y2
   unfold spec_l01New.l0
   repeat' first
   | (with_reducible exact ih0 _ _ _)
   | (with_reducible exact LeO.refl _)
   | (with_reducible exact LeO.none _)
   | (with_reducible refine LeO.ite ?_ ?_)
   | (with_reducible refine LeO.bind ?_ (fun _ => ?_))
   | exact ih0 _ _ _
   | exact LeO.none _
   | refine LeO.ite ?_ ?_
   | refine LeO.bind ?_ (fun _ => ?_)
theorem spec_l01New.mono : ∀ a0 k, LeO (spec_l01New.f k a0) (spec_l01New.f (k + 1) a0) := by
 intro a0 k
 have ih0 := spec_l01New.mono_l k
 unfold spec_l01New.f
 repeat' first
   | (with_reducible exact ih0 _ _ _)
   | (with_reducible exact LeO.refl _)
   | (with_reducible exact LeO.none _)
   | (with_reducible refine LeO.ite ?_ ?_)
   | (with_reducible refine LeO.bind ?_ (fun _ => ?_))
   | exact ih0 _ _ _
   | exact LeO.none _
   | refine LeO.ite ?_ ?_
   | refine LeO.bind ?_ (fun _ => ?_)
set_option maxHeartbeats 8000000 in
set_option maxRecDepth 100000 in
theorem spec_l01New.calls (k : Nat) (A0 : Option Addr) (c0 : Nat) (l0 : List Int) (r1 : List Int) (r2 : Int) (r3 : Int) (w0 w : World) (hB : Below w0.heap.size w0 w) (hr0 : Kd.C (Kd.int .u8) w0 A0 l0.length l0) (hc0 : l0.length ≤ c0) (h : spec_l01New.f k l0 = some (r1, r2, r3)) :
  Calls Try.prog 45 #[.slice A0 l0.length c0] w fun e w' => ∃ g_ : Nat, e = .returned (.pointer (some ⟨g_, 0, none⟩)) ∧ IsS80 w0 w' g_ r1 r2 r3 ∧ Below w0.heap.size w0 w' ∧ Below w.heap.size w w' := by
 have hu80 := Try.underlying80
 have HR0 := Aside0.mk hr0
 have HC0 := Aside0.mk hc0
 clear hr0 hc0
 have HBW := ak (Below.refl w.heap.size w)
 have HW0 := Aside0.mk hB.size
 have HB := Aside0.mk hB
 clear hB
 have H : (spec_l01New.l0 k l0 (wrap64 (76001 + (l0.length : Int))) 0) = some (r1, r2, r3) := h
 clear h
 have H' := Aside0.mk H
 clear H
 go_enter Try.func45, Try.ntmps45
 go_wp2
 go_loopg [3, 4] k (fun kq v3 v4 w' => ∃ (x3_1 : Int) (x4_1 : Int), v3 = .int .i64 x3_1 ∧ v4 = .int .i64 x4_1 ∧ Aside0 (spec_l01New.l0 kq l0 x3_1 x4_1 = some (r1, r2, r3)) ∧ Aside0 (kq ≤ k) ∧ Aside0 (Below w0.heap.size w0 w') ∧ Aside0 (Below w.heap.size w w'))
 case atStart => exact ⟨(wrap64 (76001 + (l0.length : Int))), (0), (by first | rfl | (simp; done) | (simp [*]; done)), (by first | rfl | (simp; done) | (simp [*]; done)), H', ⟨Nat.le_refl _⟩, ⟨by exact lG HB⟩, ⟨by exact lG HBW⟩⟩
 case round =>
  clear H'
  obtain ⟨x3_1, x4_1, rfl, rfl, HA, HK1, HB, HBW⟩ := hrel
  cases gk with
  | zero => exact absurd HA.out (by simp [spec_l01New.l0])
  | succ k1 =>
   have H := HA.out
   clear HA
   simp only [spec_l01New.l0] at H
   by_cases c2 : x4_1 < (l0.length : Int)
   ·rw [if_pos c2] at H
    have c2b0 : decide (x4_1 < (l0.length : Int)) = true := decide_eq_true c2
    clear c2
    by_cases c3 : x4_1 < 4000
    ·rw [if_pos c3] at H
     have c3b0 : decide (x4_1 < 4000) = true := decide_eq_true c3
     clear c3
     by_cases c4 : 0 ≤ x4_1
     ·rw [if_pos c4] at H
      have c4b0 : decide (0 ≤ x4_1) = true := decide_eq_true c4
      clear c4
      have H' := Aside0.mk H
      clear H
      have p273 : 0 ≤ (x4_1 : Int) := of_decide_eq_true (by first | (with_reducible assumption) | assumption)
      have q273 : x4_1 < (l0.length : Int) := of_decide_eq_true (by first | (with_reducible assumption) | assumption)
      obtain ⟨ad273, e273, hx273_0⟩ := Kd.at_int HR0.out x4_1 p273 q273
      cases e273
      replace hx273_0 := pw_cell_below HB.out hx273_0
      replace p273 := eq_true p273
      replace q273 := eq_true q273
      go_wp2
      go_roundg k1
      case measure => have := HK1.out; omega
      case rel => exact ⟨(Go.bits .and .i64 (wrap64 ((wrap64 ((wrap64 (x3_1 * 131)) + (wrap64 (rd l0 x4_1)))) + 7)) 1073741823), (wrap64 (x4_1 + 1)), (by first | rfl | (simp; done) | (simp [*]; done)), (by first | rfl | (simp; done) | (simp [*]; done)), H', ⟨by have := HK1.out; omega⟩, ⟨by exact lG HB⟩, ⟨by exact lG HBW⟩⟩
     ·rw [if_neg c4] at H
      exact absurd H (by simp)
    ·rw [if_neg c3] at H
     have c3b0 : decide (x4_1 < 4000) = false := decide_eq_false c3
     clear c3
     simp only [Option.some.injEq, Prod.mk.injEq] at H
     obtain ⟨rfl, rfl, rfl⟩ := H
     go_wp2_with (first | ((with_reducible refine gate_dst (N := 31) rfl ?_); refine bx 31 #[.slice A0 l0.length c0, .int .i64 0, .int .i64 x3_1] 80 ?_; intro gb274 hg w5 hbox hb; replace HB := lB HB hb; replace BK274 := ak (hbox); replace GW274 := ak ((by rw [hg]; exact (below_size (by repeat (first | (with_reducible first | exact HBW.out | apply below_alloc | apply pw_below_drewN | apply below_drew1) | exact HBW.out))) : w.heap.size ≤ gb274)); replace GE274 := ak ((Nat.le_trans HW0.out (by rw [hg]; exact (below_size (by repeat (first | (with_reducible first | exact HBW.out | apply below_alloc | apply pw_below_drewN | apply below_drew1) | exact HBW.out))) : w.heap.size ≤ gb274) : w0.heap.size ≤ gb274)); replace HBW := ak (below_step HBW.out hb); clear hb hbox hg))
     go_ret
     exact ⟨_, rfl, (show IsS80 w0 _ gb274 l0 0 x3_1 from ⟨_, _, by (with_reducible repeat (first | refine blk_drewN ?_ _ | refine blk_drew ?_ | refine blk_alloc ?_ _)); exact BK274.out, GE274.out, HR0.out⟩), by exact lT HB (gC GE274 gN), by repeat (first | (with_reducible first | exact HBW.out | apply below_alloc | apply pw_below_drewN | apply below_drew1 | refine below_set ?_ GW274.out) | exact HBW.out)⟩
   ·rw [if_neg c2] at H
    have c2b0 : decide (x4_1 < (l0.length : Int)) = false := decide_eq_false c2
    clear c2
    simp only [Option.some.injEq, Prod.mk.injEq] at H
    obtain ⟨rfl, rfl, rfl⟩ := H
    go_wp2_with (first | ((with_reducible refine gate_dst (N := 31) rfl ?_); refine bx 31 #[.slice A0 l0.length c0, .int .i64 0, .int .i64 x3_1] 80 ?_; intro gb275 hg w6 hbox hb; replace HB := lB HB hb; replace BK275 := ak (hbox); replace GW275 := ak ((by rw [hg]; exact (below_size (by repeat (first | (with_reducible first | exact HBW.out | apply below_alloc | apply pw_below_drewN | apply below_drew1) | exact HBW.out))) : w.heap.size ≤ gb275)); replace GE275 := ak ((Nat.le_trans HW0.out (by rw [hg]; exact (below_size (by repeat (first | (with_reducible first | exact HBW.out | apply below_alloc | apply pw_below_drewN | apply below_drew1) | exact HBW.out))) : w.heap.size ≤ gb275) : w0.heap.size ≤ gb275)); replace HBW := ak (below_step HBW.out hb); clear hb hbox hg))
    go_ret
    exact ⟨_, rfl, (show IsS80 w0 _ gb275 l0 0 x3_1 from ⟨_, _, by (with_reducible repeat (first | refine blk_drewN ?_ _ | refine blk_drew ?_ | refine blk_alloc ?_ _)); exact BK275.out, GE275.out, HR0.out⟩), by exact lT HB (gC GE275 gN), by repeat (first | (with_reducible first | exact HBW.out | apply below_alloc | apply pw_below_drewN | apply below_drew1 | refine below_set ?_ GW275.out) | exact HBW.out)⟩

/-! ### spec_DrawDisk: function 10 -/
def spec_DrawDisk.f (k : Nat) (l0 : List Int) : Option (List ByteArray × (List (S63))) := (spec_l01New.f k l0).bind fun bt277 => ((spec_l03Disk.f k bt277.1 bt277.2.1 bt277.2.2).bind fun bt281 => (some (bt281.1, bt281.2.1)))
theorem spec_DrawDisk.mono : ∀ a0 k, LeO (spec_DrawDisk.f k a0) (spec_DrawDisk.f (k + 1) a0) := by
 intro a0 k
 unfold spec_DrawDisk.f
 repeat' first
   | (with_reducible exact spec_l01New.mono _ _)
   | (with_reducible exact spec_l03Disk.mono _ _ _ _)
   | (with_reducible exact LeO.refl _)
   | (with_reducible exact LeO.none _)
   | (with_reducible refine LeO.ite ?_ ?_)
   | (with_reducible refine LeO.bind ?_ (fun _ => ?_))
   | exact spec_l01New.mono _ _
   | exact spec_l03Disk.mono _ _ _ _
   | exact LeO.none _
   | refine LeO.ite ?_ ?_
   | refine LeO.bind ?_ (fun _ => ?_)
set_option maxHeartbeats 8000000 in
set_option maxRecDepth 100000 in
theorem spec_DrawDisk.calls (k : Nat) (A0 : Option Addr) (c0 : Nat) (l0 : List Int) (r1 : List ByteArray) (r2 : List (S63)) (w : World) (hr0 : Kd.C (Kd.int .u8) w A0 l0.length l0) (hc0 : l0.length ≤ c0) (h : spec_DrawDisk.f k l0 = some (r1, r2)) :
  Calls Try.prog 10 #[.slice A0 l0.length c0] w fun e w' => ∃ v0_ v1_ : Value, e = .returned (.agg #[v0_, v1_]) ∧ Kd.R Kd.string 9 w' w.heap.size (fun _ => True) v0_ r1 ∧ Kd.R k63 63 w' w.heap.size (fun _ => True) v1_ r2 ∧ Below w.heap.size w w' := by
 have hu27 := Try.underlying27
 have HR0 := Aside0.mk hr0
 have HC0 := Aside0.mk hc0
 clear hr0 hc0
 have HB := ak (Below.refl w.heap.size w)
 have H : ((spec_l01New.f k l0).bind fun bt277 => ((spec_l03Disk.f k bt277.1 bt277.2.1 bt277.2.2).bind fun bt281 => (some (bt281.1, bt281.2.1)))) = some (r1, r2) := h
 clear h
 replace H := Option.bind_eq_some_iff.mp H
 obtain ⟨⟨t277, t278, t279⟩, A20, H⟩ := H
 replace H : ((spec_l03Disk.f k t277 t278 t279).bind fun bt281 => (some (bt281.1, bt281.2.1))) = some (r1, r2) := H
 have A2 := Aside0.mk A20
 clear A20
 replace H := Option.bind_eq_some_iff.mp H
 obtain ⟨⟨t281, t284, t287, t288⟩, A30, H⟩ := H
 replace H : (some (t281, t284)) = some (r1, r2) := H
 have A3 := Aside0.mk A30
 clear A30
 simp only [Option.some.injEq, Prod.mk.injEq] at H
 obtain ⟨rfl, rfl⟩ := H
 go_enter Try.func10, Try.ntmps10
 go_wp2_with (first | ((with_reducible refine gate_dst (N := 2) rfl ?_); refine bx 2 #[.slice none 0 0, .slice none 0 0] 27 ?_; intro gb276 hg w4 hbox hb; replace BK276 := ak (hbox); replace GW276 := ak (bz hg (lG HB)); replace GE276 := ak (bz hg (lG HB)); replace HB := lB HB hb; clear hb hbox hg) | ((with_reducible refine gate_callee (f := 45) rfl ?_); refine gl (some 4) Try.func45 #[.slice A0 l0.length c0] ?_; (with_reducible refine (spec_l01New.calls k _ _ l0 t277 t278 t279 w _ ?side1 ?side2 ?side3 A2.out).mono ?_); (case side1 => exact lT HB (gC GE276 gN)); (case side2 => exact HR0.out); (case side3 => exact HC0.out); rintro e w5 ⟨g280, rfl, hi, hb, hb2⟩; refine ⟨_, rfl, ?_⟩; replace HB := ak (hb); replace HI280 := ak (hi); replace NB280_276 := ak (IsS80.ne_blk hi (blk_below (bG BK276) hb2) (by decide)); replace NB276_280 := ak (Ne.symm (IsS80.ne_blk hi (blk_below (bG BK276) hb2) (by decide))); replace BK276 := ak (blk_below (bG BK276) hb2); (try clear hb); (try clear hb2); (try clear hk); (try clear hi)) | ((with_reducible refine gate_callee (f := 44) rfl ?_); refine gl (some 5) Try.func44 #[.pointer (some ⟨g280, 0, none⟩)] ?_; (with_reducible refine (spec_l03Disk.calls k g280 t277 t278 t279 t281 t284 t287 t288 w _ ?side1 ?side2 A3.out).mono ?_); (case side1 => repeat (first | (with_reducible first | exact HI280.out | apply IsS80.alloc | apply IsS80.drewN | apply IsS80.drew | apply IsS80.set_1 | apply IsS80.set_2 | refine IsS80.far ?_ NB280_276.out _) | exact HI280.out)); (case side2 => repeat (first | (with_reducible first | exact HB.out | apply below_alloc | apply pw_below_drewN | apply below_drew1 | refine below_set ?_ (IsS80.ge HI280.out) | refine below_set ?_ GE276.out) | exact HB.out)); rintro e w6 ⟨v282, v285, rfl, ho0, ho1, hi, hb, hk⟩; refine ⟨_, rfl, ?_⟩; replace BK276 := ak (KeepBut.blk hk (g' := gb276) (o := .cells #[.slice none 0 0, .slice none 0 0] 27 (0, 0)) (bG BK276) NB276_280.out (by simp)); replace HO283 := ak (Kd.R_lower ho0 (below_size (by repeat (first | (with_reducible first | exact HB.out | apply below_alloc | apply pw_below_drewN | apply below_drew1 | refine below_set ?_ (IsS80.ge HI280.out) | refine below_set ?_ GE276.out) | exact HB.out)))); replace HO286 := ak (Kd.R_lower ho1 (below_size (by repeat (first | (with_reducible first | exact HB.out | apply below_alloc | apply pw_below_drewN | apply below_drew1 | refine below_set ?_ (IsS80.ge HI280.out) | refine below_set ?_ GE276.out) | exact HB.out)))); replace HB := ak (hb); replace HI280 := ak (hi); (try clear hb); (try clear hb2); (try clear hk); (try clear hi); (try clear ho0); (try clear ho1); obtain ⟨Ao7, co7, eo7⟩ := Kd.R_slice HO283.out; subst eo7; have hnb8 := NB276_280.out; have hnc8 := NB280_276.out; obtain ⟨hcz9_0, hcz9_1, hfz9_0, hfz9_1⟩ := bC2 BK276; obtain ⟨Ao10, co10, eo10⟩ := Kd.R_slice HO286.out; subst eo10))
 refine bodyPost_ret (results_cell_row rfl _ _ gb276 27 #[.slice Ao7 t281.length co7, .slice Ao10 t284.length co10] (0, 0) _ rfl (by (with_reducible repeat (first | refine blk_drewN ?_ _ | refine blk_drew ?_ | refine blk_alloc ?_ _)); refine blk_put (cs := #[.slice Ao7 t281.length co7, .slice none 0 0]) ?_ 1 _ rfl; (with_reducible repeat (first | refine blk_drewN ?_ _ | refine blk_drew ?_ | refine blk_alloc ?_ _)); refine blk_put (cs := #[.slice none 0 0, .slice none 0 0]) ?_ 0 _ rfl; (with_reducible repeat (first | refine blk_drewN ?_ _ | refine blk_drew ?_ | refine blk_alloc ?_ _)); exact BK276.out) Try.underlying27 rfl (by kernel_rfl)) rfl ?_
 exact ⟨_, _, by first | rfl | (simp [errW_none, errW_some] <;> rfl) | (simp [*, errW_none, errW_some] <;> rfl), by (with_reducible repeat (first | apply Kd.R_alloc | apply Kd.R_drewN | apply Kd.R_drew)); exact Kd.R_mono (Kd.R_far (p := ⟨gb276, 1, none⟩) (Kd.R_far (p := ⟨gb276, 0, none⟩) (Kd.R_types HO283.out BK276.out (by decide)) (fun _ hk => hk.2) (.slice Ao7 t281.length co7)) (fun _ hk => hk.2) (.slice Ao10 t284.length co10)) (fun _ hk => trivial), by (with_reducible repeat (first | apply Kd.R_alloc | apply Kd.R_drewN | apply Kd.R_drew)); exact Kd.R_mono (Kd.R_far (p := ⟨gb276, 1, none⟩) (Kd.R_far (p := ⟨gb276, 0, none⟩) (Kd.R_types HO286.out BK276.out (by decide)) (fun _ hk => hk.2) (.slice Ao7 t281.length co7)) (fun _ hk => hk.2) (.slice Ao10 t284.length co10)) (fun _ hk => trivial), by repeat (first | (with_reducible first | exact HB.out | apply below_alloc | apply pw_below_drewN | apply below_drew1 | refine below_set ?_ (IsS80.ge HI280.out) | refine below_set ?_ GE276.out) | exact HB.out)⟩

/-! ### impl_in: function 50 -/
def impl_in.f (a0 : Int) (a1 : Int) (a2 : Int) : Option (Bool) := if a0 ≥ a1 then (some (decide (a0 ≤ a2))) else (some false)
set_option maxHeartbeats 8000000 in
set_option maxRecDepth 100000 in
theorem impl_in.calls (a0 : Int) (a1 : Int) (a2 : Int) (r : Bool) (w : World) (h : impl_in.f a0 a1 a2 = some r) :
  Calls Try.prog 50 #[.int .i64 a0, .int .i64 a1, .int .i64 a2] w fun e w' => e = .returned (.bool r) ∧ Drawn0 w w' := by
 have H : (if a0 ≥ a1 then (some (decide (a0 ≤ a2))) else (some false)) = some r := h
 clear h
 by_cases c4 : a0 ≥ a1
 ·rw [if_pos c4] at H
  have c4b0 : decide (a1 ≤ a0) = true := decide_eq_true c4
  clear c4
  obtain rfl := Option.some.inj H
  go_enter Try.func50, Try.ntmps50
  go_wp2
  go_ret
  exact ⟨by first | rfl | (simp; done) | (simp [*]; done), by repeat (first | exact Drawn0.refl _ | apply Drawn0.step)⟩
 ·rw [if_neg c4] at H
  have c4b0 : decide (a1 ≤ a0) = false := decide_eq_false c4
  clear c4
  obtain rfl := Option.some.inj H
  go_enter Try.func50, Try.ntmps50
  go_wp2
  go_ret
  exact ⟨by first | rfl | (simp; done) | (simp [*]; done), by repeat (first | exact Drawn0.refl _ | apply Drawn0.step)⟩

-- NOT PRINTED: function 76 (slices_IndexFunc_string_string)

-- NOT PRINTED: function 51 (slices_ContainsFunc_string_string)

-- NOT PRINTED: function 77 (impl_Write_77)

-- NOT PRINTED: function 53 (impl_Write_53)

/-! ### impl_DiskOk: function 16 -/
theorem at_str {w : World} {A : Option Addr} {n : Nat} {xs : List ByteArray} (h : Kd.C Kd.string w A n xs) (i : Int) (h0 : 0 ≤ i) (h1 : i < n) : ∃ ad, A = some ad ∧ w.cell? (ad.add i.toNat) = some (.string (rdOf ByteArray.empty xs i)) := by
 obtain ⟨ad, c, e, hl, hK, hc⟩ := Kd.C_get h ByteArray.empty i h0 h1
 have hK' : c = [.string (xs.getD i.toNat ByteArray.empty)] := hK
 subst hK'
 have := hc 0 _ rfl
 exact ⟨ad, e, by simpa [Kd.string, Kd.scalar, rdOf] using this⟩
set_option maxHeartbeats 4000000 in
set_option maxRecDepth 100000 in
theorem idx_str (caps : Array Value) (p : ByteArray → Bool) (A0 : Option Addr) (c0 : Nat) (l0 : List ByteArray) (w : World) (hr0 : Kd.C Kd.string w A0 l0.length l0) (hc0 : l0.length ≤ c0)
  (hp : ∀ x, x ∈ l0 → ∀ W, Below w.heap.size w W → Calls Try.prog 52 (#[.string x] ++ caps) W fun e W' => e = .returned (.bool (p x)) ∧ Below W.heap.size W W') :
  Calls Try.prog 76 #[.slice A0 l0.length c0, .func (.func 52) #[] caps] w fun e w' => ∃ v : Int, e = .returned (.int .i64 v) ∧ Aside0 (decide (0 ≤ v) = l0.any p) ∧ Below w.heap.size w w' := by
 have HR0 := Aside0.mk hr0
 have HC0 := Aside0.mk hc0
 have HP := Aside0.mk hp
 have hm : l0.length ≤ 9223372036854775807 := hr0.2.1
 clear hr0 hc0 hp
 have HB := ak (Below.refl w.heap.size w)
 go_enter Try.func76, Try.ntmps76
 go_wp2
 go_loopg [8] l0.length (fun kq v8 w' => ∃ x8 : Int, v8 = .int .i64 x8 ∧ Aside0 (0 ≤ x8 ∧ x8 + kq = l0.length ∧ ∀ x, x ∈ l0.take x8.toNat → p x = false) ∧ Aside0 (Below w.heap.size w w'))
 case atStart => exact ⟨0, by first | rfl | (simp; done), ⟨by omega, by omega, by simp⟩, ⟨by first | exact HB.out | exact Below.refl _ _⟩⟩
 case round =>
  obtain ⟨x8, rfl, HX, HB⟩ := hrel
  by_cases c4 : x8 < (l0.length : Int)
  ·have c4b0 : decide (x8 < (l0.length : Int)) = true := decide_eq_true c4
   have c5b0 : decide (0 ≤ x8) = true := decide_eq_true HX.out.1
   have hl : x8.toNat < l0.length := by have := HX.out.1; omega
   have hmem : rdOf ByteArray.empty l0 x8 ∈ l0 := by
    unfold rdOf
    rw [List.getD_eq_getElem?_getD, List.getElem?_eq_getElem hl]
    exact List.getElem_mem hl
   have HQ := ak (fun W hW => HP.out _ hmem W hW)
   clear c4 hl hmem
   have p103 : 0 ≤ (x8 : Int) := of_decide_eq_true (by first | (with_reducible assumption) | assumption)
   have q103 : x8 < (l0.length : Int) := of_decide_eq_true (by first | (with_reducible assumption) | assumption)
   obtain ⟨ad103, e103, hx103_0⟩ := at_str HR0.out x8 p103 q103
   cases e103
   replace hx103_0 := (HB.out.cell (World.block_lt_of_cell? w _ hx103_0)).trans hx103_0
   replace p103 := eq_true p103
   replace q103 := eq_true q103
   obtain ⟨b, hb0⟩ : ∃ b, p (rdOf ByteArray.empty l0 x8) = b := ⟨_, rfl⟩
   have HPB := Aside0.mk hb0
   rw [hb0] at HQ
   clear hb0
   cases b with
   | true =>
    go_wp2_with (go_at_call 52; refine (HQ.out _ HB.out).mono ?_; rintro e w8 ⟨rfl, hb⟩; replace HB := ak (below_step (by exact HB.out) hb); clear hb)
    go_ret
    have h0 : 0 ≤ x8 := HX.out.1
    have hl : x8.toNat < l0.length := by have := HX.out.1; have := of_eq_true q103; omega
    refine ⟨x8, rfl, ⟨?_⟩, HB.out⟩
    rw [decide_eq_true h0]
    symm
    rw [List.any_eq_true]
    refine ⟨rdOf ByteArray.empty l0 x8, ?_, HPB.out⟩
    unfold rdOf
    rw [List.getD_eq_getElem?_getD, List.getElem?_eq_getElem hl]
    exact List.getElem_mem hl
   | false =>
    cases gk with
    | zero => exact absurd HX.out (by have := of_eq_true q103; omega)
    | succ k1 =>
    go_wp2_with (go_at_call 52; refine (HQ.out _ HB.out).mono ?_; rintro e w8 ⟨rfl, hb⟩; replace HB := ak (below_step (by exact HB.out) hb); clear hb)
    go_roundg k1
    case measure => omega
    case rel =>
     have h0 : 0 ≤ x8 := HX.out.1
     have h1 := HX.out.2.1
     have hl : x8.toNat < l0.length := by have := of_eq_true q103; omega
     have e1 : wrap64 (x8 + 1) = x8 + 1 := by unfold wrap64; omega
     refine ⟨x8 + 1, by first | rfl | (rw [e1]) | (simp [e1]; done), ⟨by omega, by omega, ?_⟩, HB⟩
     intro x hx
     rw [show (x8 + 1).toNat = x8.toNat + 1 by omega, List.take_succ_eq_append_getElem hl] at hx
     rcases List.mem_append.1 hx with hx | hx
     ·exact HX.out.2.2 x hx
     ·have hx' := List.mem_singleton.1 hx
      subst hx'
      have := HPB.out
      unfold rdOf at this
      rw [List.getD_eq_getElem?_getD, List.getElem?_eq_getElem hl] at this
      exact this
  ·have c4b0 : decide (x8 < (l0.length : Int)) = false := decide_eq_false c4
   clear c4
   go_wp2
   go_ret
   have h0 : 0 ≤ x8 := HX.out.1
   have h1 := HX.out.2.1
   have h2 := of_decide_eq_false c4b0
   refine ⟨-1, rfl, ⟨?_⟩, HB.out⟩
   symm
   rw [decide_eq_false (by omega)]
   rw [List.any_eq_false]
   intro x hx
   have := HX.out.2.2 x (by rw [List.take_of_length_le (by omega)]; exact hx)
   simp [this]
set_option maxHeartbeats 2000000 in
set_option maxRecDepth 100000 in
theorem cont_str (caps : Array Value) (p : ByteArray → Bool) (A0 : Option Addr) (c0 : Nat) (l0 : List ByteArray) (w : World) (hr0 : Kd.C Kd.string w A0 l0.length l0) (hc0 : l0.length ≤ c0)
  (hp : ∀ x, x ∈ l0 → ∀ W, Below w.heap.size w W → Calls Try.prog 52 (#[.string x] ++ caps) W fun e W' => e = .returned (.bool (p x)) ∧ Below W.heap.size W W') :
  Calls Try.prog 51 #[.slice A0 l0.length c0, .func (.func 52) #[] caps] w fun e w' => e = .returned (.bool (l0.any p)) ∧ Below w.heap.size w w' := by
 have HC := ak (fun (W : World) => idx_str caps p A0 c0 l0 w hr0 hc0 hp)
 clear hr0 hc0 hp
 go_enter Try.func51, Try.ntmps51
 go_wp2_with (go_at_call 76; refine (HC.out w).mono ?_; rintro e w8 ⟨v, rfl, hv, hb⟩)
 go_ret
 exact ⟨by rw [← hv.out]; rfl, hb⟩
set_option maxHeartbeats 4000000 in
set_option maxRecDepth 100000 in
theorem idx_wr (caps : Array Value) (p : S63 → Bool) (A0 : Option Addr) (c0 : Nat) (l0 : List S63) (w : World) (hr0 : Kd.C k63 w A0 l0.length l0) (hc0 : l0.length ≤ c0)
  (hp : ∀ x, x ∈ l0 → ∀ W, Below w.heap.size w W → Calls Try.prog 54 (#[.agg #[.int .i64 x.f0, .string x.f1]] ++ caps) W fun e W' => e = .returned (.bool (p x)) ∧ Below W.heap.size W W') :
  Calls Try.prog 77 #[.slice A0 l0.length c0, .func (.func 54) #[] caps] w fun e w' => ∃ v : Int, e = .returned (.int .i64 v) ∧ Aside0 (decide (0 ≤ v) = l0.any p) ∧ Below w.heap.size w w' := by
 have HR0 := Aside0.mk hr0
 have HC0 := Aside0.mk hc0
 have HP := Aside0.mk hp
 have hm : l0.length ≤ 9223372036854775807 := hr0.2.1
 clear hr0 hc0 hp
 have HB := ak (Below.refl w.heap.size w)
 go_enter Try.func77, Try.ntmps77
 go_wp2
 go_loopg [8] l0.length (fun kq v8 w' => ∃ x8 : Int, v8 = .int .i64 x8 ∧ Aside0 (0 ≤ x8 ∧ x8 + kq = l0.length ∧ ∀ x, x ∈ l0.take x8.toNat → p x = false) ∧ Aside0 (Below w.heap.size w w'))
 case atStart => exact ⟨0, by first | rfl | (simp; done), ⟨by omega, by omega, by simp⟩, ⟨by first | exact HB.out | exact Below.refl _ _⟩⟩
 case round =>
  obtain ⟨x8, rfl, HX, HB⟩ := hrel
  by_cases c4 : x8 < (l0.length : Int)
  ·have c4b0 : decide (x8 < (l0.length : Int)) = true := decide_eq_true c4
   have c5b0 : decide (0 ≤ x8) = true := decide_eq_true HX.out.1
   have hl : x8.toNat < l0.length := by have := HX.out.1; omega
   have hmem : rd_T63 l0 x8 ∈ l0 := by
    unfold rd_T63
    rw [List.getD_eq_getElem?_getD, List.getElem?_eq_getElem hl]
    exact List.getElem_mem hl
   have HQ := ak (fun W hW => HP.out _ hmem W hW)
   clear c4 hl hmem
   have p103 : 0 ≤ (x8 : Int) := of_decide_eq_true (by first | (with_reducible assumption) | assumption)
   have q103 : x8 < (l0.length : Int) := of_decide_eq_true (by first | (with_reducible assumption) | assumption)
   obtain ⟨ad103, e103, hx103_0, hx103_1⟩ := at_T63 HR0.out x8 p103 q103
   cases e103
   replace hx103_0 := (HB.out.cell (World.block_lt_of_cell? w _ hx103_0)).trans hx103_0
   replace hx103_1 := (HB.out.cell (World.block_lt_of_cell? w _ hx103_1)).trans hx103_1
   replace p103 := eq_true p103
   replace q103 := eq_true q103
   obtain ⟨b, hb0⟩ : ∃ b, p (rd_T63 l0 x8) = b := ⟨_, rfl⟩
   have HPB := Aside0.mk hb0
   rw [hb0] at HQ
   clear hb0
   cases b with
   | true =>
    go_wp2_with (go_at_call 54; refine (HQ.out _ HB.out).mono ?_; rintro e w8 ⟨rfl, hb⟩; replace HB := ak (below_step (by exact HB.out) hb); clear hb)
    go_ret
    have h0 : 0 ≤ x8 := HX.out.1
    have hl : x8.toNat < l0.length := by have := HX.out.1; have := of_eq_true q103; omega
    refine ⟨x8, rfl, ⟨?_⟩, HB.out⟩
    rw [decide_eq_true h0]
    symm
    rw [List.any_eq_true]
    refine ⟨rd_T63 l0 x8, ?_, HPB.out⟩
    unfold rd_T63
    rw [List.getD_eq_getElem?_getD, List.getElem?_eq_getElem hl]
    exact List.getElem_mem hl
   | false =>
    cases gk with
    | zero => exact absurd HX.out (by have := of_eq_true q103; omega)
    | succ k1 =>
    go_wp2_with (go_at_call 54; refine (HQ.out _ HB.out).mono ?_; rintro e w8 ⟨rfl, hb⟩; replace HB := ak (below_step (by exact HB.out) hb); clear hb)
    go_roundg k1
    case measure => omega
    case rel =>
     have h0 : 0 ≤ x8 := HX.out.1
     have h1 := HX.out.2.1
     have hl : x8.toNat < l0.length := by have := of_eq_true q103; omega
     have e1 : wrap64 (x8 + 1) = x8 + 1 := by unfold wrap64; omega
     refine ⟨x8 + 1, by first | rfl | (rw [e1]) | (simp [e1]; done), ⟨by omega, by omega, ?_⟩, HB⟩
     intro x hx
     rw [show (x8 + 1).toNat = x8.toNat + 1 by omega, List.take_succ_eq_append_getElem hl] at hx
     rcases List.mem_append.1 hx with hx | hx
     ·exact HX.out.2.2 x hx
     ·have hx' := List.mem_singleton.1 hx
      subst hx'
      have := HPB.out
      unfold rd_T63 at this
      rw [List.getD_eq_getElem?_getD, List.getElem?_eq_getElem hl] at this
      exact this
  ·have c4b0 : decide (x8 < (l0.length : Int)) = false := decide_eq_false c4
   clear c4
   go_wp2
   go_ret
   have h0 : 0 ≤ x8 := HX.out.1
   have h1 := HX.out.2.1
   have h2 := of_decide_eq_false c4b0
   refine ⟨-1, rfl, ⟨?_⟩, HB.out⟩
   symm
   rw [decide_eq_false (by omega)]
   rw [List.any_eq_false]
   intro x hx
   have := HX.out.2.2 x (by rw [List.take_of_length_le (by omega)]; exact hx)
   simp [this]
set_option maxHeartbeats 2000000 in
set_option maxRecDepth 100000 in
theorem cont_wr (caps : Array Value) (p : S63 → Bool) (A0 : Option Addr) (c0 : Nat) (l0 : List S63) (w : World) (hr0 : Kd.C k63 w A0 l0.length l0) (hc0 : l0.length ≤ c0)
  (hp : ∀ x, x ∈ l0 → ∀ W, Below w.heap.size w W → Calls Try.prog 54 (#[.agg #[.int .i64 x.f0, .string x.f1]] ++ caps) W fun e W' => e = .returned (.bool (p x)) ∧ Below W.heap.size W W') :
  Calls Try.prog 53 #[.slice A0 l0.length c0, .func (.func 54) #[] caps] w fun e w' => e = .returned (.bool (l0.any p)) ∧ Below w.heap.size w w' := by
 have HC := ak (fun (W : World) => idx_wr caps p A0 c0 l0 w hr0 hc0 hp)
 clear hr0 hc0 hp
 go_enter Try.func53, Try.ntmps53
 go_wp2_with (go_at_call 77; refine (HC.out w).mono ?_; rintro e w8 ⟨v, rfl, hv, hb⟩)
 go_ret
 exact ⟨by rw [← hv.out]; rfl, hb⟩
def wrBad (n0 : Nat) (x : S63) : Bool := !decide (0 ≤ x.f0 ∧ x.f0 ≤ (n0 : Int) - 1) || decide (x.f1.size ≠ 32)
def strBad (x : ByteArray) : Bool := decide (x.size ≠ 32)
theorem in_is (a b c : Int) : impl_in.f a b c = some (decide (b ≤ a ∧ a ≤ c)) := by
 unfold impl_in.f
 by_cases h : a ≥ b <;> by_cases h2 : a ≤ c <;> simp [h, h2] <;> omega
set_option maxHeartbeats 2000000 in
set_option maxRecDepth 100000 in
theorem clo_wr (gb n0 n1 c0 c1 : Nat) (A0 A1 : Option Addr) (x : S63) (W : World) (hn : n0 ≤ 100) (hb : W.heap[gb]? = some (.cells #[.slice A0 n0 c0, .slice A1 n1 c1] 27 (0, 0))) :
  Calls Try.prog 54 #[.agg #[.int .i64 x.f0, .string x.f1], .pointer (some ⟨gb, 0, none⟩)] W fun e W' => e = .returned (.bool (wrBad n0 x)) ∧ Below W.heap.size W W' := by
 obtain ⟨f0, f1⟩ := x
 have huW := Try.underlying63
 have huD := Try.underlying27
 have hi := in_is f0 0 ((n0 : Int) - 1)
 have hcz0 : W.cell? ⟨gb, 0, none⟩ = some (.slice A0 n0 c0) := (blk_cell hb 0).trans rfl
 have hcz1 : ∀ o, (W.alloc o).cell? ⟨gb, 0, none⟩ = some (.slice A0 n0 c0) := fun o => pw_cell_below (below_alloc (Below.refl _ _) o) hcz0
 have HA := ak (fun o => below_alloc (Below.refl W.heap.size W) o)
 clear hb hcz0
 by_cases h1 : 0 ≤ f0 ∧ f0 ≤ (n0 : Int) - 1
 ·rw [decide_eq_true h1] at hi
  have HI := Aside0.mk hi
  have HH := ak (show wrBad n0 ⟨f0, f1⟩ = decide (f1.size ≠ 32) by unfold wrBad; rw [decide_eq_true h1]; rfl)
  clear hi h1
  by_cases h2 : f1.size = 32
  ·have h3 : ((f1.size : Int) != 32) = false := by simp; omega
   have HH2 := Aside0.mk h2
   clear h2
   go_enter Try.func54, Try.ntmps54
   go_wp2_with (go_at_call 50; refine (impl_in.calls _ _ _ true _ HI.out).mono ?_; rintro e w8 ⟨rfl, ⟨nq, rfl⟩⟩)
   go_ret
   refine ⟨?_, ?_⟩
   ·rw [HH.out, decide_eq_false (by rw [HH2.out]; simp)]; rfl
   ·exact pw_below_drewN (HA.out _) _
  ·have h3 : ((f1.size : Int) != 32) = true := by simp; omega
   have HH2 := Aside0.mk h2
   clear h2
   go_enter Try.func54, Try.ntmps54
   go_wp2_with (go_at_call 50; refine (impl_in.calls _ _ _ true _ HI.out).mono ?_; rintro e w8 ⟨rfl, ⟨nq, rfl⟩⟩)
   go_ret
   refine ⟨?_, ?_⟩
   ·rw [HH.out, decide_eq_true HH2.out]; rfl
   ·exact pw_below_drewN (HA.out _) _
 ·rw [decide_eq_false h1] at hi
  have HI := Aside0.mk hi
  have HH := ak (show wrBad n0 ⟨f0, f1⟩ = true by unfold wrBad; rw [decide_eq_false h1]; rfl)
  clear hi h1
  go_enter Try.func54, Try.ntmps54
  go_wp2_with (go_at_call 50; refine (impl_in.calls _ _ _ false _ HI.out).mono ?_; rintro e w8 ⟨rfl, ⟨nq, rfl⟩⟩)
  go_ret
  refine ⟨?_, ?_⟩
  ·rw [HH.out]; rfl
  ·exact pw_below_drewN (HA.out _) _
set_option maxRecDepth 100000 in
theorem clo_str (x : ByteArray) (W : World) : Calls Try.prog 52 #[.string x] W fun e W' => e = .returned (.bool (strBad x)) ∧ Below W.heap.size W W' := by
 by_cases h2 : x.size = 32
 ·have h3 : ((x.size : Int) != 32) = false := by simp; omega
  have HH := ak (show strBad x = false by unfold strBad; rw [decide_eq_false (by rw [h2]; simp)])
  clear h2
  go_enter Try.func52, Try.ntmps52
  go_wp2
  go_ret
  exact ⟨by rw [HH.out]; rfl, Below.refl _ _⟩
 ·have h3 : ((x.size : Int) != 32) = true := by simp; omega
  have HH := ak (show strBad x = true by unfold strBad; rw [decide_eq_true h2])
  clear h2
  go_enter Try.func52, Try.ntmps52
  go_wp2
  go_ret
  exact ⟨by rw [HH.out]; rfl, Below.refl _ _⟩
def impl_DiskOk.f (l0_0 : List ByteArray) (l0_1 : List S63) : Option Bool := some (decide ((1 ≤ l0_0.length ∧ l0_0.length ≤ 100) ∧ l0_1.length ≤ 60) && (!l0_0.any strBad && !l0_1.any (wrBad l0_0.length)))
set_option maxHeartbeats 8000000 in
set_option maxRecDepth 100000 in
theorem impl_DiskOk.calls (A0_0 : Option Addr) (c0_0 : Nat) (l0_0 : List ByteArray) (A0_1 : Option Addr) (c0_1 : Nat) (l0_1 : List (S63)) (r : Bool) (w : World) (hr0_0 : Kd.C Kd.string w A0_0 l0_0.length l0_0) (hc0_0 : l0_0.length ≤ c0_0) (hr0_1 : Kd.C k63 w A0_1 l0_1.length l0_1) (hc0_1 : l0_1.length ≤ c0_1) (h : impl_DiskOk.f l0_0 l0_1 = some r) :
  Calls Try.prog 16 #[.agg #[.slice A0_0 l0_0.length c0_0, .slice A0_1 l0_1.length c0_1]] w fun e w' => e = .returned (.bool r) ∧ Below w.heap.size w w' := by
 have huD := Try.underlying27
 have hmf : ∀ (fn : Fn) (first cap : Array Value) (w : World), (Instr.makeFunc fn first cap).run Try.prog w = .ok (.func fn first cap) w := fun _ _ _ _ => rfl
 have HF := ak (Option.some.inj h)
 have HR0 := Aside0.mk hr0_0
 have HR1 := Aside0.mk hr0_1
 have HC0 := Aside0.mk hc0_0
 have HC1 := Aside0.mk hc0_1
 have HB := ak (Below.refl w.heap.size w)
 have hi := in_is (l0_0.length : Int) 1 100
 clear h hr0_0 hr0_1 hc0_0 hc0_1
 by_cases h1 : 1 ≤ l0_0.length ∧ l0_0.length ≤ 100
 ·rw [decide_eq_true (show 1 ≤ (l0_0.length : Int) ∧ (l0_0.length : Int) ≤ 100 by omega)] at hi
  have HI := Aside0.mk hi
  have HN := Aside0.mk h1
  clear hi h1
  by_cases h2 : l0_1.length ≤ 60
  ·have h3 : decide ((l0_1.length : Int) > 60) = false := by simp; omega
   have h3' : decide ((60 : Int) < (l0_1.length : Int)) = false := by simp; omega
   have h3'' : decide (60 < l0_1.length) = false := by simp; omega
   have HF2 := ak (show (!l0_0.any strBad && !l0_1.any (wrBad l0_0.length)) = r by have := HF.out; rw [decide_eq_true ⟨HN.out, h2⟩] at this; simpa using this)
   clear h2 HF
   obtain ⟨s, hs⟩ : ∃ s, l0_0.any strBad = s := ⟨_, rfl⟩
   have HS := Aside0.mk hs
   clear hs
   cases s with
   | true =>
    have HR := ak (show false = r by have := HF2.out; rw [HS.out] at this; simpa using this)
    clear HF2
    go_enter Try.func16, Try.ntmps16
    go_wp2_with (first
     | ((with_reducible refine gate_dst (N := 1) rfl ?_); refine bx 1 #[.slice A0_0 l0_0.length c0_0, .slice A0_1 l0_1.length c0_1] 27 ?_; intro gb hg w5 hbox hb; have BK := Aside0.mk hbox; replace HB := ak (below_step HB.out hb); clear hg hbox hb; have hcz0 : w5.cell? ⟨gb, 0, none⟩ = some (.slice A0_0 l0_0.length c0_0) := (blk_cell BK.out 0).trans rfl; have hcz1 : w5.cell? ⟨gb, 1, none⟩ = some (.slice A0_1 l0_1.length c0_1) := (blk_cell BK.out 1).trans rfl)
     | (go_at_call 50; refine (impl_in.calls _ _ _ true _ HI.out).mono ?_; rintro e w8 ⟨rfl, ⟨nq, rfl⟩⟩; have n0_ := ak (pw_below_drewN HB.out nq); have n1_ := ak (blk_drewN BK.out nq); clear HB BK; generalize World.drewN w5 nq = w6 at n0_ n1_ ⊢; have HB := n0_; have BK := n1_; clear n0_ n1_; have hcy0 : w6.cell? ⟨gb, 0, none⟩ = some (.slice A0_0 l0_0.length c0_0) := (blk_cell BK.out 0).trans rfl; have hcy1 : w6.cell? ⟨gb, 1, none⟩ = some (.slice A0_1 l0_1.length c0_1) := (blk_cell BK.out 1).trans rfl)
     | (go_at_call 51; refine (cont_str #[] strBad _ _ l0_0 _ (Kd.C_below HR0.out HB.out) HC0.out (fun x _ W _ => clo_str x W)).mono ?_; rintro e w9 ⟨rfl, hb⟩; replace HB := ak (below_step HB.out hb); clear hb; have hs1 := HS.out))
    go_ret
    exact ⟨by rw [← HR.out]; rfl, HB.out⟩
   | false =>
    have HR := ak (show (!l0_1.any (wrBad l0_0.length)) = r by have := HF2.out; rw [HS.out] at this; simpa using this)
    clear HF2
    go_enter Try.func16, Try.ntmps16
    go_wp2_with (first
     | ((with_reducible refine gate_dst (N := 1) rfl ?_); refine bx 1 #[.slice A0_0 l0_0.length c0_0, .slice A0_1 l0_1.length c0_1] 27 ?_; intro gb hg w5 hbox hb; have BK := Aside0.mk hbox; replace HB := ak (below_step HB.out hb); clear hg hbox hb; have hcz0 : w5.cell? ⟨gb, 0, none⟩ = some (.slice A0_0 l0_0.length c0_0) := (blk_cell BK.out 0).trans rfl; have hcz1 : w5.cell? ⟨gb, 1, none⟩ = some (.slice A0_1 l0_1.length c0_1) := (blk_cell BK.out 1).trans rfl)
     | (go_at_call 50; refine (impl_in.calls _ _ _ true _ HI.out).mono ?_; rintro e w8 ⟨rfl, ⟨nq, rfl⟩⟩; have n0_ := ak (pw_below_drewN HB.out nq); have n1_ := ak (blk_drewN BK.out nq); clear HB BK; generalize World.drewN w5 nq = w6 at n0_ n1_ ⊢; have HB := n0_; have BK := n1_; clear n0_ n1_; have hcy0 : w6.cell? ⟨gb, 0, none⟩ = some (.slice A0_0 l0_0.length c0_0) := (blk_cell BK.out 0).trans rfl; have hcy1 : w6.cell? ⟨gb, 1, none⟩ = some (.slice A0_1 l0_1.length c0_1) := (blk_cell BK.out 1).trans rfl)
     | (go_at_call 51; refine (cont_str #[] strBad _ _ l0_0 _ (Kd.C_below HR0.out HB.out) HC0.out (fun x _ W _ => clo_str x W)).mono ?_; rintro e w9 ⟨rfl, hb⟩; have n0_ := ak (below_step HB.out hb); have n1_ := ak (blk_below (g := gb) (o := .cells #[.slice A0_0 l0_0.length c0_0, .slice A0_1 l0_1.length c0_1] 27 (0, 0)) BK.out hb); clear HB BK; have HB := n0_; have BK := n1_; clear n0_ n1_ hb; have hs1 := HS.out; have hcx0 : w9.cell? ⟨gb, 0, none⟩ = some (.slice A0_0 l0_0.length c0_0) := (blk_cell BK.out 0).trans rfl; have hcx1 : w9.cell? ⟨gb, 1, none⟩ = some (.slice A0_1 l0_1.length c0_1) := (blk_cell BK.out 1).trans rfl)
     | (go_at_call 53; refine (cont_wr #[.pointer (some ⟨gb, 0, none⟩)] (wrBad l0_0.length) _ _ l0_1 _ (Kd.C_below HR1.out HB.out) HC1.out (fun x _ W hW => clo_wr gb _ _ _ _ _ _ x W HN.out.2 (blk_below (g := gb) (o := .cells #[.slice A0_0 l0_0.length c0_0, .slice A0_1 l0_1.length c0_1] 27 (0, 0)) BK.out hW))).mono ?_; rintro e w10 ⟨rfl, hb⟩; replace HB := ak (below_step HB.out hb); clear hb))
    go_ret
    exact ⟨by rw [← HR.out]; rfl, HB.out⟩
  ·have h3 : decide ((l0_1.length : Int) > 60) = true := by simp; omega
   have h3' : decide ((60 : Int) < (l0_1.length : Int)) = true := by simp; omega
   have h3'' : decide (60 < l0_1.length) = true := by simp; omega
   have HR := ak (show false = r by have := HF.out; rw [decide_eq_false (fun hh => h2 hh.2)] at this; simpa using this)
   clear h2 HF
   go_enter Try.func16, Try.ntmps16
   go_wp2_with (first
     | ((with_reducible refine gate_dst (N := 1) rfl ?_); refine bx 1 #[.slice A0_0 l0_0.length c0_0, .slice A0_1 l0_1.length c0_1] 27 ?_; intro gb hg w5 hbox hb; have BK := Aside0.mk hbox; replace HB := ak (below_step HB.out hb); clear hg hbox hb; have hcz0 : w5.cell? ⟨gb, 0, none⟩ = some (.slice A0_0 l0_0.length c0_0) := (blk_cell BK.out 0).trans rfl; have hcz1 : w5.cell? ⟨gb, 1, none⟩ = some (.slice A0_1 l0_1.length c0_1) := (blk_cell BK.out 1).trans rfl)
     | (go_at_call 50; refine (impl_in.calls _ _ _ true _ HI.out).mono ?_; rintro e w8 ⟨rfl, ⟨nq, rfl⟩⟩; have n0_ := ak (pw_below_drewN HB.out nq); have n1_ := ak (blk_drewN BK.out nq); clear HB BK; generalize World.drewN w5 nq = w6 at n0_ n1_ ⊢; have HB := n0_; have BK := n1_; clear n0_ n1_; have hcy0 : w6.cell? ⟨gb, 0, none⟩ = some (.slice A0_0 l0_0.length c0_0) := (blk_cell BK.out 0).trans rfl; have hcy1 : w6.cell? ⟨gb, 1, none⟩ = some (.slice A0_1 l0_1.length c0_1) := (blk_cell BK.out 1).trans rfl))
   go_ret
   exact ⟨by rw [← HR.out]; rfl, HB.out⟩
 ·rw [decide_eq_false (show ¬ (1 ≤ (l0_0.length : Int) ∧ (l0_0.length : Int) ≤ 100) by omega)] at hi
  have HI := Aside0.mk hi
  have HR := ak (show false = r by have := HF.out; rw [decide_eq_false (fun hh => h1 hh.1)] at this; simpa using this)
  clear hi h1 HF
  go_enter Try.func16, Try.ntmps16
  go_wp2_with (first
     | ((with_reducible refine gate_dst (N := 1) rfl ?_); refine bx 1 #[.slice A0_0 l0_0.length c0_0, .slice A0_1 l0_1.length c0_1] 27 ?_; intro gb hg w5 hbox hb; have BK := Aside0.mk hbox; replace HB := ak (below_step HB.out hb); clear hg hbox hb; have hcz0 : w5.cell? ⟨gb, 0, none⟩ = some (.slice A0_0 l0_0.length c0_0) := (blk_cell BK.out 0).trans rfl; have hcz1 : w5.cell? ⟨gb, 1, none⟩ = some (.slice A0_1 l0_1.length c0_1) := (blk_cell BK.out 1).trans rfl)
     | (go_at_call 50; refine (impl_in.calls _ _ _ false _ HI.out).mono ?_; rintro e w8 ⟨rfl, ⟨nq, rfl⟩⟩; have n0_ := ak (pw_below_drewN HB.out nq); have n1_ := ak (blk_drewN BK.out nq); clear HB BK; generalize World.drewN w5 nq = w6 at n0_ n1_ ⊢; have HB := n0_; have BK := n1_; clear n0_ n1_; have hcy0 : w6.cell? ⟨gb, 0, none⟩ = some (.slice A0_0 l0_0.length c0_0) := (blk_cell BK.out 0).trans rfl; have hcy1 : w6.cell? ⟨gb, 1, none⟩ = some (.slice A0_1 l0_1.length c0_1) := (blk_cell BK.out 1).trans rfl))
  go_ret
  exact ⟨by rw [← HR.out]; rfl, HB.out⟩

/-! ### slices_Clone_string_string: function 74 -/
def slices_Clone_string_string.f (l0 : List ByteArray) : Option (List ByteArray) := (some (([] : List ByteArray) : List ByteArray)).bind fun y289 => (if y289.length + l0.length < 8796093022208 then (some (y289 ++ l0)) else (none))
set_option maxHeartbeats 8000000 in
set_option maxRecDepth 100000 in
theorem slices_Clone_string_string.calls (A0 : Option Addr) (c0 : Nat) (l0 : List ByteArray) (r : List ByteArray) (w : World) (hr0 : Kd.C Kd.string w A0 l0.length l0) (hc0 : l0.length ≤ c0) (h : slices_Clone_string_string.f l0 = some r) :
  Calls Try.prog 74 #[.slice A0 l0.length c0] w fun e w' => ∃ v0_ : Value, e = .returned (v0_) ∧ Kd.R Kd.string 9 w' w.heap.size (fun _ => True) v0_ r ∧ Below w.heap.size w w' := by
 cases A0 with
 | none =>
  have hl_ : l0 = [] := by
   cases l0 with
   | nil => rfl
   | cons x_ t_ => (obtain ⟨ad_, h0_, _⟩ := hr0.2.2 (by simp); cases h0_)
  subst hl_
  have hr_ : [] = r := by simpa [slices_Clone_string_string.f] using h
  subst hr_
  have hnil_ := fun W_ : World => Lib.run_eql_slice_nil (P := Try.prog) W_ 24 9 none 0 c0 0 0 Try.underlying24
  go_enter Try.func74, Try.ntmps74
  go_wp2
  go_ret
  exact ⟨.slice none 0 0, rfl, Kd.R_nil _ _ _ _ _, Below.refl _ _⟩
 | some a0_ =>
 have hnil_ := fun W_ : World => Lib.run_eql_slice_nil (P := Try.prog) W_ 24 9 (some a0_) l0.length c0 0 0 Try.underlying24
 have HR0 := Aside0.mk hr0
 have HC0 := Aside0.mk hc0
 clear hr0 hc0
 have HB := ak (Below.refl w.heap.size w)
 have H : ((some (([] : List ByteArray) : List ByteArray)).bind fun y289 => (if y289.length + l0.length < 8796093022208 then (some (y289 ++ l0)) else (none))) = some r := h
 clear h
 obtain ⟨y289, hy289⟩ : ∃ y_ : List ByteArray, y_ = (([] : List ByteArray)) := ⟨_, rfl⟩
 replace H : (if y289.length + l0.length < 8796093022208 then (some (y289 ++ l0)) else (none)) = some r := by first | (rw [hy289]; with_reducible exact H) | (have H2_ := (Option.bind_some _ _).symm.trans H; rw [hy289]; with_reducible exact H2_) | (have H2_ := (Option.bind_some _ _).symm.trans H; with_reducible exact H2_) | with_reducible exact H | (rw [hy289]; exact H) | exact H
 have Ny289 := Aside0.mk hy289
 clear hy289
 by_cases c2 : y289.length + l0.length < 8796093022208
 ·rw [if_pos c2] at H
  have LMc2 := Aside0.mk c2
  clear c2
  obtain ⟨y292, hy292⟩ : ∃ y_ : List ByteArray, y_ = (y289 ++ l0) := ⟨_, rfl⟩
  replace H : (some y292) = some r := by first | (rw [hy292]; with_reducible exact H) | (have H2_ := (Option.bind_some _ _).symm.trans H; rw [hy292]; with_reducible exact H2_) | (have H2_ := (Option.bind_some _ _).symm.trans H; with_reducible exact H2_) | with_reducible exact H | (rw [hy292]; exact H) | exact H
  have Ny292 := Aside0.mk hy292
  clear hy292
  obtain rfl := Option.some.inj H
  go_enter Try.func74, Try.ntmps74
  go_wp2_with (first | ((with_reducible refine gate_dst (N := 5) rfl ?_); refine Kd.R_lit Kd.string _ 9 ?hg (N := 5) ?hd (xs := ([] : List ByteArray)) (inner := []) (ok := fun _ => True) (okp := fun _ => True) ?hr ?hp (fun _ hk => hk) trivial (Below.refl _ _) (Nat.le_refl _) (by simp) ?_; (case hd => rfl); (case hg => rfl); (case hr => first | (go_simp; done) | (go_simp; rfl)); (case hp => exact (Reps.none _ _)); intro v290 w3 ho4 hb hg_ hnew_; clear hg_ hnew_; (first | rw [← Ny289.out] at ho4 | (simp only [Int.reduceToNat] at ho4; rw [← Ny289.out] at ho4)); replace HO291 := ak (Kd.R_lower ho4 (below_size (lG HB))); replace HB := lB HB hb; clear hb ho4) | ((with_reducible refine gate_builtin (b := .append) (xs := #[.tmp 5, .tmp 6]) rfl ?_); at_builtin; refine Kd.R_append_rows Kd.string (w0 := w) w.heap.size rfl (.tmp 5) (.tmp 6) 24 9 (.string ⟨#[]⟩) 16 rfl Try.underlying24 info9 rfl (by decide) (by omega) v290 y289 l0 _ _ _ (fun _ => True) (fun _ => False) rfl rfl ?aO ?aR (fun _ _ h => h) (fun _ h => h.elim) ?aF ?aB ?aS ?aL ?_; (case aR => exact cG (Kd.C_below HR0.out HB.out)); (case aB => exact (lG HB)); (case aF => exact (fun _ _ => trivial)); (case aO => exact (rG HO291)); (case aS => exact (below_size (lG HB))); (case aL => have := LMc2.out; omega); intro v293 w5 ho hb hg hat; rw [← Ny292.out] at ho; have n0_ := ak (hb); have n1_ := ak (ho); clear HB; clear HO291; have HB := n0_; have HO294 := n1_; clear n0_ n1_; clear ho hb hg hat))
  go_ret
  exact ⟨_, by first | rfl | (simp [errW_none, errW_some] <;> rfl) | (simp [*, errW_none, errW_some] <;> rfl), by (with_reducible repeat (first | apply Kd.R_alloc | apply Kd.R_drewN | apply Kd.R_drew)); exact HO294.out, by exact lG HB⟩
 ·rw [if_neg c2] at H
  exact absurd H (by simp)

/-! ### impl_Write_75: function 75 -/
def impl_Write_75.f (l0 : List (S63)) : Option ((List (S63))) := (some (([] : List (S63)) : List (S63))).bind fun y295 => (if y295.length + l0.length < 5864062014805 then (some (y295 ++ l0)) else (none))
set_option maxHeartbeats 8000000 in
set_option maxRecDepth 100000 in
theorem impl_Write_75.calls (A0 : Option Addr) (c0 : Nat) (l0 : List (S63)) (r : List (S63)) (w : World) (hr0 : Kd.C k63 w A0 l0.length l0) (hc0 : l0.length ≤ c0) (h : impl_Write_75.f l0 = some r) :
  Calls Try.prog 75 #[.slice A0 l0.length c0] w fun e w' => ∃ v0_ : Value, e = .returned (v0_) ∧ Kd.R k63 63 w' w.heap.size (fun _ => True) v0_ r ∧ Below w.heap.size w w' := by
 cases A0 with
 | none =>
  have hl_ : l0 = [] := by
   cases l0 with
   | nil => rfl
   | cons x_ t_ => (obtain ⟨ad_, h0_, _⟩ := hr0.2.2 (by simp); cases h0_)
  subst hl_
  have hr_ : [] = r := by simpa [impl_Write_75.f] using h
  subst hr_
  have hnil_ := fun W_ : World => Lib.run_eql_slice_nil (P := Try.prog) W_ 25 63 none 0 c0 0 0 Try.underlying25
  go_enter Try.func75, Try.ntmps75
  go_wp2
  go_ret
  exact ⟨.slice none 0 0, rfl, Kd.R_nil _ _ _ _ _, Below.refl _ _⟩
 | some a0_ =>
 have hnil_ := fun W_ : World => Lib.run_eql_slice_nil (P := Try.prog) W_ 25 63 (some a0_) l0.length c0 0 0 Try.underlying25
 have HR0 := Aside0.mk hr0
 have HC0 := Aside0.mk hc0
 clear hr0 hc0
 have HB := ak (Below.refl w.heap.size w)
 have H : ((some (([] : List (S63)) : List (S63))).bind fun y295 => (if y295.length + l0.length < 5864062014805 then (some (y295 ++ l0)) else (none))) = some r := h
 clear h
 obtain ⟨y295, hy295⟩ : ∃ y_ : List (S63), y_ = (([] : List (S63))) := ⟨_, rfl⟩
 replace H : (if y295.length + l0.length < 5864062014805 then (some (y295 ++ l0)) else (none)) = some r := by first | (rw [hy295]; with_reducible exact H) | (have H2_ := (Option.bind_some _ _).symm.trans H; rw [hy295]; with_reducible exact H2_) | (have H2_ := (Option.bind_some _ _).symm.trans H; with_reducible exact H2_) | with_reducible exact H | (rw [hy295]; exact H) | exact H
 have Ny295 := Aside0.mk hy295
 clear hy295
 by_cases c2 : y295.length + l0.length < 5864062014805
 ·rw [if_pos c2] at H
  have LMc2 := Aside0.mk c2
  clear c2
  obtain ⟨y298, hy298⟩ : ∃ y_ : List (S63), y_ = (y295 ++ l0) := ⟨_, rfl⟩
  replace H : (some y298) = some r := by first | (rw [hy298]; with_reducible exact H) | (have H2_ := (Option.bind_some _ _).symm.trans H; rw [hy298]; with_reducible exact H2_) | (have H2_ := (Option.bind_some _ _).symm.trans H; with_reducible exact H2_) | with_reducible exact H | (rw [hy298]; exact H) | exact H
  have Ny298 := Aside0.mk hy298
  clear hy298
  obtain rfl := Option.some.inj H
  go_enter Try.func75, Try.ntmps75
  go_wp2_with (first | ((with_reducible refine gate_dst (N := 5) rfl ?_); refine Kd.R_lit k63 _ 63 ?hg (N := 5) ?hd (xs := ([] : List (S63))) (inner := []) (ok := fun _ => True) (okp := fun _ => True) ?hr ?hp (fun _ hk => hk) trivial (Below.refl _ _) (Nat.le_refl _) (by simp) ?_; (case hd => rfl); (case hg => rfl); (case hr => first | (go_simp; done) | (go_simp; rfl)); (case hp => exact (Reps.none _ _)); intro v296 w3 ho4 hb hg_ hnew_; clear hg_ hnew_; (first | rw [← Ny295.out] at ho4 | (simp only [Int.reduceToNat] at ho4; rw [← Ny295.out] at ho4)); replace HO297 := ak (Kd.R_lower ho4 (below_size (lG HB))); replace HB := lB HB hb; clear hb ho4) | ((with_reducible refine gate_builtin (b := .append) (xs := #[.tmp 5, .tmp 6]) rfl ?_); at_builtin; refine Kd.R_append_rows k63 (w0 := w) w.heap.size rfl (.tmp 5) (.tmp 6) 25 63 (.agg #[(.int .i64 0), (.string ⟨#[]⟩)]) 24 rfl Try.underlying25 info63 rfl (by decide) (by omega) v296 y295 l0 _ _ _ (fun _ => True) (fun _ => False) rfl rfl ?aO ?aR (fun _ _ h => h) (fun _ h => h.elim) ?aF ?aB ?aS ?aL ?_; (case aR => exact cG (Kd.C_below HR0.out HB.out)); (case aB => exact (lG HB)); (case aF => exact (fun _ _ => trivial)); (case aO => exact (rG HO297)); (case aS => exact (below_size (lG HB))); (case aL => have := LMc2.out; omega); intro v299 w5 ho hb hg hat; rw [← Ny298.out] at ho; have n0_ := ak (hb); have n1_ := ak (ho); clear HB; clear HO297; have HB := n0_; have HO300 := n1_; clear n0_ n1_; clear ho hb hg hat))
  go_ret
  exact ⟨_, by first | rfl | (simp [errW_none, errW_some] <;> rfl) | (simp [*, errW_none, errW_some] <;> rfl), by (with_reducible repeat (first | apply Kd.R_alloc | apply Kd.R_drewN | apply Kd.R_drew)); exact HO300.out, by exact lG HB⟩
 ·rw [if_neg c2] at H
  exact absurd H (by simp)

/-! ### impl_cloneDisk: function 48 -/
def impl_cloneDisk.f (l0_0 : List ByteArray) (l0_1 : List (S63)) : Option (List ByteArray × (List (S63))) := (slices_Clone_string_string.f l0_0).bind fun t303 => ((impl_Write_75.f l0_1).bind fun t306 => (some (t303, t306)))
def impl_cloneDisk.T1 : Bool × List (List Nat × List Nat) := (true, [([], []), ([0], [0]), ([1], [1]), ([], []), ([3], [3]), ([4, 2], [4]), ([2, 5], [2, 5]), ([6, 5, 0, 1, 2, 3, 4, 5, 6], [6])])
def impl_cloneDisk.B1 : List Nat := [0, 1, 3, 0, 8, 31, 63, 127]
theorem impl_cloneDisk.tab1 : rtab .any (opsOf Try.f48 1) = impl_cloneDisk.T1 := by kernel_rfl
theorem impl_cloneDisk.bits1 : waitsOk impl_cloneDisk.T1.2 impl_cloneDisk.B1 = true := by kernel_rfl
set_option maxHeartbeats 8000000 in
set_option maxRecDepth 100000 in
theorem impl_cloneDisk.calls (A0_0 : Option Addr) (c0_0 : Nat) (l0_0 : List ByteArray) (A0_1 : Option Addr) (c0_1 : Nat) (l0_1 : List (S63)) (r1 : List ByteArray) (r2 : List (S63)) (w : World) (hr0_0 : Kd.C Kd.string w A0_0 l0_0.length l0_0) (hc0_0 : l0_0.length ≤ c0_0) (hr0_1 : Kd.C k63 w A0_1 l0_1.length l0_1) (hc0_1 : l0_1.length ≤ c0_1) (h : impl_cloneDisk.f l0_0 l0_1 = some (r1, r2)) :
  Calls Try.prog 48 #[.agg #[.slice A0_0 l0_0.length c0_0, .slice A0_1 l0_1.length c0_1]] w fun e w' => ∃ v0_ v1_ : Value, e = .returned (.agg #[v0_, v1_]) ∧ Kd.R Kd.string 9 w' w.heap.size (fun _ => True) v0_ r1 ∧ Kd.R k63 63 w' w.heap.size (fun _ => True) v1_ r2 ∧ Below w.heap.size w w' := by
 have hu27 := Try.underlying27
 have HR0_0 := Aside0.mk hr0_0
 have HC0_0 := Aside0.mk hc0_0
 clear hr0_0 hc0_0
 have HR0_1 := Aside0.mk hr0_1
 have HC0_1 := Aside0.mk hc0_1
 clear hr0_1 hc0_1
 have HB := ak (Below.refl w.heap.size w)
 have H : ((slices_Clone_string_string.f l0_0).bind fun t303 => ((impl_Write_75.f l0_1).bind fun t306 => (some (t303, t306)))) = some (r1, r2) := h
 clear h
 replace H := Option.bind_eq_some_iff.mp H
 obtain ⟨t303, A20, H⟩ := H
 replace H : ((impl_Write_75.f l0_1).bind fun t306 => (some (t303, t306))) = some (r1, r2) := H
 have A2 := Aside0.mk A20
 clear A20
 replace H := Option.bind_eq_some_iff.mp H
 obtain ⟨t306, A30, H⟩ := H
 replace H : (some (t303, t306)) = some (r1, r2) := H
 have A3 := Aside0.mk A30
 clear A30
 simp only [Option.some.injEq, Prod.mk.injEq] at H
 obtain ⟨rfl, rfl⟩ := H
 go_enter Try.func48, Try.ntmps48
 try go_wp2_with (first | ((with_reducible refine gate_dst (N := 1) rfl ?_); refine bx 1 #[.slice A0_0 l0_0.length c0_0, .slice A0_1 l0_1.length c0_1] 27 ?_; intro gb301 hg w4 hbox hb; replace BK301 := ak (hbox); replace GW301 := ak (bz hg (lG HB)); replace GE301 := ak (bz hg (lG HB)); replace HB := lB HB hb; clear hb hbox hg) | ((with_reducible refine gate_dst (N := 2) rfl ?_); refine bx 2 #[.slice none 0 0, .slice none 0 0] 27 ?_; intro gb302 hg w5 hbox hb; replace BK302 := ak (hbox); replace GW302 := ak (bz hg (lT HB (gC GE301 gN))); replace GE302 := ak (bz hg (lT HB (gC GE301 gN))); replace HB := ak (below_step (lT HB (gC GE301 gN)) hb); replace NB301_302 := ak (nl hg (bG BK301)); replace NB302_301 := ak (ng hg (bG BK301)); replace BK301 := bB BK301 hb; clear hb hbox hg))
 replace BK301 := ak (blk_drew BK301.out)
 replace BK302 := ak (blk_drew BK302.out)
 replace HB := ak (below_drew1 HB.out)
 refine start_ (n := 8) (S := fun w' => w'.cell? ⟨gb301, 0, none⟩ = some (.slice A0_0 l0_0.length c0_0) ∧ w'.cell? ⟨gb301, 1, none⟩ = some (.slice A0_1 l0_1.length c0_1)) (ds := []) #[f_,f_,f_,f_,f_,f_,f_,f_] (by kernel_rfl) rfl rfl ⟨(blk_cell BK301.out 0).trans rfl, (blk_cell BK301.out 1).trans rfl⟩ (fun hHeld => ?_); refine with_tabW impl_cloneDisk.tab1 impl_cloneDisk.bits1 (fun HT_ HW_ => ?_)
 generalize w5.drew = w6 at BK301 BK302 HB hHeld ⊢
 refine pu 0 3 #[t_,f_,f_,f_,f_,f_,f_,f_] HT_ ?_
 refine pu 3 6 #[t_,f_,f_,t_,f_,f_,f_,f_] HT_ ?_
 refine tk 1 4 #[t_,t_,f_,t_,f_,f_,f_,f_] HT_ HW_ hHeld ?_
 refine tk 4 7 #[t_,t_,f_,t_,t_,f_,f_,f_] HT_ HW_ hHeld ?_
 refine on 2 (some 5) #[t_,t_,t_,t_,t_,f_,f_,f_] HT_ (fun K hK => ?_)
 refine goes_ Try.func74 (by kernel_rfl) rfl #[.slice A0_0 l0_0.length c0_0] (by rfl) rfl rfl (by (try simp only [List.map_toArray, List.map_cons, List.map_nil]); first | done | rfl | (simp only [List.length_drop, List.length_take]; rfl)) ?_
 with_reducible refine (slices_Clone_string_string.calls _ _ l0_0 t303 _ ?side1 ?side2 A2.out).mono ?_
 (case side1 => exact cG (Kd.C_below HR0_0.out HB.out))
 (case side2 => exact HC0_0.out)
 rintro e w7 ⟨v304, rfl, ho0, hb⟩
 refine ⟨_, rfl, ?_⟩
 replace HO305 := ak (Kd.R_lower ho0 (below_size (lT HB (gC GE301 (gC GE302 gN)))))
 replace BK301 := bB BK301 hb
 replace BK302 := bB BK302 hb
 replace HB := ak (below_step (lT HB (gC GE301 (gC GE302 gN))) hb)
 (try clear hb)
 (try clear hb2)
 (try clear hk)
 (try clear hi)
 (try clear ho0)
 refine hK.out _ _ ⟨(blk_cell BK301.out 0).trans rfl, (blk_cell BK301.out 1).trans rfl⟩ (fun hHeld => ?_)
 clear hK K
 refine nm ?_
 refine on 5 (some 8) #[t_,t_,t_,t_,t_,t_,f_,f_] HT_ (fun K hK => ?_)
 refine goes_ Try.func75 (by kernel_rfl) rfl #[.slice A0_1 l0_1.length c0_1] (by rfl) rfl rfl (by (try simp only [List.map_toArray, List.map_cons, List.map_nil]); first | done | rfl | (simp only [List.length_drop, List.length_take]; rfl)) ?_
 with_reducible refine (impl_Write_75.calls _ _ l0_1 t306 _ ?side1 ?side2 A3.out).mono ?_
 (case side1 => exact cG (Kd.C_below HR0_1.out HB.out))
 (case side2 => exact HC0_1.out)
 rintro e w8 ⟨v307, rfl, ho0, hb⟩
 refine ⟨_, rfl, ?_⟩
 replace HO305 := rB HO305 hb
 replace HO308 := ak (Kd.R_lower ho0 (below_size (lT HB (gC GE301 (gC GE302 gN)))))
 replace BK301 := bB BK301 hb
 replace BK302 := bB BK302 hb
 replace HB := ak (below_step (lT HB (gC GE301 (gC GE302 gN))) hb)
 (try clear hb)
 (try clear hb2)
 (try clear hk)
 (try clear hi)
 (try clear ho0)
 obtain ⟨Ao9, co9, eo9⟩ := Kd.R_slice HO308.out
 (first | subst eo9 | (injection eo9 with f1_ f2_ f3_; have f4_ := f1_.symm; have f5_ := f3_.symm; clear f1_ f2_ f3_; subst f4_; subst f5_))
 obtain ⟨Ao10, co10, eo10⟩ := Kd.R_slice HO305.out
 (first | subst eo10 | (injection eo10 with f1_ f2_ f3_; have f4_ := f1_.symm; have f5_ := f3_.symm; clear f1_ f2_ f3_; subst f4_; subst f5_))
 refine hK.out _ _ ⟨(blk_cell BK301.out 0).trans rfl, (blk_cell BK301.out 1).trans rfl⟩ (fun hHeld => ?_)
 clear hK K
 refine nm ?_
 refine pu 6 9 #[t_,t_,t_,t_,t_,t_,t_,f_] HT_ ?_
 refine on 7 none #[t_,t_,t_,t_,t_,t_,t_,t_] HT_ (fun K hK => ?_)
 have hs11 : w8.cell? ⟨gb302, 0, none⟩ = some (.slice none 0 0) := (blk_cell BK302.out 0).trans rfl
 have hfs11 := blk_frozen BK302.out 0
 have hns11_0 := NB301_302.out
 have hms11_0 := NB302_301.out
 have hs12 : w8.cell? ⟨gb302, 1, none⟩ = some (.slice none 0 0) := (blk_cell BK302.out 1).trans rfl
 have hfs12 := blk_frozen BK302.out 1
 have hns12_0 := NB301_302.out
 have hms12_0 := NB302_301.out
 refine skip_ (w1 := ?_) (by rfl) rfl ?_ ?_
 rotate_left
 ·go_simp
  rfl
 refine hK.out _ _ ⟨((cell_far (p := ⟨gb302, _, none⟩) NB301_302.out _).trans (((cell_far (p := ⟨gb302, _, none⟩) NB301_302.out _).trans (hHeld.1)))), ((cell_far (p := ⟨gb302, _, none⟩) NB301_302.out _).trans (((cell_far (p := ⟨gb302, _, none⟩) NB301_302.out _).trans (hHeld.2))))⟩ (fun hHeld => ?_)
 clear hK K
 refine done_ (done_of HT_.out (by kernel_rfl)) ?_
 try go_wp2
 refine bodyPost_ret (results_cell_row rfl _ _ gb302 27 #[.slice Ao10 t303.length co10, .slice Ao9 t306.length co9] (0, 0) _ rfl (by (with_reducible repeat (first | refine blk_drewN ?_ _ | refine blk_drew ?_ | refine blk_alloc ?_ _)); refine blk_put (cs := #[.slice Ao10 t303.length co10, .slice none 0 0]) ?_ 1 _ rfl; (with_reducible repeat (first | refine blk_drewN ?_ _ | refine blk_drew ?_ | refine blk_alloc ?_ _)); refine blk_put (cs := #[.slice none 0 0, .slice none 0 0]) ?_ 0 _ rfl; (with_reducible repeat (first | refine blk_drewN ?_ _ | refine blk_drew ?_ | refine blk_alloc ?_ _)); exact BK302.out) Try.underlying27 rfl (by kernel_rfl)) rfl ?_
 exact ⟨_, _, by first | rfl | (simp [errW_none, errW_some] <;> rfl) | (simp [*, errW_none, errW_some] <;> rfl), by (with_reducible repeat (first | apply Kd.R_alloc | apply Kd.R_drewN | apply Kd.R_drew)); exact Kd.R_mono (Kd.R_far (p := ⟨gb302, 1, none⟩) (Kd.R_far (p := ⟨gb302, 0, none⟩) (Kd.R_types HO305.out BK302.out (by decide)) (fun _ hk => hk.2) (.slice Ao10 t303.length co10)) (fun _ hk => hk.2) (.slice Ao9 t306.length co9)) (fun _ hk => trivial), by (with_reducible repeat (first | apply Kd.R_alloc | apply Kd.R_drewN | apply Kd.R_drew)); exact Kd.R_mono (Kd.R_far (p := ⟨gb302, 1, none⟩) (Kd.R_far (p := ⟨gb302, 0, none⟩) (Kd.R_types HO308.out BK302.out (by decide)) (fun _ hk => hk.2) (.slice Ao10 t303.length co10)) (fun _ hk => hk.2) (.slice Ao9 t306.length co9)) (fun _ hk => trivial), by exact lT HB (gC GE301 (gC GE302 gN))⟩

end Go.Proofs.Ytjpngldnkgofaaa.PFnCrashes
