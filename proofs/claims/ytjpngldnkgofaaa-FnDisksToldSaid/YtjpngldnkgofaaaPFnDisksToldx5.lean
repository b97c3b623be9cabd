-- Written for this claim by a program of mine (a turned copy of the kit's print): functions as plain Lean, and their contracts. Lean checks it.
import Derived.Test.YtjpngldnkgofaaaPFnDisksToldx0
import Derived.Test.YtjpngldnkgofaaaPFnDisksToldx2
import Derived.Test.YtjpngldnkgofaaaVFnDisksTold1
namespace Go.Proofs.Ytjpngldnkgofaaa.PFnDisksTold
open Go.RowKit Go.Proofs.YtjpngldnkgofaaaW.PrintWords Go.Proofs.YtjpngldnkgofaaaW.PrintLast Go.Proofs.YtjpngldnkgofaaaW.PrintMore
attribute [local go_sem] max2_int min2_int max_two min_two max_three min_three max_four min_four   -- for this text's walks alone
set_option linter.unusedVariables false
set_option linter.unusedSimpArgs false

/-! ### spec_DiskOk: function 35 -/
mutual
def spec_DiskOk.j0 : Nat → Bool → List ByteArray → List (S63) → Option (Bool)
 | 0, _, _, _ => none
 | k + 1, x15, x155000, x155001 => if x15 = true then (some false) else (spec_DiskOk.l0 k 0 x155000 x155001)
def spec_DiskOk.l0 : Nat → Int → List ByteArray → List (S63) → Option (Bool)
 | 0, _, _, _ => none
 | k + 1, x3, x155000, x155001 => if x3 < (x155000.length : Int) then (if 0 ≤ x3 then (if ((rdOf ByteArray.empty x155000 x3).size : Int) = 32 then (spec_DiskOk.l0 k (wrap64 (x3 + 1)) x155000 x155001) else (some false)) else (none)) else (spec_DiskOk.l1 k 0 x155000 x155001)
def spec_DiskOk.l1 : Nat → Int → List ByteArray → List (S63) → Option (Bool)
 | 0, _, _, _ => none
 | k + 1, x4, x155000, x155001 => if x4 < (x155001.length : Int) then (if 0 ≤ x4 then ((spec_l01In.f ((rd_T63 x155001 x4).f0) 0 (wrap64 ((x155000.length : Int) - 1))).bind fun t158 => (if t158 = true then (if (((rd_T63 x155001 x4).f1).size : Int) = 32 then (spec_DiskOk.l1 k (wrap64 (x4 + 1)) x155000 x155001) else (some false)) else (some false))) else (none)) else (some true)
end
def spec_DiskOk.f (k : Nat) (l0_0 : List ByteArray) (l0_1 : List (S63)) : Option (Bool) := (spec_l01In.f (l0_0.length : Int) 1 100).bind fun t155 => (if t155 = true then (spec_DiskOk.j0 k (decide ((l0_1.length : Int) > 60)) l0_0 l0_1) else (spec_DiskOk.j0 k true l0_0 l0_1))
theorem spec_DiskOk.mono_l : ∀ k, (∀ y0 y1 y2, LeO (spec_DiskOk.j0 k y0 y1 y2) (spec_DiskOk.j0 (k + 1) y0 y1 y2)) ∧ (∀ y0 y1 y2, LeO (spec_DiskOk.l0 k y0 y1 y2) (spec_DiskOk.l0 (k + 1) y0 y1 y2)) ∧ (∀ y0 y1 y2, LeO (spec_DiskOk.l1 k y0 y1 y2) (spec_DiskOk.l1 (k + 1) y0 y1 y2))
 | 0 => ⟨fun _ _ _ r h => by simp [spec_DiskOk.j0] at h, fun _ _ _ r h => by simp [spec_DiskOk.l0] at h, fun _ _ _ r h => by simp [spec_DiskOk.l1] at h⟩
 | k + 1 => by
  obtain ⟨ih0, ih1, ih2⟩ := spec_DiskOk.mono_l k
  refine ⟨?_, ?_, ?_⟩
  ·intro y0 y1 y2
   unfold spec_DiskOk.j0
   repeat' first
   | (with_reducible exact ih0 _ _ _)
   | (with_reducible exact ih1 _ _ _)
   | (with_reducible exact ih2 _ _ _)
   | (with_reducible exact LeO.refl _)
   | (with_reducible exact LeO.none _)
   | (with_reducible refine LeO.ite ?_ ?_)
   | (with_reducible refine LeO.bind ?_ (fun _ => ?_))
   | exact ih0 _ _ _
   | exact ih1 _ _ _
   | exact ih2 _ _ _
   | exact LeO.none _
   | refine LeO.ite ?_ ?_
   | refine LeO.bind ?_ (fun _ => ?_)
  ·intro y0 y1 y2
   unfold spec_DiskOk.l0
   repeat' first
   | (with_reducible exact ih0 _ _ _)
   | (with_reducible exact ih1 _ _ _)
   | (with_reducible exact ih2 _ _ _)
   | (with_reducible exact LeO.refl _)
   | (with_reducible exact LeO.none _)
   | (with_reducible refine LeO.ite ?_ ?_)
   | (with_reducible refine LeO.bind ?_ (fun _ => ?_))
   | exact ih0 _ _ _
   | exact ih1 _ _ _
   | exact ih2 _ _ _
   | exact LeO.none _
   | refine LeO.ite ?_ ?_
   | refine LeO.bind ?_ (fun _ => ?_)
  ·intro y0 y1 y2
   unfold spec_DiskOk.l1
   repeat' first
   | (with_reducible exact ih0 _ _ _)
   | (with_reducible exact ih1 _ _ _)
   | (with_reducible exact ih2 _ _ _)
   | (with_reducible exact LeO.refl _)
   | (with_reducible exact LeO.none _)
   | (with_reducible refine LeO.ite ?_ ?_)
   | (with_reducible refine LeO.bind ?_ (fun _ => ?_))
   | exact ih0 _ _ _
   | exact ih1 _ _ _
   | exact ih2 _ _ _
   | exact LeO.none _
   | refine LeO.ite ?_ ?_
   | refine LeO.bind ?_ (fun _ => ?_)
theorem spec_DiskOk.mono : ∀ a0 a1 k, LeO (spec_DiskOk.f k a0 a1) (spec_DiskOk.f (k + 1) a0 a1) := by
 intro a0 a1 k
 obtain ⟨ih0, ih1, ih2⟩ := spec_DiskOk.mono_l k
 unfold spec_DiskOk.f
 repeat' first
   | (with_reducible exact ih0 _ _ _)
   | (with_reducible exact ih1 _ _ _)
   | (with_reducible exact ih2 _ _ _)
   | (with_reducible exact LeO.refl _)
   | (with_reducible exact LeO.none _)
   | (with_reducible refine LeO.ite ?_ ?_)
   | (with_reducible refine LeO.bind ?_ (fun _ => ?_))
   | exact ih0 _ _ _
   | exact ih1 _ _ _
   | exact ih2 _ _ _
   | exact LeO.none _
   | refine LeO.ite ?_ ?_
   | refine LeO.bind ?_ (fun _ => ?_)
def spec_DiskOk.T11 : Bool × List (List Nat × List Nat) := (true, [([], []), ([0], [0]), ([], []), ([1, 2], [1, 2]), ([3], [3]), ([4], [4]), ([], []), ([6], [6]), ([7], [7]), ([8], [8]), ([5, 9], [5, 9]), ([10], [10]), ([11, 10], [11]), ([12], [12]), ([13, 12], [12, 13]), ([12], [12]), ([14, 15, 12], [12, 14, 15]), ([16, 12], [12, 16]), ([17, 12], [12, 17]), ([18, 12], [12, 18]), ([19, 12], [12, 19]), ([12, 20], [12, 20])])
def spec_DiskOk.B11 : List Nat := [0, 1, 0, 7, 15, 31, 0, 64, 192, 448, 1023, 2047, 4095, 8191, 16383, 8191, 65535, 131071, 262143, 524287, 1048575, 2097151]
theorem spec_DiskOk.tab11 : rtab .any (opsOf Try.f35 11) = spec_DiskOk.T11 := by kernel_rfl
theorem spec_DiskOk.bits11 : waitsOk spec_DiskOk.T11.2 spec_DiskOk.B11 = true := by kernel_rfl
set_option maxHeartbeats 8000000 in
set_option maxRecDepth 100000 in
theorem spec_DiskOk.calls (k : Nat) (A0_0 : Option Addr) (c0_0 : Nat) (l0_0 : List ByteArray) (A0_1 : Option Addr) (c0_1 : Nat) (l0_1 : List (S63)) (r : Bool) (w : World) (hr0_0 : Kd.C Kd.string w A0_0 l0_0.length l0_0) (hc0_0 : l0_0.length ≤ c0_0) (hr0_1 : Kd.C k63 w A0_1 l0_1.length l0_1) (hc0_1 : l0_1.length ≤ c0_1) (h : spec_DiskOk.f k l0_0 l0_1 = some r) :
  Calls Try.prog 35 #[.agg #[.slice A0_0 l0_0.length c0_0, .slice A0_1 l0_1.length c0_1]] w fun e w' => e = .returned (.bool r) ∧ Below w.heap.size w w' := by
 have hu27 := Try.underlying27
 have HR0_0 := Aside0.mk hr0_0
 have HC0_0 := Aside0.mk hc0_0
 clear hr0_0 hc0_0
 have HR0_1 := Aside0.mk hr0_1
 have HC0_1 := Aside0.mk hc0_1
 clear hr0_1 hc0_1
 have HB := ak (Below.refl w.heap.size w)
 have H : ((spec_l01In.f (l0_0.length : Int) 1 100).bind fun t155 => (if t155 = true then (spec_DiskOk.j0 k (decide ((l0_1.length : Int) > 60)) l0_0 l0_1) else (spec_DiskOk.j0 k true l0_0 l0_1))) = some r := h
 clear h
 have HC2 := Aside0.mk H
 clear H
 go_enter Try.func35, Try.ntmps35
 go_upto_region 1 with (first | ((with_reducible refine gate_dst (N := 1) rfl ?_); (try (refine gate_guard (by rfl) ?_; dsimp only)); refine bx 1 #[.slice A0_0 l0_0.length c0_0, .slice A0_1 l0_1.length c0_1] 27 ?_; intro gb154 hg w3 hbox hb; replace BK154 := ak (hbox); replace GW154 := ak (bz hg (lG HB)); replace GE154 := ak (bz hg (lG HB)); replace HB := lB HB hb; clear hb hbox hg))
 (try simp only [Act.put, List.setIfInBounds_toArray, List.set_cons_zero, List.set_cons_succ])
 go_cut [15] (fun v15 wc => ∃ (kq : Nat) (x15_1 : Bool), v15 = .bool x15_1 ∧ Aside0 (spec_DiskOk.j0 kq x15_1 l0_0 l0_1 = some r) ∧ Aside0 (kq ≤ k) ∧ Aside0 (wc.heap[gb154]? = some (.cells #[(.slice A0_0 l0_0.length c0_0), (.slice A0_1 l0_1.length c0_1)] 27 (0, 0))) ∧ Aside0 (Below w.heap.size w wc))
 case first =>
  have H := HC2.out
  clear HC2
  replace H := Option.bind_eq_some_iff.mp H
  obtain ⟨t155, A40, H⟩ := H
  replace H : (if t155 = true then (spec_DiskOk.j0 k (decide ((l0_1.length : Int) > 60)) l0_0 l0_1) else (spec_DiskOk.j0 k true l0_0 l0_1)) = some r := H
  have A4 := Aside0.mk A40
  clear A40
  by_cases c5 : t155 = true
  ·subst c5
   have H1 : (spec_DiskOk.j0 k (decide ((l0_1.length : Int) > 60)) l0_0 l0_1) = some r := by rw [if_pos rfl] at H; exact H
   clear H
   have H := H1
   clear H1
   have H' := Aside0.mk H
   clear H
   have hcz6_0 : w3.cell? ⟨gb154, 0, none⟩ = some (.slice A0_0 l0_0.length c0_0) := bc BK154 0
   have hcz6_1 : w3.cell? ⟨gb154, 1, none⟩ = some (.slice A0_1 l0_1.length c0_1) := bc BK154 1
   have hfz6_0 := blk_frozen BK154.out 0
   have hfz6_1 := blk_frozen BK154.out 1
   go_wp2_with (first | ((with_reducible refine gate_callee (f := 49) rfl ?_); refine gl (some 8) Try.func49 #[.int .i64 (l0_0.length : Int), .int .i64 1, .int .i64 100] ?_; (with_reducible refine (spec_l01In.calls (l0_0.length : Int) 1 100 true _ A4.out).mono ?_); rintro e w' ⟨rfl, ⟨nd, rfl⟩⟩; refine ⟨_, rfl, ?_⟩))
   go_meet
   case rel => exact ⟨_, (decide ((l0_1.length : Int) > 60)), (by first | rfl | (simp; done) | (simp [*]; done)), H', ⟨by first | omega | exact Nat.le_refl _⟩, ⟨bG BK154⟩, ⟨by exact lT HB (gC GE154 gN)⟩⟩
  ·replace c5 := Bool.eq_false_iff.mpr c5
   subst c5
   have H1 : (spec_DiskOk.j0 k true l0_0 l0_1) = some r := by rw [if_neg (show ¬ (false = true) by decide)] at H; exact H
   clear H
   have H := H1
   clear H1
   have H' := Aside0.mk H
   clear H
   have hcz7_0 : w3.cell? ⟨gb154, 0, none⟩ = some (.slice A0_0 l0_0.length c0_0) := bc BK154 0
   have hcz7_1 : w3.cell? ⟨gb154, 1, none⟩ = some (.slice A0_1 l0_1.length c0_1) := bc BK154 1
   have hfz7_0 := blk_frozen BK154.out 0
   have hfz7_1 := blk_frozen BK154.out 1
   go_wp2_with (first | ((with_reducible refine gate_callee (f := 49) rfl ?_); refine gl (some 8) Try.func49 #[.int .i64 (l0_0.length : Int), .int .i64 1, .int .i64 100] ?_; (with_reducible refine (spec_l01In.calls (l0_0.length : Int) 1 100 false _ A4.out).mono ?_); rintro e w' ⟨rfl, ⟨nd, rfl⟩⟩; refine ⟨_, rfl, ?_⟩))
   go_meet
   case rel => exact ⟨_, (true), (by first | rfl | (simp; done) | (simp [*]; done)), H', ⟨by first | omega | exact Nat.le_refl _⟩, ⟨bG BK154⟩, ⟨by exact lT HB (gC GE154 gN)⟩⟩
 case rest =>
  clear HC2
  try clear p2
  try clear c3
  try clear c4
  try clear c5
  try clear hcz6_0
  try clear hcz6_1
  try clear hcz7_0
  try clear hcz7_1
  try clear hfz6_0
  try clear hfz6_1
  try clear hfz7_0
  try clear hfz7_1
  obtain ⟨kq, x15_1, rfl, HA, HJ1, BK154, HB⟩ := hcut
  cases kq with
  | zero => exact absurd HA.out (by simp [spec_DiskOk.j0])
  | succ kj1 =>
   have H := HA.out
   clear HA
   simp only [spec_DiskOk.j0] at H
   by_cases c8 : x15_1 = true
   ·subst c8
    have H1 : (some false) = some r := by rw [if_pos rfl] at H; exact H
    clear H
    have H := H1
    clear H1
    obtain rfl := Option.some.inj H
    go_wp2
    go_ret
    exact ⟨ew, by exact lT HB (gC GE154 gN)⟩
   ·replace c8 := Bool.eq_false_iff.mpr c8
    subst c8
    have H1 : (spec_DiskOk.l0 kj1 0 l0_0 l0_1) = some r := by rw [if_neg (show ¬ (false = true) by decide)] at H; exact H
    clear H
    have H := H1
    clear H1
    have H' := Aside0.mk H
    clear H
    go_wp2
    go_loopg [3] kj1 (fun kq v3 w' => ∃ (x3_2 : Int), v3 = .int .i64 x3_2 ∧ Aside0 (spec_DiskOk.l0 kq x3_2 l0_0 l0_1 = some r) ∧ Aside0 (kq ≤ kj1) ∧ Aside0 (w'.heap[gb154]? = some (.cells #[(.slice A0_0 l0_0.length c0_0), (.slice A0_1 l0_1.length c0_1)] 27 (0, 0))) ∧ Aside0 (Below w.heap.size w w'))
    case atStart => exact ⟨(0), (by first | rfl | (simp; done) | (simp [*]; done)), H', ⟨Nat.le_refl _⟩, ⟨bG BK154⟩, ⟨by exact lT HB (gC GE154 gN)⟩⟩
    case round =>
     clear H'
     try clear p2
     try clear c3
     try clear c4
     try clear c5
     try clear c8
     try clear hcz6_0
     try clear hcz6_1
     try clear hcz7_0
     try clear hcz7_1
     try clear hfz6_0
     try clear hfz6_1
     try clear hfz7_0
     try clear hfz7_1
     try clear p2
     obtain ⟨x3_2, rfl, HA, HK2, BK154, HB⟩ := hrel
     cases gk with
     | zero => exact absurd HA.out (by simp [spec_DiskOk.l0])
     | succ k2 =>
      have H := HA.out
      clear HA
      simp only [spec_DiskOk.l0] at H
      by_cases c9 : x3_2 < (l0_0.length : Int)
      ·rw [if_pos c9] at H
       have c9b0 : decide (x3_2 < (l0_0.length : Int)) = true := decide_eq_true c9
       clear c9
       by_cases c10 : 0 ≤ x3_2
       ·rw [if_pos c10] at H
        have c10b0 : decide (0 ≤ x3_2) = true := decide_eq_true c10
        clear c10
        by_cases c11 : ((rdOf ByteArray.empty l0_0 x3_2).size : Int) = 32
        ·rw [if_pos c11] at H
         have c11b0 : (((rdOf ByteArray.empty l0_0 x3_2).size : Int) == 32) = true := beq_iff_eq.mpr c11
         have c11b1 : (((rdOf ByteArray.empty l0_0 x3_2).size : Int) != 32) = false := bne_eq_false_iff_eq.mpr c11
         clear c11
         have H' := Aside0.mk H
         clear H
         have hcz12_0 : wr.cell? ⟨gb154, 0, none⟩ = some (.slice A0_0 l0_0.length c0_0) := bc BK154 0
         have hcz12_1 : wr.cell? ⟨gb154, 1, none⟩ = some (.slice A0_1 l0_1.length c0_1) := bc BK154 1
         have hfz12_0 := blk_frozen BK154.out 0
         have hfz12_1 := blk_frozen BK154.out 1
         have p156 : 0 ≤ (x3_2 : Int) := of_decide_eq_true (by first | (with_reducible assumption) | assumption)
         have q156 : x3_2 < (l0_0.length : Int) := of_decide_eq_true (by first | (with_reducible assumption) | assumption)
         obtain ⟨ad156, e156, hx156_0⟩ := Kd.at_string HR0_0.out x3_2 p156 q156
         cases e156
         replace hx156_0 := (HB.out.cell (World.block_lt_of_cell? w _ hx156_0)).trans hx156_0
         replace p156 := eq_true p156
         replace q156 := eq_true q156
         go_wp2
         go_roundg k2
         case measure => have := HJ1.out; have := HK2.out; omega
         case rel => exact ⟨(wrap64 (x3_2 + 1)), (by first | rfl | (simp; done) | (simp [*]; done)), H', ⟨by have := HJ1.out; have := HK2.out; omega⟩, ⟨bG BK154⟩, ⟨by exact lT HB (gC GE154 gN)⟩⟩
        ·rw [if_neg c11] at H
         have c11b0 : (((rdOf ByteArray.empty l0_0 x3_2).size : Int) == 32) = false := beq_eq_false_iff_ne.mpr c11
         have c11b1 : (((rdOf ByteArray.empty l0_0 x3_2).size : Int) != 32) = true := bne_iff_ne.mpr c11
         obtain rfl := Option.some.inj H
         have hcz13_0 : wr.cell? ⟨gb154, 0, none⟩ = some (.slice A0_0 l0_0.length c0_0) := bc BK154 0
         have hcz13_1 : wr.cell? ⟨gb154, 1, none⟩ = some (.slice A0_1 l0_1.length c0_1) := bc BK154 1
         have hfz13_0 := blk_frozen BK154.out 0
         have hfz13_1 := blk_frozen BK154.out 1
         have p156 : 0 ≤ (x3_2 : Int) := of_decide_eq_true (by first | (with_reducible assumption) | assumption)
         have q156 : x3_2 < (l0_0.length : Int) := of_decide_eq_true (by first | (with_reducible assumption) | assumption)
         obtain ⟨ad156, e156, hx156_0⟩ := Kd.at_string HR0_0.out x3_2 p156 q156
         cases e156
         replace hx156_0 := (HB.out.cell (World.block_lt_of_cell? w _ hx156_0)).trans hx156_0
         replace p156 := eq_true p156
         replace q156 := eq_true q156
         go_wp2
         go_ret
         exact ⟨ew, by exact lT HB (gC GE154 gN)⟩
       ·rw [if_neg c10] at H
        exact absurd H (by simp)
      ·rw [if_neg c9] at H
       have c9b0 : decide (x3_2 < (l0_0.length : Int)) = false := decide_eq_false c9
       clear c9
       have H' := Aside0.mk H
       clear H
       have hcz14_0 : wr.cell? ⟨gb154, 0, none⟩ = some (.slice A0_0 l0_0.length c0_0) := bc BK154 0
       have hcz14_1 : wr.cell? ⟨gb154, 1, none⟩ = some (.slice A0_1 l0_1.length c0_1) := bc BK154 1
       have hfz14_0 := blk_frozen BK154.out 0
       have hfz14_1 := blk_frozen BK154.out 1
       go_wp2
       go_loopg [4] k2 (fun kq v4 w' => ∃ (x4_3 : Int), v4 = .int .i64 x4_3 ∧ Aside0 (spec_DiskOk.l1 kq x4_3 l0_0 l0_1 = some r) ∧ Aside0 (kq ≤ k2) ∧ Aside0 (w'.heap[gb154]? = some (.cells #[(.slice A0_0 l0_0.length c0_0), (.slice A0_1 l0_1.length c0_1)] 27 (0, 0))) ∧ Aside0 (Below w.heap.size w w'))
       case atStart => exact ⟨(0), (by first | rfl | (simp; done) | (simp [*]; done)), H', ⟨Nat.le_refl _⟩, ⟨bG BK154⟩, ⟨by exact lT HB (gC GE154 gN)⟩⟩
       case round =>
        clear H'
        try clear c1
        try clear p1
        try clear q1
        try clear hx1
        try clear p2
        try clear c3
        try clear c4
        try clear c5
        try clear p6
        try clear c8
        try clear c9
        try clear c9b0
        try clear c10
        try clear c10b0
        try clear c11
        try clear c11b0
        try clear c11b1
        try clear hcz12_0
        try clear hcz12_1
        try clear hcz13_0
        try clear hcz13_1
        try clear hcz14_0
        try clear hcz14_1
        try clear hcz6_0
        try clear hcz6_1
        try clear hcz7_0
        try clear hcz7_1
        try clear hfz12_0
        try clear hfz12_1
        try clear hfz13_0
        try clear hfz13_1
        try clear hfz14_0
        try clear hfz14_1
        try clear hfz6_0
        try clear hfz6_1
        try clear hfz7_0
        try clear hfz7_1
        try clear hx156_0
        try clear p156
        try clear p2
        try clear q156
        obtain ⟨x4_3, rfl, HA, HK3, BK154, HB⟩ := hrel
        cases gk with
        | zero => exact absurd HA.out (by simp [spec_DiskOk.l1])
        | succ k3 =>
         have H := HA.out
         clear HA
         simp only [spec_DiskOk.l1] at H
         by_cases c15 : x4_3 < (l0_1.length : Int)
         ·rw [if_pos c15] at H
          have c15b0 : decide (x4_3 < (l0_1.length : Int)) = true := decide_eq_true c15
          clear c15
          by_cases c16 : 0 ≤ x4_3
          ·rw [if_pos c16] at H
           have c16b0 : decide (0 ≤ x4_3) = true := decide_eq_true c16
           clear c16
           replace H := Option.bind_eq_some_iff.mp H
           obtain ⟨t158, A170, H⟩ := H
           replace H : (if t158 = true then (if (((rd_T63 l0_1 x4_3).f1).size : Int) = 32 then (spec_DiskOk.l1 k3 (wrap64 (x4_3 + 1)) l0_0 l0_1) else (some false)) else (some false)) = some r := H
           have A17 := Aside0.mk A170
           clear A170
           by_cases c18 : t158 = true
           ·subst c18
            have H1 : (if (((rd_T63 l0_1 x4_3).f1).size : Int) = 32 then (spec_DiskOk.l1 k3 (wrap64 (x4_3 + 1)) l0_0 l0_1) else (some false)) = some r := by rw [if_pos rfl] at H; exact H
            clear H
            have H := H1
            clear H1
            by_cases c19 : (((rd_T63 l0_1 x4_3).f1).size : Int) = 32
            ·rw [if_pos c19] at H
             have c19b0 : ((((rd_T63 l0_1 x4_3).f1).size : Int) == 32) = true := beq_iff_eq.mpr c19
             have c19b1 : ((((rd_T63 l0_1 x4_3).f1).size : Int) != 32) = false := bne_eq_false_iff_eq.mpr c19
             clear c19
             have H' := Aside0.mk H
             clear H
             have hcz20_0 : wr.cell? ⟨gb154, 0, none⟩ = some (.slice A0_0 l0_0.length c0_0) := bc BK154 0
             have hcz20_1 : wr.cell? ⟨gb154, 1, none⟩ = some (.slice A0_1 l0_1.length c0_1) := bc BK154 1
             have hfz20_0 := blk_frozen BK154.out 0
             have hfz20_1 := blk_frozen BK154.out 1
             try go_wp2
             replace BK154 := ak (blk_drew BK154.out)
             replace HB := ak (below_drew1 HB.out)
             have p157 : 0 ≤ (x4_3 : Int) := of_decide_eq_true (by first | (with_reducible assumption) | assumption)
             have q157 : x4_3 < (l0_1.length : Int) := of_decide_eq_true (by first | (with_reducible assumption) | assumption)
             obtain ⟨ad157, e157, hx157_0, hx157_1⟩ := at_T63 HR0_1.out x4_3 p157 q157
             have hw157_1 := hx157_1
             have hw157_0 := hx157_0
             cases e157
             replace hx157_0 := (HB.out.cell (World.block_lt_of_cell? w _ hx157_0)).trans hx157_0
             replace hx157_1 := (HB.out.cell (World.block_lt_of_cell? w _ hx157_1)).trans hx157_1
             replace p157 := eq_true p157
             replace q157 := eq_true q157
             have p159 : 0 ≤ (x4_3 : Int) := of_decide_eq_true (by first | (with_reducible assumption) | assumption)
             have q159 : x4_3 < (l0_1.length : Int) := of_decide_eq_true (by first | (with_reducible assumption) | assumption)
             obtain ⟨ad159, e159, hx159_0, hx159_1⟩ := at_T63 HR0_1.out x4_3 p159 q159
             have hw159_1 := hx159_1
             have hw159_0 := hx159_0
             obtain rfl : ad157 = ad159 := (by injection e159)
             replace hx159_0 := (HB.out.cell (World.block_lt_of_cell? w _ hx159_0)).trans hx159_0
             replace hx159_1 := (HB.out.cell (World.block_lt_of_cell? w _ hx159_1)).trans hx159_1
             replace p159 := eq_true p159
             replace q159 := eq_true q159
             refine start_ (n := 22) (S := fun w' => w'.cell? ⟨gb154, 0, none⟩ = some (.slice A0_0 l0_0.length c0_0) ∧ w'.cell? ⟨gb154, 1, none⟩ = some (.slice (some ad157) l0_1.length c0_1) ∧ w'.cell? (ad157.add ((x4_3).toNat * 2)) = some (.int .i64 ((rd_T63 l0_1 x4_3).f0)) ∧ w'.cell? ⟨(ad157.add ((x4_3).toNat * 2)).block, (ad157.add ((x4_3).toNat * 2)).off + 1, none⟩ = some (.string ((rd_T63 l0_1 x4_3).f1)) ∧ w'.cell? (ad157.add ((x4_3).toNat * 2)) = some (.int .i64 ((rd_T63 l0_1 x4_3).f0)) ∧ w'.cell? ⟨(ad157.add ((x4_3).toNat * 2)).block, (ad157.add ((x4_3).toNat * 2)).off + 1, none⟩ = some (.string ((rd_T63 l0_1 x4_3).f1))) (ds := []) #[f_,f_,f_,f_,f_,f_,f_,f_,f_,f_,f_,f_,f_,f_,f_,f_,f_,f_,f_,f_,f_,f_] (by kernel_rfl) rfl rfl ⟨bc BK154 0, bc BK154 1, ((HB.out.cell (World.block_lt_of_cell? w _ hw157_0)).trans hw157_0), ((HB.out.cell (World.block_lt_of_cell? w _ hw157_1)).trans hw157_1), ((HB.out.cell (World.block_lt_of_cell? w _ hw159_0)).trans hw159_0), ((HB.out.cell (World.block_lt_of_cell? w _ hw159_1)).trans hw159_1)⟩ (fun hHeld => ?_); refine with_tabW spec_DiskOk.tab11 spec_DiskOk.bits11 (fun HT_ HW_ => ?_)
             generalize wr.drew = w21 at BK154 HB hx157_0 hx157_1 hx159_0 hx159_1 hHeld ⊢
             refine pu 0 37 (fb 22 1) HT_ ?_
             refine pu 2 39 (fb 22 5) HT_ ?_
             refine pu 6 43 (fb 22 69) HT_ ?_
             refine tk 1 38 (fb 22 71) HT_ HW_ hHeld ?_
             refine pu 3 40 (fb 22 79) HT_ ?_
             refine pu 4 41 (fb 22 95) HT_ ?_
             refine tk 5 42 (fb 22 127) HT_ HW_ hHeld ?_
             refine tk 7 44 (fb 22 255) HT_ HW_ hHeld ?_
             refine pu 8 45 (fb 22 511) HT_ ?_
             refine pu 9 46 (fb 22 1023) HT_ ?_
             refine on 10 (some 47) (fb 22 2047) HT_ (fun K hK => ?_)
             refine goes_ Try.func49 (by kernel_rfl) rfl #[.int .i64 ((rd_T63 l0_1 x4_3).f0), .int .i64 0, .int .i64 (wrap64 ((l0_0.length : Int) - 1))] (by rfl) rfl rfl (by (try simp only [List.map_toArray, List.map_cons, List.map_nil]); first | done | rfl | (simp only [List.length_drop, List.length_take]; rfl)) ?_
             with_reducible refine (spec_l01In.calls ((rd_T63 l0_1 x4_3).f0) 0 (wrap64 ((l0_0.length : Int) - 1)) true _ A17.out).mono ?_
             rintro e w' ⟨rfl, ⟨nd, rfl⟩⟩
             refine ⟨_, rfl, ?_⟩
             refine hK.out _ _ ⟨bc BK154 0, bc BK154 1, ((HB.out.cell (World.block_lt_of_cell? w _ hw157_0)).trans hw157_0), ((HB.out.cell (World.block_lt_of_cell? w _ hw157_1)).trans hw157_1), ((HB.out.cell (World.block_lt_of_cell? w _ hw159_0)).trans hw159_0), ((HB.out.cell (World.block_lt_of_cell? w _ hw159_1)).trans hw159_1)⟩ (fun hHeld => ?_)
             clear hK K
             refine nm ?_
             refine pu 11 48 (fb 22 4095) HT_ ?_
             refine pu 12 49 (fb 22 8191) HT_ ?_
             refine pu 13 50 (fb 22 16383) HT_ ?_
             refine pu 15 52 (fb 22 49151) HT_ ?_
             refine tk 14 51 (fb 22 65535) HT_ HW_ hHeld ?_
             refine pu 16 53 (fb 22 131071) HT_ ?_
             refine pu 17 54 (fb 22 262143) HT_ ?_
             refine tk 18 55 (fb 22 524287) HT_ HW_ hHeld ?_
             refine pu 19 56 (fb 22 1048575) HT_ ?_
             refine pu 20 57 (fb 22 2097151) HT_ ?_
             refine pu 21 58 (fb 22 4194303) HT_ ?_
             refine done_ (done_of HT_.out (by kernel_rfl)) ?_
             try go_wp2
             go_roundg k3
             case measure => have := HJ1.out; have := HK2.out; have := HK3.out; omega
             case rel => exact ⟨(wrap64 (x4_3 + 1)), (by first | rfl | (simp; done) | (simp [*]; done)), H', ⟨by have := HJ1.out; have := HK2.out; have := HK3.out; omega⟩, ⟨bG BK154⟩, ⟨by exact lT HB (gC GE154 gN)⟩⟩
            ·rw [if_neg c19] at H
             have c19b0 : ((((rd_T63 l0_1 x4_3).f1).size : Int) == 32) = false := beq_eq_false_iff_ne.mpr c19
             have c19b1 : ((((rd_T63 l0_1 x4_3).f1).size : Int) != 32) = true := bne_iff_ne.mpr c19
             obtain rfl := Option.some.inj H
             have hcz22_0 : wr.cell? ⟨gb154, 0, none⟩ = some (.slice A0_0 l0_0.length c0_0) := bc BK154 0
             have hcz22_1 : wr.cell? ⟨gb154, 1, none⟩ = some (.slice A0_1 l0_1.length c0_1) := bc BK154 1
             have hfz22_0 := blk_frozen BK154.out 0
             have hfz22_1 := blk_frozen BK154.out 1
             try go_wp2
             replace BK154 := ak (blk_drew BK154.out)
             replace HB := ak (below_drew1 HB.out)
             have p157 : 0 ≤ (x4_3 : Int) := of_decide_eq_true (by first | (with_reducible assumption) | assumption)
             have q157 : x4_3 < (l0_1.length : Int) := of_decide_eq_true (by first | (with_reducible assumption) | assumption)
             obtain ⟨ad157, e157, hx157_0, hx157_1⟩ := at_T63 HR0_1.out x4_3 p157 q157
             have hw157_1 := hx157_1
             have hw157_0 := hx157_0
             cases e157
             replace hx157_0 := (HB.out.cell (World.block_lt_of_cell? w _ hx157_0)).trans hx157_0
             replace hx157_1 := (HB.out.cell (World.block_lt_of_cell? w _ hx157_1)).trans hx157_1
             replace p157 := eq_true p157
             replace q157 := eq_true q157
             have p159 : 0 ≤ (x4_3 : Int) := of_decide_eq_true (by first | (with_reducible assumption) | assumption)
             have q159 : x4_3 < (l0_1.length : Int) := of_decide_eq_true (by first | (with_reducible assumption) | assumption)
             obtain ⟨ad159, e159, hx159_0, hx159_1⟩ := at_T63 HR0_1.out x4_3 p159 q159
             have hw159_1 := hx159_1
             have hw159_0 := hx159_0
             obtain rfl : ad157 = ad159 := (by injection e159)
             replace hx159_0 := (HB.out.cell (World.block_lt_of_cell? w _ hx159_0)).trans hx159_0
             replace hx159_1 := (HB.out.cell (World.block_lt_of_cell? w _ hx159_1)).trans hx159_1
             replace p159 := eq_true p159
             replace q159 := eq_true q159
             refine start_ (n := 22) (S := fun w' => w'.cell? ⟨gb154, 0, none⟩ = some (.slice A0_0 l0_0.length c0_0) ∧ w'.cell? ⟨gb154, 1, none⟩ = some (.slice (some ad157) l0_1.length c0_1) ∧ w'.cell? (ad157.add ((x4_3).toNat * 2)) = some (.int .i64 ((rd_T63 l0_1 x4_3).f0)) ∧ w'.cell? ⟨(ad157.add ((x4_3).toNat * 2)).block, (ad157.add ((x4_3).toNat * 2)).off + 1, none⟩ = some (.string ((rd_T63 l0_1 x4_3).f1)) ∧ w'.cell? (ad157.add ((x4_3).toNat * 2)) = some (.int .i64 ((rd_T63 l0_1 x4_3).f0)) ∧ w'.cell? ⟨(ad157.add ((x4_3).toNat * 2)).block, (ad157.add ((x4_3).toNat * 2)).off + 1, none⟩ = some (.string ((rd_T63 l0_1 x4_3).f1))) (ds := []) #[f_,f_,f_,f_,f_,f_,f_,f_,f_,f_,f_,f_,f_,f_,f_,f_,f_,f_,f_,f_,f_,f_] (by kernel_rfl) rfl rfl ⟨bc BK154 0, bc BK154 1, ((HB.out.cell (World.block_lt_of_cell? w _ hw157_0)).trans hw157_0), ((HB.out.cell (World.block_lt_of_cell? w _ hw157_1)).trans hw157_1), ((HB.out.cell (World.block_lt_of_cell? w _ hw159_0)).trans hw159_0), ((HB.out.cell (World.block_lt_of_cell? w _ hw159_1)).trans hw159_1)⟩ (fun hHeld => ?_); refine with_tabW spec_DiskOk.tab11 spec_DiskOk.bits11 (fun HT_ HW_ => ?_)
             generalize wr.drew = w23 at BK154 HB hx157_0 hx157_1 hx159_0 hx159_1 hHeld ⊢
             refine pu 0 37 (fb 22 1) HT_ ?_
             refine pu 2 39 (fb 22 5) HT_ ?_
             refine pu 6 43 (fb 22 69) HT_ ?_
             refine tk 1 38 (fb 22 71) HT_ HW_ hHeld ?_
             refine pu 3 40 (fb 22 79) HT_ ?_
             refine pu 4 41 (fb 22 95) HT_ ?_
             refine tk 5 42 (fb 22 127) HT_ HW_ hHeld ?_
             refine tk 7 44 (fb 22 255) HT_ HW_ hHeld ?_
             refine pu 8 45 (fb 22 511) HT_ ?_
             refine pu 9 46 (fb 22 1023) HT_ ?_
             refine on 10 (some 47) (fb 22 2047) HT_ (fun K hK => ?_)
             refine goes_ Try.func49 (by kernel_rfl) rfl #[.int .i64 ((rd_T63 l0_1 x4_3).f0), .int .i64 0, .int .i64 (wrap64 ((l0_0.length : Int) - 1))] (by rfl) rfl rfl (by (try simp only [List.map_toArray, List.map_cons, List.map_nil]); first | done | rfl | (simp only [List.length_drop, List.length_take]; rfl)) ?_
             with_reducible refine (spec_l01In.calls ((rd_T63 l0_1 x4_3).f0) 0 (wrap64 ((l0_0.length : Int) - 1)) true _ A17.out).mono ?_
             rintro e w' ⟨rfl, ⟨nd, rfl⟩⟩
             refine ⟨_, rfl, ?_⟩
             refine hK.out _ _ ⟨bc BK154 0, bc BK154 1, ((HB.out.cell (World.block_lt_of_cell? w _ hw157_0)).trans hw157_0), ((HB.out.cell (World.block_lt_of_cell? w _ hw157_1)).trans hw157_1), ((HB.out.cell (World.block_lt_of_cell? w _ hw159_0)).trans hw159_0), ((HB.out.cell (World.block_lt_of_cell? w _ hw159_1)).trans hw159_1)⟩ (fun hHeld => ?_)
             clear hK K
             refine nm ?_
             refine pu 11 48 (fb 22 4095) HT_ ?_
             refine pu 12 49 (fb 22 8191) HT_ ?_
             refine pu 13 50 (fb 22 16383) HT_ ?_
             refine pu 15 52 (fb 22 49151) HT_ ?_
             refine tk 14 51 (fb 22 65535) HT_ HW_ hHeld ?_
             refine pu 16 53 (fb 22 131071) HT_ ?_
             refine pu 17 54 (fb 22 262143) HT_ ?_
             refine tk 18 55 (fb 22 524287) HT_ HW_ hHeld ?_
             refine pu 19 56 (fb 22 1048575) HT_ ?_
             refine pu 20 57 (fb 22 2097151) HT_ ?_
             refine pu 21 58 (fb 22 4194303) HT_ ?_
             refine done_ (done_of HT_.out (by kernel_rfl)) ?_
             try go_wp2
             go_ret
             exact ⟨ew, by exact lT HB (gC GE154 gN)⟩
           ·replace c18 := Bool.eq_false_iff.mpr c18
            subst c18
            have H1 : (some false) = some r := by rw [if_neg (show ¬ (false = true) by decide)] at H; exact H
            clear H
            have H := H1
            clear H1
            obtain rfl := Option.some.inj H
            have hcz24_0 : wr.cell? ⟨gb154, 0, none⟩ = some (.slice A0_0 l0_0.length c0_0) := bc BK154 0
            have hcz24_1 : wr.cell? ⟨gb154, 1, none⟩ = some (.slice A0_1 l0_1.length c0_1) := bc BK154 1
            have hfz24_0 := blk_frozen BK154.out 0
            have hfz24_1 := blk_frozen BK154.out 1
            try go_wp2
            replace BK154 := ak (blk_drew BK154.out)
            replace HB := ak (below_drew1 HB.out)
            have p157 : 0 ≤ (x4_3 : Int) := of_decide_eq_true (by first | (with_reducible assumption) | assumption)
            have q157 : x4_3 < (l0_1.length : Int) := of_decide_eq_true (by first | (with_reducible assumption) | assumption)
            obtain ⟨ad157, e157, hx157_0, hx157_1⟩ := at_T63 HR0_1.out x4_3 p157 q157
            have hw157_1 := hx157_1
            have hw157_0 := hx157_0
            cases e157
            replace hx157_0 := (HB.out.cell (World.block_lt_of_cell? w _ hx157_0)).trans hx157_0
            replace hx157_1 := (HB.out.cell (World.block_lt_of_cell? w _ hx157_1)).trans hx157_1
            replace p157 := eq_true p157
            replace q157 := eq_true q157
            refine start_ (n := 22) (S := fun w' => w'.cell? ⟨gb154, 0, none⟩ = some (.slice A0_0 l0_0.length c0_0) ∧ w'.cell? ⟨gb154, 1, none⟩ = some (.slice (some ad157) l0_1.length c0_1) ∧ w'.cell? (ad157.add ((x4_3).toNat * 2)) = some (.int .i64 ((rd_T63 l0_1 x4_3).f0)) ∧ w'.cell? ⟨(ad157.add ((x4_3).toNat * 2)).block, (ad157.add ((x4_3).toNat * 2)).off + 1, none⟩ = some (.string ((rd_T63 l0_1 x4_3).f1))) (ds := []) #[f_,f_,f_,f_,f_,f_,f_,f_,f_,f_,f_,f_,f_,f_,f_,f_,f_,f_,f_,f_,f_,f_] (by kernel_rfl) rfl rfl ⟨bc BK154 0, bc BK154 1, ((HB.out.cell (World.block_lt_of_cell? w _ hw157_0)).trans hw157_0), ((HB.out.cell (World.block_lt_of_cell? w _ hw157_1)).trans hw157_1)⟩ (fun hHeld => ?_); refine with_tabW spec_DiskOk.tab11 spec_DiskOk.bits11 (fun HT_ HW_ => ?_)
            generalize wr.drew = w25 at BK154 HB hx157_0 hx157_1 hHeld ⊢
            refine pu 0 37 (fb 22 1) HT_ ?_
            refine pu 2 39 (fb 22 5) HT_ ?_
            refine pu 6 43 (fb 22 69) HT_ ?_
            refine tk 1 38 (fb 22 71) HT_ HW_ hHeld ?_
            refine pu 3 40 (fb 22 79) HT_ ?_
            refine pu 4 41 (fb 22 95) HT_ ?_
            refine tk 5 42 (fb 22 127) HT_ HW_ hHeld ?_
            refine tk 7 44 (fb 22 255) HT_ HW_ hHeld ?_
            refine pu 8 45 (fb 22 511) HT_ ?_
            refine pu 9 46 (fb 22 1023) HT_ ?_
            refine on 10 (some 47) (fb 22 2047) HT_ (fun K hK => ?_)
            refine goes_ Try.func49 (by kernel_rfl) rfl #[.int .i64 ((rd_T63 l0_1 x4_3).f0), .int .i64 0, .int .i64 (wrap64 ((l0_0.length : Int) - 1))] (by rfl) rfl rfl (by (try simp only [List.map_toArray, List.map_cons, List.map_nil]); first | done | rfl | (simp only [List.length_drop, List.length_take]; rfl)) ?_
            with_reducible refine (spec_l01In.calls ((rd_T63 l0_1 x4_3).f0) 0 (wrap64 ((l0_0.length : Int) - 1)) false _ A17.out).mono ?_
            rintro e w' ⟨rfl, ⟨nd, rfl⟩⟩
            refine ⟨_, rfl, ?_⟩
            refine hK.out _ _ ⟨bc BK154 0, bc BK154 1, ((HB.out.cell (World.block_lt_of_cell? w _ hw157_0)).trans hw157_0), ((HB.out.cell (World.block_lt_of_cell? w _ hw157_1)).trans hw157_1)⟩ (fun hHeld => ?_)
            clear hK K
            refine nm ?_
            refine pu 11 48 (fb 22 4095) HT_ ?_
            refine pu 12 49 (fb 22 8191) HT_ ?_
            refine pn 13 50 (fb 22 16383) HT_ ?_
            refine pn 14 51 (fb 22 32767) HT_ ?_
            refine pn 15 52 (fb 22 65535) HT_ ?_
            refine pn 16 53 (fb 22 131071) HT_ ?_
            refine pn 17 54 (fb 22 262143) HT_ ?_
            refine pn 18 55 (fb 22 524287) HT_ ?_
            refine pn 19 56 (fb 22 1048575) HT_ ?_
            refine pn 20 57 (fb 22 2097151) HT_ ?_
            refine pu 21 58 (fb 22 4194303) HT_ ?_
            refine done_ (done_of HT_.out (by kernel_rfl)) ?_
            try go_wp2
            go_ret
            exact ⟨ew, by exact lT HB (gC GE154 gN)⟩
          ·rw [if_neg c16] at H
           exact absurd H (by simp)
         ·rw [if_neg c15] at H
          have c15b0 : decide (x4_3 < (l0_1.length : Int)) = false := decide_eq_false c15
          clear c15
          obtain rfl := Option.some.inj H
          have hcz26_0 : wr.cell? ⟨gb154, 0, none⟩ = some (.slice A0_0 l0_0.length c0_0) := bc BK154 0
          have hcz26_1 : wr.cell? ⟨gb154, 1, none⟩ = some (.slice A0_1 l0_1.length c0_1) := bc BK154 1
          have hfz26_0 := blk_frozen BK154.out 0
          have hfz26_1 := blk_frozen BK154.out 1
          go_wp2
          go_ret
          exact ⟨ew, by exact lT HB (gC GE154 gN)⟩

end Go.Proofs.Ytjpngldnkgofaaa.PFnDisksTold
