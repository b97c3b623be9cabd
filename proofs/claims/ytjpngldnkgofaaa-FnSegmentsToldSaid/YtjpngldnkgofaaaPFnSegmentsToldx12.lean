-- Written by a program of mine (a turned copy of the kit's print): functions as plain Lean, their contracts.
import Derived.Test.YtjpngldnkgofaaaPFnSegmentsToldx11
import Derived.Test.YtjpngldnkgofaaaVFnSegmentsTold1
namespace Go.Proofs.Ytjpngldnkgofaaa.PFnSegmentsTold
open Go.RowKit Go.Proofs.YtjpngldnkgofaaaW.PrintWords Go.Proofs.YtjpngldnkgofaaaW.PrintLast Go.Proofs.YtjpngldnkgofaaaW.PrintMore
attribute [local go_sem] max2_int min2_int max_two min_two max_three min_three max_four min_four   -- for this text's walks alone
set_option maxHeartbeats 8000000
set_option maxRecDepth 100000
set_option linter.unusedVariables false
set_option linter.unusedSimpArgs false
/-! ### spec_l03Disk: function 44 -/
def spec_l03Disk.l0 : Nat → Int → List Int → Int → Int → List ByteArray → List (S63) → Option (List ByteArray × (List (S63)) × Int × Int)
 | 0, _, _, _, _, _, _ => none
 | k + 1, x5, x1000, x1001, x1002, x392000, x392001 => (spec_l01Below.f x1000 x1001 x1002 9).bind fun bt392 => (if x5 < bt392.1 then ((spec_l01Below.f x1000 bt392.2.1 bt392.2.2 (x392000.length : Int)).bind fun bt395 => ((spec_l01Below.f x1000 bt395.2.1 bt395.2.2 40).bind fun bt398 => ((spec_l01Below.f x1000 bt398.2.1 bt398.2.2 50).bind fun bt401 => ((spec_l01Text.f k x1000 bt401.2.1 bt401.2.2 bt401.1).bind fun bt404 => ((spec_WriteBytes.f k x392000 x392001 bt395.1 bt398.1 bt404.1).bind fun bt407 => ((spec_l01Once.f x1000 bt404.2.1 bt404.2.2 4).bind fun bt414 => (if bt414.1 = true then ((spec_FlushDisk.f k bt407.1 bt407.2.1).bind fun bt417 => (spec_l03Disk.l0 k (wrap64 (x5 + 1)) x1000 bt414.2.1 bt414.2.2 bt417.1 bt417.2)) else (spec_l03Disk.l0 k (wrap64 (x5 + 1)) x1000 bt414.2.1 bt414.2.2 bt407.1 bt407.2.1)))))))) else (some (x392000, x392001, bt392.2.1, bt392.2.2)))
def spec_l03Disk.f (k : Nat) (s0_0 : List Int) (s0_1 : Int) (s0_2 : Int) : Option (List ByteArray × (List (S63)) × Int × Int) := (spec_l01Below.f s0_0 s0_1 s0_2 6).bind fun bt381 => ((spec_DiskNew.f k (wrap64 (1 + bt381.1))).bind fun bt384 => (spec_l03Disk.l0 k 0 s0_0 bt381.2.1 bt381.2.2 bt384.1 bt384.2.1))
theorem spec_l03Disk.mono_l : ∀ k, (∀ y0 y1 y2 y3 y4 y5, LeO (spec_l03Disk.l0 k y0 y1 y2 y3 y4 y5) (spec_l03Disk.l0 (k + 1) y0 y1 y2 y3 y4 y5))
 | 0 => fun _ _ _ _ _ _ r h => by simp [spec_l03Disk.l0] at h
 | k + 1 => by
  have ih0 := spec_l03Disk.mono_l k
  ·intro y0 y1 y2 y3 y4 y5
   unfold spec_l03Disk.l0
   repeat' first
   | (with_reducible exact ih0 _ _ _ _ _ _)
   | (with_reducible exact spec_DiskNew.mono _ _)
   | (with_reducible exact spec_FlushDisk.mono _ _ _)
   | (with_reducible exact spec_WriteBytes.mono _ _ _ _ _ _)
   | (with_reducible exact spec_l01Text.mono _ _ _ _ _)
   | (with_reducible exact LeO.refl _)
   | (with_reducible exact LeO.none _)
   | (with_reducible refine LeO.ite ?_ ?_)
   | (with_reducible refine LeO.bind ?_ (fun _ => ?_))
   | exact ih0 _ _ _ _ _ _
   | exact spec_DiskNew.mono _ _
   | exact spec_FlushDisk.mono _ _ _
   | exact spec_WriteBytes.mono _ _ _ _ _ _
   | exact spec_l01Text.mono _ _ _ _ _
   | exact LeO.none _
   | refine LeO.ite ?_ ?_
   | refine LeO.bind ?_ (fun _ => ?_)
theorem spec_l03Disk.mono : ∀ a0 a1 a2 k, LeO (spec_l03Disk.f k a0 a1 a2) (spec_l03Disk.f (k + 1) a0 a1 a2) := by
 intro a0 a1 a2 k
 have ih0 := spec_l03Disk.mono_l k
 unfold spec_l03Disk.f
 repeat' first
   | (with_reducible exact ih0 _ _ _ _ _ _)
   | (with_reducible exact spec_DiskNew.mono _ _)
   | (with_reducible exact spec_FlushDisk.mono _ _ _)
   | (with_reducible exact spec_WriteBytes.mono _ _ _ _ _ _)
   | (with_reducible exact spec_l01Text.mono _ _ _ _ _)
   | (with_reducible exact LeO.refl _)
   | (with_reducible exact LeO.none _)
   | (with_reducible refine LeO.ite ?_ ?_)
   | (with_reducible refine LeO.bind ?_ (fun _ => ?_))
   | exact ih0 _ _ _ _ _ _
   | exact spec_DiskNew.mono _ _
   | exact spec_FlushDisk.mono _ _ _
   | exact spec_WriteBytes.mono _ _ _ _ _ _
   | exact spec_l01Text.mono _ _ _ _ _
   | exact LeO.none _
   | refine LeO.ite ?_ ?_
   | refine LeO.bind ?_ (fun _ => ?_)
def spec_l03Disk.T5 : Bool × List (List Nat × List Nat) := (true, [([], []), ([], []), ([], []), ([2], [2]), ([3], [3]), ([1, 4], [1, 4]), ([], []), ([6, 5], [6]), ([], []), ([], []), ([9, 7], [9]), ([8, 10, 10], [8, 10]), ([0, 5, 7, 11, 11], [0, 5, 7, 11]), ([12], [12]), ([13], [13]), ([13], [13]), ([14, 12, 0, 1, 2, 3, 4, 5, 6, 7, 8, 9, 10, 11, 12, 13, 14], [14])])
def spec_l03Disk.B5 : List Nat := [0, 0, 0, 4, 12, 30, 0, 126, 0, 0, 766, 2046, 4095, 8191, 16383, 16383, 32767]
theorem spec_l03Disk.tab5 : rtab .any (opsOf Try.f44 5) = spec_l03Disk.T5 := by kernel_rfl
theorem spec_l03Disk.bits5 : waitsOk spec_l03Disk.T5.2 spec_l03Disk.B5 = true := by kernel_rfl
theorem spec_l03Disk.calls (k : Nat) (g : Nat) (s0_0 : List Int) (s0_1 : Int) (s0_2 : Int) (r1 : List ByteArray) (r2 : List (S63)) (r3 : Int) (r4 : Int) (w0 w : World) (hI : IsS80 w0 w g s0_0 s0_1 s0_2) (hB : Below w0.heap.size w0 w) (h : spec_l03Disk.f k s0_0 s0_1 s0_2 = some (r1, r2, r3, r4)) :
  Calls Try.prog 44 #[.pointer (some ⟨g, 0, none⟩)] w fun e w' => ∃ v0_ v1_ : Value, e = .returned (.agg #[v0_, v1_]) ∧ Kd.R Kd.string 9 w' w.heap.size (fun _ => True) v0_ r1 ∧ Kd.R k63 63 w' w.heap.size (fun _ => True) v1_ r2 ∧ IsS80 w0 w' g s0_0 r3 r4 ∧ Below w0.heap.size w0 w' ∧ KeepBut w w' g none := by
 have hu27 := Try.underlying27
 have HI0 := Aside0.mk hI
 have HK := ak (KeepBut.refl w g none)
 have HL := Aside0.mk hB.size
 clear hI
 have HW0 := Aside0.mk hB.size
 have HB := Aside0.mk hB
 clear hB
 have H : ((spec_l01Below.f s0_0 s0_1 s0_2 6).bind fun bt381 => ((spec_DiskNew.f k (wrap64 (1 + bt381.1))).bind fun bt384 => (spec_l03Disk.l0 k 0 s0_0 bt381.2.1 bt381.2.2 bt384.1 bt384.2.1))) = some (r1, r2, r3, r4) := h
 clear h
 replace H := Option.bind_eq_some_iff.mp H
 obtain ⟨⟨t381, t382, t383⟩, A20, H⟩ := H
 replace H : ((spec_DiskNew.f k (wrap64 (1 + t381))).bind fun bt384 => (spec_l03Disk.l0 k 0 s0_0 t382 t383 bt384.1 bt384.2.1)) = some (r1, r2, r3, r4) := H
 have A2 := Aside0.mk A20
 clear A20
 replace H := Option.bind_eq_some_iff.mp H
 obtain ⟨⟨t384, t387, t390⟩, A30, H⟩ := H
 replace H : (spec_l03Disk.l0 k 0 s0_0 t382 t383 t384 t387) = some (r1, r2, r3, r4) := H
 have A3 := Aside0.mk A30
 clear A30
 have H' := Aside0.mk H
 clear H
 go_enter Try.func44, Try.ntmps44
 go_wp2_with (first | ((with_reducible refine gate_dst (N := 2) rfl ?_); refine bx 2 #[.slice none 0 0, .slice none 0 0] 27 ?_; intro gb380 hg w4 hbox hb; replace HB := ak (below_step (lT HB gN) hb); replace BK380 := ak (hbox); replace GW380 := ak ((by rw [hg]; exact (keep_size (w := w) (g := g) (row := none) (kT HK gN)) : w.heap.size ≤ gb380)); replace GE380 := ak ((Nat.le_trans HW0.out (by rw [hg]; exact (keep_size (w := w) (g := g) (row := none) (kT HK gN)) : w.heap.size ≤ gb380) : w0.heap.size ≤ gb380)); replace HK := ak (KeepBut.trans (kT HK gN) (KeepBut.of_below hb g none) (.inl rfl)); replace NB0_380 := ak ((by rw [hg]; exact Nat.ne_of_lt (IsS80.lt (show IsS80 w0 _ g s0_0 s0_1 s0_2 from IsS80.T_ HI0 nN)) : g ≠ gb380)); replace NB380_0 := ak ((by rw [hg]; exact Nat.ne_of_gt (IsS80.lt (show IsS80 w0 _ g s0_0 s0_1 s0_2 from IsS80.T_ HI0 nN)) : gb380 ≠ g)); replace HI0 := ak (IsS80.below (IsS80.T_ HI0 nN) hb); clear hb hbox hg) | ((with_reducible refine gate_callee (f := 47) rfl ?_); refine gl (some 8) Try.func47 #[.pointer (some ⟨g, 0, none⟩), .int .i64 6] ?_; (with_reducible refine (spec_l01Below.calls g s0_0 s0_1 s0_2 6 t381 t382 t383 w0 _ ?side1 ?side2 A2.out).mono ?_); (case side1 => exact IsS80.T_ HI0 (nC NB0_380 nN)); (case side2 => exact lT HB (gC GE380 gN)); rintro e w5 ⟨rfl, hi, hb, hk⟩; refine ⟨_, rfl, ?_⟩; replace BK380 := ak (KeepBut.blk hk (g' := gb380) (o := .cells #[.slice none 0 0, .slice none 0 0] 27 (0, 0)) (bG BK380) NB380_0.out (by simp)); replace HK := ak (KeepBut.trans (kT HK (gC GW380 gN)) hk (.inl rfl)); replace HB := ak (hb); replace HI0 := ak (hi); (try clear hb); (try clear hk); (try clear hi)) | ((with_reducible refine gate_callee (f := 67) rfl ?_); refine gl (some 10) Try.func67 #[.int .i64 (wrap64 (1 + t381))] ?_; (with_reducible refine (spec_DiskNew.calls k (wrap64 (1 + t381)) t384 t387 t390 _ A3.out).mono ?_); rintro e w6 ⟨v385, v388, rfl, ho0, ho1, hb⟩; refine ⟨_, rfl, ?_⟩; replace HO386 := ak (Kd.R_lower ho0 (keep_size (w := w) (g := g) (row := none) (kT HK (gC GW380 gN)))); replace HO389 := ak (Kd.R_lower ho1 (keep_size (w := w) (g := g) (row := none) (kT HK (gC GW380 gN)))); replace BK380 := bB BK380 hb; replace HK := ak (KeepBut.trans (kT HK (gC GW380 gN)) (KeepBut.of_below hb g none) (.inl rfl)); replace HB := ak (below_step (lT HB (gC GE380 gN)) hb); replace HI0 := ak (IsS80.below (IsS80.T_ HI0 (nC NB0_380 nN)) hb); (try clear hb); (try clear hk); (try clear hi); (try clear ho0); (try clear ho1)) | ((with_reducible refine gate_dst (N := 3) rfl ?_); refine bx 3 #[.slice none 0 0, .slice none 0 0] 27 ?_; intro gb391 hg w7 hbox hb; replace HO386 := rB HO386 hb; replace HO389 := rB HO389 hb; replace HB := ak (below_step (lT HB (gC GE380 gN)) hb); replace BK391 := ak (hbox); replace GW391 := ak ((by rw [hg]; exact (keep_size (w := w) (g := g) (row := none) (kT HK (gC GW380 gN))) : w.heap.size ≤ gb391)); replace GE391 := ak ((Nat.le_trans HW0.out (by rw [hg]; exact (keep_size (w := w) (g := g) (row := none) (kT HK (gC GW380 gN))) : w.heap.size ≤ gb391) : w0.heap.size ≤ gb391)); replace HK := ak (KeepBut.trans (kT HK (gC GW380 gN)) (KeepBut.of_below hb g none) (.inl rfl)); replace NB380_391 := ak (nl hg (bG BK380)); replace NB391_380 := ak (ng hg (bG BK380)); replace BK380 := bB BK380 hb; replace NB0_391 := ak ((by rw [hg]; exact Nat.ne_of_lt (IsS80.lt (show IsS80 w0 _ g s0_0 t382 t383 from IsS80.T_ HI0 (nC NB0_380 nN))) : g ≠ gb391)); replace NB391_0 := ak ((by rw [hg]; exact Nat.ne_of_gt (IsS80.lt (show IsS80 w0 _ g s0_0 t382 t383 from IsS80.T_ HI0 (nC NB0_380 nN))) : gb391 ≠ g)); replace HI0 := ak (IsS80.below (IsS80.T_ HI0 (nC NB0_380 nN)) hb); clear hb hbox hg; obtain ⟨Ao8, co8, eo8⟩ := Kd.R_slice HO386.out; subst eo8; have hnb9 := NB391_380.out; have hnc9 := NB380_391.out; have hnb10 := NB391_0.out; have hnc10 := NB0_391.out; obtain ⟨hcz11_0, hcz11_1, hfz11_0, hfz11_1⟩ := bC2 BK391; obtain ⟨Ao12, co12, eo12⟩ := Kd.R_slice HO389.out; subst eo12))
 go_loopg [5] k (fun kq v5 w' => ∃ (x5_1 : Int) (x1001_1 : Int) (x1002_1 : Int) (x392000_1 : List ByteArray) (x392001_1 : List (S63)) (u392000 : Value) (u392001 : Value), v5 = .int .i64 x5_1 ∧ Aside0 (spec_l03Disk.l0 kq x5_1 s0_0 x1001_1 x1002_1 x392000_1 x392001_1 = some (r1, r2, r3, r4)) ∧ Aside0 (kq ≤ k) ∧ Aside0 (Kd.R Kd.string 9 w' w.heap.size (fun _ => True) u392000 x392000_1) ∧ Aside0 (Kd.R k63 63 w' w.heap.size (fun _ => True) u392001 x392001_1) ∧ Aside0 (w'.heap[gb380]? = some (.cells #[(.slice none 0 0), (.slice none 0 0)] 27 (0, 0))) ∧ Aside0 (w'.heap[gb391]? = some (.cells #[u392000, u392001] 27 (0, 0))) ∧ Aside0 (IsS80 w0 w' g s0_0 x1001_1 x1002_1) ∧ Aside0 (KeepBut w w' g none) ∧ Aside0 (Below w0.heap.size w0 w'))
 case atStart => exact ⟨(0), (t382), (t383), (t384), (t387), (.slice Ao8 t384.length co8), (.slice Ao12 t387.length co12), (by first | rfl | (simp; done) | (simp [*]; done)), H', ⟨Nat.le_refl _⟩, ⟨by exact Kd.R_mono (rT HO386 BK391 (by decide)) (fun _ hk => trivial)⟩, ⟨by exact Kd.R_mono (rT HO389 BK391 (by decide)) (fun _ hk => trivial)⟩, ⟨by (with_reducible repeat (first | refine blk_drewN ?_ _ | refine blk_drew ?_ | refine blk_alloc ?_ _)); refine blk_far ?_ NB380_391.out _; (with_reducible repeat (first | refine blk_drewN ?_ _ | refine blk_drew ?_ | refine blk_alloc ?_ _)); refine blk_far ?_ NB380_391.out _; (with_reducible repeat (first | refine blk_drewN ?_ _ | refine blk_drew ?_ | refine blk_alloc ?_ _)); exact BK380.out⟩, ⟨bW BK391⟩, ⟨IsS80.T_ HI0 (nC NB0_380 (nC NB0_391 nN))⟩, ⟨kT HK (gC GW380 (gC GW391 gN))⟩, ⟨lT HB (gC GE380 (gC GE391 gN))⟩⟩
 case round =>
  clear H'
  try clear c1
  try clear p2
  try clear c4
  try clear c6
  try clear p6
  try clear c9
  try clear c10
  try clear hcz11_0
  try clear hcz11_1
  try clear hfz11_0
  try clear hfz11_1
  obtain ⟨x5_1, x1001_1, x1002_1, x392000_1, x392001_1, u392000, u392001, rfl, HA, HK1, HO_392000, HO_392001, BK380, BK391, HI0, HK, HB⟩ := hrel
  cases gk with
  | zero => exact absurd HA.out (by simp [spec_l03Disk.l0])
  | succ k1 =>
   have H := HA.out
   clear HA
   simp only [spec_l03Disk.l0] at H
   replace H := Option.bind_eq_some_iff.mp H
   obtain ⟨⟨t392, t393, t394⟩, A130, H⟩ := H
   replace H : (if x5_1 < t392 then ((spec_l01Below.f s0_0 t393 t394 (x392000_1.length : Int)).bind fun bt395 => ((spec_l01Below.f s0_0 bt395.2.1 bt395.2.2 40).bind fun bt398 => ((spec_l01Below.f s0_0 bt398.2.1 bt398.2.2 50).bind fun bt401 => ((spec_l01Text.f k1 s0_0 bt401.2.1 bt401.2.2 bt401.1).bind fun bt404 => ((spec_WriteBytes.f k1 x392000_1 x392001_1 bt395.1 bt398.1 bt404.1).bind fun bt407 => ((spec_l01Once.f s0_0 bt404.2.1 bt404.2.2 4).bind fun bt414 => (if bt414.1 = true then ((spec_FlushDisk.f k1 bt407.1 bt407.2.1).bind fun bt417 => (spec_l03Disk.l0 k1 (wrap64 (x5_1 + 1)) s0_0 bt414.2.1 bt414.2.2 bt417.1 bt417.2)) else (spec_l03Disk.l0 k1 (wrap64 (x5_1 + 1)) s0_0 bt414.2.1 bt414.2.2 bt407.1 bt407.2.1)))))))) else (some (x392000_1, x392001_1, t393, t394))) = some (r1, r2, r3, r4) := H
   have A13 := Aside0.mk A130
   clear A130
   by_cases c14 : x5_1 < t392
   ·rw [if_pos c14] at H
    have c14b0 : decide (x5_1 < t392) = true := decide_eq_true c14
    clear c14
    replace H := Option.bind_eq_some_iff.mp H
    obtain ⟨⟨t395, t396, t397⟩, A150, H⟩ := H
    replace H : ((spec_l01Below.f s0_0 t396 t397 40).bind fun bt398 => ((spec_l01Below.f s0_0 bt398.2.1 bt398.2.2 50).bind fun bt401 => ((spec_l01Text.f k1 s0_0 bt401.2.1 bt401.2.2 bt401.1).bind fun bt404 => ((spec_WriteBytes.f k1 x392000_1 x392001_1 t395 bt398.1 bt404.1).bind fun bt407 => ((spec_l01Once.f s0_0 bt404.2.1 bt404.2.2 4).bind fun bt414 => (if bt414.1 = true then ((spec_FlushDisk.f k1 bt407.1 bt407.2.1).bind fun bt417 => (spec_l03Disk.l0 k1 (wrap64 (x5_1 + 1)) s0_0 bt414.2.1 bt414.2.2 bt417.1 bt417.2)) else (spec_l03Disk.l0 k1 (wrap64 (x5_1 + 1)) s0_0 bt414.2.1 bt414.2.2 bt407.1 bt407.2.1))))))) = some (r1, r2, r3, r4) := H
    have A15 := Aside0.mk A150
    clear A150
    replace H := Option.bind_eq_some_iff.mp H
    obtain ⟨⟨t398, t399, t400⟩, A160, H⟩ := H
    replace H : ((spec_l01Below.f s0_0 t399 t400 50).bind fun bt401 => ((spec_l01Text.f k1 s0_0 bt401.2.1 bt401.2.2 bt401.1).bind fun bt404 => ((spec_WriteBytes.f k1 x392000_1 x392001_1 t395 t398 bt404.1).bind fun bt407 => ((spec_l01Once.f s0_0 bt404.2.1 bt404.2.2 4).bind fun bt414 => (if bt414.1 = true then ((spec_FlushDisk.f k1 bt407.1 bt407.2.1).bind fun bt417 => (spec_l03Disk.l0 k1 (wrap64 (x5_1 + 1)) s0_0 bt414.2.1 bt414.2.2 bt417.1 bt417.2)) else (spec_l03Disk.l0 k1 (wrap64 (x5_1 + 1)) s0_0 bt414.2.1 bt414.2.2 bt407.1 bt407.2.1)))))) = some (r1, r2, r3, r4) := H
    have A16 := Aside0.mk A160
    clear A160
    replace H := Option.bind_eq_some_iff.mp H
    obtain ⟨⟨t401, t402, t403⟩, A170, H⟩ := H
    replace H : ((spec_l01Text.f k1 s0_0 t402 t403 t401).bind fun bt404 => ((spec_WriteBytes.f k1 x392000_1 x392001_1 t395 t398 bt404.1).bind fun bt407 => ((spec_l01Once.f s0_0 bt404.2.1 bt404.2.2 4).bind fun bt414 => (if bt414.1 = true then ((spec_FlushDisk.f k1 bt407.1 bt407.2.1).bind fun bt417 => (spec_l03Disk.l0 k1 (wrap64 (x5_1 + 1)) s0_0 bt414.2.1 bt414.2.2 bt417.1 bt417.2)) else (spec_l03Disk.l0 k1 (wrap64 (x5_1 + 1)) s0_0 bt414.2.1 bt414.2.2 bt407.1 bt407.2.1))))) = some (r1, r2, r3, r4) := H
    have A17 := Aside0.mk A170
    clear A170
    replace H := Option.bind_eq_some_iff.mp H
    obtain ⟨⟨t404, t405, t406⟩, A180, H⟩ := H
    replace H : ((spec_WriteBytes.f k1 x392000_1 x392001_1 t395 t398 t404).bind fun bt407 => ((spec_l01Once.f s0_0 t405 t406 4).bind fun bt414 => (if bt414.1 = true then ((spec_FlushDisk.f k1 bt407.1 bt407.2.1).bind fun bt417 => (spec_l03Disk.l0 k1 (wrap64 (x5_1 + 1)) s0_0 bt414.2.1 bt414.2.2 bt417.1 bt417.2)) else (spec_l03Disk.l0 k1 (wrap64 (x5_1 + 1)) s0_0 bt414.2.1 bt414.2.2 bt407.1 bt407.2.1)))) = some (r1, r2, r3, r4) := H
    have A18 := Aside0.mk A180
    clear A180
    replace H := Option.bind_eq_some_iff.mp H
    obtain ⟨⟨t407, t410, t413⟩, A190, H⟩ := H
    replace H : ((spec_l01Once.f s0_0 t405 t406 4).bind fun bt414 => (if bt414.1 = true then ((spec_FlushDisk.f k1 t407 t410).bind fun bt417 => (spec_l03Disk.l0 k1 (wrap64 (x5_1 + 1)) s0_0 bt414.2.1 bt414.2.2 bt417.1 bt417.2)) else (spec_l03Disk.l0 k1 (wrap64 (x5_1 + 1)) s0_0 bt414.2.1 bt414.2.2 t407 t410))) = some (r1, r2, r3, r4) := H
    have A19 := Aside0.mk A190
    clear A190
    replace H := Option.bind_eq_some_iff.mp H
    obtain ⟨⟨t414, t415, t416⟩, A200, H⟩ := H
    replace H : (if t414 = true then ((spec_FlushDisk.f k1 t407 t410).bind fun bt417 => (spec_l03Disk.l0 k1 (wrap64 (x5_1 + 1)) s0_0 t415 t416 bt417.1 bt417.2)) else (spec_l03Disk.l0 k1 (wrap64 (x5_1 + 1)) s0_0 t415 t416 t407 t410)) = some (r1, r2, r3, r4) := H
    have A20 := Aside0.mk A200
    clear A200
    by_cases c21 : t414 = true
    ·subst c21
     have H1 : ((spec_FlushDisk.f k1 t407 t410).bind fun bt417 => (spec_l03Disk.l0 k1 (wrap64 (x5_1 + 1)) s0_0 t415 t416 bt417.1 bt417.2)) = some (r1, r2, r3, r4) := by rw [if_pos rfl] at H; exact H
     clear H
     have H := H1
     clear H1
     replace H := Option.bind_eq_some_iff.mp H
     obtain ⟨⟨t417, t420⟩, A220, H⟩ := H
     replace H : (spec_l03Disk.l0 k1 (wrap64 (x5_1 + 1)) s0_0 t415 t416 t417 t420) = some (r1, r2, r3, r4) := H
     have A22 := Aside0.mk A220
     clear A220
     have H' := Aside0.mk H
     clear H
     try go_wp2_with (first | ((with_reducible refine gate_callee (f := 47) rfl ?_); refine gl (some 15) Try.func47 #[.pointer (some ⟨g, 0, none⟩), .int .i64 9] ?_; (with_reducible refine (spec_l01Below.calls g s0_0 x1001_1 x1002_1 9 t392 t393 t394 w0 _ ?side1 ?side2 A13.out).mono ?_); (case side1 => exact IsS80.T_ HI0 (nC NB0_380 (nC NB0_391 nN))); (case side2 => exact lT HB (gC GE380 (gC GE391 gN))); rintro e w23 ⟨rfl, hi, hb, hk⟩; refine ⟨_, rfl, ?_⟩; replace HO_392000 := ak (Kd.R_mono (Kd.R_keep (IsS80.apart (show IsS80 w0 _ g s0_0 x1001_1 x1002_1 from IsS80.T_ HI0 (nC NB0_380 (nC NB0_391 nN))) (rG HO_392000) (by decide)) hk (fun _ h => h.2)) (fun _ h => h.1)); replace HO_392001 := ak (Kd.R_mono (Kd.R_keep (IsS80.apart (show IsS80 w0 _ g s0_0 x1001_1 x1002_1 from IsS80.T_ HI0 (nC NB0_380 (nC NB0_391 nN))) (rG HO_392001) (by decide)) hk (fun _ h => h.2)) (fun _ h => h.1)); replace BK380 := ak (KeepBut.blk hk (g' := gb380) (o := .cells #[.slice none 0 0, .slice none 0 0] 27 (0, 0)) (bG BK380) NB380_0.out (by simp)); replace BK391 := ak (KeepBut.blk hk (g' := gb391) (o := .cells #[u392000, u392001] 27 (0, 0)) (bG BK391) NB391_0.out (by simp)); replace HK := ak (KeepBut.trans (kT HK (gC GW380 (gC GW391 gN))) hk (.inl rfl)); replace HB := ak (hb); replace HI0 := ak (hi); (try clear hb); (try clear hk); (try clear hi)))
     replace HO_392000 := ak (Kd.R_drew HO_392000.out)
     replace HO_392001 := ak (Kd.R_drew HO_392001.out)
     replace BK380 := ak (blk_drew BK380.out)
     replace BK391 := ak (blk_drew BK391.out)
     replace HI0 := ak (IsS80.drew HI0.out)
     replace HK := ak (keep_drew HK.out)
     replace HB := ak (below_drew1 HB.out)
     obtain ⟨Ao25, co25, eo25⟩ := Kd.R_slice HO_392000.out
     (first | subst eo25 | (injection eo25 with f1_ f2_ f3_; have f4_ := f1_.symm; have f5_ := f3_.symm; clear f1_ f2_ f3_; subst f4_; subst f5_))
     refine start_ (n := 17) (S := fun w' => w'.cell? ⟨gb391, 0, none⟩ = some (.slice Ao25 x392000_1.length co25) ∧ w'.cell? ⟨gb391, 1, none⟩ = some (u392001)) (ds := [16]) #[f_,f_,f_,f_,f_,f_,f_,f_,f_,f_,f_,f_,f_,f_,f_,f_,f_] (by kernel_rfl) rfl rfl ⟨bc BK391 0, bc BK391 1⟩ (fun hHeld => ?_); refine with_tabW spec_l03Disk.tab5 spec_l03Disk.bits5 (fun HT_ HW_ => ?_)
     generalize w23.drew = w24 at HO_392000 HO_392001 BK380 BK391 HI0 HK HB hHeld ⊢
     refine pu 1 21 (fb 17 2) HT_ ?_
     refine pu 2 22 (fb 17 6) HT_ ?_
     refine pu 6 26 (fb 17 70) HT_ ?_
     refine pu 8 28 (fb 17 326) HT_ ?_
     refine pu 9 29 (fb 17 838) HT_ ?_
     refine tk 0 20 (fb 17 839) HT_ HW_ hHeld ?_
     refine tk 3 23 (fb 17 847) HT_ HW_ hHeld ?_
     refine pu 4 24 (fb 17 863) HT_ ?_
     refine on 5 (some 25) (fb 17 895) HT_ (fun K hK => ?_)
     refine goes_ Try.func47 (by kernel_rfl) rfl #[.pointer (some ⟨g, 0, none⟩), .int .i64 (x392000_1.length : Int)] (by rfl) rfl rfl (by (try simp only [List.map_toArray, List.map_cons, List.map_nil]); first | done | rfl | (simp only [List.length_drop, List.length_take]; rfl)) ?_
     with_reducible refine (spec_l01Below.calls g s0_0 t393 t394 (x392000_1.length : Int) t395 t396 t397 w0 _ ?side1 ?side2 A15.out).mono ?_
     (case side1 => exact IsS80.T_ HI0 (nC NB0_380 (nC NB0_391 nN)))
     (case side2 => exact lT HB (gC GE380 (gC GE391 gN)))
     rintro e w26 ⟨rfl, hi, hb, hk⟩
     refine ⟨_, rfl, ?_⟩
     replace HO_392000 := ak (Kd.R_mono (Kd.R_keep (IsS80.apart (show IsS80 w0 _ g s0_0 t393 t394 from IsS80.T_ HI0 (nC NB0_380 (nC NB0_391 nN))) (rG HO_392000) (by decide)) hk (fun _ h => h.2)) (fun _ h => h.1))
     replace HO_392001 := ak (Kd.R_mono (Kd.R_keep (IsS80.apart (show IsS80 w0 _ g s0_0 t393 t394 from IsS80.T_ HI0 (nC NB0_380 (nC NB0_391 nN))) (rG HO_392001) (by decide)) hk (fun _ h => h.2)) (fun _ h => h.1))
     replace BK380 := ak (KeepBut.blk hk (g' := gb380) (o := .cells #[.slice none 0 0, .slice none 0 0] 27 (0, 0)) (bG BK380) NB380_0.out (by simp))
     replace BK391 := ak (KeepBut.blk hk (g' := gb391) (o := .cells #[.slice Ao25 x392000_1.length co25, u392001] 27 (0, 0)) (bG BK391) NB391_0.out (by simp))
     replace HK := ak (KeepBut.trans (kT HK (gC GW380 (gC GW391 gN))) hk (.inl rfl))
     replace HB := ak (hb)
     replace HI0 := ak (hi)
     (try clear hb)
     (try clear hb2)
     (try clear hk)
     (try clear hi)
     refine hK.out _ _ ⟨bc BK391 0, bc BK391 1⟩ (fun hHeld => ?_)
     clear hK K
     refine nm ?_
     refine on 7 (some 27) (fb 17 1023) HT_ (fun K hK => ?_)
     refine goes_ Try.func47 (by kernel_rfl) rfl #[.pointer (some ⟨g, 0, none⟩), .int .i64 40] (by rfl) rfl rfl (by (try simp only [List.map_toArray, List.map_cons, List.map_nil]); first | done | rfl | (simp only [List.length_drop, List.length_take]; rfl)) ?_
     with_reducible refine (spec_l01Below.calls g s0_0 t396 t397 40 t398 t399 t400 w0 _ ?side1 ?side2 A16.out).mono ?_
     (case side1 => exact IsS80.T_ HI0 (nC NB0_380 (nC NB0_391 nN)))
     (case side2 => exact lT HB (gC GE380 (gC GE391 gN)))
     rintro e w27 ⟨rfl, hi, hb, hk⟩
     refine ⟨_, rfl, ?_⟩
     replace HO_392000 := ak (Kd.R_mono (Kd.R_keep (IsS80.apart (show IsS80 w0 _ g s0_0 t396 t397 from IsS80.T_ HI0 (nC NB0_380 (nC NB0_391 nN))) (rG HO_392000) (by decide)) hk (fun _ h => h.2)) (fun _ h => h.1))
     replace HO_392001 := ak (Kd.R_mono (Kd.R_keep (IsS80.apart (show IsS80 w0 _ g s0_0 t396 t397 from IsS80.T_ HI0 (nC NB0_380 (nC NB0_391 nN))) (rG HO_392001) (by decide)) hk (fun _ h => h.2)) (fun _ h => h.1))
     replace BK380 := ak (KeepBut.blk hk (g' := gb380) (o := .cells #[.slice none 0 0, .slice none 0 0] 27 (0, 0)) (bG BK380) NB380_0.out (by simp))
     replace BK391 := ak (KeepBut.blk hk (g' := gb391) (o := .cells #[.slice Ao25 x392000_1.length co25, u392001] 27 (0, 0)) (bG BK391) NB391_0.out (by simp))
     replace HK := ak (KeepBut.trans (kT HK (gC GW380 (gC GW391 gN))) hk (.inl rfl))
     replace HB := ak (hb)
     replace HI0 := ak (hi)
     (try clear hb)
     (try clear hb2)
     (try clear hk)
     (try clear hi)
     refine hK.out _ _ ⟨bc BK391 0, bc BK391 1⟩ (fun hHeld => ?_)
     clear hK K
     refine nm ?_
     refine on 10 (some 30) (fb 17 2047) HT_ (fun K hK => ?_)
     refine goes_ Try.func47 (by kernel_rfl) rfl #[.pointer (some ⟨g, 0, none⟩), .int .i64 50] (by rfl) rfl rfl (by (try simp only [List.map_toArray, List.map_cons, List.map_nil]); first | done | rfl | (simp only [List.length_drop, List.length_take]; rfl)) ?_
     with_reducible refine (spec_l01Below.calls g s0_0 t399 t400 50 t401 t402 t403 w0 _ ?side1 ?side2 A17.out).mono ?_
     (case side1 => exact IsS80.T_ HI0 (nC NB0_380 (nC NB0_391 nN)))
     (case side2 => exact lT HB (gC GE380 (gC GE391 gN)))
     rintro e w28 ⟨rfl, hi, hb, hk⟩
     refine ⟨_, rfl, ?_⟩
     replace HO_392000 := ak (Kd.R_mono (Kd.R_keep (IsS80.apart (show IsS80 w0 _ g s0_0 t399 t400 from IsS80.T_ HI0 (nC NB0_380 (nC NB0_391 nN))) (rG HO_392000) (by decide)) hk (fun _ h => h.2)) (fun _ h => h.1))
     replace HO_392001 := ak (Kd.R_mono (Kd.R_keep (IsS80.apart (show IsS80 w0 _ g s0_0 t399 t400 from IsS80.T_ HI0 (nC NB0_380 (nC NB0_391 nN))) (rG HO_392001) (by decide)) hk (fun _ h => h.2)) (fun _ h => h.1))
     replace BK380 := ak (KeepBut.blk hk (g' := gb380) (o := .cells #[.slice none 0 0, .slice none 0 0] 27 (0, 0)) (bG BK380) NB380_0.out (by simp))
     replace BK391 := ak (KeepBut.blk hk (g' := gb391) (o := .cells #[.slice Ao25 x392000_1.length co25, u392001] 27 (0, 0)) (bG BK391) NB391_0.out (by simp))
     replace HK := ak (KeepBut.trans (kT HK (gC GW380 (gC GW391 gN))) hk (.inl rfl))
     replace HB := ak (hb)
     replace HI0 := ak (hi)
     (try clear hb)
     (try clear hb2)
     (try clear hk)
     (try clear hi)
     refine hK.out _ _ ⟨bc BK391 0, bc BK391 1⟩ (fun hHeld => ?_)
     clear hK K
     refine nm ?_
     refine on 11 (some 31) (fb 17 4095) HT_ (fun K hK => ?_)
     refine goes_ Try.func72 (by kernel_rfl) rfl #[.pointer (some ⟨g, 0, none⟩), .int .i64 t401] (by rfl) rfl rfl (by (try simp only [List.map_toArray, List.map_cons, List.map_nil]); first | done | rfl | (simp only [List.length_drop, List.length_take]; rfl)) ?_
     with_reducible refine (spec_l01Text.calls k1 g s0_0 t402 t403 t401 t404 t405 t406 w0 _ ?side1 ?side2 A18.out).mono ?_
     (case side1 => exact IsS80.T_ HI0 (nC NB0_380 (nC NB0_391 nN)))
     (case side2 => exact lT HB (gC GE380 (gC GE391 gN)))
     rintro e w29 ⟨rfl, hi, hb, hk⟩
     refine ⟨_, rfl, ?_⟩
     replace HO_392000 := ak (Kd.R_mono (Kd.R_keep (IsS80.apart (show IsS80 w0 _ g s0_0 t402 t403 from IsS80.T_ HI0 (nC NB0_380 (nC NB0_391 nN))) (rG HO_392000) (by decide)) hk (fun _ h => h.2)) (fun _ h => h.1))
     replace HO_392001 := ak (Kd.R_mono (Kd.R_keep (IsS80.apart (show IsS80 w0 _ g s0_0 t402 t403 from IsS80.T_ HI0 (nC NB0_380 (nC NB0_391 nN))) (rG HO_392001) (by decide)) hk (fun _ h => h.2)) (fun _ h => h.1))
     replace BK380 := ak (KeepBut.blk hk (g' := gb380) (o := .cells #[.slice none 0 0, .slice none 0 0] 27 (0, 0)) (bG BK380) NB380_0.out (by simp))
     replace BK391 := ak (KeepBut.blk hk (g' := gb391) (o := .cells #[.slice Ao25 x392000_1.length co25, u392001] 27 (0, 0)) (bG BK391) NB391_0.out (by simp))
     replace HK := ak (KeepBut.trans (kT HK (gC GW380 (gC GW391 gN))) hk (.inl rfl))
     replace HB := ak (hb)
     replace HI0 := ak (hi)
     (try clear hb)
     (try clear hb2)
     (try clear hk)
     (try clear hi)
     obtain ⟨Ao30, co30, eo30⟩ := Kd.R_slice HO_392001.out
     (first | subst eo30 | (injection eo30 with f1_ f2_ f3_; have f4_ := f1_.symm; have f5_ := f3_.symm; clear f1_ f2_ f3_; subst f4_; subst f5_))
     refine hK.out _ _ ⟨bc BK391 0, bc BK391 1⟩ (fun hHeld => ?_)
     clear hK K
     refine nm ?_
     refine on 12 (some 32) (fb 17 8191) HT_ (fun K hK => ?_)
     refine goes_ Try.func71 (by kernel_rfl) rfl #[.agg #[.slice Ao25 x392000_1.length co25, .slice Ao30 x392001_1.length co30], .int .i64 t395, .int .i64 t398, .string t404] (by rfl) rfl rfl (by (try simp only [List.map_toArray, List.map_cons, List.map_nil]); first | done | rfl | (simp only [List.length_drop, List.length_take]; rfl)) ?_
     with_reducible refine (spec_WriteBytes.calls k1 _ _ x392000_1 _ _ x392001_1 t395 t398 t404 t407 t410 t413 _ ?side1 ?side2 ?side3 ?side4 A19.out).mono ?_
     (case side1 => exact cG (Kd.R_reads' HO_392000.out).2.2)
     (case side2 => exact (Kd.R_reads' HO_392000.out).2.1)
     (case side3 => exact cG (Kd.R_reads' HO_392001.out).2.2)
     (case side4 => exact (Kd.R_reads' HO_392001.out).2.1)
     rintro e w31 ⟨v408, v411, rfl, ho0, ho1, hb⟩
     refine ⟨_, rfl, ?_⟩
     replace HO409 := ak (Kd.R_lower (Kd.R_new' ho0 (Kd.R_lt (rG HO_392000))) (keep_size (w := w) (g := g) (row := none) (kT HK (gC GW380 (gC GW391 gN)))))
     replace HO_392000 := ak (Kd.R_elder' (rG HO_392000) (Kd.R_base ho0) hb)
     replace HO412 := ak (Kd.R_lower (Kd.R_new' ho1 (Kd.R_lt (rG HO_392001))) (keep_size (w := w) (g := g) (row := none) (kT HK (gC GW380 (gC GW391 gN)))))
     replace HO_392001 := ak (Kd.R_elder' (rG HO_392001) (Kd.R_base ho1) hb)
     replace BK380 := bB BK380 hb
     replace BK391 := bB BK391 hb
     replace HK := ak (KeepBut.trans (kT HK (gC GW380 (gC GW391 gN))) (KeepBut.of_below hb g none) (.inl rfl))
     replace HB := ak (below_step (lT HB (gC GE380 (gC GE391 gN))) hb)
     replace HI0 := ak (IsS80.below (IsS80.T_ HI0 (nC NB0_380 (nC NB0_391 nN))) hb)
     (try clear hb)
     (try clear hb2)
     (try clear hk)
     (try clear hi)
     (try clear ho0)
     (try clear ho1)
     obtain ⟨Ao32, co32, eo32⟩ := Kd.R_slice HO409.out
     (first | subst eo32 | (injection eo32 with f1_ f2_ f3_; have f4_ := f1_.symm; have f5_ := f3_.symm; clear f1_ f2_ f3_; subst f4_; subst f5_))
     obtain ⟨Ao34, co34, eo34⟩ := Kd.R_slice HO412.out
     (first | subst eo34 | (injection eo34 with f1_ f2_ f3_; have f4_ := f1_.symm; have f5_ := f3_.symm; clear f1_ f2_ f3_; subst f4_; subst f5_))
     refine hK.out _ _ ⟨bc BK391 0, bc BK391 1⟩ (fun hHeld => ?_)
     clear hK K
     refine nm ?_
     refine pu 13 19 (fb 17 16383) HT_ ?_
     refine pu 14 33 (fb 17 32767) HT_ ?_
     refine pu 15 34 (fb 17 65535) HT_ ?_
     refine last_ (i := 16) (N := none) #[t_,t_,t_,t_,t_,t_,t_,t_,t_,t_,t_,t_,t_,t_,t_,t_,t_] rfl rfl (one_of HT_.out (by kernel_rfl)) (by decide) (fun K hK => ?_)
     have hs33 : w31.cell? ⟨gb391, 0, none⟩ = some (.slice Ao25 x392000_1.length co25) := bc BK391 0
     have hfs33 := blk_frozen BK391.out 0
     have hns33_0 := NB380_391.out
     have hms33_0 := NB391_380.out
     have hs35 : w31.cell? ⟨gb391, 1, none⟩ = some (.slice Ao30 x392001_1.length co30) := bc BK391 1
     have hfs35 := blk_frozen BK391.out 1
     have hns35_0 := NB380_391.out
     have hms35_0 := NB391_380.out
     refine skip_ (w1 := ?_) (by rfl) rfl ?_ ?_
     rotate_left
     ·go_simp
      rfl
     refine hK.out _ _ ?_
     clear hK K
     refine done_ (done_of HT_.out (by kernel_rfl)) ?_
     try go_wp2_with (first | ((with_reducible refine gate_callee (f := 73) rfl ?_); refine gl (some 36) Try.func73 #[.pointer (some ⟨g, 0, none⟩), .int .i64 4] ?_; (with_reducible refine (spec_l01Once.calls g s0_0 t405 t406 4 true t415 t416 w0 _ ?side1 ?side2 A20.out).mono ?_); (case side1 => exact IsS80.T_ HI0 (nC NB0_380 (nC NB0_391 nN))); (case side2 => exact lT HB (gC GE380 (gC GE391 gN))); rintro e w36 ⟨rfl, hi, hb, hk⟩; refine ⟨_, rfl, ?_⟩; replace HO_392000 := ak (Kd.R_mono (Kd.R_keep (IsS80.apart (show IsS80 w0 _ g s0_0 t405 t406 from IsS80.T_ HI0 (nC NB0_380 (nC NB0_391 nN))) (rT HO_392000 BK391 (by decide)) (by decide)) hk (fun _ h => h.2)) (fun _ h => h.1)); replace HO_392001 := ak (Kd.R_mono (Kd.R_keep (IsS80.apart (show IsS80 w0 _ g s0_0 t405 t406 from IsS80.T_ HI0 (nC NB0_380 (nC NB0_391 nN))) (rT HO_392001 BK391 (by decide)) (by decide)) hk (fun _ h => h.2)) (fun _ h => h.1)); replace BK380 := ak (KeepBut.blk hk (g' := gb380) (o := .cells #[.slice none 0 0, .slice none 0 0] 27 (0, 0)) (bT BK380 (nC NB380_391 nN)) NB380_0.out (by simp)); replace HO409 := ak (Kd.R_mono (Kd.R_keep (IsS80.apart (show IsS80 w0 _ g s0_0 t405 t406 from IsS80.T_ HI0 (nC NB0_380 (nC NB0_391 nN))) (rT HO409 BK391 (by decide)) (by decide)) hk (fun _ h => h.2)) (fun _ h => h.1)); replace HO412 := ak (Kd.R_mono (Kd.R_keep (IsS80.apart (show IsS80 w0 _ g s0_0 t405 t406 from IsS80.T_ HI0 (nC NB0_380 (nC NB0_391 nN))) (rT HO412 BK391 (by decide)) (by decide)) hk (fun _ h => h.2)) (fun _ h => h.1)); replace BK391 := ak (KeepBut.blk hk (g' := gb391) (o := .cells #[.slice Ao32 t407.length co32, .slice Ao34 t410.length co34] 27 (0, 0)) (bW BK391) NB391_0.out (by simp)); replace HK := ak (KeepBut.trans (kT HK (gC GW380 (gC GW391 gN))) hk (.inl rfl)); replace HB := ak (hb); replace HI0 := ak (hi); (try clear hb); (try clear hk); (try clear hi); have hnb37 := NB391_380.out; have hnc37 := NB380_391.out; have hnb38 := NB391_0.out; have hnc38 := NB0_391.out; obtain ⟨hcz39_0, hcz39_1, hfz39_0, hfz39_1⟩ := bC2 BK391) | ((with_reducible refine gate_callee (f := 36) rfl ?_); refine gl (some 38) Try.func36 #[.agg #[.slice Ao32 t407.length co32, .slice Ao34 t410.length co34]] ?_; (with_reducible refine (spec_FlushDisk.calls k1 _ _ t407 _ _ t410 t417 t420 _ ?side1 ?side2 ?side3 ?side4 A22.out).mono ?_); (case side1 => exact cG (Kd.R_reads' HO409.out).2.2); (case side2 => exact (Kd.R_reads' HO409.out).2.1); (case side3 => exact cG (Kd.R_reads' HO412.out).2.2); (case side4 => exact (Kd.R_reads' HO412.out).2.1); rintro e w40 ⟨v418, v421, rfl, ho0, ho1, hb⟩; refine ⟨_, rfl, ?_⟩; replace HO419 := ak (Kd.R_lower (Kd.R_new' (Kd.R_new' ho0 (Kd.R_lt (rG HO_392000))) (Kd.R_lt (rG HO409))) (keep_size (w := w) (g := g) (row := none) (kT HK (gC GW380 (gC GW391 gN))))); replace HO_392000 := ak (Kd.R_elder' (rG HO_392000) (Kd.R_base ho0) hb); replace HO409 := ak (Kd.R_elder' (rG HO409) (Kd.R_base ho0) hb); replace HO422 := ak (Kd.R_lower (Kd.R_new' (Kd.R_new' ho1 (Kd.R_lt (rG HO_392001))) (Kd.R_lt (rG HO412))) (keep_size (w := w) (g := g) (row := none) (kT HK (gC GW380 (gC GW391 gN))))); replace HO_392001 := ak (Kd.R_elder' (rG HO_392001) (Kd.R_base ho1) hb); replace HO412 := ak (Kd.R_elder' (rG HO412) (Kd.R_base ho1) hb); replace BK380 := bB BK380 hb; replace BK391 := bB BK391 hb; replace HK := ak (KeepBut.trans (kT HK (gC GW380 (gC GW391 gN))) (KeepBut.of_below hb g none) (.inl rfl)); replace HB := ak (below_step (lT HB (gC GE380 (gC GE391 gN))) hb); replace HI0 := ak (IsS80.below (IsS80.T_ HI0 (nC NB0_380 (nC NB0_391 nN))) hb); (try clear hb); (try clear hk); (try clear hi); (try clear ho0); (try clear ho1); obtain ⟨Ao41, co41, eo41⟩ := Kd.R_slice HO419.out; subst eo41; obtain ⟨hcz42_0, hcz42_1, hfz42_0, hfz42_1⟩ := bC2 BK391; obtain ⟨Ao43, co43, eo43⟩ := Kd.R_slice HO422.out; subst eo43))
     go_roundg k1
     case measure => have := HK1.out; omega
     case rel => exact ⟨(wrap64 (x5_1 + 1)), (t415), (t416), (t417), (t420), (.slice Ao41 t417.length co41), (.slice Ao43 t420.length co43), (by first | rfl | (simp; done) | (simp [*]; done)), H', ⟨by have := HK1.out; omega⟩, ⟨by exact Kd.R_mono (rT HO419 BK391 (by decide)) (fun _ hk => trivial)⟩, ⟨by exact Kd.R_mono (rT HO422 BK391 (by decide)) (fun _ hk => trivial)⟩, ⟨by (with_reducible repeat (first | refine blk_drewN ?_ _ | refine blk_drew ?_ | refine blk_alloc ?_ _)); refine blk_far ?_ NB380_391.out _; (with_reducible repeat (first | refine blk_drewN ?_ _ | refine blk_drew ?_ | refine blk_alloc ?_ _)); refine blk_far ?_ NB380_391.out _; (with_reducible repeat (first | refine blk_drewN ?_ _ | refine blk_drew ?_ | refine blk_alloc ?_ _)); exact BK380.out⟩, ⟨bW BK391⟩, ⟨IsS80.T_ HI0 (nC NB0_380 (nC NB0_391 nN))⟩, ⟨kT HK (gC GW380 (gC GW391 gN))⟩, ⟨lT HB (gC GE380 (gC GE391 gN))⟩⟩
    ·replace c21 := Bool.eq_false_iff.mpr c21
     subst c21
     have H1 : (spec_l03Disk.l0 k1 (wrap64 (x5_1 + 1)) s0_0 t415 t416 t407 t410) = some (r1, r2, r3, r4) := by rw [if_neg (show ¬ (false = true) by decide)] at H; exact H
     clear H
     have H := H1
     clear H1
     have H' := Aside0.mk H
     clear H
     try go_wp2_with (first | ((with_reducible refine gate_callee (f := 47) rfl ?_); refine gl (some 15) Try.func47 #[.pointer (some ⟨g, 0, none⟩), .int .i64 9] ?_; (with_reducible refine (spec_l01Below.calls g s0_0 x1001_1 x1002_1 9 t392 t393 t394 w0 _ ?side1 ?side2 A13.out).mono ?_); (case side1 => exact IsS80.T_ HI0 (nC NB0_380 (nC NB0_391 nN))); (case side2 => exact lT HB (gC GE380 (gC GE391 gN))); rintro e w44 ⟨rfl, hi, hb, hk⟩; refine ⟨_, rfl, ?_⟩; replace HO_392000 := ak (Kd.R_mono (Kd.R_keep (IsS80.apart (show IsS80 w0 _ g s0_0 x1001_1 x1002_1 from IsS80.T_ HI0 (nC NB0_380 (nC NB0_391 nN))) (rG HO_392000) (by decide)) hk (fun _ h => h.2)) (fun _ h => h.1)); replace HO_392001 := ak (Kd.R_mono (Kd.R_keep (IsS80.apart (show IsS80 w0 _ g s0_0 x1001_1 x1002_1 from IsS80.T_ HI0 (nC NB0_380 (nC NB0_391 nN))) (rG HO_392001) (by decide)) hk (fun _ h => h.2)) (fun _ h => h.1)); replace BK380 := ak (KeepBut.blk hk (g' := gb380) (o := .cells #[.slice none 0 0, .slice none 0 0] 27 (0, 0)) (bG BK380) NB380_0.out (by simp)); replace BK391 := ak (KeepBut.blk hk (g' := gb391) (o := .cells #[u392000, u392001] 27 (0, 0)) (bG BK391) NB391_0.out (by simp)); replace HK := ak (KeepBut.trans (kT HK (gC GW380 (gC GW391 gN))) hk (.inl rfl)); replace HB := ak (hb); replace HI0 := ak (hi); (try clear hb); (try clear hk); (try clear hi)))
     replace HO_392000 := ak (Kd.R_drew HO_392000.out)
     replace HO_392001 := ak (Kd.R_drew HO_392001.out)
     replace BK380 := ak (blk_drew BK380.out)
     replace BK391 := ak (blk_drew BK391.out)
     replace HI0 := ak (IsS80.drew HI0.out)
     replace HK := ak (keep_drew HK.out)
     replace HB := ak (below_drew1 HB.out)
     obtain ⟨Ao46, co46, eo46⟩ := Kd.R_slice HO_392000.out
     (first | subst eo46 | (injection eo46 with f1_ f2_ f3_; have f4_ := f1_.symm; have f5_ := f3_.symm; clear f1_ f2_ f3_; subst f4_; subst f5_))
     refine start_ (n := 17) (S := fun w' => w'.cell? ⟨gb391, 0, none⟩ = some (.slice Ao46 x392000_1.length co46) ∧ w'.cell? ⟨gb391, 1, none⟩ = some (u392001)) (ds := [16]) #[f_,f_,f_,f_,f_,f_,f_,f_,f_,f_,f_,f_,f_,f_,f_,f_,f_] (by kernel_rfl) rfl rfl ⟨bc BK391 0, bc BK391 1⟩ (fun hHeld => ?_); refine with_tabW spec_l03Disk.tab5 spec_l03Disk.bits5 (fun HT_ HW_ => ?_)
     generalize w44.drew = w45 at HO_392000 HO_392001 BK380 BK391 HI0 HK HB hHeld ⊢
     refine pu 1 21 (fb 17 2) HT_ ?_
     refine pu 2 22 (fb 17 6) HT_ ?_
     refine pu 6 26 (fb 17 70) HT_ ?_
     refine pu 8 28 (fb 17 326) HT_ ?_
     refine pu 9 29 (fb 17 838) HT_ ?_
     refine tk 0 20 (fb 17 839) HT_ HW_ hHeld ?_
     refine tk 3 23 (fb 17 847) HT_ HW_ hHeld ?_
     refine pu 4 24 (fb 17 863) HT_ ?_
     refine on 5 (some 25) (fb 17 895) HT_ (fun K hK => ?_)
     refine goes_ Try.func47 (by kernel_rfl) rfl #[.pointer (some ⟨g, 0, none⟩), .int .i64 (x392000_1.length : Int)] (by rfl) rfl rfl (by (try simp only [List.map_toArray, List.map_cons, List.map_nil]); first | done | rfl | (simp only [List.length_drop, List.length_take]; rfl)) ?_
     with_reducible refine (spec_l01Below.calls g s0_0 t393 t394 (x392000_1.length : Int) t395 t396 t397 w0 _ ?side1 ?side2 A15.out).mono ?_
     (case side1 => exact IsS80.T_ HI0 (nC NB0_380 (nC NB0_391 nN)))
     (case side2 => exact lT HB (gC GE380 (gC GE391 gN)))
     rintro e w47 ⟨rfl, hi, hb, hk⟩
     refine ⟨_, rfl, ?_⟩
     replace HO_392000 := ak (Kd.R_mono (Kd.R_keep (IsS80.apart (show IsS80 w0 _ g s0_0 t393 t394 from IsS80.T_ HI0 (nC NB0_380 (nC NB0_391 nN))) (rG HO_392000) (by decide)) hk (fun _ h => h.2)) (fun _ h => h.1))
     replace HO_392001 := ak (Kd.R_mono (Kd.R_keep (IsS80.apart (show IsS80 w0 _ g s0_0 t393 t394 from IsS80.T_ HI0 (nC NB0_380 (nC NB0_391 nN))) (rG HO_392001) (by decide)) hk (fun _ h => h.2)) (fun _ h => h.1))
     replace BK380 := ak (KeepBut.blk hk (g' := gb380) (o := .cells #[.slice none 0 0, .slice none 0 0] 27 (0, 0)) (bG BK380) NB380_0.out (by simp))
     replace BK391 := ak (KeepBut.blk hk (g' := gb391) (o := .cells #[.slice Ao46 x392000_1.length co46, u392001] 27 (0, 0)) (bG BK391) NB391_0.out (by simp))
     replace HK := ak (KeepBut.trans (kT HK (gC GW380 (gC GW391 gN))) hk (.inl rfl))
     replace HB := ak (hb)
     replace HI0 := ak (hi)
     (try clear hb)
     (try clear hb2)
     (try clear hk)
     (try clear hi)
     refine hK.out _ _ ⟨bc BK391 0, bc BK391 1⟩ (fun hHeld => ?_)
     clear hK K
     refine nm ?_
     refine on 7 (some 27) (fb 17 1023) HT_ (fun K hK => ?_)
     refine goes_ Try.func47 (by kernel_rfl) rfl #[.pointer (some ⟨g, 0, none⟩), .int .i64 40] (by rfl) rfl rfl (by (try simp only [List.map_toArray, List.map_cons, List.map_nil]); first | done | rfl | (simp only [List.length_drop, List.length_take]; rfl)) ?_
     with_reducible refine (spec_l01Below.calls g s0_0 t396 t397 40 t398 t399 t400 w0 _ ?side1 ?side2 A16.out).mono ?_
     (case side1 => exact IsS80.T_ HI0 (nC NB0_380 (nC NB0_391 nN)))
     (case side2 => exact lT HB (gC GE380 (gC GE391 gN)))
     rintro e w48 ⟨rfl, hi, hb, hk⟩
     refine ⟨_, rfl, ?_⟩
     replace HO_392000 := ak (Kd.R_mono (Kd.R_keep (IsS80.apart (show IsS80 w0 _ g s0_0 t396 t397 from IsS80.T_ HI0 (nC NB0_380 (nC NB0_391 nN))) (rG HO_392000) (by decide)) hk (fun _ h => h.2)) (fun _ h => h.1))
     replace HO_392001 := ak (Kd.R_mono (Kd.R_keep (IsS80.apart (show IsS80 w0 _ g s0_0 t396 t397 from IsS80.T_ HI0 (nC NB0_380 (nC NB0_391 nN))) (rG HO_392001) (by decide)) hk (fun _ h => h.2)) (fun _ h => h.1))
     replace BK380 := ak (KeepBut.blk hk (g' := gb380) (o := .cells #[.slice none 0 0, .slice none 0 0] 27 (0, 0)) (bG BK380) NB380_0.out (by simp))
     replace BK391 := ak (KeepBut.blk hk (g' := gb391) (o := .cells #[.slice Ao46 x392000_1.length co46, u392001] 27 (0, 0)) (bG BK391) NB391_0.out (by simp))
     replace HK := ak (KeepBut.trans (kT HK (gC GW380 (gC GW391 gN))) hk (.inl rfl))
     replace HB := ak (hb)
     replace HI0 := ak (hi)
     (try clear hb)
     (try clear hb2)
     (try clear hk)
     (try clear hi)
     refine hK.out _ _ ⟨bc BK391 0, bc BK391 1⟩ (fun hHeld => ?_)
     clear hK K
     refine nm ?_
     refine on 10 (some 30) (fb 17 2047) HT_ (fun K hK => ?_)
     refine goes_ Try.func47 (by kernel_rfl) rfl #[.pointer (some ⟨g, 0, none⟩), .int .i64 50] (by rfl) rfl rfl (by (try simp only [List.map_toArray, List.map_cons, List.map_nil]); first | done | rfl | (simp only [List.length_drop, List.length_take]; rfl)) ?_
     with_reducible refine (spec_l01Below.calls g s0_0 t399 t400 50 t401 t402 t403 w0 _ ?side1 ?side2 A17.out).mono ?_
     (case side1 => exact IsS80.T_ HI0 (nC NB0_380 (nC NB0_391 nN)))
     (case side2 => exact lT HB (gC GE380 (gC GE391 gN)))
     rintro e w49 ⟨rfl, hi, hb, hk⟩
     refine ⟨_, rfl, ?_⟩
     replace HO_392000 := ak (Kd.R_mono (Kd.R_keep (IsS80.apart (show IsS80 w0 _ g s0_0 t399 t400 from IsS80.T_ HI0 (nC NB0_380 (nC NB0_391 nN))) (rG HO_392000) (by decide)) hk (fun _ h => h.2)) (fun _ h => h.1))
     replace HO_392001 := ak (Kd.R_mono (Kd.R_keep (IsS80.apart (show IsS80 w0 _ g s0_0 t399 t400 from IsS80.T_ HI0 (nC NB0_380 (nC NB0_391 nN))) (rG HO_392001) (by decide)) hk (fun _ h => h.2)) (fun _ h => h.1))
     replace BK380 := ak (KeepBut.blk hk (g' := gb380) (o := .cells #[.slice none 0 0, .slice none 0 0] 27 (0, 0)) (bG BK380) NB380_0.out (by simp))
     replace BK391 := ak (KeepBut.blk hk (g' := gb391) (o := .cells #[.slice Ao46 x392000_1.length co46, u392001] 27 (0, 0)) (bG BK391) NB391_0.out (by simp))
     replace HK := ak (KeepBut.trans (kT HK (gC GW380 (gC GW391 gN))) hk (.inl rfl))
     replace HB := ak (hb)
     replace HI0 := ak (hi)
     (try clear hb)
     (try clear hb2)
     (try clear hk)
     (try clear hi)
     refine hK.out _ _ ⟨bc BK391 0, bc BK391 1⟩ (fun hHeld => ?_)
     clear hK K
     refine nm ?_
     refine on 11 (some 31) (fb 17 4095) HT_ (fun K hK => ?_)
     refine goes_ Try.func72 (by kernel_rfl) rfl #[.pointer (some ⟨g, 0, none⟩), .int .i64 t401] (by rfl) rfl rfl (by (try simp only [List.map_toArray, List.map_cons, List.map_nil]); first | done | rfl | (simp only [List.length_drop, List.length_take]; rfl)) ?_
     with_reducible refine (spec_l01Text.calls k1 g s0_0 t402 t403 t401 t404 t405 t406 w0 _ ?side1 ?side2 A18.out).mono ?_
     (case side1 => exact IsS80.T_ HI0 (nC NB0_380 (nC NB0_391 nN)))
     (case side2 => exact lT HB (gC GE380 (gC GE391 gN)))
     rintro e w50 ⟨rfl, hi, hb, hk⟩
     refine ⟨_, rfl, ?_⟩
     replace HO_392000 := ak (Kd.R_mono (Kd.R_keep (IsS80.apart (show IsS80 w0 _ g s0_0 t402 t403 from IsS80.T_ HI0 (nC NB0_380 (nC NB0_391 nN))) (rG HO_392000) (by decide)) hk (fun _ h => h.2)) (fun _ h => h.1))
     replace HO_392001 := ak (Kd.R_mono (Kd.R_keep (IsS80.apart (show IsS80 w0 _ g s0_0 t402 t403 from IsS80.T_ HI0 (nC NB0_380 (nC NB0_391 nN))) (rG HO_392001) (by decide)) hk (fun _ h => h.2)) (fun _ h => h.1))
     replace BK380 := ak (KeepBut.blk hk (g' := gb380) (o := .cells #[.slice none 0 0, .slice none 0 0] 27 (0, 0)) (bG BK380) NB380_0.out (by simp))
     replace BK391 := ak (KeepBut.blk hk (g' := gb391) (o := .cells #[.slice Ao46 x392000_1.length co46, u392001] 27 (0, 0)) (bG BK391) NB391_0.out (by simp))
     replace HK := ak (KeepBut.trans (kT HK (gC GW380 (gC GW391 gN))) hk (.inl rfl))
     replace HB := ak (hb)
     replace HI0 := ak (hi)
     (try clear hb)
     (try clear hb2)
     (try clear hk)
     (try clear hi)
     obtain ⟨Ao51, co51, eo51⟩ := Kd.R_slice HO_392001.out
     (first | subst eo51 | (injection eo51 with f1_ f2_ f3_; have f4_ := f1_.symm; have f5_ := f3_.symm; clear f1_ f2_ f3_; subst f4_; subst f5_))
     refine hK.out _ _ ⟨bc BK391 0, bc BK391 1⟩ (fun hHeld => ?_)
     clear hK K
     refine nm ?_
     refine on 12 (some 32) (fb 17 8191) HT_ (fun K hK => ?_)
     refine goes_ Try.func71 (by kernel_rfl) rfl #[.agg #[.slice Ao46 x392000_1.length co46, .slice Ao51 x392001_1.length co51], .int .i64 t395, .int .i64 t398, .string t404] (by rfl) rfl rfl (by (try simp only [List.map_toArray, List.map_cons, List.map_nil]); first | done | rfl | (simp only [List.length_drop, List.length_take]; rfl)) ?_
     with_reducible refine (spec_WriteBytes.calls k1 _ _ x392000_1 _ _ x392001_1 t395 t398 t404 t407 t410 t413 _ ?side1 ?side2 ?side3 ?side4 A19.out).mono ?_
     (case side1 => exact cG (Kd.R_reads' HO_392000.out).2.2)
     (case side2 => exact (Kd.R_reads' HO_392000.out).2.1)
     (case side3 => exact cG (Kd.R_reads' HO_392001.out).2.2)
     (case side4 => exact (Kd.R_reads' HO_392001.out).2.1)
     rintro e w52 ⟨v408, v411, rfl, ho0, ho1, hb⟩
     refine ⟨_, rfl, ?_⟩
     replace HO409 := ak (Kd.R_lower (Kd.R_new' ho0 (Kd.R_lt (rG HO_392000))) (keep_size (w := w) (g := g) (row := none) (kT HK (gC GW380 (gC GW391 gN)))))
     replace HO_392000 := ak (Kd.R_elder' (rG HO_392000) (Kd.R_base ho0) hb)
     replace HO412 := ak (Kd.R_lower (Kd.R_new' ho1 (Kd.R_lt (rG HO_392001))) (keep_size (w := w) (g := g) (row := none) (kT HK (gC GW380 (gC GW391 gN)))))
     replace HO_392001 := ak (Kd.R_elder' (rG HO_392001) (Kd.R_base ho1) hb)
     replace BK380 := bB BK380 hb
     replace BK391 := bB BK391 hb
     replace HK := ak (KeepBut.trans (kT HK (gC GW380 (gC GW391 gN))) (KeepBut.of_below hb g none) (.inl rfl))
     replace HB := ak (below_step (lT HB (gC GE380 (gC GE391 gN))) hb)
     replace HI0 := ak (IsS80.below (IsS80.T_ HI0 (nC NB0_380 (nC NB0_391 nN))) hb)
     (try clear hb)
     (try clear hb2)
     (try clear hk)
     (try clear hi)
     (try clear ho0)
     (try clear ho1)
     obtain ⟨Ao53, co53, eo53⟩ := Kd.R_slice HO409.out
     (first | subst eo53 | (injection eo53 with f1_ f2_ f3_; have f4_ := f1_.symm; have f5_ := f3_.symm; clear f1_ f2_ f3_; subst f4_; subst f5_))
     obtain ⟨Ao55, co55, eo55⟩ := Kd.R_slice HO412.out
     (first | subst eo55 | (injection eo55 with f1_ f2_ f3_; have f4_ := f1_.symm; have f5_ := f3_.symm; clear f1_ f2_ f3_; subst f4_; subst f5_))
     refine hK.out _ _ ⟨bc BK391 0, bc BK391 1⟩ (fun hHeld => ?_)
     clear hK K
     refine nm ?_
     refine pu 13 19 (fb 17 16383) HT_ ?_
     refine pu 14 33 (fb 17 32767) HT_ ?_
     refine pu 15 34 (fb 17 65535) HT_ ?_
     refine last_ (i := 16) (N := none) #[t_,t_,t_,t_,t_,t_,t_,t_,t_,t_,t_,t_,t_,t_,t_,t_,t_] rfl rfl (one_of HT_.out (by kernel_rfl)) (by decide) (fun K hK => ?_)
     have hs54 : w52.cell? ⟨gb391, 0, none⟩ = some (.slice Ao46 x392000_1.length co46) := bc BK391 0
     have hfs54 := blk_frozen BK391.out 0
     have hns54_0 := NB380_391.out
     have hms54_0 := NB391_380.out
     have hs56 : w52.cell? ⟨gb391, 1, none⟩ = some (.slice Ao51 x392001_1.length co51) := bc BK391 1
     have hfs56 := blk_frozen BK391.out 1
     have hns56_0 := NB380_391.out
     have hms56_0 := NB391_380.out
     refine skip_ (w1 := ?_) (by rfl) rfl ?_ ?_
     rotate_left
     ·go_simp
      rfl
     refine hK.out _ _ ?_
     clear hK K
     refine done_ (done_of HT_.out (by kernel_rfl)) ?_
     try go_wp2_with (first | ((with_reducible refine gate_callee (f := 73) rfl ?_); refine gl (some 36) Try.func73 #[.pointer (some ⟨g, 0, none⟩), .int .i64 4] ?_; (with_reducible refine (spec_l01Once.calls g s0_0 t405 t406 4 false t415 t416 w0 _ ?side1 ?side2 A20.out).mono ?_); (case side1 => exact IsS80.T_ HI0 (nC NB0_380 (nC NB0_391 nN))); (case side2 => exact lT HB (gC GE380 (gC GE391 gN))); rintro e w57 ⟨rfl, hi, hb, hk⟩; refine ⟨_, rfl, ?_⟩; replace HO_392000 := ak (Kd.R_mono (Kd.R_keep (IsS80.apart (show IsS80 w0 _ g s0_0 t405 t406 from IsS80.T_ HI0 (nC NB0_380 (nC NB0_391 nN))) (rT HO_392000 BK391 (by decide)) (by decide)) hk (fun _ h => h.2)) (fun _ h => h.1)); replace HO_392001 := ak (Kd.R_mono (Kd.R_keep (IsS80.apart (show IsS80 w0 _ g s0_0 t405 t406 from IsS80.T_ HI0 (nC NB0_380 (nC NB0_391 nN))) (rT HO_392001 BK391 (by decide)) (by decide)) hk (fun _ h => h.2)) (fun _ h => h.1)); replace BK380 := ak (KeepBut.blk hk (g' := gb380) (o := .cells #[.slice none 0 0, .slice none 0 0] 27 (0, 0)) (bT BK380 (nC NB380_391 nN)) NB380_0.out (by simp)); replace HO409 := ak (Kd.R_mono (Kd.R_keep (IsS80.apart (show IsS80 w0 _ g s0_0 t405 t406 from IsS80.T_ HI0 (nC NB0_380 (nC NB0_391 nN))) (rT HO409 BK391 (by decide)) (by decide)) hk (fun _ h => h.2)) (fun _ h => h.1)); replace HO412 := ak (Kd.R_mono (Kd.R_keep (IsS80.apart (show IsS80 w0 _ g s0_0 t405 t406 from IsS80.T_ HI0 (nC NB0_380 (nC NB0_391 nN))) (rT HO412 BK391 (by decide)) (by decide)) hk (fun _ h => h.2)) (fun _ h => h.1)); replace BK391 := ak (KeepBut.blk hk (g' := gb391) (o := .cells #[.slice Ao53 t407.length co53, .slice Ao55 t410.length co55] 27 (0, 0)) (bW BK391) NB391_0.out (by simp)); replace HK := ak (KeepBut.trans (kT HK (gC GW380 (gC GW391 gN))) hk (.inl rfl)); replace HB := ak (hb); replace HI0 := ak (hi); (try clear hb); (try clear hk); (try clear hi)))
     go_roundg k1
     case measure => have := HK1.out; omega
     case rel => exact ⟨(wrap64 (x5_1 + 1)), (t415), (t416), (t407), (t410), (.slice Ao53 t407.length co53), (.slice Ao55 t410.length co55), (by first | rfl | (simp; done) | (simp [*]; done)), H', ⟨by have := HK1.out; omega⟩, ⟨by (with_reducible repeat (first | apply Kd.R_alloc | apply Kd.R_drewN | apply Kd.R_drew)); exact Kd.R_mono HO409.out (fun _ hk => trivial)⟩, ⟨by (with_reducible repeat (first | apply Kd.R_alloc | apply Kd.R_drewN | apply Kd.R_drew)); exact Kd.R_mono HO412.out (fun _ hk => trivial)⟩, ⟨bG BK380⟩, ⟨bG BK391⟩, ⟨IsS80.T_ HI0 (nC NB0_380 (nC NB0_391 nN))⟩, ⟨kT HK (gC GW380 (gC GW391 gN))⟩, ⟨lT HB (gC GE380 (gC GE391 gN))⟩⟩
   ·rw [if_neg c14] at H
    have c14b0 : decide (x5_1 < t392) = false := decide_eq_false c14
    clear c14
    simp only [Option.some.injEq, Prod.mk.injEq] at H
    obtain ⟨rfl, rfl, rfl, rfl⟩ := H
    go_wp2_with (first | ((with_reducible refine gate_callee (f := 47) rfl ?_); refine gl (some 15) Try.func47 #[.pointer (some ⟨g, 0, none⟩), .int .i64 9] ?_; (with_reducible refine (spec_l01Below.calls g s0_0 x1001_1 x1002_1 9 t392 t393 t394 w0 _ ?side1 ?side2 A13.out).mono ?_); (case side1 => exact IsS80.T_ HI0 (nC NB0_380 (nC NB0_391 nN))); (case side2 => exact lT HB (gC GE380 (gC GE391 gN))); rintro e w58 ⟨rfl, hi, hb, hk⟩; refine ⟨_, rfl, ?_⟩; replace HO_392000 := ak (Kd.R_mono (Kd.R_keep (IsS80.apart (show IsS80 w0 _ g s0_0 x1001_1 x1002_1 from IsS80.T_ HI0 (nC NB0_380 (nC NB0_391 nN))) (rG HO_392000) (by decide)) hk (fun _ h => h.2)) (fun _ h => h.1)); replace HO_392001 := ak (Kd.R_mono (Kd.R_keep (IsS80.apart (show IsS80 w0 _ g s0_0 x1001_1 x1002_1 from IsS80.T_ HI0 (nC NB0_380 (nC NB0_391 nN))) (rG HO_392001) (by decide)) hk (fun _ h => h.2)) (fun _ h => h.1)); replace BK380 := ak (KeepBut.blk hk (g' := gb380) (o := .cells #[.slice none 0 0, .slice none 0 0] 27 (0, 0)) (bG BK380) NB380_0.out (by simp)); replace BK391 := ak (KeepBut.blk hk (g' := gb391) (o := .cells #[u392000, u392001] 27 (0, 0)) (bG BK391) NB391_0.out (by simp)); replace HK := ak (KeepBut.trans (kT HK (gC GW380 (gC GW391 gN))) hk (.inl rfl)); replace HB := ak (hb); replace HI0 := ak (hi); (try clear hb); (try clear hk); (try clear hi); have hnb59 := NB391_380.out; have hnc59 := NB380_391.out; have hnb60 := NB391_0.out; have hnc60 := NB0_391.out; obtain ⟨hcz61_0, hcz61_1, hfz61_0, hfz61_1⟩ := bC2 BK391; obtain ⟨Ao62, co62, eo62⟩ := Kd.R_slice HO_392000.out; subst eo62; have hnb63 := NB380_0.out; have hnc63 := NB0_380.out; obtain ⟨hcz64_0, hcz64_1, hfz64_0, hfz64_1⟩ := bC2 BK380; obtain ⟨Ao65, co65, eo65⟩ := Kd.R_slice HO_392001.out; subst eo65))
    refine bodyPost_ret (results_cell_row rfl _ _ gb380 27 #[.slice Ao62 x392000_1.length co62, .slice Ao65 x392001_1.length co65] (0, 0) _ rfl (bW BK380) Try.underlying27 rfl (by kernel_rfl)) rfl ?_
    exact ⟨_, _, ew, by exact Kd.R_mono (rT HO_392000 BK380 (by decide)) (fun _ hk => trivial), by exact Kd.R_mono (rT HO_392001 BK380 (by decide)) (fun _ hk => trivial), IsS80.T_ HI0 (nC NB0_380 (nC NB0_391 nN)), lT HB (gC GE380 (gC GE391 gN)), kT HK (gC GW380 (gC GW391 gN))⟩
end Go.Proofs.Ytjpngldnkgofaaa.PFnSegmentsTold
