-- Written for this claim by a program of mine (a turned copy of the kit's print): functions as plain Lean, and their contracts. Lean checks it.
import Derived.Test.YtjpngldnkgofaaaPFnDisksToldx0
import Derived.Test.YtjpngldnkgofaaaPFnDisksToldx4
import Derived.Test.YtjpngldnkgofaaaPFnDisksToldx6
import Derived.Test.YtjpngldnkgofaaaPFnDisksToldx7
import Derived.Test.YtjpngldnkgofaaaPFnDisksToldx8
import Derived.Test.YtjpngldnkgofaaaPFnDisksToldx9
import Derived.Test.YtjpngldnkgofaaaVFnDisksTold1
namespace Go.Proofs.Ytjpngldnkgofaaa.PFnDisksTold
open Go.RowKit Go.Proofs.YtjpngldnkgofaaaW.PrintWords Go.Proofs.YtjpngldnkgofaaaW.PrintLast Go.Proofs.YtjpngldnkgofaaaW.PrintMore
attribute [local go_sem] max2_int min2_int max_two min_two max_three min_three max_four min_four   -- for this text's walks alone
set_option linter.unusedVariables false
set_option linter.unusedSimpArgs false

/-! ### spec_l03Disk: function 44 -/
def spec_l03Disk.l0 : Nat → Int → List Int → Int → Int → List ByteArray → List (S63) → Option (List ByteArray × (List (S63)) × Int × Int)
 | 0, _, _, _, _, _, _ => none
 | k + 1, x5, x1000, x1001, x1002, x290000, x290001 => (spec_l01Below.f x1000 x1001 x1002 9).bind fun bt290 => (if x5 < bt290.1 then ((spec_l01Below.f x1000 bt290.2.1 bt290.2.2 (x290000.length : Int)).bind fun bt293 => ((spec_l01Below.f x1000 bt293.2.1 bt293.2.2 40).bind fun bt296 => ((spec_l01Below.f x1000 bt296.2.1 bt296.2.2 50).bind fun bt299 => ((spec_l01Text.f k x1000 bt299.2.1 bt299.2.2 bt299.1).bind fun bt302 => ((spec_WriteBytes.f k x290000 x290001 bt293.1 bt296.1 bt302.1).bind fun bt305 => ((spec_l01Once.f x1000 bt302.2.1 bt302.2.2 4).bind fun bt312 => (if bt312.1 = true then ((spec_FlushDisk.f k bt305.1 bt305.2.1).bind fun bt315 => (spec_l03Disk.l0 k (wrap64 (x5 + 1)) x1000 bt312.2.1 bt312.2.2 bt315.1 bt315.2)) else (spec_l03Disk.l0 k (wrap64 (x5 + 1)) x1000 bt312.2.1 bt312.2.2 bt305.1 bt305.2.1)))))))) else (some (x290000, x290001, bt290.2.1, bt290.2.2)))
def spec_l03Disk.f (k : Nat) (s0_0 : List Int) (s0_1 : Int) (s0_2 : Int) : Option (List ByteArray × (List (S63)) × Int × Int) := (spec_l01Below.f s0_0 s0_1 s0_2 6).bind fun bt279 => ((spec_DiskNew.f k (wrap64 (1 + bt279.1))).bind fun bt282 => (spec_l03Disk.l0 k 0 s0_0 bt279.2.1 bt279.2.2 bt282.1 bt282.2.1))
theorem spec_l03Disk.mono_l : ∀ k, (∀ y0 y1 y2 y3 y4 y5, LeO (spec_l03Disk.l0 k y0 y1 y2 y3 y4 y5) (spec_l03Disk.l0 (k + 1) y0 y1 y2 y3 y4 y5))
 | 0 => fun _ _ _ _ _ _ r h => by simp [spec_l03Disk.l0] at h
 | k + 1 => by
  have ih0 := spec_l03Disk.mono_l k
  ·intro y0 y1 y2 y3 y4 y5
   unfold spec_l03Disk.l0
   repeat' first
   | (with_reducible exact ih0 _ _ _ _ _ _)
   | (with_reducible exact spec_DiskNew.mono _ _)
   | (with_reducible exact spec_FlushDisk.mono _ _ _)
   | (with_reducible exact spec_WriteBytes.mono _ _ _ _ _ _)
   | (with_reducible exact spec_l01Text.mono _ _ _ _ _)
   | (with_reducible exact LeO.refl _)
   | (with_reducible exact LeO.none _)
   | (with_reducible refine LeO.ite ?_ ?_)
   | (with_reducible refine LeO.bind ?_ (fun _ => ?_))
   | exact ih0 _ _ _ _ _ _
   | exact spec_DiskNew.mono _ _
   | exact spec_FlushDisk.mono _ _ _
   | exact spec_WriteBytes.mono _ _ _ _ _ _
   | exact spec_l01Text.mono _ _ _ _ _
   | exact LeO.none _
   | refine LeO.ite ?_ ?_
   | refine LeO.bind ?_ (fun _ => ?_)
theorem spec_l03Disk.mono : ∀ a0 a1 a2 k, LeO (spec_l03Disk.f k a0 a1 a2) (spec_l03Disk.f (k + 1) a0 a1 a2) := by
 intro a0 a1 a2 k
 have ih0 := spec_l03Disk.mono_l k
 unfold spec_l03Disk.f
 repeat' first
   | (with_reducible exact ih0 _ _ _ _ _ _)
   | (with_reducible exact spec_DiskNew.mono _ _)
   | (with_reducible exact spec_FlushDisk.mono _ _ _)
   | (with_reducible exact spec_WriteBytes.mono _ _ _ _ _ _)
   | (with_reducible exact spec_l01Text.mono _ _ _ _ _)
   | (with_reducible exact LeO.refl _)
   | (with_reducible exact LeO.none _)
   | (with_reducible refine LeO.ite ?_ ?_)
   | (with_reducible refine LeO.bind ?_ (fun _ => ?_))
   | exact ih0 _ _ _ _ _ _
   | exact spec_DiskNew.mono _ _
   | exact spec_FlushDisk.mono _ _ _
   | exact spec_WriteBytes.mono _ _ _ _ _ _
   | exact spec_l01Text.mono _ _ _ _ _
   | exact LeO.none _
   | refine LeO.ite ?_ ?_
   | refine LeO.bind ?_ (fun _ => ?_)
def spec_l03Disk.T5 : Bool × List (List Nat × List Nat) := (true, [([], []), ([], []), ([], []), ([2], [2]), ([3], [3]), ([1, 4], [1, 4]), ([], []), ([6, 5], [6]), ([], []), ([], []), ([9, 7], [9]), ([8, 10, 10], [8, 10]), ([0, 5, 7, 11, 11], [0, 5, 7, 11]), ([12], [12]), ([13], [13]), ([13], [13]), ([14, 12, 0, 1, 2, 3, 4, 5, 6, 7, 8, 9, 10, 11, 12, 13, 14], [14])])
def spec_l03Disk.B5 : List Nat := [0, 0, 0, 4, 12, 30, 0, 126, 0, 0, 766, 2046, 4095, 8191, 16383, 16383, 32767]
theorem spec_l03Disk.tab5 : rtab .any (opsOf Try.f44 5) = spec_l03Disk.T5 := by kernel_rfl
theorem spec_l03Disk.bits5 : waitsOk spec_l03Disk.T5.2 spec_l03Disk.B5 = true := by kernel_rfl
set_option maxHeartbeats 8000000 in
set_option maxRecDepth 100000 in
theorem spec_l03Disk.calls (k : Nat) (g : Nat) (s0_0 : List Int) (s0_1 : Int) (s0_2 : Int) (r1 : List ByteArray) (r2 : List (S63)) (r3 : Int) (r4 : Int) (w0 w : World) (hI : IsS80 w0 w g s0_0 s0_1 s0_2) (hB : Below w0.heap.size w0 w) (h : spec_l03Disk.f k s0_0 s0_1 s0_2 = some (r1, r2, r3, r4)) :
  Calls Try.prog 44 #[.pointer (some ⟨g, 0, none⟩)] w fun e w' => ∃ v0_ v1_ : Value, e = .returned (.agg #[v0_, v1_]) ∧ Kd.R Kd.string 9 w' w.heap.size (fun _ => True) v0_ r1 ∧ Kd.R k63 63 w' w.heap.size (fun _ => True) v1_ r2 ∧ IsS80 w0 w' g s0_0 r3 r4 ∧ Below w0.heap.size w0 w' ∧ KeepBut w w' g none := by
 have hu27 := Try.underlying27
 have HI0 := Aside0.mk hI
 have HK := ak (KeepBut.refl w g none)
 have HL := Aside0.mk hB.size
 clear hI
 have HW0 := Aside0.mk hB.size
 have HB := Aside0.mk hB
 clear hB
 have H : ((spec_l01Below.f s0_0 s0_1 s0_2 6).bind fun bt279 => ((spec_DiskNew.f k (wrap64 (1 + bt279.1))).bind fun bt282 => (spec_l03Disk.l0 k 0 s0_0 bt279.2.1 bt279.2.2 bt282.1 bt282.2.1))) = some (r1, r2, r3, r4) := h
 clear h
 replace H := Option.bind_eq_some_iff.mp H
 obtain ⟨⟨t279, t280, t281⟩, A20, H⟩ := H
 replace H : ((spec_DiskNew.f k (wrap64 (1 + t279))).bind fun bt282 => (spec_l03Disk.l0 k 0 s0_0 t280 t281 bt282.1 bt282.2.1)) = some (r1, r2, r3, r4) := H
 have A2 := Aside0.mk A20
 clear A20
 replace H := Option.bind_eq_some_iff.mp H
 obtain ⟨⟨t282, t285, t288⟩, A30, H⟩ := H
 replace H : (spec_l03Disk.l0 k 0 s0_0 t280 t281 t282 t285) = some (r1, r2, r3, r4) := H
 have A3 := Aside0.mk A30
 clear A30
 have H' := Aside0.mk H
 clear H
 go_enter Try.func44, Try.ntmps44
 go_wp2_with (first | ((with_reducible refine gate_dst (N := 2) rfl ?_); refine bx 2 #[.slice none 0 0, .slice none 0 0] 27 ?_; intro gb278 hg w4 hbox hb; replace HB := ak (below_step (lT HB gN) hb); replace BK278 := ak (hbox); replace GW278 := ak ((by rw [hg]; exact (keep_size (w := w) (g := g) (row := none) (kT HK gN)) : w.heap.size ≤ gb278)); replace GE278 := ak ((Nat.le_trans HW0.out (by rw [hg]; exact (keep_size (w := w) (g := g) (row := none) (kT HK gN)) : w.heap.size ≤ gb278) : w0.heap.size ≤ gb278)); replace HK := ak (KeepBut.trans (kT HK gN) (KeepBut.of_below hb g none) (.inl rfl)); replace NB0_278 := ak ((by rw [hg]; exact Nat.ne_of_lt (IsS80.lt (show IsS80 w0 _ g s0_0 s0_1 s0_2 from IsS80.T_ HI0 nN)) : g ≠ gb278)); replace NB278_0 := ak ((by rw [hg]; exact Nat.ne_of_gt (IsS80.lt (show IsS80 w0 _ g s0_0 s0_1 s0_2 from IsS80.T_ HI0 nN)) : gb278 ≠ g)); replace HI0 := ak (IsS80.below (IsS80.T_ HI0 nN) hb); clear hb hbox hg) | ((with_reducible refine gate_callee (f := 47) rfl ?_); refine gl (some 8) Try.func47 #[.pointer (some ⟨g, 0, none⟩), .int .i64 6] ?_; (with_reducible refine (spec_l01Below.calls g s0_0 s0_1 s0_2 6 t279 t280 t281 w0 _ ?side1 ?side2 A2.out).mono ?_); (case side1 => exact IsS80.T_ HI0 (nC NB0_278 nN)); (case side2 => exact lT HB (gC GE278 gN)); rintro e w5 ⟨rfl, hi, hb, hk⟩; refine ⟨_, rfl, ?_⟩; replace BK278 := ak (KeepBut.blk hk (g' := gb278) (o := .cells #[.slice none 0 0, .slice none 0 0] 27 (0, 0)) (bG BK278) NB278_0.out (by simp)); replace HK := ak (KeepBut.trans (kT HK (gC GW278 gN)) hk (.inl rfl)); replace HB := ak (hb); replace HI0 := ak (hi); (try clear hb); (try clear hk); (try clear hi)) | ((with_reducible refine gate_callee (f := 67) rfl ?_); refine gl (some 10) Try.func67 #[.int .i64 (wrap64 (1 + t279))] ?_; (with_reducible refine (spec_DiskNew.calls k (wrap64 (1 + t279)) t282 t285 t288 _ A3.out).mono ?_); rintro e w6 ⟨v283, v286, rfl, ho0, ho1, hb⟩; refine ⟨_, rfl, ?_⟩; replace HO284 := ak (Kd.R_lower ho0 (keep_size (w := w) (g := g) (row := none) (kT HK (gC GW278 gN)))); replace HO287 := ak (Kd.R_lower ho1 (keep_size (w := w) (g := g) (row := none) (kT HK (gC GW278 gN)))); replace BK278 := bB BK278 hb; replace HK := ak (KeepBut.trans (kT HK (gC GW278 gN)) (KeepBut.of_below hb g none) (.inl rfl)); replace HB := ak (below_step (lT HB (gC GE278 gN)) hb); replace HI0 := ak (IsS80.below (IsS80.T_ HI0 (nC NB0_278 nN)) hb); (try clear hb); (try clear hk); (try clear hi); (try clear ho0); (try clear ho1)) | ((with_reducible refine gate_dst (N := 3) rfl ?_); refine bx 3 #[.slice none 0 0, .slice none 0 0] 27 ?_; intro gb289 hg w7 hbox hb; replace HO284 := rB HO284 hb; replace HO287 := rB HO287 hb; replace HB := ak (below_step (lT HB (gC GE278 gN)) hb); replace BK289 := ak (hbox); replace GW289 := ak ((by rw [hg]; exact (keep_size (w := w) (g := g) (row := none) (kT HK (gC GW278 gN))) : w.heap.size ≤ gb289)); replace GE289 := ak ((Nat.le_trans HW0.out (by rw [hg]; exact (keep_size (w := w) (g := g) (row := none) (kT HK (gC GW278 gN))) : w.heap.size ≤ gb289) : w0.heap.size ≤ gb289)); replace HK := ak (KeepBut.trans (kT HK (gC GW278 gN)) (KeepBut.of_below hb g none) (.inl rfl)); replace NB278_289 := ak (nl hg (bG BK278)); replace NB289_278 := ak (ng hg (bG BK278)); replace BK278 := bB BK278 hb; replace NB0_289 := ak ((by rw [hg]; exact Nat.ne_of_lt (IsS80.lt (show IsS80 w0 _ g s0_0 t280 t281 from IsS80.T_ HI0 (nC NB0_278 nN))) : g ≠ gb289)); replace NB289_0 := ak ((by rw [hg]; exact Nat.ne_of_gt (IsS80.lt (show IsS80 w0 _ g s0_0 t280 t281 from IsS80.T_ HI0 (nC NB0_278 nN))) : gb289 ≠ g)); replace HI0 := ak (IsS80.below (IsS80.T_ HI0 (nC NB0_278 nN)) hb); clear hb hbox hg; obtain ⟨Ao8, co8, eo8⟩ := Kd.R_slice HO284.out; subst eo8; have hnb9 := NB289_278.out; have hnc9 := NB278_289.out; have hnb10 := NB289_0.out; have hnc10 := NB0_289.out; obtain ⟨hcz11_0, hcz11_1, hfz11_0, hfz11_1⟩ := bC2 BK289; obtain ⟨Ao12, co12, eo12⟩ := Kd.R_slice HO287.out; subst eo12))
 go_loopg [5] k (fun kq v5 w' => ∃ (x5_1 : Int) (x1001_1 : Int) (x1002_1 : Int) (x290000_1 : List ByteArray) (x290001_1 : List (S63)) (u290000 : Value) (u290001 : Value), v5 = .int .i64 x5_1 ∧ Aside0 (spec_l03Disk.l0 kq x5_1 s0_0 x1001_1 x1002_1 x290000_1 x290001_1 = some (r1, r2, r3, r4)) ∧ Aside0 (kq ≤ k) ∧ Aside0 (Kd.R Kd.string 9 w' w.heap.size (fun _ => True) u290000 x290000_1) ∧ Aside0 (Kd.R k63 63 w' w.heap.size (fun _ => True) u290001 x290001_1) ∧ Aside0 (w'.heap[gb278]? = some (.cells #[(.slice none 0 0), (.slice none 0 0)] 27 (0, 0))) ∧ Aside0 (w'.heap[gb289]? = some (.cells #[u290000, u290001] 27 (0, 0))) ∧ Aside0 (IsS80 w0 w' g s0_0 x1001_1 x1002_1) ∧ Aside0 (KeepBut w w' g none) ∧ Aside0 (Below w0.heap.size w0 w'))
 case atStart => exact ⟨(0), (t280), (t281), (t282), (t285), (.slice Ao8 t282.length co8), (.slice Ao12 t285.length co12), (by first | rfl | (simp; done) | (simp [*]; done)), H', ⟨Nat.le_refl _⟩, ⟨by exact Kd.R_mono (rT HO284 BK289 (by decide)) (fun _ hk => trivial)⟩, ⟨by exact Kd.R_mono (rT HO287 BK289 (by decide)) (fun _ hk => trivial)⟩, ⟨by (with_reducible repeat (first | refine blk_drewN ?_ _ | refine blk_drew ?_ | refine blk_alloc ?_ _)); refine blk_far ?_ NB278_289.out _; (with_reducible repeat (first | refine blk_drewN ?_ _ | refine blk_drew ?_ | refine blk_alloc ?_ _)); refine blk_far ?_ NB278_289.out _; (with_reducible repeat (first | refine blk_drewN ?_ _ | refine blk_drew ?_ | refine blk_alloc ?_ _)); exact BK278.out⟩, ⟨bW BK289⟩, ⟨IsS80.T_ HI0 (nC NB0_278 (nC NB0_289 nN))⟩, ⟨kT HK (gC GW278 (gC GW289 gN))⟩, ⟨lT HB (gC GE278 (gC GE289 gN))⟩⟩
 case round =>
  clear H'
  try clear c1
  try clear p2
  try clear c4
  try clear c6
  try clear p6
  try clear c9
  try clear c10
  try clear hcz11_0
  try clear hcz11_1
  try clear hfz11_0
  try clear hfz11_1
  obtain ⟨x5_1, x1001_1, x1002_1, x290000_1, x290001_1, u290000, u290001, rfl, HA, HK1, HO_290000, HO_290001, BK278, BK289, HI0, HK, HB⟩ := hrel
  cases gk with
  | zero => exact absurd HA.out (by simp [spec_l03Disk.l0])
  | succ k1 =>
   have H := HA.out
   clear HA
   simp only [spec_l03Disk.l0] at H
   replace H := Option.bind_eq_some_iff.mp H
   obtain ⟨⟨t290, t291, t292⟩, A130, H⟩ := H
   replace H : (if x5_1 < t290 then ((spec_l01Below.f s0_0 t291 t292 (x290000_1.length : Int)).bind fun bt293 => ((spec_l01Below.f s0_0 bt293.2.1 bt293.2.2 40).bind fun bt296 => ((spec_l01Below.f s0_0 bt296.2.1 bt296.2.2 50).bind fun bt299 => ((spec_l01Text.f k1 s0_0 bt299.2.1 bt299.2.2 bt299.1).bind fun bt302 => ((spec_WriteBytes.f k1 x290000_1 x290001_1 bt293.1 bt296.1 bt302.1).bind fun bt305 => ((spec_l01Once.f s0_0 bt302.2.1 bt302.2.2 4).bind fun bt312 => (if bt312.1 = true then ((spec_FlushDisk.f k1 bt305.1 bt305.2.1).bind fun bt315 => (spec_l03Disk.l0 k1 (wrap64 (x5_1 + 1)) s0_0 bt312.2.1 bt312.2.2 bt315.1 bt315.2)) else (spec_l03Disk.l0 k1 (wrap64 (x5_1 + 1)) s0_0 bt312.2.1 bt312.2.2 bt305.1 bt305.2.1)))))))) else (some (x290000_1, x290001_1, t291, t292))) = some (r1, r2, r3, r4) := H
   have A13 := Aside0.mk A130
   clear A130
   by_cases c14 : x5_1 < t290
   ·rw [if_pos c14] at H
    have c14b0 : decide (x5_1 < t290) = true := decide_eq_true c14
    clear c14
    replace H := Option.bind_eq_some_iff.mp H
    obtain ⟨⟨t293, t294, t295⟩, A150, H⟩ := H
    replace H : ((spec_l01Below.f s0_0 t294 t295 40).bind fun bt296 => ((spec_l01Below.f s0_0 bt296.2.1 bt296.2.2 50).bind fun bt299 => ((spec_l01Text.f k1 s0_0 bt299.2.1 bt299.2.2 bt299.1).bind fun bt302 => ((spec_WriteBytes.f k1 x290000_1 x290001_1 t293 bt296.1 bt302.1).bind fun bt305 => ((spec_l01Once.f s0_0 bt302.2.1 bt302.2.2 4).bind fun bt312 => (if bt312.1 = true then ((spec_FlushDisk.f k1 bt305.1 bt305.2.1).bind fun bt315 => (spec_l03Disk.l0 k1 (wrap64 (x5_1 + 1)) s0_0 bt312.2.1 bt312.2.2 bt315.1 bt315.2)) else (spec_l03Disk.l0 k1 (wrap64 (x5_1 + 1)) s0_0 bt312.2.1 bt312.2.2 bt305.1 bt305.2.1))))))) = some (r1, r2, r3, r4) := H
    have A15 := Aside0.mk A150
    clear A150
    replace H := Option.bind_eq_some_iff.mp H
    obtain ⟨⟨t296, t297, t298⟩, A160, H⟩ := H
    replace H : ((spec_l01Below.f s0_0 t297 t298 50).bind fun bt299 => ((spec_l01Text.f k1 s0_0 bt299.2.1 bt299.2.2 bt299.1).bind fun bt302 => ((spec_WriteBytes.f k1 x290000_1 x290001_1 t293 t296 bt302.1).bind fun bt305 => ((spec_l01Once.f s0_0 bt302.2.1 bt302.2.2 4).bind fun bt312 => (if bt312.1 = true then ((spec_FlushDisk.f k1 bt305.1 bt305.2.1).bind fun bt315 => (spec_l03Disk.l0 k1 (wrap64 (x5_1 + 1)) s0_0 bt312.2.1 bt312.2.2 bt315.1 bt315.2)) else (spec_l03Disk.l0 k1 (wrap64 (x5_1 + 1)) s0_0 bt312.2.1 bt312.2.2 bt305.1 bt305.2.1)))))) = some (r1, r2, r3, r4) := H
    have A16 := Aside0.mk A160
    clear A160
    replace H := Option.bind_eq_some_iff.mp H
    obtain ⟨⟨t299, t300, t301⟩, A170, H⟩ := H
    replace H : ((spec_l01Text.f k1 s0_0 t300 t301 t299).bind fun bt302 => ((spec_WriteBytes.f k1 x290000_1 x290001_1 t293 t296 bt302.1).bind fun bt305 => ((spec_l01Once.f s0_0 bt302.2.1 bt302.2.2 4).bind fun bt312 => (if bt312.1 = true then ((spec_FlushDisk.f k1 bt305.1 bt305.2.1).bind fun bt315 => (spec_l03Disk.l0 k1 (wrap64 (x5_1 + 1)) s0_0 bt312.2.1 bt312.2.2 bt315.1 bt315.2)) else (spec_l03Disk.l0 k1 (wrap64 (x5_1 + 1)) s0_0 bt312.2.1 bt312.2.2 bt305.1 bt305.2.1))))) = some (r1, r2, r3, r4) := H
    have A17 := Aside0.mk A170
    clear A170
    replace H := Option.bind_eq_some_iff.mp H
    obtain ⟨⟨t302, t303, t304⟩, A180, H⟩ := H
    replace H : ((spec_WriteBytes.f k1 x290000_1 x290001_1 t293 t296 t302).bind fun bt305 => ((spec_l01Once.f s0_0 t303 t304 4).bind fun bt312 => (if bt312.1 = true then ((spec_FlushDisk.f k1 bt305.1 bt305.2.1).bind fun bt315 => (spec_l03Disk.l0 k1 (wrap64 (x5_1 + 1)) s0_0 bt312.2.1 bt312.2.2 bt315.1 bt315.2)) else (spec_l03Disk.l0 k1 (wrap64 (x5_1 + 1)) s0_0 bt312.2.1 bt312.2.2 bt305.1 bt305.2.1)))) = some (r1, r2, r3, r4) := H
    have A18 := Aside0.mk A180
    clear A180
    replace H := Option.bind_eq_some_iff.mp H
    obtain ⟨⟨t305, t308, t311⟩, A190, H⟩ := H
    replace H : ((spec_l01Once.f s0_0 t303 t304 4).bind fun bt312 => (if bt312.1 = true then ((spec_FlushDisk.f k1 t305 t308).bind fun bt315 => (spec_l03Disk.l0 k1 (wrap64 (x5_1 + 1)) s0_0 bt312.2.1 bt312.2.2 bt315.1 bt315.2)) else (spec_l03Disk.l0 k1 (wrap64 (x5_1 + 1)) s0_0 bt312.2.1 bt312.2.2 t305 t308))) = some (r1, r2, r3, r4) := H
    have A19 := Aside0.mk A190
    clear A190
    replace H := Option.bind_eq_some_iff.mp H
    obtain ⟨⟨t312, t313, t314⟩, A200, H⟩ := H
    replace H : (if t312 = true then ((spec_FlushDisk.f k1 t305 t308).bind fun bt315 => (spec_l03Disk.l0 k1 (wrap64 (x5_1 + 1)) s0_0 t313 t314 bt315.1 bt315.2)) else (spec_l03Disk.l0 k1 (wrap64 (x5_1 + 1)) s0_0 t313 t314 t305 t308)) = some (r1, r2, r3, r4) := H
    have A20 := Aside0.mk A200
    clear A200
    by_cases c21 : t312 = true
    ·subst c21
     have H1 : ((spec_FlushDisk.f k1 t305 t308).bind fun bt315 => (spec_l03Disk.l0 k1 (wrap64 (x5_1 + 1)) s0_0 t313 t314 bt315.1 bt315.2)) = some (r1, r2, r3, r4) := by rw [if_pos rfl] at H; exact H
     clear H
     have H := H1
     clear H1
     replace H := Option.bind_eq_some_iff.mp H
     obtain ⟨⟨t315, t318⟩, A220, H⟩ := H
     replace H : (spec_l03Disk.l0 k1 (wrap64 (x5_1 + 1)) s0_0 t313 t314 t315 t318) = some (r1, r2, r3, r4) := H
     have A22 := Aside0.mk A220
     clear A220
     have H' := Aside0.mk H
     clear H
     try go_wp2_with (first | ((with_reducible refine gate_callee (f := 47) rfl ?_); refine gl (some 15) Try.func47 #[.pointer (some ⟨g, 0, none⟩), .int .i64 9] ?_; (with_reducible refine (spec_l01Below.calls g s0_0 x1001_1 x1002_1 9 t290 t291 t292 w0 _ ?side1 ?side2 A13.out).mono ?_); (case side1 => exact IsS80.T_ HI0 (nC NB0_278 (nC NB0_289 nN))); (case side2 => exact lT HB (gC GE278 (gC GE289 gN))); rintro e w23 ⟨rfl, hi, hb, hk⟩; refine ⟨_, rfl, ?_⟩; replace HO_290000 := ak (Kd.R_mono (Kd.R_keep (IsS80.apart (show IsS80 w0 _ g s0_0 x1001_1 x1002_1 from IsS80.T_ HI0 (nC NB0_278 (nC NB0_289 nN))) (rG HO_290000) (by decide)) hk (fun _ h => h.2)) (fun _ h => h.1)); replace HO_290001 := ak (Kd.R_mono (Kd.R_keep (IsS80.apart (show IsS80 w0 _ g s0_0 x1001_1 x1002_1 from IsS80.T_ HI0 (nC NB0_278 (nC NB0_289 nN))) (rG HO_290001) (by decide)) hk (fun _ h => h.2)) (fun _ h => h.1)); replace BK278 := ak (KeepBut.blk hk (g' := gb278) (o := .cells #[.slice none 0 0, .slice none 0 0] 27 (0, 0)) (bG BK278) NB278_0.out (by simp)); replace BK289 := ak (KeepBut.blk hk (g' := gb289) (o := .cells #[u290000, u290001] 27 (0, 0)) (bG BK289) NB289_0.out (by simp)); replace HK := ak (KeepBut.trans (kT HK (gC GW278 (gC GW289 gN))) hk (.inl rfl)); replace HB := ak (hb); replace HI0 := ak (hi); (try clear hb); (try clear hk); (try clear hi)))
     replace HO_290000 := ak (Kd.R_drew HO_290000.out)
     replace HO_290001 := ak (Kd.R_drew HO_290001.out)
     replace BK278 := ak (blk_drew BK278.out)
     replace BK289 := ak (blk_drew BK289.out)
     replace HI0 := ak (IsS80.drew HI0.out)
     replace HK := ak (keep_drew HK.out)
     replace HB := ak (below_drew1 HB.out)
     obtain ⟨Ao25, co25, eo25⟩ := Kd.R_slice HO_290000.out
     (first | subst eo25 | (injection eo25 with f1_ f2_ f3_; have f4_ := f1_.symm; have f5_ := f3_.symm; clear f1_ f2_ f3_; subst f4_; subst f5_))
     refine start_ (n := 17) (S := fun w' => w'.cell? ⟨gb289, 0, none⟩ = some (.slice Ao25 x290000_1.length co25) ∧ w'.cell? ⟨gb289, 1, none⟩ = some (u290001)) (ds := [16]) #[f_,f_,f_,f_,f_,f_,f_,f_,f_,f_,f_,f_,f_,f_,f_,f_,f_] (by kernel_rfl) rfl rfl ⟨bc BK289 0, bc BK289 1⟩ (fun hHeld => ?_); refine with_tabW spec_l03Disk.tab5 spec_l03Disk.bits5 (fun HT_ HW_ => ?_)
     generalize w23.drew = w24 at HO_290000 HO_290001 BK278 BK289 HI0 HK HB hHeld ⊢
     refine pu 1 21 (fb 17 2) HT_ ?_
     refine pu 2 22 (fb 17 6) HT_ ?_
     refine pu 6 26 (fb 17 70) HT_ ?_
     refine pu 8 28 (fb 17 326) HT_ ?_
     refine pu 9 29 (fb 17 838) HT_ ?_
     refine tk 0 20 (fb 17 839) HT_ HW_ hHeld ?_
     refine tk 3 23 (fb 17 847) HT_ HW_ hHeld ?_
     refine pu 4 24 (fb 17 863) HT_ ?_
     refine on 5 (some 25) (fb 17 895) HT_ (fun K hK => ?_)
     refine goes_ Try.func47 (by kernel_rfl) rfl #[.pointer (some ⟨g, 0, none⟩), .int .i64 (x290000_1.length : Int)] (by rfl) rfl rfl (by (try simp only [List.map_toArray, List.map_cons, List.map_nil]); first | done | rfl | (simp only [List.length_drop, List.length_take]; rfl)) ?_
     with_reducible refine (spec_l01Below.calls g s0_0 t291 t292 (x290000_1.length : Int) t293 t294 t295 w0 _ ?side1 ?side2 A15.out).mono ?_
     (case side1 => exact IsS80.T_ HI0 (nC NB0_278 (nC NB0_289 nN)))
     (case side2 => exact lT HB (gC GE278 (gC GE289 gN)))
     rintro e w26 ⟨rfl, hi, hb, hk⟩
     refine ⟨_, rfl, ?_⟩
     replace HO_290000 := ak (Kd.R_mono (Kd.R_keep (IsS80.apart (show IsS80 w0 _ g s0_0 t291 t292 from IsS80.T_ HI0 (nC NB0_278 (nC NB0_289 nN))) (rG HO_290000) (by decide)) hk (fun _ h => h.2)) (fun _ h => h.1))
     replace HO_290001 := ak (Kd.R_mono (Kd.R_keep (IsS80.apart (show IsS80 w0 _ g s0_0 t291 t292 from IsS80.T_ HI0 (nC NB0_278 (nC NB0_289 nN))) (rG HO_290001) (by decide)) hk (fun _ h => h.2)) (fun _ h => h.1))
     replace BK278 := ak (KeepBut.blk hk (g' := gb278) (o := .cells #[.slice none 0 0, .slice none 0 0] 27 (0, 0)) (bG BK278) NB278_0.out (by simp))
     replace BK289 := ak (KeepBut.blk hk (g' := gb289) (o := .cells #[.slice Ao25 x290000_1.length co25, u290001] 27 (0, 0)) (bG BK289) NB289_0.out (by simp))
     replace HK := ak (KeepBut.trans (kT HK (gC GW278 (gC GW289 gN))) hk (.inl rfl))
     replace HB := ak (hb)
     replace HI0 := ak (hi)
     (try clear hb)
     (try clear hb2)
     (try clear hk)
     (try clear hi)
     refine hK.out _ _ ⟨bc BK289 0, bc BK289 1⟩ (fun hHeld => ?_)
     clear hK K
     refine nm ?_
     refine on 7 (some 27) (fb 17 1023) HT_ (fun K hK => ?_)
     refine goes_ Try.func47 (by kernel_rfl) rfl #[.pointer (some ⟨g, 0, none⟩), .int .i64 40] (by rfl) rfl rfl (by (try simp only [List.map_toArray, List.map_cons, List.map_nil]); first | done | rfl | (simp only [List.length_drop, List.length_take]; rfl)) ?_
     with_reducible refine (spec_l01Below.calls g s0_0 t294 t295 40 t296 t297 t298 w0 _ ?side1 ?side2 A16.out).mono ?_
     (case side1 => exact IsS80.T_ HI0 (nC NB0_278 (nC NB0_289 nN)))
     (case side2 => exact lT HB (gC GE278 (gC GE289 gN)))
     rintro e w27 ⟨rfl, hi, hb, hk⟩
     refine ⟨_, rfl, ?_⟩
     replace HO_290000 := ak (Kd.R_mono (Kd.R_keep (IsS80.apart (show IsS80 w0 _ g s0_0 t294 t295 from IsS80.T_ HI0 (nC NB0_278 (nC NB0_289 nN))) (rG HO_290000) (by decide)) hk (fun _ h => h.2)) (fun _ h => h.1))
     replace HO_290001 := ak (Kd.R_mono (Kd.R_keep (IsS80.apart (show IsS80 w0 _ g s0_0 t294 t295 from IsS80.T_ HI0 (nC NB0_278 (nC NB0_289 nN))) (rG HO_290001) (by decide)) hk (fun _ h => h.2)) (fun _ h => h.1))
     replace BK278 := ak (KeepBut.blk hk (g' := gb278) (o := .cells #[.slice none 0 0, .slice none 0 0] 27 (0, 0)) (bG BK278) NB278_0.out (by simp))
     replace BK289 := ak (KeepBut.blk hk (g' := gb289) (o := .cells #[.slice Ao25 x290000_1.length co25, u290001] 27 (0, 0)) (bG BK289) NB289_0.out (by simp))
     replace HK := ak (KeepBut.trans (kT HK (gC GW278 (gC GW289 gN))) hk (.inl rfl))
     replace HB := ak (hb)
     replace HI0 := ak (hi)
     (try clear hb)
     (try clear hb2)
     (try clear hk)
     (try clear hi)
     refine hK.out _ _ ⟨bc BK289 0, bc BK289 1⟩ (fun hHeld => ?_)
     clear hK K
     refine nm ?_
     refine on 10 (some 30) (fb 17 2047) HT_ (fun K hK => ?_)
     refine goes_ Try.func47 (by kernel_rfl) rfl #[.pointer (some ⟨g, 0, none⟩), .int .i64 50] (by rfl) rfl rfl (by (try simp only [List.map_toArray, List.map_cons, List.map_nil]); first | done | rfl | (simp only [List.length_drop, List.length_take]; rfl)) ?_
     with_reducible refine (spec_l01Below.calls g s0_0 t297 t298 50 t299 t300 t301 w0 _ ?side1 ?side2 A17.out).mono ?_
     (case side1 => exact IsS80.T_ HI0 (nC NB0_278 (nC NB0_289 nN)))
     (case side2 => exact lT HB (gC GE278 (gC GE289 gN)))
     rintro e w28 ⟨rfl, hi, hb, hk⟩
     refine ⟨_, rfl, ?_⟩
     replace HO_290000 := ak (Kd.R_mono (Kd.R_keep (IsS80.apart (show IsS80 w0 _ g s0_0 t297 t298 from IsS80.T_ HI0 (nC NB0_278 (nC NB0_289 nN))) (rG HO_290000) (by decide)) hk (fun _ h => h.2)) (fun _ h => h.1))
     replace HO_290001 := ak (Kd.R_mono (Kd.R_keep (IsS80.apart (show IsS80 w0 _ g s0_0 t297 t298 from IsS80.T_ HI0 (nC NB0_278 (nC NB0_289 nN))) (rG HO_290001) (by decide)) hk (fun _ h => h.2)) (fun _ h => h.1))
     replace BK278 := ak (KeepBut.blk hk (g' := gb278) (o := .cells #[.slice none 0 0, .slice none 0 0] 27 (0, 0)) (bG BK278) NB278_0.out (by simp))
     replace BK289 := ak (KeepBut.blk hk (g' := gb289) (o := .cells #[.slice Ao25 x290000_1.length co25, u290001] 27 (0, 0)) (bG BK289) NB289_0.out (by simp))
     replace HK := ak (KeepBut.trans (kT HK (gC GW278 (gC GW289 gN))) hk (.inl rfl))
     replace HB := ak (hb)
     replace HI0 := ak (hi)
     (try clear hb)
     (try clear hb2)
     (try clear hk)
     (try clear hi)
     refine hK.out _ _ ⟨bc BK289 0, bc BK289 1⟩ (fun hHeld => ?_)
     clear hK K
     refine nm ?_
     refine on 11 (some 31) (fb 17 4095) HT_ (fun K hK => ?_)
     refine goes_ Try.func72 (by kernel_rfl) rfl #[.pointer (some ⟨g, 0, none⟩), .int .i64 t299] (by rfl) rfl rfl (by (try simp only [List.map_toArray, List.map_cons, List.map_nil]); first | done | rfl | (simp only [List.length_drop, List.length_take]; rfl)) ?_
     with_reducible refine (spec_l01Text.calls k1 g s0_0 t300 t301 t299 t302 t303 t304 w0 _ ?side1 ?side2 A18.out).mono ?_
     (case side1 => exact IsS80.T_ HI0 (nC NB0_278 (nC NB0_289 nN)))
     (case side2 => exact lT HB (gC GE278 (gC GE289 gN)))
     rintro e w29 ⟨rfl, hi, hb, hk⟩
     refine ⟨_, rfl, ?_⟩
     replace HO_290000 := ak (Kd.R_mono (Kd.R_keep (IsS80.apart (show IsS80 w0 _ g s0_0 t300 t301 from IsS80.T_ HI0 (nC NB0_278 (nC NB0_289 nN))) (rG HO_290000) (by decide)) hk (fun _ h => h.2)) (fun _ h => h.1))
     replace HO_290001 := ak (Kd.R_mono (Kd.R_keep (IsS80.apart (show IsS80 w0 _ g s0_0 t300 t301 from IsS80.T_ HI0 (nC NB0_278 (nC NB0_289 nN))) (rG HO_290001) (by decide)) hk (fun _ h => h.2)) (fun _ h => h.1))
     replace BK278 := ak (KeepBut.blk hk (g' := gb278) (o := .cells #[.slice none 0 0, .slice none 0 0] 27 (0, 0)) (bG BK278) NB278_0.out (by simp))
     replace BK289 := ak (KeepBut.blk hk (g' := gb289) (o := .cells #[.slice Ao25 x290000_1.length co25, u290001] 27 (0, 0)) (bG BK289) NB289_0.out (by simp))
     replace HK := ak (KeepBut.trans (kT HK (gC GW278 (gC GW289 gN))) hk (.inl rfl))
     replace HB := ak (hb)
     replace HI0 := ak (hi)
     (try clear hb)
     (try clear hb2)
     (try clear hk)
     (try clear hi)
     obtain ⟨Ao30, co30, eo30⟩ := Kd.R_slice HO_290001.out
     (first | subst eo30 | (injection eo30 with f1_ f2_ f3_; have f4_ := f1_.symm; have f5_ := f3_.symm; clear f1_ f2_ f3_; subst f4_; subst f5_))
     refine hK.out _ _ ⟨bc BK289 0, bc BK289 1⟩ (fun hHeld => ?_)
     clear hK K
     refine nm ?_
     refine on 12 (some 32) (fb 17 8191) HT_ (fun K hK => ?_)
     refine goes_ Try.func71 (by kernel_rfl) rfl #[.agg #[.slice Ao25 x290000_1.length co25, .slice Ao30 x290001_1.length co30], .int .i64 t293, .int .i64 t296, .string t302] (by rfl) rfl rfl (by (try simp only [List.map_toArray, List.map_cons, List.map_nil]); first | done | rfl | (simp only [List.length_drop, List.length_take]; rfl)) ?_
     with_reducible refine (spec_WriteBytes.calls k1 _ _ x290000_1 _ _ x290001_1 t293 t296 t302 t305 t308 t311 _ ?side1 ?side2 ?side3 ?side4 A19.out).mono ?_
     (case side1 => exact cG (Kd.R_reads' HO_290000.out).2.2)
     (case side2 => exact (Kd.R_reads' HO_290000.out).2.1)
     (case side3 => exact cG (Kd.R_reads' HO_290001.out).2.2)
     (case side4 => exact (Kd.R_reads' HO_290001.out).2.1)
     rintro e w31 ⟨v306, v309, rfl, ho0, ho1, hb⟩
     refine ⟨_, rfl, ?_⟩
     replace HO307 := ak (Kd.R_lower (Kd.R_new' ho0 (Kd.R_lt (rG HO_290000))) (keep_size (w := w) (g := g) (row := none) (kT HK (gC GW278 (gC GW289 gN)))))
     replace HO_290000 := ak (Kd.R_elder' (rG HO_290000) (Kd.R_base ho0) hb)
     replace HO310 := ak (Kd.R_lower (Kd.R_new' ho1 (Kd.R_lt (rG HO_290001))) (keep_size (w := w) (g := g) (row := none) (kT HK (gC GW278 (gC GW289 gN)))))
     replace HO_290001 := ak (Kd.R_elder' (rG HO_290001) (Kd.R_base ho1) hb)
     replace BK278 := bB BK278 hb
     replace BK289 := bB BK289 hb
     replace HK := ak (KeepBut.trans (kT HK (gC GW278 (gC GW289 gN))) (KeepBut.of_below hb g none) (.inl rfl))
     replace HB := ak (below_step (lT HB (gC GE278 (gC GE289 gN))) hb)
     replace HI0 := ak (IsS80.below (IsS80.T_ HI0 (nC NB0_278 (nC NB0_289 nN))) hb)
     (try clear hb)
     (try clear hb2)
     (try clear hk)
     (try clear hi)
     (try clear ho0)
     (try clear ho1)
     obtain ⟨Ao32, co32, eo32⟩ := Kd.R_slice HO307.out
     (first | subst eo32 | (injection eo32 with f1_ f2_ f3_; have f4_ := f1_.symm; have f5_ := f3_.symm; clear f1_ f2_ f3_; subst f4_; subst f5_))
     obtain ⟨Ao34, co34, eo34⟩ := Kd.R_slice HO310.out
     (first | subst eo34 | (injection eo34 with f1_ f2_ f3_; have f4_ := f1_.symm; have f5_ := f3_.symm; clear f1_ f2_ f3_; subst f4_; subst f5_))
     refine hK.out _ _ ⟨bc BK289 0, bc BK289 1⟩ (fun hHeld => ?_)
     clear hK K
     refine nm ?_
     refine pu 13 19 (fb 17 16383) HT_ ?_
     refine pu 14 33 (fb 17 32767) HT_ ?_
     refine pu 15 34 (fb 17 65535) HT_ ?_
     refine last_ (i := 16) (N := none) #[t_,t_,t_,t_,t_,t_,t_,t_,t_,t_,t_,t_,t_,t_,t_,t_,t_] rfl rfl (one_of HT_.out (by kernel_rfl)) (by decide) (fun K hK => ?_)
     have hs33 : w31.cell? ⟨gb289, 0, none⟩ = some (.slice Ao25 x290000_1.length co25) := bc BK289 0
     have hfs33 := blk_frozen BK289.out 0
     have hns33_0 := NB278_289.out
     have hms33_0 := NB289_278.out
     have hs35 : w31.cell? ⟨gb289, 1, none⟩ = some (.slice Ao30 x290001_1.length co30) := bc BK289 1
     have hfs35 := blk_frozen BK289.out 1
     have hns35_0 := NB278_289.out
     have hms35_0 := NB289_278.out
     refine skip_ (w1 := ?_) (by rfl) rfl ?_ ?_
     rotate_left
     ·go_simp
      rfl
     refine hK.out _ _ ?_
     clear hK K
     refine done_ (done_of HT_.out (by kernel_rfl)) ?_
     try go_wp2_with (first | ((with_reducible refine gate_callee (f := 73) rfl ?_); refine gl (some 36) Try.func73 #[.pointer (some ⟨g, 0, none⟩), .int .i64 4] ?_; (with_reducible refine (spec_l01Once.calls g s0_0 t303 t304 4 true t313 t314 w0 _ ?side1 ?side2 A20.out).mono ?_); (case side1 => exact IsS80.T_ HI0 (nC NB0_278 (nC NB0_289 nN))); (case side2 => exact lT HB (gC GE278 (gC GE289 gN))); rintro e w36 ⟨rfl, hi, hb, hk⟩; refine ⟨_, rfl, ?_⟩; replace HO_290000 := ak (Kd.R_mono (Kd.R_keep (IsS80.apart (show IsS80 w0 _ g s0_0 t303 t304 from IsS80.T_ HI0 (nC NB0_278 (nC NB0_289 nN))) (rT HO_290000 BK289 (by decide)) (by decide)) hk (fun _ h => h.2)) (fun _ h => h.1)); replace HO_290001 := ak (Kd.R_mono (Kd.R_keep (IsS80.apart (show IsS80 w0 _ g s0_0 t303 t304 from IsS80.T_ HI0 (nC NB0_278 (nC NB0_289 nN))) (rT HO_290001 BK289 (by decide)) (by decide)) hk (fun _ h => h.2)) (fun _ h => h.1)); replace BK278 := ak (KeepBut.blk hk (g' := gb278) (o := .cells #[.slice none 0 0, .slice none 0 0] 27 (0, 0)) (bT BK278 (nC NB278_289 nN)) NB278_0.out (by simp)); replace HO307 := ak (Kd.R_mono (Kd.R_keep (IsS80.apart (show IsS80 w0 _ g s0_0 t303 t304 from IsS80.T_ HI0 (nC NB0_278 (nC NB0_289 nN))) (rT HO307 BK289 (by decide)) (by decide)) hk (fun _ h => h.2)) (fun _ h => h.1)); replace HO310 := ak (Kd.R_mono (Kd.R_keep (IsS80.apart (show IsS80 w0 _ g s0_0 t303 t304 from IsS80.T_ HI0 (nC NB0_278 (nC NB0_289 nN))) (rT HO310 BK289 (by decide)) (by decide)) hk (fun _ h => h.2)) (fun _ h => h.1)); replace BK289 := ak (KeepBut.blk hk (g' := gb289) (o := .cells #[.slice Ao32 t305.length co32, .slice Ao34 t308.length co34] 27 (0, 0)) (bW BK289) NB289_0.out (by simp)); replace HK := ak (KeepBut.trans (kT HK (gC GW278 (gC GW289 gN))) hk (.inl rfl)); replace HB := ak (hb); replace HI0 := ak (hi); (try clear hb); (try clear hk); (try clear hi); have hnb37 := NB289_278.out; have hnc37 := NB278_289.out; have hnb38 := NB289_0.out; have hnc38 := NB0_289.out; obtain ⟨hcz39_0, hcz39_1, hfz39_0, hfz39_1⟩ := bC2 BK289) | ((with_reducible refine gate_callee (f := 36) rfl ?_); refine gl (some 38) Try.func36 #[.agg #[.slice Ao32 t305.length co32, .slice Ao34 t308.length co34]] ?_; (with_reducible refine (spec_FlushDisk.calls k1 _ _ t305 _ _ t308 t315 t318 _ ?side1 ?side2 ?side3 ?side4 A22.out).mono ?_); (case side1 => exact cG (Kd.R_reads' HO307.out).2.2); (case side2 => exact (Kd.R_reads' HO307.out).2.1); (case side3 => exact cG (Kd.R_reads' HO310.out).2.2); (case side4 => exact (Kd.R_reads' HO310.out).2.1); rintro e w40 ⟨v316, v319, rfl, ho0, ho1, hb⟩; refine ⟨_, rfl, ?_⟩; replace HO317 := ak (Kd.R_lower (Kd.R_new' (Kd.R_new' ho0 (Kd.R_lt (rG HO_290000))) (Kd.R_lt (rG HO307))) (keep_size (w := w) (g := g) (row := none) (kT HK (gC GW278 (gC GW289 gN))))); replace HO_290000 := ak (Kd.R_elder' (rG HO_290000) (Kd.R_base ho0) hb); replace HO307 := ak (Kd.R_elder' (rG HO307) (Kd.R_base ho0) hb); replace HO320 := ak (Kd.R_lower (Kd.R_new' (Kd.R_new' ho1 (Kd.R_lt (rG HO_290001))) (Kd.R_lt (rG HO310))) (keep_size (w := w) (g := g) (row := none) (kT HK (gC GW278 (gC GW289 gN))))); replace HO_290001 := ak (Kd.R_elder' (rG HO_290001) (Kd.R_base ho1) hb); replace HO310 := ak (Kd.R_elder' (rG HO310) (Kd.R_base ho1) hb); replace BK278 := bB BK278 hb; replace BK289 := bB BK289 hb; replace HK := ak (KeepBut.trans (kT HK (gC GW278 (gC GW289 gN))) (KeepBut.of_below hb g none) (.inl rfl)); replace HB := ak (below_step (lT HB (gC GE278 (gC GE289 gN))) hb); replace HI0 := ak (IsS80.below (IsS80.T_ HI0 (nC NB0_278 (nC NB0_289 nN))) hb); (try clear hb); (try clear hk); (try clear hi); (try clear ho0); (try clear ho1); obtain ⟨Ao41, co41, eo41⟩ := Kd.R_slice HO317.out; subst eo41; obtain ⟨hcz42_0, hcz42_1, hfz42_0, hfz42_1⟩ := bC2 BK289; obtain ⟨Ao43, co43, eo43⟩ := Kd.R_slice HO320.out; subst eo43))
     go_roundg k1
     case measure => have := HK1.out; omega
     case rel => exact ⟨(wrap64 (x5_1 + 1)), (t313), (t314), (t315), (t318), (.slice Ao41 t315.length co41), (.slice Ao43 t318.length co43), (by first | rfl | (simp; done) | (simp [*]; done)), H', ⟨by have := HK1.out; omega⟩, ⟨by exact Kd.R_mono (rT HO317 BK289 (by decide)) (fun _ hk => trivial)⟩, ⟨by exact Kd.R_mono (rT HO320 BK289 (by decide)) (fun _ hk => trivial)⟩, ⟨by (with_reducible repeat (first | refine blk_drewN ?_ _ | refine blk_drew ?_ | refine blk_alloc ?_ _)); refine blk_far ?_ NB278_289.out _; (with_reducible repeat (first | refine blk_drewN ?_ _ | refine blk_drew ?_ | refine blk_alloc ?_ _)); refine blk_far ?_ NB278_289.out _; (with_reducible repeat (first | refine blk_drewN ?_ _ | refine blk_drew ?_ | refine blk_alloc ?_ _)); exact BK278.out⟩, ⟨bW BK289⟩, ⟨IsS80.T_ HI0 (nC NB0_278 (nC NB0_289 nN))⟩, ⟨kT HK (gC GW278 (gC GW289 gN))⟩, ⟨lT HB (gC GE278 (gC GE289 gN))⟩⟩
    ·replace c21 := Bool.eq_false_iff.mpr c21
     subst c21
     have H1 : (spec_l03Disk.l0 k1 (wrap64 (x5_1 + 1)) s0_0 t313 t314 t305 t308) = some (r1, r2, r3, r4) := by rw [if_neg (show ¬ (false = true) by decide)] at H; exact H
     clear H
     have H := H1
     clear H1
     have H' := Aside0.mk H
     clear H
     try go_wp2_with (first | ((with_reducible refine gate_callee (f := 47) rfl ?_); refine gl (some 15) Try.func47 #[.pointer (some ⟨g, 0, none⟩), .int .i64 9] ?_; (with_reducible refine (spec_l01Below.calls g s0_0 x1001_1 x1002_1 9 t290 t291 t292 w0 _ ?side1 ?side2 A13.out).mono ?_); (case side1 => exact IsS80.T_ HI0 (nC NB0_278 (nC NB0_289 nN))); (case side2 => exact lT HB (gC GE278 (gC GE289 gN))); rintro e w44 ⟨rfl, hi, hb, hk⟩; refine ⟨_, rfl, ?_⟩; replace HO_290000 := ak (Kd.R_mono (Kd.R_keep (IsS80.apart (show IsS80 w0 _ g s0_0 x1001_1 x1002_1 from IsS80.T_ HI0 (nC NB0_278 (nC NB0_289 nN))) (rG HO_290000) (by decide)) hk (fun _ h => h.2)) (fun _ h => h.1)); replace HO_290001 := ak (Kd.R_mono (Kd.R_keep (IsS80.apart (show IsS80 w0 _ g s0_0 x1001_1 x1002_1 from IsS80.T_ HI0 (nC NB0_278 (nC NB0_289 nN))) (rG HO_290001) (by decide)) hk (fun _ h => h.2)) (fun _ h => h.1)); replace BK278 := ak (KeepBut.blk hk (g' := gb278) (o := .cells #[.slice none 0 0, .slice none 0 0] 27 (0, 0)) (bG BK278) NB278_0.out (by simp)); replace BK289 := ak (KeepBut.blk hk (g' := gb289) (o := .cells #[u290000, u290001] 27 (0, 0)) (bG BK289) NB289_0.out (by simp)); replace HK := ak (KeepBut.trans (kT HK (gC GW278 (gC GW289 gN))) hk (.inl rfl)); replace HB := ak (hb); replace HI0 := ak (hi); (try clear hb); (try clear hk); (try clear hi)))
     replace HO_290000 := ak (Kd.R_drew HO_290000.out)
     replace HO_290001 := ak (Kd.R_drew HO_290001.out)
     replace BK278 := ak (blk_drew BK278.out)
     replace BK289 := ak (blk_drew BK289.out)
     replace HI0 := ak (IsS80.drew HI0.out)
     replace HK := ak (keep_drew HK.out)
     replace HB := ak (below_drew1 HB.out)
     obtain ⟨Ao46, co46, eo46⟩ := Kd.R_slice HO_290000.out
     (first | subst eo46 | (injection eo46 with f1_ f2_ f3_; have f4_ := f1_.symm; have f5_ := f3_.symm; clear f1_ f2_ f3_; subst f4_; subst f5_))
     refine start_ (n := 17) (S := fun w' => w'.cell? ⟨gb289, 0, none⟩ = some (.slice Ao46 x290000_1.length co46) ∧ w'.cell? ⟨gb289, 1, none⟩ = some (u290001)) (ds := [16]) #[f_,f_,f_,f_,f_,f_,f_,f_,f_,f_,f_,f_,f_,f_,f_,f_,f_] (by kernel_rfl) rfl rfl ⟨bc BK289 0, bc BK289 1⟩ (fun hHeld => ?_); refine with_tabW spec_l03Disk.tab5 spec_l03Disk.bits5 (fun HT_ HW_ => ?_)
     generalize w44.drew = w45 at HO_290000 HO_290001 BK278 BK289 HI0 HK HB hHeld ⊢
     refine pu 1 21 (fb 17 2) HT_ ?_
     refine pu 2 22 (fb 17 6) HT_ ?_
     refine pu 6 26 (fb 17 70) HT_ ?_
     refine pu 8 28 (fb 17 326) HT_ ?_
     refine pu 9 29 (fb 17 838) HT_ ?_
     refine tk 0 20 (fb 17 839) HT_ HW_ hHeld ?_
     refine tk 3 23 (fb 17 847) HT_ HW_ hHeld ?_
     refine pu 4 24 (fb 17 863) HT_ ?_
     refine on 5 (some 25) (fb 17 895) HT_ (fun K hK => ?_)
     refine goes_ Try.func47 (by kernel_rfl) rfl #[.pointer (some ⟨g, 0, none⟩), .int .i64 (x290000_1.length : Int)] (by rfl) rfl rfl (by (try simp only [List.map_toArray, List.map_cons, List.map_nil]); first | done | rfl | (simp only [List.length_drop, List.length_take]; rfl)) ?_
     with_reducible refine (spec_l01Below.calls g s0_0 t291 t292 (x290000_1.length : Int) t293 t294 t295 w0 _ ?side1 ?side2 A15.out).mono ?_
     (case side1 => exact IsS80.T_ HI0 (nC NB0_278 (nC NB0_289 nN)))
     (case side2 => exact lT HB (gC GE278 (gC GE289 gN)))
     rintro e w47 ⟨rfl, hi, hb, hk⟩
     refine ⟨_, rfl, ?_⟩
     replace HO_290000 := ak (Kd.R_mono (Kd.R_keep (IsS80.apart (show IsS80 w0 _ g s0_0 t291 t292 from IsS80.T_ HI0 (nC NB0_278 (nC NB0_289 nN))) (rG HO_290000) (by decide)) hk (fun _ h => h.2)) (fun _ h => h.1))
     replace HO_290001 := ak (Kd.R_mono (Kd.R_keep (IsS80.apart (show IsS80 w0 _ g s0_0 t291 t292 from IsS80.T_ HI0 (nC NB0_278 (nC NB0_289 nN))) (rG HO_290001) (by decide)) hk (fun _ h => h.2)) (fun _ h => h.1))
     replace BK278 := ak (KeepBut.blk hk (g' := gb278) (o := .cells #[.slice none 0 0, .slice none 0 0] 27 (0, 0)) (bG BK278) NB278_0.out (by simp))
     replace BK289 := ak (KeepBut.blk hk (g' := gb289) (o := .cells #[.slice Ao46 x290000_1.length co46, u290001] 27 (0, 0)) (bG BK289) NB289_0.out (by simp))
     replace HK := ak (KeepBut.trans (kT HK (gC GW278 (gC GW289 gN))) hk (.inl rfl))
     replace HB := ak (hb)
     replace HI0 := ak (hi)
     (try clear hb)
     (try clear hb2)
     (try clear hk)
     (try clear hi)
     refine hK.out _ _ ⟨bc BK289 0, bc BK289 1⟩ (fun hHeld => ?_)
     clear hK K
     refine nm ?_
     refine on 7 (some 27) (fb 17 1023) HT_ (fun K hK => ?_)
     refine goes_ Try.func47 (by kernel_rfl) rfl #[.pointer (some ⟨g, 0, none⟩), .int .i64 40] (by rfl) rfl rfl (by (try simp only [List.map_toArray, List.map_cons, List.map_nil]); first | done | rfl | (simp only [List.length_drop, List.length_take]; rfl)) ?_
     with_reducible refine (spec_l01Below.calls g s0_0 t294 t295 40 t296 t297 t298 w0 _ ?side1 ?side2 A16.out).mono ?_
     (case side1 => exact IsS80.T_ HI0 (nC NB0_278 (nC NB0_289 nN)))
     (case side2 => exact lT HB (gC GE278 (gC GE289 gN)))
     rintro e w48 ⟨rfl, hi, hb, hk⟩
     refine ⟨_, rfl, ?_⟩
     replace HO_290000 := ak (Kd.R_mono (Kd.R_keep (IsS80.apart (show IsS80 w0 _ g s0_0 t294 t295 from IsS80.T_ HI0 (nC NB0_278 (nC NB0_289 nN))) (rG HO_290000) (by decide)) hk (fun _ h => h.2)) (fun _ h => h.1))
     replace HO_290001 := ak (Kd.R_mono (Kd.R_keep (IsS80.apart (show IsS80 w0 _ g s0_0 t294 t295 from IsS80.T_ HI0 (nC NB0_278 (nC NB0_289 nN))) (rG HO_290001) (by decide)) hk (fun _ h => h.2)) (fun _ h => h.1))
     replace BK278 := ak (KeepBut.blk hk (g' := gb278) (o := .cells #[.slice none 0 0, .slice none 0 0] 27 (0, 0)) (bG BK278) NB278_0.out (by simp))
     replace BK289 := ak (KeepBut.blk hk (g' := gb289) (o := .cells #[.slice Ao46 x290000_1.length co46, u290001] 27 (0, 0)) (bG BK289) NB289_0.out (by simp))
     replace HK := ak (KeepBut.trans (kT HK (gC GW278 (gC GW289 gN))) hk (.inl rfl))
     replace HB := ak (hb)
     replace HI0 := ak (hi)
     (try clear hb)
     (try clear hb2)
     (try clear hk)
     (try clear hi)
     refine hK.out _ _ ⟨bc BK289 0, bc BK289 1⟩ (fun hHeld => ?_)
     clear hK K
     refine nm ?_
     refine on 10 (some 30) (fb 17 2047) HT_ (fun K hK => ?_)
     refine goes_ Try.func47 (by kernel_rfl) rfl #[.pointer (some ⟨g, 0, none⟩), .int .i64 50] (by rfl) rfl rfl (by (try simp only [List.map_toArray, List.map_cons, List.map_nil]); first | done | rfl | (simp only [List.length_drop, List.length_take]; rfl)) ?_
     with_reducible refine (spec_l01Below.calls g s0_0 t297 t298 50 t299 t300 t301 w0 _ ?side1 ?side2 A17.out).mono ?_
     (case side1 => exact IsS80.T_ HI0 (nC NB0_278 (nC NB0_289 nN)))
     (case side2 => exact lT HB (gC GE278 (gC GE289 gN)))
     rintro e w49 ⟨rfl, hi, hb, hk⟩
     refine ⟨_, rfl, ?_⟩
     replace HO_290000 := ak (Kd.R_mono (Kd.R_keep (IsS80.apart (show IsS80 w0 _ g s0_0 t297 t298 from IsS80.T_ HI0 (nC NB0_278 (nC NB0_289 nN))) (rG HO_290000) (by decide)) hk (fun _ h => h.2)) (fun _ h => h.1))
     replace HO_290001 := ak (Kd.R_mono (Kd.R_keep (IsS80.apart (show IsS80 w0 _ g s0_0 t297 t298 from IsS80.T_ HI0 (nC NB0_278 (nC NB0_289 nN))) (rG HO_290001) (by decide)) hk (fun _ h => h.2)) (fun _ h => h.1))
     replace BK278 := ak (KeepBut.blk hk (g' := gb278) (o := .cells #[.slice none 0 0, .slice none 0 0] 27 (0, 0)) (bG BK278) NB278_0.out (by simp))
     replace BK289 := ak (KeepBut.blk hk (g' := gb289) (o := .cells #[.slice Ao46 x290000_1.length co46, u290001] 27 (0, 0)) (bG BK289) NB289_0.out (by simp))
     replace HK := ak (KeepBut.trans (kT HK (gC GW278 (gC GW289 gN))) hk (.inl rfl))
     replace HB := ak (hb)
     replace HI0 := ak (hi)
     (try clear hb)
     (try clear hb2)
     (try clear hk)
     (try clear hi)
     refine hK.out _ _ ⟨bc BK289 0, bc BK289 1⟩ (fun hHeld => ?_)
     clear hK K
     refine nm ?_
     refine on 11 (some 31) (fb 17 4095) HT_ (fun K hK => ?_)
     refine goes_ Try.func72 (by kernel_rfl) rfl #[.pointer (some ⟨g, 0, none⟩), .int .i64 t299] (by rfl) rfl rfl (by (try simp only [List.map_toArray, List.map_cons, List.map_nil]); first | done | rfl | (simp only [List.length_drop, List.length_take]; rfl)) ?_
     with_reducible refine (spec_l01Text.calls k1 g s0_0 t300 t301 t299 t302 t303 t304 w0 _ ?side1 ?side2 A18.out).mono ?_
     (case side1 => exact IsS80.T_ HI0 (nC NB0_278 (nC NB0_289 nN)))
     (case side2 => exact lT HB (gC GE278 (gC GE289 gN)))
     rintro e w50 ⟨rfl, hi, hb, hk⟩
     refine ⟨_, rfl, ?_⟩
     replace HO_290000 := ak (Kd.R_mono (Kd.R_keep (IsS80.apart (show IsS80 w0 _ g s0_0 t300 t301 from IsS80.T_ HI0 (nC NB0_278 (nC NB0_289 nN))) (rG HO_290000) (by decide)) hk (fun _ h => h.2)) (fun _ h => h.1))
     replace HO_290001 := ak (Kd.R_mono (Kd.R_keep (IsS80.apart (show IsS80 w0 _ g s0_0 t300 t301 from IsS80.T_ HI0 (nC NB0_278 (nC NB0_289 nN))) (rG HO_290001) (by decide)) hk (fun _ h => h.2)) (fun _ h => h.1))
     replace BK278 := ak (KeepBut.blk hk (g' := gb278) (o := .cells #[.slice none 0 0, .slice none 0 0] 27 (0, 0)) (bG BK278) NB278_0.out (by simp))
     replace BK289 := ak (KeepBut.blk hk (g' := gb289) (o := .cells #[.slice Ao46 x290000_1.length co46, u290001] 27 (0, 0)) (bG BK289) NB289_0.out (by simp))
     replace HK := ak (KeepBut.trans (kT HK (gC GW278 (gC GW289 gN))) hk (.inl rfl))
     replace HB := ak (hb)
     replace HI0 := ak (hi)
     (try clear hb)
     (try clear hb2)
     (try clear hk)
     (try clear hi)
     obtain ⟨Ao51, co51, eo51⟩ := Kd.R_slice HO_290001.out
     (first | subst eo51 | (injection eo51 with f1_ f2_ f3_; have f4_ := f1_.symm; have f5_ := f3_.symm; clear f1_ f2_ f3_; subst f4_; subst f5_))
     refine hK.out _ _ ⟨bc BK289 0, bc BK289 1⟩ (fun hHeld => ?_)
     clear hK K
     refine nm ?_
     refine on 12 (some 32) (fb 17 8191) HT_ (fun K hK => ?_)
     refine goes_ Try.func71 (by kernel_rfl) rfl #[.agg #[.slice Ao46 x290000_1.length co46, .slice Ao51 x290001_1.length co51], .int .i64 t293, .int .i64 t296, .string t302] (by rfl) rfl rfl (by (try simp only [List.map_toArray, List.map_cons, List.map_nil]); first | done | rfl | (simp only [List.length_drop, List.length_take]; rfl)) ?_
     with_reducible refine (spec_WriteBytes.calls k1 _ _ x290000_1 _ _ x290001_1 t293 t296 t302 t305 t308 t311 _ ?side1 ?side2 ?side3 ?side4 A19.out).mono ?_
     (case side1 => exact cG (Kd.R_reads' HO_290000.out).2.2)
     (case side2 => exact (Kd.R_reads' HO_290000.out).2.1)
     (case side3 => exact cG (Kd.R_reads' HO_290001.out).2.2)
     (case side4 => exact (Kd.R_reads' HO_290001.out).2.1)
     rintro e w52 ⟨v306, v309, rfl, ho0, ho1, hb⟩
     refine ⟨_, rfl, ?_⟩
     replace HO307 := ak (Kd.R_lower (Kd.R_new' ho0 (Kd.R_lt (rG HO_290000))) (keep_size (w := w) (g := g) (row := none) (kT HK (gC GW278 (gC GW289 gN)))))
     replace HO_290000 := ak (Kd.R_elder' (rG HO_290000) (Kd.R_base ho0) hb)
     replace HO310 := ak (Kd.R_lower (Kd.R_new' ho1 (Kd.R_lt (rG HO_290001))) (keep_size (w := w) (g := g) (row := none) (kT HK (gC GW278 (gC GW289 gN)))))
     replace HO_290001 := ak (Kd.R_elder' (rG HO_290001) (Kd.R_base ho1) hb)
     replace BK278 := bB BK278 hb
     replace BK289 := bB BK289 hb
     replace HK := ak (KeepBut.trans (kT HK (gC GW278 (gC GW289 gN))) (KeepBut.of_below hb g none) (.inl rfl))
     replace HB := ak (below_step (lT HB (gC GE278 (gC GE289 gN))) hb)
     replace HI0 := ak (IsS80.below (IsS80.T_ HI0 (nC NB0_278 (nC NB0_289 nN))) hb)
     (try clear hb)
     (try clear hb2)
     (try clear hk)
     (try clear hi)
     (try clear ho0)
     (try clear ho1)
     obtain ⟨Ao53, co53, eo53⟩ := Kd.R_slice HO307.out
     (first | subst eo53 | (injection eo53 with f1_ f2_ f3_; have f4_ := f1_.symm; have f5_ := f3_.symm; clear f1_ f2_ f3_; subst f4_; subst f5_))
     obtain ⟨Ao55, co55, eo55⟩ := Kd.R_slice HO310.out
     (first | subst eo55 | (injection eo55 with f1_ f2_ f3_; have f4_ := f1_.symm; have f5_ := f3_.symm; clear f1_ f2_ f3_; subst f4_; subst f5_))
     refine hK.out _ _ ⟨bc BK289 0, bc BK289 1⟩ (fun hHeld => ?_)
     clear hK K
     refine nm ?_
     refine pu 13 19 (fb 17 16383) HT_ ?_
     refine pu 14 33 (fb 17 32767) HT_ ?_
     refine pu 15 34 (fb 17 65535) HT_ ?_
     refine last_ (i := 16) (N := none) #[t_,t_,t_,t_,t_,t_,t_,t_,t_,t_,t_,t_,t_,t_,t_,t_,t_] rfl rfl (one_of HT_.out (by kernel_rfl)) (by decide) (fun K hK => ?_)
     have hs54 : w52.cell? ⟨gb289, 0, none⟩ = some (.slice Ao46 x290000_1.length co46) := bc BK289 0
     have hfs54 := blk_frozen BK289.out 0
     have hns54_0 := NB278_289.out
     have hms54_0 := NB289_278.out
     have hs56 : w52.cell? ⟨gb289, 1, none⟩ = some (.slice Ao51 x290001_1.length co51) := bc BK289 1
     have hfs56 := blk_frozen BK289.out 1
     have hns56_0 := NB278_289.out
     have hms56_0 := NB289_278.out
     refine skip_ (w1 := ?_) (by rfl) rfl ?_ ?_
     rotate_left
     ·go_simp
      rfl
     refine hK.out _ _ ?_
     clear hK K
     refine done_ (done_of HT_.out (by kernel_rfl)) ?_
     try go_wp2_with (first | ((with_reducible refine gate_callee (f := 73) rfl ?_); refine gl (some 36) Try.func73 #[.pointer (some ⟨g, 0, none⟩), .int .i64 4] ?_; (with_reducible refine (spec_l01Once.calls g s0_0 t303 t304 4 false t313 t314 w0 _ ?side1 ?side2 A20.out).mono ?_); (case side1 => exact IsS80.T_ HI0 (nC NB0_278 (nC NB0_289 nN))); (case side2 => exact lT HB (gC GE278 (gC GE289 gN))); rintro e w57 ⟨rfl, hi, hb, hk⟩; refine ⟨_, rfl, ?_⟩; replace HO_290000 := ak (Kd.R_mono (Kd.R_keep (IsS80.apart (show IsS80 w0 _ g s0_0 t303 t304 from IsS80.T_ HI0 (nC NB0_278 (nC NB0_289 nN))) (rT HO_290000 BK289 (by decide)) (by decide)) hk (fun _ h => h.2)) (fun _ h => h.1)); replace HO_290001 := ak (Kd.R_mono (Kd.R_keep (IsS80.apart (show IsS80 w0 _ g s0_0 t303 t304 from IsS80.T_ HI0 (nC NB0_278 (nC NB0_289 nN))) (rT HO_290001 BK289 (by decide)) (by decide)) hk (fun _ h => h.2)) (fun _ h => h.1)); replace BK278 := ak (KeepBut.blk hk (g' := gb278) (o := .cells #[.slice none 0 0, .slice none 0 0] 27 (0, 0)) (bT BK278 (nC NB278_289 nN)) NB278_0.out (by simp)); replace HO307 := ak (Kd.R_mono (Kd.R_keep (IsS80.apart (show IsS80 w0 _ g s0_0 t303 t304 from IsS80.T_ HI0 (nC NB0_278 (nC NB0_289 nN))) (rT HO307 BK289 (by decide)) (by decide)) hk (fun _ h => h.2)) (fun _ h => h.1)); replace HO310 := ak (Kd.R_mono (Kd.R_keep (IsS80.apart (show IsS80 w0 _ g s0_0 t303 t304 from IsS80.T_ HI0 (nC NB0_278 (nC NB0_289 nN))) (rT HO310 BK289 (by decide)) (by decide)) hk (fun _ h => h.2)) (fun _ h => h.1)); replace BK289 := ak (KeepBut.blk hk (g' := gb289) (o := .cells #[.slice Ao53 t305.length co53, .slice Ao55 t308.length co55] 27 (0, 0)) (bW BK289) NB289_0.out (by simp)); replace HK := ak (KeepBut.trans (kT HK (gC GW278 (gC GW289 gN))) hk (.inl rfl)); replace HB := ak (hb); replace HI0 := ak (hi); (try clear hb); (try clear hk); (try clear hi)))
     go_roundg k1
     case measure => have := HK1.out; omega
     case rel => exact ⟨(wrap64 (x5_1 + 1)), (t313), (t314), (t305), (t308), (.slice Ao53 t305.length co53), (.slice Ao55 t308.length co55), (by first | rfl | (simp; done) | (simp [*]; done)), H', ⟨by have := HK1.out; omega⟩, ⟨by (with_reducible repeat (first | apply Kd.R_alloc | apply Kd.R_drewN | apply Kd.R_drew)); exact Kd.R_mono HO307.out (fun _ hk => trivial)⟩, ⟨by (with_reducible repeat (first | apply Kd.R_alloc | apply Kd.R_drewN | apply Kd.R_drew)); exact Kd.R_mono HO310.out (fun _ hk => trivial)⟩, ⟨bG BK278⟩, ⟨bG BK289⟩, ⟨IsS80.T_ HI0 (nC NB0_278 (nC NB0_289 nN))⟩, ⟨kT HK (gC GW278 (gC GW289 gN))⟩, ⟨lT HB (gC GE278 (gC GE289 gN))⟩⟩
   ·rw [if_neg c14] at H
    have c14b0 : decide (x5_1 < t290) = false := decide_eq_false c14
    clear c14
    simp only [Option.some.injEq, Prod.mk.injEq] at H
    obtain ⟨rfl, rfl, rfl, rfl⟩ := H
    go_wp2_with (first | ((with_reducible refine gate_callee (f := 47) rfl ?_); refine gl (some 15) Try.func47 #[.pointer (some ⟨g, 0, none⟩), .int .i64 9] ?_; (with_reducible refine (spec_l01Below.calls g s0_0 x1001_1 x1002_1 9 t290 t291 t292 w0 _ ?side1 ?side2 A13.out).mono ?_); (case side1 => exact IsS80.T_ HI0 (nC NB0_278 (nC NB0_289 nN))); (case side2 => exact lT HB (gC GE278 (gC GE289 gN))); rintro e w58 ⟨rfl, hi, hb, hk⟩; refine ⟨_, rfl, ?_⟩; replace HO_290000 := ak (Kd.R_mono (Kd.R_keep (IsS80.apart (show IsS80 w0 _ g s0_0 x1001_1 x1002_1 from IsS80.T_ HI0 (nC NB0_278 (nC NB0_289 nN))) (rG HO_290000) (by decide)) hk (fun _ h => h.2)) (fun _ h => h.1)); replace HO_290001 := ak (Kd.R_mono (Kd.R_keep (IsS80.apart (show IsS80 w0 _ g s0_0 x1001_1 x1002_1 from IsS80.T_ HI0 (nC NB0_278 (nC NB0_289 nN))) (rG HO_290001) (by decide)) hk (fun _ h => h.2)) (fun _ h => h.1)); replace BK278 := ak (KeepBut.blk hk (g' := gb278) (o := .cells #[.slice none 0 0, .slice none 0 0] 27 (0, 0)) (bG BK278) NB278_0.out (by simp)); replace BK289 := ak (KeepBut.blk hk (g' := gb289) (o := .cells #[u290000, u290001] 27 (0, 0)) (bG BK289) NB289_0.out (by simp)); replace HK := ak (KeepBut.trans (kT HK (gC GW278 (gC GW289 gN))) hk (.inl rfl)); replace HB := ak (hb); replace HI0 := ak (hi); (try clear hb); (try clear hk); (try clear hi); have hnb59 := NB289_278.out; have hnc59 := NB278_289.out; have hnb60 := NB289_0.out; have hnc60 := NB0_289.out; obtain ⟨hcz61_0, hcz61_1, hfz61_0, hfz61_1⟩ := bC2 BK289; obtain ⟨Ao62, co62, eo62⟩ := Kd.R_slice HO_290000.out; subst eo62; have hnb63 := NB278_0.out; have hnc63 := NB0_278.out; obtain ⟨hcz64_0, hcz64_1, hfz64_0, hfz64_1⟩ := bC2 BK278; obtain ⟨Ao65, co65, eo65⟩ := Kd.R_slice HO_290001.out; subst eo65))
    refine bodyPost_ret (results_cell_row rfl _ _ gb278 27 #[.slice Ao62 x290000_1.length co62, .slice Ao65 x290001_1.length co65] (0, 0) _ rfl (bW BK278) Try.underlying27 rfl (by kernel_rfl)) rfl ?_
    exact ⟨_, _, ew, by exact Kd.R_mono (rT HO_290000 BK278 (by decide)) (fun _ hk => trivial), by exact Kd.R_mono (rT HO_290001 BK278 (by decide)) (fun _ hk => trivial), IsS80.T_ HI0 (nC NB0_278 (nC NB0_289 nN)), lT HB (gC GE278 (gC GE289 gN)), kT HK (gC GW278 (gC GW289 gN))⟩

end Go.Proofs.Ytjpngldnkgofaaa.PFnDisksTold
