-- Written for this claim by a program of mine (a turned copy of the kit's print): functions as plain Lean, and their contracts. Lean checks it.
import Derived.Test.YtjpngldnkgofaaaPFnCrashesx0
import Derived.Test.YtjpngldnkgofaaaPFnCrashesx4
import Derived.Test.YtjpngldnkgofaaaPFnCrashesx5
import Derived.Test.YtjpngldnkgofaaaPFnCrashesx7
import Derived.Test.YtjpngldnkgofaaaPFnCrashesx8
import Derived.Test.YtjpngldnkgofaaaVFnCrashes1
namespace Go.Proofs.Ytjpngldnkgofaaa.PFnCrashes
open Go.RowKit Go.Proofs.YtjpngldnkgofaaaW.PrintWords Go.Proofs.YtjpngldnkgofaaaW.PrintLast Go.Proofs.YtjpngldnkgofaaaW.PrintMore
attribute [local go_sem] max2_int min2_int max_two min_two max_three min_three max_four min_four   -- for this text's walks alone
set_option linter.unusedVariables false
set_option linter.unusedSimpArgs false

/-! ### spec_l03Disk: function 44 -/
def spec_l03Disk.l0 : Nat → Int → List Int → Int → Int → List ByteArray → List (S63) → Option (List ByteArray × (List (S63)) × Int × Int)
 | 0, _, _, _, _, _, _ => none
 | k + 1, x5, x1000, x1001, x1002, x242000, x242001 => (spec_l01Below.f x1000 x1001 x1002 9).bind fun bt242 => (if x5 < bt242.1 then ((spec_l01Below.f x1000 bt242.2.1 bt242.2.2 (x242000.length : Int)).bind fun bt245 => ((spec_l01Below.f x1000 bt245.2.1 bt245.2.2 40).bind fun bt248 => ((spec_l01Below.f x1000 bt248.2.1 bt248.2.2 50).bind fun bt251 => ((spec_l01Text.f k x1000 bt251.2.1 bt251.2.2 bt251.1).bind fun bt254 => ((spec_WriteBytes.f k x242000 x242001 bt245.1 bt248.1 bt254.1).bind fun bt257 => ((spec_l01Once.f x1000 bt254.2.1 bt254.2.2 4).bind fun bt264 => (if bt264.1 = true then ((spec_FlushDisk.f k bt257.1 bt257.2.1).bind fun bt267 => (spec_l03Disk.l0 k (wrap64 (x5 + 1)) x1000 bt264.2.1 bt264.2.2 bt267.1 bt267.2)) else (spec_l03Disk.l0 k (wrap64 (x5 + 1)) x1000 bt264.2.1 bt264.2.2 bt257.1 bt257.2.1)))))))) else (some (x242000, x242001, bt242.2.1, bt242.2.2)))
def spec_l03Disk.f (k : Nat) (s0_0 : List Int) (s0_1 : Int) (s0_2 : Int) : Option (List ByteArray × (List (S63)) × Int × Int) := (spec_l01Below.f s0_0 s0_1 s0_2 6).bind fun bt231 => ((spec_DiskNew.f k (wrap64 (1 + bt231.1))).bind fun bt234 => (spec_l03Disk.l0 k 0 s0_0 bt231.2.1 bt231.2.2 bt234.1 bt234.2.1))
theorem spec_l03Disk.mono_l : ∀ k, (∀ y0 y1 y2 y3 y4 y5, LeO (spec_l03Disk.l0 k y0 y1 y2 y3 y4 y5) (spec_l03Disk.l0 (k + 1) y0 y1 y2 y3 y4 y5))
 | 0 => fun _ _ _ _ _ _ r h => by simp [spec_l03Disk.l0] at h
 | k + 1 => by
  have ih0 := spec_l03Disk.mono_l k
  ·intro y0 y1 y2 y3 y4 y5
   unfold spec_l03Disk.l0
   repeat' first
   | (with_reducible exact ih0 _ _ _ _ _ _)
   | (with_reducible exact spec_DiskNew.mono _ _)
   | (with_reducible exact spec_FlushDisk.mono _ _ _)
   | (with_reducible exact spec_WriteBytes.mono _ _ _ _ _ _)
   | (with_reducible exact spec_l01Text.mono _ _ _ _ _)
   | (with_reducible exact LeO.refl _)
   | (with_reducible exact LeO.none _)
   | (with_reducible refine LeO.ite ?_ ?_)
   | (with_reducible refine LeO.bind ?_ (fun _ => ?_))
   | exact ih0 _ _ _ _ _ _
   | exact spec_DiskNew.mono _ _
   | exact spec_FlushDisk.mono _ _ _
   | exact spec_WriteBytes.mono _ _ _ _ _ _
   | exact spec_l01Text.mono _ _ _ _ _
   | exact LeO.none _
   | refine LeO.ite ?_ ?_
   | refine LeO.bind ?_ (fun _ => ?_)
theorem spec_l03Disk.mono : ∀ a0 a1 a2 k, LeO (spec_l03Disk.f k a0 a1 a2) (spec_l03Disk.f (k + 1) a0 a1 a2) := by
 intro a0 a1 a2 k
 have ih0 := spec_l03Disk.mono_l k
 unfold spec_l03Disk.f
 repeat' first
   | (with_reducible exact ih0 _ _ _ _ _ _)
   | (with_reducible exact spec_DiskNew.mono _ _)
   | (with_reducible exact spec_FlushDisk.mono _ _ _)
   | (with_reducible exact spec_WriteBytes.mono _ _ _ _ _ _)
   | (with_reducible exact spec_l01Text.mono _ _ _ _ _)
   | (with_reducible exact LeO.refl _)
   | (with_reducible exact LeO.none _)
   | (with_reducible refine LeO.ite ?_ ?_)
   | (with_reducible refine LeO.bind ?_ (fun _ => ?_))
   | exact ih0 _ _ _ _ _ _
   | exact spec_DiskNew.mono _ _
   | exact spec_FlushDisk.mono _ _ _
   | exact spec_WriteBytes.mono _ _ _ _ _ _
   | exact spec_l01Text.mono _ _ _ _ _
   | exact LeO.none _
   | refine LeO.ite ?_ ?_
   | refine LeO.bind ?_ (fun _ => ?_)
def spec_l03Disk.T5 : Bool × List (List Nat × List Nat) := (true, [([], []), ([], []), ([], []), ([2], [2]), ([3], [3]), ([1, 4], [1, 4]), ([], []), ([6, 5], [6]), ([], []), ([], []), ([9, 7], [9]), ([8, 10, 10], [8, 10]), ([0, 5, 7, 11, 11], [0, 5, 7, 11]), ([12], [12]), ([13], [13]), ([13], [13]), ([14, 12, 0, 1, 2, 3, 4, 5, 6, 7, 8, 9, 10, 11, 12, 13, 14], [14])])
def spec_l03Disk.B5 : List Nat := [0, 0, 0, 4, 12, 30, 0, 126, 0, 0, 766, 2046, 4095, 8191, 16383, 16383, 32767]
theorem spec_l03Disk.tab5 : rtab .any (opsOf Try.f44 5) = spec_l03Disk.T5 := by kernel_rfl
theorem spec_l03Disk.bits5 : waitsOk spec_l03Disk.T5.2 spec_l03Disk.B5 = true := by kernel_rfl
set_option maxHeartbeats 8000000 in
set_option maxRecDepth 100000 in
theorem spec_l03Disk.calls (k : Nat) (g : Nat) (s0_0 : List Int) (s0_1 : Int) (s0_2 : Int) (r1 : List ByteArray) (r2 : List (S63)) (r3 : Int) (r4 : Int) (w0 w : World) (hI : IsS80 w0 w g s0_0 s0_1 s0_2) (hB : Below w0.heap.size w0 w) (h : spec_l03Disk.f k s0_0 s0_1 s0_2 = some (r1, r2, r3, r4)) :
  Calls Try.prog 44 #[.pointer (some ⟨g, 0, none⟩)] w fun e w' => ∃ v0_ v1_ : Value, e = .returned (.agg #[v0_, v1_]) ∧ Kd.R Kd.string 9 w' w.heap.size (fun _ => True) v0_ r1 ∧ Kd.R k63 63 w' w.heap.size (fun _ => True) v1_ r2 ∧ IsS80 w0 w' g s0_0 r3 r4 ∧ Below w0.heap.size w0 w' ∧ KeepBut w w' g none := by
 have hu27 := Try.underlying27
 have HI0 := Aside0.mk hI
 have HK := ak (KeepBut.refl w g none)
 have HL := Aside0.mk hB.size
 clear hI
 have HW0 := Aside0.mk hB.size
 have HB := Aside0.mk hB
 clear hB
 have H : ((spec_l01Below.f s0_0 s0_1 s0_2 6).bind fun bt231 => ((spec_DiskNew.f k (wrap64 (1 + bt231.1))).bind fun bt234 => (spec_l03Disk.l0 k 0 s0_0 bt231.2.1 bt231.2.2 bt234.1 bt234.2.1))) = some (r1, r2, r3, r4) := h
 clear h
 replace H := Option.bind_eq_some_iff.mp H
 obtain ⟨⟨t231, t232, t233⟩, A20, H⟩ := H
 replace H : ((spec_DiskNew.f k (wrap64 (1 + t231))).bind fun bt234 => (spec_l03Disk.l0 k 0 s0_0 t232 t233 bt234.1 bt234.2.1)) = some (r1, r2, r3, r4) := H
 have A2 := Aside0.mk A20
 clear A20
 replace H := Option.bind_eq_some_iff.mp H
 obtain ⟨⟨t234, t237, t240⟩, A30, H⟩ := H
 replace H : (spec_l03Disk.l0 k 0 s0_0 t232 t233 t234 t237) = some (r1, r2, r3, r4) := H
 have A3 := Aside0.mk A30
 clear A30
 have H' := Aside0.mk H
 clear H
 go_enter Try.func44, Try.ntmps44
 go_wp2_with (first | ((with_reducible refine gate_dst (N := 2) rfl ?_); refine bx 2 #[.slice none 0 0, .slice none 0 0] 27 ?_; intro gb230 hg w4 hbox hb; replace HB := ak (below_step (lT HB gN) hb); replace BK230 := ak (hbox); replace GW230 := ak ((by rw [hg]; exact (keep_size (w := w) (g := g) (row := none) (kT HK gN)) : w.heap.size ≤ gb230)); replace GE230 := ak ((Nat.le_trans HW0.out (by rw [hg]; exact (keep_size (w := w) (g := g) (row := none) (kT HK gN)) : w.heap.size ≤ gb230) : w0.heap.size ≤ gb230)); replace HK := ak (KeepBut.trans (kT HK gN) (KeepBut.of_below hb g none) (.inl rfl)); replace NB0_230 := ak ((by rw [hg]; exact Nat.ne_of_lt (IsS80.lt (show IsS80 w0 _ g s0_0 s0_1 s0_2 from IsS80.T_ HI0 nN)) : g ≠ gb230)); replace NB230_0 := ak ((by rw [hg]; exact Nat.ne_of_gt (IsS80.lt (show IsS80 w0 _ g s0_0 s0_1 s0_2 from IsS80.T_ HI0 nN)) : gb230 ≠ g)); replace HI0 := ak (IsS80.below (IsS80.T_ HI0 nN) hb); clear hb hbox hg) | ((with_reducible refine gate_callee (f := 47) rfl ?_); refine gl (some 8) Try.func47 #[.pointer (some ⟨g, 0, none⟩), .int .i64 6] ?_; (with_reducible refine (spec_l01Below.calls g s0_0 s0_1 s0_2 6 t231 t232 t233 w0 _ ?side1 ?side2 A2.out).mono ?_); (case side1 => exact IsS80.T_ HI0 (nC NB0_230 nN)); (case side2 => exact lT HB (gC GE230 gN)); rintro e w5 ⟨rfl, hi, hb, hk⟩; refine ⟨_, rfl, ?_⟩; replace BK230 := ak (KeepBut.blk hk (g' := gb230) (o := .cells #[.slice none 0 0, .slice none 0 0] 27 (0, 0)) (bG BK230) NB230_0.out (by simp)); replace HK := ak (KeepBut.trans (kT HK (gC GW230 gN)) hk (.inl rfl)); replace HB := ak (hb); replace HI0 := ak (hi); (try clear hb); (try clear hk); (try clear hi)) | ((with_reducible refine gate_callee (f := 67) rfl ?_); refine gl (some 10) Try.func67 #[.int .i64 (wrap64 (1 + t231))] ?_; (with_reducible refine (spec_DiskNew.calls k (wrap64 (1 + t231)) t234 t237 t240 _ A3.out).mono ?_); rintro e w6 ⟨v235, v238, rfl, ho0, ho1, hb⟩; refine ⟨_, rfl, ?_⟩; replace HO236 := ak (Kd.R_lower ho0 (keep_size (w := w) (g := g) (row := none) (kT HK (gC GW230 gN)))); replace HO239 := ak (Kd.R_lower ho1 (keep_size (w := w) (g := g) (row := none) (kT HK (gC GW230 gN)))); replace BK230 := bB BK230 hb; replace HK := ak (KeepBut.trans (kT HK (gC GW230 gN)) (KeepBut.of_below hb g none) (.inl rfl)); replace HB := ak (below_step (lT HB (gC GE230 gN)) hb); replace HI0 := ak (IsS80.below (IsS80.T_ HI0 (nC NB0_230 nN)) hb); (try clear hb); (try clear hk); (try clear hi); (try clear ho0); (try clear ho1)) | ((with_reducible refine gate_dst (N := 3) rfl ?_); refine bx 3 #[.slice none 0 0, .slice none 0 0] 27 ?_; intro gb241 hg w7 hbox hb; replace HO236 := rB HO236 hb; replace HO239 := rB HO239 hb; replace HB := ak (below_step (lT HB (gC GE230 gN)) hb); replace BK241 := ak (hbox); replace GW241 := ak ((by rw [hg]; exact (keep_size (w := w) (g := g) (row := none) (kT HK (gC GW230 gN))) : w.heap.size ≤ gb241)); replace GE241 := ak ((Nat.le_trans HW0.out (by rw [hg]; exact (keep_size (w := w) (g := g) (row := none) (kT HK (gC GW230 gN))) : w.heap.size ≤ gb241) : w0.heap.size ≤ gb241)); replace HK := ak (KeepBut.trans (kT HK (gC GW230 gN)) (KeepBut.of_below hb g none) (.inl rfl)); replace NB230_241 := ak (nl hg (bG BK230)); replace NB241_230 := ak (ng hg (bG BK230)); replace BK230 := bB BK230 hb; replace NB0_241 := ak ((by rw [hg]; exact Nat.ne_of_lt (IsS80.lt (show IsS80 w0 _ g s0_0 t232 t233 from IsS80.T_ HI0 (nC NB0_230 nN))) : g ≠ gb241)); replace NB241_0 := ak ((by rw [hg]; exact Nat.ne_of_gt (IsS80.lt (show IsS80 w0 _ g s0_0 t232 t233 from IsS80.T_ HI0 (nC NB0_230 nN))) : gb241 ≠ g)); replace HI0 := ak (IsS80.below (IsS80.T_ HI0 (nC NB0_230 nN)) hb); clear hb hbox hg; obtain ⟨Ao8, co8, eo8⟩ := Kd.R_slice HO236.out; subst eo8; have hnb9 := NB241_230.out; have hnc9 := NB230_241.out; have hnb10 := NB241_0.out; have hnc10 := NB0_241.out; obtain ⟨hcz11_0, hcz11_1, hfz11_0, hfz11_1⟩ := bC2 BK241; obtain ⟨Ao12, co12, eo12⟩ := Kd.R_slice HO239.out; subst eo12))
 go_loopg [5] k (fun kq v5 w' => ∃ (x5_1 : Int) (x1001_1 : Int) (x1002_1 : Int) (x242000_1 : List ByteArray) (x242001_1 : List (S63)) (u242000 : Value) (u242001 : Value), v5 = .int .i64 x5_1 ∧ Aside0 (spec_l03Disk.l0 kq x5_1 s0_0 x1001_1 x1002_1 x242000_1 x242001_1 = some (r1, r2, r3, r4)) ∧ Aside0 (kq ≤ k) ∧ Aside0 (Kd.R Kd.string 9 w' w.heap.size (fun _ => True) u242000 x242000_1) ∧ Aside0 (Kd.R k63 63 w' w.heap.size (fun _ => True) u242001 x242001_1) ∧ Aside0 (w'.heap[gb230]? = some (.cells #[(.slice none 0 0), (.slice none 0 0)] 27 (0, 0))) ∧ Aside0 (w'.heap[gb241]? = some (.cells #[u242000, u242001] 27 (0, 0))) ∧ Aside0 (IsS80 w0 w' g s0_0 x1001_1 x1002_1) ∧ Aside0 (KeepBut w w' g none) ∧ Aside0 (Below w0.heap.size w0 w'))
 case atStart => exact ⟨(0), (t232), (t233), (t234), (t237), (.slice Ao8 t234.length co8), (.slice Ao12 t237.length co12), (by first | rfl | (simp; done) | (simp [*]; done)), H', ⟨Nat.le_refl _⟩, ⟨by (with_reducible repeat (first | apply Kd.R_alloc | apply Kd.R_drewN | apply Kd.R_drew)); exact Kd.R_mono (Kd.R_far (p := ⟨gb241, 1, none⟩) (Kd.R_far (p := ⟨gb241, 0, none⟩) (Kd.R_types HO236.out BK241.out (by decide)) (fun _ hk => hk.2) (.slice Ao8 t234.length co8)) (fun _ hk => hk.2) (.slice Ao12 t237.length co12)) (fun _ hk => trivial)⟩, ⟨by (with_reducible repeat (first | apply Kd.R_alloc | apply Kd.R_drewN | apply Kd.R_drew)); exact Kd.R_mono (Kd.R_far (p := ⟨gb241, 1, none⟩) (Kd.R_far (p := ⟨gb241, 0, none⟩) (Kd.R_types HO239.out BK241.out (by decide)) (fun _ hk => hk.2) (.slice Ao8 t234.length co8)) (fun _ hk => hk.2) (.slice Ao12 t237.length co12)) (fun _ hk => trivial)⟩, ⟨by (with_reducible repeat (first | refine blk_drewN ?_ _ | refine blk_drew ?_ | refine blk_alloc ?_ _)); refine blk_far ?_ NB230_241.out _; (with_reducible repeat (first | refine blk_drewN ?_ _ | refine blk_drew ?_ | refine blk_alloc ?_ _)); refine blk_far ?_ NB230_241.out _; (with_reducible repeat (first | refine blk_drewN ?_ _ | refine blk_drew ?_ | refine blk_alloc ?_ _)); exact BK230.out⟩, ⟨by (with_reducible repeat (first | refine blk_drewN ?_ _ | refine blk_drew ?_ | refine blk_alloc ?_ _)); refine blk_put (cs := #[.slice Ao8 t234.length co8, .slice none 0 0]) ?_ 1 _ rfl; (with_reducible repeat (first | refine blk_drewN ?_ _ | refine blk_drew ?_ | refine blk_alloc ?_ _)); refine blk_put (cs := #[.slice none 0 0, .slice none 0 0]) ?_ 0 _ rfl; (with_reducible repeat (first | refine blk_drewN ?_ _ | refine blk_drew ?_ | refine blk_alloc ?_ _)); exact BK241.out⟩, ⟨IsS80.T_ HI0 (nC NB0_230 (nC NB0_241 nN))⟩, ⟨kT HK (gC GW230 (gC GW241 gN))⟩, ⟨lT HB (gC GE230 (gC GE241 gN))⟩⟩
 case round =>
  clear H'
  try clear c1
  try clear p2
  try clear c4
  try clear c6
  try clear p6
  try clear c9
  try clear c10
  try clear hcz11_0
  try clear hcz11_1
  try clear hfz11_0
  try clear hfz11_1
  obtain ⟨x5_1, x1001_1, x1002_1, x242000_1, x242001_1, u242000, u242001, rfl, HA, HK1, HO_242000, HO_242001, BK230, BK241, HI0, HK, HB⟩ := hrel
  cases gk with
  | zero => exact absurd HA.out (by simp [spec_l03Disk.l0])
  | succ k1 =>
   have H := HA.out
   clear HA
   simp only [spec_l03Disk.l0] at H
   replace H := Option.bind_eq_some_iff.mp H
   obtain ⟨⟨t242, t243, t244⟩, A130, H⟩ := H
   replace H : (if x5_1 < t242 then ((spec_l01Below.f s0_0 t243 t244 (x242000_1.length : Int)).bind fun bt245 => ((spec_l01Below.f s0_0 bt245.2.1 bt245.2.2 40).bind fun bt248 => ((spec_l01Below.f s0_0 bt248.2.1 bt248.2.2 50).bind fun bt251 => ((spec_l01Text.f k1 s0_0 bt251.2.1 bt251.2.2 bt251.1).bind fun bt254 => ((spec_WriteBytes.f k1 x242000_1 x242001_1 bt245.1 bt248.1 bt254.1).bind fun bt257 => ((spec_l01Once.f s0_0 bt254.2.1 bt254.2.2 4).bind fun bt264 => (if bt264.1 = true then ((spec_FlushDisk.f k1 bt257.1 bt257.2.1).bind fun bt267 => (spec_l03Disk.l0 k1 (wrap64 (x5_1 + 1)) s0_0 bt264.2.1 bt264.2.2 bt267.1 bt267.2)) else (spec_l03Disk.l0 k1 (wrap64 (x5_1 + 1)) s0_0 bt264.2.1 bt264.2.2 bt257.1 bt257.2.1)))))))) else (some (x242000_1, x242001_1, t243, t244))) = some (r1, r2, r3, r4) := H
   have A13 := Aside0.mk A130
   clear A130
   by_cases c14 : x5_1 < t242
   ·rw [if_pos c14] at H
    have c14b0 : decide (x5_1 < t242) = true := decide_eq_true c14
    clear c14
    replace H := Option.bind_eq_some_iff.mp H
    obtain ⟨⟨t245, t246, t247⟩, A150, H⟩ := H
    replace H : ((spec_l01Below.f s0_0 t246 t247 40).bind fun bt248 => ((spec_l01Below.f s0_0 bt248.2.1 bt248.2.2 50).bind fun bt251 => ((spec_l01Text.f k1 s0_0 bt251.2.1 bt251.2.2 bt251.1).bind fun bt254 => ((spec_WriteBytes.f k1 x242000_1 x242001_1 t245 bt248.1 bt254.1).bind fun bt257 => ((spec_l01Once.f s0_0 bt254.2.1 bt254.2.2 4).bind fun bt264 => (if bt264.1 = true then ((spec_FlushDisk.f k1 bt257.1 bt257.2.1).bind fun bt267 => (spec_l03Disk.l0 k1 (wrap64 (x5_1 + 1)) s0_0 bt264.2.1 bt264.2.2 bt267.1 bt267.2)) else (spec_l03Disk.l0 k1 (wrap64 (x5_1 + 1)) s0_0 bt264.2.1 bt264.2.2 bt257.1 bt257.2.1))))))) = some (r1, r2, r3, r4) := H
    have A15 := Aside0.mk A150
    clear A150
    replace H := Option.bind_eq_some_iff.mp H
    obtain ⟨⟨t248, t249, t250⟩, A160, H⟩ := H
    replace H : ((spec_l01Below.f s0_0 t249 t250 50).bind fun bt251 => ((spec_l01Text.f k1 s0_0 bt251.2.1 bt251.2.2 bt251.1).bind fun bt254 => ((spec_WriteBytes.f k1 x242000_1 x242001_1 t245 t248 bt254.1).bind fun bt257 => ((spec_l01Once.f s0_0 bt254.2.1 bt254.2.2 4).bind fun bt264 => (if bt264.1 = true then ((spec_FlushDisk.f k1 bt257.1 bt257.2.1).bind fun bt267 => (spec_l03Disk.l0 k1 (wrap64 (x5_1 + 1)) s0_0 bt264.2.1 bt264.2.2 bt267.1 bt267.2)) else (spec_l03Disk.l0 k1 (wrap64 (x5_1 + 1)) s0_0 bt264.2.1 bt264.2.2 bt257.1 bt257.2.1)))))) = some (r1, r2, r3, r4) := H
    have A16 := Aside0.mk A160
    clear A160
    replace H := Option.bind_eq_some_iff.mp H
    obtain ⟨⟨t251, t252, t253⟩, A170, H⟩ := H
    replace H : ((spec_l01Text.f k1 s0_0 t252 t253 t251).bind fun bt254 => ((spec_WriteBytes.f k1 x242000_1 x242001_1 t245 t248 bt254.1).bind fun bt257 => ((spec_l01Once.f s0_0 bt254.2.1 bt254.2.2 4).bind fun bt264 => (if bt264.1 = true then ((spec_FlushDisk.f k1 bt257.1 bt257.2.1).bind fun bt267 => (spec_l03Disk.l0 k1 (wrap64 (x5_1 + 1)) s0_0 bt264.2.1 bt264.2.2 bt267.1 bt267.2)) else (spec_l03Disk.l0 k1 (wrap64 (x5_1 + 1)) s0_0 bt264.2.1 bt264.2.2 bt257.1 bt257.2.1))))) = some (r1, r2, r3, r4) := H
    have A17 := Aside0.mk A170
    clear A170
    replace H := Option.bind_eq_some_iff.mp H
    obtain ⟨⟨t254, t255, t256⟩, A180, H⟩ := H
    replace H : ((spec_WriteBytes.f k1 x242000_1 x242001_1 t245 t248 t254).bind fun bt257 => ((spec_l01Once.f s0_0 t255 t256 4).bind fun bt264 => (if bt264.1 = true then ((spec_FlushDisk.f k1 bt257.1 bt257.2.1).bind fun bt267 => (spec_l03Disk.l0 k1 (wrap64 (x5_1 + 1)) s0_0 bt264.2.1 bt264.2.2 bt267.1 bt267.2)) else (spec_l03Disk.l0 k1 (wrap64 (x5_1 + 1)) s0_0 bt264.2.1 bt264.2.2 bt257.1 bt257.2.1)))) = some (r1, r2, r3, r4) := H
    have A18 := Aside0.mk A180
    clear A180
    replace H := Option.bind_eq_some_iff.mp H
    obtain ⟨⟨t257, t260, t263⟩, A190, H⟩ := H
    replace H : ((spec_l01Once.f s0_0 t255 t256 4).bind fun bt264 => (if bt264.1 = true then ((spec_FlushDisk.f k1 t257 t260).bind fun bt267 => (spec_l03Disk.l0 k1 (wrap64 (x5_1 + 1)) s0_0 bt264.2.1 bt264.2.2 bt267.1 bt267.2)) else (spec_l03Disk.l0 k1 (wrap64 (x5_1 + 1)) s0_0 bt264.2.1 bt264.2.2 t257 t260))) = some (r1, r2, r3, r4) := H
    have A19 := Aside0.mk A190
    clear A190
    replace H := Option.bind_eq_some_iff.mp H
    obtain ⟨⟨t264, t265, t266⟩, A200, H⟩ := H
    replace H : (if t264 = true then ((spec_FlushDisk.f k1 t257 t260).bind fun bt267 => (spec_l03Disk.l0 k1 (wrap64 (x5_1 + 1)) s0_0 t265 t266 bt267.1 bt267.2)) else (spec_l03Disk.l0 k1 (wrap64 (x5_1 + 1)) s0_0 t265 t266 t257 t260)) = some (r1, r2, r3, r4) := H
    have A20 := Aside0.mk A200
    clear A200
    by_cases c21 : t264 = true
    ·subst c21
     have H1 : ((spec_FlushDisk.f k1 t257 t260).bind fun bt267 => (spec_l03Disk.l0 k1 (wrap64 (x5_1 + 1)) s0_0 t265 t266 bt267.1 bt267.2)) = some (r1, r2, r3, r4) := by rw [if_pos rfl] at H; exact H
     clear H
     have H := H1
     clear H1
     replace H := Option.bind_eq_some_iff.mp H
     obtain ⟨⟨t267, t270⟩, A220, H⟩ := H
     replace H : (spec_l03Disk.l0 k1 (wrap64 (x5_1 + 1)) s0_0 t265 t266 t267 t270) = some (r1, r2, r3, r4) := H
     have A22 := Aside0.mk A220
     clear A220
     have H' := Aside0.mk H
     clear H
     try go_wp2_with (first | ((with_reducible refine gate_callee (f := 47) rfl ?_); refine gl (some 15) Try.func47 #[.pointer (some ⟨g, 0, none⟩), .int .i64 9] ?_; (with_reducible refine (spec_l01Below.calls g s0_0 x1001_1 x1002_1 9 t242 t243 t244 w0 _ ?side1 ?side2 A13.out).mono ?_); (case side1 => exact IsS80.T_ HI0 (nC NB0_230 (nC NB0_241 nN))); (case side2 => exact lT HB (gC GE230 (gC GE241 gN))); rintro e w23 ⟨rfl, hi, hb, hk⟩; refine ⟨_, rfl, ?_⟩; replace HO_242000 := ak (Kd.R_mono (Kd.R_keep (IsS80.apart (show IsS80 w0 _ g s0_0 x1001_1 x1002_1 from IsS80.T_ HI0 (nC NB0_230 (nC NB0_241 nN))) (rG HO_242000) (by decide)) hk (fun _ h => h.2)) (fun _ h => h.1)); replace HO_242001 := ak (Kd.R_mono (Kd.R_keep (IsS80.apart (show IsS80 w0 _ g s0_0 x1001_1 x1002_1 from IsS80.T_ HI0 (nC NB0_230 (nC NB0_241 nN))) (rG HO_242001) (by decide)) hk (fun _ h => h.2)) (fun _ h => h.1)); replace BK230 := ak (KeepBut.blk hk (g' := gb230) (o := .cells #[.slice none 0 0, .slice none 0 0] 27 (0, 0)) (bG BK230) NB230_0.out (by simp)); replace BK241 := ak (KeepBut.blk hk (g' := gb241) (o := .cells #[u242000, u242001] 27 (0, 0)) (bG BK241) NB241_0.out (by simp)); replace HK := ak (KeepBut.trans (kT HK (gC GW230 (gC GW241 gN))) hk (.inl rfl)); replace HB := ak (hb); replace HI0 := ak (hi); (try clear hb); (try clear hk); (try clear hi)))
     replace HO_242000 := ak (Kd.R_drew HO_242000.out)
     replace HO_242001 := ak (Kd.R_drew HO_242001.out)
     replace BK230 := ak (blk_drew BK230.out)
     replace BK241 := ak (blk_drew BK241.out)
     replace HI0 := ak (IsS80.drew HI0.out)
     replace HK := ak (keep_drew HK.out)
     replace HB := ak (below_drew1 HB.out)
     obtain ⟨Ao25, co25, eo25⟩ := Kd.R_slice HO_242000.out
     (first | subst eo25 | (injection eo25 with f1_ f2_ f3_; have f4_ := f1_.symm; have f5_ := f3_.symm; clear f1_ f2_ f3_; subst f4_; subst f5_))
     refine start_ (n := 17) (S := fun w' => w'.cell? ⟨gb241, 0, none⟩ = some (.slice Ao25 x242000_1.length co25) ∧ w'.cell? ⟨gb241, 1, none⟩ = some (u242001)) (ds := [16]) #[f_,f_,f_,f_,f_,f_,f_,f_,f_,f_,f_,f_,f_,f_,f_,f_,f_] (by kernel_rfl) rfl rfl ⟨(blk_cell BK241.out 0).trans rfl, (blk_cell BK241.out 1).trans rfl⟩ (fun hHeld => ?_); refine with_tabW spec_l03Disk.tab5 spec_l03Disk.bits5 (fun HT_ HW_ => ?_)
     generalize w23.drew = w24 at HO_242000 HO_242001 BK230 BK241 HI0 HK HB hHeld ⊢
     refine pu 1 21 #[f_,t_,f_,f_,f_,f_,f_,f_,f_,f_,f_,f_,f_,f_,f_,f_,f_] HT_ ?_
     refine pu 2 22 #[f_,t_,t_,f_,f_,f_,f_,f_,f_,f_,f_,f_,f_,f_,f_,f_,f_] HT_ ?_
     refine pu 6 26 #[f_,t_,t_,f_,f_,f_,t_,f_,f_,f_,f_,f_,f_,f_,f_,f_,f_] HT_ ?_
     refine pu 8 28 #[f_,t_,t_,f_,f_,f_,t_,f_,t_,f_,f_,f_,f_,f_,f_,f_,f_] HT_ ?_
     refine pu 9 29 #[f_,t_,t_,f_,f_,f_,t_,f_,t_,t_,f_,f_,f_,f_,f_,f_,f_] HT_ ?_
     refine tk 0 20 #[t_,t_,t_,f_,f_,f_,t_,f_,t_,t_,f_,f_,f_,f_,f_,f_,f_] HT_ HW_ hHeld ?_
     refine tk 3 23 #[t_,t_,t_,t_,f_,f_,t_,f_,t_,t_,f_,f_,f_,f_,f_,f_,f_] HT_ HW_ hHeld ?_
     refine pu 4 24 #[t_,t_,t_,t_,t_,f_,t_,f_,t_,t_,f_,f_,f_,f_,f_,f_,f_] HT_ ?_
     refine on 5 (some 25) #[t_,t_,t_,t_,t_,t_,t_,f_,t_,t_,f_,f_,f_,f_,f_,f_,f_] HT_ (fun K hK => ?_)
     refine goes_ Try.func47 (by kernel_rfl) rfl #[.pointer (some ⟨g, 0, none⟩), .int .i64 (x242000_1.length : Int)] (by rfl) rfl rfl (by (try simp only [List.map_toArray, List.map_cons, List.map_nil]); first | done | rfl | (simp only [List.length_drop, List.length_take]; rfl)) ?_
     with_reducible refine (spec_l01Below.calls g s0_0 t243 t244 (x242000_1.length : Int) t245 t246 t247 w0 _ ?side1 ?side2 A15.out).mono ?_
     (case side1 => exact IsS80.T_ HI0 (nC NB0_230 (nC NB0_241 nN)))
     (case side2 => exact lT HB (gC GE230 (gC GE241 gN)))
     rintro e w26 ⟨rfl, hi, hb, hk⟩
     refine ⟨_, rfl, ?_⟩
     replace HO_242000 := ak (Kd.R_mono (Kd.R_keep (IsS80.apart (show IsS80 w0 _ g s0_0 t243 t244 from IsS80.T_ HI0 (nC NB0_230 (nC NB0_241 nN))) (rG HO_242000) (by decide)) hk (fun _ h => h.2)) (fun _ h => h.1))
     replace HO_242001 := ak (Kd.R_mono (Kd.R_keep (IsS80.apart (show IsS80 w0 _ g s0_0 t243 t244 from IsS80.T_ HI0 (nC NB0_230 (nC NB0_241 nN))) (rG HO_242001) (by decide)) hk (fun _ h => h.2)) (fun _ h => h.1))
     replace BK230 := ak (KeepBut.blk hk (g' := gb230) (o := .cells #[.slice none 0 0, .slice none 0 0] 27 (0, 0)) (bG BK230) NB230_0.out (by simp))
     replace BK241 := ak (KeepBut.blk hk (g' := gb241) (o := .cells #[.slice Ao25 x242000_1.length co25, u242001] 27 (0, 0)) (bG BK241) NB241_0.out (by simp))
     replace HK := ak (KeepBut.trans (kT HK (gC GW230 (gC GW241 gN))) hk (.inl rfl))
     replace HB := ak (hb)
     replace HI0 := ak (hi)
     (try clear hb)
     (try clear hb2)
     (try clear hk)
     (try clear hi)
     refine hK.out _ _ ⟨(blk_cell BK241.out 0).trans rfl, (blk_cell BK241.out 1).trans rfl⟩ (fun hHeld => ?_)
     clear hK K
     refine nm ?_
     refine on 7 (some 27) #[t_,t_,t_,t_,t_,t_,t_,t_,t_,t_,f_,f_,f_,f_,f_,f_,f_] HT_ (fun K hK => ?_)
     refine goes_ Try.func47 (by kernel_rfl) rfl #[.pointer (some ⟨g, 0, none⟩), .int .i64 40] (by rfl) rfl rfl (by (try simp only [List.map_toArray, List.map_cons, List.map_nil]); first | done | rfl | (simp only [List.length_drop, List.length_take]; rfl)) ?_
     with_reducible refine (spec_l01Below.calls g s0_0 t246 t247 40 t248 t249 t250 w0 _ ?side1 ?side2 A16.out).mono ?_
     (case side1 => exact IsS80.T_ HI0 (nC NB0_230 (nC NB0_241 nN)))
     (case side2 => exact lT HB (gC GE230 (gC GE241 gN)))
     rintro e w27 ⟨rfl, hi, hb, hk⟩
     refine ⟨_, rfl, ?_⟩
     replace HO_242000 := ak (Kd.R_mono (Kd.R_keep (IsS80.apart (show IsS80 w0 _ g s0_0 t246 t247 from IsS80.T_ HI0 (nC NB0_230 (nC NB0_241 nN))) (rG HO_242000) (by decide)) hk (fun _ h => h.2)) (fun _ h => h.1))
     replace HO_242001 := ak (Kd.R_mono (Kd.R_keep (IsS80.apart (show IsS80 w0 _ g s0_0 t246 t247 from IsS80.T_ HI0 (nC NB0_230 (nC NB0_241 nN))) (rG HO_242001) (by decide)) hk (fun _ h => h.2)) (fun _ h => h.1))
     replace BK230 := ak (KeepBut.blk hk (g' := gb230) (o := .cells #[.slice none 0 0, .slice none 0 0] 27 (0, 0)) (bG BK230) NB230_0.out (by simp))
     replace BK241 := ak (KeepBut.blk hk (g' := gb241) (o := .cells #[.slice Ao25 x242000_1.length co25, u242001] 27 (0, 0)) (bG BK241) NB241_0.out (by simp))
     replace HK := ak (KeepBut.trans (kT HK (gC GW230 (gC GW241 gN))) hk (.inl rfl))
     replace HB := ak (hb)
     replace HI0 := ak (hi)
     (try clear hb)
     (try clear hb2)
     (try clear hk)
     (try clear hi)
     refine hK.out _ _ ⟨(blk_cell BK241.out 0).trans rfl, (blk_cell BK241.out 1).trans rfl⟩ (fun hHeld => ?_)
     clear hK K
     refine nm ?_
     refine on 10 (some 30) #[t_,t_,t_,t_,t_,t_,t_,t_,t_,t_,t_,f_,f_,f_,f_,f_,f_] HT_ (fun K hK => ?_)
     refine goes_ Try.func47 (by kernel_rfl) rfl #[.pointer (some ⟨g, 0, none⟩), .int .i64 50] (by rfl) rfl rfl (by (try simp only [List.map_toArray, List.map_cons, List.map_nil]); first | done | rfl | (simp only [List.length_drop, List.length_take]; rfl)) ?_
     with_reducible refine (spec_l01Below.calls g s0_0 t249 t250 50 t251 t252 t253 w0 _ ?side1 ?side2 A17.out).mono ?_
     (case side1 => exact IsS80.T_ HI0 (nC NB0_230 (nC NB0_241 nN)))
     (case side2 => exact lT HB (gC GE230 (gC GE241 gN)))
     rintro e w28 ⟨rfl, hi, hb, hk⟩
     refine ⟨_, rfl, ?_⟩
     replace HO_242000 := ak (Kd.R_mono (Kd.R_keep (IsS80.apart (show IsS80 w0 _ g s0_0 t249 t250 from IsS80.T_ HI0 (nC NB0_230 (nC NB0_241 nN))) (rG HO_242000) (by decide)) hk (fun _ h => h.2)) (fun _ h => h.1))
     replace HO_242001 := ak (Kd.R_mono (Kd.R_keep (IsS80.apart (show IsS80 w0 _ g s0_0 t249 t250 from IsS80.T_ HI0 (nC NB0_230 (nC NB0_241 nN))) (rG HO_242001) (by decide)) hk (fun _ h => h.2)) (fun _ h => h.1))
     replace BK230 := ak (KeepBut.blk hk (g' := gb230) (o := .cells #[.slice none 0 0, .slice none 0 0] 27 (0, 0)) (bG BK230) NB230_0.out (by simp))
     replace BK241 := ak (KeepBut.blk hk (g' := gb241) (o := .cells #[.slice Ao25 x242000_1.length co25, u242001] 27 (0, 0)) (bG BK241) NB241_0.out (by simp))
     replace HK := ak (KeepBut.trans (kT HK (gC GW230 (gC GW241 gN))) hk (.inl rfl))
     replace HB := ak (hb)
     replace HI0 := ak (hi)
     (try clear hb)
     (try clear hb2)
     (try clear hk)
     (try clear hi)
     refine hK.out _ _ ⟨(blk_cell BK241.out 0).trans rfl, (blk_cell BK241.out 1).trans rfl⟩ (fun hHeld => ?_)
     clear hK K
     refine nm ?_
     refine on 11 (some 31) #[t_,t_,t_,t_,t_,t_,t_,t_,t_,t_,t_,t_,f_,f_,f_,f_,f_] HT_ (fun K hK => ?_)
     refine goes_ Try.func72 (by kernel_rfl) rfl #[.pointer (some ⟨g, 0, none⟩), .int .i64 t251] (by rfl) rfl rfl (by (try simp only [List.map_toArray, List.map_cons, List.map_nil]); first | done | rfl | (simp only [List.length_drop, List.length_take]; rfl)) ?_
     with_reducible refine (spec_l01Text.calls k1 g s0_0 t252 t253 t251 t254 t255 t256 w0 _ ?side1 ?side2 A18.out).mono ?_
     (case side1 => exact IsS80.T_ HI0 (nC NB0_230 (nC NB0_241 nN)))
     (case side2 => exact lT HB (gC GE230 (gC GE241 gN)))
     rintro e w29 ⟨rfl, hi, hb, hk⟩
     refine ⟨_, rfl, ?_⟩
     replace HO_242000 := ak (Kd.R_mono (Kd.R_keep (IsS80.apart (show IsS80 w0 _ g s0_0 t252 t253 from IsS80.T_ HI0 (nC NB0_230 (nC NB0_241 nN))) (rG HO_242000) (by decide)) hk (fun _ h => h.2)) (fun _ h => h.1))
     replace HO_242001 := ak (Kd.R_mono (Kd.R_keep (IsS80.apart (show IsS80 w0 _ g s0_0 t252 t253 from IsS80.T_ HI0 (nC NB0_230 (nC NB0_241 nN))) (rG HO_242001) (by decide)) hk (fun _ h => h.2)) (fun _ h => h.1))
     replace BK230 := ak (KeepBut.blk hk (g' := gb230) (o := .cells #[.slice none 0 0, .slice none 0 0] 27 (0, 0)) (bG BK230) NB230_0.out (by simp))
     replace BK241 := ak (KeepBut.blk hk (g' := gb241) (o := .cells #[.slice Ao25 x242000_1.length co25, u242001] 27 (0, 0)) (bG BK241) NB241_0.out (by simp))
     replace HK := ak (KeepBut.trans (kT HK (gC GW230 (gC GW241 gN))) hk (.inl rfl))
     replace HB := ak (hb)
     replace HI0 := ak (hi)
     (try clear hb)
     (try clear hb2)
     (try clear hk)
     (try clear hi)
     obtain ⟨Ao30, co30, eo30⟩ := Kd.R_slice HO_242001.out
     (first | subst eo30 | (injection eo30 with f1_ f2_ f3_; have f4_ := f1_.symm; have f5_ := f3_.symm; clear f1_ f2_ f3_; subst f4_; subst f5_))
     refine hK.out _ _ ⟨(blk_cell BK241.out 0).trans rfl, (blk_cell BK241.out 1).trans rfl⟩ (fun hHeld => ?_)
     clear hK K
     refine nm ?_
     refine on 12 (some 32) #[t_,t_,t_,t_,t_,t_,t_,t_,t_,t_,t_,t_,t_,f_,f_,f_,f_] HT_ (fun K hK => ?_)
     refine goes_ Try.func71 (by kernel_rfl) rfl #[.agg #[.slice Ao25 x242000_1.length co25, .slice Ao30 x242001_1.length co30], .int .i64 t245, .int .i64 t248, .string t254] (by rfl) rfl rfl (by (try simp only [List.map_toArray, List.map_cons, List.map_nil]); first | done | rfl | (simp only [List.length_drop, List.length_take]; rfl)) ?_
     with_reducible refine (spec_WriteBytes.calls k1 _ _ x242000_1 _ _ x242001_1 t245 t248 t254 t257 t260 t263 _ ?side1 ?side2 ?side3 ?side4 A19.out).mono ?_
     (case side1 => exact cG (Kd.R_reads' HO_242000.out).2.2)
     (case side2 => exact (Kd.R_reads' HO_242000.out).2.1)
     (case side3 => exact cG (Kd.R_reads' HO_242001.out).2.2)
     (case side4 => exact (Kd.R_reads' HO_242001.out).2.1)
     rintro e w31 ⟨v258, v261, rfl, ho0, ho1, hb⟩
     refine ⟨_, rfl, ?_⟩
     replace HO259 := ak (Kd.R_lower (Kd.R_new' ho0 (Kd.R_lt (rG HO_242000))) (keep_size (w := w) (g := g) (row := none) (kT HK (gC GW230 (gC GW241 gN)))))
     replace HO_242000 := ak (Kd.R_elder' (rG HO_242000) (Kd.R_base ho0) hb)
     replace HO262 := ak (Kd.R_lower (Kd.R_new' ho1 (Kd.R_lt (rG HO_242001))) (keep_size (w := w) (g := g) (row := none) (kT HK (gC GW230 (gC GW241 gN)))))
     replace HO_242001 := ak (Kd.R_elder' (rG HO_242001) (Kd.R_base ho1) hb)
     replace BK230 := bB BK230 hb
     replace BK241 := bB BK241 hb
     replace HK := ak (KeepBut.trans (kT HK (gC GW230 (gC GW241 gN))) (KeepBut.of_below hb g none) (.inl rfl))
     replace HB := ak (below_step (lT HB (gC GE230 (gC GE241 gN))) hb)
     replace HI0 := ak (IsS80.below (IsS80.T_ HI0 (nC NB0_230 (nC NB0_241 nN))) hb)
     (try clear hb)
     (try clear hb2)
     (try clear hk)
     (try clear hi)
     (try clear ho0)
     (try clear ho1)
     obtain ⟨Ao32, co32, eo32⟩ := Kd.R_slice HO259.out
     (first | subst eo32 | (injection eo32 with f1_ f2_ f3_; have f4_ := f1_.symm; have f5_ := f3_.symm; clear f1_ f2_ f3_; subst f4_; subst f5_))
     obtain ⟨Ao34, co34, eo34⟩ := Kd.R_slice HO262.out
     (first | subst eo34 | (injection eo34 with f1_ f2_ f3_; have f4_ := f1_.symm; have f5_ := f3_.symm; clear f1_ f2_ f3_; subst f4_; subst f5_))
     refine hK.out _ _ ⟨(blk_cell BK241.out 0).trans rfl, (blk_cell BK241.out 1).trans rfl⟩ (fun hHeld => ?_)
     clear hK K
     refine nm ?_
     refine pu 13 19 #[t_,t_,t_,t_,t_,t_,t_,t_,t_,t_,t_,t_,t_,t_,f_,f_,f_] HT_ ?_
     refine pu 14 33 #[t_,t_,t_,t_,t_,t_,t_,t_,t_,t_,t_,t_,t_,t_,t_,f_,f_] HT_ ?_
     refine pu 15 34 #[t_,t_,t_,t_,t_,t_,t_,t_,t_,t_,t_,t_,t_,t_,t_,t_,f_] HT_ ?_
     refine last_ (i := 16) (N := none) #[t_,t_,t_,t_,t_,t_,t_,t_,t_,t_,t_,t_,t_,t_,t_,t_,t_] rfl rfl (one_of HT_.out (by kernel_rfl)) (by decide) (fun K hK => ?_)
     have hs33 : w31.cell? ⟨gb241, 0, none⟩ = some (.slice Ao25 x242000_1.length co25) := (blk_cell BK241.out 0).trans rfl
     have hfs33 := blk_frozen BK241.out 0
     have hns33_0 := NB230_241.out
     have hms33_0 := NB241_230.out
     have hs35 : w31.cell? ⟨gb241, 1, none⟩ = some (.slice Ao30 x242001_1.length co30) := (blk_cell BK241.out 1).trans rfl
     have hfs35 := blk_frozen BK241.out 1
     have hns35_0 := NB230_241.out
     have hms35_0 := NB241_230.out
     refine skip_ (w1 := ?_) (by rfl) rfl ?_ ?_
     rotate_left
     ·go_simp
      rfl
     refine hK.out _ _ ?_
     clear hK K
     refine done_ (done_of HT_.out (by kernel_rfl)) ?_
     try go_wp2_with (first | ((with_reducible refine gate_callee (f := 73) rfl ?_); refine gl (some 36) Try.func73 #[.pointer (some ⟨g, 0, none⟩), .int .i64 4] ?_; (with_reducible refine (spec_l01Once.calls g s0_0 t255 t256 4 true t265 t266 w0 _ ?side1 ?side2 A20.out).mono ?_); (case side1 => exact IsS80.T_ HI0 (nC NB0_230 (nC NB0_241 nN))); (case side2 => exact lT HB (gC GE230 (gC GE241 gN))); rintro e w36 ⟨rfl, hi, hb, hk⟩; refine ⟨_, rfl, ?_⟩; replace HO_242000 := ak (Kd.R_mono (Kd.R_keep (IsS80.apart (show IsS80 w0 _ g s0_0 t255 t256 from IsS80.T_ HI0 (nC NB0_230 (nC NB0_241 nN))) (rT HO_242000 BK241 (by decide)) (by decide)) hk (fun _ h => h.2)) (fun _ h => h.1)); replace HO_242001 := ak (Kd.R_mono (Kd.R_keep (IsS80.apart (show IsS80 w0 _ g s0_0 t255 t256 from IsS80.T_ HI0 (nC NB0_230 (nC NB0_241 nN))) (rT HO_242001 BK241 (by decide)) (by decide)) hk (fun _ h => h.2)) (fun _ h => h.1)); replace BK230 := ak (KeepBut.blk hk (g' := gb230) (o := .cells #[.slice none 0 0, .slice none 0 0] 27 (0, 0)) (bT BK230 (nC NB230_241 nN)) NB230_0.out (by simp)); replace HO259 := ak (Kd.R_mono (Kd.R_keep (IsS80.apart (show IsS80 w0 _ g s0_0 t255 t256 from IsS80.T_ HI0 (nC NB0_230 (nC NB0_241 nN))) (rT HO259 BK241 (by decide)) (by decide)) hk (fun _ h => h.2)) (fun _ h => h.1)); replace HO262 := ak (Kd.R_mono (Kd.R_keep (IsS80.apart (show IsS80 w0 _ g s0_0 t255 t256 from IsS80.T_ HI0 (nC NB0_230 (nC NB0_241 nN))) (rT HO262 BK241 (by decide)) (by decide)) hk (fun _ h => h.2)) (fun _ h => h.1)); replace BK241 := ak (KeepBut.blk hk (g' := gb241) (o := .cells #[.slice Ao32 t257.length co32, .slice Ao34 t260.length co34] 27 (0, 0)) (by (with_reducible repeat (first | refine blk_drewN ?_ _ | refine blk_drew ?_ | refine blk_alloc ?_ _)); refine blk_put (cs := #[.slice Ao32 t257.length co32, .slice Ao30 x242001_1.length co30]) ?_ 1 _ rfl; (with_reducible repeat (first | refine blk_drewN ?_ _ | refine blk_drew ?_ | refine blk_alloc ?_ _)); refine blk_put (cs := #[.slice Ao25 x242000_1.length co25, .slice Ao30 x242001_1.length co30]) ?_ 0 _ rfl; (with_reducible repeat (first | refine blk_drewN ?_ _ | refine blk_drew ?_ | refine blk_alloc ?_ _)); exact BK241.out) NB241_0.out (by simp)); replace HK := ak (KeepBut.trans (kT HK (gC GW230 (gC GW241 gN))) hk (.inl rfl)); replace HB := ak (hb); replace HI0 := ak (hi); (try clear hb); (try clear hk); (try clear hi); have hnb37 := NB241_230.out; have hnc37 := NB230_241.out; have hnb38 := NB241_0.out; have hnc38 := NB0_241.out; obtain ⟨hcz39_0, hcz39_1, hfz39_0, hfz39_1⟩ := bC2 BK241) | ((with_reducible refine gate_callee (f := 36) rfl ?_); refine gl (some 38) Try.func36 #[.agg #[.slice Ao32 t257.length co32, .slice Ao34 t260.length co34]] ?_; (with_reducible refine (spec_FlushDisk.calls k1 _ _ t257 _ _ t260 t267 t270 _ ?side1 ?side2 ?side3 ?side4 A22.out).mono ?_); (case side1 => exact cG (Kd.R_reads' HO259.out).2.2); (case side2 => exact (Kd.R_reads' HO259.out).2.1); (case side3 => exact cG (Kd.R_reads' HO262.out).2.2); (case side4 => exact (Kd.R_reads' HO262.out).2.1); rintro e w40 ⟨v268, v271, rfl, ho0, ho1, hb⟩; refine ⟨_, rfl, ?_⟩; replace HO269 := ak (Kd.R_lower (Kd.R_new' (Kd.R_new' ho0 (Kd.R_lt (rG HO_242000))) (Kd.R_lt (rG HO259))) (keep_size (w := w) (g := g) (row := none) (kT HK (gC GW230 (gC GW241 gN))))); replace HO_242000 := ak (Kd.R_elder' (rG HO_242000) (Kd.R_base ho0) hb); replace HO259 := ak (Kd.R_elder' (rG HO259) (Kd.R_base ho0) hb); replace HO272 := ak (Kd.R_lower (Kd.R_new' (Kd.R_new' ho1 (Kd.R_lt (rG HO_242001))) (Kd.R_lt (rG HO262))) (keep_size (w := w) (g := g) (row := none) (kT HK (gC GW230 (gC GW241 gN))))); replace HO_242001 := ak (Kd.R_elder' (rG HO_242001) (Kd.R_base ho1) hb); replace HO262 := ak (Kd.R_elder' (rG HO262) (Kd.R_base ho1) hb); replace BK230 := bB BK230 hb; replace BK241 := bB BK241 hb; replace HK := ak (KeepBut.trans (kT HK (gC GW230 (gC GW241 gN))) (KeepBut.of_below hb g none) (.inl rfl)); replace HB := ak (below_step (lT HB (gC GE230 (gC GE241 gN))) hb); replace HI0 := ak (IsS80.below (IsS80.T_ HI0 (nC NB0_230 (nC NB0_241 nN))) hb); (try clear hb); (try clear hk); (try clear hi); (try clear ho0); (try clear ho1); obtain ⟨Ao41, co41, eo41⟩ := Kd.R_slice HO269.out; subst eo41; obtain ⟨hcz42_0, hcz42_1, hfz42_0, hfz42_1⟩ := bC2 BK241; obtain ⟨Ao43, co43, eo43⟩ := Kd.R_slice HO272.out; subst eo43))
     go_roundg k1
     case measure => have := HK1.out; omega
     case rel => exact ⟨(wrap64 (x5_1 + 1)), (t265), (t266), (t267), (t270), (.slice Ao41 t267.length co41), (.slice Ao43 t270.length co43), (by first | rfl | (simp; done) | (simp [*]; done)), H', ⟨by have := HK1.out; omega⟩, ⟨by (with_reducible repeat (first | apply Kd.R_alloc | apply Kd.R_drewN | apply Kd.R_drew)); exact Kd.R_mono (Kd.R_far (p := ⟨gb241, 1, none⟩) (Kd.R_far (p := ⟨gb241, 0, none⟩) (Kd.R_types HO269.out BK241.out (by decide)) (fun _ hk => hk.2) (.slice Ao41 t267.length co41)) (fun _ hk => hk.2) (.slice Ao43 t270.length co43)) (fun _ hk => trivial)⟩, ⟨by (with_reducible repeat (first | apply Kd.R_alloc | apply Kd.R_drewN | apply Kd.R_drew)); exact Kd.R_mono (Kd.R_far (p := ⟨gb241, 1, none⟩) (Kd.R_far (p := ⟨gb241, 0, none⟩) (Kd.R_types HO272.out BK241.out (by decide)) (fun _ hk => hk.2) (.slice Ao41 t267.length co41)) (fun _ hk => hk.2) (.slice Ao43 t270.length co43)) (fun _ hk => trivial)⟩, ⟨by (with_reducible repeat (first | refine blk_drewN ?_ _ | refine blk_drew ?_ | refine blk_alloc ?_ _)); refine blk_far ?_ NB230_241.out _; (with_reducible repeat (first | refine blk_drewN ?_ _ | refine blk_drew ?_ | refine blk_alloc ?_ _)); refine blk_far ?_ NB230_241.out _; (with_reducible repeat (first | refine blk_drewN ?_ _ | refine blk_drew ?_ | refine blk_alloc ?_ _)); exact BK230.out⟩, ⟨by (with_reducible repeat (first | refine blk_drewN ?_ _ | refine blk_drew ?_ | refine blk_alloc ?_ _)); refine blk_put (cs := #[.slice Ao41 t267.length co41, .slice Ao34 t260.length co34]) ?_ 1 _ rfl; (with_reducible repeat (first | refine blk_drewN ?_ _ | refine blk_drew ?_ | refine blk_alloc ?_ _)); refine blk_put (cs := #[.slice Ao32 t257.length co32, .slice Ao34 t260.length co34]) ?_ 0 _ rfl; (with_reducible repeat (first | refine blk_drewN ?_ _ | refine blk_drew ?_ | refine blk_alloc ?_ _)); exact BK241.out⟩, ⟨IsS80.T_ HI0 (nC NB0_230 (nC NB0_241 nN))⟩, ⟨kT HK (gC GW230 (gC GW241 gN))⟩, ⟨lT HB (gC GE230 (gC GE241 gN))⟩⟩
    ·replace c21 := Bool.eq_false_iff.mpr c21
     subst c21
     have H1 : (spec_l03Disk.l0 k1 (wrap64 (x5_1 + 1)) s0_0 t265 t266 t257 t260) = some (r1, r2, r3, r4) := by rw [if_neg (show ¬ (false = true) by decide)] at H; exact H
     clear H
     have H := H1
     clear H1
     have H' := Aside0.mk H
     clear H
     try go_wp2_with (first | ((with_reducible refine gate_callee (f := 47) rfl ?_); refine gl (some 15) Try.func47 #[.pointer (some ⟨g, 0, none⟩), .int .i64 9] ?_; (with_reducible refine (spec_l01Below.calls g s0_0 x1001_1 x1002_1 9 t242 t243 t244 w0 _ ?side1 ?side2 A13.out).mono ?_); (case side1 => exact IsS80.T_ HI0 (nC NB0_230 (nC NB0_241 nN))); (case side2 => exact lT HB (gC GE230 (gC GE241 gN))); rintro e w44 ⟨rfl, hi, hb, hk⟩; refine ⟨_, rfl, ?_⟩; replace HO_242000 := ak (Kd.R_mono (Kd.R_keep (IsS80.apart (show IsS80 w0 _ g s0_0 x1001_1 x1002_1 from IsS80.T_ HI0 (nC NB0_230 (nC NB0_241 nN))) (rG HO_242000) (by decide)) hk (fun _ h => h.2)) (fun _ h => h.1)); replace HO_242001 := ak (Kd.R_mono (Kd.R_keep (IsS80.apart (show IsS80 w0 _ g s0_0 x1001_1 x1002_1 from IsS80.T_ HI0 (nC NB0_230 (nC NB0_241 nN))) (rG HO_242001) (by decide)) hk (fun _ h => h.2)) (fun _ h => h.1)); replace BK230 := ak (KeepBut.blk hk (g' := gb230) (o := .cells #[.slice none 0 0, .slice none 0 0] 27 (0, 0)) (bG BK230) NB230_0.out (by simp)); replace BK241 := ak (KeepBut.blk hk (g' := gb241) (o := .cells #[u242000, u242001] 27 (0, 0)) (bG BK241) NB241_0.out (by simp)); replace HK := ak (KeepBut.trans (kT HK (gC GW230 (gC GW241 gN))) hk (.inl rfl)); replace HB := ak (hb); replace HI0 := ak (hi); (try clear hb); (try clear hk); (try clear hi)))
     replace HO_242000 := ak (Kd.R_drew HO_242000.out)
     replace HO_242001 := ak (Kd.R_drew HO_242001.out)
     replace BK230 := ak (blk_drew BK230.out)
     replace BK241 := ak (blk_drew BK241.out)
     replace HI0 := ak (IsS80.drew HI0.out)
     replace HK := ak (keep_drew HK.out)
     replace HB := ak (below_drew1 HB.out)
     obtain ⟨Ao46, co46, eo46⟩ := Kd.R_slice HO_242000.out
     (first | subst eo46 | (injection eo46 with f1_ f2_ f3_; have f4_ := f1_.symm; have f5_ := f3_.symm; clear f1_ f2_ f3_; subst f4_; subst f5_))
     refine start_ (n := 17) (S := fun w' => w'.cell? ⟨gb241, 0, none⟩ = some (.slice Ao46 x242000_1.length co46) ∧ w'.cell? ⟨gb241, 1, none⟩ = some (u242001)) (ds := [16]) #[f_,f_,f_,f_,f_,f_,f_,f_,f_,f_,f_,f_,f_,f_,f_,f_,f_] (by kernel_rfl) rfl rfl ⟨(blk_cell BK241.out 0).trans rfl, (blk_cell BK241.out 1).trans rfl⟩ (fun hHeld => ?_); refine with_tabW spec_l03Disk.tab5 spec_l03Disk.bits5 (fun HT_ HW_ => ?_)
     generalize w44.drew = w45 at HO_242000 HO_242001 BK230 BK241 HI0 HK HB hHeld ⊢
     refine pu 1 21 #[f_,t_,f_,f_,f_,f_,f_,f_,f_,f_,f_,f_,f_,f_,f_,f_,f_] HT_ ?_
     refine pu 2 22 #[f_,t_,t_,f_,f_,f_,f_,f_,f_,f_,f_,f_,f_,f_,f_,f_,f_] HT_ ?_
     refine pu 6 26 #[f_,t_,t_,f_,f_,f_,t_,f_,f_,f_,f_,f_,f_,f_,f_,f_,f_] HT_ ?_
     refine pu 8 28 #[f_,t_,t_,f_,f_,f_,t_,f_,t_,f_,f_,f_,f_,f_,f_,f_,f_] HT_ ?_
     refine pu 9 29 #[f_,t_,t_,f_,f_,f_,t_,f_,t_,t_,f_,f_,f_,f_,f_,f_,f_] HT_ ?_
     refine tk 0 20 #[t_,t_,t_,f_,f_,f_,t_,f_,t_,t_,f_,f_,f_,f_,f_,f_,f_] HT_ HW_ hHeld ?_
     refine tk 3 23 #[t_,t_,t_,t_,f_,f_,t_,f_,t_,t_,f_,f_,f_,f_,f_,f_,f_] HT_ HW_ hHeld ?_
     refine pu 4 24 #[t_,t_,t_,t_,t_,f_,t_,f_,t_,t_,f_,f_,f_,f_,f_,f_,f_] HT_ ?_
     refine on 5 (some 25) #[t_,t_,t_,t_,t_,t_,t_,f_,t_,t_,f_,f_,f_,f_,f_,f_,f_] HT_ (fun K hK => ?_)
     refine goes_ Try.func47 (by kernel_rfl) rfl #[.pointer (some ⟨g, 0, none⟩), .int .i64 (x242000_1.length : Int)] (by rfl) rfl rfl (by (try simp only [List.map_toArray, List.map_cons, List.map_nil]); first | done | rfl | (simp only [List.length_drop, List.length_take]; rfl)) ?_
     with_reducible refine (spec_l01Below.calls g s0_0 t243 t244 (x242000_1.length : Int) t245 t246 t247 w0 _ ?side1 ?side2 A15.out).mono ?_
     (case side1 => exact IsS80.T_ HI0 (nC NB0_230 (nC NB0_241 nN)))
     (case side2 => exact lT HB (gC GE230 (gC GE241 gN)))
     rintro e w47 ⟨rfl, hi, hb, hk⟩
     refine ⟨_, rfl, ?_⟩
     replace HO_242000 := ak (Kd.R_mono (Kd.R_keep (IsS80.apart (show IsS80 w0 _ g s0_0 t243 t244 from IsS80.T_ HI0 (nC NB0_230 (nC NB0_241 nN))) (rG HO_242000) (by decide)) hk (fun _ h => h.2)) (fun _ h => h.1))
     replace HO_242001 := ak (Kd.R_mono (Kd.R_keep (IsS80.apart (show IsS80 w0 _ g s0_0 t243 t244 from IsS80.T_ HI0 (nC NB0_230 (nC NB0_241 nN))) (rG HO_242001) (by decide)) hk (fun _ h => h.2)) (fun _ h => h.1))
     replace BK230 := ak (KeepBut.blk hk (g' := gb230) (o := .cells #[.slice none 0 0, .slice none 0 0] 27 (0, 0)) (bG BK230) NB230_0.out (by simp))
     replace BK241 := ak (KeepBut.blk hk (g' := gb241) (o := .cells #[.slice Ao46 x242000_1.length co46, u242001] 27 (0, 0)) (bG BK241) NB241_0.out (by simp))
     replace HK := ak (KeepBut.trans (kT HK (gC GW230 (gC GW241 gN))) hk (.inl rfl))
     replace HB := ak (hb)
     replace HI0 := ak (hi)
     (try clear hb)
     (try clear hb2)
     (try clear hk)
     (try clear hi)
     refine hK.out _ _ ⟨(blk_cell BK241.out 0).trans rfl, (blk_cell BK241.out 1).trans rfl⟩ (fun hHeld => ?_)
     clear hK K
     refine nm ?_
     refine on 7 (some 27) #[t_,t_,t_,t_,t_,t_,t_,t_,t_,t_,f_,f_,f_,f_,f_,f_,f_] HT_ (fun K hK => ?_)
     refine goes_ Try.func47 (by kernel_rfl) rfl #[.pointer (some ⟨g, 0, none⟩), .int .i64 40] (by rfl) rfl rfl (by (try simp only [List.map_toArray, List.map_cons, List.map_nil]); first | done | rfl | (simp only [List.length_drop, List.length_take]; rfl)) ?_
     with_reducible refine (spec_l01Below.calls g s0_0 t246 t247 40 t248 t249 t250 w0 _ ?side1 ?side2 A16.out).mono ?_
     (case side1 => exact IsS80.T_ HI0 (nC NB0_230 (nC NB0_241 nN)))
     (case side2 => exact lT HB (gC GE230 (gC GE241 gN)))
     rintro e w48 ⟨rfl, hi, hb, hk⟩
     refine ⟨_, rfl, ?_⟩
     replace HO_242000 := ak (Kd.R_mono (Kd.R_keep (IsS80.apart (show IsS80 w0 _ g s0_0 t246 t247 from IsS80.T_ HI0 (nC NB0_230 (nC NB0_241 nN))) (rG HO_242000) (by decide)) hk (fun _ h => h.2)) (fun _ h => h.1))
     replace HO_242001 := ak (Kd.R_mono (Kd.R_keep (IsS80.apart (show IsS80 w0 _ g s0_0 t246 t247 from IsS80.T_ HI0 (nC NB0_230 (nC NB0_241 nN))) (rG HO_242001) (by decide)) hk (fun _ h => h.2)) (fun _ h => h.1))
     replace BK230 := ak (KeepBut.blk hk (g' := gb230) (o := .cells #[.slice none 0 0, .slice none 0 0] 27 (0, 0)) (bG BK230) NB230_0.out (by simp))
     replace BK241 := ak (KeepBut.blk hk (g' := gb241) (o := .cells #[.slice Ao46 x242000_1.length co46, u242001] 27 (0, 0)) (bG BK241) NB241_0.out (by simp))
     replace HK := ak (KeepBut.trans (kT HK (gC GW230 (gC GW241 gN))) hk (.inl rfl))
     replace HB := ak (hb)
     replace HI0 := ak (hi)
     (try clear hb)
     (try clear hb2)
     (try clear hk)
     (try clear hi)
     refine hK.out _ _ ⟨(blk_cell BK241.out 0).trans rfl, (blk_cell BK241.out 1).trans rfl⟩ (fun hHeld => ?_)
     clear hK K
     refine nm ?_
     refine on 10 (some 30) #[t_,t_,t_,t_,t_,t_,t_,t_,t_,t_,t_,f_,f_,f_,f_,f_,f_] HT_ (fun K hK => ?_)
     refine goes_ Try.func47 (by kernel_rfl) rfl #[.pointer (some ⟨g, 0, none⟩), .int .i64 50] (by rfl) rfl rfl (by (try simp only [List.map_toArray, List.map_cons, List.map_nil]); first | done | rfl | (simp only [List.length_drop, List.length_take]; rfl)) ?_
     with_reducible refine (spec_l01Below.calls g s0_0 t249 t250 50 t251 t252 t253 w0 _ ?side1 ?side2 A17.out).mono ?_
     (case side1 => exact IsS80.T_ HI0 (nC NB0_230 (nC NB0_241 nN)))
     (case side2 => exact lT HB (gC GE230 (gC GE241 gN)))
     rintro e w49 ⟨rfl, hi, hb, hk⟩
     refine ⟨_, rfl, ?_⟩
     replace HO_242000 := ak (Kd.R_mono (Kd.R_keep (IsS80.apart (show IsS80 w0 _ g s0_0 t249 t250 from IsS80.T_ HI0 (nC NB0_230 (nC NB0_241 nN))) (rG HO_242000) (by decide)) hk (fun _ h => h.2)) (fun _ h => h.1))
     replace HO_242001 := ak (Kd.R_mono (Kd.R_keep (IsS80.apart (show IsS80 w0 _ g s0_0 t249 t250 from IsS80.T_ HI0 (nC NB0_230 (nC NB0_241 nN))) (rG HO_242001) (by decide)) hk (fun _ h => h.2)) (fun _ h => h.1))
     replace BK230 := ak (KeepBut.blk hk (g' := gb230) (o := .cells #[.slice none 0 0, .slice none 0 0] 27 (0, 0)) (bG BK230) NB230_0.out (by simp))
     replace BK241 := ak (KeepBut.blk hk (g' := gb241) (o := .cells #[.slice Ao46 x242000_1.length co46, u242001] 27 (0, 0)) (bG BK241) NB241_0.out (by simp))
     replace HK := ak (KeepBut.trans (kT HK (gC GW230 (gC GW241 gN))) hk (.inl rfl))
     replace HB := ak (hb)
     replace HI0 := ak (hi)
     (try clear hb)
     (try clear hb2)
     (try clear hk)
     (try clear hi)
     refine hK.out _ _ ⟨(blk_cell BK241.out 0).trans rfl, (blk_cell BK241.out 1).trans rfl⟩ (fun hHeld => ?_)
     clear hK K
     refine nm ?_
     refine on 11 (some 31) #[t_,t_,t_,t_,t_,t_,t_,t_,t_,t_,t_,t_,f_,f_,f_,f_,f_] HT_ (fun K hK => ?_)
     refine goes_ Try.func72 (by kernel_rfl) rfl #[.pointer (some ⟨g, 0, none⟩), .int .i64 t251] (by rfl) rfl rfl (by (try simp only [List.map_toArray, List.map_cons, List.map_nil]); first | done | rfl | (simp only [List.length_drop, List.length_take]; rfl)) ?_
     with_reducible refine (spec_l01Text.calls k1 g s0_0 t252 t253 t251 t254 t255 t256 w0 _ ?side1 ?side2 A18.out).mono ?_
     (case side1 => exact IsS80.T_ HI0 (nC NB0_230 (nC NB0_241 nN)))
     (case side2 => exact lT HB (gC GE230 (gC GE241 gN)))
     rintro e w50 ⟨rfl, hi, hb, hk⟩
     refine ⟨_, rfl, ?_⟩
     replace HO_242000 := ak (Kd.R_mono (Kd.R_keep (IsS80.apart (show IsS80 w0 _ g s0_0 t252 t253 from IsS80.T_ HI0 (nC NB0_230 (nC NB0_241 nN))) (rG HO_242000) (by decide)) hk (fun _ h => h.2)) (fun _ h => h.1))
     replace HO_242001 := ak (Kd.R_mono (Kd.R_keep (IsS80.apart (show IsS80 w0 _ g s0_0 t252 t253 from IsS80.T_ HI0 (nC NB0_230 (nC NB0_241 nN))) (rG HO_242001) (by decide)) hk (fun _ h => h.2)) (fun _ h => h.1))
     replace BK230 := ak (KeepBut.blk hk (g' := gb230) (o := .cells #[.slice none 0 0, .slice none 0 0] 27 (0, 0)) (bG BK230) NB230_0.out (by simp))
     replace BK241 := ak (KeepBut.blk hk (g' := gb241) (o := .cells #[.slice Ao46 x242000_1.length co46, u242001] 27 (0, 0)) (bG BK241) NB241_0.out (by simp))
     replace HK := ak (KeepBut.trans (kT HK (gC GW230 (gC GW241 gN))) hk (.inl rfl))
     replace HB := ak (hb)
     replace HI0 := ak (hi)
     (try clear hb)
     (try clear hb2)
     (try clear hk)
     (try clear hi)
     obtain ⟨Ao51, co51, eo51⟩ := Kd.R_slice HO_242001.out
     (first | subst eo51 | (injection eo51 with f1_ f2_ f3_; have f4_ := f1_.symm; have f5_ := f3_.symm; clear f1_ f2_ f3_; subst f4_; subst f5_))
     refine hK.out _ _ ⟨(blk_cell BK241.out 0).trans rfl, (blk_cell BK241.out 1).trans rfl⟩ (fun hHeld => ?_)
     clear hK K
     refine nm ?_
     refine on 12 (some 32) #[t_,t_,t_,t_,t_,t_,t_,t_,t_,t_,t_,t_,t_,f_,f_,f_,f_] HT_ (fun K hK => ?_)
     refine goes_ Try.func71 (by kernel_rfl) rfl #[.agg #[.slice Ao46 x242000_1.length co46, .slice Ao51 x242001_1.length co51], .int .i64 t245, .int .i64 t248, .string t254] (by rfl) rfl rfl (by (try simp only [List.map_toArray, List.map_cons, List.map_nil]); first | done | rfl | (simp only [List.length_drop, List.length_take]; rfl)) ?_
     with_reducible refine (spec_WriteBytes.calls k1 _ _ x242000_1 _ _ x242001_1 t245 t248 t254 t257 t260 t263 _ ?side1 ?side2 ?side3 ?side4 A19.out).mono ?_
     (case side1 => exact cG (Kd.R_reads' HO_242000.out).2.2)
     (case side2 => exact (Kd.R_reads' HO_242000.out).2.1)
     (case side3 => exact cG (Kd.R_reads' HO_242001.out).2.2)
     (case side4 => exact (Kd.R_reads' HO_242001.out).2.1)
     rintro e w52 ⟨v258, v261, rfl, ho0, ho1, hb⟩
     refine ⟨_, rfl, ?_⟩
     replace HO259 := ak (Kd.R_lower (Kd.R_new' ho0 (Kd.R_lt (rG HO_242000))) (keep_size (w := w) (g := g) (row := none) (kT HK (gC GW230 (gC GW241 gN)))))
     replace HO_242000 := ak (Kd.R_elder' (rG HO_242000) (Kd.R_base ho0) hb)
     replace HO262 := ak (Kd.R_lower (Kd.R_new' ho1 (Kd.R_lt (rG HO_242001))) (keep_size (w := w) (g := g) (row := none) (kT HK (gC GW230 (gC GW241 gN)))))
     replace HO_242001 := ak (Kd.R_elder' (rG HO_242001) (Kd.R_base ho1) hb)
     replace BK230 := bB BK230 hb
     replace BK241 := bB BK241 hb
     replace HK := ak (KeepBut.trans (kT HK (gC GW230 (gC GW241 gN))) (KeepBut.of_below hb g none) (.inl rfl))
     replace HB := ak (below_step (lT HB (gC GE230 (gC GE241 gN))) hb)
     replace HI0 := ak (IsS80.below (IsS80.T_ HI0 (nC NB0_230 (nC NB0_241 nN))) hb)
     (try clear hb)
     (try clear hb2)
     (try clear hk)
     (try clear hi)
     (try clear ho0)
     (try clear ho1)
     obtain ⟨Ao53, co53, eo53⟩ := Kd.R_slice HO259.out
     (first | subst eo53 | (injection eo53 with f1_ f2_ f3_; have f4_ := f1_.symm; have f5_ := f3_.symm; clear f1_ f2_ f3_; subst f4_; subst f5_))
     obtain ⟨Ao55, co55, eo55⟩ := Kd.R_slice HO262.out
     (first | subst eo55 | (injection eo55 with f1_ f2_ f3_; have f4_ := f1_.symm; have f5_ := f3_.symm; clear f1_ f2_ f3_; subst f4_; subst f5_))
     refine hK.out _ _ ⟨(blk_cell BK241.out 0).trans rfl, (blk_cell BK241.out 1).trans rfl⟩ (fun hHeld => ?_)
     clear hK K
     refine nm ?_
     refine pu 13 19 #[t_,t_,t_,t_,t_,t_,t_,t_,t_,t_,t_,t_,t_,t_,f_,f_,f_] HT_ ?_
     refine pu 14 33 #[t_,t_,t_,t_,t_,t_,t_,t_,t_,t_,t_,t_,t_,t_,t_,f_,f_] HT_ ?_
     refine pu 15 34 #[t_,t_,t_,t_,t_,t_,t_,t_,t_,t_,t_,t_,t_,t_,t_,t_,f_] HT_ ?_
     refine last_ (i := 16) (N := none) #[t_,t_,t_,t_,t_,t_,t_,t_,t_,t_,t_,t_,t_,t_,t_,t_,t_] rfl rfl (one_of HT_.out (by kernel_rfl)) (by decide) (fun K hK => ?_)
     have hs54 : w52.cell? ⟨gb241, 0, none⟩ = some (.slice Ao46 x242000_1.length co46) := (blk_cell BK241.out 0).trans rfl
     have hfs54 := blk_frozen BK241.out 0
     have hns54_0 := NB230_241.out
     have hms54_0 := NB241_230.out
     have hs56 : w52.cell? ⟨gb241, 1, none⟩ = some (.slice Ao51 x242001_1.length co51) := (blk_cell BK241.out 1).trans rfl
     have hfs56 := blk_frozen BK241.out 1
     have hns56_0 := NB230_241.out
     have hms56_0 := NB241_230.out
     refine skip_ (w1 := ?_) (by rfl) rfl ?_ ?_
     rotate_left
     ·go_simp
      rfl
     refine hK.out _ _ ?_
     clear hK K
     refine done_ (done_of HT_.out (by kernel_rfl)) ?_
     try go_wp2_with (first | ((with_reducible refine gate_callee (f := 73) rfl ?_); refine gl (some 36) Try.func73 #[.pointer (some ⟨g, 0, none⟩), .int .i64 4] ?_; (with_reducible refine (spec_l01Once.calls g s0_0 t255 t256 4 false t265 t266 w0 _ ?side1 ?side2 A20.out).mono ?_); (case side1 => exact IsS80.T_ HI0 (nC NB0_230 (nC NB0_241 nN))); (case side2 => exact lT HB (gC GE230 (gC GE241 gN))); rintro e w57 ⟨rfl, hi, hb, hk⟩; refine ⟨_, rfl, ?_⟩; replace HO_242000 := ak (Kd.R_mono (Kd.R_keep (IsS80.apart (show IsS80 w0 _ g s0_0 t255 t256 from IsS80.T_ HI0 (nC NB0_230 (nC NB0_241 nN))) (rT HO_242000 BK241 (by decide)) (by decide)) hk (fun _ h => h.2)) (fun _ h => h.1)); replace HO_242001 := ak (Kd.R_mono (Kd.R_keep (IsS80.apart (show IsS80 w0 _ g s0_0 t255 t256 from IsS80.T_ HI0 (nC NB0_230 (nC NB0_241 nN))) (rT HO_242001 BK241 (by decide)) (by decide)) hk (fun _ h => h.2)) (fun _ h => h.1)); replace BK230 := ak (KeepBut.blk hk (g' := gb230) (o := .cells #[.slice none 0 0, .slice none 0 0] 27 (0, 0)) (bT BK230 (nC NB230_241 nN)) NB230_0.out (by simp)); replace HO259 := ak (Kd.R_mono (Kd.R_keep (IsS80.apart (show IsS80 w0 _ g s0_0 t255 t256 from IsS80.T_ HI0 (nC NB0_230 (nC NB0_241 nN))) (rT HO259 BK241 (by decide)) (by decide)) hk (fun _ h => h.2)) (fun _ h => h.1)); replace HO262 := ak (Kd.R_mono (Kd.R_keep (IsS80.apart (show IsS80 w0 _ g s0_0 t255 t256 from IsS80.T_ HI0 (nC NB0_230 (nC NB0_241 nN))) (rT HO262 BK241 (by decide)) (by decide)) hk (fun _ h => h.2)) (fun _ h => h.1)); replace BK241 := ak (KeepBut.blk hk (g' := gb241) (o := .cells #[.slice Ao53 t257.length co53, .slice Ao55 t260.length co55] 27 (0, 0)) (by (with_reducible repeat (first | refine blk_drewN ?_ _ | refine blk_drew ?_ | refine blk_alloc ?_ _)); refine blk_put (cs := #[.slice Ao53 t257.length co53, .slice Ao51 x242001_1.length co51]) ?_ 1 _ rfl; (with_reducible repeat (first | refine blk_drewN ?_ _ | refine blk_drew ?_ | refine blk_alloc ?_ _)); refine blk_put (cs := #[.slice Ao46 x242000_1.length co46, .slice Ao51 x242001_1.length co51]) ?_ 0 _ rfl; (with_reducible repeat (first | refine blk_drewN ?_ _ | refine blk_drew ?_ | refine blk_alloc ?_ _)); exact BK241.out) NB241_0.out (by simp)); replace HK := ak (KeepBut.trans (kT HK (gC GW230 (gC GW241 gN))) hk (.inl rfl)); replace HB := ak (hb); replace HI0 := ak (hi); (try clear hb); (try clear hk); (try clear hi)))
     go_roundg k1
     case measure => have := HK1.out; omega
     case rel => exact ⟨(wrap64 (x5_1 + 1)), (t265), (t266), (t257), (t260), (.slice Ao53 t257.length co53), (.slice Ao55 t260.length co55), (by first | rfl | (simp; done) | (simp [*]; done)), H', ⟨by have := HK1.out; omega⟩, ⟨by (with_reducible repeat (first | apply Kd.R_alloc | apply Kd.R_drewN | apply Kd.R_drew)); exact Kd.R_mono HO259.out (fun _ hk => trivial)⟩, ⟨by (with_reducible repeat (first | apply Kd.R_alloc | apply Kd.R_drewN | apply Kd.R_drew)); exact Kd.R_mono HO262.out (fun _ hk => trivial)⟩, ⟨by (with_reducible repeat (first | refine blk_drewN ?_ _ | refine blk_drew ?_ | refine blk_alloc ?_ _)); exact BK230.out⟩, ⟨by (with_reducible repeat (first | refine blk_drewN ?_ _ | refine blk_drew ?_ | refine blk_alloc ?_ _)); exact BK241.out⟩, ⟨IsS80.T_ HI0 (nC NB0_230 (nC NB0_241 nN))⟩, ⟨kT HK (gC GW230 (gC GW241 gN))⟩, ⟨lT HB (gC GE230 (gC GE241 gN))⟩⟩
   ·rw [if_neg c14] at H
    have c14b0 : decide (x5_1 < t242) = false := decide_eq_false c14
    clear c14
    simp only [Option.some.injEq, Prod.mk.injEq] at H
    obtain ⟨rfl, rfl, rfl, rfl⟩ := H
    go_wp2_with (first | ((with_reducible refine gate_callee (f := 47) rfl ?_); refine gl (some 15) Try.func47 #[.pointer (some ⟨g, 0, none⟩), .int .i64 9] ?_; (with_reducible refine (spec_l01Below.calls g s0_0 x1001_1 x1002_1 9 t242 t243 t244 w0 _ ?side1 ?side2 A13.out).mono ?_); (case side1 => exact IsS80.T_ HI0 (nC NB0_230 (nC NB0_241 nN))); (case side2 => exact lT HB (gC GE230 (gC GE241 gN))); rintro e w58 ⟨rfl, hi, hb, hk⟩; refine ⟨_, rfl, ?_⟩; replace HO_242000 := ak (Kd.R_mono (Kd.R_keep (IsS80.apart (show IsS80 w0 _ g s0_0 x1001_1 x1002_1 from IsS80.T_ HI0 (nC NB0_230 (nC NB0_241 nN))) (rG HO_242000) (by decide)) hk (fun _ h => h.2)) (fun _ h => h.1)); replace HO_242001 := ak (Kd.R_mono (Kd.R_keep (IsS80.apart (show IsS80 w0 _ g s0_0 x1001_1 x1002_1 from IsS80.T_ HI0 (nC NB0_230 (nC NB0_241 nN))) (rG HO_242001) (by decide)) hk (fun _ h => h.2)) (fun _ h => h.1)); replace BK230 := ak (KeepBut.blk hk (g' := gb230) (o := .cells #[.slice none 0 0, .slice none 0 0] 27 (0, 0)) (bG BK230) NB230_0.out (by simp)); replace BK241 := ak (KeepBut.blk hk (g' := gb241) (o := .cells #[u242000, u242001] 27 (0, 0)) (bG BK241) NB241_0.out (by simp)); replace HK := ak (KeepBut.trans (kT HK (gC GW230 (gC GW241 gN))) hk (.inl rfl)); replace HB := ak (hb); replace HI0 := ak (hi); (try clear hb); (try clear hk); (try clear hi); have hnb59 := NB241_230.out; have hnc59 := NB230_241.out; have hnb60 := NB241_0.out; have hnc60 := NB0_241.out; obtain ⟨hcz61_0, hcz61_1, hfz61_0, hfz61_1⟩ := bC2 BK241; obtain ⟨Ao62, co62, eo62⟩ := Kd.R_slice HO_242000.out; subst eo62; have hnb63 := NB230_0.out; have hnc63 := NB0_230.out; obtain ⟨hcz64_0, hcz64_1, hfz64_0, hfz64_1⟩ := bC2 BK230; obtain ⟨Ao65, co65, eo65⟩ := Kd.R_slice HO_242001.out; subst eo65))
    refine bodyPost_ret (results_cell_row rfl _ _ gb230 27 #[.slice Ao62 x242000_1.length co62, .slice Ao65 x242001_1.length co65] (0, 0) _ rfl (by (with_reducible repeat (first | refine blk_drewN ?_ _ | refine blk_drew ?_ | refine blk_alloc ?_ _)); refine blk_put (cs := #[.slice Ao62 x242000_1.length co62, .slice none 0 0]) ?_ 1 _ rfl; (with_reducible repeat (first | refine blk_drewN ?_ _ | refine blk_drew ?_ | refine blk_alloc ?_ _)); refine blk_put (cs := #[.slice none 0 0, .slice none 0 0]) ?_ 0 _ rfl; (with_reducible repeat (first | refine blk_drewN ?_ _ | refine blk_drew ?_ | refine blk_alloc ?_ _)); exact BK230.out) Try.underlying27 rfl (by kernel_rfl)) rfl ?_
    exact ⟨_, _, by first | rfl | (simp [errW_none, errW_some] <;> rfl) | (simp [*, errW_none, errW_some] <;> rfl), by (with_reducible repeat (first | apply Kd.R_alloc | apply Kd.R_drewN | apply Kd.R_drew)); exact Kd.R_mono (Kd.R_far (p := ⟨gb230, 1, none⟩) (Kd.R_far (p := ⟨gb230, 0, none⟩) (Kd.R_types HO_242000.out BK230.out (by decide)) (fun _ hk => hk.2) (.slice Ao62 x242000_1.length co62)) (fun _ hk => hk.2) (.slice Ao65 x242001_1.length co65)) (fun _ hk => trivial), by (with_reducible repeat (first | apply Kd.R_alloc | apply Kd.R_drewN | apply Kd.R_drew)); exact Kd.R_mono (Kd.R_far (p := ⟨gb230, 1, none⟩) (Kd.R_far (p := ⟨gb230, 0, none⟩) (Kd.R_types HO_242001.out BK230.out (by decide)) (fun _ hk => hk.2) (.slice Ao62 x242000_1.length co62)) (fun _ hk => hk.2) (.slice Ao65 x242001_1.length co65)) (fun _ hk => trivial), IsS80.T_ HI0 (nC NB0_230 (nC NB0_241 nN)), lT HB (gC GE230 (gC GE241 gN)), kT HK (gC GW230 (gC GW241 gN))⟩

end Go.Proofs.Ytjpngldnkgofaaa.PFnCrashes
