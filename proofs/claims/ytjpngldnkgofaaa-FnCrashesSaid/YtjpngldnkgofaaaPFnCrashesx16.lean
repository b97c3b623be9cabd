-- Written for this claim by a program of mine (a turned copy of the kit's print): functions as plain Lean, and their contracts. Lean checks it.
import Derived.Test.YtjpngldnkgofaaaPFnCrashesx0
import Derived.Test.YtjpngldnkgofaaaPFnCrashesx3
import Derived.Test.YtjpngldnkgofaaaPFnCrashesx4
import Derived.Test.YtjpngldnkgofaaaVFnCrashes1
namespace Go.Proofs.Ytjpngldnkgofaaa.PFnCrashes
open Go.RowKit Go.Proofs.YtjpngldnkgofaaaW.PrintWords Go.Proofs.YtjpngldnkgofaaaW.PrintLast Go.Proofs.YtjpngldnkgofaaaW.PrintMore
attribute [local go_sem] max2_int min2_int max_two min_two max_three min_three max_four min_four   -- for this text's walks alone
set_option linter.unusedVariables false
set_option linter.unusedSimpArgs false

/-! ### spec_CrashDisk: function 21 -/
mutual
def spec_CrashDisk.l0 : Nat → List Int → Int → Int → Int → List ByteArray → List (S63) → List ByteArray → List (S63) → Option (List ByteArray × (List (S63)))
 | 0, _, _, _, _, _, _, _, _ => none
 | k + 1, x1, x2, x8, x9, x430000, x430001, x438000, x438001 => if x9 < (x430001.length : Int) then (spec_CrashDisk.j1 k x1 x2 x8 x9 (decide (x9 < (x1.length : Int))) x430000 x430001 x438000 x438001) else (spec_CrashDisk.j1 k x1 x2 x8 x9 false x430000 x430001 x438000 x438001)
def spec_CrashDisk.j1 : Nat → List Int → Int → Int → Int → Bool → List ByteArray → List (S63) → List ByteArray → List (S63) → Option (List ByteArray × (List (S63)))
 | 0, _, _, _, _, _, _, _, _, _ => none
 | k + 1, x1, x2, x8, x9, x29, x430000, x430001, x438000, x438001 => if x29 = true then (if 0 ≤ x9 then (if x9 < (x1.length : Int) then (if (Int.tmod (rd x1 x9) 2) = 0 then (spec_CrashDisk.l0 k x1 x2 x8 (wrap64 (x9 + 1)) x430000 x430001 x438000 x438001) else (spec_CrashDisk.l0 k x1 x2 x9 (wrap64 (x9 + 1)) x430000 x430001 x438000 x438001)) else (none)) else (none)) else (if (Int.tmod x2 33) < 0 then (spec_CrashDisk.j2 k x1 x8 (wrap64 ((wrap64 ((Int.tmod x2 33) + 32)) + 1)) x430000 x430001 x438000 x438001) else (spec_CrashDisk.j2 k x1 x8 (Int.tmod x2 33) x430000 x430001 x438000 x438001))
def spec_CrashDisk.j2 : Nat → List Int → Int → Int → List ByteArray → List (S63) → List ByteArray → List (S63) → Option (List ByteArray × (List (S63)))
 | 0, _, _, _, _, _, _, _ => none
 | k + 1, x1, x8, x10, x430000, x430001, x438000, x438001 => spec_CrashDisk.l1 k x1 x8 x10 0 x430000 x430001 x438000 x438001
def spec_CrashDisk.l1 : Nat → List Int → Int → Int → Int → List ByteArray → List (S63) → List ByteArray → List (S63) → Option (List ByteArray × (List (S63)))
 | 0, _, _, _, _, _, _, _, _ => none
 | k + 1, x1, x8, x10, x11, x430000, x430001, x438000, x438001 => if x11 ≤ x8 then (if 0 ≤ x11 then (if x11 < (x1.length : Int) then (if (Int.tmod (rd x1 x11) 2) = 0 then (spec_CrashDisk.l1 k x1 x8 x10 (wrap64 (x11 + 1)) x430000 x430001 x438000 x438001) else (if x11 < (x430001.length : Int) then (if x11 = x8 then (if 0 ≤ x10 then (if x10 ≤ (((rd_T63 x430001 x11).f1).size : Int) then (if 0 ≤ ((rd_T63 x430001 x11).f0) then (if ((rd_T63 x430001 x11).f0) < (x438000.length : Int) then (if x10 ≤ ((rdOf ByteArray.empty x438000 ((rd_T63 x430001 x11).f0)).size : Int) then (if (((rd_T63 x430001 x11).f1).extract 0 (x10 : Int).toNat).size + ((rdOf ByteArray.empty x438000 ((rd_T63 x430001 x11).f0)).extract (x10 : Int).toNat (rdOf ByteArray.empty x438000 ((rd_T63 x430001 x11).f0)).size).size ≤ 9223372036854775807 then (spec_CrashDisk.l1 k x1 x8 x10 (wrap64 (x11 + 1)) x430000 x430001 (x438000.set (((rd_T63 x430001 x11).f0) : Int).toNat ((((rd_T63 x430001 x11).f1).extract 0 (x10 : Int).toNat) ++ ((rdOf ByteArray.empty x438000 ((rd_T63 x430001 x11).f0)).extract (x10 : Int).toNat (rdOf ByteArray.empty x438000 ((rd_T63 x430001 x11).f0)).size))) x438001) else (none)) else (none)) else (none)) else (none)) else (none)) else (none)) else (if 0 ≤ ((rd_T63 x430001 x11).f0) then (if ((rd_T63 x430001 x11).f0) < (x438000.length : Int) then (spec_CrashDisk.l1 k x1 x8 x10 (wrap64 (x11 + 1)) x430000 x430001 (x438000.set (((rd_T63 x430001 x11).f0) : Int).toNat ((rd_T63 x430001 x11).f1)) x438001) else (none)) else (none))) else (none))) else (none)) else (none)) else (some (x438000, (([] : List (S63)))))
end
def spec_CrashDisk.f (k : Nat) (l0_0 : List ByteArray) (l0_1 : List (S63)) (l1 : List Int) (a2 : Int) : Option (List ByteArray × (List (S63))) := (spec_l03Copy.f l0_0 l0_1).bind fun bt431 => ((spec_DiskOk.f k l0_0 l0_1).bind fun t438 => (if t438 = true then (spec_CrashDisk.l0 k l1 a2 (-1) 0 l0_0 l0_1 bt431.1 bt431.2) else (some (bt431.1, bt431.2))))
theorem spec_CrashDisk.mono_l : ∀ k, (∀ y0 y1 y2 y3 y4 y5 y6 y7, LeO (spec_CrashDisk.l0 k y0 y1 y2 y3 y4 y5 y6 y7) (spec_CrashDisk.l0 (k + 1) y0 y1 y2 y3 y4 y5 y6 y7)) ∧ (∀ y0 y1 y2 y3 y4 y5 y6 y7 y8, LeO (spec_CrashDisk.j1 k y0 y1 y2 y3 y4 y5 y6 y7 y8) (spec_CrashDisk.j1 (k + 1) y0 y1 y2 y3 y4 y5 y6 y7 y8)) ∧ (∀ y0 y1 y2 y3 y4 y5 y6, LeO (spec_CrashDisk.j2 k y0 y1 y2 y3 y4 y5 y6) (spec_CrashDisk.j2 (k + 1) y0 y1 y2 y3 y4 y5 y6)) ∧ (∀ y0 y1 y2 y3 y4 y5 y6 y7, LeO (spec_CrashDisk.l1 k y0 y1 y2 y3 y4 y5 y6 y7) (spec_CrashDisk.l1 (k + 1) y0 y1 y2 y3 y4 y5 y6 y7))
 | 0 => ⟨fun _ _ _ _ _ _ _ _ r h => by simp [spec_CrashDisk.l0] at h, fun _ _ _ _ _ _ _ _ _ r h => by simp [spec_CrashDisk.j1] at h, fun _ _ _ _ _ _ _ r h => by simp [spec_CrashDisk.j2] at h, fun _ _ _ _ _ _ _ _ r h => by simp [spec_CrashDisk.l1] at h⟩
 | k + 1 => by
  obtain ⟨ih0, ih1, ih2, ih3⟩ := spec_CrashDisk.mono_l k
  refine ⟨?_, ?_, ?_, ?_⟩
  ·intro y0 y1 y2 y3 y4 y5 y6 y7
   unfold spec_CrashDisk.l0
   repeat' first
   | (with_reducible exact ih0 _ _ _ _ _ _ _ _)
   | (with_reducible exact ih1 _ _ _ _ _ _ _ _ _)
   | (with_reducible exact ih2 _ _ _ _ _ _ _)
   | (with_reducible exact ih3 _ _ _ _ _ _ _ _)
   | (with_reducible exact spec_DiskOk.mono _ _ _)
   | (with_reducible exact LeO.refl _)
   | (with_reducible exact LeO.none _)
   | (with_reducible refine LeO.ite ?_ ?_)
   | (with_reducible refine LeO.bind ?_ (fun _ => ?_))
   | exact ih0 _ _ _ _ _ _ _ _
   | exact ih1 _ _ _ _ _ _ _ _ _
   | exact ih2 _ _ _ _ _ _ _
   | exact ih3 _ _ _ _ _ _ _ _
   | exact spec_DiskOk.mono _ _ _
   | exact LeO.none _
   | refine LeO.ite ?_ ?_
   | refine LeO.bind ?_ (fun _ => ?_)
  ·intro y0 y1 y2 y3 y4 y5 y6 y7 y8
   unfold spec_CrashDisk.j1
   repeat' first
   | (with_reducible exact ih0 _ _ _ _ _ _ _ _)
   | (with_reducible exact ih1 _ _ _ _ _ _ _ _ _)
   | (with_reducible exact ih2 _ _ _ _ _ _ _)
   | (with_reducible exact ih3 _ _ _ _ _ _ _ _)
   | (with_reducible exact spec_DiskOk.mono _ _ _)
   | (with_reducible exact LeO.refl _)
   | (with_reducible exact LeO.none _)
   | (with_reducible refine LeO.ite ?_ ?_)
   | (with_reducible refine LeO.bind ?_ (fun _ => ?_))
   | exact ih0 _ _ _ _ _ _ _ _
   | exact ih1 _ _ _ _ _ _ _ _ _
   | exact ih2 _ _ _ _ _ _ _
   | exact ih3 _ _ _ _ _ _ _ _
   | exact spec_DiskOk.mono _ _ _
   | exact LeO.none _
   | refine LeO.ite ?_ ?_
   | refine LeO.bind ?_ (fun _ => ?_)
  ·intro y0 y1 y2 y3 y4 y5 y6
   unfold spec_CrashDisk.j2
   repeat' first
   | (with_reducible exact ih0 _ _ _ _ _ _ _ _)
   | (with_reducible exact ih1 _ _ _ _ _ _ _ _ _)
   | (with_reducible exact ih2 _ _ _ _ _ _ _)
   | (with_reducible exact ih3 _ _ _ _ _ _ _ _)
   | (with_reducible exact spec_DiskOk.mono _ _ _)
   | (with_reducible exact LeO.refl _)
   | (with_reducible exact LeO.none _)
   | (with_reducible refine LeO.ite ?_ ?_)
   | (with_reducible refine LeO.bind ?_ (fun _ => ?_))
   | exact ih0 _ _ _ _ _ _ _ _
   | exact ih1 _ _ _ _ _ _ _ _ _
   | exact ih2 _ _ _ _ _ _ _
   | exact ih3 _ _ _ _ _ _ _ _
   | exact spec_DiskOk.mono _ _ _
   | exact LeO.none _
   | refine LeO.ite ?_ ?_
   | refine LeO.bind ?_ (fun _ => ?_)
  ·intro y0 y1 y2 y3 y4 y5 y6 y7
   unfold spec_CrashDisk.l1
   repeat' first
   | (with_reducible exact ih0 _ _ _ _ _ _ _ _)
   | (with_reducible exact ih1 _ _ _ _ _ _ _ _ _)
   | (with_reducible exact ih2 _ _ _ _ _ _ _)
   | (with_reducible exact ih3 _ _ _ _ _ _ _ _)
   | (with_reducible exact spec_DiskOk.mono _ _ _)
   | (with_reducible exact LeO.refl _)
   | (with_reducible exact LeO.none _)
   | (with_reducible refine LeO.ite ?_ ?_)
   | (with_reducible refine LeO.bind ?_ (fun _ => ?_))
   | exact ih0 _ _ _ _ _ _ _ _
   | exact ih1 _ _ _ _ _ _ _ _ _
   | exact ih2 _ _ _ _ _ _ _
   | exact ih3 _ _ _ _ _ _ _ _
   | exact spec_DiskOk.mono _ _ _
   | exact LeO.none _
   | refine LeO.ite ?_ ?_
   | refine LeO.bind ?_ (fun _ => ?_)
theorem spec_CrashDisk.mono : ∀ a0 a1 a2 a3 k, LeO (spec_CrashDisk.f k a0 a1 a2 a3) (spec_CrashDisk.f (k + 1) a0 a1 a2 a3) := by
 intro a0 a1 a2 a3 k
 obtain ⟨ih0, ih1, ih2, ih3⟩ := spec_CrashDisk.mono_l k
 unfold spec_CrashDisk.f
 repeat' first
   | (with_reducible exact ih0 _ _ _ _ _ _ _ _)
   | (with_reducible exact ih1 _ _ _ _ _ _ _ _ _)
   | (with_reducible exact ih2 _ _ _ _ _ _ _)
   | (with_reducible exact ih3 _ _ _ _ _ _ _ _)
   | (with_reducible exact spec_DiskOk.mono _ _ _)
   | (with_reducible exact LeO.refl _)
   | (with_reducible exact LeO.none _)
   | (with_reducible refine LeO.ite ?_ ?_)
   | (with_reducible refine LeO.bind ?_ (fun _ => ?_))
   | exact ih0 _ _ _ _ _ _ _ _
   | exact ih1 _ _ _ _ _ _ _ _ _
   | exact ih2 _ _ _ _ _ _ _
   | exact ih3 _ _ _ _ _ _ _ _
   | exact spec_DiskOk.mono _ _ _
   | exact LeO.none _
   | refine LeO.ite ?_ ?_
   | refine LeO.bind ?_ (fun _ => ?_)
def spec_CrashDisk.T19 : Bool × List (List Nat × List Nat) := (true, [([], []), ([0], [0]), ([], []), ([2], [2]), ([], []), ([4], [4]), ([], []), ([5, 6], [5, 6]), ([], []), ([8], [8]), ([], []), ([10], [10]), ([9, 11], [9, 11]), ([12], [12]), ([], []), ([13, 14], [13, 14]), ([7, 15], [7, 15]), ([1, 3, 0, 1, 2, 3, 4, 5, 6, 7, 8, 9, 10, 11, 12, 13, 14, 15, 16], [1, 3]), ([17, 16, 0, 1, 2, 3, 4, 5, 6, 7, 8, 9, 10, 11, 12, 13, 14, 15, 16], [16, 17])])
def spec_CrashDisk.B19 : List Nat := [0, 1, 0, 4, 0, 16, 0, 112, 0, 256, 0, 1024, 3840, 7936, 0, 32512, 65520, 131071, 262143]
theorem spec_CrashDisk.tab19 : rtab .any (opsOf Try.f21 19) = spec_CrashDisk.T19 := by kernel_rfl
theorem spec_CrashDisk.bits19 : waitsOk spec_CrashDisk.T19.2 spec_CrashDisk.B19 = true := by kernel_rfl
set_option maxHeartbeats 8000000 in
set_option maxRecDepth 100000 in
theorem spec_CrashDisk.calls (k : Nat) (A0_0 : Option Addr) (c0_0 : Nat) (l0_0 : List ByteArray) (A0_1 : Option Addr) (c0_1 : Nat) (l0_1 : List (S63)) (A1 : Option Addr) (c1 : Nat) (l1 : List Int) (a2 : Int) (r1 : List ByteArray) (r2 : List (S63)) (w : World) (hr0_0 : Kd.C Kd.string w A0_0 l0_0.length l0_0) (hc0_0 : l0_0.length ≤ c0_0) (hr0_1 : Kd.C k63 w A0_1 l0_1.length l0_1) (hc0_1 : l0_1.length ≤ c0_1) (hr1 : Kd.C (Kd.int .i64) w A1 l1.length l1) (hc1 : l1.length ≤ c1) (h : spec_CrashDisk.f k l0_0 l0_1 l1 a2 = some (r1, r2)) :
  Calls Try.prog 21 #[.agg #[.slice A0_0 l0_0.length c0_0, .slice A0_1 l0_1.length c0_1], .slice A1 l1.length c1, .int .i64 a2] w fun e w' => ∃ v0_ v1_ : Value, e = .returned (.agg #[v0_, v1_]) ∧ Kd.R Kd.string 9 w' w.heap.size (fun _ => True) v0_ r1 ∧ Kd.R k63 63 w' w.heap.size (fun _ => True) v1_ r2 ∧ Below w.heap.size w w' := by
 have hu27 := Try.underlying27
 have hu63 := Try.underlying63
 have HR0_0 := Aside0.mk hr0_0
 have HC0_0 := Aside0.mk hc0_0
 clear hr0_0 hc0_0
 have HR0_1 := Aside0.mk hr0_1
 have HC0_1 := Aside0.mk hc0_1
 clear hr0_1 hc0_1
 have HR1 := Aside0.mk hr1
 have HC1 := Aside0.mk hc1
 clear hr1 hc1
 have HB := ak (Below.refl w.heap.size w)
 have H : ((spec_l03Copy.f l0_0 l0_1).bind fun bt431 => ((spec_DiskOk.f k l0_0 l0_1).bind fun t438 => (if t438 = true then (spec_CrashDisk.l0 k l1 a2 (-1) 0 l0_0 l0_1 bt431.1 bt431.2) else (some (bt431.1, bt431.2))))) = some (r1, r2) := h
 clear h
 replace H := Option.bind_eq_some_iff.mp H
 obtain ⟨⟨t431, t434⟩, A40, H⟩ := H
 replace H : ((spec_DiskOk.f k l0_0 l0_1).bind fun t438 => (if t438 = true then (spec_CrashDisk.l0 k l1 a2 (-1) 0 l0_0 l0_1 t431 t434) else (some (t431, t434)))) = some (r1, r2) := H
 have A4 := Aside0.mk A40
 clear A40
 replace H := Option.bind_eq_some_iff.mp H
 obtain ⟨t438, A50, H⟩ := H
 replace H : (if t438 = true then (spec_CrashDisk.l0 k l1 a2 (-1) 0 l0_0 l0_1 t431 t434) else (some (t431, t434))) = some (r1, r2) := H
 have A5 := Aside0.mk A50
 clear A50
 by_cases c6 : t438 = true
 ·subst c6
  have H1 : (spec_CrashDisk.l0 k l1 a2 (-1) 0 l0_0 l0_1 t431 t434) = some (r1, r2) := by rw [if_pos rfl] at H; exact H
  clear H
  have H := H1
  clear H1
  have H' := Aside0.mk H
  clear H
  go_enter Try.func21, Try.ntmps21
  go_wp2_with (first | ((with_reducible refine gate_dst (N := 3) rfl ?_); (try (refine gate_guard (by rfl) ?_; dsimp only)); refine bx 3 #[.slice A0_0 l0_0.length c0_0, .slice A0_1 l0_1.length c0_1] 27 ?_; intro gb429 hg w7 hbox hb; replace BK429 := ak (hbox); replace GW429 := ak (bz hg (lG HB)); replace GE429 := ak (bz hg (lG HB)); replace HB := lB HB hb; clear hb hbox hg) | ((with_reducible refine gate_dst (N := 6) rfl ?_); (try (refine gate_guard (by rfl) ?_; dsimp only)); refine bx 6 #[.slice none 0 0, .slice none 0 0] 27 ?_; intro gb430 hg w8 hbox hb; replace BK430 := ak (hbox); replace GW430 := ak (bz hg (lT HB (gC GE429 gN))); replace GE430 := ak (bz hg (lT HB (gC GE429 gN))); replace HB := ak (below_step (lT HB (gC GE429 gN)) hb); replace NB429_430 := ak (nl hg (bG BK429)); replace NB430_429 := ak (ng hg (bG BK429)); replace BK429 := bB BK429 hb; clear hb hbox hg; have hnb9 := NB429_430.out; have hnc9 := NB430_429.out; obtain ⟨hcz10_0, hcz10_1, hfz10_0, hfz10_1⟩ := bC2 BK429) | ((with_reducible refine gate_callee (f := 58) rfl ?_); refine gl (some 14) Try.func58 #[.agg #[.slice A0_0 l0_0.length c0_0, .slice A0_1 l0_1.length c0_1]] ?_; (with_reducible refine (spec_l03Copy.calls _ _ l0_0 _ _ l0_1 t431 t434 _ ?side1 ?side2 ?side3 ?side4 A4.out).mono ?_); (case side1 => exact cG (Kd.C_below HR0_0.out HB.out)); (case side2 => exact HC0_0.out); (case side3 => exact cG (Kd.C_below HR0_1.out HB.out)); (case side4 => exact HC0_1.out); rintro e w11 ⟨v432, v435, rfl, ho0, ho1, hb⟩; refine ⟨_, rfl, ?_⟩; replace HO433 := ak (Kd.R_lower ho0 (below_size (lT HB (gC GE429 (gC GE430 gN))))); replace HO436 := ak (Kd.R_lower ho1 (below_size (lT HB (gC GE429 (gC GE430 gN))))); replace BK429 := bB BK429 hb; replace BK430 := bB BK430 hb; replace HB := ak (below_step (lT HB (gC GE429 (gC GE430 gN))) hb); (try clear hb); (try clear hk); (try clear ho0); (try clear ho1)) | ((with_reducible refine gate_dst (N := 7) rfl ?_); (try (refine gate_guard (by rfl) ?_; dsimp only)); refine bx 7 #[.slice none 0 0, .slice none 0 0] 27 ?_; intro gb437 hg w12 hbox hb; replace HO433 := rB HO433 hb; replace HO436 := rB HO436 hb; replace BK437 := ak (hbox); replace GW437 := ak (bz hg (lT HB (gC GE429 (gC GE430 gN)))); replace GE437 := ak (bz hg (lT HB (gC GE429 (gC GE430 gN)))); replace HB := ak (below_step (lT HB (gC GE429 (gC GE430 gN))) hb); replace NB429_437 := ak (nl hg (bG BK429)); replace NB437_429 := ak (ng hg (bG BK429)); replace BK429 := bB BK429 hb; replace NB430_437 := ak (nl hg (bG BK430)); replace NB437_430 := ak (ng hg (bG BK430)); replace BK430 := bB BK430 hb; clear hb hbox hg; obtain ⟨Ao13, co13, eo13⟩ := Kd.R_slice HO433.out; subst eo13; have hnb14 := NB437_429.out; have hnc14 := NB429_437.out; have hnb15 := NB437_430.out; have hnc15 := NB430_437.out; obtain ⟨hcz16_0, hcz16_1, hfz16_0, hfz16_1⟩ := bC2 BK437; obtain ⟨Ao17, co17, eo17⟩ := Kd.R_slice HO436.out; subst eo17; obtain ⟨hcz18_0, hcz18_1, hfz18_0, hfz18_1⟩ := bC2 BK429) | ((with_reducible refine gate_callee (f := 35) rfl ?_); refine gl (some 16) Try.func35 #[.agg #[.slice A0_0 l0_0.length c0_0, .slice A0_1 l0_1.length c0_1]] ?_; (with_reducible refine (spec_DiskOk.calls k _ _ l0_0 _ _ l0_1 true _ ?side1 ?side2 ?side3 ?side4 A5.out).mono ?_); (case side1 => exact Kd.C_below HR0_0.out (lT HB (gC GE429 (gC GE430 (gC GE437 gN))))); (case side2 => exact HC0_0.out); (case side3 => exact Kd.C_below HR0_1.out (lT HB (gC GE429 (gC GE430 (gC GE437 gN))))); (case side4 => exact HC0_1.out); rintro e w19 ⟨rfl, hb⟩; refine ⟨_, rfl, ?_⟩; replace HO433 := ak (Kd.R_below (rT HO433 BK437 (by decide)) hb); replace HO436 := ak (Kd.R_below (rT HO436 BK437 (by decide)) hb); replace BK429 := ak (blk_below (bT BK429 (nC NB429_437 nN)) hb); replace BK430 := ak (blk_below (bT BK430 (nC NB430_437 nN)) hb); replace BK437 := ak (blk_below (g := gb437) (o := .cells #[.slice Ao13 t431.length co13, .slice Ao17 t434.length co17] 27 (0, 0)) (by (with_reducible repeat (first | refine blk_drewN ?_ _ | refine blk_drew ?_ | refine blk_alloc ?_ _)); refine blk_put (cs := #[.slice Ao13 t431.length co13, .slice none 0 0]) ?_ 1 _ rfl; (with_reducible repeat (first | refine blk_drewN ?_ _ | refine blk_drew ?_ | refine blk_alloc ?_ _)); refine blk_put (cs := #[.slice none 0 0, .slice none 0 0]) ?_ 0 _ rfl; (with_reducible repeat (first | refine blk_drewN ?_ _ | refine blk_drew ?_ | refine blk_alloc ?_ _)); exact BK437.out) hb); replace HB := ak (below_step (lT HB (gC GE429 (gC GE430 (gC GE437 gN)))) hb); (try clear hb); (try clear hk)))
  go_loopg [8, 9] k (fun kq v8 v9 w' => ∃ (x8_1 : Int) (x9_1 : Int), v8 = .int .i64 x8_1 ∧ v9 = .int .i64 x9_1 ∧ Aside0 (spec_CrashDisk.l0 kq l1 a2 x8_1 x9_1 l0_0 l0_1 t431 t434 = some (r1, r2)) ∧ Aside0 (kq ≤ k) ∧ Aside0 (Kd.R Kd.string 9 w' w.heap.size (fun _ => True) (.slice Ao13 t431.length co13) t431) ∧ Aside0 (Kd.R k63 63 w' w.heap.size (fun _ => True) (.slice Ao17 t434.length co17) t434) ∧ Aside0 (w'.heap[gb429]? = some (.cells #[(.slice A0_0 l0_0.length c0_0), (.slice A0_1 l0_1.length c0_1)] 27 (0, 0))) ∧ Aside0 (w'.heap[gb430]? = some (.cells #[(.slice none 0 0), (.slice none 0 0)] 27 (0, 0))) ∧ Aside0 (w'.heap[gb437]? = some (.cells #[(.slice Ao13 t431.length co13), (.slice Ao17 t434.length co17)] 27 (0, 0))) ∧ Aside0 (Below w.heap.size w w'))
  case atStart => exact ⟨((-1)), (0), (by first | rfl | (simp; done) | (simp [*]; done)), (by first | rfl | (simp; done) | (simp [*]; done)), H', ⟨Nat.le_refl _⟩, ⟨by (with_reducible repeat (first | apply Kd.R_alloc | apply Kd.R_drewN | apply Kd.R_drew)); exact HO433.out⟩, ⟨by (with_reducible repeat (first | apply Kd.R_alloc | apply Kd.R_drewN | apply Kd.R_drew)); exact HO436.out⟩, ⟨by (with_reducible repeat (first | refine blk_drewN ?_ _ | refine blk_drew ?_ | refine blk_alloc ?_ _)); exact BK429.out⟩, ⟨by (with_reducible repeat (first | refine blk_drewN ?_ _ | refine blk_drew ?_ | refine blk_alloc ?_ _)); exact BK430.out⟩, ⟨by (with_reducible repeat (first | refine blk_drewN ?_ _ | refine blk_drew ?_ | refine blk_alloc ?_ _)); exact BK437.out⟩, ⟨by exact lT HB (gC GE429 (gC GE430 (gC GE437 gN)))⟩⟩
  case round =>
   clear H'
   try clear c1
   try clear c2
   try clear p2
   try clear c3
   try clear c5
   try clear c6
   try clear c9
   try clear c14
   try clear c15
   try clear hcz10_0
   try clear hcz10_1
   try clear hcz16_0
   try clear hcz16_1
   try clear hcz18_0
   try clear hcz18_1
   try clear hfz10_0
   try clear hfz10_1
   try clear hfz16_0
   try clear hfz16_1
   try clear hfz18_0
   try clear hfz18_1
   obtain ⟨x8_1, x9_1, rfl, rfl, HA, HK1, HO_438000, HO_438001, BK429, BK430, BK437, HB⟩ := hrel
   cases gk with
   | zero => exact absurd HA.out (by simp [spec_CrashDisk.l0])
   | succ k1 =>
    have H := HA.out
    clear HA
    simp only [spec_CrashDisk.l0] at H
    have HC20 := Aside0.mk H
    clear H
    go_upto_region 6 with (fail)
    go_cut [29] (fun v29 wc => ∃ (kq : Nat) (x29_19 : Bool), v29 = .bool x29_19 ∧ Aside0 (spec_CrashDisk.j1 kq l1 a2 x8_1 x9_1 x29_19 l0_0 l0_1 t431 t434 = some (r1, r2)) ∧ Aside0 (kq ≤ k1) ∧ Aside0 (Kd.R Kd.string 9 wc w.heap.size (fun _ => True) (.slice Ao13 t431.length co13) t431) ∧ Aside0 (Kd.R k63 63 wc w.heap.size (fun _ => True) (.slice Ao17 t434.length co17) t434) ∧ Aside0 (wc.heap[gb429]? = some (.cells #[(.slice A0_0 l0_0.length c0_0), (.slice A0_1 l0_1.length c0_1)] 27 (0, 0))) ∧ Aside0 (wc.heap[gb430]? = some (.cells #[(.slice none 0 0), (.slice none 0 0)] 27 (0, 0))) ∧ Aside0 (wc.heap[gb437]? = some (.cells #[(.slice Ao13 t431.length co13), (.slice Ao17 t434.length co17)] 27 (0, 0))) ∧ Aside0 (Below w.heap.size w wc))
    case first =>
     have H := HC20.out
     clear HC20
     by_cases c21 : x9_1 < (l0_1.length : Int)
     ·rw [if_pos c21] at H
      have c21b0 : decide (x9_1 < (l0_1.length : Int)) = true := decide_eq_true c21
      clear c21
      (first | rw [c21b0] | (simp only [i64_w, i32_w]; rw [c21b0]) | skip)
      have H' := Aside0.mk H
      clear H
      have hnb22 := NB429_430.out
      have hnc22 := NB430_429.out
      have hnb23 := NB429_437.out
      have hnc23 := NB437_429.out
      have hcz24_0 : wr.cell? ⟨gb429, 0, none⟩ = some (.slice A0_0 l0_0.length c0_0) := (blk_cell BK429.out 0).trans rfl
      have hcz24_1 : wr.cell? ⟨gb429, 1, none⟩ = some (.slice A0_1 l0_1.length c0_1) := (blk_cell BK429.out 1).trans rfl
      have hfz24_0 := blk_frozen BK429.out 0
      have hfz24_1 := blk_frozen BK429.out 1
      go_wp2
      go_meet
      case rel => exact ⟨_, (decide (x9_1 < (l1.length : Int))), (by first | rfl | (simp; done) | (simp [*]; done)), H', ⟨by have := HK1.out; first | omega | exact Nat.le_refl _⟩, ⟨by (with_reducible repeat (first | apply Kd.R_alloc | apply Kd.R_drewN | apply Kd.R_drew)); exact HO_438000.out⟩, ⟨by (with_reducible repeat (first | apply Kd.R_alloc | apply Kd.R_drewN | apply Kd.R_drew)); exact HO_438001.out⟩, ⟨by (with_reducible repeat (first | refine blk_drewN ?_ _ | refine blk_drew ?_ | refine blk_alloc ?_ _)); exact BK429.out⟩, ⟨by (with_reducible repeat (first | refine blk_drewN ?_ _ | refine blk_drew ?_ | refine blk_alloc ?_ _)); exact BK430.out⟩, ⟨by (with_reducible repeat (first | refine blk_drewN ?_ _ | refine blk_drew ?_ | refine blk_alloc ?_ _)); exact BK437.out⟩, ⟨by exact lT HB (gC GE429 (gC GE430 (gC GE437 gN)))⟩⟩
     ·rw [if_neg c21] at H
      have c21b0 : decide (x9_1 < (l0_1.length : Int)) = false := decide_eq_false c21
      clear c21
      (first | rw [c21b0] | (simp only [i64_w, i32_w]; rw [c21b0]) | skip)
      have H' := Aside0.mk H
      clear H
      have hnb25 := NB429_430.out
      have hnc25 := NB430_429.out
      have hnb26 := NB429_437.out
      have hnc26 := NB437_429.out
      have hcz27_0 : wr.cell? ⟨gb429, 0, none⟩ = some (.slice A0_0 l0_0.length c0_0) := (blk_cell BK429.out 0).trans rfl
      have hcz27_1 : wr.cell? ⟨gb429, 1, none⟩ = some (.slice A0_1 l0_1.length c0_1) := (blk_cell BK429.out 1).trans rfl
      have hfz27_0 := blk_frozen BK429.out 0
      have hfz27_1 := blk_frozen BK429.out 1
      go_wp2
      go_meet
      case rel => exact ⟨_, (false), (by first | rfl | (simp; done) | (simp [*]; done)), H', ⟨by have := HK1.out; first | omega | exact Nat.le_refl _⟩, ⟨by (with_reducible repeat (first | apply Kd.R_alloc | apply Kd.R_drewN | apply Kd.R_drew)); exact HO_438000.out⟩, ⟨by (with_reducible repeat (first | apply Kd.R_alloc | apply Kd.R_drewN | apply Kd.R_drew)); exact HO_438001.out⟩, ⟨by (with_reducible repeat (first | refine blk_drewN ?_ _ | refine blk_drew ?_ | refine blk_alloc ?_ _)); exact BK429.out⟩, ⟨by (with_reducible repeat (first | refine blk_drewN ?_ _ | refine blk_drew ?_ | refine blk_alloc ?_ _)); exact BK430.out⟩, ⟨by (with_reducible repeat (first | refine blk_drewN ?_ _ | refine blk_drew ?_ | refine blk_alloc ?_ _)); exact BK437.out⟩, ⟨by exact lT HB (gC GE429 (gC GE430 (gC GE437 gN)))⟩⟩
    case rest =>
     clear HC20
     try clear c1
     try clear c2
     try clear p2
     try clear c3
     try clear c5
     try clear c6
     try clear c9
     try clear c14
     try clear c15
     try clear c21
     try clear c21b0
     try clear c22
     try clear c23
     try clear c25
     try clear c26
     try clear hcz10_0
     try clear hcz10_1
     try clear hcz16_0
     try clear hcz16_1
     try clear hcz18_0
     try clear hcz18_1
     try clear hcz24_0
     try clear hcz24_1
     try clear hcz27_0
     try clear hcz27_1
     try clear hfz10_0
     try clear hfz10_1
     try clear hfz16_0
     try clear hfz16_1
     try clear hfz18_0
     try clear hfz18_1
     try clear hfz24_0
     try clear hfz24_1
     try clear hfz27_0
     try clear hfz27_1
     try clear p2
     obtain ⟨kq, x29_19, rfl, HA, HJ19, HO_438000, HO_438001, BK429, BK430, BK437, HB⟩ := hcut
     cases kq with
     | zero => exact absurd HA.out (by simp [spec_CrashDisk.j1])
     | succ kj19 =>
      have H := HA.out
      clear HA
      simp only [spec_CrashDisk.j1] at H
      by_cases c28 : x29_19 = true
      ·subst c28
       have H1 : (if 0 ≤ x9_1 then (if x9_1 < (l1.length : Int) then (if (Int.tmod (rd l1 x9_1) 2) = 0 then (spec_CrashDisk.l0 kj19 l1 a2 x8_1 (wrap64 (x9_1 + 1)) l0_0 l0_1 t431 t434) else (spec_CrashDisk.l0 kj19 l1 a2 x9_1 (wrap64 (x9_1 + 1)) l0_0 l0_1 t431 t434)) else (none)) else (none)) = some (r1, r2) := by rw [if_pos rfl] at H; exact H
       clear H
       have H := H1
       clear H1
       by_cases c29 : 0 ≤ x9_1
       ·rw [if_pos c29] at H
        have c29b0 : decide (0 ≤ x9_1) = true := decide_eq_true c29
        clear c29
        by_cases c30 : x9_1 < (l1.length : Int)
        ·rw [if_pos c30] at H
         have c30b0 : decide (x9_1 < (l1.length : Int)) = true := decide_eq_true c30
         clear c30
         by_cases c31 : (Int.tmod (rd l1 x9_1) 2) = 0
         ·rw [if_pos c31] at H
          have c31b0 : ((Int.tmod (rd l1 x9_1) 2) == 0) = true := beq_iff_eq.mpr c31
          have c31b1 : ((Int.tmod (rd l1 x9_1) 2) != 0) = false := bne_eq_false_iff_eq.mpr c31
          clear c31
          have H' := Aside0.mk H
          clear H
          have p439 : 0 ≤ (x9_1 : Int) := of_decide_eq_true (by first | (with_reducible assumption) | assumption)
          have q439 : x9_1 < (l1.length : Int) := of_decide_eq_true (by first | (with_reducible assumption) | assumption)
          obtain ⟨ad439, e439, hx439_0⟩ := Kd.at_int HR1.out x9_1 p439 q439
          cases e439
          replace hx439_0 := (HB.out.cell (World.block_lt_of_cell? w _ hx439_0)).trans hx439_0
          replace p439 := eq_true p439
          replace q439 := eq_true q439
          go_wp2
          go_roundg kj19
          case measure => have := HK1.out; have := HJ19.out; omega
          case rel => exact ⟨(x8_1), (wrap64 (x9_1 + 1)), (by first | rfl | (simp; done) | (simp [*]; done)), (by first | rfl | (simp; done) | (simp [*]; done)), H', ⟨by have := HK1.out; have := HJ19.out; omega⟩, ⟨by (with_reducible repeat (first | apply Kd.R_alloc | apply Kd.R_drewN | apply Kd.R_drew)); exact HO_438000.out⟩, ⟨by (with_reducible repeat (first | apply Kd.R_alloc | apply Kd.R_drewN | apply Kd.R_drew)); exact HO_438001.out⟩, ⟨by (with_reducible repeat (first | refine blk_drewN ?_ _ | refine blk_drew ?_ | refine blk_alloc ?_ _)); exact BK429.out⟩, ⟨by (with_reducible repeat (first | refine blk_drewN ?_ _ | refine blk_drew ?_ | refine blk_alloc ?_ _)); exact BK430.out⟩, ⟨by (with_reducible repeat (first | refine blk_drewN ?_ _ | refine blk_drew ?_ | refine blk_alloc ?_ _)); exact BK437.out⟩, ⟨by exact lT HB (gC GE429 (gC GE430 (gC GE437 gN)))⟩⟩
         ·rw [if_neg c31] at H
          have c31b0 : ((Int.tmod (rd l1 x9_1) 2) == 0) = false := beq_eq_false_iff_ne.mpr c31
          have c31b1 : ((Int.tmod (rd l1 x9_1) 2) != 0) = true := bne_iff_ne.mpr c31
          have H' := Aside0.mk H
          clear H
          have p439 : 0 ≤ (x9_1 : Int) := of_decide_eq_true (by first | (with_reducible assumption) | assumption)
          have q439 : x9_1 < (l1.length : Int) := of_decide_eq_true (by first | (with_reducible assumption) | assumption)
          obtain ⟨ad439, e439, hx439_0⟩ := Kd.at_int HR1.out x9_1 p439 q439
          cases e439
          replace hx439_0 := (HB.out.cell (World.block_lt_of_cell? w _ hx439_0)).trans hx439_0
          replace p439 := eq_true p439
          replace q439 := eq_true q439
          go_wp2
          go_roundg kj19
          case measure => have := HK1.out; have := HJ19.out; omega
          case rel => exact ⟨(x9_1), (wrap64 (x9_1 + 1)), (by first | rfl | (simp; done) | (simp [*]; done)), (by first | rfl | (simp; done) | (simp [*]; done)), H', ⟨by have := HK1.out; have := HJ19.out; omega⟩, ⟨by (with_reducible repeat (first | apply Kd.R_alloc | apply Kd.R_drewN | apply Kd.R_drew)); exact HO_438000.out⟩, ⟨by (with_reducible repeat (first | apply Kd.R_alloc | apply Kd.R_drewN | apply Kd.R_drew)); exact HO_438001.out⟩, ⟨by (with_reducible repeat (first | refine blk_drewN ?_ _ | refine blk_drew ?_ | refine blk_alloc ?_ _)); exact BK429.out⟩, ⟨by (with_reducible repeat (first | refine blk_drewN ?_ _ | refine blk_drew ?_ | refine blk_alloc ?_ _)); exact BK430.out⟩, ⟨by (with_reducible repeat (first | refine blk_drewN ?_ _ | refine blk_drew ?_ | refine blk_alloc ?_ _)); exact BK437.out⟩, ⟨by exact lT HB (gC GE429 (gC GE430 (gC GE437 gN)))⟩⟩
        ·rw [if_neg c30] at H
         exact absurd H (by simp)
       ·rw [if_neg c29] at H
        exact absurd H (by simp)
      ·replace c28 := Bool.eq_false_iff.mpr c28
       subst c28
       have H1 : (if (Int.tmod a2 33) < 0 then (spec_CrashDisk.j2 kj19 l1 x8_1 (wrap64 ((wrap64 ((Int.tmod a2 33) + 32)) + 1)) l0_0 l0_1 t431 t434) else (spec_CrashDisk.j2 kj19 l1 x8_1 (Int.tmod a2 33) l0_0 l0_1 t431 t434)) = some (r1, r2) := by rw [if_neg (show ¬ (false = true) by decide)] at H; exact H
       clear H
       have H := H1
       clear H1
       have HC32 := Aside0.mk H
       clear H
       go_upto_if 42 with (fail)
       go_cut [10] (fun v10 wc => ∃ (kq : Nat) (x10_31 : Int), v10 = .int .i64 x10_31 ∧ Aside0 (spec_CrashDisk.j2 kq l1 x8_1 x10_31 l0_0 l0_1 t431 t434 = some (r1, r2)) ∧ Aside0 (kq ≤ kj19) ∧ Aside0 (Kd.R Kd.string 9 wc w.heap.size (fun _ => True) (.slice Ao13 t431.length co13) t431) ∧ Aside0 (Kd.R k63 63 wc w.heap.size (fun _ => True) (.slice Ao17 t434.length co17) t434) ∧ Aside0 (wc.heap[gb429]? = some (.cells #[(.slice A0_0 l0_0.length c0_0), (.slice A0_1 l0_1.length c0_1)] 27 (0, 0))) ∧ Aside0 (wc.heap[gb430]? = some (.cells #[(.slice none 0 0), (.slice none 0 0)] 27 (0, 0))) ∧ Aside0 (wc.heap[gb437]? = some (.cells #[(.slice Ao13 t431.length co13), (.slice Ao17 t434.length co17)] 27 (0, 0))) ∧ Aside0 (Below w.heap.size w wc))
       case first =>
        have H := HC32.out
        clear HC32
        by_cases c33 : (Int.tmod a2 33) < 0
        ·rw [if_pos c33] at H
         have c33b0 : decide ((Int.tmod a2 33) < 0) = true := decide_eq_true c33
         clear c33
         (first | rw [c33b0] | (simp only [i64_w, i32_w]; rw [c33b0]) | skip)
         have H' := Aside0.mk H
         clear H
         go_wp2
         go_meet
         case rel => exact ⟨_, (wrap64 ((wrap64 ((Int.tmod a2 33) + 32)) + 1)), (by first | rfl | (simp; done) | (simp [*]; done)), H', ⟨by have := HK1.out; have := HJ19.out; first | omega | exact Nat.le_refl _⟩, ⟨by (with_reducible repeat (first | apply Kd.R_alloc | apply Kd.R_drewN | apply Kd.R_drew)); exact HO_438000.out⟩, ⟨by (with_reducible repeat (first | apply Kd.R_alloc | apply Kd.R_drewN | apply Kd.R_drew)); exact HO_438001.out⟩, ⟨by (with_reducible repeat (first | refine blk_drewN ?_ _ | refine blk_drew ?_ | refine blk_alloc ?_ _)); exact BK429.out⟩, ⟨by (with_reducible repeat (first | refine blk_drewN ?_ _ | refine blk_drew ?_ | refine blk_alloc ?_ _)); exact BK430.out⟩, ⟨by (with_reducible repeat (first | refine blk_drewN ?_ _ | refine blk_drew ?_ | refine blk_alloc ?_ _)); exact BK437.out⟩, ⟨by exact lT HB (gC GE429 (gC GE430 (gC GE437 gN)))⟩⟩
        ·rw [if_neg c33] at H
         have c33b0 : decide ((Int.tmod a2 33) < 0) = false := decide_eq_false c33
         clear c33
         (first | rw [c33b0] | (simp only [i64_w, i32_w]; rw [c33b0]) | skip)
         have H' := Aside0.mk H
         clear H
         go_wp2
         go_meet
         case rel => exact ⟨_, (Int.tmod a2 33), (by first | rfl | (simp; done) | (simp [*]; done)), H', ⟨by have := HK1.out; have := HJ19.out; first | omega | exact Nat.le_refl _⟩, ⟨by (with_reducible repeat (first | apply Kd.R_alloc | apply Kd.R_drewN | apply Kd.R_drew)); exact HO_438000.out⟩, ⟨by (with_reducible repeat (first | apply Kd.R_alloc | apply Kd.R_drewN | apply Kd.R_drew)); exact HO_438001.out⟩, ⟨by (with_reducible repeat (first | refine blk_drewN ?_ _ | refine blk_drew ?_ | refine blk_alloc ?_ _)); exact BK429.out⟩, ⟨by (with_reducible repeat (first | refine blk_drewN ?_ _ | refine blk_drew ?_ | refine blk_alloc ?_ _)); exact BK430.out⟩, ⟨by (with_reducible repeat (first | refine blk_drewN ?_ _ | refine blk_drew ?_ | refine blk_alloc ?_ _)); exact BK437.out⟩, ⟨by exact lT HB (gC GE429 (gC GE430 (gC GE437 gN)))⟩⟩
       case rest =>
        clear HC32
        try clear c1
        try clear c2
        try clear p2
        try clear c3
        try clear p4
        try clear q4
        try clear hx4
        try clear c5
        try clear c6
        try clear p6
        try clear c9
        try clear c14
        try clear c15
        try clear c21
        try clear c21b0
        try clear c22
        try clear c23
        try clear c25
        try clear c26
        try clear c28
        try clear c29
        try clear c29b0
        try clear c30
        try clear c30b0
        try clear c31
        try clear c31b0
        try clear c31b1
        try clear c33
        try clear c33b0
        try clear hcz10_0
        try clear hcz10_1
        try clear hcz16_0
        try clear hcz16_1
        try clear hcz18_0
        try clear hcz18_1
        try clear hcz24_0
        try clear hcz24_1
        try clear hcz27_0
        try clear hcz27_1
        try clear hfz10_0
        try clear hfz10_1
        try clear hfz16_0
        try clear hfz16_1
        try clear hfz18_0
        try clear hfz18_1
        try clear hfz24_0
        try clear hfz24_1
        try clear hfz27_0
        try clear hfz27_1
        try clear hx439_0
        try clear p2
        try clear p439
        try clear q439
        obtain ⟨kq, x10_31, rfl, HA, HJ31, HO_438000, HO_438001, BK429, BK430, BK437, HB⟩ := hcut
        cases kq with
        | zero => exact absurd HA.out (by simp [spec_CrashDisk.j2])
        | succ kj31 =>
         have H := HA.out
         clear HA
         simp only [spec_CrashDisk.j2] at H
         have H' := Aside0.mk H
         clear H
         go_wp2
         go_loopg [11] kj31 (fun kq v11 w' => ∃ (x11_4 : Int) (x438000_4 : List ByteArray) (u438000 : Value), v11 = .int .i64 x11_4 ∧ Aside0 (spec_CrashDisk.l1 kq l1 x8_1 x10_31 x11_4 l0_0 l0_1 x438000_4 t434 = some (r1, r2)) ∧ Aside0 (kq ≤ kj31) ∧ Aside0 (Kd.R Kd.string 9 w' w.heap.size (fun _ => True) u438000 x438000_4) ∧ Aside0 (Kd.R k63 63 w' w.heap.size (fun _ => True) (.slice Ao17 t434.length co17) t434) ∧ Aside0 (w'.heap[gb429]? = some (.cells #[(.slice A0_0 l0_0.length c0_0), (.slice A0_1 l0_1.length c0_1)] 27 (0, 0))) ∧ Aside0 (w'.heap[gb430]? = some (.cells #[(.slice none 0 0), (.slice none 0 0)] 27 (0, 0))) ∧ Aside0 (w'.heap[gb437]? = some (.cells #[u438000, (.slice Ao17 t434.length co17)] 27 (0, 0))) ∧ Aside0 (Below w.heap.size w w'))
         case atStart => exact ⟨(0), (t431), (.slice Ao13 t431.length co13), (by first | rfl | (simp; done) | (simp [*]; done)), H', ⟨Nat.le_refl _⟩, ⟨by (with_reducible repeat (first | apply Kd.R_alloc | apply Kd.R_drewN | apply Kd.R_drew)); exact HO_438000.out⟩, ⟨by (with_reducible repeat (first | apply Kd.R_alloc | apply Kd.R_drewN | apply Kd.R_drew)); exact HO_438001.out⟩, ⟨by (with_reducible repeat (first | refine blk_drewN ?_ _ | refine blk_drew ?_ | refine blk_alloc ?_ _)); exact BK429.out⟩, ⟨by (with_reducible repeat (first | refine blk_drewN ?_ _ | refine blk_drew ?_ | refine blk_alloc ?_ _)); exact BK430.out⟩, ⟨by (with_reducible repeat (first | refine blk_drewN ?_ _ | refine blk_drew ?_ | refine blk_alloc ?_ _)); exact BK437.out⟩, ⟨by exact lT HB (gC GE429 (gC GE430 (gC GE437 gN)))⟩⟩
         case round =>
          clear H'
          try clear c1
          try clear c2
          try clear p2
          try clear c3
          try clear p4
          try clear q4
          try clear hx4
          try clear c5
          try clear c6
          try clear p6
          try clear c9
          try clear c14
          try clear c15
          try clear c21
          try clear c21b0
          try clear c22
          try clear c23
          try clear c25
          try clear c26
          try clear c28
          try clear c29
          try clear c29b0
          try clear c30
          try clear c30b0
          try clear c31
          try clear c31b0
          try clear c31b1
          try clear c33
          try clear c33b0
          try clear hcz10_0
          try clear hcz10_1
          try clear hcz16_0
          try clear hcz16_1
          try clear hcz18_0
          try clear hcz18_1
          try clear hcz24_0
          try clear hcz24_1
          try clear hcz27_0
          try clear hcz27_1
          try clear hfz10_0
          try clear hfz10_1
          try clear hfz16_0
          try clear hfz16_1
          try clear hfz18_0
          try clear hfz18_1
          try clear hfz24_0
          try clear hfz24_1
          try clear hfz27_0
          try clear hfz27_1
          try clear hx439_0
          try clear p2
          try clear p4
          try clear p439
          try clear p6
          try clear q4
          try clear q439
          obtain ⟨x11_4, x438000_4, u438000, rfl, HA, HK4, HO_438000, HO_438001, BK429, BK430, BK437, HB⟩ := hrel
          cases gk with
          | zero => exact absurd HA.out (by simp [spec_CrashDisk.l1])
          | succ k4 =>
           have H := HA.out
           clear HA
           simp only [spec_CrashDisk.l1] at H
           by_cases c34 : x11_4 ≤ x8_1
           ·rw [if_pos c34] at H
            have c34b0 : decide (x11_4 ≤ x8_1) = true := decide_eq_true c34
            clear c34
            by_cases c35 : 0 ≤ x11_4
            ·rw [if_pos c35] at H
             have c35b0 : decide (0 ≤ x11_4) = true := decide_eq_true c35
             clear c35
             by_cases c36 : x11_4 < (l1.length : Int)
             ·rw [if_pos c36] at H
              have c36b0 : decide (x11_4 < (l1.length : Int)) = true := decide_eq_true c36
              clear c36
              by_cases c37 : (Int.tmod (rd l1 x11_4) 2) = 0
              ·rw [if_pos c37] at H
               have c37b0 : ((Int.tmod (rd l1 x11_4) 2) == 0) = true := beq_iff_eq.mpr c37
               have c37b1 : ((Int.tmod (rd l1 x11_4) 2) != 0) = false := bne_eq_false_iff_eq.mpr c37
               clear c37
               have H' := Aside0.mk H
               clear H
               have p443 : 0 ≤ (x11_4 : Int) := of_decide_eq_true (by first | (with_reducible assumption) | assumption)
               have q443 : x11_4 < (l1.length : Int) := of_decide_eq_true (by first | (with_reducible assumption) | assumption)
               obtain ⟨ad443, e443, hx443_0⟩ := Kd.at_int HR1.out x11_4 p443 q443
               cases e443
               replace hx443_0 := (HB.out.cell (World.block_lt_of_cell? w _ hx443_0)).trans hx443_0
               replace p443 := eq_true p443
               replace q443 := eq_true q443
               go_wp2
               go_roundg k4
               case measure => have := HK1.out; have := HJ19.out; have := HJ31.out; have := HK4.out; omega
               case rel => exact ⟨(wrap64 (x11_4 + 1)), (x438000_4), (u438000), (by first | rfl | (simp; done) | (simp [*]; done)), H', ⟨by have := HK1.out; have := HJ19.out; have := HJ31.out; have := HK4.out; omega⟩, ⟨by (with_reducible repeat (first | apply Kd.R_alloc | apply Kd.R_drewN | apply Kd.R_drew)); exact HO_438000.out⟩, ⟨by (with_reducible repeat (first | apply Kd.R_alloc | apply Kd.R_drewN | apply Kd.R_drew)); exact HO_438001.out⟩, ⟨by (with_reducible repeat (first | refine blk_drewN ?_ _ | refine blk_drew ?_ | refine blk_alloc ?_ _)); exact BK429.out⟩, ⟨by (with_reducible repeat (first | refine blk_drewN ?_ _ | refine blk_drew ?_ | refine blk_alloc ?_ _)); exact BK430.out⟩, ⟨by (with_reducible repeat (first | refine blk_drewN ?_ _ | refine blk_drew ?_ | refine blk_alloc ?_ _)); exact BK437.out⟩, ⟨by exact lT HB (gC GE429 (gC GE430 (gC GE437 gN)))⟩⟩
              ·rw [if_neg c37] at H
               have c37b0 : ((Int.tmod (rd l1 x11_4) 2) == 0) = false := beq_eq_false_iff_ne.mpr c37
               have c37b1 : ((Int.tmod (rd l1 x11_4) 2) != 0) = true := bne_iff_ne.mpr c37
               by_cases c38 : x11_4 < (l0_1.length : Int)
               ·rw [if_pos c38] at H
                have c38b0 : decide (x11_4 < (l0_1.length : Int)) = true := decide_eq_true c38
                clear c38
                by_cases c39 : x11_4 = x8_1
                ·rw [if_pos c39] at H
                 have c39b0 : (x11_4 == x8_1) = true := beq_iff_eq.mpr c39
                 have c39b1 : (x11_4 != x8_1) = false := bne_eq_false_iff_eq.mpr c39
                 clear c39
                 by_cases c40 : 0 ≤ x10_31
                 ·rw [if_pos c40] at H
                  have c40b0 := eq_true c40
                  have c40b1 : decide (0 ≤ x10_31) = true := decide_eq_true c40
                  clear c40
                  by_cases c41 : x10_31 ≤ (((rd_T63 l0_1 x11_4).f1).size : Int)
                  ·rw [if_pos c41] at H
                   have c41b0 := eq_true c41
                   have c41b1 : decide (x10_31 ≤ (((rd_T63 l0_1 x11_4).f1).size : Int)) = true := decide_eq_true c41
                   clear c41
                   by_cases c42 : 0 ≤ ((rd_T63 l0_1 x11_4).f0)
                   ·rw [if_pos c42] at H
                    have c42b0 : decide (0 ≤ ((rd_T63 l0_1 x11_4).f0)) = true := decide_eq_true c42
                    clear c42
                    by_cases c43 : ((rd_T63 l0_1 x11_4).f0) < (x438000_4.length : Int)
                    ·rw [if_pos c43] at H
                     have c43b0 : decide (((rd_T63 l0_1 x11_4).f0) < (x438000_4.length : Int)) = true := decide_eq_true c43
                     clear c43
                     have c44b0 := eq_true (of_decide_eq_true (by first | (with_reducible assumption) | assumption) : 0 ≤ x10_31)
                     by_cases c45 : x10_31 ≤ ((rdOf ByteArray.empty x438000_4 ((rd_T63 l0_1 x11_4).f0)).size : Int)
                     ·rw [if_pos c45] at H
                      have c45b0 := eq_true c45
                      have c45b1 : decide (x10_31 ≤ ((rdOf ByteArray.empty x438000_4 ((rd_T63 l0_1 x11_4).f0)).size : Int)) = true := decide_eq_true c45
                      clear c45
                      by_cases c46 : (((rd_T63 l0_1 x11_4).f1).extract 0 (x10_31 : Int).toNat).size + ((rdOf ByteArray.empty x438000_4 ((rd_T63 l0_1 x11_4).f0)).extract (x10_31 : Int).toNat (rdOf ByteArray.empty x438000_4 ((rd_T63 l0_1 x11_4).f0)).size).size ≤ 9223372036854775807
                      ·rw [if_pos c46] at H
                       have c46b0 := eq_true c46
                       have c46b1 : decide ((((rd_T63 l0_1 x11_4).f1).extract 0 (x10_31 : Int).toNat).size + ((rdOf ByteArray.empty x438000_4 ((rd_T63 l0_1 x11_4).f0)).extract (x10_31 : Int).toNat (rdOf ByteArray.empty x438000_4 ((rd_T63 l0_1 x11_4).f0)).size).size ≤ 9223372036854775807) = true := decide_eq_true c46
                       try have c46b2 : (9223372036854775807 < (((rd_T63 l0_1 x11_4).f1).extract 0 (x10_31 : Int).toNat).size + ((rdOf ByteArray.empty x438000_4 ((rd_T63 l0_1 x11_4).f0)).extract (x10_31 : Int).toNat (rdOf ByteArray.empty x438000_4 ((rd_T63 l0_1 x11_4).f0)).size).size) = False := eq_false (Nat.not_lt.2 c46)
                       try have c46b9 : (9223372036854775807 < (x10_31 : Int).toNat + ((rdOf ByteArray.empty x438000_4 ((rd_T63 l0_1 x11_4).f0)).size - (x10_31 : Int).toNat)) = False := eq_false (by have h_ := c46; (try have h21_ := of_eq_true c21b0); (try have g21_ := of_decide_eq_true c21b0); (try have h29_ := of_eq_true c29b0); (try have g29_ := of_decide_eq_true c29b0); (try have h33_ := of_eq_true c33b0); (try have g33_ := of_decide_eq_true c33b0); (try have h34_ := of_eq_true c34b0); (try have g34_ := of_decide_eq_true c34b0); (try have h35_ := of_eq_true c35b0); (try have g35_ := of_decide_eq_true c35b0); (try have h36_ := of_eq_true c36b0); (try have g36_ := of_decide_eq_true c36b0); (try have h38_ := of_eq_true c38b0); (try have g38_ := of_decide_eq_true c38b0); (try have h40_ := of_eq_true c40b0); (try have g40_ := of_decide_eq_true c40b0); (try have h41_ := of_eq_true c41b0); (try have g41_ := of_decide_eq_true c41b0); (try have h42_ := of_eq_true c42b0); (try have g42_ := of_decide_eq_true c42b0); (try have h43_ := of_eq_true c43b0); (try have g43_ := of_decide_eq_true c43b0); (try have h45_ := of_eq_true c45b0); (try have g45_ := of_decide_eq_true c45b0); simp only [ByteArray.size_extract] at h_; omega)
                       try have c46b7 : (9223372036854775807 < min (x10_31 : Int).toNat ((rd_T63 l0_1 x11_4).f1).size + ((rdOf ByteArray.empty x438000_4 ((rd_T63 l0_1 x11_4).f0)).size - (x10_31 : Int).toNat)) = False := eq_false (by have h_ := c46; (try have h21_ := of_eq_true c21b0); (try have g21_ := of_decide_eq_true c21b0); (try have h29_ := of_eq_true c29b0); (try have g29_ := of_decide_eq_true c29b0); (try have h33_ := of_eq_true c33b0); (try have g33_ := of_decide_eq_true c33b0); (try have h34_ := of_eq_true c34b0); (try have g34_ := of_decide_eq_true c34b0); (try have h35_ := of_eq_true c35b0); (try have g35_ := of_decide_eq_true c35b0); (try have h36_ := of_eq_true c36b0); (try have g36_ := of_decide_eq_true c36b0); (try have h38_ := of_eq_true c38b0); (try have g38_ := of_decide_eq_true c38b0); (try have h40_ := of_eq_true c40b0); (try have g40_ := of_decide_eq_true c40b0); (try have h41_ := of_eq_true c41b0); (try have g41_ := of_decide_eq_true c41b0); (try have h42_ := of_eq_true c42b0); (try have g42_ := of_decide_eq_true c42b0); (try have h43_ := of_eq_true c43b0); (try have g43_ := of_decide_eq_true c43b0); (try have h45_ := of_eq_true c45b0); (try have g45_ := of_decide_eq_true c45b0); simp only [ByteArray.size_extract] at h_; omega)
                       try have c46b8 : (9223372036854775807 < (rdOf ByteArray.empty x438000_4 ((rd_T63 l0_1 x11_4).f0)).size) = False := eq_false (by have h_ := c46; (try have h21_ := of_eq_true c21b0); (try have g21_ := of_decide_eq_true c21b0); (try have h29_ := of_eq_true c29b0); (try have g29_ := of_decide_eq_true c29b0); (try have h33_ := of_eq_true c33b0); (try have g33_ := of_decide_eq_true c33b0); (try have h34_ := of_eq_true c34b0); (try have g34_ := of_decide_eq_true c34b0); (try have h35_ := of_eq_true c35b0); (try have g35_ := of_decide_eq_true c35b0); (try have h36_ := of_eq_true c36b0); (try have g36_ := of_decide_eq_true c36b0); (try have h38_ := of_eq_true c38b0); (try have g38_ := of_decide_eq_true c38b0); (try have h40_ := of_eq_true c40b0); (try have g40_ := of_decide_eq_true c40b0); (try have h41_ := of_eq_true c41b0); (try have g41_ := of_decide_eq_true c41b0); (try have h42_ := of_eq_true c42b0); (try have g42_ := of_decide_eq_true c42b0); (try have h43_ := of_eq_true c43b0); (try have g43_ := of_decide_eq_true c43b0); (try have h45_ := of_eq_true c45b0); (try have g45_ := of_decide_eq_true c45b0); simp only [ByteArray.size_extract] at h_; omega)
                       obtain ⟨y447, hy447⟩ : ∃ y_ : List ByteArray, y_ = (x438000_4.set (((rd_T63 l0_1 x11_4).f0) : Int).toNat ((((rd_T63 l0_1 x11_4).f1).extract 0 (x10_31 : Int).toNat) ++ ((rdOf ByteArray.empty x438000_4 ((rd_T63 l0_1 x11_4).f0)).extract (x10_31 : Int).toNat (rdOf ByteArray.empty x438000_4 ((rd_T63 l0_1 x11_4).f0)).size))) := ⟨_, rfl⟩
                       replace H : (spec_CrashDisk.l1 k4 l1 x8_1 x10_31 (wrap64 (x11_4 + 1)) l0_0 l0_1 y447 t434) = some (r1, r2) := by first | (rw [hy447]; with_reducible exact H) | (have H2_ := (Option.bind_some _ _).symm.trans H; rw [hy447]; with_reducible exact H2_) | (have H2_ := (Option.bind_some _ _).symm.trans H; with_reducible exact H2_) | with_reducible exact H | (rw [hy447]; exact H) | exact H
                       have Ny447 := Aside0.mk hy447
                       clear hy447
                       have H' := Aside0.mk H
                       clear H
                       have p443 : 0 ≤ (x11_4 : Int) := of_decide_eq_true (by first | (with_reducible assumption) | assumption)
                       have q443 : x11_4 < (l1.length : Int) := of_decide_eq_true (by first | (with_reducible assumption) | assumption)
                       obtain ⟨ad443, e443, hx443_0⟩ := Kd.at_int HR1.out x11_4 p443 q443
                       cases e443
                       replace hx443_0 := (HB.out.cell (World.block_lt_of_cell? w _ hx443_0)).trans hx443_0
                       replace p443 := eq_true p443
                       replace q443 := eq_true q443
                       have hnb48 := NB429_430.out
                       have hnc48 := NB430_429.out
                       have hnb49 := NB429_437.out
                       have hnc49 := NB437_429.out
                       have hcz50_0 : wr.cell? ⟨gb429, 0, none⟩ = some (.slice A0_0 l0_0.length c0_0) := (blk_cell BK429.out 0).trans rfl
                       have hcz50_1 : wr.cell? ⟨gb429, 1, none⟩ = some (.slice A0_1 l0_1.length c0_1) := (blk_cell BK429.out 1).trans rfl
                       have hfz50_0 := blk_frozen BK429.out 0
                       have hfz50_1 := blk_frozen BK429.out 1
                       have p444 : 0 ≤ (x11_4 : Int) := of_decide_eq_true (by first | (with_reducible assumption) | assumption)
                       have q444 : x11_4 < (l0_1.length : Int) := of_decide_eq_true (by first | (with_reducible assumption) | assumption)
                       obtain ⟨ad444, e444, hx444_0, hx444_1⟩ := at_T63 HR0_1.out x11_4 p444 q444
                       cases e444
                       replace hx444_0 := (HB.out.cell (World.block_lt_of_cell? w _ hx444_0)).trans hx444_0
                       replace hx444_1 := (HB.out.cell (World.block_lt_of_cell? w _ hx444_1)).trans hx444_1
                       replace p444 := eq_true p444
                       replace q444 := eq_true q444
                       try go_wp2_with (first | ((with_reducible refine gate_dst (N := 12) rfl ?_); (try (refine gate_guard (by rfl) ?_; dsimp only)); refine bx 12 #[.int .i64 0, .string (⟨#[]⟩ : ByteArray)] 63 ?_; intro gb445 hg w51 hbox hb; replace HO_438000 := rB HO_438000 hb; replace HO_438001 := ak (Kd.R_below (Kd.R_elderB (rG HO_438001) gb445 (Nat.le_of_eq hg.symm)) hb); replace BK445 := ak (hbox); replace GW445 := ak (bz hg (lT HB (gC GE429 (gC GE430 (gC GE437 gN))))); replace GE445 := ak (bz hg (lT HB (gC GE429 (gC GE430 (gC GE437 gN))))); replace HB := ak (below_step (lT HB (gC GE429 (gC GE430 (gC GE437 gN)))) hb); replace NB429_445 := ak (nl hg (bG BK429)); replace NB445_429 := ak (ng hg (bG BK429)); replace BK429 := bB BK429 hb; replace NB430_445 := ak (nl hg (bG BK430)); replace NB445_430 := ak (ng hg (bG BK430)); replace BK430 := bB BK430 hb; replace NB437_445 := ak (nl hg (bG BK437)); replace NB445_437 := ak (ng hg (bG BK437)); replace BK437 := bB BK437 hb; clear hb hbox hg; have hnb52 := NB445_429.out; have hnc52 := NB429_445.out; have hnb53 := NB445_430.out; have hnc53 := NB430_445.out; have hnb54 := NB445_437.out; have hnc54 := NB437_445.out; obtain ⟨hcz55_0, hcz55_1, hfz55_0, hfz55_1⟩ := bC2 BK445))
                       have n0_ : Aside0 (Kd.R Kd.string 9 ((w51.setCell ⟨gb445, 0, none⟩ (.int .i64 ((rd_T63 l0_1 x11_4).f0))).setCell ⟨gb445, 1, none⟩ (.string ((rd_T63 l0_1 x11_4).f1))) w.heap.size (fun _ => True) u438000 x438000_4) := ⟨by (with_reducible repeat (first | apply Kd.R_alloc | apply Kd.R_drewN | apply Kd.R_drew)); exact Kd.R_mono (Kd.R_far (p := ⟨gb445, 1, none⟩) (Kd.R_far (p := ⟨gb445, 0, none⟩) (Kd.R_types HO_438000.out BK445.out (by decide)) (fun _ hk => hk.2) (.int .i64 ((rd_T63 l0_1 x11_4).f0))) (fun _ hk => hk.2) (.string ((rd_T63 l0_1 x11_4).f1))) (fun _ hk => trivial)⟩
                       have n1_ : Aside0 (Kd.R k63 63 ((w51.setCell ⟨gb445, 0, none⟩ (.int .i64 ((rd_T63 l0_1 x11_4).f0))).setCell ⟨gb445, 1, none⟩ (.string ((rd_T63 l0_1 x11_4).f1))) w.heap.size (fun k_ => k_ ≠ gb445) (.slice Ao17 t434.length co17) t434) := ⟨by (with_reducible repeat (first | apply Kd.R_alloc | apply Kd.R_drewN | apply Kd.R_drew)); exact Kd.R_mono (Kd.R_far (p := ⟨gb445, 1, none⟩) (Kd.R_far (p := ⟨gb445, 0, none⟩) (Kd.R_mono HO_438001.out (fun k_ hk => (⟨hk, hk.2⟩ : _ ∧ k_ ≠ gb445))) (fun _ hk => hk.2) (.int .i64 ((rd_T63 l0_1 x11_4).f0))) (fun _ hk => hk.2) (.string ((rd_T63 l0_1 x11_4).f1))) (fun _ hk => hk.1.2)⟩
                       have n2_ : Aside0 (((w51.setCell ⟨gb445, 0, none⟩ (.int .i64 ((rd_T63 l0_1 x11_4).f0))).setCell ⟨gb445, 1, none⟩ (.string ((rd_T63 l0_1 x11_4).f1))).heap[gb429]? = some (.cells #[.slice A0_0 l0_0.length c0_0, .slice (some ad444) l0_1.length c0_1] 27 (0, 0))) := ⟨by (with_reducible repeat (first | refine blk_drewN ?_ _ | refine blk_drew ?_ | refine blk_alloc ?_ _)); refine blk_far ?_ NB429_445.out _; (with_reducible repeat (first | refine blk_drewN ?_ _ | refine blk_drew ?_ | refine blk_alloc ?_ _)); refine blk_far ?_ NB429_445.out _; (with_reducible repeat (first | refine blk_drewN ?_ _ | refine blk_drew ?_ | refine blk_alloc ?_ _)); exact BK429.out⟩
                       have n3_ : Aside0 (((w51.setCell ⟨gb445, 0, none⟩ (.int .i64 ((rd_T63 l0_1 x11_4).f0))).setCell ⟨gb445, 1, none⟩ (.string ((rd_T63 l0_1 x11_4).f1))).heap[gb430]? = some (.cells #[.slice none 0 0, .slice none 0 0] 27 (0, 0))) := ⟨by (with_reducible repeat (first | refine blk_drewN ?_ _ | refine blk_drew ?_ | refine blk_alloc ?_ _)); refine blk_far ?_ NB430_445.out _; (with_reducible repeat (first | refine blk_drewN ?_ _ | refine blk_drew ?_ | refine blk_alloc ?_ _)); refine blk_far ?_ NB430_445.out _; (with_reducible repeat (first | refine blk_drewN ?_ _ | refine blk_drew ?_ | refine blk_alloc ?_ _)); exact BK430.out⟩
                       have n4_ : Aside0 (((w51.setCell ⟨gb445, 0, none⟩ (.int .i64 ((rd_T63 l0_1 x11_4).f0))).setCell ⟨gb445, 1, none⟩ (.string ((rd_T63 l0_1 x11_4).f1))).heap[gb437]? = some (.cells #[u438000, .slice Ao17 t434.length co17] 27 (0, 0))) := ⟨by (with_reducible repeat (first | refine blk_drewN ?_ _ | refine blk_drew ?_ | refine blk_alloc ?_ _)); refine blk_far ?_ NB437_445.out _; (with_reducible repeat (first | refine blk_drewN ?_ _ | refine blk_drew ?_ | refine blk_alloc ?_ _)); refine blk_far ?_ NB437_445.out _; (with_reducible repeat (first | refine blk_drewN ?_ _ | refine blk_drew ?_ | refine blk_alloc ?_ _)); exact BK437.out⟩
                       have n5_ : Aside0 (((w51.setCell ⟨gb445, 0, none⟩ (.int .i64 ((rd_T63 l0_1 x11_4).f0))).setCell ⟨gb445, 1, none⟩ (.string ((rd_T63 l0_1 x11_4).f1))).heap[gb445]? = some (.cells #[.int .i64 ((rd_T63 l0_1 x11_4).f0), .string ((rd_T63 l0_1 x11_4).f1)] 63 (0, 0))) := ⟨by (with_reducible repeat (first | refine blk_drewN ?_ _ | refine blk_drew ?_ | refine blk_alloc ?_ _)); refine blk_put (cs := #[.int .i64 ((rd_T63 l0_1 x11_4).f0), .string (⟨#[]⟩ : ByteArray)]) ?_ 1 _ rfl; (with_reducible repeat (first | refine blk_drewN ?_ _ | refine blk_drew ?_ | refine blk_alloc ?_ _)); refine blk_put (cs := #[.int .i64 0, .string (⟨#[]⟩ : ByteArray)]) ?_ 0 _ rfl; (with_reducible repeat (first | refine blk_drewN ?_ _ | refine blk_drew ?_ | refine blk_alloc ?_ _)); exact BK445.out⟩
                       have n6_ : Aside0 (Below w.heap.size w ((w51.setCell ⟨gb445, 0, none⟩ (.int .i64 ((rd_T63 l0_1 x11_4).f0))).setCell ⟨gb445, 1, none⟩ (.string ((rd_T63 l0_1 x11_4).f1)))) := ⟨by exact lT HB (gC GE429 (gC GE430 (gC GE437 (gC GE445 gN))))⟩
                       (try clear HO_438000)
                       (try clear HO_438001)
                       (try clear BK429)
                       (try clear BK430)
                       (try clear BK437)
                       (try clear BK445)
                       (try clear HB)
                       generalize ((w51.setCell ⟨gb445, 0, none⟩ (.int .i64 ((rd_T63 l0_1 x11_4).f0))).setCell ⟨gb445, 1, none⟩ (.string ((rd_T63 l0_1 x11_4).f1))) = w56 at n0_ n1_ n2_ n3_ n4_ n5_ n6_ ⊢
                       have HO_438000 := n0_
                       have HO_438001 := n1_
                       have BK429 := n2_
                       have BK430 := n3_
                       have BK437 := n4_
                       have BK445 := n5_
                       have HB := n6_
                       clear n0_ n1_ n2_ n3_ n4_ n5_ n6_
                       replace HO_438000 := ak (Kd.R_drew HO_438000.out)
                       replace HO_438001 := ak (Kd.R_drew HO_438001.out)
                       replace BK429 := ak (blk_drew BK429.out)
                       replace BK430 := ak (blk_drew BK430.out)
                       replace BK437 := ak (blk_drew BK437.out)
                       replace BK445 := ak (blk_drew BK445.out)
                       replace HB := ak (below_drew1 HB.out)
                       obtain ⟨Ao58, co58, eo58⟩ := Kd.R_slice HO_438000.out
                       (first | subst eo58 | (injection eo58 with f1_ f2_ f3_; have f4_ := f1_.symm; have f5_ := f3_.symm; clear f1_ f2_ f3_; subst f4_; subst f5_))
                       have p446 : 0 ≤ (((rd_T63 l0_1 x11_4).f0) : Int) := of_decide_eq_true (by first | (with_reducible assumption) | assumption)
                       have q446 : ((rd_T63 l0_1 x11_4).f0) < (x438000_4.length : Int) := of_decide_eq_true (by first | (with_reducible assumption) | assumption)
                       obtain ⟨ad446, e446, hx446_0⟩ := Kd.at_string (Kd.R_reads' HO_438000.out).2.2 ((rd_T63 l0_1 x11_4).f0) p446 q446
                       cases e446
                       replace p446 := eq_true p446
                       replace q446 := eq_true q446
                       have p47 : 0 ≤ (((rd_T63 l0_1 x11_4).f0) : Int) := of_decide_eq_true (by first | (with_reducible assumption) | assumption)
                       have q47 : (((rd_T63 l0_1 x11_4).f0) : Int) < ((x438000_4.length : Int) : Int) := of_decide_eq_true (by first | (with_reducible assumption) | assumption)
                       obtain ⟨go47, co47, eo47, gb47, gl47, cl47, HG47⟩ := Kd.R_form HO_438000.out (by omega)
                       (first | cases eo47 | (injection eo47 with ea_ en_ ec_; (first | subst ea_ | (injection ea_ with ea_; subst ea_)); subst ec_; clear en_))
                       have GB47 := Aside0.mk gb47
                       have GG47 := Aside0.mk HG47
                       clear gb47 gl47 HG47
                       (first | simp only [add_plain] at hx446_0 | skip)
                       obtain ⟨hx47_0, hf47_0⟩ := Kd.R_celln (⟨#[]⟩ : ByteArray) HO_438000.out (((rd_T63 l0_1 x11_4).f0) : Int) p47 q47
                       replace p47 := eq_true p47
                       replace q47 := eq_true q47
                       have HP59 := Kd.R_putn HO_438000.out (((rd_T63 l0_1 x11_4).f0) : Int) ((((rd_T63 l0_1 x11_4).f1).extract 0 (x10_31 : Int).toNat) ++ ((rdOf ByteArray.empty x438000_4 ((rd_T63 l0_1 x11_4).f0)).extract (x10_31 : Int).toNat (rdOf ByteArray.empty x438000_4 ((rd_T63 l0_1 x11_4).f0)).size))
                       rw [← Ny447.out] at HP59
                       have HQ59 := Aside0.mk HP59
                       clear HP59
                       refine start_ (n := 19) (S := fun w' => w'.cell? ⟨gb437, 0, none⟩ = some (.slice (some ⟨go47, 0, none⟩) x438000_4.length co58) ∧ w'.cell? ⟨gb437, 1, none⟩ = some (.slice Ao17 t434.length co17) ∧ w'.cell? ⟨gb445, 0, none⟩ = some (.int .i64 ((rd_T63 l0_1 x11_4).f0)) ∧ w'.cell? ⟨gb445, 1, none⟩ = some (.string ((rd_T63 l0_1 x11_4).f1)) ∧ w'.cell? ⟨go47, (((rd_T63 l0_1 x11_4).f0)).toNat, none⟩ = some (.string (rdOf ByteArray.empty x438000_4 ((rd_T63 l0_1 x11_4).f0)))) (ds := [18]) #[f_,f_,f_,f_,f_,f_,f_,f_,f_,f_,f_,f_,f_,f_,f_,f_,f_,f_,f_] (by kernel_rfl) rfl rfl ⟨(blk_cell BK437.out 0).trans rfl, (blk_cell BK437.out 1).trans rfl, (blk_cell BK445.out 0).trans rfl, (blk_cell BK445.out 1).trans rfl, hx446_0⟩ (fun hHeld => ?_); refine with_tabW spec_CrashDisk.tab19 spec_CrashDisk.bits19 (fun HT_ HW_ => ?_)
                       generalize w56.drew = w57 at HO_438000 HO_438001 BK429 BK430 BK437 BK445 HB GG47 HQ59 hf47_0 hx446_0 hx47_0 hHeld ⊢
                       refine pu 0 65 #[t_,f_,f_,f_,f_,f_,f_,f_,f_,f_,f_,f_,f_,f_,f_,f_,f_,f_,f_] HT_ ?_
                       refine pu 2 67 #[t_,f_,t_,f_,f_,f_,f_,f_,f_,f_,f_,f_,f_,f_,f_,f_,f_,f_,f_] HT_ ?_
                       refine pu 4 69 #[t_,f_,t_,f_,t_,f_,f_,f_,f_,f_,f_,f_,f_,f_,f_,f_,f_,f_,f_] HT_ ?_
                       refine pu 6 71 #[t_,f_,t_,f_,t_,f_,t_,f_,f_,f_,f_,f_,f_,f_,f_,f_,f_,f_,f_] HT_ ?_
                       refine pu 8 73 #[t_,f_,t_,f_,t_,f_,t_,f_,t_,f_,f_,f_,f_,f_,f_,f_,f_,f_,f_] HT_ ?_
                       refine pu 10 75 #[t_,f_,t_,f_,t_,f_,t_,f_,t_,f_,t_,f_,f_,f_,f_,f_,f_,f_,f_] HT_ ?_
                       refine pu 14 79 #[t_,f_,t_,f_,t_,f_,t_,f_,t_,f_,t_,f_,f_,f_,t_,f_,f_,f_,f_] HT_ ?_
                       refine tk 1 66 #[t_,t_,t_,f_,t_,f_,t_,f_,t_,f_,t_,f_,f_,f_,t_,f_,f_,f_,f_] HT_ HW_ hHeld ?_
                       refine tk 3 68 #[t_,t_,t_,t_,t_,f_,t_,f_,t_,f_,t_,f_,f_,f_,t_,f_,f_,f_,f_] HT_ HW_ hHeld ?_
                       refine tk 5 70 #[t_,t_,t_,t_,t_,t_,t_,f_,t_,f_,t_,f_,f_,f_,t_,f_,f_,f_,f_] HT_ HW_ hHeld ?_
                       refine pu 7 72 #[t_,t_,t_,t_,t_,t_,t_,t_,t_,f_,t_,f_,f_,f_,t_,f_,f_,f_,f_] HT_ ?_
                       refine tk 9 74 #[t_,t_,t_,t_,t_,t_,t_,t_,t_,t_,t_,f_,f_,f_,t_,f_,f_,f_,f_] HT_ HW_ hHeld ?_
                       refine tk 11 76 #[t_,t_,t_,t_,t_,t_,t_,t_,t_,t_,t_,t_,f_,f_,t_,f_,f_,f_,f_] HT_ HW_ hHeld ?_
                       refine pu 12 77 #[t_,t_,t_,t_,t_,t_,t_,t_,t_,t_,t_,t_,t_,f_,t_,f_,f_,f_,f_] HT_ ?_
                       refine tk 13 78 #[t_,t_,t_,t_,t_,t_,t_,t_,t_,t_,t_,t_,t_,t_,t_,f_,f_,f_,f_] HT_ HW_ hHeld ?_
                       refine pu 15 80 #[t_,t_,t_,t_,t_,t_,t_,t_,t_,t_,t_,t_,t_,t_,t_,t_,f_,f_,f_] HT_ ?_
                       refine pu 16 81 #[t_,t_,t_,t_,t_,t_,t_,t_,t_,t_,t_,t_,t_,t_,t_,t_,t_,f_,f_] HT_ ?_
                       refine pu 17 82 #[t_,t_,t_,t_,t_,t_,t_,t_,t_,t_,t_,t_,t_,t_,t_,t_,t_,t_,f_] HT_ ?_
                       refine last_ (i := 18) (N := none) #[t_,t_,t_,t_,t_,t_,t_,t_,t_,t_,t_,t_,t_,t_,t_,t_,t_,t_,t_] rfl rfl (one_of HT_.out (by kernel_rfl)) (by decide) (fun K hK => ?_)
                       refine skip_ (w1 := ?_) (by rfl) rfl ?_ ?_
                       rotate_left
                       ·go_simp
                        rfl
                       refine hK.out _ _ ?_
                       clear hK K
                       refine done_ (done_of HT_.out (by kernel_rfl)) ?_
                       try go_wp2
                       go_roundg k4
                       case measure => have := HK1.out; have := HJ19.out; have := HJ31.out; have := HK4.out; omega
                       case rel => exact ⟨(wrap64 (x11_4 + 1)), (y447), (.slice (some ⟨go47, 0, none⟩) x438000_4.length co58), (by first | rfl | (simp; done) | (simp [*]; done)), H', ⟨by have := HK1.out; have := HJ19.out; have := HJ31.out; have := HK4.out; omega⟩, ⟨by (with_reducible repeat (first | apply Kd.R_alloc | apply Kd.R_drewN | apply Kd.R_drew)); exact HQ59.out⟩, ⟨by (with_reducible repeat (first | apply Kd.R_alloc | apply Kd.R_drewN | apply Kd.R_drew)); exact Kd.R_mono (Kd.R_far (p := ⟨go47, (((rd_T63 l0_1 x11_4).f0) : Int).toNat, none⟩) (Kd.R_types HO_438001.out GG47.out (by decide)) (fun _ hk => hk.2) (.string ((((rd_T63 l0_1 x11_4).f1).extract 0 (x10_31 : Int).toNat) ++ ((rdOf ByteArray.empty x438000_4 ((rd_T63 l0_1 x11_4).f0)).extract (x10_31 : Int).toNat (rdOf ByteArray.empty x438000_4 ((rd_T63 l0_1 x11_4).f0)).size)))) (fun _ hk => trivial)⟩, ⟨by (with_reducible repeat (first | refine blk_drewN ?_ _ | refine blk_drew ?_ | refine blk_alloc ?_ _)); refine blk_far ?_ (by have h_ := Kd.R_ne HO_438000.out BK429.out (by decide); intro e_; exact h_ (by rw [e_]; rfl)) _; (with_reducible repeat (first | refine blk_drewN ?_ _ | refine blk_drew ?_ | refine blk_alloc ?_ _)); exact BK429.out⟩, ⟨by (with_reducible repeat (first | refine blk_drewN ?_ _ | refine blk_drew ?_ | refine blk_alloc ?_ _)); refine blk_far ?_ (by have h_ := Kd.R_ne HO_438000.out BK430.out (by decide); intro e_; exact h_ (by rw [e_]; rfl)) _; (with_reducible repeat (first | refine blk_drewN ?_ _ | refine blk_drew ?_ | refine blk_alloc ?_ _)); exact BK430.out⟩, ⟨by (with_reducible repeat (first | refine blk_drewN ?_ _ | refine blk_drew ?_ | refine blk_alloc ?_ _)); refine blk_far ?_ (by have h_ := Kd.R_ne HO_438000.out BK437.out (by decide); intro e_; exact h_ (by rw [e_]; rfl)) _; (with_reducible repeat (first | refine blk_drewN ?_ _ | refine blk_drew ?_ | refine blk_alloc ?_ _)); exact BK437.out⟩, ⟨by repeat (first | (with_reducible first | exact HB.out | apply below_alloc | apply pw_below_drewN | apply below_drew1 | refine below_set ?_ GB47.out | refine below_set ?_ GE429.out | refine below_set ?_ GE430.out | refine below_set ?_ GE437.out | refine below_set ?_ GE445.out) | exact HB.out)⟩⟩
                      ·rw [if_neg c46] at H
                       exact absurd H (by simp)
                     ·rw [if_neg c45] at H
                      exact absurd H (by simp)
                    ·rw [if_neg c43] at H
                     exact absurd H (by simp)
                   ·rw [if_neg c42] at H
                    exact absurd H (by simp)
                  ·rw [if_neg c41] at H
                   exact absurd H (by simp)
                 ·rw [if_neg c40] at H
                  exact absurd H (by simp)
                ·rw [if_neg c39] at H
                 have c39b0 : (x11_4 == x8_1) = false := beq_eq_false_iff_ne.mpr c39
                 have c39b1 : (x11_4 != x8_1) = true := bne_iff_ne.mpr c39
                 by_cases c60 : 0 ≤ ((rd_T63 l0_1 x11_4).f0)
                 ·rw [if_pos c60] at H
                  have c60b0 : decide (0 ≤ ((rd_T63 l0_1 x11_4).f0)) = true := decide_eq_true c60
                  clear c60
                  by_cases c61 : ((rd_T63 l0_1 x11_4).f0) < (x438000_4.length : Int)
                  ·rw [if_pos c61] at H
                   have c61b0 : decide (((rd_T63 l0_1 x11_4).f0) < (x438000_4.length : Int)) = true := decide_eq_true c61
                   clear c61
                   obtain ⟨y448, hy448⟩ : ∃ y_ : List ByteArray, y_ = (x438000_4.set (((rd_T63 l0_1 x11_4).f0) : Int).toNat ((rd_T63 l0_1 x11_4).f1)) := ⟨_, rfl⟩
                   replace H : (spec_CrashDisk.l1 k4 l1 x8_1 x10_31 (wrap64 (x11_4 + 1)) l0_0 l0_1 y448 t434) = some (r1, r2) := by first | (rw [hy448]; with_reducible exact H) | (have H2_ := (Option.bind_some _ _).symm.trans H; rw [hy448]; with_reducible exact H2_) | (have H2_ := (Option.bind_some _ _).symm.trans H; with_reducible exact H2_) | with_reducible exact H | (rw [hy448]; exact H) | exact H
                   have Ny448 := Aside0.mk hy448
                   clear hy448
                   have H' := Aside0.mk H
                   clear H
                   have p443 : 0 ≤ (x11_4 : Int) := of_decide_eq_true (by first | (with_reducible assumption) | assumption)
                   have q443 : x11_4 < (l1.length : Int) := of_decide_eq_true (by first | (with_reducible assumption) | assumption)
                   obtain ⟨ad443, e443, hx443_0⟩ := Kd.at_int HR1.out x11_4 p443 q443
                   cases e443
                   replace hx443_0 := (HB.out.cell (World.block_lt_of_cell? w _ hx443_0)).trans hx443_0
                   replace p443 := eq_true p443
                   replace q443 := eq_true q443
                   have hnb63 := NB429_430.out
                   have hnc63 := NB430_429.out
                   have hnb64 := NB429_437.out
                   have hnc64 := NB437_429.out
                   have hcz65_0 : wr.cell? ⟨gb429, 0, none⟩ = some (.slice A0_0 l0_0.length c0_0) := (blk_cell BK429.out 0).trans rfl
                   have hcz65_1 : wr.cell? ⟨gb429, 1, none⟩ = some (.slice A0_1 l0_1.length c0_1) := (blk_cell BK429.out 1).trans rfl
                   have hfz65_0 := blk_frozen BK429.out 0
                   have hfz65_1 := blk_frozen BK429.out 1
                   have p444 : 0 ≤ (x11_4 : Int) := of_decide_eq_true (by first | (with_reducible assumption) | assumption)
                   have q444 : x11_4 < (l0_1.length : Int) := of_decide_eq_true (by first | (with_reducible assumption) | assumption)
                   obtain ⟨ad444, e444, hx444_0, hx444_1⟩ := at_T63 HR0_1.out x11_4 p444 q444
                   cases e444
                   replace hx444_0 := (HB.out.cell (World.block_lt_of_cell? w _ hx444_0)).trans hx444_0
                   replace hx444_1 := (HB.out.cell (World.block_lt_of_cell? w _ hx444_1)).trans hx444_1
                   replace p444 := eq_true p444
                   replace q444 := eq_true q444
                   go_wp2_with (first | ((with_reducible refine gate_dst (N := 12) rfl ?_); (try (refine gate_guard (by rfl) ?_; dsimp only)); refine bx 12 #[.int .i64 0, .string (⟨#[]⟩ : ByteArray)] 63 ?_; intro gb445 hg w66 hbox hb; replace HO_438000 := rB HO_438000 hb; replace HO_438001 := ak (Kd.R_below (Kd.R_elderB (rG HO_438001) gb445 (Nat.le_of_eq hg.symm)) hb); replace BK445 := ak (hbox); replace GW445 := ak (bz hg (lT HB (gC GE429 (gC GE430 (gC GE437 gN))))); replace GE445 := ak (bz hg (lT HB (gC GE429 (gC GE430 (gC GE437 gN))))); replace HB := ak (below_step (lT HB (gC GE429 (gC GE430 (gC GE437 gN)))) hb); replace NB429_445 := ak (nl hg (bG BK429)); replace NB445_429 := ak (ng hg (bG BK429)); replace BK429 := bB BK429 hb; replace NB430_445 := ak (nl hg (bG BK430)); replace NB445_430 := ak (ng hg (bG BK430)); replace BK430 := bB BK430 hb; replace NB437_445 := ak (nl hg (bG BK437)); replace NB445_437 := ak (ng hg (bG BK437)); replace BK437 := bB BK437 hb; clear hb hbox hg; have hnb67 := NB445_429.out; have hnc67 := NB429_445.out; have hnb68 := NB445_430.out; have hnc68 := NB430_445.out; have hnb69 := NB445_437.out; have hnc69 := NB437_445.out; obtain ⟨hcz70_0, hcz70_1, hfz70_0, hfz70_1⟩ := bC2 BK445) | ((with_reducible refine gate_store (t := 63) (p := 12) rfl ?_); refine store_event (t := 63) (p := 12) (v := ?vo_w71) (w1 := ((w66.setCell ⟨gb445, 0, none⟩ (.int .i64 ((rd_T63 l0_1 x11_4).f0))).setCell ⟨gb445, 1, none⟩ (.string ((rd_T63 l0_1 x11_4).f1)))) ?hg ?ho ?hn ?hr ?_; (case ho => rfl); (case hg => rfl); (case hn => rfl); (case hr => first | (go_simp; done) | (go_simp; rfl)); intro w71 hw; have n0_ : Aside0 (Kd.R Kd.string 9 w71 w.heap.size (fun _ => True) u438000 x438000_4) := ⟨(by rw [hw]; exact (by (with_reducible repeat (first | apply Kd.R_alloc | apply Kd.R_drewN | apply Kd.R_drew)); exact Kd.R_mono (Kd.R_far (p := ⟨gb445, 1, none⟩) (Kd.R_far (p := ⟨gb445, 0, none⟩) (Kd.R_types HO_438000.out BK445.out (by decide)) (fun _ hk => hk.2) (.int .i64 ((rd_T63 l0_1 x11_4).f0))) (fun _ hk => hk.2) (.string ((rd_T63 l0_1 x11_4).f1))) (fun _ hk => trivial)))⟩; have n1_ : Aside0 (Kd.R k63 63 w71 w.heap.size (fun k_ => k_ ≠ gb445) (.slice Ao17 t434.length co17) t434) := ⟨(by rw [hw]; exact (by (with_reducible repeat (first | apply Kd.R_alloc | apply Kd.R_drewN | apply Kd.R_drew)); exact Kd.R_mono (Kd.R_far (p := ⟨gb445, 1, none⟩) (Kd.R_far (p := ⟨gb445, 0, none⟩) (Kd.R_mono HO_438001.out (fun k_ hk => (⟨hk, hk.2⟩ : _ ∧ k_ ≠ gb445))) (fun _ hk => hk.2) (.int .i64 ((rd_T63 l0_1 x11_4).f0))) (fun _ hk => hk.2) (.string ((rd_T63 l0_1 x11_4).f1))) (fun _ hk => hk.1.2)))⟩; have n2_ : Aside0 (w71.heap[gb429]? = some (.cells #[.slice A0_0 l0_0.length c0_0, .slice (some ad444) l0_1.length c0_1] 27 (0, 0))) := ⟨(by rw [hw]; exact (bT BK429 (nC NB429_445 nN)))⟩; have n3_ : Aside0 (w71.heap[gb430]? = some (.cells #[.slice none 0 0, .slice none 0 0] 27 (0, 0))) := ⟨(by rw [hw]; exact (bT BK430 (nC NB430_445 nN)))⟩; have n4_ : Aside0 (w71.heap[gb437]? = some (.cells #[u438000, .slice Ao17 t434.length co17] 27 (0, 0))) := ⟨(by rw [hw]; exact (bT BK437 (nC NB437_445 nN)))⟩; have n5_ : Aside0 (w71.heap[gb445]? = some (.cells #[.int .i64 ((rd_T63 l0_1 x11_4).f0), .string ((rd_T63 l0_1 x11_4).f1)] 63 (0, 0))) := ⟨(by rw [hw]; exact (by (with_reducible repeat (first | refine blk_drewN ?_ _ | refine blk_drew ?_ | refine blk_alloc ?_ _)); refine blk_put (cs := #[.int .i64 ((rd_T63 l0_1 x11_4).f0), .string (⟨#[]⟩ : ByteArray)]) ?_ 1 _ rfl; (with_reducible repeat (first | refine blk_drewN ?_ _ | refine blk_drew ?_ | refine blk_alloc ?_ _)); refine blk_put (cs := #[.int .i64 0, .string (⟨#[]⟩ : ByteArray)]) ?_ 0 _ rfl; (with_reducible repeat (first | refine blk_drewN ?_ _ | refine blk_drew ?_ | refine blk_alloc ?_ _)); exact BK445.out))⟩; have n6_ : Aside0 (Below w.heap.size w w71) := ⟨(by rw [hw]; exact (lT HB (gC GE429 (gC GE430 (gC GE437 (gC GE445 gN))))))⟩; clear hw; clear HO_438000; clear HO_438001; clear BK429; clear BK430; clear BK437; clear BK445; clear HB; have HO_438000 := n0_; have HO_438001 := n1_; have BK429 := n2_; have BK430 := n3_; have BK437 := n4_; have BK445 := n5_; have HB := n6_; clear n0_ n1_ n2_ n3_ n4_ n5_ n6_; have hnb72 := NB437_430.out; have hnc72 := NB430_437.out; obtain ⟨hcz73_0, hcz73_1, hfz73_0, hfz73_1⟩ := bC2 BK437; obtain ⟨hcz74_0, hcz74_1, hfz74_0, hfz74_1⟩ := bC2 BK445; have p62 : 0 ≤ (((rd_T63 l0_1 x11_4).f0) : Int) := of_decide_eq_true (by first | (with_reducible assumption) | assumption); have q62 : (((rd_T63 l0_1 x11_4).f0) : Int) < ((x438000_4.length : Int) : Int) := of_decide_eq_true (by first | (with_reducible assumption) | assumption); obtain ⟨go62, co62, eo62, gb62, gl62, cl62, HG62⟩ := Kd.R_form HO_438000.out (by omega); (first | cases eo62 | (injection eo62 with ea_ en_ ec_; (first | subst ea_ | (injection ea_ with ea_; subst ea_)); subst ec_; clear en_)); have GB62 := Aside0.mk gb62; have GG62 := Aside0.mk HG62; clear gb62 gl62 HG62; obtain ⟨hx62_0, hf62_0⟩ := Kd.R_celln (⟨#[]⟩ : ByteArray) HO_438000.out (((rd_T63 l0_1 x11_4).f0) : Int) p62 q62; replace p62 := eq_true p62; replace q62 := eq_true q62; obtain ⟨hy75_, hz75_⟩ := Kd.R_celln (⟨#[]⟩ : ByteArray) HO_438000.out (((rd_T63 l0_1 x11_4).f0) : Int) (of_decide_eq_true (by first | (with_reducible assumption) | assumption)) (of_decide_eq_true (by first | (with_reducible assumption) | assumption)); have HP75 := Kd.R_putg HO_438000.out (((rd_T63 l0_1 x11_4).f0) : Int) ((rd_T63 l0_1 x11_4).f1)) | ((with_reducible refine gate_store (t := 9) (p := 89) rfl ?_); refine store_event (t := 9) (p := 89) (v := ?vo_w76) (w1 := (w71.setCell ⟨go62, (((rd_T63 l0_1 x11_4).f0) : Int).toNat, none⟩ (.string ((rd_T63 l0_1 x11_4).f1)))) ?hg ?ho ?hn ?hr ?_; (case ho => rfl); (case hg => rfl); (case hn => rfl); (case hr => first | (go_simp; done) | (go_simp; rfl)); intro w76 hw; have hg : w71.grownBy w76 (some go62) := (by rw [hw]; exact HP75.2); have hp_ : Kd.R Kd.string 9 w76 w.heap.size (fun _ => True) (.slice (some ⟨go62, 0, none⟩) x438000_4.length co62) y448 := (by rw [hw, Ny448.out]; exact HP75.1); clear HP75; replace HO_438001 := ak (Kd.R_over' (v := (.slice (some ⟨go62, 0, none⟩) x438000_4.length co62)) (rG HO_438001) (Kd.R_typed HO_438000.out) (by decide) hg); replace BK429 := ak (blk_grown (g := gb429) (o := .cells #[.slice A0_0 l0_0.length c0_0, .slice (some ad444) l0_1.length c0_1] 27 (0, 0)) (bG BK429) hg (Kd.R_ne HO_438000.out BK429.out (by decide))); replace BK430 := ak (blk_grown (g := gb430) (o := .cells #[.slice none 0 0, .slice none 0 0] 27 (0, 0)) (bG BK430) hg (Kd.R_ne HO_438000.out BK430.out (by decide))); replace BK437 := ak (blk_grown (g := gb437) (o := .cells #[.slice (some ⟨go62, 0, none⟩) x438000_4.length co62, .slice Ao17 t434.length co17] 27 (0, 0)) (bG BK437) hg (Kd.R_ne HO_438000.out BK437.out (by decide))); replace BK445 := ak (blk_grown (g := gb445) (o := .cells #[.int .i64 ((rd_T63 l0_1 x11_4).f0), .string ((rd_T63 l0_1 x11_4).f1)] 63 (0, 0)) (bG BK445) hg (Kd.R_ne HO_438000.out BK445.out (by decide))); replace HO_438000 := ak (hp_); replace HB := ak ((by rw [hw]; exact below_set (HB.out) GB62.out : Below w.heap.size w w76)); clear hg hw hp_))
                   go_roundg k4
                   case measure => have := HK1.out; have := HJ19.out; have := HJ31.out; have := HK4.out; omega
                   case rel => exact ⟨(wrap64 (x11_4 + 1)), (y448), (.slice (some ⟨go62, 0, none⟩) x438000_4.length co62), (by first | rfl | (simp; done) | (simp [*]; done)), H', ⟨by have := HK1.out; have := HJ19.out; have := HJ31.out; have := HK4.out; omega⟩, ⟨by (with_reducible repeat (first | apply Kd.R_alloc | apply Kd.R_drewN | apply Kd.R_drew)); exact HO_438000.out⟩, ⟨by (with_reducible repeat (first | apply Kd.R_alloc | apply Kd.R_drewN | apply Kd.R_drew)); exact Kd.R_mono HO_438001.out (fun _ hk => trivial)⟩, ⟨by (with_reducible repeat (first | refine blk_drewN ?_ _ | refine blk_drew ?_ | refine blk_alloc ?_ _)); exact BK429.out⟩, ⟨by (with_reducible repeat (first | refine blk_drewN ?_ _ | refine blk_drew ?_ | refine blk_alloc ?_ _)); exact BK430.out⟩, ⟨by (with_reducible repeat (first | refine blk_drewN ?_ _ | refine blk_drew ?_ | refine blk_alloc ?_ _)); exact BK437.out⟩, ⟨by exact lT HB (gC GE429 (gC GE430 (gC GE437 (gC GE445 gN))))⟩⟩
                  ·rw [if_neg c61] at H
                   exact absurd H (by simp)
                 ·rw [if_neg c60] at H
                  exact absurd H (by simp)
               ·rw [if_neg c38] at H
                exact absurd H (by simp)
             ·rw [if_neg c36] at H
              exact absurd H (by simp)
            ·rw [if_neg c35] at H
             exact absurd H (by simp)
           ·rw [if_neg c34] at H
            have c34b0 : decide (x11_4 ≤ x8_1) = false := decide_eq_false c34
            clear c34
            obtain ⟨y440, hy440⟩ : ∃ y_ : List (S63), y_ = (([] : List (S63))) := ⟨_, rfl⟩
            replace H : (some (x438000_4, y440)) = some (r1, r2) := by first | (rw [hy440]; with_reducible exact H) | (have H2_ := (Option.bind_some _ _).symm.trans H; rw [hy440]; with_reducible exact H2_) | (have H2_ := (Option.bind_some _ _).symm.trans H; with_reducible exact H2_) | with_reducible exact H | (rw [hy440]; exact H) | exact H
            have Ny440 := Aside0.mk hy440
            clear hy440
            simp only [Option.some.injEq, Prod.mk.injEq] at H
            obtain ⟨rfl, rfl⟩ := H
            go_wp2_with (first | ((with_reducible refine gate_dst (N := 90) rfl ?_); (try (refine gate_guard (by rfl) ?_; dsimp only)); refine Kd.R_lit k63 _ 63 ?hg (N := 90) ?hd (xs := ([] : List (S63))) (inner := []) (ok := fun _ => True) (okp := fun _ => True) ?hr ?hp (fun _ hk => hk) trivial (Below.refl _ _) (Nat.le_refl _) (by simp) ?_; (case hd => rfl); (case hg => rfl); (case hr => first | (go_simp; done) | (go_simp; rfl)); (case hp => exact (Reps.none _ _)); intro v441 w77 ho78 hb hg_ hnew_; clear hg_ hnew_; (first | rw [← Ny440.out] at ho78 | (simp only [Int.reduceToNat] at ho78; rw [← Ny440.out] at ho78)); replace HO_438000 := rB HO_438000 hb; replace HO442 := ak (Kd.R_lower (Kd.R_new' ho78 (Kd.R_lt (rG HO_438001))) (below_size (lT HB (gC GE429 (gC GE430 (gC GE437 gN)))))); replace HO_438001 := ak (Kd.R_elder' (rG HO_438001) (Kd.R_base ho78) hb); replace BK429 := bB BK429 hb; replace BK430 := bB BK430 hb; replace BK437 := bB BK437 hb; replace HB := ak (below_step (lT HB (gC GE429 (gC GE430 (gC GE437 gN)))) hb); clear hb ho78; obtain ⟨Ao79, co79, eo79⟩ := Kd.R_slice HO442.out; subst eo79; have hnb80 := NB437_429.out; have hnc80 := NB429_437.out; have hnb81 := NB437_430.out; have hnc81 := NB430_437.out; obtain ⟨hcz82_0, hcz82_1, hfz82_0, hfz82_1⟩ := bC2 BK437; obtain ⟨Ao83, co83, eo83⟩ := Kd.R_slice HO_438000.out; subst eo83; have hnb84 := NB430_429.out; have hnc84 := NB429_430.out; obtain ⟨hcz85_0, hcz85_1, hfz85_0, hfz85_1⟩ := bC2 BK430))
            refine bodyPost_ret (results_cell_row rfl _ _ gb430 27 #[.slice Ao83 x438000_4.length co83, .slice Ao79 y440.length co79] (0, 0) _ rfl (by (with_reducible repeat (first | refine blk_drewN ?_ _ | refine blk_drew ?_ | refine blk_alloc ?_ _)); refine blk_put (cs := #[.slice Ao83 x438000_4.length co83, .slice none 0 0]) ?_ 1 _ rfl; (with_reducible repeat (first | refine blk_drewN ?_ _ | refine blk_drew ?_ | refine blk_alloc ?_ _)); refine blk_put (cs := #[.slice none 0 0, .slice none 0 0]) ?_ 0 _ rfl; (with_reducible repeat (first | refine blk_drewN ?_ _ | refine blk_drew ?_ | refine blk_alloc ?_ _)); refine blk_far ?_ NB430_437.out _; (with_reducible repeat (first | refine blk_drewN ?_ _ | refine blk_drew ?_ | refine blk_alloc ?_ _)); exact BK430.out) Try.underlying27 rfl (by kernel_rfl)) rfl ?_
            exact ⟨_, _, by first | rfl | (simp [errW_none, errW_some] <;> rfl) | (simp [*, errW_none, errW_some] <;> rfl), by (with_reducible repeat (first | apply Kd.R_alloc | apply Kd.R_drewN | apply Kd.R_drew)); exact Kd.R_mono (Kd.R_far (p := ⟨gb430, 1, none⟩) (Kd.R_far (p := ⟨gb430, 0, none⟩) (Kd.R_far (p := ⟨gb437, 1, none⟩) (Kd.R_types (Kd.R_types HO_438000.out BK437.out (by decide)) BK430.out (by decide)) (fun _ hk => hk.1.2) (.slice Ao79 y440.length co79)) (fun _ hk => hk.2) (.slice Ao83 x438000_4.length co83)) (fun _ hk => hk.2) (.slice Ao79 y440.length co79)) (fun _ hk => trivial), by (with_reducible repeat (first | apply Kd.R_alloc | apply Kd.R_drewN | apply Kd.R_drew)); exact Kd.R_mono (Kd.R_far (p := ⟨gb430, 1, none⟩) (Kd.R_far (p := ⟨gb430, 0, none⟩) (Kd.R_far (p := ⟨gb437, 1, none⟩) (Kd.R_types (Kd.R_types HO442.out BK437.out (by decide)) BK430.out (by decide)) (fun _ hk => hk.1.2) (.slice Ao79 y440.length co79)) (fun _ hk => hk.2) (.slice Ao83 x438000_4.length co83)) (fun _ hk => hk.2) (.slice Ao79 y440.length co79)) (fun _ hk => trivial), by exact lT HB (gC GE429 (gC GE430 (gC GE437 gN)))⟩
 ·replace c6 := Bool.eq_false_iff.mpr c6
  subst c6
  have H1 : (some (t431, t434)) = some (r1, r2) := by rw [if_neg (show ¬ (false = true) by decide)] at H; exact H
  clear H
  have H := H1
  clear H1
  simp only [Option.some.injEq, Prod.mk.injEq] at H
  obtain ⟨rfl, rfl⟩ := H
  go_enter Try.func21, Try.ntmps21
  go_wp2_with (first | ((with_reducible refine gate_dst (N := 3) rfl ?_); (try (refine gate_guard (by rfl) ?_; dsimp only)); refine bx 3 #[.slice A0_0 l0_0.length c0_0, .slice A0_1 l0_1.length c0_1] 27 ?_; intro gb429 hg w86 hbox hb; replace BK429 := ak (hbox); replace GW429 := ak (bz hg (lG HB)); replace GE429 := ak (bz hg (lG HB)); replace HB := lB HB hb; clear hb hbox hg) | ((with_reducible refine gate_dst (N := 6) rfl ?_); (try (refine gate_guard (by rfl) ?_; dsimp only)); refine bx 6 #[.slice none 0 0, .slice none 0 0] 27 ?_; intro gb430 hg w87 hbox hb; replace BK430 := ak (hbox); replace GW430 := ak (bz hg (lT HB (gC GE429 gN))); replace GE430 := ak (bz hg (lT HB (gC GE429 gN))); replace HB := ak (below_step (lT HB (gC GE429 gN)) hb); replace NB429_430 := ak (nl hg (bG BK429)); replace NB430_429 := ak (ng hg (bG BK429)); replace BK429 := bB BK429 hb; clear hb hbox hg; have hnb88 := NB429_430.out; have hnc88 := NB430_429.out; obtain ⟨hcz89_0, hcz89_1, hfz89_0, hfz89_1⟩ := bC2 BK429) | ((with_reducible refine gate_callee (f := 58) rfl ?_); refine gl (some 14) Try.func58 #[.agg #[.slice A0_0 l0_0.length c0_0, .slice A0_1 l0_1.length c0_1]] ?_; (with_reducible refine (spec_l03Copy.calls _ _ l0_0 _ _ l0_1 t431 t434 _ ?side1 ?side2 ?side3 ?side4 A4.out).mono ?_); (case side1 => exact cG (Kd.C_below HR0_0.out HB.out)); (case side2 => exact HC0_0.out); (case side3 => exact cG (Kd.C_below HR0_1.out HB.out)); (case side4 => exact HC0_1.out); rintro e w90 ⟨v432, v435, rfl, ho0, ho1, hb⟩; refine ⟨_, rfl, ?_⟩; replace HO433 := ak (Kd.R_lower ho0 (below_size (lT HB (gC GE429 (gC GE430 gN))))); replace HO436 := ak (Kd.R_lower ho1 (below_size (lT HB (gC GE429 (gC GE430 gN))))); replace BK429 := bB BK429 hb; replace BK430 := bB BK430 hb; replace HB := ak (below_step (lT HB (gC GE429 (gC GE430 gN))) hb); (try clear hb); (try clear hk); (try clear ho0); (try clear ho1)) | ((with_reducible refine gate_dst (N := 7) rfl ?_); (try (refine gate_guard (by rfl) ?_; dsimp only)); refine bx 7 #[.slice none 0 0, .slice none 0 0] 27 ?_; intro gb437 hg w91 hbox hb; replace HO433 := rB HO433 hb; replace HO436 := rB HO436 hb; replace BK437 := ak (hbox); replace GW437 := ak (bz hg (lT HB (gC GE429 (gC GE430 gN)))); replace GE437 := ak (bz hg (lT HB (gC GE429 (gC GE430 gN)))); replace HB := ak (below_step (lT HB (gC GE429 (gC GE430 gN))) hb); replace NB429_437 := ak (nl hg (bG BK429)); replace NB437_429 := ak (ng hg (bG BK429)); replace BK429 := bB BK429 hb; replace NB430_437 := ak (nl hg (bG BK430)); replace NB437_430 := ak (ng hg (bG BK430)); replace BK430 := bB BK430 hb; clear hb hbox hg; obtain ⟨Ao92, co92, eo92⟩ := Kd.R_slice HO433.out; subst eo92; have hnb93 := NB437_429.out; have hnc93 := NB429_437.out; have hnb94 := NB437_430.out; have hnc94 := NB430_437.out; obtain ⟨hcz95_0, hcz95_1, hfz95_0, hfz95_1⟩ := bC2 BK437; obtain ⟨Ao96, co96, eo96⟩ := Kd.R_slice HO436.out; subst eo96; obtain ⟨hcz97_0, hcz97_1, hfz97_0, hfz97_1⟩ := bC2 BK429) | ((with_reducible refine gate_callee (f := 35) rfl ?_); refine gl (some 16) Try.func35 #[.agg #[.slice A0_0 l0_0.length c0_0, .slice A0_1 l0_1.length c0_1]] ?_; (with_reducible refine (spec_DiskOk.calls k _ _ l0_0 _ _ l0_1 false _ ?side1 ?side2 ?side3 ?side4 A5.out).mono ?_); (case side1 => exact Kd.C_below HR0_0.out (lT HB (gC GE429 (gC GE430 (gC GE437 gN))))); (case side2 => exact HC0_0.out); (case side3 => exact Kd.C_below HR0_1.out (lT HB (gC GE429 (gC GE430 (gC GE437 gN))))); (case side4 => exact HC0_1.out); rintro e w98 ⟨rfl, hb⟩; refine ⟨_, rfl, ?_⟩; replace HO433 := ak (Kd.R_below (rT HO433 BK437 (by decide)) hb); replace HO436 := ak (Kd.R_below (rT HO436 BK437 (by decide)) hb); replace BK429 := ak (blk_below (bT BK429 (nC NB429_437 nN)) hb); replace BK430 := ak (blk_below (bT BK430 (nC NB430_437 nN)) hb); replace BK437 := ak (blk_below (g := gb437) (o := .cells #[.slice Ao92 t431.length co92, .slice Ao96 t434.length co96] 27 (0, 0)) (by (with_reducible repeat (first | refine blk_drewN ?_ _ | refine blk_drew ?_ | refine blk_alloc ?_ _)); refine blk_put (cs := #[.slice Ao92 t431.length co92, .slice none 0 0]) ?_ 1 _ rfl; (with_reducible repeat (first | refine blk_drewN ?_ _ | refine blk_drew ?_ | refine blk_alloc ?_ _)); refine blk_put (cs := #[.slice none 0 0, .slice none 0 0]) ?_ 0 _ rfl; (with_reducible repeat (first | refine blk_drewN ?_ _ | refine blk_drew ?_ | refine blk_alloc ?_ _)); exact BK437.out) hb); replace HB := ak (below_step (lT HB (gC GE429 (gC GE430 (gC GE437 gN)))) hb); (try clear hb); (try clear hk); obtain ⟨hcz99_0, hcz99_1, hfz99_0, hfz99_1⟩ := bC2 BK437; obtain ⟨hcz100_0, hcz100_1, hfz100_0, hfz100_1⟩ := bC2 BK430))
  refine bodyPost_ret (results_cell_row rfl _ _ gb430 27 #[.slice Ao92 t431.length co92, .slice Ao96 t434.length co96] (0, 0) _ rfl (by (with_reducible repeat (first | refine blk_drewN ?_ _ | refine blk_drew ?_ | refine blk_alloc ?_ _)); refine blk_put (cs := #[.slice Ao92 t431.length co92, .slice none 0 0]) ?_ 1 _ rfl; (with_reducible repeat (first | refine blk_drewN ?_ _ | refine blk_drew ?_ | refine blk_alloc ?_ _)); refine blk_put (cs := #[.slice none 0 0, .slice none 0 0]) ?_ 0 _ rfl; (with_reducible repeat (first | refine blk_drewN ?_ _ | refine blk_drew ?_ | refine blk_alloc ?_ _)); exact BK430.out) Try.underlying27 rfl (by kernel_rfl)) rfl ?_
  exact ⟨_, _, by first | rfl | (simp [errW_none, errW_some] <;> rfl) | (simp [*, errW_none, errW_some] <;> rfl), by (with_reducible repeat (first | apply Kd.R_alloc | apply Kd.R_drewN | apply Kd.R_drew)); exact Kd.R_mono (Kd.R_far (p := ⟨gb430, 1, none⟩) (Kd.R_far (p := ⟨gb430, 0, none⟩) (Kd.R_types HO433.out BK430.out (by decide)) (fun _ hk => hk.2) (.slice Ao92 t431.length co92)) (fun _ hk => hk.2) (.slice Ao96 t434.length co96)) (fun _ hk => trivial), by (with_reducible repeat (first | apply Kd.R_alloc | apply Kd.R_drewN | apply Kd.R_drew)); exact Kd.R_mono (Kd.R_far (p := ⟨gb430, 1, none⟩) (Kd.R_far (p := ⟨gb430, 0, none⟩) (Kd.R_types HO436.out BK430.out (by decide)) (fun _ hk => hk.2) (.slice Ao92 t431.length co92)) (fun _ hk => hk.2) (.slice Ao96 t434.length co96)) (fun _ hk => trivial), by exact lT HB (gC GE429 (gC GE430 (gC GE437 gN)))⟩

end Go.Proofs.Ytjpngldnkgofaaa.PFnCrashes
