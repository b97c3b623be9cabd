-- Written for this claim by a program of mine (a turned copy of the kit's print): functions as plain Lean, and their contracts. Lean checks it.
import Derived.Test.YtjpngldnkgofaaaPFnCrashesx0
import Derived.Test.YtjpngldnkgofaaaPFnCrashesx10
import Derived.Test.YtjpngldnkgofaaaVFnCrashes1
namespace Go.Proofs.Ytjpngldnkgofaaa.PFnCrashes
open Go.RowKit Go.Proofs.YtjpngldnkgofaaaW.PrintWords Go.Proofs.YtjpngldnkgofaaaW.PrintLast Go.Proofs.YtjpngldnkgofaaaW.PrintMore
attribute [local go_sem] max2_int min2_int max_two min_two max_three min_three max_four min_four   -- for this text's walks alone
set_option linter.unusedVariables false
set_option linter.unusedSimpArgs false

/-! ### impl_CrashDisk: function 17 -/
mutual
def impl_CrashDisk.l0 : Nat → List Int → Int → List (S63) → List (S63) → Int → Int → List ByteArray → List (S63) → Option (List ByteArray × (List (S63)))
 | 0, _, _, _, _, _, _, _, _ => none
 | k + 1, x1, x2, x8, x22, x23, x24, x331000, x331001 => if x24 < x23 then (if 0 ≤ x24 then (if x24 < (x22.length : Int) then (if x24 < (x1.length : Int) then (if (Int.tmod (rd x1 x24) 2) = 0 then (impl_CrashDisk.l0 k x1 x2 x8 x22 x23 (wrap64 (x24 + 1)) x331000 x331001) else (if x8.length < 5864062014805 then (impl_CrashDisk.l0 k x1 x2 (x8 ++ [(⟨(rd_T63 x22 x24).f0, (rd_T63 x22 x24).f1⟩ : S63)]) x22 x23 (wrap64 (x24 + 1)) x331000 x331001) else (none))) else (impl_CrashDisk.l0 k x1 x2 x8 x22 x23 (wrap64 (x24 + 1)) x331000 x331001)) else (none)) else (none)) else (impl_CrashDisk.l1 k x2 x8 x8 (x8.length : Int) 0 x331000 x331001)
def impl_CrashDisk.l1 : Nat → Int → List (S63) → List (S63) → Int → Int → List ByteArray → List (S63) → Option (List ByteArray × (List (S63)))
 | 0, _, _, _, _, _, _, _ => none
 | k + 1, x2, x8, x46, x47, x48, x331000, x331001 => if x48 < x47 then (if 0 ≤ x48 then (if x48 < (x46.length : Int) then (if x48 = (wrap64 ((x8.length : Int) - 1)) then (if 0 ≤ (Int.tmod (wrap64 ((wrap64 ((Int.tmod x2 33) + 32)) + 1)) 33) then (if (Int.tmod (wrap64 ((wrap64 ((Int.tmod x2 33) + 32)) + 1)) 33) ≤ (((rd_T63 x46 x48).f1).size : Int) then (if 0 ≤ ((rd_T63 x46 x48).f0) then (if ((rd_T63 x46 x48).f0) < (x331000.length : Int) then (if (Int.tmod (wrap64 ((wrap64 ((Int.tmod x2 33) + 32)) + 1)) 33) ≤ ((rdOf ByteArray.empty x331000 ((rd_T63 x46 x48).f0)).size : Int) then (if (((rd_T63 x46 x48).f1).extract 0 ((Int.tmod (wrap64 ((wrap64 ((Int.tmod x2 33) + 32)) + 1)) 33) : Int).toNat).size + ((rdOf ByteArray.empty x331000 ((rd_T63 x46 x48).f0)).extract ((Int.tmod (wrap64 ((wrap64 ((Int.tmod x2 33) + 32)) + 1)) 33) : Int).toNat (rdOf ByteArray.empty x331000 ((rd_T63 x46 x48).f0)).size).size ≤ 9223372036854775807 then (impl_CrashDisk.l1 k x2 x8 x46 x47 (wrap64 (x48 + 1)) (x331000.set (((rd_T63 x46 x48).f0) : Int).toNat ((((rd_T63 x46 x48).f1).extract 0 ((Int.tmod (wrap64 ((wrap64 ((Int.tmod x2 33) + 32)) + 1)) 33) : Int).toNat) ++ ((rdOf ByteArray.empty x331000 ((rd_T63 x46 x48).f0)).extract ((Int.tmod (wrap64 ((wrap64 ((Int.tmod x2 33) + 32)) + 1)) 33) : Int).toNat (rdOf ByteArray.empty x331000 ((rd_T63 x46 x48).f0)).size))) x331001) else (none)) else (none)) else (none)) else (none)) else (none)) else (none)) else (if 0 ≤ 32 then (if 32 ≤ (((rd_T63 x46 x48).f1).size : Int) then (if 0 ≤ ((rd_T63 x46 x48).f0) then (if ((rd_T63 x46 x48).f0) < (x331000.length : Int) then (if 32 ≤ ((rdOf ByteArray.empty x331000 ((rd_T63 x46 x48).f0)).size : Int) then (if (((rd_T63 x46 x48).f1).extract 0 32).size + ((rdOf ByteArray.empty x331000 ((rd_T63 x46 x48).f0)).extract 32 (rdOf ByteArray.empty x331000 ((rd_T63 x46 x48).f0)).size).size ≤ 9223372036854775807 then (impl_CrashDisk.l1 k x2 x8 x46 x47 (wrap64 (x48 + 1)) (x331000.set (((rd_T63 x46 x48).f0) : Int).toNat ((((rd_T63 x46 x48).f1).extract 0 32) ++ ((rdOf ByteArray.empty x331000 ((rd_T63 x46 x48).f0)).extract 32 (rdOf ByteArray.empty x331000 ((rd_T63 x46 x48).f0)).size))) x331001) else (none)) else (none)) else (none)) else (none)) else (none)) else (none))) else (none)) else (none)) else (some (x331000, ([] : List (S63))))
end
def impl_CrashDisk.f (k : Nat) (l0_0 : List ByteArray) (l0_1 : List (S63)) (l1 : List Int) (a2 : Int) : Option (List ByteArray × (List (S63))) := (impl_cloneDisk.f l0_0 l0_1).bind fun bt324 => ((impl_DiskOk.f l0_0 l0_1).bind fun t331 => (if t331 = true then (impl_CrashDisk.l0 k l1 a2 (([] : List (S63))) l0_1 (l0_1.length : Int) 0 bt324.1 bt324.2) else (some (bt324.1, bt324.2))))
theorem impl_CrashDisk.mono_l : ∀ k, (∀ y0 y1 y2 y3 y4 y5 y6 y7, LeO (impl_CrashDisk.l0 k y0 y1 y2 y3 y4 y5 y6 y7) (impl_CrashDisk.l0 (k + 1) y0 y1 y2 y3 y4 y5 y6 y7)) ∧ (∀ y0 y1 y2 y3 y4 y5 y6, LeO (impl_CrashDisk.l1 k y0 y1 y2 y3 y4 y5 y6) (impl_CrashDisk.l1 (k + 1) y0 y1 y2 y3 y4 y5 y6))
 | 0 => ⟨fun _ _ _ _ _ _ _ _ r h => by simp [impl_CrashDisk.l0] at h, fun _ _ _ _ _ _ _ r h => by simp [impl_CrashDisk.l1] at h⟩
 | k + 1 => by
  obtain ⟨ih0, ih1⟩ := impl_CrashDisk.mono_l k
  refine ⟨?_, ?_⟩
  ·intro y0 y1 y2 y3 y4 y5 y6 y7
   unfold impl_CrashDisk.l0
   repeat' first
   | (with_reducible exact ih0 _ _ _ _ _ _ _ _)
   | (with_reducible exact ih1 _ _ _ _ _ _ _)
   | (with_reducible exact LeO.refl _)
   | (with_reducible exact LeO.none _)
   | (with_reducible refine LeO.ite ?_ ?_)
   | (with_reducible refine LeO.bind ?_ (fun _ => ?_))
   | exact ih0 _ _ _ _ _ _ _ _
   | exact ih1 _ _ _ _ _ _ _
   | exact LeO.none _
   | refine LeO.ite ?_ ?_
   | refine LeO.bind ?_ (fun _ => ?_)
  ·intro y0 y1 y2 y3 y4 y5 y6
   unfold impl_CrashDisk.l1
   repeat' first
   | (with_reducible exact ih0 _ _ _ _ _ _ _ _)
   | (with_reducible exact ih1 _ _ _ _ _ _ _)
   | (with_reducible exact LeO.refl _)
   | (with_reducible exact LeO.none _)
   | (with_reducible refine LeO.ite ?_ ?_)
   | (with_reducible refine LeO.bind ?_ (fun _ => ?_))
   | exact ih0 _ _ _ _ _ _ _ _
   | exact ih1 _ _ _ _ _ _ _
   | exact LeO.none _
   | refine LeO.ite ?_ ?_
   | refine LeO.bind ?_ (fun _ => ?_)
theorem impl_CrashDisk.mono : ∀ a0 a1 a2 a3 k, LeO (impl_CrashDisk.f k a0 a1 a2 a3) (impl_CrashDisk.f (k + 1) a0 a1 a2 a3) := by
 intro a0 a1 a2 a3 k
 obtain ⟨ih0, ih1⟩ := impl_CrashDisk.mono_l k
 unfold impl_CrashDisk.f
 repeat' first
   | (with_reducible exact ih0 _ _ _ _ _ _ _ _)
   | (with_reducible exact ih1 _ _ _ _ _ _ _)
   | (with_reducible exact LeO.refl _)
   | (with_reducible exact LeO.none _)
   | (with_reducible refine LeO.ite ?_ ?_)
   | (with_reducible refine LeO.bind ?_ (fun _ => ?_))
   | exact ih0 _ _ _ _ _ _ _ _
   | exact ih1 _ _ _ _ _ _ _
   | exact LeO.none _
   | refine LeO.ite ?_ ?_
   | refine LeO.bind ?_ (fun _ => ?_)
def impl_CrashDisk.T17 : Bool × List (List Nat × List Nat) := (true, [([], []), ([0], [0]), ([], []), ([2], [2]), ([], []), ([4], [4]), ([], []), ([5, 6], [5, 6]), ([], []), ([8], [8]), ([], []), ([10], [10]), ([9, 11], [9, 11]), ([12], [12]), ([], []), ([13, 14], [13, 14]), ([7, 15], [7, 15]), ([1, 3, 0, 1, 2, 3, 4, 5, 6, 7, 8, 9, 10, 11, 12, 13, 14, 15, 16], [1, 3]), ([17, 16, 0, 1, 2, 3, 4, 5, 6, 7, 8, 9, 10, 11, 12, 13, 14, 15, 16], [16, 17])])
def impl_CrashDisk.B17 : List Nat := [0, 1, 0, 4, 0, 16, 0, 112, 0, 256, 0, 1024, 3840, 7936, 0, 32512, 65520, 131071, 262143]
theorem impl_CrashDisk.tab17 : rtab .any (opsOf Try.f17 17) = impl_CrashDisk.T17 := by kernel_rfl
theorem impl_CrashDisk.bits17 : waitsOk impl_CrashDisk.T17.2 impl_CrashDisk.B17 = true := by kernel_rfl
set_option maxHeartbeats 8000000 in
set_option maxRecDepth 100000 in
theorem impl_CrashDisk.calls (k : Nat) (A0_0 : Option Addr) (c0_0 : Nat) (l0_0 : List ByteArray) (A0_1 : Option Addr) (c0_1 : Nat) (l0_1 : List (S63)) (A1 : Option Addr) (c1 : Nat) (l1 : List Int) (a2 : Int) (r1 : List ByteArray) (r2 : List (S63)) (w : World) (hr0_0 : Kd.C Kd.string w A0_0 l0_0.length l0_0) (hc0_0 : l0_0.length ≤ c0_0) (hr0_1 : Kd.C k63 w A0_1 l0_1.length l0_1) (hc0_1 : l0_1.length ≤ c0_1) (hr1 : Kd.C (Kd.int .i64) w A1 l1.length l1) (hc1 : l1.length ≤ c1) (h : impl_CrashDisk.f k l0_0 l0_1 l1 a2 = some (r1, r2)) :
  Calls Try.prog 17 #[.agg #[.slice A0_0 l0_0.length c0_0, .slice A0_1 l0_1.length c0_1], .slice A1 l1.length c1, .int .i64 a2] w fun e w' => ∃ v0_ v1_ : Value, e = .returned (.agg #[v0_, v1_]) ∧ Kd.R Kd.string 9 w' w.heap.size (fun _ => True) v0_ r1 ∧ Kd.R k63 63 w' w.heap.size (fun _ => True) v1_ r2 ∧ Below w.heap.size w w' := by
 have hu27 := Try.underlying27
 have hu63 := Try.underlying63
 have HR0_0 := Aside0.mk hr0_0
 have HC0_0 := Aside0.mk hc0_0
 clear hr0_0 hc0_0
 have HR0_1 := Aside0.mk hr0_1
 have HC0_1 := Aside0.mk hc0_1
 clear hr0_1 hc0_1
 have HR1 := Aside0.mk hr1
 have HC1 := Aside0.mk hc1
 clear hr1 hc1
 have HB := ak (Below.refl w.heap.size w)
 have H : ((impl_cloneDisk.f l0_0 l0_1).bind fun bt324 => ((impl_DiskOk.f l0_0 l0_1).bind fun t331 => (if t331 = true then (impl_CrashDisk.l0 k l1 a2 (([] : List (S63))) l0_1 (l0_1.length : Int) 0 bt324.1 bt324.2) else (some (bt324.1, bt324.2))))) = some (r1, r2) := h
 clear h
 replace H := Option.bind_eq_some_iff.mp H
 obtain ⟨⟨t324, t327⟩, A40, H⟩ := H
 replace H : ((impl_DiskOk.f l0_0 l0_1).bind fun t331 => (if t331 = true then (impl_CrashDisk.l0 k l1 a2 (([] : List (S63))) l0_1 (l0_1.length : Int) 0 t324 t327) else (some (t324, t327)))) = some (r1, r2) := H
 have A4 := Aside0.mk A40
 clear A40
 replace H := Option.bind_eq_some_iff.mp H
 obtain ⟨t331, A50, H⟩ := H
 replace H : (if t331 = true then (impl_CrashDisk.l0 k l1 a2 (([] : List (S63))) l0_1 (l0_1.length : Int) 0 t324 t327) else (some (t324, t327))) = some (r1, r2) := H
 have A5 := Aside0.mk A50
 clear A50
 by_cases c6 : t331 = true
 ·subst c6
  have H1 : (impl_CrashDisk.l0 k l1 a2 (([] : List (S63))) l0_1 (l0_1.length : Int) 0 t324 t327) = some (r1, r2) := by rw [if_pos rfl] at H; exact H
  clear H
  have H := H1
  clear H1
  obtain ⟨y332, hy332⟩ : ∃ y_ : List (S63), y_ = (([] : List (S63))) := ⟨_, rfl⟩
  replace H : (impl_CrashDisk.l0 k l1 a2 y332 l0_1 (l0_1.length : Int) 0 t324 t327) = some (r1, r2) := by first | (rw [hy332]; with_reducible exact H) | (have H2_ := (Option.bind_some _ _).symm.trans H; rw [hy332]; with_reducible exact H2_) | (have H2_ := (Option.bind_some _ _).symm.trans H; with_reducible exact H2_) | with_reducible exact H | (rw [hy332]; exact H) | exact H
  have Ny332 := Aside0.mk hy332
  clear hy332
  have H' := Aside0.mk H
  clear H
  go_enter Try.func17, Try.ntmps17
  go_wp2_with (first | ((with_reducible refine gate_dst (N := 3) rfl ?_); refine bx 3 #[.slice A0_0 l0_0.length c0_0, .slice A0_1 l0_1.length c0_1] 27 ?_; intro gb322 hg w7 hbox hb; replace BK322 := ak (hbox); replace GW322 := ak (bz hg (lG HB)); replace GE322 := ak (bz hg (lG HB)); replace HB := lB HB hb; clear hb hbox hg) | ((with_reducible refine gate_dst (N := 6) rfl ?_); refine bx 6 #[.slice none 0 0, .slice none 0 0] 27 ?_; intro gb323 hg w8 hbox hb; replace BK323 := ak (hbox); replace GW323 := ak (bz hg (lT HB (gC GE322 gN))); replace GE323 := ak (bz hg (lT HB (gC GE322 gN))); replace HB := ak (below_step (lT HB (gC GE322 gN)) hb); replace NB322_323 := ak (nl hg (bG BK322)); replace NB323_322 := ak (ng hg (bG BK322)); replace BK322 := bB BK322 hb; clear hb hbox hg; have hnb9 := NB322_323.out; have hnc9 := NB323_322.out; obtain ⟨hcz10_0, hcz10_1, hfz10_0, hfz10_1⟩ := bC2 BK322) | ((with_reducible refine gate_callee (f := 48) rfl ?_); refine gl (some 15) Try.func48 #[.agg #[.slice A0_0 l0_0.length c0_0, .slice A0_1 l0_1.length c0_1]] ?_; (with_reducible refine (impl_cloneDisk.calls _ _ l0_0 _ _ l0_1 t324 t327 _ ?side1 ?side2 ?side3 ?side4 A4.out).mono ?_); (case side1 => exact cG (Kd.C_below HR0_0.out HB.out)); (case side2 => exact HC0_0.out); (case side3 => exact cG (Kd.C_below HR0_1.out HB.out)); (case side4 => exact HC0_1.out); rintro e w11 ⟨v325, v328, rfl, ho0, ho1, hb⟩; refine ⟨_, rfl, ?_⟩; replace HO326 := ak (Kd.R_lower ho0 (below_size (lT HB (gC GE322 (gC GE323 gN))))); replace HO329 := ak (Kd.R_lower ho1 (below_size (lT HB (gC GE322 (gC GE323 gN))))); replace BK322 := bB BK322 hb; replace BK323 := bB BK323 hb; replace HB := ak (below_step (lT HB (gC GE322 (gC GE323 gN))) hb); (try clear hb); (try clear hk); (try clear ho0); (try clear ho1)) | ((with_reducible refine gate_dst (N := 7) rfl ?_); refine bx 7 #[.slice none 0 0, .slice none 0 0] 27 ?_; intro gb330 hg w12 hbox hb; replace HO326 := rB HO326 hb; replace HO329 := rB HO329 hb; replace BK330 := ak (hbox); replace GW330 := ak (bz hg (lT HB (gC GE322 (gC GE323 gN)))); replace GE330 := ak (bz hg (lT HB (gC GE322 (gC GE323 gN)))); replace HB := ak (below_step (lT HB (gC GE322 (gC GE323 gN))) hb); replace NB322_330 := ak (nl hg (bG BK322)); replace NB330_322 := ak (ng hg (bG BK322)); replace BK322 := bB BK322 hb; replace NB323_330 := ak (nl hg (bG BK323)); replace NB330_323 := ak (ng hg (bG BK323)); replace BK323 := bB BK323 hb; clear hb hbox hg; obtain ⟨Ao13, co13, eo13⟩ := Kd.R_slice HO326.out; subst eo13; have hnb14 := NB330_322.out; have hnc14 := NB322_330.out; have hnb15 := NB330_323.out; have hnc15 := NB323_330.out; obtain ⟨hcz16_0, hcz16_1, hfz16_0, hfz16_1⟩ := bC2 BK330; obtain ⟨Ao17, co17, eo17⟩ := Kd.R_slice HO329.out; subst eo17; obtain ⟨hcz18_0, hcz18_1, hfz18_0, hfz18_1⟩ := bC2 BK322) | ((with_reducible refine gate_callee (f := 16) rfl ?_); refine gl (some 17) Try.func16 #[.agg #[.slice A0_0 l0_0.length c0_0, .slice A0_1 l0_1.length c0_1]] ?_; (with_reducible refine (impl_DiskOk.calls _ _ l0_0 _ _ l0_1 true _ ?side1 ?side2 ?side3 ?side4 A5.out).mono ?_); (case side1 => exact Kd.C_below HR0_0.out (lT HB (gC GE322 (gC GE323 (gC GE330 gN))))); (case side2 => exact HC0_0.out); (case side3 => exact Kd.C_below HR0_1.out (lT HB (gC GE322 (gC GE323 (gC GE330 gN))))); (case side4 => exact HC0_1.out); rintro e w19 ⟨rfl, hb⟩; refine ⟨_, rfl, ?_⟩; replace HO326 := ak (Kd.R_below (rT HO326 BK330 (by decide)) hb); replace HO329 := ak (Kd.R_below (rT HO329 BK330 (by decide)) hb); replace BK322 := ak (blk_below (bT BK322 (nC NB322_330 nN)) hb); replace BK323 := ak (blk_below (bT BK323 (nC NB323_330 nN)) hb); replace BK330 := ak (blk_below (g := gb330) (o := .cells #[.slice Ao13 t324.length co13, .slice Ao17 t327.length co17] 27 (0, 0)) (by (with_reducible repeat (first | refine blk_drewN ?_ _ | refine blk_drew ?_ | refine blk_alloc ?_ _)); refine blk_put (cs := #[.slice Ao13 t324.length co13, .slice none 0 0]) ?_ 1 _ rfl; (with_reducible repeat (first | refine blk_drewN ?_ _ | refine blk_drew ?_ | refine blk_alloc ?_ _)); refine blk_put (cs := #[.slice none 0 0, .slice none 0 0]) ?_ 0 _ rfl; (with_reducible repeat (first | refine blk_drewN ?_ _ | refine blk_drew ?_ | refine blk_alloc ?_ _)); exact BK330.out) hb); replace HB := ak (below_step (lT HB (gC GE322 (gC GE323 (gC GE330 gN)))) hb); (try clear hb); (try clear hk)) | ((with_reducible refine gate_dst (N := 20) rfl ?_); refine Kd.R_lit k63 _ 63 ?hg (N := 20) ?hd (xs := ([] : List (S63))) (inner := []) (ok := fun _ => True) (okp := fun _ => True) ?hr ?hp (fun _ hk => hk) trivial (Below.refl _ _) (Nat.le_refl _) (by simp) ?_; (case hd => rfl); (case hg => rfl); (case hr => first | (go_simp; done) | (go_simp; rfl)); (case hp => exact (Reps.none _ _)); intro v333 w20 ho21 hb hg_ hnew_; clear hg_ hnew_; (first | rw [← Ny332.out] at ho21 | (simp only [Int.reduceToNat] at ho21; rw [← Ny332.out] at ho21)); replace HO326 := rB HO326 hb; replace HO334 := ak (Kd.R_lower (Kd.R_new' ho21 (Kd.R_lt (rG HO329))) (below_size (lT HB (gC GE322 (gC GE323 (gC GE330 gN)))))); replace HO329 := ak (Kd.R_elder' (rG HO329) (Kd.R_base ho21) hb); replace BK322 := bB BK322 hb; replace BK323 := bB BK323 hb; replace BK330 := bB BK330 hb; replace HB := ak (below_step (lT HB (gC GE322 (gC GE323 (gC GE330 gN)))) hb); clear hb ho21; obtain ⟨hcz22_0, hcz22_1, hfz22_0, hfz22_1⟩ := bC2 BK322))
  go_loopg [8, 24] k (fun kq v8 v24 w' => ∃ (x8_1 : List (S63)) (x24_1 : Int), v24 = .int .i64 x24_1 ∧ Aside0 (impl_CrashDisk.l0 kq l1 a2 x8_1 l0_1 (l0_1.length : Int) x24_1 t324 t327 = some (r1, r2)) ∧ Aside0 (kq ≤ k) ∧ Aside0 (Kd.R k63 63 w' w.heap.size (fun k_ => some k_ ≠ ((.slice Ao17 t327.length co17) : Value).ownBlock) v8 x8_1) ∧ Aside0 (Kd.R Kd.string 9 w' w.heap.size (fun _ => True) (.slice Ao13 t324.length co13) t324) ∧ Aside0 (Kd.R k63 63 w' w.heap.size (fun k_ => some k_ ≠ (v8 : Value).ownBlock) (.slice Ao17 t327.length co17) t327) ∧ Aside0 (w'.heap[gb322]? = some (.cells #[(.slice A0_0 l0_0.length c0_0), (.slice A0_1 l0_1.length c0_1)] 27 (0, 0))) ∧ Aside0 (w'.heap[gb323]? = some (.cells #[(.slice none 0 0), (.slice none 0 0)] 27 (0, 0))) ∧ Aside0 (w'.heap[gb330]? = some (.cells #[(.slice Ao13 t324.length co13), (.slice Ao17 t327.length co17)] 27 (0, 0))) ∧ Aside0 (Below w.heap.size w w'))
  case atStart => exact ⟨(y332), (0), (by first | rfl | (simp; done) | (simp [*]; done)), H', ⟨Nat.le_refl _⟩, ⟨by (with_reducible repeat (first | apply Kd.R_alloc | apply Kd.R_drewN | apply Kd.R_drew)); exact Kd.R_mono HO334.out (fun _ hk => hk.2)⟩, ⟨by (with_reducible repeat (first | apply Kd.R_alloc | apply Kd.R_drewN | apply Kd.R_drew)); exact HO326.out⟩, ⟨by (with_reducible repeat (first | apply Kd.R_alloc | apply Kd.R_drewN | apply Kd.R_drew)); exact Kd.R_mono HO329.out (fun _ hk => hk.2)⟩, ⟨by (with_reducible repeat (first | refine blk_drewN ?_ _ | refine blk_drew ?_ | refine blk_alloc ?_ _)); exact BK322.out⟩, ⟨by (with_reducible repeat (first | refine blk_drewN ?_ _ | refine blk_drew ?_ | refine blk_alloc ?_ _)); exact BK323.out⟩, ⟨by (with_reducible repeat (first | refine blk_drewN ?_ _ | refine blk_drew ?_ | refine blk_alloc ?_ _)); exact BK330.out⟩, ⟨by exact lT HB (gC GE322 (gC GE323 (gC GE330 gN)))⟩⟩
  case round =>
   clear H'
   try clear c1
   try clear p2
   try clear c4
   try clear c6
   try clear c9
   try clear c14
   try clear c15
   try clear c16
   try clear c17
   try clear hcz10_0
   try clear hcz10_1
   try clear hcz16_0
   try clear hcz16_1
   try clear hcz18_0
   try clear hcz18_1
   try clear hcz22_0
   try clear hcz22_1
   try clear hfz10_0
   try clear hfz10_1
   try clear hfz16_0
   try clear hfz16_1
   try clear hfz18_0
   try clear hfz18_1
   try clear hfz22_0
   try clear hfz22_1
   obtain ⟨x8_1, x24_1, rfl, HA, HK1, HO_8, HO_331000, HO_331001, BK322, BK323, BK330, HB⟩ := hrel
   cases gk with
   | zero => exact absurd HA.out (by simp [impl_CrashDisk.l0])
   | succ k1 =>
    have H := HA.out
    clear HA
    simp only [impl_CrashDisk.l0] at H
    by_cases c23 : x24_1 < (l0_1.length : Int)
    ·rw [if_pos c23] at H
     have c23b0 : decide (x24_1 < (l0_1.length : Int)) = true := decide_eq_true c23
     clear c23
     by_cases c24 : 0 ≤ x24_1
     ·rw [if_pos c24] at H
      have c24b0 : decide (0 ≤ x24_1) = true := decide_eq_true c24
      clear c24
      by_cases c25 : x24_1 < (l0_1.length : Int)
      ·rw [if_pos c25] at H
       have c25b0 : decide (x24_1 < (l0_1.length : Int)) = true := decide_eq_true c25
       clear c25
       by_cases c26 : x24_1 < (l1.length : Int)
       ·rw [if_pos c26] at H
        have c26b0 : decide (x24_1 < (l1.length : Int)) = true := decide_eq_true c26
        clear c26
        by_cases c27 : (Int.tmod (rd l1 x24_1) 2) = 0
        ·rw [if_pos c27] at H
         have c27b0 : ((Int.tmod (rd l1 x24_1) 2) == 0) = true := beq_iff_eq.mpr c27
         have c27b1 : ((Int.tmod (rd l1 x24_1) 2) != 0) = false := bne_eq_false_iff_eq.mpr c27
         clear c27
         have H' := Aside0.mk H
         clear H
         have p335 : 0 ≤ (x24_1 : Int) := of_decide_eq_true (by first | (with_reducible assumption) | assumption)
         have q335 : x24_1 < (l0_1.length : Int) := of_decide_eq_true (by first | (with_reducible assumption) | assumption)
         obtain ⟨ad335, e335, hx335_0, hx335_1⟩ := at_T63 HR0_1.out x24_1 p335 q335
         cases e335
         replace hx335_0 := (HB.out.cell (World.block_lt_of_cell? w _ hx335_0)).trans hx335_0
         replace hx335_1 := (HB.out.cell (World.block_lt_of_cell? w _ hx335_1)).trans hx335_1
         replace p335 := eq_true p335
         replace q335 := eq_true q335
         go_wp2_with (first | ((with_reducible refine gate_dst (N := 10) rfl ?_); refine bx 10 #[.int .i64 0, .string (⟨#[]⟩ : ByteArray)] 63 ?_; intro gb336 hg w28 hbox hb; replace HO_8 := ak (Kd.R_below (Kd.R_elderB (rG HO_8) gb336 (Nat.le_of_eq hg.symm)) hb); replace HO_331000 := rB HO_331000 hb; replace HO_331001 := ak (Kd.R_below (Kd.R_elderB (rG HO_331001) gb336 (Nat.le_of_eq hg.symm)) hb); replace BK336 := ak (hbox); replace GW336 := ak (bz hg (lT HB (gC GE322 (gC GE323 (gC GE330 gN))))); replace GE336 := ak (bz hg (lT HB (gC GE322 (gC GE323 (gC GE330 gN))))); replace HB := ak (below_step (lT HB (gC GE322 (gC GE323 (gC GE330 gN)))) hb); replace NB322_336 := ak (nl hg (bG BK322)); replace NB336_322 := ak (ng hg (bG BK322)); replace BK322 := bB BK322 hb; replace NB323_336 := ak (nl hg (bG BK323)); replace NB336_323 := ak (ng hg (bG BK323)); replace BK323 := bB BK323 hb; replace NB330_336 := ak (nl hg (bG BK330)); replace NB336_330 := ak (ng hg (bG BK330)); replace BK330 := bB BK330 hb; clear hb hbox hg; have hnb29 := NB336_322.out; have hnc29 := NB322_336.out; have hnb30 := NB336_323.out; have hnc30 := NB323_336.out; have hnb31 := NB336_330.out; have hnc31 := NB330_336.out; obtain ⟨hcz32_0, hcz32_1, hfz32_0, hfz32_1⟩ := bC2 BK336; have p337 : 0 ≤ (x24_1 : Int) := of_decide_eq_true (by first | (with_reducible assumption) | assumption); have q337 : x24_1 < (l1.length : Int) := of_decide_eq_true (by first | (with_reducible assumption) | assumption); obtain ⟨ad337, e337, hx337_0⟩ := Kd.at_int HR1.out x24_1 p337 q337; cases e337; have hn337_0 : ad337.block ≠ gb336 := Nat.ne_of_lt (Nat.lt_of_lt_of_le (by have := World.block_lt_of_cell? _ _ hx337_0; first | rwa [add_block] at this | exact this) GW336.out); have hn337_1 : ad337.block ≠ gb336 := Nat.ne_of_lt (Nat.lt_of_lt_of_le (by have := World.block_lt_of_cell? _ _ hx337_0; first | rwa [add_block] at this | exact this) GW336.out); replace hx337_0 := (HB.out.cell (World.block_lt_of_cell? w _ hx337_0)).trans hx337_0; replace hx337_0 := (cell_far (p := ⟨gb336, 0, none⟩) (by first | (rw [add_block]; exact hn337_0) | (show (Addr.add _ _).block ≠ _; rw [add_block]; exact hn337_0) | exact hn337_0) (.int .i64 ((rd_T63 l0_1 x24_1).f0))).trans hx337_0; replace hx337_0 := (cell_far (p := ⟨gb336, 1, none⟩) (by first | (rw [add_block]; exact hn337_1) | (show (Addr.add _ _).block ≠ _; rw [add_block]; exact hn337_1) | exact hn337_1) (.string ((rd_T63 l0_1 x24_1).f1))).trans hx337_0; clear hn337_0; clear hn337_1; replace p337 := eq_true p337; replace q337 := eq_true q337))
         go_roundg k1
         case measure => have := HK1.out; omega
         case rel => exact ⟨(x8_1), (wrap64 (x24_1 + 1)), (by first | rfl | (simp; done) | (simp [*]; done)), H', ⟨by have := HK1.out; omega⟩, ⟨by (with_reducible repeat (first | apply Kd.R_alloc | apply Kd.R_drewN | apply Kd.R_drew)); exact Kd.R_mono (Kd.R_far (p := ⟨gb336, 1, none⟩) (Kd.R_far (p := ⟨gb336, 0, none⟩) (Kd.R_mono HO_8.out (fun k_ hk => (⟨hk, hk.2⟩ : _ ∧ k_ ≠ gb336))) (fun _ hk => hk.2) (.int .i64 ((rd_T63 l0_1 x24_1).f0))) (fun _ hk => hk.2) (.string ((rd_T63 l0_1 x24_1).f1))) (fun _ hk => hk.1.1)⟩, ⟨by (with_reducible repeat (first | apply Kd.R_alloc | apply Kd.R_drewN | apply Kd.R_drew)); exact Kd.R_mono (Kd.R_far (p := ⟨gb336, 1, none⟩) (Kd.R_far (p := ⟨gb336, 0, none⟩) (Kd.R_types HO_331000.out BK336.out (by decide)) (fun _ hk => hk.2) (.int .i64 ((rd_T63 l0_1 x24_1).f0))) (fun _ hk => hk.2) (.string ((rd_T63 l0_1 x24_1).f1))) (fun _ hk => trivial)⟩, ⟨by (with_reducible repeat (first | apply Kd.R_alloc | apply Kd.R_drewN | apply Kd.R_drew)); exact Kd.R_mono (Kd.R_far (p := ⟨gb336, 1, none⟩) (Kd.R_far (p := ⟨gb336, 0, none⟩) (Kd.R_mono HO_331001.out (fun k_ hk => (⟨hk, hk.2⟩ : _ ∧ k_ ≠ gb336))) (fun _ hk => hk.2) (.int .i64 ((rd_T63 l0_1 x24_1).f0))) (fun _ hk => hk.2) (.string ((rd_T63 l0_1 x24_1).f1))) (fun _ hk => hk.1.1)⟩, ⟨by (with_reducible repeat (first | refine blk_drewN ?_ _ | refine blk_drew ?_ | refine blk_alloc ?_ _)); refine blk_far ?_ NB322_336.out _; (with_reducible repeat (first | refine blk_drewN ?_ _ | refine blk_drew ?_ | refine blk_alloc ?_ _)); refine blk_far ?_ NB322_336.out _; (with_reducible repeat (first | refine blk_drewN ?_ _ | refine blk_drew ?_ | refine blk_alloc ?_ _)); exact BK322.out⟩, ⟨by (with_reducible repeat (first | refine blk_drewN ?_ _ | refine blk_drew ?_ | refine blk_alloc ?_ _)); refine blk_far ?_ NB323_336.out _; (with_reducible repeat (first | refine blk_drewN ?_ _ | refine blk_drew ?_ | refine blk_alloc ?_ _)); refine blk_far ?_ NB323_336.out _; (with_reducible repeat (first | refine blk_drewN ?_ _ | refine blk_drew ?_ | refine blk_alloc ?_ _)); exact BK323.out⟩, ⟨by (with_reducible repeat (first | refine blk_drewN ?_ _ | refine blk_drew ?_ | refine blk_alloc ?_ _)); refine blk_far ?_ NB330_336.out _; (with_reducible repeat (first | refine blk_drewN ?_ _ | refine blk_drew ?_ | refine blk_alloc ?_ _)); refine blk_far ?_ NB330_336.out _; (with_reducible repeat (first | refine blk_drewN ?_ _ | refine blk_drew ?_ | refine blk_alloc ?_ _)); exact BK330.out⟩, ⟨by exact lT HB (gC GE322 (gC GE323 (gC GE330 (gC GE336 gN))))⟩⟩
        ·rw [if_neg c27] at H
         have c27b0 : ((Int.tmod (rd l1 x24_1) 2) == 0) = false := beq_eq_false_iff_ne.mpr c27
         have c27b1 : ((Int.tmod (rd l1 x24_1) 2) != 0) = true := bne_iff_ne.mpr c27
         by_cases c33 : x8_1.length < 5864062014805
         ·rw [if_pos c33] at H
          have LMc33 := Aside0.mk c33
          clear c33
          obtain ⟨y338, hy338⟩ : ∃ y_ : List (S63), y_ = (x8_1 ++ [(⟨(rd_T63 l0_1 x24_1).f0, (rd_T63 l0_1 x24_1).f1⟩ : S63)]) := ⟨_, rfl⟩
          replace H : (impl_CrashDisk.l0 k1 l1 a2 y338 l0_1 (l0_1.length : Int) (wrap64 (x24_1 + 1)) t324 t327) = some (r1, r2) := by first | (rw [hy338]; with_reducible exact H) | (have H2_ := (Option.bind_some _ _).symm.trans H; rw [hy338]; with_reducible exact H2_) | (have H2_ := (Option.bind_some _ _).symm.trans H; with_reducible exact H2_) | with_reducible exact H | (rw [hy338]; exact H) | exact H
          have Ny338 := Aside0.mk hy338
          clear hy338
          have H' := Aside0.mk H
          clear H
          have p335 : 0 ≤ (x24_1 : Int) := of_decide_eq_true (by first | (with_reducible assumption) | assumption)
          have q335 : x24_1 < (l0_1.length : Int) := of_decide_eq_true (by first | (with_reducible assumption) | assumption)
          obtain ⟨ad335, e335, hx335_0, hx335_1⟩ := at_T63 HR0_1.out x24_1 p335 q335
          cases e335
          replace hx335_0 := (HB.out.cell (World.block_lt_of_cell? w _ hx335_0)).trans hx335_0
          replace hx335_1 := (HB.out.cell (World.block_lt_of_cell? w _ hx335_1)).trans hx335_1
          replace p335 := eq_true p335
          replace q335 := eq_true q335
          go_wp2_with (first | ((with_reducible refine gate_dst (N := 10) rfl ?_); refine bx 10 #[.int .i64 0, .string (⟨#[]⟩ : ByteArray)] 63 ?_; intro gb336 hg w34 hbox hb; replace HO_8 := ak (Kd.R_below (Kd.R_elderB (rG HO_8) gb336 (Nat.le_of_eq hg.symm)) hb); replace HO_331000 := rB HO_331000 hb; replace HO_331001 := ak (Kd.R_below (Kd.R_elderB (rG HO_331001) gb336 (Nat.le_of_eq hg.symm)) hb); replace BK336 := ak (hbox); replace GW336 := ak (bz hg (lT HB (gC GE322 (gC GE323 (gC GE330 gN))))); replace GE336 := ak (bz hg (lT HB (gC GE322 (gC GE323 (gC GE330 gN))))); replace HB := ak (below_step (lT HB (gC GE322 (gC GE323 (gC GE330 gN)))) hb); replace NB322_336 := ak (nl hg (bG BK322)); replace NB336_322 := ak (ng hg (bG BK322)); replace BK322 := bB BK322 hb; replace NB323_336 := ak (nl hg (bG BK323)); replace NB336_323 := ak (ng hg (bG BK323)); replace BK323 := bB BK323 hb; replace NB330_336 := ak (nl hg (bG BK330)); replace NB336_330 := ak (ng hg (bG BK330)); replace BK330 := bB BK330 hb; clear hb hbox hg; have hnb35 := NB336_322.out; have hnc35 := NB322_336.out; have hnb36 := NB336_323.out; have hnc36 := NB323_336.out; have hnb37 := NB336_330.out; have hnc37 := NB330_336.out; obtain ⟨hcz38_0, hcz38_1, hfz38_0, hfz38_1⟩ := bC2 BK336; have p337 : 0 ≤ (x24_1 : Int) := of_decide_eq_true (by first | (with_reducible assumption) | assumption); have q337 : x24_1 < (l1.length : Int) := of_decide_eq_true (by first | (with_reducible assumption) | assumption); obtain ⟨ad337, e337, hx337_0⟩ := Kd.at_int HR1.out x24_1 p337 q337; cases e337; have hn337_0 : ad337.block ≠ gb336 := Nat.ne_of_lt (Nat.lt_of_lt_of_le (by have := World.block_lt_of_cell? _ _ hx337_0; first | rwa [add_block] at this | exact this) GW336.out); have hn337_1 : ad337.block ≠ gb336 := Nat.ne_of_lt (Nat.lt_of_lt_of_le (by have := World.block_lt_of_cell? _ _ hx337_0; first | rwa [add_block] at this | exact this) GW336.out); replace hx337_0 := (HB.out.cell (World.block_lt_of_cell? w _ hx337_0)).trans hx337_0; replace hx337_0 := (cell_far (p := ⟨gb336, 0, none⟩) (by first | (rw [add_block]; exact hn337_0) | (show (Addr.add _ _).block ≠ _; rw [add_block]; exact hn337_0) | exact hn337_0) (.int .i64 ((rd_T63 l0_1 x24_1).f0))).trans hx337_0; replace hx337_0 := (cell_far (p := ⟨gb336, 1, none⟩) (by first | (rw [add_block]; exact hn337_1) | (show (Addr.add _ _).block ≠ _; rw [add_block]; exact hn337_1) | exact hn337_1) (.string ((rd_T63 l0_1 x24_1).f1))).trans hx337_0; clear hn337_0; clear hn337_1; replace p337 := eq_true p337; replace q337 := eq_true q337) | ((with_reducible refine gate_builtin (b := .append) (xs := #[.tmp 41, .tmp 43]) rfl ?_); at_builtin; refine Kd.R_append k63 (w0 := w) w.heap.size rfl (.tmp 41) (.tmp 43) 25 63 (.agg #[(.int .i64 0), (.string ⟨#[]⟩)]) 24 rfl Try.underlying25 info63 rfl (by decide) (by omega) u8 x8_1 (⟨(rd_T63 l0_1 x24_1).f0, (rd_T63 l0_1 x24_1).f1⟩ : S63) [.int .i64 ((rd_T63 l0_1 x24_1).f0), .string ((rd_T63 l0_1 x24_1).f1)] (fun k_ => some k_ ≠ (.slice Ao17 t327.length co17 : Value).ownBlock ∧ k_ ≠ gb336) (fun _ => False) rfl (by first | (go_simp; done) | (go_simp; rfl)) ?aP (fun _ hk => hk.elim) ?aF ?aO ?aB ?aS ?aL ?_; (case aP => exact k63_mkM _ _ _ (⟨(rd_T63 l0_1 x24_1).f0, (rd_T63 l0_1 x24_1).f1⟩ : S63)); (case aB => exact (lT HB (gC GE322 (gC GE323 (gC GE330 (gC GE336 gN)))))); (case aF => exact (fun k_ hk => ⟨Kd.fresh' (Kd.R_lt (by (with_reducible repeat (first | apply Kd.R_alloc | apply Kd.R_drewN | apply Kd.R_drew)); exact (Kd.R_mono (Kd.R_far (p := ⟨gb336, 1, none⟩) (Kd.R_far (p := ⟨gb336, 0, none⟩) (Kd.R_mono HO_331001.out (fun k_ hk => (⟨hk, hk.2⟩ : _ ∧ k_ ≠ gb336))) (fun _ hk => hk.2) (.int .i64 ((rd_T63 l0_1 x24_1).f0))) (fun _ hk => hk.2) (.string ((rd_T63 l0_1 x24_1).f1))) (fun _ h_ => h_.1)))) k_ hk, Kd.freshB (g := gb336) (o := .cells #[.int .i64 ((rd_T63 l0_1 x24_1).f0), .string ((rd_T63 l0_1 x24_1).f1)] 63 (0, 0)) (by (with_reducible repeat (first | refine blk_drewN ?_ _ | refine blk_drew ?_ | refine blk_alloc ?_ _)); refine blk_put (cs := #[.int .i64 ((rd_T63 l0_1 x24_1).f0), .string (⟨#[]⟩ : ByteArray)]) ?_ 1 _ rfl; (with_reducible repeat (first | refine blk_drewN ?_ _ | refine blk_drew ?_ | refine blk_alloc ?_ _)); refine blk_put (cs := #[.int .i64 0, .string (⟨#[]⟩ : ByteArray)]) ?_ 0 _ rfl; (with_reducible repeat (first | refine blk_drewN ?_ _ | refine blk_drew ?_ | refine blk_alloc ?_ _)); exact BK336.out) k_ hk⟩)); (case aO => exact (by (with_reducible repeat (first | apply Kd.R_alloc | apply Kd.R_drewN | apply Kd.R_drew)); exact Kd.R_mono (Kd.R_far (p := ⟨gb336, 1, none⟩) (Kd.R_far (p := ⟨gb336, 0, none⟩) (Kd.R_mono HO_8.out (fun k_ hk => (⟨hk, hk.2⟩ : _ ∧ k_ ≠ gb336))) (fun _ hk => hk.2) (.int .i64 ((rd_T63 l0_1 x24_1).f0))) (fun _ hk => hk.2) (.string ((rd_T63 l0_1 x24_1).f1))) (fun _ hk => ⟨hk.1.1, hk.1.2⟩))); (case aS => exact (below_size (lT HB (gC GE322 (gC GE323 (gC GE330 (gC GE336 gN))))))); (case aL => have := LMc33.out; omega); intro v339 w39 ho hb hg hat; rw [← Ny338.out] at ho; have n0_ := ak (Kd.R_over' (rT HO_331000 BK336 (by decide)) (Kd.R_typed (by (with_reducible repeat (first | apply Kd.R_alloc | apply Kd.R_drewN | apply Kd.R_drew)); exact (Kd.R_mono (Kd.R_far (p := ⟨gb336, 1, none⟩) (Kd.R_far (p := ⟨gb336, 0, none⟩) (Kd.R_mono HO_8.out (fun k_ hk => (⟨hk, hk.2⟩ : _ ∧ k_ ≠ gb336))) (fun _ hk => hk.2) (.int .i64 ((rd_T63 l0_1 x24_1).f0))) (fun _ hk => hk.2) (.string ((rd_T63 l0_1 x24_1).f1))) (fun _ h_ => h_.1)))) (by decide) hg); have n1_ := ak (Kd.R_after (ok := (fun k_ => k_ ≠ gb336)) (by (with_reducible repeat (first | apply Kd.R_alloc | apply Kd.R_drewN | apply Kd.R_drew)); exact Kd.R_mono (Kd.R_far (p := ⟨gb336, 1, none⟩) (Kd.R_far (p := ⟨gb336, 0, none⟩) (Kd.R_mono HO_331001.out (fun k_ hk => (⟨hk, hk.2⟩ : _ ∧ k_ ≠ gb336))) (fun _ hk => hk.2) (.int .i64 ((rd_T63 l0_1 x24_1).f0))) (fun _ hk => hk.2) (.string ((rd_T63 l0_1 x24_1).f1))) (fun _ hk => ⟨hk.1.2, hk.1.1⟩)) hg hat); have n2_ := ak (blk_grown (g := gb322) (o := .cells #[.slice A0_0 l0_0.length c0_0, .slice (some ad335) l0_1.length c0_1] 27 (0, 0)) (bT BK322 (nC NB322_336 nN)) hg (Kd.R_ne HO_8.out BK322.out (by decide))); have n3_ := ak (blk_grown (g := gb323) (o := .cells #[.slice none 0 0, .slice none 0 0] 27 (0, 0)) (bT BK323 (nC NB323_336 nN)) hg (Kd.R_ne HO_8.out BK323.out (by decide))); have n4_ := ak (blk_grown (g := gb330) (o := .cells #[.slice Ao13 t324.length co13, .slice Ao17 t327.length co17] 27 (0, 0)) (bT BK330 (nC NB330_336 nN)) hg (Kd.R_ne HO_8.out BK330.out (by decide))); have n5_ := ak (blk_grown (g := gb336) (o := .cells #[.int .i64 ((rd_T63 l0_1 x24_1).f0), .string ((rd_T63 l0_1 x24_1).f1)] 63 (0, 0)) (by (with_reducible repeat (first | refine blk_drewN ?_ _ | refine blk_drew ?_ | refine blk_alloc ?_ _)); refine blk_put (cs := #[.int .i64 ((rd_T63 l0_1 x24_1).f0), .string (⟨#[]⟩ : ByteArray)]) ?_ 1 _ rfl; (with_reducible repeat (first | refine blk_drewN ?_ _ | refine blk_drew ?_ | refine blk_alloc ?_ _)); refine blk_put (cs := #[.int .i64 0, .string (⟨#[]⟩ : ByteArray)]) ?_ 0 _ rfl; (with_reducible repeat (first | refine blk_drewN ?_ _ | refine blk_drew ?_ | refine blk_alloc ?_ _)); exact BK336.out) hg (Kd.R_away HO_8.out (fun _ hk => hk.2))); have n6_ := ak (hb); have n7_ := ak (ho); clear HO_331000; clear HO_331001; clear BK322; clear BK323; clear BK330; clear BK336; clear HB; clear HO_8; have HO_331000 := n0_; have HO_331001 := n1_; have BK322 := n2_; have BK323 := n3_; have BK330 := n4_; have BK336 := n5_; have HB := n6_; have HO340 := n7_; clear n0_ n1_ n2_ n3_ n4_ n5_ n6_ n7_; clear ho hb hg hat))
          go_roundg k1
          case measure => have := HK1.out; omega
          case rel => exact ⟨(y338), (wrap64 (x24_1 + 1)), (by first | rfl | (simp; done) | (simp [*]; done)), H', ⟨by have := HK1.out; omega⟩, ⟨by (with_reducible repeat (first | apply Kd.R_alloc | apply Kd.R_drewN | apply Kd.R_drew)); exact Kd.R_mono HO340.out (fun _ hk => hk.1)⟩, ⟨by (with_reducible repeat (first | apply Kd.R_alloc | apply Kd.R_drewN | apply Kd.R_drew)); exact HO_331000.out⟩, ⟨by (with_reducible repeat (first | apply Kd.R_alloc | apply Kd.R_drewN | apply Kd.R_drew)); exact Kd.R_mono HO_331001.out (fun _ hk => hk.2)⟩, ⟨by (with_reducible repeat (first | refine blk_drewN ?_ _ | refine blk_drew ?_ | refine blk_alloc ?_ _)); exact BK322.out⟩, ⟨by (with_reducible repeat (first | refine blk_drewN ?_ _ | refine blk_drew ?_ | refine blk_alloc ?_ _)); exact BK323.out⟩, ⟨by (with_reducible repeat (first | refine blk_drewN ?_ _ | refine blk_drew ?_ | refine blk_alloc ?_ _)); exact BK330.out⟩, ⟨by exact lT HB (gC GE322 (gC GE323 (gC GE330 (gC GE336 gN))))⟩⟩
         ·rw [if_neg c33] at H
          exact absurd H (by simp)
       ·rw [if_neg c26] at H
        have c26b0 : decide (x24_1 < (l1.length : Int)) = false := decide_eq_false c26
        clear c26
        have H' := Aside0.mk H
        clear H
        have p335 : 0 ≤ (x24_1 : Int) := of_decide_eq_true (by first | (with_reducible assumption) | assumption)
        have q335 : x24_1 < (l0_1.length : Int) := of_decide_eq_true (by first | (with_reducible assumption) | assumption)
        obtain ⟨ad335, e335, hx335_0, hx335_1⟩ := at_T63 HR0_1.out x24_1 p335 q335
        cases e335
        replace hx335_0 := (HB.out.cell (World.block_lt_of_cell? w _ hx335_0)).trans hx335_0
        replace hx335_1 := (HB.out.cell (World.block_lt_of_cell? w _ hx335_1)).trans hx335_1
        replace p335 := eq_true p335
        replace q335 := eq_true q335
        go_wp2_with (first | ((with_reducible refine gate_dst (N := 10) rfl ?_); refine bx 10 #[.int .i64 0, .string (⟨#[]⟩ : ByteArray)] 63 ?_; intro gb336 hg w40 hbox hb; replace HO_8 := ak (Kd.R_below (Kd.R_elderB (rG HO_8) gb336 (Nat.le_of_eq hg.symm)) hb); replace HO_331000 := rB HO_331000 hb; replace HO_331001 := ak (Kd.R_below (Kd.R_elderB (rG HO_331001) gb336 (Nat.le_of_eq hg.symm)) hb); replace BK336 := ak (hbox); replace GW336 := ak (bz hg (lT HB (gC GE322 (gC GE323 (gC GE330 gN))))); replace GE336 := ak (bz hg (lT HB (gC GE322 (gC GE323 (gC GE330 gN))))); replace HB := ak (below_step (lT HB (gC GE322 (gC GE323 (gC GE330 gN)))) hb); replace NB322_336 := ak (nl hg (bG BK322)); replace NB336_322 := ak (ng hg (bG BK322)); replace BK322 := bB BK322 hb; replace NB323_336 := ak (nl hg (bG BK323)); replace NB336_323 := ak (ng hg (bG BK323)); replace BK323 := bB BK323 hb; replace NB330_336 := ak (nl hg (bG BK330)); replace NB336_330 := ak (ng hg (bG BK330)); replace BK330 := bB BK330 hb; clear hb hbox hg; have hnb41 := NB336_322.out; have hnc41 := NB322_336.out; have hnb42 := NB336_323.out; have hnc42 := NB323_336.out; have hnb43 := NB336_330.out; have hnc43 := NB330_336.out; obtain ⟨hcz44_0, hcz44_1, hfz44_0, hfz44_1⟩ := bC2 BK336))
        go_roundg k1
        case measure => have := HK1.out; omega
        case rel => exact ⟨(x8_1), (wrap64 (x24_1 + 1)), (by first | rfl | (simp; done) | (simp [*]; done)), H', ⟨by have := HK1.out; omega⟩, ⟨by (with_reducible repeat (first | apply Kd.R_alloc | apply Kd.R_drewN | apply Kd.R_drew)); exact Kd.R_mono (Kd.R_far (p := ⟨gb336, 1, none⟩) (Kd.R_far (p := ⟨gb336, 0, none⟩) (Kd.R_mono HO_8.out (fun k_ hk => (⟨hk, hk.2⟩ : _ ∧ k_ ≠ gb336))) (fun _ hk => hk.2) (.int .i64 ((rd_T63 l0_1 x24_1).f0))) (fun _ hk => hk.2) (.string ((rd_T63 l0_1 x24_1).f1))) (fun _ hk => hk.1.1)⟩, ⟨by (with_reducible repeat (first | apply Kd.R_alloc | apply Kd.R_drewN | apply Kd.R_drew)); exact Kd.R_mono (Kd.R_far (p := ⟨gb336, 1, none⟩) (Kd.R_far (p := ⟨gb336, 0, none⟩) (Kd.R_types HO_331000.out BK336.out (by decide)) (fun _ hk => hk.2) (.int .i64 ((rd_T63 l0_1 x24_1).f0))) (fun _ hk => hk.2) (.string ((rd_T63 l0_1 x24_1).f1))) (fun _ hk => trivial)⟩, ⟨by (with_reducible repeat (first | apply Kd.R_alloc | apply Kd.R_drewN | apply Kd.R_drew)); exact Kd.R_mono (Kd.R_far (p := ⟨gb336, 1, none⟩) (Kd.R_far (p := ⟨gb336, 0, none⟩) (Kd.R_mono HO_331001.out (fun k_ hk => (⟨hk, hk.2⟩ : _ ∧ k_ ≠ gb336))) (fun _ hk => hk.2) (.int .i64 ((rd_T63 l0_1 x24_1).f0))) (fun _ hk => hk.2) (.string ((rd_T63 l0_1 x24_1).f1))) (fun _ hk => hk.1.1)⟩, ⟨by (with_reducible repeat (first | refine blk_drewN ?_ _ | refine blk_drew ?_ | refine blk_alloc ?_ _)); refine blk_far ?_ NB322_336.out _; (with_reducible repeat (first | refine blk_drewN ?_ _ | refine blk_drew ?_ | refine blk_alloc ?_ _)); refine blk_far ?_ NB322_336.out _; (with_reducible repeat (first | refine blk_drewN ?_ _ | refine blk_drew ?_ | refine blk_alloc ?_ _)); exact BK322.out⟩, ⟨by (with_reducible repeat (first | refine blk_drewN ?_ _ | refine blk_drew ?_ | refine blk_alloc ?_ _)); refine blk_far ?_ NB323_336.out _; (with_reducible repeat (first | refine blk_drewN ?_ _ | refine blk_drew ?_ | refine blk_alloc ?_ _)); refine blk_far ?_ NB323_336.out _; (with_reducible repeat (first | refine blk_drewN ?_ _ | refine blk_drew ?_ | refine blk_alloc ?_ _)); exact BK323.out⟩, ⟨by (with_reducible repeat (first | refine blk_drewN ?_ _ | refine blk_drew ?_ | refine blk_alloc ?_ _)); refine blk_far ?_ NB330_336.out _; (with_reducible repeat (first | refine blk_drewN ?_ _ | refine blk_drew ?_ | refine blk_alloc ?_ _)); refine blk_far ?_ NB330_336.out _; (with_reducible repeat (first | refine blk_drewN ?_ _ | refine blk_drew ?_ | refine blk_alloc ?_ _)); exact BK330.out⟩, ⟨by exact lT HB (gC GE322 (gC GE323 (gC GE330 (gC GE336 gN))))⟩⟩
      ·rw [if_neg c25] at H
       exact absurd H (by simp)
     ·rw [if_neg c24] at H
      exact absurd H (by simp)
    ·rw [if_neg c23] at H
     have c23b0 : decide (x24_1 < (l0_1.length : Int)) = false := decide_eq_false c23
     clear c23
     have H' := Aside0.mk H
     clear H
     obtain ⟨Ao45, co45, eo45⟩ := Kd.R_slice HO_8.out
     subst eo45
     go_wp2
     go_loopg [48] k1 (fun kq v48 w' => ∃ (x48_2 : Int) (x331000_2 : List ByteArray) (u331000 : Value), v48 = .int .i64 x48_2 ∧ Aside0 (impl_CrashDisk.l1 kq a2 x8_1 x8_1 (x8_1.length : Int) x48_2 x331000_2 t327 = some (r1, r2)) ∧ Aside0 (kq ≤ k1) ∧ Aside0 (Kd.R k63 63 w' w.heap.size (fun k_ => some k_ ≠ ((.slice Ao17 t327.length co17) : Value).ownBlock) (.slice Ao45 x8_1.length co45) x8_1) ∧ Aside0 (Kd.R k63 63 w' w.heap.size (fun k_ => some k_ ≠ ((.slice Ao17 t327.length co17) : Value).ownBlock) (.slice Ao45 x8_1.length co45) x8_1) ∧ Aside0 (Kd.R Kd.string 9 w' w.heap.size (fun _ => True) u331000 x331000_2) ∧ Aside0 (Kd.R k63 63 w' w.heap.size (fun k_ => some k_ ≠ ((.slice Ao45 x8_1.length co45) : Value).ownBlock ∧ some k_ ≠ ((.slice Ao45 x8_1.length co45) : Value).ownBlock) (.slice Ao17 t327.length co17) t327) ∧ Aside0 (w'.heap[gb322]? = some (.cells #[(.slice A0_0 l0_0.length c0_0), (.slice A0_1 l0_1.length c0_1)] 27 (0, 0))) ∧ Aside0 (w'.heap[gb323]? = some (.cells #[(.slice none 0 0), (.slice none 0 0)] 27 (0, 0))) ∧ Aside0 (w'.heap[gb330]? = some (.cells #[u331000, (.slice Ao17 t327.length co17)] 27 (0, 0))) ∧ Aside0 (Below w.heap.size w w'))
     case atStart => exact ⟨(0), (t324), (.slice Ao13 t324.length co13), (by first | rfl | (simp; done) | (simp [*]; done)), H', ⟨Nat.le_refl _⟩, ⟨by (with_reducible repeat (first | apply Kd.R_alloc | apply Kd.R_drewN | apply Kd.R_drew)); exact HO_8.out⟩, ⟨by (with_reducible repeat (first | apply Kd.R_alloc | apply Kd.R_drewN | apply Kd.R_drew)); exact HO_8.out⟩, ⟨by (with_reducible repeat (first | apply Kd.R_alloc | apply Kd.R_drewN | apply Kd.R_drew)); exact HO_331000.out⟩, ⟨by (with_reducible repeat (first | apply Kd.R_alloc | apply Kd.R_drewN | apply Kd.R_drew)); exact Kd.R_mono HO_331001.out (fun _ hk => ⟨hk, hk⟩)⟩, ⟨by (with_reducible repeat (first | refine blk_drewN ?_ _ | refine blk_drew ?_ | refine blk_alloc ?_ _)); exact BK322.out⟩, ⟨by (with_reducible repeat (first | refine blk_drewN ?_ _ | refine blk_drew ?_ | refine blk_alloc ?_ _)); exact BK323.out⟩, ⟨by (with_reducible repeat (first | refine blk_drewN ?_ _ | refine blk_drew ?_ | refine blk_alloc ?_ _)); exact BK330.out⟩, ⟨by exact lT HB (gC GE322 (gC GE323 (gC GE330 gN)))⟩⟩
     case round =>
      clear H'
      try clear c1
      try clear c2
      try clear p2
      try clear c3
      try clear p3
      try clear q3
      try clear hx3
      try clear c4
      try clear c6
      try clear p6
      try clear c9
      try clear c14
      try clear c15
      try clear c16
      try clear c17
      try clear c23
      try clear c23b0
      try clear c24
      try clear c24b0
      try clear c25
      try clear c25b0
      try clear c26
      try clear c26b0
      try clear c27
      try clear c27b0
      try clear c27b1
      try clear c29
      try clear c30
      try clear c31
      try clear c33
      try clear p33
      try clear q33
      try clear hx33
      try clear c35
      try clear c36
      try clear c37
      try clear c41
      try clear c42
      try clear c43
      try clear hcz10_0
      try clear hcz10_1
      try clear hcz16_0
      try clear hcz16_1
      try clear hcz18_0
      try clear hcz18_1
      try clear hcz22_0
      try clear hcz22_1
      try clear hcz32_0
      try clear hcz32_1
      try clear hcz38_0
      try clear hcz38_1
      try clear hcz44_0
      try clear hcz44_1
      try clear hfz10_0
      try clear hfz10_1
      try clear hfz16_0
      try clear hfz16_1
      try clear hfz18_0
      try clear hfz18_1
      try clear hfz22_0
      try clear hfz22_1
      try clear hfz32_0
      try clear hfz32_1
      try clear hfz38_0
      try clear hfz38_1
      try clear hfz44_0
      try clear hfz44_1
      try clear hx335_0
      try clear hx335_1
      try clear hx337_0
      try clear p2
      try clear p335
      try clear p337
      try clear q335
      try clear q337
      obtain ⟨x48_2, x331000_2, u331000, rfl, HA, HK2, HO_8, HO_46, HO_331000, HO_331001, BK322, BK323, BK330, HB⟩ := hrel
      cases gk with
      | zero => exact absurd HA.out (by simp [impl_CrashDisk.l1])
      | succ k2 =>
       have H := HA.out
       clear HA
       simp only [impl_CrashDisk.l1] at H
       by_cases c46 : x48_2 < (x8_1.length : Int)
       ·rw [if_pos c46] at H
        have c46b0 : decide (x48_2 < (x8_1.length : Int)) = true := decide_eq_true c46
        clear c46
        by_cases c47 : 0 ≤ x48_2
        ·rw [if_pos c47] at H
         have c47b0 : decide (0 ≤ x48_2) = true := decide_eq_true c47
         clear c47
         by_cases c48 : x48_2 < (x8_1.length : Int)
         ·rw [if_pos c48] at H
          have c48b0 : decide (x48_2 < (x8_1.length : Int)) = true := decide_eq_true c48
          clear c48
          by_cases c49 : x48_2 = (wrap64 ((x8_1.length : Int) - 1))
          ·rw [if_pos c49] at H
           have c49b0 : (x48_2 == (wrap64 ((x8_1.length : Int) - 1))) = true := beq_iff_eq.mpr c49
           have c49b1 : (x48_2 != (wrap64 ((x8_1.length : Int) - 1))) = false := bne_eq_false_iff_eq.mpr c49
           clear c49
           obtain ⟨ji50, hji50⟩ : ∃ j_ : Int, (Int.tmod (wrap64 ((wrap64 ((Int.tmod a2 33) + 32)) + 1)) 33) = j_ := ⟨_, rfl⟩
           replace H : (if 0 ≤ (ji50) then (if (ji50) ≤ (((rd_T63 x8_1 x48_2).f1).size : Int) then (if 0 ≤ ((rd_T63 x8_1 x48_2).f0) then (if ((rd_T63 x8_1 x48_2).f0) < (x331000_2.length : Int) then (if (ji50) ≤ ((rdOf ByteArray.empty x331000_2 ((rd_T63 x8_1 x48_2).f0)).size : Int) then (if (((rd_T63 x8_1 x48_2).f1).extract 0 ((ji50) : Int).toNat).size + ((rdOf ByteArray.empty x331000_2 ((rd_T63 x8_1 x48_2).f0)).extract ((ji50) : Int).toNat (rdOf ByteArray.empty x331000_2 ((rd_T63 x8_1 x48_2).f0)).size).size ≤ 9223372036854775807 then (impl_CrashDisk.l1 k2 a2 x8_1 x8_1 (x8_1.length : Int) (wrap64 (x48_2 + 1)) (x331000_2.set (((rd_T63 x8_1 x48_2).f0) : Int).toNat ((((rd_T63 x8_1 x48_2).f1).extract 0 ((ji50) : Int).toNat) ++ ((rdOf ByteArray.empty x331000_2 ((rd_T63 x8_1 x48_2).f0)).extract ((ji50) : Int).toNat (rdOf ByteArray.empty x331000_2 ((rd_T63 x8_1 x48_2).f0)).size))) t327) else (none)) else (none)) else (none)) else (none)) else (none)) else (none)) = some (r1, r2) := by first | (rw [hji50] at H; exact H) | (simp only [hji50] at H ⊢; exact H)
           by_cases c51 : 0 ≤ (ji50)
           ·rw [if_pos c51] at H
            have c51b0 := eq_true c51
            have c51b1 : decide (0 ≤ (ji50)) = true := decide_eq_true c51
            clear c51
            by_cases c52 : (ji50) ≤ (((rd_T63 x8_1 x48_2).f1).size : Int)
            ·rw [if_pos c52] at H
             have c52b0 := eq_true c52
             have c52b1 : decide ((ji50) ≤ (((rd_T63 x8_1 x48_2).f1).size : Int)) = true := decide_eq_true c52
             clear c52
             by_cases c53 : 0 ≤ ((rd_T63 x8_1 x48_2).f0)
             ·rw [if_pos c53] at H
              have c53b0 : decide (0 ≤ ((rd_T63 x8_1 x48_2).f0)) = true := decide_eq_true c53
              clear c53
              by_cases c54 : ((rd_T63 x8_1 x48_2).f0) < (x331000_2.length : Int)
              ·rw [if_pos c54] at H
               have c54b0 : decide (((rd_T63 x8_1 x48_2).f0) < (x331000_2.length : Int)) = true := decide_eq_true c54
               clear c54
               have c55b0 := eq_true (of_decide_eq_true (by first | (with_reducible assumption) | assumption) : 0 ≤ (ji50))
               by_cases c56 : (ji50) ≤ ((rdOf ByteArray.empty x331000_2 ((rd_T63 x8_1 x48_2).f0)).size : Int)
               ·rw [if_pos c56] at H
                have c56b0 := eq_true c56
                have c56b1 : decide ((ji50) ≤ ((rdOf ByteArray.empty x331000_2 ((rd_T63 x8_1 x48_2).f0)).size : Int)) = true := decide_eq_true c56
                clear c56
                by_cases c57 : (((rd_T63 x8_1 x48_2).f1).extract 0 ((ji50) : Int).toNat).size + ((rdOf ByteArray.empty x331000_2 ((rd_T63 x8_1 x48_2).f0)).extract ((ji50) : Int).toNat (rdOf ByteArray.empty x331000_2 ((rd_T63 x8_1 x48_2).f0)).size).size ≤ 9223372036854775807
                ·rw [if_pos c57] at H
                 have c57b0 := eq_true c57
                 have c57b1 : decide ((((rd_T63 x8_1 x48_2).f1).extract 0 ((ji50) : Int).toNat).size + ((rdOf ByteArray.empty x331000_2 ((rd_T63 x8_1 x48_2).f0)).extract ((ji50) : Int).toNat (rdOf ByteArray.empty x331000_2 ((rd_T63 x8_1 x48_2).f0)).size).size ≤ 9223372036854775807) = true := decide_eq_true c57
                 try have c57b2 : (9223372036854775807 < (((rd_T63 x8_1 x48_2).f1).extract 0 ((ji50) : Int).toNat).size + ((rdOf ByteArray.empty x331000_2 ((rd_T63 x8_1 x48_2).f0)).extract ((ji50) : Int).toNat (rdOf ByteArray.empty x331000_2 ((rd_T63 x8_1 x48_2).f0)).size).size) = False := eq_false (Nat.not_lt.2 c57)
                 try have c57b9 : (9223372036854775807 < ((ji50) : Int).toNat + ((rdOf ByteArray.empty x331000_2 ((rd_T63 x8_1 x48_2).f0)).size - ((ji50) : Int).toNat)) = False := eq_false (by have h_ := c57; (try have h23_ := of_eq_true c23b0); (try have g23_ := of_decide_eq_true c23b0); (try have h24_ := of_eq_true c24b0); (try have g24_ := of_decide_eq_true c24b0); (try have h25_ := of_eq_true c25b0); (try have g25_ := of_decide_eq_true c25b0); (try have h46_ := of_eq_true c46b0); (try have g46_ := of_decide_eq_true c46b0); (try have h47_ := of_eq_true c47b0); (try have g47_ := of_decide_eq_true c47b0); (try have h48_ := of_eq_true c48b0); (try have g48_ := of_decide_eq_true c48b0); (try have h51_ := of_eq_true c51b0); (try have g51_ := of_decide_eq_true c51b0); (try have h52_ := of_eq_true c52b0); (try have g52_ := of_decide_eq_true c52b0); (try have h53_ := of_eq_true c53b0); (try have g53_ := of_decide_eq_true c53b0); (try have h54_ := of_eq_true c54b0); (try have g54_ := of_decide_eq_true c54b0); (try have h56_ := of_eq_true c56b0); (try have g56_ := of_decide_eq_true c56b0); simp only [ByteArray.size_extract] at h_; omega)
                 try have c57b7 : (9223372036854775807 < min ((ji50) : Int).toNat ((rd_T63 x8_1 x48_2).f1).size + ((rdOf ByteArray.empty x331000_2 ((rd_T63 x8_1 x48_2).f0)).size - ((ji50) : Int).toNat)) = False := eq_false (by have h_ := c57; (try have h23_ := of_eq_true c23b0); (try have g23_ := of_decide_eq_true c23b0); (try have h24_ := of_eq_true c24b0); (try have g24_ := of_decide_eq_true c24b0); (try have h25_ := of_eq_true c25b0); (try have g25_ := of_decide_eq_true c25b0); (try have h46_ := of_eq_true c46b0); (try have g46_ := of_decide_eq_true c46b0); (try have h47_ := of_eq_true c47b0); (try have g47_ := of_decide_eq_true c47b0); (try have h48_ := of_eq_true c48b0); (try have g48_ := of_decide_eq_true c48b0); (try have h51_ := of_eq_true c51b0); (try have g51_ := of_decide_eq_true c51b0); (try have h52_ := of_eq_true c52b0); (try have g52_ := of_decide_eq_true c52b0); (try have h53_ := of_eq_true c53b0); (try have g53_ := of_decide_eq_true c53b0); (try have h54_ := of_eq_true c54b0); (try have g54_ := of_decide_eq_true c54b0); (try have h56_ := of_eq_true c56b0); (try have g56_ := of_decide_eq_true c56b0); simp only [ByteArray.size_extract] at h_; omega)
                 try have c57b8 : (9223372036854775807 < (rdOf ByteArray.empty x331000_2 ((rd_T63 x8_1 x48_2).f0)).size) = False := eq_false (by have h_ := c57; (try have h23_ := of_eq_true c23b0); (try have g23_ := of_decide_eq_true c23b0); (try have h24_ := of_eq_true c24b0); (try have g24_ := of_decide_eq_true c24b0); (try have h25_ := of_eq_true c25b0); (try have g25_ := of_decide_eq_true c25b0); (try have h46_ := of_eq_true c46b0); (try have g46_ := of_decide_eq_true c46b0); (try have h47_ := of_eq_true c47b0); (try have g47_ := of_decide_eq_true c47b0); (try have h48_ := of_eq_true c48b0); (try have g48_ := of_decide_eq_true c48b0); (try have h51_ := of_eq_true c51b0); (try have g51_ := of_decide_eq_true c51b0); (try have h52_ := of_eq_true c52b0); (try have g52_ := of_decide_eq_true c52b0); (try have h53_ := of_eq_true c53b0); (try have g53_ := of_decide_eq_true c53b0); (try have h54_ := of_eq_true c54b0); (try have g54_ := of_decide_eq_true c54b0); (try have h56_ := of_eq_true c56b0); (try have g56_ := of_decide_eq_true c56b0); simp only [ByteArray.size_extract] at h_; omega)
                 obtain ⟨y344, hy344⟩ : ∃ y_ : List ByteArray, y_ = (x331000_2.set (((rd_T63 x8_1 x48_2).f0) : Int).toNat ((((rd_T63 x8_1 x48_2).f1).extract 0 ((ji50) : Int).toNat) ++ ((rdOf ByteArray.empty x331000_2 ((rd_T63 x8_1 x48_2).f0)).extract ((ji50) : Int).toNat (rdOf ByteArray.empty x331000_2 ((rd_T63 x8_1 x48_2).f0)).size))) := ⟨_, rfl⟩
                 replace H : (impl_CrashDisk.l1 k2 a2 x8_1 x8_1 (x8_1.length : Int) (wrap64 (x48_2 + 1)) y344 t327) = some (r1, r2) := by first | (rw [hy344]; with_reducible exact H) | (have H2_ := (Option.bind_some _ _).symm.trans H; rw [hy344]; with_reducible exact H2_) | (have H2_ := (Option.bind_some _ _).symm.trans H; with_reducible exact H2_) | with_reducible exact H | (rw [hy344]; exact H) | exact H
                 have Ny344 := Aside0.mk hy344
                 clear hy344
                 have H' := Aside0.mk H
                 clear H
                 have p341 : 0 ≤ (x48_2 : Int) := of_decide_eq_true (by first | (with_reducible assumption) | assumption)
                 have q341 : x48_2 < (x8_1.length : Int) := of_decide_eq_true (by first | (with_reducible assumption) | assumption)
                 obtain ⟨ad341, e341, hx341_0, hx341_1⟩ := at_T63 (Kd.R_reads' HO_46.out).2.2 x48_2 p341 q341
                 cases e341
                 replace p341 := eq_true p341
                 replace q341 := eq_true q341
                 try go_wp2_with (first | ((with_reducible refine gate_dst (N := 12) rfl ?_); refine bx 12 #[.int .i64 0, .string (⟨#[]⟩ : ByteArray)] 63 ?_; intro gb342 hg w59 hbox hb; replace HO_8 := ak (Kd.R_below (Kd.R_elderB (rG HO_8) gb342 (Nat.le_of_eq hg.symm)) hb); replace HO_46 := ak (Kd.R_below (Kd.R_elderB (rG HO_46) gb342 (Nat.le_of_eq hg.symm)) hb); replace HO_331000 := rB HO_331000 hb; replace HO_331001 := ak (Kd.R_below (Kd.R_elderB (rG HO_331001) gb342 (Nat.le_of_eq hg.symm)) hb); replace BK342 := ak (hbox); replace GW342 := ak (bz hg (lT HB (gC GE322 (gC GE323 (gC GE330 gN))))); replace GE342 := ak (bz hg (lT HB (gC GE322 (gC GE323 (gC GE330 gN))))); replace HB := ak (below_step (lT HB (gC GE322 (gC GE323 (gC GE330 gN)))) hb); replace NB322_342 := ak (nl hg (bG BK322)); replace NB342_322 := ak (ng hg (bG BK322)); replace BK322 := bB BK322 hb; replace NB323_342 := ak (nl hg (bG BK323)); replace NB342_323 := ak (ng hg (bG BK323)); replace BK323 := bB BK323 hb; replace NB330_342 := ak (nl hg (bG BK330)); replace NB342_330 := ak (ng hg (bG BK330)); replace BK330 := bB BK330 hb; clear hb hbox hg; have hnb60 := NB342_322.out; have hnc60 := NB322_342.out; have hnb61 := NB342_323.out; have hnc61 := NB323_342.out; have hnb62 := NB342_330.out; have hnc62 := NB330_342.out; obtain ⟨hcz63_0, hcz63_1, hfz63_0, hfz63_1⟩ := bC2 BK342))
                 have n0_ : Aside0 (Kd.R k63 63 ((w59.setCell ⟨gb342, 0, none⟩ (.int .i64 ((rd_T63 x8_1 x48_2).f0))).setCell ⟨gb342, 1, none⟩ (.string ((rd_T63 x8_1 x48_2).f1))) w.heap.size (fun k_ => some k_ ≠ (.slice Ao17 t327.length co17 : Value).ownBlock ∧ k_ ≠ gb342) (.slice (some ad341) x8_1.length co45) x8_1) := ⟨by (with_reducible repeat (first | apply Kd.R_alloc | apply Kd.R_drewN | apply Kd.R_drew)); exact Kd.R_mono (Kd.R_far (p := ⟨gb342, 1, none⟩) (Kd.R_far (p := ⟨gb342, 0, none⟩) (Kd.R_mono HO_8.out (fun k_ hk => (⟨hk, hk.2⟩ : _ ∧ k_ ≠ gb342))) (fun _ hk => hk.2) (.int .i64 ((rd_T63 x8_1 x48_2).f0))) (fun _ hk => hk.2) (.string ((rd_T63 x8_1 x48_2).f1))) (fun _ hk => ⟨hk.1.1, hk.1.2⟩)⟩
                 have n1_ : Aside0 (Kd.R k63 63 ((w59.setCell ⟨gb342, 0, none⟩ (.int .i64 ((rd_T63 x8_1 x48_2).f0))).setCell ⟨gb342, 1, none⟩ (.string ((rd_T63 x8_1 x48_2).f1))) w.heap.size (fun k_ => some k_ ≠ (.slice Ao17 t327.length co17 : Value).ownBlock ∧ k_ ≠ gb342) (.slice (some ad341) x8_1.length co45) x8_1) := ⟨by (with_reducible repeat (first | apply Kd.R_alloc | apply Kd.R_drewN | apply Kd.R_drew)); exact Kd.R_mono (Kd.R_far (p := ⟨gb342, 1, none⟩) (Kd.R_far (p := ⟨gb342, 0, none⟩) (Kd.R_mono HO_46.out (fun k_ hk => (⟨hk, hk.2⟩ : _ ∧ k_ ≠ gb342))) (fun _ hk => hk.2) (.int .i64 ((rd_T63 x8_1 x48_2).f0))) (fun _ hk => hk.2) (.string ((rd_T63 x8_1 x48_2).f1))) (fun _ hk => ⟨hk.1.1, hk.1.2⟩)⟩
                 have n2_ : Aside0 (Kd.R Kd.string 9 ((w59.setCell ⟨gb342, 0, none⟩ (.int .i64 ((rd_T63 x8_1 x48_2).f0))).setCell ⟨gb342, 1, none⟩ (.string ((rd_T63 x8_1 x48_2).f1))) w.heap.size (fun _ => True) u331000 x331000_2) := ⟨by (with_reducible repeat (first | apply Kd.R_alloc | apply Kd.R_drewN | apply Kd.R_drew)); exact Kd.R_mono (Kd.R_far (p := ⟨gb342, 1, none⟩) (Kd.R_far (p := ⟨gb342, 0, none⟩) (Kd.R_types HO_331000.out BK342.out (by decide)) (fun _ hk => hk.2) (.int .i64 ((rd_T63 x8_1 x48_2).f0))) (fun _ hk => hk.2) (.string ((rd_T63 x8_1 x48_2).f1))) (fun _ hk => trivial)⟩
                 have n3_ : Aside0 (Kd.R k63 63 ((w59.setCell ⟨gb342, 0, none⟩ (.int .i64 ((rd_T63 x8_1 x48_2).f0))).setCell ⟨gb342, 1, none⟩ (.string ((rd_T63 x8_1 x48_2).f1))) w.heap.size (fun k_ => some k_ ≠ (.slice (some ad341) x8_1.length co45 : Value).ownBlock ∧ some k_ ≠ (.slice (some ad341) x8_1.length co45 : Value).ownBlock ∧ k_ ≠ gb342) (.slice Ao17 t327.length co17) t327) := ⟨by (with_reducible repeat (first | apply Kd.R_alloc | apply Kd.R_drewN | apply Kd.R_drew)); exact Kd.R_mono (Kd.R_far (p := ⟨gb342, 1, none⟩) (Kd.R_far (p := ⟨gb342, 0, none⟩) (Kd.R_mono HO_331001.out (fun k_ hk => (⟨hk, hk.2⟩ : _ ∧ k_ ≠ gb342))) (fun _ hk => hk.2) (.int .i64 ((rd_T63 x8_1 x48_2).f0))) (fun _ hk => hk.2) (.string ((rd_T63 x8_1 x48_2).f1))) (fun _ hk => ⟨hk.1.1.1, ⟨hk.1.1.2, hk.1.2⟩⟩)⟩
                 have n4_ : Aside0 (((w59.setCell ⟨gb342, 0, none⟩ (.int .i64 ((rd_T63 x8_1 x48_2).f0))).setCell ⟨gb342, 1, none⟩ (.string ((rd_T63 x8_1 x48_2).f1))).heap[gb322]? = some (.cells #[.slice A0_0 l0_0.length c0_0, .slice A0_1 l0_1.length c0_1] 27 (0, 0))) := ⟨by (with_reducible repeat (first | refine blk_drewN ?_ _ | refine blk_drew ?_ | refine blk_alloc ?_ _)); refine blk_far ?_ NB322_342.out _; (with_reducible repeat (first | refine blk_drewN ?_ _ | refine blk_drew ?_ | refine blk_alloc ?_ _)); refine blk_far ?_ NB322_342.out _; (with_reducible repeat (first | refine blk_drewN ?_ _ | refine blk_drew ?_ | refine blk_alloc ?_ _)); exact BK322.out⟩
                 have n5_ : Aside0 (((w59.setCell ⟨gb342, 0, none⟩ (.int .i64 ((rd_T63 x8_1 x48_2).f0))).setCell ⟨gb342, 1, none⟩ (.string ((rd_T63 x8_1 x48_2).f1))).heap[gb323]? = some (.cells #[.slice none 0 0, .slice none 0 0] 27 (0, 0))) := ⟨by (with_reducible repeat (first | refine blk_drewN ?_ _ | refine blk_drew ?_ | refine blk_alloc ?_ _)); refine blk_far ?_ NB323_342.out _; (with_reducible repeat (first | refine blk_drewN ?_ _ | refine blk_drew ?_ | refine blk_alloc ?_ _)); refine blk_far ?_ NB323_342.out _; (with_reducible repeat (first | refine blk_drewN ?_ _ | refine blk_drew ?_ | refine blk_alloc ?_ _)); exact BK323.out⟩
                 have n6_ : Aside0 (((w59.setCell ⟨gb342, 0, none⟩ (.int .i64 ((rd_T63 x8_1 x48_2).f0))).setCell ⟨gb342, 1, none⟩ (.string ((rd_T63 x8_1 x48_2).f1))).heap[gb330]? = some (.cells #[u331000, .slice Ao17 t327.length co17] 27 (0, 0))) := ⟨by (with_reducible repeat (first | refine blk_drewN ?_ _ | refine blk_drew ?_ | refine blk_alloc ?_ _)); refine blk_far ?_ NB330_342.out _; (with_reducible repeat (first | refine blk_drewN ?_ _ | refine blk_drew ?_ | refine blk_alloc ?_ _)); refine blk_far ?_ NB330_342.out _; (with_reducible repeat (first | refine blk_drewN ?_ _ | refine blk_drew ?_ | refine blk_alloc ?_ _)); exact BK330.out⟩
                 have n7_ : Aside0 (((w59.setCell ⟨gb342, 0, none⟩ (.int .i64 ((rd_T63 x8_1 x48_2).f0))).setCell ⟨gb342, 1, none⟩ (.string ((rd_T63 x8_1 x48_2).f1))).heap[gb342]? = some (.cells #[.int .i64 ((rd_T63 x8_1 x48_2).f0), .string ((rd_T63 x8_1 x48_2).f1)] 63 (0, 0))) := ⟨by (with_reducible repeat (first | refine blk_drewN ?_ _ | refine blk_drew ?_ | refine blk_alloc ?_ _)); refine blk_put (cs := #[.int .i64 ((rd_T63 x8_1 x48_2).f0), .string (⟨#[]⟩ : ByteArray)]) ?_ 1 _ rfl; (with_reducible repeat (first | refine blk_drewN ?_ _ | refine blk_drew ?_ | refine blk_alloc ?_ _)); refine blk_put (cs := #[.int .i64 0, .string (⟨#[]⟩ : ByteArray)]) ?_ 0 _ rfl; (with_reducible repeat (first | refine blk_drewN ?_ _ | refine blk_drew ?_ | refine blk_alloc ?_ _)); exact BK342.out⟩
                 have n8_ : Aside0 (Below w.heap.size w ((w59.setCell ⟨gb342, 0, none⟩ (.int .i64 ((rd_T63 x8_1 x48_2).f0))).setCell ⟨gb342, 1, none⟩ (.string ((rd_T63 x8_1 x48_2).f1)))) := ⟨by exact lT HB (gC GE322 (gC GE323 (gC GE330 (gC GE342 gN))))⟩
                 (try clear HO_8)
                 (try clear HO_46)
                 (try clear HO_331000)
                 (try clear HO_331001)
                 (try clear BK322)
                 (try clear BK323)
                 (try clear BK330)
                 (try clear BK342)
                 (try clear HB)
                 generalize ((w59.setCell ⟨gb342, 0, none⟩ (.int .i64 ((rd_T63 x8_1 x48_2).f0))).setCell ⟨gb342, 1, none⟩ (.string ((rd_T63 x8_1 x48_2).f1))) = w64 at n0_ n1_ n2_ n3_ n4_ n5_ n6_ n7_ n8_ ⊢
                 have HO_8 := n0_
                 have HO_46 := n1_
                 have HO_331000 := n2_
                 have HO_331001 := n3_
                 have BK322 := n4_
                 have BK323 := n5_
                 have BK330 := n6_
                 have BK342 := n7_
                 have HB := n8_
                 clear n0_ n1_ n2_ n3_ n4_ n5_ n6_ n7_ n8_
                 replace HO_8 := ak (Kd.R_drew HO_8.out)
                 replace HO_46 := ak (Kd.R_drew HO_46.out)
                 replace HO_331000 := ak (Kd.R_drew HO_331000.out)
                 replace HO_331001 := ak (Kd.R_drew HO_331001.out)
                 replace BK322 := ak (blk_drew BK322.out)
                 replace BK323 := ak (blk_drew BK323.out)
                 replace BK330 := ak (blk_drew BK330.out)
                 replace BK342 := ak (blk_drew BK342.out)
                 replace HB := ak (below_drew1 HB.out)
                 obtain ⟨Ao66, co66, eo66⟩ := Kd.R_slice HO_331000.out
                 (first | subst eo66 | (injection eo66 with f1_ f2_ f3_; have f4_ := f1_.symm; have f5_ := f3_.symm; clear f1_ f2_ f3_; subst f4_; subst f5_))
                 have p343 : 0 ≤ (((rd_T63 x8_1 x48_2).f0) : Int) := of_decide_eq_true (by first | (with_reducible assumption) | assumption)
                 have q343 : ((rd_T63 x8_1 x48_2).f0) < (x331000_2.length : Int) := of_decide_eq_true (by first | (with_reducible assumption) | assumption)
                 obtain ⟨ad343, e343, hx343_0⟩ := Kd.at_string (Kd.R_reads' HO_331000.out).2.2 ((rd_T63 x8_1 x48_2).f0) p343 q343
                 cases e343
                 replace p343 := eq_true p343
                 replace q343 := eq_true q343
                 have p58 : 0 ≤ (((rd_T63 x8_1 x48_2).f0) : Int) := of_decide_eq_true (by first | (with_reducible assumption) | assumption)
                 have q58 : (((rd_T63 x8_1 x48_2).f0) : Int) < ((x331000_2.length : Int) : Int) := of_decide_eq_true (by first | (with_reducible assumption) | assumption)
                 obtain ⟨go58, co58, eo58, gb58, gl58, cl58, HG58⟩ := Kd.R_form HO_331000.out (by omega)
                 (first | cases eo58 | (injection eo58 with ea_ en_ ec_; (first | subst ea_ | (injection ea_ with ea_; subst ea_)); subst ec_; clear en_))
                 have GB58 := Aside0.mk gb58
                 have GG58 := Aside0.mk HG58
                 clear gb58 gl58 HG58
                 (first | simp only [add_plain] at hx343_0 | skip)
                 obtain ⟨hx58_0, hf58_0⟩ := Kd.R_celln (⟨#[]⟩ : ByteArray) HO_331000.out (((rd_T63 x8_1 x48_2).f0) : Int) p58 q58
                 replace p58 := eq_true p58
                 replace q58 := eq_true q58
                 have HP67 := Kd.R_putn HO_331000.out (((rd_T63 x8_1 x48_2).f0) : Int) ((((rd_T63 x8_1 x48_2).f1).extract 0 ((ji50) : Int).toNat) ++ ((rdOf ByteArray.empty x331000_2 ((rd_T63 x8_1 x48_2).f0)).extract ((ji50) : Int).toNat (rdOf ByteArray.empty x331000_2 ((rd_T63 x8_1 x48_2).f0)).size))
                 rw [← Ny344.out] at HP67
                 have HQ67 := Aside0.mk HP67
                 clear HP67
                 refine start_ (n := 19) (S := fun w' => w'.cell? ⟨gb330, 0, none⟩ = some (.slice (some ⟨go58, 0, none⟩) x331000_2.length co66) ∧ w'.cell? ⟨gb330, 1, none⟩ = some (.slice Ao17 t327.length co17) ∧ w'.cell? ⟨gb342, 0, none⟩ = some (.int .i64 ((rd_T63 x8_1 x48_2).f0)) ∧ w'.cell? ⟨gb342, 1, none⟩ = some (.string ((rd_T63 x8_1 x48_2).f1)) ∧ w'.cell? ⟨go58, (((rd_T63 x8_1 x48_2).f0)).toNat, none⟩ = some (.string (rdOf ByteArray.empty x331000_2 ((rd_T63 x8_1 x48_2).f0)))) (ds := [18]) #[f_,f_,f_,f_,f_,f_,f_,f_,f_,f_,f_,f_,f_,f_,f_,f_,f_,f_,f_] (by kernel_rfl) rfl rfl ⟨(blk_cell BK330.out 0).trans rfl, (blk_cell BK330.out 1).trans rfl, (blk_cell BK342.out 0).trans rfl, (blk_cell BK342.out 1).trans rfl, hx343_0⟩ (fun hHeld => ?_); refine with_tabW impl_CrashDisk.tab17 impl_CrashDisk.bits17 (fun HT_ HW_ => ?_)
                 generalize w64.drew = w65 at HO_8 HO_46 HO_331000 HO_331001 BK322 BK323 BK330 BK342 HB GG58 HQ67 hf58_0 hx343_0 hx58_0 hHeld ⊢
                 refine pu 0 63 #[t_,f_,f_,f_,f_,f_,f_,f_,f_,f_,f_,f_,f_,f_,f_,f_,f_,f_,f_] HT_ ?_
                 refine pu 2 65 #[t_,f_,t_,f_,f_,f_,f_,f_,f_,f_,f_,f_,f_,f_,f_,f_,f_,f_,f_] HT_ ?_
                 refine pu 4 67 #[t_,f_,t_,f_,t_,f_,f_,f_,f_,f_,f_,f_,f_,f_,f_,f_,f_,f_,f_] HT_ ?_
                 refine pu 6 69 #[t_,f_,t_,f_,t_,f_,t_,f_,f_,f_,f_,f_,f_,f_,f_,f_,f_,f_,f_] HT_ ?_
                 refine pu 8 71 #[t_,f_,t_,f_,t_,f_,t_,f_,t_,f_,f_,f_,f_,f_,f_,f_,f_,f_,f_] HT_ ?_
                 refine pu 10 73 #[t_,f_,t_,f_,t_,f_,t_,f_,t_,f_,t_,f_,f_,f_,f_,f_,f_,f_,f_] HT_ ?_
                 refine pu 14 77 #[t_,f_,t_,f_,t_,f_,t_,f_,t_,f_,t_,f_,f_,f_,t_,f_,f_,f_,f_] HT_ ?_
                 refine tk 1 64 #[t_,t_,t_,f_,t_,f_,t_,f_,t_,f_,t_,f_,f_,f_,t_,f_,f_,f_,f_] HT_ HW_ hHeld ?_
                 refine tk 3 66 #[t_,t_,t_,t_,t_,f_,t_,f_,t_,f_,t_,f_,f_,f_,t_,f_,f_,f_,f_] HT_ HW_ hHeld ?_
                 refine tk 5 68 #[t_,t_,t_,t_,t_,t_,t_,f_,t_,f_,t_,f_,f_,f_,t_,f_,f_,f_,f_] HT_ HW_ hHeld ?_
                 refine pu 7 70 #[t_,t_,t_,t_,t_,t_,t_,t_,t_,f_,t_,f_,f_,f_,t_,f_,f_,f_,f_] HT_ ?_
                 refine tk 9 72 #[t_,t_,t_,t_,t_,t_,t_,t_,t_,t_,t_,f_,f_,f_,t_,f_,f_,f_,f_] HT_ HW_ hHeld ?_
                 refine tk 11 74 #[t_,t_,t_,t_,t_,t_,t_,t_,t_,t_,t_,t_,f_,f_,t_,f_,f_,f_,f_] HT_ HW_ hHeld ?_
                 refine pu 12 75 #[t_,t_,t_,t_,t_,t_,t_,t_,t_,t_,t_,t_,t_,f_,t_,f_,f_,f_,f_] HT_ ?_
                 refine tk 13 76 #[t_,t_,t_,t_,t_,t_,t_,t_,t_,t_,t_,t_,t_,t_,t_,f_,f_,f_,f_] HT_ HW_ hHeld ?_
                 refine pu 15 78 #[t_,t_,t_,t_,t_,t_,t_,t_,t_,t_,t_,t_,t_,t_,t_,t_,f_,f_,f_] HT_ ?_
                 refine pu 16 79 #[t_,t_,t_,t_,t_,t_,t_,t_,t_,t_,t_,t_,t_,t_,t_,t_,t_,f_,f_] HT_ ?_
                 refine pu 17 80 #[t_,t_,t_,t_,t_,t_,t_,t_,t_,t_,t_,t_,t_,t_,t_,t_,t_,t_,f_] HT_ ?_
                 refine last_ (i := 18) (N := none) #[t_,t_,t_,t_,t_,t_,t_,t_,t_,t_,t_,t_,t_,t_,t_,t_,t_,t_,t_] rfl rfl (one_of HT_.out (by kernel_rfl)) (by decide) (fun K hK => ?_)
                 refine skip_ (w1 := ?_) (by rfl) rfl ?_ ?_
                 rotate_left
                 ·go_simp
                  rfl
                 refine hK.out _ _ ?_
                 clear hK K
                 refine done_ (done_of HT_.out (by kernel_rfl)) ?_
                 try go_wp2
                 go_roundg k2
                 case measure => have := HK1.out; have := HK2.out; omega
                 case rel => exact ⟨(wrap64 (x48_2 + 1)), (y344), (.slice (some ⟨go58, 0, none⟩) x331000_2.length co66), (by first | rfl | (simp; done) | (simp [*]; done)), H', ⟨by have := HK1.out; have := HK2.out; omega⟩, ⟨by (with_reducible repeat (first | apply Kd.R_alloc | apply Kd.R_drewN | apply Kd.R_drew)); exact Kd.R_mono (Kd.R_far (p := ⟨go58, (((rd_T63 x8_1 x48_2).f0) : Int).toNat, none⟩) (Kd.R_types HO_8.out GG58.out (by decide)) (fun _ hk => hk.2) (.string ((((rd_T63 x8_1 x48_2).f1).extract 0 ((ji50) : Int).toNat) ++ ((rdOf ByteArray.empty x331000_2 ((rd_T63 x8_1 x48_2).f0)).extract ((ji50) : Int).toNat (rdOf ByteArray.empty x331000_2 ((rd_T63 x8_1 x48_2).f0)).size)))) (fun _ hk => hk.1.1)⟩, ⟨by (with_reducible repeat (first | apply Kd.R_alloc | apply Kd.R_drewN | apply Kd.R_drew)); exact Kd.R_mono (Kd.R_far (p := ⟨go58, (((rd_T63 x8_1 x48_2).f0) : Int).toNat, none⟩) (Kd.R_types HO_46.out GG58.out (by decide)) (fun _ hk => hk.2) (.string ((((rd_T63 x8_1 x48_2).f1).extract 0 ((ji50) : Int).toNat) ++ ((rdOf ByteArray.empty x331000_2 ((rd_T63 x8_1 x48_2).f0)).extract ((ji50) : Int).toNat (rdOf ByteArray.empty x331000_2 ((rd_T63 x8_1 x48_2).f0)).size)))) (fun _ hk => hk.1.1)⟩, ⟨by (with_reducible repeat (first | apply Kd.R_alloc | apply Kd.R_drewN | apply Kd.R_drew)); exact HQ67.out⟩, ⟨by (with_reducible repeat (first | apply Kd.R_alloc | apply Kd.R_drewN | apply Kd.R_drew)); exact Kd.R_mono (Kd.R_far (p := ⟨go58, (((rd_T63 x8_1 x48_2).f0) : Int).toNat, none⟩) (Kd.R_types HO_331001.out GG58.out (by decide)) (fun _ hk => hk.2) (.string ((((rd_T63 x8_1 x48_2).f1).extract 0 ((ji50) : Int).toNat) ++ ((rdOf ByteArray.empty x331000_2 ((rd_T63 x8_1 x48_2).f0)).extract ((ji50) : Int).toNat (rdOf ByteArray.empty x331000_2 ((rd_T63 x8_1 x48_2).f0)).size)))) (fun _ hk => ⟨hk.1.1, hk.1.2.1⟩)⟩, ⟨by (with_reducible repeat (first | refine blk_drewN ?_ _ | refine blk_drew ?_ | refine blk_alloc ?_ _)); refine blk_far ?_ (by have h_ := Kd.R_ne HO_331000.out BK322.out (by decide); intro e_; exact h_ (by rw [e_]; rfl)) _; (with_reducible repeat (first | refine blk_drewN ?_ _ | refine blk_drew ?_ | refine blk_alloc ?_ _)); exact BK322.out⟩, ⟨by (with_reducible repeat (first | refine blk_drewN ?_ _ | refine blk_drew ?_ | refine blk_alloc ?_ _)); refine blk_far ?_ (by have h_ := Kd.R_ne HO_331000.out BK323.out (by decide); intro e_; exact h_ (by rw [e_]; rfl)) _; (with_reducible repeat (first | refine blk_drewN ?_ _ | refine blk_drew ?_ | refine blk_alloc ?_ _)); exact BK323.out⟩, ⟨by (with_reducible repeat (first | refine blk_drewN ?_ _ | refine blk_drew ?_ | refine blk_alloc ?_ _)); refine blk_far ?_ (by have h_ := Kd.R_ne HO_331000.out BK330.out (by decide); intro e_; exact h_ (by rw [e_]; rfl)) _; (with_reducible repeat (first | refine blk_drewN ?_ _ | refine blk_drew ?_ | refine blk_alloc ?_ _)); exact BK330.out⟩, ⟨by repeat (first | (with_reducible first | exact HB.out | apply below_alloc | apply pw_below_drewN | apply below_drew1 | refine below_set ?_ GB58.out | refine below_set ?_ GE322.out | refine below_set ?_ GE323.out | refine below_set ?_ GE330.out | refine below_set ?_ GE342.out) | exact HB.out)⟩⟩
                ·rw [if_neg c57] at H
                 exact absurd H (by simp)
               ·rw [if_neg c56] at H
                exact absurd H (by simp)
              ·rw [if_neg c54] at H
               exact absurd H (by simp)
             ·rw [if_neg c53] at H
              exact absurd H (by simp)
            ·rw [if_neg c52] at H
             exact absurd H (by simp)
           ·rw [if_neg c51] at H
            exact absurd H (by simp)
          ·rw [if_neg c49] at H
           have c49b0 : (x48_2 == (wrap64 ((x8_1.length : Int) - 1))) = false := beq_eq_false_iff_ne.mpr c49
           have c49b1 : (x48_2 != (wrap64 ((x8_1.length : Int) - 1))) = true := bne_iff_ne.mpr c49
           by_cases c68 : 0 ≤ 32
           ·rw [if_pos c68] at H
            have c68b0 := eq_true c68
            have c68b1 : decide (0 ≤ 32) = true := decide_eq_true c68
            clear c68
            by_cases c69 : 32 ≤ (((rd_T63 x8_1 x48_2).f1).size : Int)
            ·rw [if_pos c69] at H
             have c69b0 := eq_true c69
             have c69b1 : decide (32 ≤ (((rd_T63 x8_1 x48_2).f1).size : Int)) = true := decide_eq_true c69
             clear c69
             by_cases c70 : 0 ≤ ((rd_T63 x8_1 x48_2).f0)
             ·rw [if_pos c70] at H
              have c70b0 : decide (0 ≤ ((rd_T63 x8_1 x48_2).f0)) = true := decide_eq_true c70
              clear c70
              by_cases c71 : ((rd_T63 x8_1 x48_2).f0) < (x331000_2.length : Int)
              ·rw [if_pos c71] at H
               have c71b0 : decide (((rd_T63 x8_1 x48_2).f0) < (x331000_2.length : Int)) = true := decide_eq_true c71
               clear c71
               by_cases c72 : 32 ≤ ((rdOf ByteArray.empty x331000_2 ((rd_T63 x8_1 x48_2).f0)).size : Int)
               ·rw [if_pos c72] at H
                have c72b0 := eq_true c72
                have c72b1 : decide (32 ≤ ((rdOf ByteArray.empty x331000_2 ((rd_T63 x8_1 x48_2).f0)).size : Int)) = true := decide_eq_true c72
                clear c72
                by_cases c73 : (((rd_T63 x8_1 x48_2).f1).extract 0 32).size + ((rdOf ByteArray.empty x331000_2 ((rd_T63 x8_1 x48_2).f0)).extract 32 (rdOf ByteArray.empty x331000_2 ((rd_T63 x8_1 x48_2).f0)).size).size ≤ 9223372036854775807
                ·rw [if_pos c73] at H
                 have c73b0 := eq_true c73
                 have c73b1 : decide ((((rd_T63 x8_1 x48_2).f1).extract 0 32).size + ((rdOf ByteArray.empty x331000_2 ((rd_T63 x8_1 x48_2).f0)).extract 32 (rdOf ByteArray.empty x331000_2 ((rd_T63 x8_1 x48_2).f0)).size).size ≤ 9223372036854775807) = true := decide_eq_true c73
                 try have c73b2 : (9223372036854775807 < (((rd_T63 x8_1 x48_2).f1).extract 0 32).size + ((rdOf ByteArray.empty x331000_2 ((rd_T63 x8_1 x48_2).f0)).extract 32 (rdOf ByteArray.empty x331000_2 ((rd_T63 x8_1 x48_2).f0)).size).size) = False := eq_false (Nat.not_lt.2 c73)
                 try have c73b9 : (9223372036854775807 < 32 + ((rdOf ByteArray.empty x331000_2 ((rd_T63 x8_1 x48_2).f0)).size - 32)) = False := eq_false (by have h_ := c73; (try have h23_ := of_eq_true c23b0); (try have g23_ := of_decide_eq_true c23b0); (try have h24_ := of_eq_true c24b0); (try have g24_ := of_decide_eq_true c24b0); (try have h25_ := of_eq_true c25b0); (try have g25_ := of_decide_eq_true c25b0); (try have h46_ := of_eq_true c46b0); (try have g46_ := of_decide_eq_true c46b0); (try have h47_ := of_eq_true c47b0); (try have g47_ := of_decide_eq_true c47b0); (try have h48_ := of_eq_true c48b0); (try have g48_ := of_decide_eq_true c48b0); (try have h68_ := of_eq_true c68b0); (try have g68_ := of_decide_eq_true c68b0); (try have h69_ := of_eq_true c69b0); (try have g69_ := of_decide_eq_true c69b0); (try have h70_ := of_eq_true c70b0); (try have g70_ := of_decide_eq_true c70b0); (try have h71_ := of_eq_true c71b0); (try have g71_ := of_decide_eq_true c71b0); (try have h72_ := of_eq_true c72b0); (try have g72_ := of_decide_eq_true c72b0); simp only [ByteArray.size_extract] at h_; omega)
                 try have c73b7 : (9223372036854775807 < min 32 ((rd_T63 x8_1 x48_2).f1).size + ((rdOf ByteArray.empty x331000_2 ((rd_T63 x8_1 x48_2).f0)).size - 32)) = False := eq_false (by have h_ := c73; (try have h23_ := of_eq_true c23b0); (try have g23_ := of_decide_eq_true c23b0); (try have h24_ := of_eq_true c24b0); (try have g24_ := of_decide_eq_true c24b0); (try have h25_ := of_eq_true c25b0); (try have g25_ := of_decide_eq_true c25b0); (try have h46_ := of_eq_true c46b0); (try have g46_ := of_decide_eq_true c46b0); (try have h47_ := of_eq_true c47b0); (try have g47_ := of_decide_eq_true c47b0); (try have h48_ := of_eq_true c48b0); (try have g48_ := of_decide_eq_true c48b0); (try have h68_ := of_eq_true c68b0); (try have g68_ := of_decide_eq_true c68b0); (try have h69_ := of_eq_true c69b0); (try have g69_ := of_decide_eq_true c69b0); (try have h70_ := of_eq_true c70b0); (try have g70_ := of_decide_eq_true c70b0); (try have h71_ := of_eq_true c71b0); (try have g71_ := of_decide_eq_true c71b0); (try have h72_ := of_eq_true c72b0); (try have g72_ := of_decide_eq_true c72b0); simp only [ByteArray.size_extract] at h_; omega)
                 try have c73b8 : (9223372036854775807 < (rdOf ByteArray.empty x331000_2 ((rd_T63 x8_1 x48_2).f0)).size) = False := eq_false (by have h_ := c73; (try have h23_ := of_eq_true c23b0); (try have g23_ := of_decide_eq_true c23b0); (try have h24_ := of_eq_true c24b0); (try have g24_ := of_decide_eq_true c24b0); (try have h25_ := of_eq_true c25b0); (try have g25_ := of_decide_eq_true c25b0); (try have h46_ := of_eq_true c46b0); (try have g46_ := of_decide_eq_true c46b0); (try have h47_ := of_eq_true c47b0); (try have g47_ := of_decide_eq_true c47b0); (try have h48_ := of_eq_true c48b0); (try have g48_ := of_decide_eq_true c48b0); (try have h68_ := of_eq_true c68b0); (try have g68_ := of_decide_eq_true c68b0); (try have h69_ := of_eq_true c69b0); (try have g69_ := of_decide_eq_true c69b0); (try have h70_ := of_eq_true c70b0); (try have g70_ := of_decide_eq_true c70b0); (try have h71_ := of_eq_true c71b0); (try have g71_ := of_decide_eq_true c71b0); (try have h72_ := of_eq_true c72b0); (try have g72_ := of_decide_eq_true c72b0); simp only [ByteArray.size_extract] at h_; omega)
                 obtain ⟨y346, hy346⟩ : ∃ y_ : List ByteArray, y_ = (x331000_2.set (((rd_T63 x8_1 x48_2).f0) : Int).toNat ((((rd_T63 x8_1 x48_2).f1).extract 0 32) ++ ((rdOf ByteArray.empty x331000_2 ((rd_T63 x8_1 x48_2).f0)).extract 32 (rdOf ByteArray.empty x331000_2 ((rd_T63 x8_1 x48_2).f0)).size))) := ⟨_, rfl⟩
                 replace H : (impl_CrashDisk.l1 k2 a2 x8_1 x8_1 (x8_1.length : Int) (wrap64 (x48_2 + 1)) y346 t327) = some (r1, r2) := by first | (rw [hy346]; with_reducible exact H) | (have H2_ := (Option.bind_some _ _).symm.trans H; rw [hy346]; with_reducible exact H2_) | (have H2_ := (Option.bind_some _ _).symm.trans H; with_reducible exact H2_) | with_reducible exact H | (rw [hy346]; exact H) | exact H
                 have Ny346 := Aside0.mk hy346
                 clear hy346
                 have H' := Aside0.mk H
                 clear H
                 have p341 : 0 ≤ (x48_2 : Int) := of_decide_eq_true (by first | (with_reducible assumption) | assumption)
                 have q341 : x48_2 < (x8_1.length : Int) := of_decide_eq_true (by first | (with_reducible assumption) | assumption)
                 obtain ⟨ad341, e341, hx341_0, hx341_1⟩ := at_T63 (Kd.R_reads' HO_46.out).2.2 x48_2 p341 q341
                 cases e341
                 replace p341 := eq_true p341
                 replace q341 := eq_true q341
                 try go_wp2_with (first | ((with_reducible refine gate_dst (N := 12) rfl ?_); refine bx 12 #[.int .i64 0, .string (⟨#[]⟩ : ByteArray)] 63 ?_; intro gb342 hg w75 hbox hb; replace HO_8 := ak (Kd.R_below (Kd.R_elderB (rG HO_8) gb342 (Nat.le_of_eq hg.symm)) hb); replace HO_46 := ak (Kd.R_below (Kd.R_elderB (rG HO_46) gb342 (Nat.le_of_eq hg.symm)) hb); replace HO_331000 := rB HO_331000 hb; replace HO_331001 := ak (Kd.R_below (Kd.R_elderB (rG HO_331001) gb342 (Nat.le_of_eq hg.symm)) hb); replace BK342 := ak (hbox); replace GW342 := ak (bz hg (lT HB (gC GE322 (gC GE323 (gC GE330 gN))))); replace GE342 := ak (bz hg (lT HB (gC GE322 (gC GE323 (gC GE330 gN))))); replace HB := ak (below_step (lT HB (gC GE322 (gC GE323 (gC GE330 gN)))) hb); replace NB322_342 := ak (nl hg (bG BK322)); replace NB342_322 := ak (ng hg (bG BK322)); replace BK322 := bB BK322 hb; replace NB323_342 := ak (nl hg (bG BK323)); replace NB342_323 := ak (ng hg (bG BK323)); replace BK323 := bB BK323 hb; replace NB330_342 := ak (nl hg (bG BK330)); replace NB342_330 := ak (ng hg (bG BK330)); replace BK330 := bB BK330 hb; clear hb hbox hg; have hnb76 := NB342_322.out; have hnc76 := NB322_342.out; have hnb77 := NB342_323.out; have hnc77 := NB323_342.out; have hnb78 := NB342_330.out; have hnc78 := NB330_342.out; obtain ⟨hcz79_0, hcz79_1, hfz79_0, hfz79_1⟩ := bC2 BK342))
                 have n0_ : Aside0 (Kd.R k63 63 ((w75.setCell ⟨gb342, 0, none⟩ (.int .i64 ((rd_T63 x8_1 x48_2).f0))).setCell ⟨gb342, 1, none⟩ (.string ((rd_T63 x8_1 x48_2).f1))) w.heap.size (fun k_ => some k_ ≠ (.slice Ao17 t327.length co17 : Value).ownBlock ∧ k_ ≠ gb342) (.slice (some ad341) x8_1.length co45) x8_1) := ⟨by (with_reducible repeat (first | apply Kd.R_alloc | apply Kd.R_drewN | apply Kd.R_drew)); exact Kd.R_mono (Kd.R_far (p := ⟨gb342, 1, none⟩) (Kd.R_far (p := ⟨gb342, 0, none⟩) (Kd.R_mono HO_8.out (fun k_ hk => (⟨hk, hk.2⟩ : _ ∧ k_ ≠ gb342))) (fun _ hk => hk.2) (.int .i64 ((rd_T63 x8_1 x48_2).f0))) (fun _ hk => hk.2) (.string ((rd_T63 x8_1 x48_2).f1))) (fun _ hk => ⟨hk.1.1, hk.1.2⟩)⟩
                 have n1_ : Aside0 (Kd.R k63 63 ((w75.setCell ⟨gb342, 0, none⟩ (.int .i64 ((rd_T63 x8_1 x48_2).f0))).setCell ⟨gb342, 1, none⟩ (.string ((rd_T63 x8_1 x48_2).f1))) w.heap.size (fun k_ => some k_ ≠ (.slice Ao17 t327.length co17 : Value).ownBlock ∧ k_ ≠ gb342) (.slice (some ad341) x8_1.length co45) x8_1) := ⟨by (with_reducible repeat (first | apply Kd.R_alloc | apply Kd.R_drewN | apply Kd.R_drew)); exact Kd.R_mono (Kd.R_far (p := ⟨gb342, 1, none⟩) (Kd.R_far (p := ⟨gb342, 0, none⟩) (Kd.R_mono HO_46.out (fun k_ hk => (⟨hk, hk.2⟩ : _ ∧ k_ ≠ gb342))) (fun _ hk => hk.2) (.int .i64 ((rd_T63 x8_1 x48_2).f0))) (fun _ hk => hk.2) (.string ((rd_T63 x8_1 x48_2).f1))) (fun _ hk => ⟨hk.1.1, hk.1.2⟩)⟩
                 have n2_ : Aside0 (Kd.R Kd.string 9 ((w75.setCell ⟨gb342, 0, none⟩ (.int .i64 ((rd_T63 x8_1 x48_2).f0))).setCell ⟨gb342, 1, none⟩ (.string ((rd_T63 x8_1 x48_2).f1))) w.heap.size (fun _ => True) u331000 x331000_2) := ⟨by (with_reducible repeat (first | apply Kd.R_alloc | apply Kd.R_drewN | apply Kd.R_drew)); exact Kd.R_mono (Kd.R_far (p := ⟨gb342, 1, none⟩) (Kd.R_far (p := ⟨gb342, 0, none⟩) (Kd.R_types HO_331000.out BK342.out (by decide)) (fun _ hk => hk.2) (.int .i64 ((rd_T63 x8_1 x48_2).f0))) (fun _ hk => hk.2) (.string ((rd_T63 x8_1 x48_2).f1))) (fun _ hk => trivial)⟩
                 have n3_ : Aside0 (Kd.R k63 63 ((w75.setCell ⟨gb342, 0, none⟩ (.int .i64 ((rd_T63 x8_1 x48_2).f0))).setCell ⟨gb342, 1, none⟩ (.string ((rd_T63 x8_1 x48_2).f1))) w.heap.size (fun k_ => some k_ ≠ (.slice (some ad341) x8_1.length co45 : Value).ownBlock ∧ some k_ ≠ (.slice (some ad341) x8_1.length co45 : Value).ownBlock ∧ k_ ≠ gb342) (.slice Ao17 t327.length co17) t327) := ⟨by (with_reducible repeat (first | apply Kd.R_alloc | apply Kd.R_drewN | apply Kd.R_drew)); exact Kd.R_mono (Kd.R_far (p := ⟨gb342, 1, none⟩) (Kd.R_far (p := ⟨gb342, 0, none⟩) (Kd.R_mono HO_331001.out (fun k_ hk => (⟨hk, hk.2⟩ : _ ∧ k_ ≠ gb342))) (fun _ hk => hk.2) (.int .i64 ((rd_T63 x8_1 x48_2).f0))) (fun _ hk => hk.2) (.string ((rd_T63 x8_1 x48_2).f1))) (fun _ hk => ⟨hk.1.1.1, ⟨hk.1.1.2, hk.1.2⟩⟩)⟩
                 have n4_ : Aside0 (((w75.setCell ⟨gb342, 0, none⟩ (.int .i64 ((rd_T63 x8_1 x48_2).f0))).setCell ⟨gb342, 1, none⟩ (.string ((rd_T63 x8_1 x48_2).f1))).heap[gb322]? = some (.cells #[.slice A0_0 l0_0.length c0_0, .slice A0_1 l0_1.length c0_1] 27 (0, 0))) := ⟨by (with_reducible repeat (first | refine blk_drewN ?_ _ | refine blk_drew ?_ | refine blk_alloc ?_ _)); refine blk_far ?_ NB322_342.out _; (with_reducible repeat (first | refine blk_drewN ?_ _ | refine blk_drew ?_ | refine blk_alloc ?_ _)); refine blk_far ?_ NB322_342.out _; (with_reducible repeat (first | refine blk_drewN ?_ _ | refine blk_drew ?_ | refine blk_alloc ?_ _)); exact BK322.out⟩
                 have n5_ : Aside0 (((w75.setCell ⟨gb342, 0, none⟩ (.int .i64 ((rd_T63 x8_1 x48_2).f0))).setCell ⟨gb342, 1, none⟩ (.string ((rd_T63 x8_1 x48_2).f1))).heap[gb323]? = some (.cells #[.slice none 0 0, .slice none 0 0] 27 (0, 0))) := ⟨by (with_reducible repeat (first | refine blk_drewN ?_ _ | refine blk_drew ?_ | refine blk_alloc ?_ _)); refine blk_far ?_ NB323_342.out _; (with_reducible repeat (first | refine blk_drewN ?_ _ | refine blk_drew ?_ | refine blk_alloc ?_ _)); refine blk_far ?_ NB323_342.out _; (with_reducible repeat (first | refine blk_drewN ?_ _ | refine blk_drew ?_ | refine blk_alloc ?_ _)); exact BK323.out⟩
                 have n6_ : Aside0 (((w75.setCell ⟨gb342, 0, none⟩ (.int .i64 ((rd_T63 x8_1 x48_2).f0))).setCell ⟨gb342, 1, none⟩ (.string ((rd_T63 x8_1 x48_2).f1))).heap[gb330]? = some (.cells #[u331000, .slice Ao17 t327.length co17] 27 (0, 0))) := ⟨by (with_reducible repeat (first | refine blk_drewN ?_ _ | refine blk_drew ?_ | refine blk_alloc ?_ _)); refine blk_far ?_ NB330_342.out _; (with_reducible repeat (first | refine blk_drewN ?_ _ | refine blk_drew ?_ | refine blk_alloc ?_ _)); refine blk_far ?_ NB330_342.out _; (with_reducible repeat (first | refine blk_drewN ?_ _ | refine blk_drew ?_ | refine blk_alloc ?_ _)); exact BK330.out⟩
                 have n7_ : Aside0 (((w75.setCell ⟨gb342, 0, none⟩ (.int .i64 ((rd_T63 x8_1 x48_2).f0))).setCell ⟨gb342, 1, none⟩ (.string ((rd_T63 x8_1 x48_2).f1))).heap[gb342]? = some (.cells #[.int .i64 ((rd_T63 x8_1 x48_2).f0), .string ((rd_T63 x8_1 x48_2).f1)] 63 (0, 0))) := ⟨by (with_reducible repeat (first | refine blk_drewN ?_ _ | refine blk_drew ?_ | refine blk_alloc ?_ _)); refine blk_put (cs := #[.int .i64 ((rd_T63 x8_1 x48_2).f0), .string (⟨#[]⟩ : ByteArray)]) ?_ 1 _ rfl; (with_reducible repeat (first | refine blk_drewN ?_ _ | refine blk_drew ?_ | refine blk_alloc ?_ _)); refine blk_put (cs := #[.int .i64 0, .string (⟨#[]⟩ : ByteArray)]) ?_ 0 _ rfl; (with_reducible repeat (first | refine blk_drewN ?_ _ | refine blk_drew ?_ | refine blk_alloc ?_ _)); exact BK342.out⟩
                 have n8_ : Aside0 (Below w.heap.size w ((w75.setCell ⟨gb342, 0, none⟩ (.int .i64 ((rd_T63 x8_1 x48_2).f0))).setCell ⟨gb342, 1, none⟩ (.string ((rd_T63 x8_1 x48_2).f1)))) := ⟨by exact lT HB (gC GE322 (gC GE323 (gC GE330 (gC GE342 gN))))⟩
                 (try clear HO_8)
                 (try clear HO_46)
                 (try clear HO_331000)
                 (try clear HO_331001)
                 (try clear BK322)
                 (try clear BK323)
                 (try clear BK330)
                 (try clear BK342)
                 (try clear HB)
                 generalize ((w75.setCell ⟨gb342, 0, none⟩ (.int .i64 ((rd_T63 x8_1 x48_2).f0))).setCell ⟨gb342, 1, none⟩ (.string ((rd_T63 x8_1 x48_2).f1))) = w80 at n0_ n1_ n2_ n3_ n4_ n5_ n6_ n7_ n8_ ⊢
                 have HO_8 := n0_
                 have HO_46 := n1_
                 have HO_331000 := n2_
                 have HO_331001 := n3_
                 have BK322 := n4_
                 have BK323 := n5_
                 have BK330 := n6_
                 have BK342 := n7_
                 have HB := n8_
                 clear n0_ n1_ n2_ n3_ n4_ n5_ n6_ n7_ n8_
                 replace HO_8 := ak (Kd.R_drew HO_8.out)
                 replace HO_46 := ak (Kd.R_drew HO_46.out)
                 replace HO_331000 := ak (Kd.R_drew HO_331000.out)
                 replace HO_331001 := ak (Kd.R_drew HO_331001.out)
                 replace BK322 := ak (blk_drew BK322.out)
                 replace BK323 := ak (blk_drew BK323.out)
                 replace BK330 := ak (blk_drew BK330.out)
                 replace BK342 := ak (blk_drew BK342.out)
                 replace HB := ak (below_drew1 HB.out)
                 obtain ⟨Ao82, co82, eo82⟩ := Kd.R_slice HO_331000.out
                 (first | subst eo82 | (injection eo82 with f1_ f2_ f3_; have f4_ := f1_.symm; have f5_ := f3_.symm; clear f1_ f2_ f3_; subst f4_; subst f5_))
                 have p345 : 0 ≤ (((rd_T63 x8_1 x48_2).f0) : Int) := of_decide_eq_true (by first | (with_reducible assumption) | assumption)
                 have q345 : ((rd_T63 x8_1 x48_2).f0) < (x331000_2.length : Int) := of_decide_eq_true (by first | (with_reducible assumption) | assumption)
                 obtain ⟨ad345, e345, hx345_0⟩ := Kd.at_string (Kd.R_reads' HO_331000.out).2.2 ((rd_T63 x8_1 x48_2).f0) p345 q345
                 cases e345
                 replace p345 := eq_true p345
                 replace q345 := eq_true q345
                 have p74 : 0 ≤ (((rd_T63 x8_1 x48_2).f0) : Int) := of_decide_eq_true (by first | (with_reducible assumption) | assumption)
                 have q74 : (((rd_T63 x8_1 x48_2).f0) : Int) < ((x331000_2.length : Int) : Int) := of_decide_eq_true (by first | (with_reducible assumption) | assumption)
                 obtain ⟨go74, co74, eo74, gb74, gl74, cl74, HG74⟩ := Kd.R_form HO_331000.out (by omega)
                 (first | cases eo74 | (injection eo74 with ea_ en_ ec_; (first | subst ea_ | (injection ea_ with ea_; subst ea_)); subst ec_; clear en_))
                 have GB74 := Aside0.mk gb74
                 have GG74 := Aside0.mk HG74
                 clear gb74 gl74 HG74
                 (first | simp only [add_plain] at hx345_0 | skip)
                 obtain ⟨hx74_0, hf74_0⟩ := Kd.R_celln (⟨#[]⟩ : ByteArray) HO_331000.out (((rd_T63 x8_1 x48_2).f0) : Int) p74 q74
                 replace p74 := eq_true p74
                 replace q74 := eq_true q74
                 have HP83 := Kd.R_putn HO_331000.out (((rd_T63 x8_1 x48_2).f0) : Int) ((((rd_T63 x8_1 x48_2).f1).extract 0 32) ++ ((rdOf ByteArray.empty x331000_2 ((rd_T63 x8_1 x48_2).f0)).extract 32 (rdOf ByteArray.empty x331000_2 ((rd_T63 x8_1 x48_2).f0)).size))
                 rw [← Ny346.out] at HP83
                 have HQ83 := Aside0.mk HP83
                 clear HP83
                 refine start_ (n := 19) (S := fun w' => w'.cell? ⟨gb330, 0, none⟩ = some (.slice (some ⟨go74, 0, none⟩) x331000_2.length co82) ∧ w'.cell? ⟨gb330, 1, none⟩ = some (.slice Ao17 t327.length co17) ∧ w'.cell? ⟨gb342, 0, none⟩ = some (.int .i64 ((rd_T63 x8_1 x48_2).f0)) ∧ w'.cell? ⟨gb342, 1, none⟩ = some (.string ((rd_T63 x8_1 x48_2).f1)) ∧ w'.cell? ⟨go74, (((rd_T63 x8_1 x48_2).f0)).toNat, none⟩ = some (.string (rdOf ByteArray.empty x331000_2 ((rd_T63 x8_1 x48_2).f0)))) (ds := [18]) #[f_,f_,f_,f_,f_,f_,f_,f_,f_,f_,f_,f_,f_,f_,f_,f_,f_,f_,f_] (by kernel_rfl) rfl rfl ⟨(blk_cell BK330.out 0).trans rfl, (blk_cell BK330.out 1).trans rfl, (blk_cell BK342.out 0).trans rfl, (blk_cell BK342.out 1).trans rfl, hx345_0⟩ (fun hHeld => ?_); refine with_tabW impl_CrashDisk.tab17 impl_CrashDisk.bits17 (fun HT_ HW_ => ?_)
                 generalize w80.drew = w81 at HO_8 HO_46 HO_331000 HO_331001 BK322 BK323 BK330 BK342 HB GG74 HQ83 hf74_0 hx345_0 hx74_0 hHeld ⊢
                 refine pu 0 63 #[t_,f_,f_,f_,f_,f_,f_,f_,f_,f_,f_,f_,f_,f_,f_,f_,f_,f_,f_] HT_ ?_
                 refine pu 2 65 #[t_,f_,t_,f_,f_,f_,f_,f_,f_,f_,f_,f_,f_,f_,f_,f_,f_,f_,f_] HT_ ?_
                 refine pu 4 67 #[t_,f_,t_,f_,t_,f_,f_,f_,f_,f_,f_,f_,f_,f_,f_,f_,f_,f_,f_] HT_ ?_
                 refine pu 6 69 #[t_,f_,t_,f_,t_,f_,t_,f_,f_,f_,f_,f_,f_,f_,f_,f_,f_,f_,f_] HT_ ?_
                 refine pu 8 71 #[t_,f_,t_,f_,t_,f_,t_,f_,t_,f_,f_,f_,f_,f_,f_,f_,f_,f_,f_] HT_ ?_
                 refine pu 10 73 #[t_,f_,t_,f_,t_,f_,t_,f_,t_,f_,t_,f_,f_,f_,f_,f_,f_,f_,f_] HT_ ?_
                 refine pu 14 77 #[t_,f_,t_,f_,t_,f_,t_,f_,t_,f_,t_,f_,f_,f_,t_,f_,f_,f_,f_] HT_ ?_
                 refine tk 1 64 #[t_,t_,t_,f_,t_,f_,t_,f_,t_,f_,t_,f_,f_,f_,t_,f_,f_,f_,f_] HT_ HW_ hHeld ?_
                 refine tk 3 66 #[t_,t_,t_,t_,t_,f_,t_,f_,t_,f_,t_,f_,f_,f_,t_,f_,f_,f_,f_] HT_ HW_ hHeld ?_
                 refine tk 5 68 #[t_,t_,t_,t_,t_,t_,t_,f_,t_,f_,t_,f_,f_,f_,t_,f_,f_,f_,f_] HT_ HW_ hHeld ?_
                 refine pu 7 70 #[t_,t_,t_,t_,t_,t_,t_,t_,t_,f_,t_,f_,f_,f_,t_,f_,f_,f_,f_] HT_ ?_
                 refine tk 9 72 #[t_,t_,t_,t_,t_,t_,t_,t_,t_,t_,t_,f_,f_,f_,t_,f_,f_,f_,f_] HT_ HW_ hHeld ?_
                 refine tk 11 74 #[t_,t_,t_,t_,t_,t_,t_,t_,t_,t_,t_,t_,f_,f_,t_,f_,f_,f_,f_] HT_ HW_ hHeld ?_
                 refine pu 12 75 #[t_,t_,t_,t_,t_,t_,t_,t_,t_,t_,t_,t_,t_,f_,t_,f_,f_,f_,f_] HT_ ?_
                 refine tk 13 76 #[t_,t_,t_,t_,t_,t_,t_,t_,t_,t_,t_,t_,t_,t_,t_,f_,f_,f_,f_] HT_ HW_ hHeld ?_
                 refine pu 15 78 #[t_,t_,t_,t_,t_,t_,t_,t_,t_,t_,t_,t_,t_,t_,t_,t_,f_,f_,f_] HT_ ?_
                 refine pu 16 79 #[t_,t_,t_,t_,t_,t_,t_,t_,t_,t_,t_,t_,t_,t_,t_,t_,t_,f_,f_] HT_ ?_
                 refine pu 17 80 #[t_,t_,t_,t_,t_,t_,t_,t_,t_,t_,t_,t_,t_,t_,t_,t_,t_,t_,f_] HT_ ?_
                 refine last_ (i := 18) (N := none) #[t_,t_,t_,t_,t_,t_,t_,t_,t_,t_,t_,t_,t_,t_,t_,t_,t_,t_,t_] rfl rfl (one_of HT_.out (by kernel_rfl)) (by decide) (fun K hK => ?_)
                 refine skip_ (w1 := ?_) (by rfl) rfl ?_ ?_
                 rotate_left
                 ·go_simp
                  rfl
                 refine hK.out _ _ ?_
                 clear hK K
                 refine done_ (done_of HT_.out (by kernel_rfl)) ?_
                 try go_wp2
                 go_roundg k2
                 case measure => have := HK1.out; have := HK2.out; omega
                 case rel => exact ⟨(wrap64 (x48_2 + 1)), (y346), (.slice (some ⟨go74, 0, none⟩) x331000_2.length co82), (by first | rfl | (simp; done) | (simp [*]; done)), H', ⟨by have := HK1.out; have := HK2.out; omega⟩, ⟨by (with_reducible repeat (first | apply Kd.R_alloc | apply Kd.R_drewN | apply Kd.R_drew)); exact Kd.R_mono (Kd.R_far (p := ⟨go74, (((rd_T63 x8_1 x48_2).f0) : Int).toNat, none⟩) (Kd.R_types HO_8.out GG74.out (by decide)) (fun _ hk => hk.2) (.string ((((rd_T63 x8_1 x48_2).f1).extract 0 32) ++ ((rdOf ByteArray.empty x331000_2 ((rd_T63 x8_1 x48_2).f0)).extract 32 (rdOf ByteArray.empty x331000_2 ((rd_T63 x8_1 x48_2).f0)).size)))) (fun _ hk => hk.1.1)⟩, ⟨by (with_reducible repeat (first | apply Kd.R_alloc | apply Kd.R_drewN | apply Kd.R_drew)); exact Kd.R_mono (Kd.R_far (p := ⟨go74, (((rd_T63 x8_1 x48_2).f0) : Int).toNat, none⟩) (Kd.R_types HO_46.out GG74.out (by decide)) (fun _ hk => hk.2) (.string ((((rd_T63 x8_1 x48_2).f1).extract 0 32) ++ ((rdOf ByteArray.empty x331000_2 ((rd_T63 x8_1 x48_2).f0)).extract 32 (rdOf ByteArray.empty x331000_2 ((rd_T63 x8_1 x48_2).f0)).size)))) (fun _ hk => hk.1.1)⟩, ⟨by (with_reducible repeat (first | apply Kd.R_alloc | apply Kd.R_drewN | apply Kd.R_drew)); exact HQ83.out⟩, ⟨by (with_reducible repeat (first | apply Kd.R_alloc | apply Kd.R_drewN | apply Kd.R_drew)); exact Kd.R_mono (Kd.R_far (p := ⟨go74, (((rd_T63 x8_1 x48_2).f0) : Int).toNat, none⟩) (Kd.R_types HO_331001.out GG74.out (by decide)) (fun _ hk => hk.2) (.string ((((rd_T63 x8_1 x48_2).f1).extract 0 32) ++ ((rdOf ByteArray.empty x331000_2 ((rd_T63 x8_1 x48_2).f0)).extract 32 (rdOf ByteArray.empty x331000_2 ((rd_T63 x8_1 x48_2).f0)).size)))) (fun _ hk => ⟨hk.1.1, hk.1.2.1⟩)⟩, ⟨by (with_reducible repeat (first | refine blk_drewN ?_ _ | refine blk_drew ?_ | refine blk_alloc ?_ _)); refine blk_far ?_ (by have h_ := Kd.R_ne HO_331000.out BK322.out (by decide); intro e_; exact h_ (by rw [e_]; rfl)) _; (with_reducible repeat (first | refine blk_drewN ?_ _ | refine blk_drew ?_ | refine blk_alloc ?_ _)); exact BK322.out⟩, ⟨by (with_reducible repeat (first | refine blk_drewN ?_ _ | refine blk_drew ?_ | refine blk_alloc ?_ _)); refine blk_far ?_ (by have h_ := Kd.R_ne HO_331000.out BK323.out (by decide); intro e_; exact h_ (by rw [e_]; rfl)) _; (with_reducible repeat (first | refine blk_drewN ?_ _ | refine blk_drew ?_ | refine blk_alloc ?_ _)); exact BK323.out⟩, ⟨by (with_reducible repeat (first | refine blk_drewN ?_ _ | refine blk_drew ?_ | refine blk_alloc ?_ _)); refine blk_far ?_ (by have h_ := Kd.R_ne HO_331000.out BK330.out (by decide); intro e_; exact h_ (by rw [e_]; rfl)) _; (with_reducible repeat (first | refine blk_drewN ?_ _ | refine blk_drew ?_ | refine blk_alloc ?_ _)); exact BK330.out⟩, ⟨by repeat (first | (with_reducible first | exact HB.out | apply below_alloc | apply pw_below_drewN | apply below_drew1 | refine below_set ?_ GB74.out | refine below_set ?_ GE322.out | refine below_set ?_ GE323.out | refine below_set ?_ GE330.out | refine below_set ?_ GE342.out) | exact HB.out)⟩⟩
                ·rw [if_neg c73] at H
                 exact absurd H (by simp)
               ·rw [if_neg c72] at H
                exact absurd H (by simp)
              ·rw [if_neg c71] at H
               exact absurd H (by simp)
             ·rw [if_neg c70] at H
              exact absurd H (by simp)
            ·rw [if_neg c69] at H
             exact absurd H (by simp)
           ·rw [if_neg c68] at H
            exact absurd H (by simp)
         ·rw [if_neg c48] at H
          exact absurd H (by simp)
        ·rw [if_neg c47] at H
         exact absurd H (by simp)
       ·rw [if_neg c46] at H
        have c46b0 : decide (x48_2 < (x8_1.length : Int)) = false := decide_eq_false c46
        clear c46
        simp only [Option.some.injEq, Prod.mk.injEq] at H
        obtain ⟨rfl, rfl⟩ := H
        have hnb84 := NB330_322.out
        have hnc84 := NB322_330.out
        have hnb85 := NB330_323.out
        have hnc85 := NB323_330.out
        have hcz86_0 : wr.cell? ⟨gb330, 0, none⟩ = some (u331000) := (blk_cell BK330.out 0).trans rfl
        have hcz86_1 : wr.cell? ⟨gb330, 1, none⟩ = some (.slice Ao17 t327.length co17) := (blk_cell BK330.out 1).trans rfl
        have hfz86_0 := blk_frozen BK330.out 0
        have hfz86_1 := blk_frozen BK330.out 1
        obtain ⟨Ao87, co87, eo87⟩ := Kd.R_slice HO_331000.out
        subst eo87
        have hnb88 := NB323_322.out
        have hnc88 := NB322_323.out
        have hcz89_0 : wr.cell? ⟨gb323, 0, none⟩ = some (.slice none 0 0) := (blk_cell BK323.out 0).trans rfl
        have hcz89_1 : wr.cell? ⟨gb323, 1, none⟩ = some (.slice none 0 0) := (blk_cell BK323.out 1).trans rfl
        have hfz89_0 := blk_frozen BK323.out 0
        have hfz89_1 := blk_frozen BK323.out 1
        go_wp2
        refine bodyPost_ret (results_cell_row rfl _ _ gb323 27 #[.slice Ao87 x331000_2.length co87, .slice none 0 0] (0, 0) _ rfl (by (with_reducible repeat (first | refine blk_drewN ?_ _ | refine blk_drew ?_ | refine blk_alloc ?_ _)); refine blk_put (cs := #[.slice Ao87 x331000_2.length co87, .slice none 0 0]) ?_ 1 _ rfl; (with_reducible repeat (first | refine blk_drewN ?_ _ | refine blk_drew ?_ | refine blk_alloc ?_ _)); refine blk_put (cs := #[.slice none 0 0, .slice none 0 0]) ?_ 0 _ rfl; (with_reducible repeat (first | refine blk_drewN ?_ _ | refine blk_drew ?_ | refine blk_alloc ?_ _)); refine blk_far ?_ NB323_330.out _; (with_reducible repeat (first | refine blk_drewN ?_ _ | refine blk_drew ?_ | refine blk_alloc ?_ _)); exact BK323.out) Try.underlying27 rfl (by kernel_rfl)) rfl ?_
        exact ⟨_, _, by first | rfl | (simp [errW_none, errW_some] <;> rfl) | (simp [*, errW_none, errW_some] <;> rfl), by (with_reducible repeat (first | apply Kd.R_alloc | apply Kd.R_drewN | apply Kd.R_drew)); exact Kd.R_mono (Kd.R_far (p := ⟨gb323, 1, none⟩) (Kd.R_far (p := ⟨gb323, 0, none⟩) (Kd.R_far (p := ⟨gb330, 1, none⟩) (Kd.R_types (Kd.R_types HO_331000.out BK330.out (by decide)) BK323.out (by decide)) (fun _ hk => hk.1.2) (.slice none 0 0)) (fun _ hk => hk.2) (.slice Ao87 x331000_2.length co87)) (fun _ hk => hk.2) (.slice none 0 0)) (fun _ hk => trivial), by first | exact Kd.R_nil _ _ _ _ _ | exact Kd.N_nil _ _ _ _ _ | exact Kd.V_nil _ _ _ _ _ | exact Kd.Q_nil _ _ _ _ _ | exact Kd.S_nil _ _ _ _ _, by exact lT HB (gC GE322 (gC GE323 (gC GE330 gN)))⟩
 ·replace c6 := Bool.eq_false_iff.mpr c6
  subst c6
  have H1 : (some (t324, t327)) = some (r1, r2) := by rw [if_neg (show ¬ (false = true) by decide)] at H; exact H
  clear H
  have H := H1
  clear H1
  simp only [Option.some.injEq, Prod.mk.injEq] at H
  obtain ⟨rfl, rfl⟩ := H
  go_enter Try.func17, Try.ntmps17
  go_wp2_with (first | ((with_reducible refine gate_dst (N := 3) rfl ?_); refine bx 3 #[.slice A0_0 l0_0.length c0_0, .slice A0_1 l0_1.length c0_1] 27 ?_; intro gb322 hg w90 hbox hb; replace BK322 := ak (hbox); replace GW322 := ak (bz hg (lG HB)); replace GE322 := ak (bz hg (lG HB)); replace HB := lB HB hb; clear hb hbox hg) | ((with_reducible refine gate_dst (N := 6) rfl ?_); refine bx 6 #[.slice none 0 0, .slice none 0 0] 27 ?_; intro gb323 hg w91 hbox hb; replace BK323 := ak (hbox); replace GW323 := ak (bz hg (lT HB (gC GE322 gN))); replace GE323 := ak (bz hg (lT HB (gC GE322 gN))); replace HB := ak (below_step (lT HB (gC GE322 gN)) hb); replace NB322_323 := ak (nl hg (bG BK322)); replace NB323_322 := ak (ng hg (bG BK322)); replace BK322 := bB BK322 hb; clear hb hbox hg; have hnb92 := NB322_323.out; have hnc92 := NB323_322.out; obtain ⟨hcz93_0, hcz93_1, hfz93_0, hfz93_1⟩ := bC2 BK322) | ((with_reducible refine gate_callee (f := 48) rfl ?_); refine gl (some 15) Try.func48 #[.agg #[.slice A0_0 l0_0.length c0_0, .slice A0_1 l0_1.length c0_1]] ?_; (with_reducible refine (impl_cloneDisk.calls _ _ l0_0 _ _ l0_1 t324 t327 _ ?side1 ?side2 ?side3 ?side4 A4.out).mono ?_); (case side1 => exact cG (Kd.C_below HR0_0.out HB.out)); (case side2 => exact HC0_0.out); (case side3 => exact cG (Kd.C_below HR0_1.out HB.out)); (case side4 => exact HC0_1.out); rintro e w94 ⟨v325, v328, rfl, ho0, ho1, hb⟩; refine ⟨_, rfl, ?_⟩; replace HO326 := ak (Kd.R_lower ho0 (below_size (lT HB (gC GE322 (gC GE323 gN))))); replace HO329 := ak (Kd.R_lower ho1 (below_size (lT HB (gC GE322 (gC GE323 gN))))); replace BK322 := bB BK322 hb; replace BK323 := bB BK323 hb; replace HB := ak (below_step (lT HB (gC GE322 (gC GE323 gN))) hb); (try clear hb); (try clear hk); (try clear ho0); (try clear ho1)) | ((with_reducible refine gate_dst (N := 7) rfl ?_); refine bx 7 #[.slice none 0 0, .slice none 0 0] 27 ?_; intro gb330 hg w95 hbox hb; replace HO326 := rB HO326 hb; replace HO329 := rB HO329 hb; replace BK330 := ak (hbox); replace GW330 := ak (bz hg (lT HB (gC GE322 (gC GE323 gN)))); replace GE330 := ak (bz hg (lT HB (gC GE322 (gC GE323 gN)))); replace HB := ak (below_step (lT HB (gC GE322 (gC GE323 gN))) hb); replace NB322_330 := ak (nl hg (bG BK322)); replace NB330_322 := ak (ng hg (bG BK322)); replace BK322 := bB BK322 hb; replace NB323_330 := ak (nl hg (bG BK323)); replace NB330_323 := ak (ng hg (bG BK323)); replace BK323 := bB BK323 hb; clear hb hbox hg; obtain ⟨Ao96, co96, eo96⟩ := Kd.R_slice HO326.out; subst eo96; have hnb97 := NB330_322.out; have hnc97 := NB322_330.out; have hnb98 := NB330_323.out; have hnc98 := NB323_330.out; obtain ⟨hcz99_0, hcz99_1, hfz99_0, hfz99_1⟩ := bC2 BK330; obtain ⟨Ao100, co100, eo100⟩ := Kd.R_slice HO329.out; subst eo100; obtain ⟨hcz101_0, hcz101_1, hfz101_0, hfz101_1⟩ := bC2 BK322) | ((with_reducible refine gate_callee (f := 16) rfl ?_); refine gl (some 17) Try.func16 #[.agg #[.slice A0_0 l0_0.length c0_0, .slice A0_1 l0_1.length c0_1]] ?_; (with_reducible refine (impl_DiskOk.calls _ _ l0_0 _ _ l0_1 false _ ?side1 ?side2 ?side3 ?side4 A5.out).mono ?_); (case side1 => exact Kd.C_below HR0_0.out (lT HB (gC GE322 (gC GE323 (gC GE330 gN))))); (case side2 => exact HC0_0.out); (case side3 => exact Kd.C_below HR0_1.out (lT HB (gC GE322 (gC GE323 (gC GE330 gN))))); (case side4 => exact HC0_1.out); rintro e w102 ⟨rfl, hb⟩; refine ⟨_, rfl, ?_⟩; replace HO326 := ak (Kd.R_below (rT HO326 BK330 (by decide)) hb); replace HO329 := ak (Kd.R_below (rT HO329 BK330 (by decide)) hb); replace BK322 := ak (blk_below (bT BK322 (nC NB322_330 nN)) hb); replace BK323 := ak (blk_below (bT BK323 (nC NB323_330 nN)) hb); replace BK330 := ak (blk_below (g := gb330) (o := .cells #[.slice Ao96 t324.length co96, .slice Ao100 t327.length co100] 27 (0, 0)) (by (with_reducible repeat (first | refine blk_drewN ?_ _ | refine blk_drew ?_ | refine blk_alloc ?_ _)); refine blk_put (cs := #[.slice Ao96 t324.length co96, .slice none 0 0]) ?_ 1 _ rfl; (with_reducible repeat (first | refine blk_drewN ?_ _ | refine blk_drew ?_ | refine blk_alloc ?_ _)); refine blk_put (cs := #[.slice none 0 0, .slice none 0 0]) ?_ 0 _ rfl; (with_reducible repeat (first | refine blk_drewN ?_ _ | refine blk_drew ?_ | refine blk_alloc ?_ _)); exact BK330.out) hb); replace HB := ak (below_step (lT HB (gC GE322 (gC GE323 (gC GE330 gN)))) hb); (try clear hb); (try clear hk); obtain ⟨hcz103_0, hcz103_1, hfz103_0, hfz103_1⟩ := bC2 BK330; obtain ⟨hcz104_0, hcz104_1, hfz104_0, hfz104_1⟩ := bC2 BK323))
  refine bodyPost_ret (results_cell_row rfl _ _ gb323 27 #[.slice Ao96 t324.length co96, .slice Ao100 t327.length co100] (0, 0) _ rfl (by (with_reducible repeat (first | refine blk_drewN ?_ _ | refine blk_drew ?_ | refine blk_alloc ?_ _)); refine blk_put (cs := #[.slice Ao96 t324.length co96, .slice none 0 0]) ?_ 1 _ rfl; (with_reducible repeat (first | refine blk_drewN ?_ _ | refine blk_drew ?_ | refine blk_alloc ?_ _)); refine blk_put (cs := #[.slice none 0 0, .slice none 0 0]) ?_ 0 _ rfl; (with_reducible repeat (first | refine blk_drewN ?_ _ | refine blk_drew ?_ | refine blk_alloc ?_ _)); exact BK323.out) Try.underlying27 rfl (by kernel_rfl)) rfl ?_
  exact ⟨_, _, by first | rfl | (simp [errW_none, errW_some] <;> rfl) | (simp [*, errW_none, errW_some] <;> rfl), by (with_reducible repeat (first | apply Kd.R_alloc | apply Kd.R_drewN | apply Kd.R_drew)); exact Kd.R_mono (Kd.R_far (p := ⟨gb323, 1, none⟩) (Kd.R_far (p := ⟨gb323, 0, none⟩) (Kd.R_types HO326.out BK323.out (by decide)) (fun _ hk => hk.2) (.slice Ao96 t324.length co96)) (fun _ hk => hk.2) (.slice Ao100 t327.length co100)) (fun _ hk => trivial), by (with_reducible repeat (first | apply Kd.R_alloc | apply Kd.R_drewN | apply Kd.R_drew)); exact Kd.R_mono (Kd.R_far (p := ⟨gb323, 1, none⟩) (Kd.R_far (p := ⟨gb323, 0, none⟩) (Kd.R_types HO329.out BK323.out (by decide)) (fun _ hk => hk.2) (.slice Ao96 t324.length co96)) (fun _ hk => hk.2) (.slice Ao100 t327.length co100)) (fun _ hk => trivial), by exact lT HB (gC GE322 (gC GE323 (gC GE330 gN)))⟩

end Go.Proofs.Ytjpngldnkgofaaa.PFnCrashes
