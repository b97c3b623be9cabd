-- Written for this claim by a program of mine (a turned copy of the kit's print): functions as plain Lean, and their contracts. Lean checks it.
import Derived.Test.YtjpngldnkgofaaaPFnDisksToldx0
import Derived.Test.YtjpngldnkgofaaaPFnDisksToldx2
import Derived.Test.YtjpngldnkgofaaaPFnDisksToldx3
import Derived.Test.YtjpngldnkgofaaaPFnDisksToldx5
import Derived.Test.YtjpngldnkgofaaaPFnDisksToldx6
import Derived.Test.YtjpngldnkgofaaaPFnDisksToldx7
import Derived.Test.YtjpngldnkgofaaaVFnDisksTold1
namespace Go.Proofs.Ytjpngldnkgofaaa.PFnDisksTold
open Go.RowKit Go.Proofs.YtjpngldnkgofaaaW.PrintWords Go.Proofs.YtjpngldnkgofaaaW.PrintLast Go.Proofs.YtjpngldnkgofaaaW.PrintMore
attribute [local go_sem] max2_int min2_int max_two min_two max_three min_three max_four min_four   -- for this text's walks alone
set_option linter.unusedVariables false
set_option linter.unusedSimpArgs false

/-! ### spec_WriteBytes: function 71 -/
mutual
def spec_WriteBytes.j0 : Nat → Int → Int → ByteArray → Bool → List ByteArray → List (S63) → List ByteArray → List (S63) → Option (List ByteArray × (List (S63)) × Bool)
 | 0, _, _, _, _, _, _, _, _ => none
 | k + 1, x1, x2, x3, x37, x233000, x233001, x241000, x241001 => if x37 = true then (some (x241000, x241001, false)) else (spec_WriteBytes.l0 k x1 x2 x3 0 x233000 x233001 x241000 x241001)
def spec_WriteBytes.l0 : Nat → Int → Int → ByteArray → Int → List ByteArray → List (S63) → List ByteArray → List (S63) → Option (List ByteArray × (List (S63)) × Bool)
 | 0, _, _, _, _, _, _, _, _ => none
 | k + 1, x1, x2, x3, x11, x233000, x233001, x241000, x241001 => if x11 < (x3.size : Int) then (if (wrap64 (32 - (Int.tmod (wrap64 (x2 + x11)) 32))) > (wrap64 ((x3.size : Int) - x11)) then (spec_WriteBytes.j2 k x1 x2 x3 x11 (wrap64 (x1 + (wrap64 (Int.tdiv (wrap64 (x2 + x11)) 32)))) (Int.tmod (wrap64 (x2 + x11)) 32) (wrap64 ((x3.size : Int) - x11)) x233000 x233001 x241000 x241001) else (spec_WriteBytes.j2 k x1 x2 x3 x11 (wrap64 (x1 + (wrap64 (Int.tdiv (wrap64 (x2 + x11)) 32)))) (Int.tmod (wrap64 (x2 + x11)) 32) (wrap64 (32 - (Int.tmod (wrap64 (x2 + x11)) 32))) x233000 x233001 x241000 x241001)) else (some (x241000, x241001, true))
def spec_WriteBytes.j2 : Nat → Int → Int → ByteArray → Int → Int → Int → Int → List ByteArray → List (S63) → List ByteArray → List (S63) → Option (List ByteArray × (List (S63)) × Bool)
 | 0, _, _, _, _, _, _, _, _, _, _, _ => none
 | k + 1, x1, x2, x3, x11, x12, x13, x14, x233000, x233001, x241000, x241001 => (spec_ReadSector.f k x241000 x241001 x12).bind fun bt244 => (if bt244.2 = true then (spec_WriteBytes.j3 k x1 x2 x3 x11 x12 x13 x14 bt244.1 ((bt244.1.size : Int) != 32) x233000 x233001 x241000 x241001) else (spec_WriteBytes.j3 k x1 x2 x3 x11 x12 x13 x14 bt244.1 true x233000 x233001 x241000 x241001))
def spec_WriteBytes.j3 : Nat → Int → Int → ByteArray → Int → Int → Int → Int → ByteArray → Bool → List ByteArray → List (S63) → List ByteArray → List (S63) → Option (List ByteArray × (List (S63)) × Bool)
 | 0, _, _, _, _, _, _, _, _, _, _, _, _, _ => none
 | k + 1, x1, x2, x3, x11, x12, x13, x14, x15, x77, x233000, x233001, x241000, x241001 => if x77 = true then ((spec_l03Copy.f x233000 x233001).bind fun bt246 => (some (bt246.1, bt246.2, false))) else (if 0 ≤ x13 then (if x13 ≤ (x15.size : Int) then (if 0 ≤ x11 then (if x11 ≤ (wrap64 (x11 + x14)) then (if (wrap64 (x11 + x14)) ≤ (x3.size : Int) then (if (x15.extract 0 (x13 : Int).toNat).size + (x3.extract (x11 : Int).toNat ((wrap64 (x11 + x14)) : Int).toNat).size ≤ 9223372036854775807 then (if 0 ≤ (wrap64 (x13 + x14)) then (if (wrap64 (x13 + x14)) ≤ (x15.size : Int) then (if (x15.extract 0 (x13 : Int).toNat).size + ((x3.extract (x11 : Int).toNat ((wrap64 (x11 + x14)) : Int).toNat).size) + (x15.extract ((wrap64 (x13 + x14)) : Int).toNat x15.size).size ≤ 9223372036854775807 then ((spec_WriteSector.f k x241000 x241001 x12 (((x15.extract 0 (x13 : Int).toNat) ++ (x3.extract (x11 : Int).toNat ((wrap64 (x11 + x14)) : Int).toNat)) ++ (x15.extract ((wrap64 (x13 + x14)) : Int).toNat x15.size))).bind fun bt252 => (if bt252.2.2 = true then (spec_WriteBytes.l0 k x1 x2 x3 (wrap64 (x11 + x14)) x233000 x233001 bt252.1 bt252.2.1) else ((spec_l03Copy.f x233000 x233001).bind fun bt260 => (some (bt260.1, bt260.2, false))))) else (none)) else (none)) else (none)) else (none)) else (none)) else (none)) else (none)) else (none)) else (none))
end
def spec_WriteBytes.f (k : Nat) (l0_0 : List ByteArray) (l0_1 : List (S63)) (a1 : Int) (a2 : Int) (a3 : ByteArray) : Option (List ByteArray × (List (S63)) × Bool) := (spec_l03Copy.f l0_0 l0_1).bind fun bt234 => ((spec_l01In.f a2 0 3200).bind fun t241 => (if t241 = true then ((spec_l01In.f a1 0 (wrap64 ((l0_0.length : Int) - 1))).bind fun t242 => (if t242 = true then ((spec_DiskOk.f k l0_0 l0_1).bind fun t243 => (spec_WriteBytes.j0 k a1 a2 a3 (!t243) l0_0 l0_1 bt234.1 bt234.2)) else (spec_WriteBytes.j0 k a1 a2 a3 true l0_0 l0_1 bt234.1 bt234.2))) else (spec_WriteBytes.j0 k a1 a2 a3 true l0_0 l0_1 bt234.1 bt234.2)))
theorem spec_WriteBytes.mono_l : ∀ k, (∀ y0 y1 y2 y3 y4 y5 y6 y7, LeO (spec_WriteBytes.j0 k y0 y1 y2 y3 y4 y5 y6 y7) (spec_WriteBytes.j0 (k + 1) y0 y1 y2 y3 y4 y5 y6 y7)) ∧ (∀ y0 y1 y2 y3 y4 y5 y6 y7, LeO (spec_WriteBytes.l0 k y0 y1 y2 y3 y4 y5 y6 y7) (spec_WriteBytes.l0 (k + 1) y0 y1 y2 y3 y4 y5 y6 y7)) ∧ (∀ y0 y1 y2 y3 y4 y5 y6 y7 y8 y9 y10, LeO (spec_WriteBytes.j2 k y0 y1 y2 y3 y4 y5 y6 y7 y8 y9 y10) (spec_WriteBytes.j2 (k + 1) y0 y1 y2 y3 y4 y5 y6 y7 y8 y9 y10)) ∧ (∀ y0 y1 y2 y3 y4 y5 y6 y7 y8 y9 y10 y11 y12, LeO (spec_WriteBytes.j3 k y0 y1 y2 y3 y4 y5 y6 y7 y8 y9 y10 y11 y12) (spec_WriteBytes.j3 (k + 1) y0 y1 y2 y3 y4 y5 y6 y7 y8 y9 y10 y11 y12))
 | 0 => ⟨fun _ _ _ _ _ _ _ _ r h => by simp [spec_WriteBytes.j0] at h, fun _ _ _ _ _ _ _ _ r h => by simp [spec_WriteBytes.l0] at h, fun _ _ _ _ _ _ _ _ _ _ _ r h => by simp [spec_WriteBytes.j2] at h, fun _ _ _ _ _ _ _ _ _ _ _ _ _ r h => by simp [spec_WriteBytes.j3] at h⟩
 | k + 1 => by
  obtain ⟨ih0, ih1, ih2, ih3⟩ := spec_WriteBytes.mono_l k
  refine ⟨?_, ?_, ?_, ?_⟩
  ·intro y0 y1 y2 y3 y4 y5 y6 y7
   unfold spec_WriteBytes.j0
   repeat' first
   | (with_reducible exact ih0 _ _ _ _ _ _ _ _)
   | (with_reducible exact ih1 _ _ _ _ _ _ _ _)
   | (with_reducible exact ih2 _ _ _ _ _ _ _ _ _ _ _)
   | (with_reducible exact ih3 _ _ _ _ _ _ _ _ _ _ _ _ _)
   | (with_reducible exact spec_DiskOk.mono _ _ _)
   | (with_reducible exact spec_ReadSector.mono _ _ _ _)
   | (with_reducible exact spec_WriteSector.mono _ _ _ _ _)
   | (with_reducible exact LeO.refl _)
   | (with_reducible exact LeO.none _)
   | (with_reducible refine LeO.ite ?_ ?_)
   | (with_reducible refine LeO.bind ?_ (fun _ => ?_))
   | exact ih0 _ _ _ _ _ _ _ _
   | exact ih1 _ _ _ _ _ _ _ _
   | exact ih2 _ _ _ _ _ _ _ _ _ _ _
   | exact ih3 _ _ _ _ _ _ _ _ _ _ _ _ _
   | exact spec_DiskOk.mono _ _ _
   | exact spec_ReadSector.mono _ _ _ _
   | exact spec_WriteSector.mono _ _ _ _ _
   | exact LeO.none _
   | refine LeO.ite ?_ ?_
   | refine LeO.bind ?_ (fun _ => ?_)
  ·intro y0 y1 y2 y3 y4 y5 y6 y7
   unfold spec_WriteBytes.l0
   repeat' first
   | (with_reducible exact ih0 _ _ _ _ _ _ _ _)
   | (with_reducible exact ih1 _ _ _ _ _ _ _ _)
   | (with_reducible exact ih2 _ _ _ _ _ _ _ _ _ _ _)
   | (with_reducible exact ih3 _ _ _ _ _ _ _ _ _ _ _ _ _)
   | (with_reducible exact spec_DiskOk.mono _ _ _)
   | (with_reducible exact spec_ReadSector.mono _ _ _ _)
   | (with_reducible exact spec_WriteSector.mono _ _ _ _ _)
   | (with_reducible exact LeO.refl _)
   | (with_reducible exact LeO.none _)
   | (with_reducible refine LeO.ite ?_ ?_)
   | (with_reducible refine LeO.bind ?_ (fun _ => ?_))
   | exact ih0 _ _ _ _ _ _ _ _
   | exact ih1 _ _ _ _ _ _ _ _
   | exact ih2 _ _ _ _ _ _ _ _ _ _ _
   | exact ih3 _ _ _ _ _ _ _ _ _ _ _ _ _
   | exact spec_DiskOk.mono _ _ _
   | exact spec_ReadSector.mono _ _ _ _
   | exact spec_WriteSector.mono _ _ _ _ _
   | exact LeO.none _
   | refine LeO.ite ?_ ?_
   | refine LeO.bind ?_ (fun _ => ?_)
  ·intro y0 y1 y2 y3 y4 y5 y6 y7 y8 y9 y10
   unfold spec_WriteBytes.j2
   repeat' first
   | (with_reducible exact ih0 _ _ _ _ _ _ _ _)
   | (with_reducible exact ih1 _ _ _ _ _ _ _ _)
   | (with_reducible exact ih2 _ _ _ _ _ _ _ _ _ _ _)
   | (with_reducible exact ih3 _ _ _ _ _ _ _ _ _ _ _ _ _)
   | (with_reducible exact spec_DiskOk.mono _ _ _)
   | (with_reducible exact spec_ReadSector.mono _ _ _ _)
   | (with_reducible exact spec_WriteSector.mono _ _ _ _ _)
   | (with_reducible exact LeO.refl _)
   | (with_reducible exact LeO.none _)
   | (with_reducible refine LeO.ite ?_ ?_)
   | (with_reducible refine LeO.bind ?_ (fun _ => ?_))
   | exact ih0 _ _ _ _ _ _ _ _
   | exact ih1 _ _ _ _ _ _ _ _
   | exact ih2 _ _ _ _ _ _ _ _ _ _ _
   | exact ih3 _ _ _ _ _ _ _ _ _ _ _ _ _
   | exact spec_DiskOk.mono _ _ _
   | exact spec_ReadSector.mono _ _ _ _
   | exact spec_WriteSector.mono _ _ _ _ _
   | exact LeO.none _
   | refine LeO.ite ?_ ?_
   | refine LeO.bind ?_ (fun _ => ?_)
  ·intro y0 y1 y2 y3 y4 y5 y6 y7 y8 y9 y10 y11 y12
   unfold spec_WriteBytes.j3
   repeat' first
   | (with_reducible exact ih0 _ _ _ _ _ _ _ _)
   | (with_reducible exact ih1 _ _ _ _ _ _ _ _)
   | (with_reducible exact ih2 _ _ _ _ _ _ _ _ _ _ _)
   | (with_reducible exact ih3 _ _ _ _ _ _ _ _ _ _ _ _ _)
   | (with_reducible exact spec_DiskOk.mono _ _ _)
   | (with_reducible exact spec_ReadSector.mono _ _ _ _)
   | (with_reducible exact spec_WriteSector.mono _ _ _ _ _)
   | (with_reducible exact LeO.refl _)
   | (with_reducible exact LeO.none _)
   | (with_reducible refine LeO.ite ?_ ?_)
   | (with_reducible refine LeO.bind ?_ (fun _ => ?_))
   | exact ih0 _ _ _ _ _ _ _ _
   | exact ih1 _ _ _ _ _ _ _ _
   | exact ih2 _ _ _ _ _ _ _ _ _ _ _
   | exact ih3 _ _ _ _ _ _ _ _ _ _ _ _ _
   | exact spec_DiskOk.mono _ _ _
   | exact spec_ReadSector.mono _ _ _ _
   | exact spec_WriteSector.mono _ _ _ _ _
   | exact LeO.none _
   | refine LeO.ite ?_ ?_
   | refine LeO.bind ?_ (fun _ => ?_)
theorem spec_WriteBytes.mono : ∀ a0 a1 a2 a3 a4 k, LeO (spec_WriteBytes.f k a0 a1 a2 a3 a4) (spec_WriteBytes.f (k + 1) a0 a1 a2 a3 a4) := by
 intro a0 a1 a2 a3 a4 k
 obtain ⟨ih0, ih1, ih2, ih3⟩ := spec_WriteBytes.mono_l k
 unfold spec_WriteBytes.f
 repeat' first
   | (with_reducible exact ih0 _ _ _ _ _ _ _ _)
   | (with_reducible exact ih1 _ _ _ _ _ _ _ _)
   | (with_reducible exact ih2 _ _ _ _ _ _ _ _ _ _ _)
   | (with_reducible exact ih3 _ _ _ _ _ _ _ _ _ _ _ _ _)
   | (with_reducible exact spec_DiskOk.mono _ _ _)
   | (with_reducible exact spec_ReadSector.mono _ _ _ _)
   | (with_reducible exact spec_WriteSector.mono _ _ _ _ _)
   | (with_reducible exact LeO.refl _)
   | (with_reducible exact LeO.none _)
   | (with_reducible refine LeO.ite ?_ ?_)
   | (with_reducible refine LeO.bind ?_ (fun _ => ?_))
   | exact ih0 _ _ _ _ _ _ _ _
   | exact ih1 _ _ _ _ _ _ _ _
   | exact ih2 _ _ _ _ _ _ _ _ _ _ _
   | exact ih3 _ _ _ _ _ _ _ _ _ _ _ _ _
   | exact spec_DiskOk.mono _ _ _
   | exact spec_ReadSector.mono _ _ _ _
   | exact spec_WriteSector.mono _ _ _ _ _
   | exact LeO.none _
   | refine LeO.ite ?_ ?_
   | refine LeO.bind ?_ (fun _ => ?_)
def spec_WriteBytes.T14 : Bool × List (List Nat × List Nat) := (true, [([], []), ([], []), ([], []), ([], []), ([2, 3], [2, 3]), ([], []), ([], []), ([], []), ([], []), ([7, 8], [7, 8]), ([5, 6, 9], [5, 6, 9]), ([4, 10], [4, 10]), ([], []), ([], []), ([], []), ([13, 14], [13, 14]), ([12, 15], [12, 15]), ([11, 16], [11, 16]), ([0, 1, 17], [0, 1, 17]), ([18], [18]), ([19], [19]), ([19], [19]), ([], []), ([22, 20, 18, 0, 1, 2, 3, 4, 5, 6, 7, 8, 9, 10, 11, 12, 13, 14, 15, 16, 17, 18, 19, 20, 22], [20, 22]), ([21, 23, 0, 1, 2, 3, 4, 5, 6, 7, 8, 9, 10, 11, 12, 13, 14, 15, 16, 17, 18, 19, 20, 21, 22, 23], [21])])
def spec_WriteBytes.B14 : List Nat := [0, 0, 0, 0, 12, 0, 0, 0, 0, 384, 992, 2044, 0, 0, 0, 24576, 61440, 131068, 262143, 524287, 1048575, 1048575, 0, 6291455, 16777215]
theorem spec_WriteBytes.tab14 : rtab .any (opsOf Try.f71 14) = spec_WriteBytes.T14 := by kernel_rfl
theorem spec_WriteBytes.bits14 : waitsOk spec_WriteBytes.T14.2 spec_WriteBytes.B14 = true := by kernel_rfl
set_option maxHeartbeats 8000000 in
set_option maxRecDepth 100000 in
theorem spec_WriteBytes.calls (k : Nat) (A0_0 : Option Addr) (c0_0 : Nat) (l0_0 : List ByteArray) (A0_1 : Option Addr) (c0_1 : Nat) (l0_1 : List (S63)) (a1 : Int) (a2 : Int) (a3 : ByteArray) (r1 : List ByteArray) (r2 : List (S63)) (r3 : Bool) (w : World) (hr0_0 : Kd.C Kd.string w A0_0 l0_0.length l0_0) (hc0_0 : l0_0.length ≤ c0_0) (hr0_1 : Kd.C k63 w A0_1 l0_1.length l0_1) (hc0_1 : l0_1.length ≤ c0_1) (h : spec_WriteBytes.f k l0_0 l0_1 a1 a2 a3 = some (r1, r2, r3)) :
  Calls Try.prog 71 #[.agg #[.slice A0_0 l0_0.length c0_0, .slice A0_1 l0_1.length c0_1], .int .i64 a1, .int .i64 a2, .string a3] w fun e w' => ∃ v0_ v1_ : Value, e = .returned (.tuple #[.agg #[v0_, v1_], .bool r3]) ∧ Kd.R Kd.string 9 w' w.heap.size (fun _ => True) v0_ r1 ∧ Kd.R k63 63 w' w.heap.size (fun _ => True) v1_ r2 ∧ Below w.heap.size w w' := by
 have hu27 := Try.underlying27
 have HR0_0 := Aside0.mk hr0_0
 have HC0_0 := Aside0.mk hc0_0
 clear hr0_0 hc0_0
 have HR0_1 := Aside0.mk hr0_1
 have HC0_1 := Aside0.mk hc0_1
 clear hr0_1 hc0_1
 have HB := ak (Below.refl w.heap.size w)
 have H : ((spec_l03Copy.f l0_0 l0_1).bind fun bt234 => ((spec_l01In.f a2 0 3200).bind fun t241 => (if t241 = true then ((spec_l01In.f a1 0 (wrap64 ((l0_0.length : Int) - 1))).bind fun t242 => (if t242 = true then ((spec_DiskOk.f k l0_0 l0_1).bind fun t243 => (spec_WriteBytes.j0 k a1 a2 a3 (!t243) l0_0 l0_1 bt234.1 bt234.2)) else (spec_WriteBytes.j0 k a1 a2 a3 true l0_0 l0_1 bt234.1 bt234.2))) else (spec_WriteBytes.j0 k a1 a2 a3 true l0_0 l0_1 bt234.1 bt234.2)))) = some (r1, r2, r3) := h
 clear h
 replace H := Option.bind_eq_some_iff.mp H
 obtain ⟨⟨t234, t237⟩, A50, H⟩ := H
 replace H : ((spec_l01In.f a2 0 3200).bind fun t241 => (if t241 = true then ((spec_l01In.f a1 0 (wrap64 ((l0_0.length : Int) - 1))).bind fun t242 => (if t242 = true then ((spec_DiskOk.f k l0_0 l0_1).bind fun t243 => (spec_WriteBytes.j0 k a1 a2 a3 (!t243) l0_0 l0_1 t234 t237)) else (spec_WriteBytes.j0 k a1 a2 a3 true l0_0 l0_1 t234 t237))) else (spec_WriteBytes.j0 k a1 a2 a3 true l0_0 l0_1 t234 t237))) = some (r1, r2, r3) := H
 have A5 := Aside0.mk A50
 clear A50
 have HC6 := Aside0.mk H
 clear H
 go_enter Try.func71, Try.ntmps71
 go_upto_region 2 with (first | ((with_reducible refine gate_dst (N := 4) rfl ?_); (try (refine gate_guard (by rfl) ?_; dsimp only)); refine bx 4 #[.slice A0_0 l0_0.length c0_0, .slice A0_1 l0_1.length c0_1] 27 ?_; intro gb232 hg w7 hbox hb; replace BK232 := ak (hbox); replace GW232 := ak (bz hg (lG HB)); replace GE232 := ak (bz hg (lG HB)); replace HB := lB HB hb; clear hb hbox hg) | ((with_reducible refine gate_dst (N := 8) rfl ?_); (try (refine gate_guard (by rfl) ?_; dsimp only)); refine bx 8 #[.slice none 0 0, .slice none 0 0] 27 ?_; intro gb233 hg w8 hbox hb; replace BK233 := ak (hbox); replace GW233 := ak (bz hg (lT HB (gC GE232 gN))); replace GE233 := ak (bz hg (lT HB (gC GE232 gN))); replace HB := ak (below_step (lT HB (gC GE232 gN)) hb); replace NB232_233 := ak (nl hg (bG BK232)); replace NB233_232 := ak (ng hg (bG BK232)); replace BK232 := bB BK232 hb; clear hb hbox hg; have hnb9 := NB232_233.out; have hnc9 := NB233_232.out; obtain ⟨hcz10_0, hcz10_1, hfz10_0, hfz10_1⟩ := bC2 BK232) | ((with_reducible refine gate_callee (f := 58) rfl ?_); refine gl (some 20) Try.func58 #[.agg #[.slice A0_0 l0_0.length c0_0, .slice A0_1 l0_1.length c0_1]] ?_; (with_reducible refine (spec_l03Copy.calls _ _ l0_0 _ _ l0_1 t234 t237 _ ?side1 ?side2 ?side3 ?side4 A5.out).mono ?_); (case side1 => exact cG (Kd.C_below HR0_0.out HB.out)); (case side2 => exact HC0_0.out); (case side3 => exact cG (Kd.C_below HR0_1.out HB.out)); (case side4 => exact HC0_1.out); rintro e w11 ⟨v235, v238, rfl, ho0, ho1, hb⟩; refine ⟨_, rfl, ?_⟩; replace HO236 := ak (Kd.R_lower ho0 (below_size (lT HB (gC GE232 (gC GE233 gN))))); replace HO239 := ak (Kd.R_lower ho1 (below_size (lT HB (gC GE232 (gC GE233 gN))))); replace BK232 := bB BK232 hb; replace BK233 := bB BK233 hb; replace HB := ak (below_step (lT HB (gC GE232 (gC GE233 gN))) hb); (try clear hb); (try clear hk); (try clear ho0); (try clear ho1)) | ((with_reducible refine gate_dst (N := 10) rfl ?_); (try (refine gate_guard (by rfl) ?_; dsimp only)); refine bx 10 #[.slice none 0 0, .slice none 0 0] 27 ?_; intro gb240 hg w12 hbox hb; replace HO236 := rB HO236 hb; replace HO239 := rB HO239 hb; replace BK240 := ak (hbox); replace GW240 := ak (bz hg (lT HB (gC GE232 (gC GE233 gN)))); replace GE240 := ak (bz hg (lT HB (gC GE232 (gC GE233 gN)))); replace HB := ak (below_step (lT HB (gC GE232 (gC GE233 gN))) hb); replace NB232_240 := ak (nl hg (bG BK232)); replace NB240_232 := ak (ng hg (bG BK232)); replace BK232 := bB BK232 hb; replace NB233_240 := ak (nl hg (bG BK233)); replace NB240_233 := ak (ng hg (bG BK233)); replace BK233 := bB BK233 hb; clear hb hbox hg; obtain ⟨Ao13, co13, eo13⟩ := Kd.R_slice HO236.out; subst eo13; have hnb14 := NB240_232.out; have hnc14 := NB232_240.out; have hnb15 := NB240_233.out; have hnc15 := NB233_240.out; obtain ⟨hcz16_0, hcz16_1, hfz16_0, hfz16_1⟩ := bC2 BK240; obtain ⟨Ao17, co17, eo17⟩ := Kd.R_slice HO239.out; subst eo17))
 (try simp only [Act.put, List.setIfInBounds_toArray, List.set_cons_zero, List.set_cons_succ])
 go_cut [37] (fun v37 wc => ∃ (kq : Nat) (x37_5 : Bool), v37 = .bool x37_5 ∧ Aside0 (spec_WriteBytes.j0 kq a1 a2 a3 x37_5 l0_0 l0_1 t234 t237 = some (r1, r2, r3)) ∧ Aside0 (kq ≤ k) ∧ Aside0 (Kd.R Kd.string 9 wc w.heap.size (fun _ => True) (.slice Ao13 t234.length co13) t234) ∧ Aside0 (Kd.R k63 63 wc w.heap.size (fun _ => True) (.slice Ao17 t237.length co17) t237) ∧ Aside0 (wc.heap[gb232]? = some (.cells #[(.slice A0_0 l0_0.length c0_0), (.slice A0_1 l0_1.length c0_1)] 27 (0, 0))) ∧ Aside0 (wc.heap[gb233]? = some (.cells #[(.slice none 0 0), (.slice none 0 0)] 27 (0, 0))) ∧ Aside0 (wc.heap[gb240]? = some (.cells #[(.slice Ao13 t234.length co13), (.slice Ao17 t237.length co17)] 27 (0, 0))) ∧ Aside0 (Below w.heap.size w wc))
 case first =>
  have H := HC6.out
  clear HC6
  replace H := Option.bind_eq_some_iff.mp H
  obtain ⟨t241, A180, H⟩ := H
  replace H : (if t241 = true then ((spec_l01In.f a1 0 (wrap64 ((l0_0.length : Int) - 1))).bind fun t242 => (if t242 = true then ((spec_DiskOk.f k l0_0 l0_1).bind fun t243 => (spec_WriteBytes.j0 k a1 a2 a3 (!t243) l0_0 l0_1 t234 t237)) else (spec_WriteBytes.j0 k a1 a2 a3 true l0_0 l0_1 t234 t237))) else (spec_WriteBytes.j0 k a1 a2 a3 true l0_0 l0_1 t234 t237)) = some (r1, r2, r3) := H
  have A18 := Aside0.mk A180
  clear A180
  by_cases c19 : t241 = true
  ·subst c19
   have H1 : ((spec_l01In.f a1 0 (wrap64 ((l0_0.length : Int) - 1))).bind fun t242 => (if t242 = true then ((spec_DiskOk.f k l0_0 l0_1).bind fun t243 => (spec_WriteBytes.j0 k a1 a2 a3 (!t243) l0_0 l0_1 t234 t237)) else (spec_WriteBytes.j0 k a1 a2 a3 true l0_0 l0_1 t234 t237))) = some (r1, r2, r3) := by rw [if_pos rfl] at H; exact H
   clear H
   have H := H1
   clear H1
   replace H := Option.bind_eq_some_iff.mp H
   obtain ⟨t242, A200, H⟩ := H
   replace H : (if t242 = true then ((spec_DiskOk.f k l0_0 l0_1).bind fun t243 => (spec_WriteBytes.j0 k a1 a2 a3 (!t243) l0_0 l0_1 t234 t237)) else (spec_WriteBytes.j0 k a1 a2 a3 true l0_0 l0_1 t234 t237)) = some (r1, r2, r3) := H
   have A20 := Aside0.mk A200
   clear A200
   by_cases c21 : t242 = true
   ·subst c21
    have H1 : ((spec_DiskOk.f k l0_0 l0_1).bind fun t243 => (spec_WriteBytes.j0 k a1 a2 a3 (!t243) l0_0 l0_1 t234 t237)) = some (r1, r2, r3) := by rw [if_pos rfl] at H; exact H
    clear H
    have H := H1
    clear H1
    replace H := Option.bind_eq_some_iff.mp H
    obtain ⟨t243, A220, H⟩ := H
    replace H : (spec_WriteBytes.j0 k a1 a2 a3 (!t243) l0_0 l0_1 t234 t237) = some (r1, r2, r3) := H
    have A22 := Aside0.mk A220
    clear A220
    have H' := Aside0.mk H
    clear H
    go_wp2_with (first | ((with_reducible refine gate_callee (f := 49) rfl ?_); refine gl (some 22) Try.func49 #[.int .i64 a2, .int .i64 0, .int .i64 3200] ?_; (with_reducible refine (spec_l01In.calls a2 0 3200 true _ A18.out).mono ?_); rintro e w' ⟨rfl, ⟨nd, rfl⟩⟩; refine ⟨_, rfl, ?_⟩; have hnb23 := NB232_233.out; have hnc23 := NB233_232.out; have hnb24 := NB232_240.out; have hnc24 := NB240_232.out; obtain ⟨hcz25_0, hcz25_1, hfz25_0, hfz25_1⟩ := bC2 BK232) | (go_at_call 49; (with_reducible refine (spec_l01In.calls a1 0 (wrap64 ((l0_0.length : Int) - 1)) true _ A20.out).mono ?_); rintro e w' ⟨rfl, ⟨nd, rfl⟩⟩) | (go_at_call 35; (with_reducible refine (spec_DiskOk.calls k _ _ l0_0 _ _ l0_1 t243 _ ?side1 ?side2 ?side3 ?side4 A22.out).mono ?_); (case side1 => exact Kd.C_below HR0_0.out (lT HB (gC GE232 (gC GE233 (gC GE240 gN))))); (case side2 => exact HC0_0.out); (case side3 => exact Kd.C_below HR0_1.out (lT HB (gC GE232 (gC GE233 (gC GE240 gN))))); (case side4 => exact HC0_1.out); rintro e w26 ⟨rfl, hb⟩; replace HO236 := ak (Kd.R_below (rT HO236 BK240 (by decide)) hb); replace HO239 := ak (Kd.R_below (rT HO239 BK240 (by decide)) hb); replace BK232 := ak (blk_below (bT BK232 (nC NB232_240 nN)) hb); replace BK233 := ak (blk_below (bT BK233 (nC NB233_240 nN)) hb); replace BK240 := ak (blk_below (g := gb240) (o := .cells #[.slice Ao13 t234.length co13, .slice Ao17 t237.length co17] 27 (0, 0)) (bW BK240) hb); replace HB := ak (below_step (lT HB (gC GE232 (gC GE233 (gC GE240 gN)))) hb); (try clear hb); (try clear hk)))
    go_meet
    case rel => exact ⟨_, (!t243), (by first | rfl | (simp; done) | (simp [*]; done)), H', ⟨by first | omega | exact Nat.le_refl _⟩, ⟨by (with_reducible repeat (first | apply Kd.R_alloc | apply Kd.R_drewN | apply Kd.R_drew)); exact HO236.out⟩, ⟨by (with_reducible repeat (first | apply Kd.R_alloc | apply Kd.R_drewN | apply Kd.R_drew)); exact HO239.out⟩, ⟨bG BK232⟩, ⟨bG BK233⟩, ⟨bG BK240⟩, ⟨by exact lT HB (gC GE232 (gC GE233 (gC GE240 gN)))⟩⟩
   ·replace c21 := Bool.eq_false_iff.mpr c21
    subst c21
    have H1 : (spec_WriteBytes.j0 k a1 a2 a3 true l0_0 l0_1 t234 t237) = some (r1, r2, r3) := by rw [if_neg (show ¬ (false = true) by decide)] at H; exact H
    clear H
    have H := H1
    clear H1
    have H' := Aside0.mk H
    clear H
    go_wp2_with (first | ((with_reducible refine gate_callee (f := 49) rfl ?_); refine gl (some 22) Try.func49 #[.int .i64 a2, .int .i64 0, .int .i64 3200] ?_; (with_reducible refine (spec_l01In.calls a2 0 3200 true _ A18.out).mono ?_); rintro e w' ⟨rfl, ⟨nd, rfl⟩⟩; refine ⟨_, rfl, ?_⟩; have hnb27 := NB232_233.out; have hnc27 := NB233_232.out; have hnb28 := NB232_240.out; have hnc28 := NB240_232.out; obtain ⟨hcz29_0, hcz29_1, hfz29_0, hfz29_1⟩ := bC2 BK232) | (go_at_call 49; (with_reducible refine (spec_l01In.calls a1 0 (wrap64 ((l0_0.length : Int) - 1)) false _ A20.out).mono ?_); rintro e w' ⟨rfl, ⟨nd, rfl⟩⟩))
    go_meet
    case rel => exact ⟨_, (true), (by first | rfl | (simp; done) | (simp [*]; done)), H', ⟨by first | omega | exact Nat.le_refl _⟩, ⟨by exact Kd.R_mono (rT HO236 BK240 (by decide)) (fun _ hk => trivial)⟩, ⟨by exact Kd.R_mono (rT HO239 BK240 (by decide)) (fun _ hk => trivial)⟩, ⟨by (with_reducible repeat (first | refine blk_drewN ?_ _ | refine blk_drew ?_ | refine blk_alloc ?_ _)); refine blk_far ?_ NB232_240.out _; (with_reducible repeat (first | refine blk_drewN ?_ _ | refine blk_drew ?_ | refine blk_alloc ?_ _)); refine blk_far ?_ NB232_240.out _; (with_reducible repeat (first | refine blk_drewN ?_ _ | refine blk_drew ?_ | refine blk_alloc ?_ _)); exact BK232.out⟩, ⟨by (with_reducible repeat (first | refine blk_drewN ?_ _ | refine blk_drew ?_ | refine blk_alloc ?_ _)); refine blk_far ?_ NB233_240.out _; (with_reducible repeat (first | refine blk_drewN ?_ _ | refine blk_drew ?_ | refine blk_alloc ?_ _)); refine blk_far ?_ NB233_240.out _; (with_reducible repeat (first | refine blk_drewN ?_ _ | refine blk_drew ?_ | refine blk_alloc ?_ _)); exact BK233.out⟩, ⟨bW BK240⟩, ⟨by exact lT HB (gC GE232 (gC GE233 (gC GE240 gN)))⟩⟩
  ·replace c19 := Bool.eq_false_iff.mpr c19
   subst c19
   have H1 : (spec_WriteBytes.j0 k a1 a2 a3 true l0_0 l0_1 t234 t237) = some (r1, r2, r3) := by rw [if_neg (show ¬ (false = true) by decide)] at H; exact H
   clear H
   have H := H1
   clear H1
   have H' := Aside0.mk H
   clear H
   go_wp2_with (first | ((with_reducible refine gate_callee (f := 49) rfl ?_); refine gl (some 22) Try.func49 #[.int .i64 a2, .int .i64 0, .int .i64 3200] ?_; (with_reducible refine (spec_l01In.calls a2 0 3200 false _ A18.out).mono ?_); rintro e w' ⟨rfl, ⟨nd, rfl⟩⟩; refine ⟨_, rfl, ?_⟩))
   go_meet
   case rel => exact ⟨_, (true), (by first | rfl | (simp; done) | (simp [*]; done)), H', ⟨by first | omega | exact Nat.le_refl _⟩, ⟨by exact Kd.R_mono (rT HO236 BK240 (by decide)) (fun _ hk => trivial)⟩, ⟨by exact Kd.R_mono (rT HO239 BK240 (by decide)) (fun _ hk => trivial)⟩, ⟨by (with_reducible repeat (first | refine blk_drewN ?_ _ | refine blk_drew ?_ | refine blk_alloc ?_ _)); refine blk_far ?_ NB232_240.out _; (with_reducible repeat (first | refine blk_drewN ?_ _ | refine blk_drew ?_ | refine blk_alloc ?_ _)); refine blk_far ?_ NB232_240.out _; (with_reducible repeat (first | refine blk_drewN ?_ _ | refine blk_drew ?_ | refine blk_alloc ?_ _)); exact BK232.out⟩, ⟨by (with_reducible repeat (first | refine blk_drewN ?_ _ | refine blk_drew ?_ | refine blk_alloc ?_ _)); refine blk_far ?_ NB233_240.out _; (with_reducible repeat (first | refine blk_drewN ?_ _ | refine blk_drew ?_ | refine blk_alloc ?_ _)); refine blk_far ?_ NB233_240.out _; (with_reducible repeat (first | refine blk_drewN ?_ _ | refine blk_drew ?_ | refine blk_alloc ?_ _)); exact BK233.out⟩, ⟨bW BK240⟩, ⟨by exact lT HB (gC GE232 (gC GE233 (gC GE240 gN)))⟩⟩
 case rest =>
  clear HC6
  try clear c1
  try clear c2
  try clear p2
  try clear c4
  try clear c5
  try clear p6
  try clear c7
  try clear c9
  try clear c14
  try clear c15
  try clear c19
  try clear c21
  try clear c23
  try clear c24
  try clear c27
  try clear c28
  try clear hcz10_0
  try clear hcz10_1
  try clear hcz16_0
  try clear hcz16_1
  try clear hcz25_0
  try clear hcz25_1
  try clear hcz29_0
  try clear hcz29_1
  try clear hfz10_0
  try clear hfz10_1
  try clear hfz16_0
  try clear hfz16_1
  try clear hfz25_0
  try clear hfz25_1
  try clear hfz29_0
  try clear hfz29_1
  obtain ⟨kq, x37_5, rfl, HA, HJ5, HO_241000, HO_241001, BK232, BK233, BK240, HB⟩ := hcut
  cases kq with
  | zero => exact absurd HA.out (by simp [spec_WriteBytes.j0])
  | succ kj5 =>
   have H := HA.out
   clear HA
   simp only [spec_WriteBytes.j0] at H
   by_cases c30 : x37_5 = true
   ·subst c30
    have H1 : (some (t234, t237, false)) = some (r1, r2, r3) := by rw [if_pos rfl] at H; exact H
    clear H
    have H := H1
    clear H1
    simp only [Option.some.injEq, Prod.mk.injEq] at H
    obtain ⟨rfl, rfl, rfl⟩ := H
    have hnb31 := NB240_232.out
    have hnc31 := NB232_240.out
    have hnb32 := NB240_233.out
    have hnc32 := NB233_240.out
    have hcz33_0 : wc.cell? ⟨gb240, 0, none⟩ = some (.slice Ao13 t234.length co13) := bc BK240 0
    have hcz33_1 : wc.cell? ⟨gb240, 1, none⟩ = some (.slice Ao17 t237.length co17) := bc BK240 1
    have hfz33_0 := blk_frozen BK240.out 0
    have hfz33_1 := blk_frozen BK240.out 1
    have hnb34 := NB233_232.out
    have hnc34 := NB232_233.out
    have hcz35_0 : wc.cell? ⟨gb233, 0, none⟩ = some (.slice none 0 0) := bc BK233 0
    have hcz35_1 : wc.cell? ⟨gb233, 1, none⟩ = some (.slice none 0 0) := bc BK233 1
    have hfz35_0 := blk_frozen BK233.out 0
    have hfz35_1 := blk_frozen BK233.out 1
    go_wp2
    refine bodyPost_ret (results_ct rfl _ _ gb233 27 #[.slice Ao13 t234.length co13, .slice Ao17 t237.length co17] (0, 0) _ rfl (bW BK233) Try.underlying27 rfl (by kernel_rfl)) rfl ?_
    exact ⟨_, _, ew, by exact Kd.R_mono (rT HO_241000 BK233 (by decide)) (fun _ hk => trivial), by exact Kd.R_mono (rT HO_241001 BK233 (by decide)) (fun _ hk => trivial), by exact lT HB (gC GE232 (gC GE233 (gC GE240 gN)))⟩
   ·replace c30 := Bool.eq_false_iff.mpr c30
    subst c30
    have H1 : (spec_WriteBytes.l0 kj5 a1 a2 a3 0 l0_0 l0_1 t234 t237) = some (r1, r2, r3) := by rw [if_neg (show ¬ (false = true) by decide)] at H; exact H
    clear H
    have H := H1
    clear H1
    have H' := Aside0.mk H
    clear H
    go_wp2
    go_loopg [11] kj5 (fun kq v11 w' => ∃ (x11_2 : Int) (x241000_2 : List ByteArray) (x241001_2 : List (S63)) (u241000 : Value) (u241001 : Value), v11 = .int .i64 x11_2 ∧ Aside0 (spec_WriteBytes.l0 kq a1 a2 a3 x11_2 l0_0 l0_1 x241000_2 x241001_2 = some (r1, r2, r3)) ∧ Aside0 (kq ≤ kj5) ∧ Aside0 (Kd.R Kd.string 9 w' w.heap.size (fun _ => True) u241000 x241000_2) ∧ Aside0 (Kd.R k63 63 w' w.heap.size (fun _ => True) u241001 x241001_2) ∧ Aside0 (w'.heap[gb232]? = some (.cells #[(.slice A0_0 l0_0.length c0_0), (.slice A0_1 l0_1.length c0_1)] 27 (0, 0))) ∧ Aside0 (w'.heap[gb233]? = some (.cells #[(.slice none 0 0), (.slice none 0 0)] 27 (0, 0))) ∧ Aside0 (w'.heap[gb240]? = some (.cells #[u241000, u241001] 27 (0, 0))) ∧ Aside0 (Below w.heap.size w w'))
    case atStart => exact ⟨(0), (t234), (t237), (.slice Ao13 t234.length co13), (.slice Ao17 t237.length co17), (by first | rfl | (simp; done) | (simp [*]; done)), H', ⟨Nat.le_refl _⟩, ⟨by (with_reducible repeat (first | apply Kd.R_alloc | apply Kd.R_drewN | apply Kd.R_drew)); exact HO_241000.out⟩, ⟨by (with_reducible repeat (first | apply Kd.R_alloc | apply Kd.R_drewN | apply Kd.R_drew)); exact HO_241001.out⟩, ⟨bG BK232⟩, ⟨bG BK233⟩, ⟨bG BK240⟩, ⟨by exact lT HB (gC GE232 (gC GE233 (gC GE240 gN)))⟩⟩
    case round =>
     clear H'
     try clear c1
     try clear c2
     try clear p2
     try clear c3
     try clear c4
     try clear c5
     try clear p6
     try clear c7
     try clear c9
     try clear c14
     try clear c15
     try clear c19
     try clear c21
     try clear c23
     try clear c24
     try clear c27
     try clear c28
     try clear c30
     try clear c31
     try clear c32
     try clear c34
     try clear hcz10_0
     try clear hcz10_1
     try clear hcz16_0
     try clear hcz16_1
     try clear hcz25_0
     try clear hcz25_1
     try clear hcz29_0
     try clear hcz29_1
     try clear hcz33_0
     try clear hcz33_1
     try clear hcz35_0
     try clear hcz35_1
     try clear hfz10_0
     try clear hfz10_1
     try clear hfz16_0
     try clear hfz16_1
     try clear hfz25_0
     try clear hfz25_1
     try clear hfz29_0
     try clear hfz29_1
     try clear hfz33_0
     try clear hfz33_1
     try clear hfz35_0
     try clear hfz35_1
     try clear p2
     try clear p6
     obtain ⟨x11_2, x241000_2, x241001_2, u241000, u241001, rfl, HA, HK2, HO_241000, HO_241001, BK232, BK233, BK240, HB⟩ := hrel
     cases gk with
     | zero => exact absurd HA.out (by simp [spec_WriteBytes.l0])
     | succ k2 =>
      have H := HA.out
      clear HA
      simp only [spec_WriteBytes.l0] at H
      by_cases c36 : x11_2 < (a3.size : Int)
      ·rw [if_pos c36] at H
       have c36b0 : decide (x11_2 < (a3.size : Int)) = true := decide_eq_true c36
       clear c36
       have HC37 := Aside0.mk H
       clear H
       go_upto_if 60 with (fail)
       go_cut [14] (fun v14 wc => ∃ (kq : Nat) (x14_36 : Int), v14 = .int .i64 x14_36 ∧ Aside0 (spec_WriteBytes.j2 kq a1 a2 a3 x11_2 (wrap64 (a1 + (wrap64 (Int.tdiv (wrap64 (a2 + x11_2)) 32)))) (Int.tmod (wrap64 (a2 + x11_2)) 32) x14_36 l0_0 l0_1 x241000_2 x241001_2 = some (r1, r2, r3)) ∧ Aside0 (kq ≤ k2) ∧ Aside0 (Kd.R Kd.string 9 wc w.heap.size (fun _ => True) u241000 x241000_2) ∧ Aside0 (Kd.R k63 63 wc w.heap.size (fun _ => True) u241001 x241001_2) ∧ Aside0 (wc.heap[gb232]? = some (.cells #[(.slice A0_0 l0_0.length c0_0), (.slice A0_1 l0_1.length c0_1)] 27 (0, 0))) ∧ Aside0 (wc.heap[gb233]? = some (.cells #[(.slice none 0 0), (.slice none 0 0)] 27 (0, 0))) ∧ Aside0 (wc.heap[gb240]? = some (.cells #[u241000, u241001] 27 (0, 0))) ∧ Aside0 (Below w.heap.size w wc))
       case first =>
        have H := HC37.out
        clear HC37
        by_cases c38 : (wrap64 (32 - (Int.tmod (wrap64 (a2 + x11_2)) 32))) > (wrap64 ((a3.size : Int) - x11_2))
        ·rw [if_pos c38] at H
         have c38b0 : decide ((wrap64 ((a3.size : Int) - x11_2)) < (wrap64 (32 - (Int.tmod (wrap64 (a2 + x11_2)) 32)))) = true := decide_eq_true c38
         clear c38
         (first | rw [c38b0] | (simp only [i64_w, i32_w]; rw [c38b0]) | skip)
         have H' := Aside0.mk H
         clear H
         go_wp2
         go_meet
         case rel => exact ⟨_, (wrap64 ((a3.size : Int) - x11_2)), (by first | rfl | (simp; done) | (simp [*]; done)), H', ⟨by have := HJ5.out; have := HK2.out; first | omega | exact Nat.le_refl _⟩, ⟨by (with_reducible repeat (first | apply Kd.R_alloc | apply Kd.R_drewN | apply Kd.R_drew)); exact HO_241000.out⟩, ⟨by (with_reducible repeat (first | apply Kd.R_alloc | apply Kd.R_drewN | apply Kd.R_drew)); exact HO_241001.out⟩, ⟨bG BK232⟩, ⟨bG BK233⟩, ⟨bG BK240⟩, ⟨by exact lT HB (gC GE232 (gC GE233 (gC GE240 gN)))⟩⟩
        ·rw [if_neg c38] at H
         have c38b0 : decide ((wrap64 ((a3.size : Int) - x11_2)) < (wrap64 (32 - (Int.tmod (wrap64 (a2 + x11_2)) 32)))) = false := decide_eq_false c38
         clear c38
         (first | rw [c38b0] | (simp only [i64_w, i32_w]; rw [c38b0]) | skip)
         have H' := Aside0.mk H
         clear H
         go_wp2
         go_meet
         case rel => exact ⟨_, (wrap64 (32 - (Int.tmod (wrap64 (a2 + x11_2)) 32))), (by first | rfl | (simp; done) | (simp [*]; done)), H', ⟨by have := HJ5.out; have := HK2.out; first | omega | exact Nat.le_refl _⟩, ⟨by (with_reducible repeat (first | apply Kd.R_alloc | apply Kd.R_drewN | apply Kd.R_drew)); exact HO_241000.out⟩, ⟨by (with_reducible repeat (first | apply Kd.R_alloc | apply Kd.R_drewN | apply Kd.R_drew)); exact HO_241001.out⟩, ⟨bG BK232⟩, ⟨bG BK233⟩, ⟨bG BK240⟩, ⟨by exact lT HB (gC GE232 (gC GE233 (gC GE240 gN)))⟩⟩
       case rest =>
        clear HC37
        try clear c1
        try clear c2
        try clear p2
        try clear c3
        try clear c4
        try clear c5
        try clear p6
        try clear c7
        try clear c9
        try clear c14
        try clear c15
        try clear c19
        try clear c21
        try clear c23
        try clear c24
        try clear c27
        try clear c28
        try clear c30
        try clear c31
        try clear c32
        try clear c34
        try clear c36
        try clear c36b0
        try clear c38
        try clear c38b0
        try clear hcz10_0
        try clear hcz10_1
        try clear hcz16_0
        try clear hcz16_1
        try clear hcz25_0
        try clear hcz25_1
        try clear hcz29_0
        try clear hcz29_1
        try clear hcz33_0
        try clear hcz33_1
        try clear hcz35_0
        try clear hcz35_1
        try clear hfz10_0
        try clear hfz10_1
        try clear hfz16_0
        try clear hfz16_1
        try clear hfz25_0
        try clear hfz25_1
        try clear hfz29_0
        try clear hfz29_1
        try clear hfz33_0
        try clear hfz33_1
        try clear hfz35_0
        try clear hfz35_1
        try clear p2
        try clear p6
        obtain ⟨kq, x14_36, rfl, HA, HJ36, HO_241000, HO_241001, BK232, BK233, BK240, HB⟩ := hcut
        cases kq with
        | zero => exact absurd HA.out (by simp [spec_WriteBytes.j2])
        | succ kj36 =>
         have H := HA.out
         clear HA
         simp only [spec_WriteBytes.j2] at H
         replace H := Option.bind_eq_some_iff.mp H
         obtain ⟨⟨t244, t245⟩, A390, H⟩ := H
         replace H : (if t245 = true then (spec_WriteBytes.j3 kj36 a1 a2 a3 x11_2 (wrap64 (a1 + (wrap64 (Int.tdiv (wrap64 (a2 + x11_2)) 32)))) (Int.tmod (wrap64 (a2 + x11_2)) 32) x14_36 t244 ((t244.size : Int) != 32) l0_0 l0_1 x241000_2 x241001_2) else (spec_WriteBytes.j3 kj36 a1 a2 a3 x11_2 (wrap64 (a1 + (wrap64 (Int.tdiv (wrap64 (a2 + x11_2)) 32)))) (Int.tmod (wrap64 (a2 + x11_2)) 32) x14_36 t244 true l0_0 l0_1 x241000_2 x241001_2)) = some (r1, r2, r3) := H
         have A39 := Aside0.mk A390
         clear A390
         have HC40 := Aside0.mk H
         clear H
         have hnb41 := NB240_232.out
         have hnc41 := NB232_240.out
         have hnb42 := NB240_233.out
         have hnc42 := NB233_240.out
         have hcz43_0 : wc.cell? ⟨gb240, 0, none⟩ = some (u241000) := bc BK240 0
         have hcz43_1 : wc.cell? ⟨gb240, 1, none⟩ = some (u241001) := bc BK240 1
         have hfz43_0 := blk_frozen BK240.out 0
         have hfz43_1 := blk_frozen BK240.out 1
         obtain ⟨Ao44, co44, eo44⟩ := Kd.R_slice HO_241000.out
         subst eo44
         obtain ⟨Ao45, co45, eo45⟩ := Kd.R_slice HO_241001.out
         subst eo45
         go_upto_region 12 with (first | ((with_reducible refine gate_callee (f := 14) rfl ?_); refine gl (some 68) Try.func14 #[.agg #[.slice Ao44 x241000_2.length co44, .slice Ao45 x241001_2.length co45], .int .i64 (wrap64 (a1 + (wrap64 (Int.tdiv (wrap64 (a2 + x11_2)) 32))))] ?_; (with_reducible refine (spec_ReadSector.calls kj36 _ _ x241000_2 _ _ x241001_2 (wrap64 (a1 + (wrap64 (Int.tdiv (wrap64 (a2 + x11_2)) 32)))) t244 t245 _ ?side1 ?side2 ?side3 ?side4 A39.out).mono ?_); (case side1 => exact cG (Kd.R_reads' HO_241000.out).2.2); (case side2 => exact (Kd.R_reads' HO_241000.out).2.1); (case side3 => exact cG (Kd.R_reads' HO_241001.out).2.2); (case side4 => exact (Kd.R_reads' HO_241001.out).2.1); rintro e w46 ⟨rfl, hb⟩; refine ⟨_, rfl, ?_⟩; replace HO_241000 := rB HO_241000 hb; replace HO_241001 := rB HO_241001 hb; replace BK232 := bB BK232 hb; replace BK233 := bB BK233 hb; replace BK240 := bB BK240 hb; replace HB := ak (below_step (lT HB (gC GE232 (gC GE233 (gC GE240 gN)))) hb); (try clear hb); (try clear hk)))
         (try simp only [Act.put, List.setIfInBounds_toArray, List.set_cons_zero, List.set_cons_succ])
         go_cut [77] (fun v77 wc => ∃ (kq : Nat) (x77_39 : Bool), v77 = .bool x77_39 ∧ Aside0 (spec_WriteBytes.j3 kq a1 a2 a3 x11_2 (wrap64 (a1 + (wrap64 (Int.tdiv (wrap64 (a2 + x11_2)) 32)))) (Int.tmod (wrap64 (a2 + x11_2)) 32) x14_36 t244 x77_39 l0_0 l0_1 x241000_2 x241001_2 = some (r1, r2, r3)) ∧ Aside0 (kq ≤ kj36) ∧ Aside0 (Kd.R Kd.string 9 wc w.heap.size (fun _ => True) (.slice Ao44 x241000_2.length co44) x241000_2) ∧ Aside0 (Kd.R k63 63 wc w.heap.size (fun _ => True) (.slice Ao45 x241001_2.length co45) x241001_2) ∧ Aside0 (wc.heap[gb232]? = some (.cells #[(.slice A0_0 l0_0.length c0_0), (.slice A0_1 l0_1.length c0_1)] 27 (0, 0))) ∧ Aside0 (wc.heap[gb233]? = some (.cells #[(.slice none 0 0), (.slice none 0 0)] 27 (0, 0))) ∧ Aside0 (wc.heap[gb240]? = some (.cells #[(.slice Ao44 x241000_2.length co44), (.slice Ao45 x241001_2.length co45)] 27 (0, 0))) ∧ Aside0 (Below w.heap.size w wc))
         case first =>
          have H := HC40.out
          clear HC40
          by_cases c47 : t245 = true
          ·subst c47
           have H1 : (spec_WriteBytes.j3 kj36 a1 a2 a3 x11_2 (wrap64 (a1 + (wrap64 (Int.tdiv (wrap64 (a2 + x11_2)) 32)))) (Int.tmod (wrap64 (a2 + x11_2)) 32) x14_36 t244 ((t244.size : Int) != 32) l0_0 l0_1 x241000_2 x241001_2) = some (r1, r2, r3) := by rw [if_pos rfl] at H; exact H
           clear H
           have H := H1
           clear H1
           have H' := Aside0.mk H
           clear H
           go_wp2
           go_meet
           case rel => exact ⟨_, (((t244.size : Int) != 32)), (by first | rfl | (simp; done) | (simp [*]; done)), H', ⟨by have := HJ5.out; have := HK2.out; have := HJ36.out; first | omega | exact Nat.le_refl _⟩, ⟨by (with_reducible repeat (first | apply Kd.R_alloc | apply Kd.R_drewN | apply Kd.R_drew)); exact HO_241000.out⟩, ⟨by (with_reducible repeat (first | apply Kd.R_alloc | apply Kd.R_drewN | apply Kd.R_drew)); exact HO_241001.out⟩, ⟨bG BK232⟩, ⟨bG BK233⟩, ⟨bG BK240⟩, ⟨by exact lT HB (gC GE232 (gC GE233 (gC GE240 gN)))⟩⟩
          ·replace c47 := Bool.eq_false_iff.mpr c47
           subst c47
           have H1 : (spec_WriteBytes.j3 kj36 a1 a2 a3 x11_2 (wrap64 (a1 + (wrap64 (Int.tdiv (wrap64 (a2 + x11_2)) 32)))) (Int.tmod (wrap64 (a2 + x11_2)) 32) x14_36 t244 true l0_0 l0_1 x241000_2 x241001_2) = some (r1, r2, r3) := by rw [if_neg (show ¬ (false = true) by decide)] at H; exact H
           clear H
           have H := H1
           clear H1
           have H' := Aside0.mk H
           clear H
           go_wp2
           go_meet
           case rel => exact ⟨_, (true), (by first | rfl | (simp; done) | (simp [*]; done)), H', ⟨by have := HJ5.out; have := HK2.out; have := HJ36.out; first | omega | exact Nat.le_refl _⟩, ⟨by (with_reducible repeat (first | apply Kd.R_alloc | apply Kd.R_drewN | apply Kd.R_drew)); exact HO_241000.out⟩, ⟨by (with_reducible repeat (first | apply Kd.R_alloc | apply Kd.R_drewN | apply Kd.R_drew)); exact HO_241001.out⟩, ⟨bG BK232⟩, ⟨bG BK233⟩, ⟨bG BK240⟩, ⟨by exact lT HB (gC GE232 (gC GE233 (gC GE240 gN)))⟩⟩
         case rest =>
          clear HC40
          try clear c1
          try clear c2
          try clear p2
          try clear c3
          try clear c4
          try clear c5
          try clear p6
          try clear c7
          try clear c9
          try clear c14
          try clear c15
          try clear c19
          try clear c21
          try clear c23
          try clear c24
          try clear c27
          try clear c28
          try clear c30
          try clear c31
          try clear c32
          try clear c34
          try clear c36
          try clear c36b0
          try clear c38
          try clear c38b0
          try clear c41
          try clear c42
          try clear c47
          try clear hcz10_0
          try clear hcz10_1
          try clear hcz16_0
          try clear hcz16_1
          try clear hcz25_0
          try clear hcz25_1
          try clear hcz29_0
          try clear hcz29_1
          try clear hcz33_0
          try clear hcz33_1
          try clear hcz35_0
          try clear hcz35_1
          try clear hcz43_0
          try clear hcz43_1
          try clear hfz10_0
          try clear hfz10_1
          try clear hfz16_0
          try clear hfz16_1
          try clear hfz25_0
          try clear hfz25_1
          try clear hfz29_0
          try clear hfz29_1
          try clear hfz33_0
          try clear hfz33_1
          try clear hfz35_0
          try clear hfz35_1
          try clear hfz43_0
          try clear hfz43_1
          try clear p2
          try clear p6
          obtain ⟨kq, x77_39, rfl, HA, HJ39, HO_241000, HO_241001, BK232, BK233, BK240, HB⟩ := hcut
          cases kq with
          | zero => exact absurd HA.out (by simp [spec_WriteBytes.j3])
          | succ kj39 =>
           have H := HA.out
           clear HA
           simp only [spec_WriteBytes.j3] at H
           by_cases c48 : x77_39 = true
           ·subst c48
            have H1 : ((spec_l03Copy.f l0_0 l0_1).bind fun bt246 => (some (bt246.1, bt246.2, false))) = some (r1, r2, r3) := by rw [if_pos rfl] at H; exact H
            clear H
            have H := H1
            clear H1
            replace H := Option.bind_eq_some_iff.mp H
            obtain ⟨⟨t246, t249⟩, A490, H⟩ := H
            replace H : (some (t246, t249, false)) = some (r1, r2, r3) := H
            have A49 := Aside0.mk A490
            clear A490
            simp only [Option.some.injEq, Prod.mk.injEq] at H
            obtain ⟨rfl, rfl, rfl⟩ := H
            have hnb50 := NB232_233.out
            have hnc50 := NB233_232.out
            have hnb51 := NB232_240.out
            have hnc51 := NB240_232.out
            have hcz52_0 : wc.cell? ⟨gb232, 0, none⟩ = some (.slice A0_0 l0_0.length c0_0) := bc BK232 0
            have hcz52_1 : wc.cell? ⟨gb232, 1, none⟩ = some (.slice A0_1 l0_1.length c0_1) := bc BK232 1
            have hfz52_0 := blk_frozen BK232.out 0
            have hfz52_1 := blk_frozen BK232.out 1
            go_wp2_with (first | ((with_reducible refine gate_callee (f := 58) rfl ?_); refine gl (some 79) Try.func58 #[.agg #[.slice A0_0 l0_0.length c0_0, .slice A0_1 l0_1.length c0_1]] ?_; (with_reducible refine (spec_l03Copy.calls _ _ l0_0 _ _ l0_1 t246 t249 _ ?side1 ?side2 ?side3 ?side4 A49.out).mono ?_); (case side1 => exact cG (Kd.C_below HR0_0.out HB.out)); (case side2 => exact HC0_0.out); (case side3 => exact cG (Kd.C_below HR0_1.out HB.out)); (case side4 => exact HC0_1.out); rintro e w53 ⟨v247, v250, rfl, ho0, ho1, hb⟩; refine ⟨_, rfl, ?_⟩; replace HO248 := ak (Kd.R_lower (Kd.R_new' ho0 (Kd.R_lt (rG HO_241000))) (below_size (lT HB (gC GE232 (gC GE233 (gC GE240 gN)))))); replace HO_241000 := ak (Kd.R_elder' (rG HO_241000) (Kd.R_base ho0) hb); replace HO251 := ak (Kd.R_lower (Kd.R_new' ho1 (Kd.R_lt (rG HO_241001))) (below_size (lT HB (gC GE232 (gC GE233 (gC GE240 gN)))))); replace HO_241001 := ak (Kd.R_elder' (rG HO_241001) (Kd.R_base ho1) hb); replace BK232 := bB BK232 hb; replace BK233 := bB BK233 hb; replace BK240 := bB BK240 hb; replace HB := ak (below_step (lT HB (gC GE232 (gC GE233 (gC GE240 gN)))) hb); (try clear hb); (try clear hk); (try clear ho0); (try clear ho1); obtain ⟨Ao54, co54, eo54⟩ := Kd.R_slice HO248.out; subst eo54; have hnb55 := NB233_240.out; have hnc55 := NB240_233.out; obtain ⟨hcz56_0, hcz56_1, hfz56_0, hfz56_1⟩ := bC2 BK233; obtain ⟨Ao57, co57, eo57⟩ := Kd.R_slice HO251.out; subst eo57))
            refine bodyPost_ret (results_ct rfl _ _ gb233 27 #[.slice Ao54 t246.length co54, .slice Ao57 t249.length co57] (0, 0) _ rfl (bW BK233) Try.underlying27 rfl (by kernel_rfl)) rfl ?_
            exact ⟨_, _, ew, by exact Kd.R_mono (rT HO248 BK233 (by decide)) (fun _ hk => trivial), by exact Kd.R_mono (rT HO251 BK233 (by decide)) (fun _ hk => trivial), by exact lT HB (gC GE232 (gC GE233 (gC GE240 gN)))⟩
           ·replace c48 := Bool.eq_false_iff.mpr c48
            subst c48
            have H1 : (if 0 ≤ (Int.tmod (wrap64 (a2 + x11_2)) 32) then (if (Int.tmod (wrap64 (a2 + x11_2)) 32) ≤ (t244.size : Int) then (if 0 ≤ x11_2 then (if x11_2 ≤ (wrap64 (x11_2 + x14_36)) then (if (wrap64 (x11_2 + x14_36)) ≤ (a3.size : Int) then (if (t244.extract 0 ((Int.tmod (wrap64 (a2 + x11_2)) 32) : Int).toNat).size + (a3.extract (x11_2 : Int).toNat ((wrap64 (x11_2 + x14_36)) : Int).toNat).size ≤ 9223372036854775807 then (if 0 ≤ (wrap64 ((Int.tmod (wrap64 (a2 + x11_2)) 32) + x14_36)) then (if (wrap64 ((Int.tmod (wrap64 (a2 + x11_2)) 32) + x14_36)) ≤ (t244.size : Int) then (if (t244.extract 0 ((Int.tmod (wrap64 (a2 + x11_2)) 32) : Int).toNat).size + ((a3.extract (x11_2 : Int).toNat ((wrap64 (x11_2 + x14_36)) : Int).toNat).size) + (t244.extract ((wrap64 ((Int.tmod (wrap64 (a2 + x11_2)) 32) + x14_36)) : Int).toNat t244.size).size ≤ 9223372036854775807 then ((spec_WriteSector.f kj39 x241000_2 x241001_2 (wrap64 (a1 + (wrap64 (Int.tdiv (wrap64 (a2 + x11_2)) 32)))) (((t244.extract 0 ((Int.tmod (wrap64 (a2 + x11_2)) 32) : Int).toNat) ++ (a3.extract (x11_2 : Int).toNat ((wrap64 (x11_2 + x14_36)) : Int).toNat)) ++ (t244.extract ((wrap64 ((Int.tmod (wrap64 (a2 + x11_2)) 32) + x14_36)) : Int).toNat t244.size))).bind fun bt252 => (if bt252.2.2 = true then (spec_WriteBytes.l0 kj39 a1 a2 a3 (wrap64 (x11_2 + x14_36)) l0_0 l0_1 bt252.1 bt252.2.1) else ((spec_l03Copy.f l0_0 l0_1).bind fun bt260 => (some (bt260.1, bt260.2, false))))) else (none)) else (none)) else (none)) else (none)) else (none)) else (none)) else (none)) else (none)) else (none)) = some (r1, r2, r3) := by rw [if_neg (show ¬ (false = true) by decide)] at H; exact H
            clear H
            have H := H1
            clear H1
            obtain ⟨ji58, hji58⟩ : ∃ j_ : Int, (Int.tmod (wrap64 (a2 + x11_2)) 32) = j_ := ⟨_, rfl⟩
            replace H : (if 0 ≤ (ji58) then (if (ji58) ≤ (t244.size : Int) then (if 0 ≤ x11_2 then (if x11_2 ≤ (wrap64 (x11_2 + x14_36)) then (if (wrap64 (x11_2 + x14_36)) ≤ (a3.size : Int) then (if (t244.extract 0 ((ji58) : Int).toNat).size + (a3.extract (x11_2 : Int).toNat ((wrap64 (x11_2 + x14_36)) : Int).toNat).size ≤ 9223372036854775807 then (if 0 ≤ (wrap64 ((ji58) + x14_36)) then (if (wrap64 ((ji58) + x14_36)) ≤ (t244.size : Int) then (if (t244.extract 0 ((ji58) : Int).toNat).size + ((a3.extract (x11_2 : Int).toNat ((wrap64 (x11_2 + x14_36)) : Int).toNat).size) + (t244.extract ((wrap64 ((ji58) + x14_36)) : Int).toNat t244.size).size ≤ 9223372036854775807 then ((spec_WriteSector.f kj39 x241000_2 x241001_2 (wrap64 (a1 + (wrap64 (Int.tdiv (wrap64 (a2 + x11_2)) 32)))) (((t244.extract 0 ((ji58) : Int).toNat) ++ (a3.extract (x11_2 : Int).toNat ((wrap64 (x11_2 + x14_36)) : Int).toNat)) ++ (t244.extract ((wrap64 ((ji58) + x14_36)) : Int).toNat t244.size))).bind fun bt252 => (if bt252.2.2 = true then (spec_WriteBytes.l0 kj39 a1 a2 a3 (wrap64 (x11_2 + x14_36)) l0_0 l0_1 bt252.1 bt252.2.1) else ((spec_l03Copy.f l0_0 l0_1).bind fun bt260 => (some (bt260.1, bt260.2, false))))) else (none)) else (none)) else (none)) else (none)) else (none)) else (none)) else (none)) else (none)) else (none)) = some (r1, r2, r3) := by first | (rw [hji58] at H; exact H) | (simp only [hji58] at H ⊢; exact H)
            by_cases c59 : 0 ≤ (ji58)
            ·rw [if_pos c59] at H
             have c59b0 := eq_true c59
             have c59b1 : decide (0 ≤ (ji58)) = true := decide_eq_true c59
             clear c59
             by_cases c60 : (ji58) ≤ (t244.size : Int)
             ·rw [if_pos c60] at H
              have c60b0 := eq_true c60
              have c60b1 : decide ((ji58) ≤ (t244.size : Int)) = true := decide_eq_true c60
              clear c60
              by_cases c61 : 0 ≤ x11_2
              ·rw [if_pos c61] at H
               have c61b0 := eq_true c61
               have c61b1 : decide (0 ≤ x11_2) = true := decide_eq_true c61
               clear c61
               by_cases c62 : x11_2 ≤ (wrap64 (x11_2 + x14_36))
               ·rw [if_pos c62] at H
                have c62b0 := eq_true c62
                have c62b1 : decide (x11_2 ≤ (wrap64 (x11_2 + x14_36))) = true := decide_eq_true c62
                by_cases c63 : (wrap64 (x11_2 + x14_36)) ≤ (a3.size : Int)
                ·rw [if_pos c63] at H
                 have c63b0 := eq_true c63
                 have c63b1 : decide ((wrap64 (x11_2 + x14_36)) ≤ (a3.size : Int)) = true := decide_eq_true c63
                 by_cases c64 : (t244.extract 0 ((ji58) : Int).toNat).size + (a3.extract (x11_2 : Int).toNat ((wrap64 (x11_2 + x14_36)) : Int).toNat).size ≤ 9223372036854775807
                 ·rw [if_pos c64] at H
                  have c64b0 := eq_true c64
                  have c64b1 : decide ((t244.extract 0 ((ji58) : Int).toNat).size + (a3.extract (x11_2 : Int).toNat ((wrap64 (x11_2 + x14_36)) : Int).toNat).size ≤ 9223372036854775807) = true := decide_eq_true c64
                  try have c64b2 : (9223372036854775807 < (t244.extract 0 ((ji58) : Int).toNat).size + (a3.extract (x11_2 : Int).toNat ((wrap64 (x11_2 + x14_36)) : Int).toNat).size) = False := eq_false (Nat.not_lt.2 c64)
                  try have c64b9 : (9223372036854775807 < ((ji58) : Int).toNat + (((wrap64 (x11_2 + x14_36)) : Int).toNat - (x11_2 : Int).toNat)) = False := eq_false (by have h_ := c64; (try have h36_ := of_eq_true c36b0); (try have g36_ := of_decide_eq_true c36b0); (try have h59_ := of_eq_true c59b0); (try have g59_ := of_decide_eq_true c59b0); (try have h60_ := of_eq_true c60b0); (try have g60_ := of_decide_eq_true c60b0); (try have h61_ := of_eq_true c61b0); (try have g61_ := of_decide_eq_true c61b0); (try have h62_ := of_eq_true c62b0); (try have g62_ := of_decide_eq_true c62b0); (try have h63_ := of_eq_true c63b0); (try have g63_ := of_decide_eq_true c63b0); simp only [ByteArray.size_extract] at h_; omega)
                  try have c64b7 : (9223372036854775807 < min ((ji58) : Int).toNat t244.size + (min ((wrap64 (x11_2 + x14_36)) : Int).toNat a3.size - (x11_2 : Int).toNat)) = False := eq_false (by have h_ := c64; (try have h36_ := of_eq_true c36b0); (try have g36_ := of_decide_eq_true c36b0); (try have h59_ := of_eq_true c59b0); (try have g59_ := of_decide_eq_true c59b0); (try have h60_ := of_eq_true c60b0); (try have g60_ := of_decide_eq_true c60b0); (try have h61_ := of_eq_true c61b0); (try have g61_ := of_decide_eq_true c61b0); (try have h62_ := of_eq_true c62b0); (try have g62_ := of_decide_eq_true c62b0); (try have h63_ := of_eq_true c63b0); (try have g63_ := of_decide_eq_true c63b0); simp only [ByteArray.size_extract] at h_; omega)
                  obtain ⟨ji65, hji65⟩ : ∃ j_ : Int, (wrap64 ((ji58) + x14_36)) = j_ := ⟨_, rfl⟩
                  replace H : (if 0 ≤ (ji65) then (if (ji65) ≤ (t244.size : Int) then (if (t244.extract 0 ((ji58) : Int).toNat).size + ((a3.extract (x11_2 : Int).toNat ((wrap64 (x11_2 + x14_36)) : Int).toNat).size) + (t244.extract ((ji65) : Int).toNat t244.size).size ≤ 9223372036854775807 then ((spec_WriteSector.f kj39 x241000_2 x241001_2 (wrap64 (a1 + (wrap64 (Int.tdiv (wrap64 (a2 + x11_2)) 32)))) (((t244.extract 0 ((ji58) : Int).toNat) ++ (a3.extract (x11_2 : Int).toNat ((wrap64 (x11_2 + x14_36)) : Int).toNat)) ++ (t244.extract ((ji65) : Int).toNat t244.size))).bind fun bt252 => (if bt252.2.2 = true then (spec_WriteBytes.l0 kj39 a1 a2 a3 (wrap64 (x11_2 + x14_36)) l0_0 l0_1 bt252.1 bt252.2.1) else ((spec_l03Copy.f l0_0 l0_1).bind fun bt260 => (some (bt260.1, bt260.2, false))))) else (none)) else (none)) else (none)) = some (r1, r2, r3) := by first | (rw [hji65] at H; exact H) | (simp only [hji65] at H ⊢; exact H)
                  have hji65w : (IntKind.i64.wrap ((ji58) + x14_36)) = ji65 := (i64_w _).trans hji65
                  by_cases c66 : 0 ≤ (ji65)
                  ·rw [if_pos c66] at H
                   have c66b0 := eq_true c66
                   have c66b1 : decide (0 ≤ (ji65)) = true := decide_eq_true c66
                   clear c66
                   by_cases c67 : (ji65) ≤ (t244.size : Int)
                   ·rw [if_pos c67] at H
                    have c67b0 := eq_true c67
                    have c67b1 : decide ((ji65) ≤ (t244.size : Int)) = true := decide_eq_true c67
                    clear c67
                    by_cases c68 : (t244.extract 0 ((ji58) : Int).toNat).size + ((a3.extract (x11_2 : Int).toNat ((wrap64 (x11_2 + x14_36)) : Int).toNat).size) + (t244.extract ((ji65) : Int).toNat t244.size).size ≤ 9223372036854775807
                    ·rw [if_pos c68] at H
                     have c68b0 := eq_true c68
                     have c68b1 : decide ((t244.extract 0 ((ji58) : Int).toNat).size + ((a3.extract (x11_2 : Int).toNat ((wrap64 (x11_2 + x14_36)) : Int).toNat).size) + (t244.extract ((ji65) : Int).toNat t244.size).size ≤ 9223372036854775807) = true := decide_eq_true c68
                     try have c68b2 : (9223372036854775807 < (t244.extract 0 ((ji58) : Int).toNat).size + ((a3.extract (x11_2 : Int).toNat ((wrap64 (x11_2 + x14_36)) : Int).toNat).size) + (t244.extract ((ji65) : Int).toNat t244.size).size) = False := eq_false (Nat.not_lt.2 c68)
                     try have c68b9 : (9223372036854775807 < ((ji58) : Int).toNat + (((wrap64 (x11_2 + x14_36)) : Int).toNat - (x11_2 : Int).toNat) + (t244.size - ((ji65) : Int).toNat)) = False := eq_false (by have h_ := c68; (try have h36_ := of_eq_true c36b0); (try have g36_ := of_decide_eq_true c36b0); (try have h59_ := of_eq_true c59b0); (try have g59_ := of_decide_eq_true c59b0); (try have h60_ := of_eq_true c60b0); (try have g60_ := of_decide_eq_true c60b0); (try have h61_ := of_eq_true c61b0); (try have g61_ := of_decide_eq_true c61b0); (try have h62_ := of_eq_true c62b0); (try have g62_ := of_decide_eq_true c62b0); (try have h63_ := of_eq_true c63b0); (try have g63_ := of_decide_eq_true c63b0); (try have h64_ := of_eq_true c64b0); (try have g64_ := of_decide_eq_true c64b0); (try simp only [ByteArray.size_extract, ByteArray.size_append] at h64_); (try have h66_ := of_eq_true c66b0); (try have g66_ := of_decide_eq_true c66b0); (try have h67_ := of_eq_true c67b0); (try have g67_ := of_decide_eq_true c67b0); simp only [ByteArray.size_extract] at h_; omega)
                     try have c68b7 : (9223372036854775807 < min ((ji58) : Int).toNat t244.size + (min ((wrap64 (x11_2 + x14_36)) : Int).toNat a3.size - (x11_2 : Int).toNat) + (t244.size - ((ji65) : Int).toNat)) = False := eq_false (by have h_ := c68; (try have h36_ := of_eq_true c36b0); (try have g36_ := of_decide_eq_true c36b0); (try have h59_ := of_eq_true c59b0); (try have g59_ := of_decide_eq_true c59b0); (try have h60_ := of_eq_true c60b0); (try have g60_ := of_decide_eq_true c60b0); (try have h61_ := of_eq_true c61b0); (try have g61_ := of_decide_eq_true c61b0); (try have h62_ := of_eq_true c62b0); (try have g62_ := of_decide_eq_true c62b0); (try have h63_ := of_eq_true c63b0); (try have g63_ := of_decide_eq_true c63b0); (try have h64_ := of_eq_true c64b0); (try have g64_ := of_decide_eq_true c64b0); (try simp only [ByteArray.size_extract, ByteArray.size_append] at h64_); (try have h66_ := of_eq_true c66b0); (try have g66_ := of_decide_eq_true c66b0); (try have h67_ := of_eq_true c67b0); (try have g67_ := of_decide_eq_true c67b0); simp only [ByteArray.size_extract] at h_; omega)
                     replace H := Option.bind_eq_some_iff.mp H
                     obtain ⟨⟨t252, t255, t258⟩, A690, H⟩ := H
                     replace H : (if t258 = true then (spec_WriteBytes.l0 kj39 a1 a2 a3 (wrap64 (x11_2 + x14_36)) l0_0 l0_1 t252 t255) else ((spec_l03Copy.f l0_0 l0_1).bind fun bt260 => (some (bt260.1, bt260.2, false)))) = some (r1, r2, r3) := H
                     have A69 := Aside0.mk A690
                     clear A690
                     by_cases c70 : t258 = true
                     ·subst c70
                      have H1 : (spec_WriteBytes.l0 kj39 a1 a2 a3 (wrap64 (x11_2 + x14_36)) l0_0 l0_1 t252 t255) = some (r1, r2, r3) := by rw [if_pos rfl] at H; exact H
                      clear H
                      have H := H1
                      clear H1
                      have H' := Aside0.mk H
                      clear H
                      try go_wp2
                      replace HO_241000 := ak (Kd.R_drew HO_241000.out)
                      replace HO_241001 := ak (Kd.R_drew HO_241001.out)
                      replace BK232 := ak (blk_drew BK232.out)
                      replace BK233 := ak (blk_drew BK233.out)
                      replace BK240 := ak (blk_drew BK240.out)
                      replace HB := ak (below_drew1 HB.out)
                      refine start_ (n := 25) (S := fun w' => w'.cell? ⟨gb240, 0, none⟩ = some (.slice Ao44 x241000_2.length co44) ∧ w'.cell? ⟨gb240, 1, none⟩ = some (.slice Ao45 x241001_2.length co45)) (ds := []) #[f_,f_,f_,f_,f_,f_,f_,f_,f_,f_,f_,f_,f_,f_,f_,f_,f_,f_,f_,f_,f_,f_,f_,f_,f_] (by kernel_rfl) rfl rfl ⟨bc BK240 0, bc BK240 1⟩ (fun hHeld => ?_); refine with_tabW spec_WriteBytes.tab14 spec_WriteBytes.bits14 (fun HT_ HW_ => ?_)
                      generalize wc.drew = w71 at HO_241000 HO_241001 BK232 BK233 BK240 HB hHeld ⊢
                      refine pu 1 82 (fb 25 2) HT_ ?_
                      refine pu 2 83 (fb 25 6) HT_ ?_
                      refine pu 3 84 (fb 25 14) HT_ ?_
                      refine pu 4 85 (fb 25 30) HT_ ?_
                      refine pu 5 86 (fb 25 62) HT_ ?_
                      refine pu 6 87 (fb 25 126) HT_ ?_
                      refine pu 7 88 (fb 25 254) HT_ ?_
                      refine pu 8 89 (fb 25 510) HT_ ?_
                      refine pu 9 90 (fb 25 1022) HT_ ?_
                      refine pu 10 91 (fb 25 2046) HT_ ?_
                      refine pu 11 92 (fb 25 4094) HT_ ?_
                      refine pu 12 93 (fb 25 8190) HT_ ?_
                      refine pu 13 94 (fb 25 16382) HT_ ?_
                      refine pu 14 95 (fb 25 32766) HT_ ?_
                      refine pu 15 96 (fb 25 65534) HT_ ?_
                      refine pu 16 97 (fb 25 131070) HT_ ?_
                      refine pu 17 98 (fb 25 262142) HT_ ?_
                      refine tk 0 81 (fb 25 262143) HT_ HW_ hHeld ?_
                      refine join_ (σ := Value × Value × Nat) 2 #[t_,t_,t_,t_,t_,t_,t_,t_,t_,t_,t_,t_,t_,t_,t_,t_,t_,t_,t_,t_,t_,t_,t_,f_,f_] (fun s_ => [(99, .tuple #[.agg #[s_.1, s_.2.1], .bool true]), (17, .pointer (some ⟨s_.2.2, 0, none⟩)), (80, .tuple #[.agg #[s_.1, s_.2.1], .bool true]), (100, .agg #[s_.1, s_.2.1]), (101, .bool true)]) (fun s_ w' => (w'.cell? ⟨gb240, 0, none⟩ = some (.slice Ao44 x241000_2.length co44) ∧ w'.cell? ⟨gb240, 1, none⟩ = some (.slice Ao45 x241001_2.length co45)) ∧ (Kd.R Kd.string 9 w' w.heap.size (fun k_ => some k_ ≠ (.slice Ao44 x241000_2.length co44 : Value).ownBlock) s_.1 t252) ∧ (Kd.R k63 63 w' w.heap.size (fun k_ => some k_ ≠ (.slice Ao45 x241001_2.length co45 : Value).ownBlock) s_.2.1 t255) ∧ (Kd.R Kd.string 9 w' w.heap.size (fun k_ => some k_ ≠ (s_.1 : Value).ownBlock) (.slice Ao44 x241000_2.length co44) x241000_2) ∧ (Kd.R k63 63 w' w.heap.size (fun k_ => some k_ ≠ (s_.2.1 : Value).ownBlock) (.slice Ao45 x241001_2.length co45) x241001_2) ∧ (w'.heap[gb232]? = some (.cells #[.slice A0_0 l0_0.length c0_0, .slice A0_1 l0_1.length c0_1] 27 (0, 0))) ∧ (w'.heap[gb233]? = some (.cells #[.slice none 0 0, .slice none 0 0] 27 (0, 0))) ∧ (w'.heap[gb240]? = some (.cells #[.slice Ao44 x241000_2.length co44, .slice Ao45 x241001_2.length co45] 27 (0, 0))) ∧ (w'.heap[s_.2.2]? = some (.cells #[.slice none 0 0, .slice none 0 0] 27 (0, 0))) ∧ (w.heap.size ≤ s_.2.2) ∧ (w.heap.size ≤ s_.2.2) ∧ (gb232 ≠ s_.2.2) ∧ (s_.2.2 ≠ gb232) ∧ (gb233 ≠ s_.2.2) ∧ (s_.2.2 ≠ gb233) ∧ (gb240 ≠ s_.2.2) ∧ (s_.2.2 ≠ gb240) ∧ (Below w.heap.size w w')) ?_ ?_
                      rotate_left
                      ·intro hCont
                       refine two_ (i := 18) (j := 22) (Ni := some 99) (Nj := some 17) #[t_,t_,t_,t_,t_,t_,t_,t_,t_,t_,t_,t_,t_,t_,t_,t_,t_,t_,t_,f_,f_,f_,f_,f_,f_] #[t_,t_,t_,t_,t_,t_,t_,t_,t_,t_,t_,t_,t_,t_,t_,t_,t_,t_,f_,f_,f_,f_,t_,f_,f_] rfl rfl rfl rfl (two_of HT_.out (by kernel_rfl)) (by decide) (by decide) (fun K hK => ?_) (fun K hK => ?_)
                       ·skip
                        refine goes_ Try.func95 (by kernel_rfl) rfl #[.agg #[.slice Ao44 x241000_2.length co44, .slice Ao45 x241001_2.length co45], .int .i64 (wrap64 (a1 + (wrap64 (Int.tdiv (wrap64 (a2 + x11_2)) 32)))), .string (((t244.extract 0 ((ji58) : Int).toNat) ++ (a3.extract (x11_2 : Int).toNat ((wrap64 (x11_2 + x14_36)) : Int).toNat)) ++ (t244.extract ((ji65) : Int).toNat t244.size))] (by rfl) rfl rfl (by (try simp only [List.map_toArray, List.map_cons, List.map_nil]); first | done | (simp only [hji58, hji65]; rfl) | rfl | (simp only [List.length_drop, List.length_take]; rfl)) ?_
                        with_reducible refine (spec_WriteSector.calls kj39 _ _ x241000_2 _ _ x241001_2 (wrap64 (a1 + (wrap64 (Int.tdiv (wrap64 (a2 + x11_2)) 32)))) (((t244.extract 0 ((ji58) : Int).toNat) ++ (a3.extract (x11_2 : Int).toNat ((wrap64 (x11_2 + x14_36)) : Int).toNat)) ++ (t244.extract ((ji65) : Int).toNat t244.size)) t252 t255 true _ ?side1 ?side2 ?side3 ?side4 A69.out).mono ?_
                        (case side1 => exact cG (Kd.R_reads' HO_241000.out).2.2)
                        (case side2 => exact (Kd.R_reads' HO_241000.out).2.1)
                        (case side3 => exact cG (Kd.R_reads' HO_241001.out).2.2)
                        (case side4 => exact (Kd.R_reads' HO_241001.out).2.1)
                        rintro e w72 ⟨v253, v256, rfl, ho0, ho1, hb⟩
                        refine ⟨_, rfl, ?_⟩
                        replace HO254 := ak (Kd.R_lower (Kd.R_new' ho0 (Kd.R_lt (rG HO_241000))) (below_size (lT HB (gC GE232 (gC GE233 (gC GE240 gN))))))
                        replace HO_241000 := ak (Kd.R_elder' (rG HO_241000) (Kd.R_base ho0) hb)
                        replace HO257 := ak (Kd.R_lower (Kd.R_new' ho1 (Kd.R_lt (rG HO_241001))) (below_size (lT HB (gC GE232 (gC GE233 (gC GE240 gN))))))
                        replace HO_241001 := ak (Kd.R_elder' (rG HO_241001) (Kd.R_base ho1) hb)
                        replace BK232 := bB BK232 hb
                        replace BK233 := bB BK233 hb
                        replace BK240 := bB BK240 hb
                        replace HB := ak (below_step (lT HB (gC GE232 (gC GE233 (gC GE240 gN)))) hb)
                        (try clear hb)
                        (try clear hb2)
                        (try clear hk)
                        (try clear hi)
                        (try clear ho0)
                        (try clear ho1)
                        refine hK.out _ _ ⟨bc BK240 0, bc BK240 1⟩ (fun hHeld => ?_)
                        clear hK K
                        refine nm ?_
                        refine pu 19 80 (fb 25 1048575) HT_ ?_
                        refine pu 20 100 (fb 25 2097151) HT_ ?_
                        refine pu 21 101 (fb 25 4194303) HT_ ?_
                        refine on 22 (some 17) (fb 25 8388607) HT_ (fun K hK => ?_)
                        refine box_step ?hg (N := 17) ?hd (cs := #[.slice none 0 0, .slice none 0 0]) (t := 27) ?hr ?_; (case hd => rfl); (case hg => rfl); (case hr => first | (go_simp; done) | (go_simp; rfl))
                        intro gb259 hg w73 hbox hb
                        replace HO_241000 := rB HO_241000 hb
                        replace HO_241001 := rB HO_241001 hb
                        replace HO254 := rB HO254 hb
                        replace HO257 := rB HO257 hb
                        replace BK259 := ak (hbox)
                        replace GW259 := ak (bz hg (lT HB (gC GE232 (gC GE233 (gC GE240 gN)))))
                        replace GE259 := ak (bz hg (lT HB (gC GE232 (gC GE233 (gC GE240 gN)))))
                        replace HB := ak (below_step (lT HB (gC GE232 (gC GE233 (gC GE240 gN)))) hb)
                        replace NB232_259 := ak (nl hg (bG BK232))
                        replace NB259_232 := ak (ng hg (bG BK232))
                        replace BK232 := bB BK232 hb
                        replace NB233_259 := ak (nl hg (bG BK233))
                        replace NB259_233 := ak (ng hg (bG BK233))
                        replace BK233 := bB BK233 hb
                        replace NB240_259 := ak (nl hg (bG BK240))
                        replace NB259_240 := ak (ng hg (bG BK240))
                        replace BK240 := bB BK240 hb
                        clear hb hbox hg
                        refine hK.out _ _ ⟨bc BK240 0, bc BK240 1⟩ (fun hHeld => ?_)
                        clear hK K
                        refine nm ?_
                        exact norm_ (by simp only [putAll, Act.put, List.setIfInBounds_toArray, List.set_cons_zero, List.set_cons_succ]) (hCont (v253, v256, gb259) _ ⟨hHeld, (by (with_reducible repeat (first | apply Kd.R_alloc | apply Kd.R_drewN | apply Kd.R_drew)); exact Kd.R_mono HO254.out (fun _ hk => hk.2)), (by (with_reducible repeat (first | apply Kd.R_alloc | apply Kd.R_drewN | apply Kd.R_drew)); exact Kd.R_mono HO257.out (fun _ hk => hk.2)), (by (with_reducible repeat (first | apply Kd.R_alloc | apply Kd.R_drewN | apply Kd.R_drew)); exact Kd.R_mono HO_241000.out (fun _ hk => hk.2)), (by (with_reducible repeat (first | apply Kd.R_alloc | apply Kd.R_drewN | apply Kd.R_drew)); exact Kd.R_mono HO_241001.out (fun _ hk => hk.2)), (bG BK232), (bG BK233), (bG BK240), (bG BK259), GW259.out, GE259.out, NB232_259.out, NB259_232.out, NB233_259.out, NB259_233.out, NB240_259.out, NB259_240.out, (lT HB (gC GE232 (gC GE233 (gC GE240 (gC GE259 gN)))))⟩)
                       ·skip
                        refine box_step ?hg (N := 17) ?hd (cs := #[.slice none 0 0, .slice none 0 0]) (t := 27) ?hr ?_; (case hd => rfl); (case hg => rfl); (case hr => first | (go_simp; done) | (go_simp; rfl))
                        intro gb259 hg w72 hbox hb
                        replace HO_241000 := rB HO_241000 hb
                        replace HO_241001 := rB HO_241001 hb
                        replace BK259 := ak (hbox)
                        replace GW259 := ak (bz hg (lT HB (gC GE232 (gC GE233 (gC GE240 gN)))))
                        replace GE259 := ak (bz hg (lT HB (gC GE232 (gC GE233 (gC GE240 gN)))))
                        replace HB := ak (below_step (lT HB (gC GE232 (gC GE233 (gC GE240 gN)))) hb)
                        replace NB232_259 := ak (nl hg (bG BK232))
                        replace NB259_232 := ak (ng hg (bG BK232))
                        replace BK232 := bB BK232 hb
                        replace NB233_259 := ak (nl hg (bG BK233))
                        replace NB259_233 := ak (ng hg (bG BK233))
                        replace BK233 := bB BK233 hb
                        replace NB240_259 := ak (nl hg (bG BK240))
                        replace NB259_240 := ak (ng hg (bG BK240))
                        replace BK240 := bB BK240 hb
                        clear hb hbox hg
                        refine hK.out _ _ ⟨bc BK240 0, bc BK240 1⟩ (fun hHeld => ?_)
                        clear hK K
                        refine nm ?_
                        refine on 18 (some 99) (fb 25 4718591) HT_ (fun K hK => ?_)
                        refine goes_ Try.func95 (by kernel_rfl) rfl #[.agg #[.slice Ao44 x241000_2.length co44, .slice Ao45 x241001_2.length co45], .int .i64 (wrap64 (a1 + (wrap64 (Int.tdiv (wrap64 (a2 + x11_2)) 32)))), .string (((t244.extract 0 ((ji58) : Int).toNat) ++ (a3.extract (x11_2 : Int).toNat ((wrap64 (x11_2 + x14_36)) : Int).toNat)) ++ (t244.extract ((ji65) : Int).toNat t244.size))] (by rfl) rfl rfl (by (try simp only [List.map_toArray, List.map_cons, List.map_nil]); first | done | (simp only [hji58, hji65]; rfl) | rfl | (simp only [List.length_drop, List.length_take]; rfl)) ?_
                        with_reducible refine (spec_WriteSector.calls kj39 _ _ x241000_2 _ _ x241001_2 (wrap64 (a1 + (wrap64 (Int.tdiv (wrap64 (a2 + x11_2)) 32)))) (((t244.extract 0 ((ji58) : Int).toNat) ++ (a3.extract (x11_2 : Int).toNat ((wrap64 (x11_2 + x14_36)) : Int).toNat)) ++ (t244.extract ((ji65) : Int).toNat t244.size)) t252 t255 true _ ?side1 ?side2 ?side3 ?side4 A69.out).mono ?_
                        (case side1 => exact cG (Kd.R_reads' HO_241000.out).2.2)
                        (case side2 => exact (Kd.R_reads' HO_241000.out).2.1)
                        (case side3 => exact cG (Kd.R_reads' HO_241001.out).2.2)
                        (case side4 => exact (Kd.R_reads' HO_241001.out).2.1)
                        rintro e w73 ⟨v253, v256, rfl, ho0, ho1, hb⟩
                        refine ⟨_, rfl, ?_⟩
                        replace HO254 := ak (Kd.R_lower (Kd.R_new' ho0 (Kd.R_lt (rG HO_241000))) (below_size (lT HB (gC GE232 (gC GE233 (gC GE240 (gC GE259 gN)))))))
                        replace HO_241000 := ak (Kd.R_elder' (rG HO_241000) (Kd.R_base ho0) hb)
                        replace HO257 := ak (Kd.R_lower (Kd.R_new' ho1 (Kd.R_lt (rG HO_241001))) (below_size (lT HB (gC GE232 (gC GE233 (gC GE240 (gC GE259 gN)))))))
                        replace HO_241001 := ak (Kd.R_elder' (rG HO_241001) (Kd.R_base ho1) hb)
                        replace BK232 := bB BK232 hb
                        replace BK233 := bB BK233 hb
                        replace BK240 := bB BK240 hb
                        replace BK259 := bB BK259 hb
                        replace HB := ak (below_step (lT HB (gC GE232 (gC GE233 (gC GE240 (gC GE259 gN))))) hb)
                        (try clear hb)
                        (try clear hb2)
                        (try clear hk)
                        (try clear hi)
                        (try clear ho0)
                        (try clear ho1)
                        refine hK.out _ _ ⟨bc BK240 0, bc BK240 1⟩ (fun hHeld => ?_)
                        clear hK K
                        refine nm ?_
                        refine pu 19 80 (fb 25 5242879) HT_ ?_
                        refine pu 20 100 (fb 25 6291455) HT_ ?_
                        refine pu 21 101 (fb 25 8388607) HT_ ?_
                        exact norm_ (by simp only [putAll, Act.put, List.setIfInBounds_toArray, List.set_cons_zero, List.set_cons_succ]) (hCont (v253, v256, gb259) _ ⟨hHeld, (by (with_reducible repeat (first | apply Kd.R_alloc | apply Kd.R_drewN | apply Kd.R_drew)); exact Kd.R_mono HO254.out (fun _ hk => hk.2)), (by (with_reducible repeat (first | apply Kd.R_alloc | apply Kd.R_drewN | apply Kd.R_drew)); exact Kd.R_mono HO257.out (fun _ hk => hk.2)), (by (with_reducible repeat (first | apply Kd.R_alloc | apply Kd.R_drewN | apply Kd.R_drew)); exact Kd.R_mono HO_241000.out (fun _ hk => hk.2)), (by (with_reducible repeat (first | apply Kd.R_alloc | apply Kd.R_drewN | apply Kd.R_drew)); exact Kd.R_mono HO_241001.out (fun _ hk => hk.2)), (bG BK232), (bG BK233), (bG BK240), (bG BK259), GW259.out, GE259.out, NB232_259.out, NB259_232.out, NB233_259.out, NB259_233.out, NB240_259.out, NB259_240.out, (lT HB (gC GE232 (gC GE233 (gC GE240 (gC GE259 gN)))))⟩)
                      rintro ⟨v253, v256, gb259⟩ w74 ⟨hS_, h0_, h1_, h2_, h3_, h4_, h5_, h6_, h7_, h8_, h9_, h10_, h11_, h12_, h13_, h14_, h15_, h16_⟩
                      have n0_ : Aside0 (Kd.R Kd.string 9 w74 w.heap.size (fun k_ => some k_ ≠ (.slice Ao44 x241000_2.length co44 : Value).ownBlock) v253 t252) := ⟨h0_⟩
                      have n1_ : Aside0 (Kd.R k63 63 w74 w.heap.size (fun k_ => some k_ ≠ (.slice Ao45 x241001_2.length co45 : Value).ownBlock) v256 t255) := ⟨h1_⟩
                      have n2_ : Aside0 (Kd.R Kd.string 9 w74 w.heap.size (fun k_ => some k_ ≠ (v253 : Value).ownBlock) (.slice Ao44 x241000_2.length co44) x241000_2) := ⟨h2_⟩
                      have n3_ : Aside0 (Kd.R k63 63 w74 w.heap.size (fun k_ => some k_ ≠ (v256 : Value).ownBlock) (.slice Ao45 x241001_2.length co45) x241001_2) := ⟨h3_⟩
                      have n4_ : Aside0 (w74.heap[gb232]? = some (.cells #[.slice A0_0 l0_0.length c0_0, .slice A0_1 l0_1.length c0_1] 27 (0, 0))) := ⟨h4_⟩
                      have n5_ : Aside0 (w74.heap[gb233]? = some (.cells #[.slice none 0 0, .slice none 0 0] 27 (0, 0))) := ⟨h5_⟩
                      have n6_ : Aside0 (w74.heap[gb240]? = some (.cells #[.slice Ao44 x241000_2.length co44, .slice Ao45 x241001_2.length co45] 27 (0, 0))) := ⟨h6_⟩
                      have n7_ : Aside0 (w74.heap[gb259]? = some (.cells #[.slice none 0 0, .slice none 0 0] 27 (0, 0))) := ⟨h7_⟩
                      have n8_ : Aside0 (w.heap.size ≤ gb259) := ⟨h8_⟩
                      have n9_ : Aside0 (w.heap.size ≤ gb259) := ⟨h9_⟩
                      have n10_ : Aside0 (gb232 ≠ gb259) := ⟨h10_⟩
                      have n11_ : Aside0 (gb259 ≠ gb232) := ⟨h11_⟩
                      have n12_ : Aside0 (gb233 ≠ gb259) := ⟨h12_⟩
                      have n13_ : Aside0 (gb259 ≠ gb233) := ⟨h13_⟩
                      have n14_ : Aside0 (gb240 ≠ gb259) := ⟨h14_⟩
                      have n15_ : Aside0 (gb259 ≠ gb240) := ⟨h15_⟩
                      have n16_ : Aside0 (Below w.heap.size w w74) := ⟨h16_⟩
                      clear HO_241000
                      clear HO_241001
                      clear BK232
                      clear BK233
                      clear BK240
                      clear HB
                      clear h0_ h1_ h2_ h3_ h4_ h5_ h6_ h7_ h8_ h9_ h10_ h11_ h12_ h13_ h14_ h15_ h16_
                      have HO254 := n0_
                      have HO257 := n1_
                      have HO_241000 := n2_
                      have HO_241001 := n3_
                      have BK232 := n4_
                      have BK233 := n5_
                      have BK240 := n6_
                      have BK259 := n7_
                      have GW259 := n8_
                      have GE259 := n9_
                      have NB232_259 := n10_
                      have NB259_232 := n11_
                      have NB233_259 := n12_
                      have NB259_233 := n13_
                      have NB240_259 := n14_
                      have NB259_240 := n15_
                      have HB := n16_
                      clear n0_ n1_ n2_ n3_ n4_ n5_ n6_ n7_ n8_ n9_ n10_ n11_ n12_ n13_ n14_ n15_ n16_
                      have hHeld : w74.cell? ⟨gb240, 0, none⟩ = some (.slice Ao44 x241000_2.length co44) ∧ w74.cell? ⟨gb240, 1, none⟩ = some (.slice Ao45 x241001_2.length co45) := hS_
                      obtain ⟨Ao75, co75, eo75⟩ := Kd.R_slice HO254.out
                      (first | subst eo75 | (injection eo75 with f1_ f2_ f3_; have f4_ := f1_.symm; have f5_ := f3_.symm; clear f1_ f2_ f3_; subst f4_; subst f5_))
                      obtain ⟨Ao77, co77, eo77⟩ := Kd.R_slice HO257.out
                      (first | subst eo77 | (injection eo77 with f1_ f2_ f3_; have f4_ := f1_.symm; have f5_ := f3_.symm; clear f1_ f2_ f3_; subst f4_; subst f5_))
                      refine norm_ (a' := ?_) ?_ ?_
                      rotate_left
                      ·simp only [putAll, Act.put, List.setIfInBounds_toArray, List.set_cons_zero, List.set_cons_succ]
                       rfl
                      refine on 23 none (fb 25 16777215) HT_ (fun K hK => ?_)
                      have hs76 : w74.cell? ⟨gb259, 0, none⟩ = some (.slice none 0 0) := bc BK259 0
                      have hfs76 := blk_frozen BK259.out 0
                      have hns76_0 := NB232_259.out
                      have hns76_1 := NB233_259.out
                      have hns76_2 := NB240_259.out
                      have hms76_0 := NB259_232.out
                      have hms76_1 := NB259_233.out
                      have hms76_2 := NB259_240.out
                      have hs78 : w74.cell? ⟨gb259, 1, none⟩ = some (.slice none 0 0) := bc BK259 1
                      have hfs78 := blk_frozen BK259.out 1
                      have hns78_0 := NB232_259.out
                      have hns78_1 := NB233_259.out
                      have hns78_2 := NB240_259.out
                      have hms78_0 := NB259_232.out
                      have hms78_1 := NB259_233.out
                      have hms78_2 := NB259_240.out
                      refine skip_ (w1 := ?_) (by rfl) rfl ?_ ?_
                      rotate_left
                      ·go_simp
                       rfl
                      refine hK.out _ _ ⟨((cell_far (p := ⟨gb259, _, none⟩) NB240_259.out _).trans (((cell_far (p := ⟨gb259, _, none⟩) NB240_259.out _).trans (hHeld.1)))), ((cell_far (p := ⟨gb259, _, none⟩) NB240_259.out _).trans (((cell_far (p := ⟨gb259, _, none⟩) NB240_259.out _).trans (hHeld.2))))⟩ (fun hHeld => ?_)
                      clear hK K
                      refine pu 24 18 (fb 25 33554431) HT_ ?_
                      refine done_ (done_of HT_.out (by kernel_rfl)) ?_
                      have hnb79 := NB259_232.out
                      have hnc79 := NB232_259.out
                      have hnb80 := NB259_233.out
                      have hnc80 := NB233_259.out
                      have hnb81 := NB259_240.out
                      have hnc81 := NB240_259.out
                      have hcz82_0 : w74.cell? ⟨gb259, 0, none⟩ = some (.slice none 0 0) := bc BK259 0
                      have hcz82_1 : w74.cell? ⟨gb259, 1, none⟩ = some (.slice none 0 0) := bc BK259 1
                      have hfz82_0 := blk_frozen BK259.out 0
                      have hfz82_1 := blk_frozen BK259.out 1
                      have hnb83 := NB240_232.out
                      have hnc83 := NB232_240.out
                      have hnb84 := NB240_233.out
                      have hnc84 := NB233_240.out
                      have hcz85_0 : w74.cell? ⟨gb240, 0, none⟩ = some (.slice Ao44 x241000_2.length co44) := bc BK240 0
                      have hcz85_1 : w74.cell? ⟨gb240, 1, none⟩ = some (.slice Ao45 x241001_2.length co45) := bc BK240 1
                      have hfz85_0 := blk_frozen BK240.out 0
                      have hfz85_1 := blk_frozen BK240.out 1
                      try go_wp2
                      go_roundg kj39
                      case measure => have := HJ5.out; have := HK2.out; have := HJ36.out; have := HJ39.out; omega
                      case rel => exact ⟨(wrap64 (x11_2 + x14_36)), (t252), (t255), (.slice Ao75 t252.length co75), (.slice Ao77 t255.length co77), (by first | rfl | (simp; done) | (simp [*]; done)), H', ⟨by have := HJ5.out; have := HK2.out; have := HJ36.out; have := HJ39.out; omega⟩, ⟨by exact Kd.R_mono (rT2 HO254 BK259 BK240 (by decide) (by decide)) (fun _ hk => trivial)⟩, ⟨by exact Kd.R_mono (rT2 HO257 BK259 BK240 (by decide) (by decide)) (fun _ hk => trivial)⟩, ⟨by (with_reducible repeat (first | refine blk_drewN ?_ _ | refine blk_drew ?_ | refine blk_alloc ?_ _)); refine blk_far ?_ NB232_240.out _; (with_reducible repeat (first | refine blk_drewN ?_ _ | refine blk_drew ?_ | refine blk_alloc ?_ _)); refine blk_far ?_ NB232_240.out _; (with_reducible repeat (first | refine blk_drewN ?_ _ | refine blk_drew ?_ | refine blk_alloc ?_ _)); refine blk_far ?_ NB232_259.out _; (with_reducible repeat (first | refine blk_drewN ?_ _ | refine blk_drew ?_ | refine blk_alloc ?_ _)); refine blk_far ?_ NB232_259.out _; (with_reducible repeat (first | refine blk_drewN ?_ _ | refine blk_drew ?_ | refine blk_alloc ?_ _)); exact BK232.out⟩, ⟨by (with_reducible repeat (first | refine blk_drewN ?_ _ | refine blk_drew ?_ | refine blk_alloc ?_ _)); refine blk_far ?_ NB233_240.out _; (with_reducible repeat (first | refine blk_drewN ?_ _ | refine blk_drew ?_ | refine blk_alloc ?_ _)); refine blk_far ?_ NB233_240.out _; (with_reducible repeat (first | refine blk_drewN ?_ _ | refine blk_drew ?_ | refine blk_alloc ?_ _)); refine blk_far ?_ NB233_259.out _; (with_reducible repeat (first | refine blk_drewN ?_ _ | refine blk_drew ?_ | refine blk_alloc ?_ _)); refine blk_far ?_ NB233_259.out _; (with_reducible repeat (first | refine blk_drewN ?_ _ | refine blk_drew ?_ | refine blk_alloc ?_ _)); exact BK233.out⟩, ⟨by (with_reducible repeat (first | refine blk_drewN ?_ _ | refine blk_drew ?_ | refine blk_alloc ?_ _)); refine blk_put (cs := #[.slice Ao75 t252.length co75, .slice Ao45 x241001_2.length co45]) ?_ 1 _ rfl; (with_reducible repeat (first | refine blk_drewN ?_ _ | refine blk_drew ?_ | refine blk_alloc ?_ _)); refine blk_put (cs := #[.slice Ao44 x241000_2.length co44, .slice Ao45 x241001_2.length co45]) ?_ 0 _ rfl; (with_reducible repeat (first | refine blk_drewN ?_ _ | refine blk_drew ?_ | refine blk_alloc ?_ _)); refine blk_far ?_ NB240_259.out _; (with_reducible repeat (first | refine blk_drewN ?_ _ | refine blk_drew ?_ | refine blk_alloc ?_ _)); refine blk_far ?_ NB240_259.out _; (with_reducible repeat (first | refine blk_drewN ?_ _ | refine blk_drew ?_ | refine blk_alloc ?_ _)); exact BK240.out⟩, ⟨by exact lT HB (gC GE232 (gC GE233 (gC GE240 (gC GE259 gN))))⟩⟩
                     ·replace c70 := Bool.eq_false_iff.mpr c70
                      subst c70
                      have H1 : ((spec_l03Copy.f l0_0 l0_1).bind fun bt260 => (some (bt260.1, bt260.2, false))) = some (r1, r2, r3) := by rw [if_neg (show ¬ (false = true) by decide)] at H; exact H
                      clear H
                      have H := H1
                      clear H1
                      replace H := Option.bind_eq_some_iff.mp H
                      obtain ⟨⟨t260, t263⟩, A860, H⟩ := H
                      replace H : (some (t260, t263, false)) = some (r1, r2, r3) := H
                      have A86 := Aside0.mk A860
                      clear A860
                      simp only [Option.some.injEq, Prod.mk.injEq] at H
                      obtain ⟨rfl, rfl, rfl⟩ := H
                      try go_wp2
                      replace HO_241000 := ak (Kd.R_drew HO_241000.out)
                      replace HO_241001 := ak (Kd.R_drew HO_241001.out)
                      replace BK232 := ak (blk_drew BK232.out)
                      replace BK233 := ak (blk_drew BK233.out)
                      replace BK240 := ak (blk_drew BK240.out)
                      replace HB := ak (below_drew1 HB.out)
                      refine start_ (n := 25) (S := fun w' => w'.cell? ⟨gb240, 0, none⟩ = some (.slice Ao44 x241000_2.length co44) ∧ w'.cell? ⟨gb240, 1, none⟩ = some (.slice Ao45 x241001_2.length co45)) (ds := []) #[f_,f_,f_,f_,f_,f_,f_,f_,f_,f_,f_,f_,f_,f_,f_,f_,f_,f_,f_,f_,f_,f_,f_,f_,f_] (by kernel_rfl) rfl rfl ⟨bc BK240 0, bc BK240 1⟩ (fun hHeld => ?_); refine with_tabW spec_WriteBytes.tab14 spec_WriteBytes.bits14 (fun HT_ HW_ => ?_)
                      generalize wc.drew = w87 at HO_241000 HO_241001 BK232 BK233 BK240 HB hHeld ⊢
                      refine pu 1 82 (fb 25 2) HT_ ?_
                      refine pu 2 83 (fb 25 6) HT_ ?_
                      refine pu 3 84 (fb 25 14) HT_ ?_
                      refine pu 4 85 (fb 25 30) HT_ ?_
                      refine pu 5 86 (fb 25 62) HT_ ?_
                      refine pu 6 87 (fb 25 126) HT_ ?_
                      refine pu 7 88 (fb 25 254) HT_ ?_
                      refine pu 8 89 (fb 25 510) HT_ ?_
                      refine pu 9 90 (fb 25 1022) HT_ ?_
                      refine pu 10 91 (fb 25 2046) HT_ ?_
                      refine pu 11 92 (fb 25 4094) HT_ ?_
                      refine pu 12 93 (fb 25 8190) HT_ ?_
                      refine pu 13 94 (fb 25 16382) HT_ ?_
                      refine pu 14 95 (fb 25 32766) HT_ ?_
                      refine pu 15 96 (fb 25 65534) HT_ ?_
                      refine pu 16 97 (fb 25 131070) HT_ ?_
                      refine pu 17 98 (fb 25 262142) HT_ ?_
                      refine tk 0 81 (fb 25 262143) HT_ HW_ hHeld ?_
                      refine join_ (σ := Value × Value × Nat) 2 #[t_,t_,t_,t_,t_,t_,t_,t_,t_,t_,t_,t_,t_,t_,t_,t_,t_,t_,t_,t_,t_,t_,t_,f_,f_] (fun s_ => [(99, .tuple #[.agg #[s_.1, s_.2.1], .bool false]), (17, .pointer (some ⟨s_.2.2, 0, none⟩)), (80, .tuple #[.agg #[s_.1, s_.2.1], .bool false]), (100, .agg #[s_.1, s_.2.1]), (101, .bool false)]) (fun s_ w' => (w'.cell? ⟨gb240, 0, none⟩ = some (.slice Ao44 x241000_2.length co44) ∧ w'.cell? ⟨gb240, 1, none⟩ = some (.slice Ao45 x241001_2.length co45)) ∧ (Kd.R Kd.string 9 w' w.heap.size (fun k_ => some k_ ≠ (.slice Ao44 x241000_2.length co44 : Value).ownBlock) s_.1 t252) ∧ (Kd.R k63 63 w' w.heap.size (fun k_ => some k_ ≠ (.slice Ao45 x241001_2.length co45 : Value).ownBlock) s_.2.1 t255) ∧ (Kd.R Kd.string 9 w' w.heap.size (fun k_ => some k_ ≠ (s_.1 : Value).ownBlock) (.slice Ao44 x241000_2.length co44) x241000_2) ∧ (Kd.R k63 63 w' w.heap.size (fun k_ => some k_ ≠ (s_.2.1 : Value).ownBlock) (.slice Ao45 x241001_2.length co45) x241001_2) ∧ (w'.heap[gb232]? = some (.cells #[.slice A0_0 l0_0.length c0_0, .slice A0_1 l0_1.length c0_1] 27 (0, 0))) ∧ (w'.heap[gb233]? = some (.cells #[.slice none 0 0, .slice none 0 0] 27 (0, 0))) ∧ (w'.heap[gb240]? = some (.cells #[.slice Ao44 x241000_2.length co44, .slice Ao45 x241001_2.length co45] 27 (0, 0))) ∧ (w'.heap[s_.2.2]? = some (.cells #[.slice none 0 0, .slice none 0 0] 27 (0, 0))) ∧ (w.heap.size ≤ s_.2.2) ∧ (w.heap.size ≤ s_.2.2) ∧ (gb232 ≠ s_.2.2) ∧ (s_.2.2 ≠ gb232) ∧ (gb233 ≠ s_.2.2) ∧ (s_.2.2 ≠ gb233) ∧ (gb240 ≠ s_.2.2) ∧ (s_.2.2 ≠ gb240) ∧ (Below w.heap.size w w')) ?_ ?_
                      rotate_left
                      ·intro hCont
                       refine two_ (i := 18) (j := 22) (Ni := some 99) (Nj := some 17) #[t_,t_,t_,t_,t_,t_,t_,t_,t_,t_,t_,t_,t_,t_,t_,t_,t_,t_,t_,f_,f_,f_,f_,f_,f_] #[t_,t_,t_,t_,t_,t_,t_,t_,t_,t_,t_,t_,t_,t_,t_,t_,t_,t_,f_,f_,f_,f_,t_,f_,f_] rfl rfl rfl rfl (two_of HT_.out (by kernel_rfl)) (by decide) (by decide) (fun K hK => ?_) (fun K hK => ?_)
                       ·skip
                        refine goes_ Try.func95 (by kernel_rfl) rfl #[.agg #[.slice Ao44 x241000_2.length co44, .slice Ao45 x241001_2.length co45], .int .i64 (wrap64 (a1 + (wrap64 (Int.tdiv (wrap64 (a2 + x11_2)) 32)))), .string (((t244.extract 0 ((ji58) : Int).toNat) ++ (a3.extract (x11_2 : Int).toNat ((wrap64 (x11_2 + x14_36)) : Int).toNat)) ++ (t244.extract ((ji65) : Int).toNat t244.size))] (by rfl) rfl rfl (by (try simp only [List.map_toArray, List.map_cons, List.map_nil]); first | done | (simp only [hji58, hji65]; rfl) | rfl | (simp only [List.length_drop, List.length_take]; rfl)) ?_
                        with_reducible refine (spec_WriteSector.calls kj39 _ _ x241000_2 _ _ x241001_2 (wrap64 (a1 + (wrap64 (Int.tdiv (wrap64 (a2 + x11_2)) 32)))) (((t244.extract 0 ((ji58) : Int).toNat) ++ (a3.extract (x11_2 : Int).toNat ((wrap64 (x11_2 + x14_36)) : Int).toNat)) ++ (t244.extract ((ji65) : Int).toNat t244.size)) t252 t255 false _ ?side1 ?side2 ?side3 ?side4 A69.out).mono ?_
                        (case side1 => exact cG (Kd.R_reads' HO_241000.out).2.2)
                        (case side2 => exact (Kd.R_reads' HO_241000.out).2.1)
                        (case side3 => exact cG (Kd.R_reads' HO_241001.out).2.2)
                        (case side4 => exact (Kd.R_reads' HO_241001.out).2.1)
                        rintro e w88 ⟨v253, v256, rfl, ho0, ho1, hb⟩
                        refine ⟨_, rfl, ?_⟩
                        replace HO254 := ak (Kd.R_lower (Kd.R_new' ho0 (Kd.R_lt (rG HO_241000))) (below_size (lT HB (gC GE232 (gC GE233 (gC GE240 gN))))))
                        replace HO_241000 := ak (Kd.R_elder' (rG HO_241000) (Kd.R_base ho0) hb)
                        replace HO257 := ak (Kd.R_lower (Kd.R_new' ho1 (Kd.R_lt (rG HO_241001))) (below_size (lT HB (gC GE232 (gC GE233 (gC GE240 gN))))))
                        replace HO_241001 := ak (Kd.R_elder' (rG HO_241001) (Kd.R_base ho1) hb)
                        replace BK232 := bB BK232 hb
                        replace BK233 := bB BK233 hb
                        replace BK240 := bB BK240 hb
                        replace HB := ak (below_step (lT HB (gC GE232 (gC GE233 (gC GE240 gN)))) hb)
                        (try clear hb)
                        (try clear hb2)
                        (try clear hk)
                        (try clear hi)
                        (try clear ho0)
                        (try clear ho1)
                        refine hK.out _ _ ⟨bc BK240 0, bc BK240 1⟩ (fun hHeld => ?_)
                        clear hK K
                        refine nm ?_
                        refine pu 19 80 (fb 25 1048575) HT_ ?_
                        refine pu 20 100 (fb 25 2097151) HT_ ?_
                        refine pu 21 101 (fb 25 4194303) HT_ ?_
                        refine on 22 (some 17) (fb 25 8388607) HT_ (fun K hK => ?_)
                        refine box_step ?hg (N := 17) ?hd (cs := #[.slice none 0 0, .slice none 0 0]) (t := 27) ?hr ?_; (case hd => rfl); (case hg => rfl); (case hr => first | (go_simp; done) | (go_simp; rfl))
                        intro gb259 hg w89 hbox hb
                        replace HO_241000 := rB HO_241000 hb
                        replace HO_241001 := rB HO_241001 hb
                        replace HO254 := rB HO254 hb
                        replace HO257 := rB HO257 hb
                        replace BK259 := ak (hbox)
                        replace GW259 := ak (bz hg (lT HB (gC GE232 (gC GE233 (gC GE240 gN)))))
                        replace GE259 := ak (bz hg (lT HB (gC GE232 (gC GE233 (gC GE240 gN)))))
                        replace HB := ak (below_step (lT HB (gC GE232 (gC GE233 (gC GE240 gN)))) hb)
                        replace NB232_259 := ak (nl hg (bG BK232))
                        replace NB259_232 := ak (ng hg (bG BK232))
                        replace BK232 := bB BK232 hb
                        replace NB233_259 := ak (nl hg (bG BK233))
                        replace NB259_233 := ak (ng hg (bG BK233))
                        replace BK233 := bB BK233 hb
                        replace NB240_259 := ak (nl hg (bG BK240))
                        replace NB259_240 := ak (ng hg (bG BK240))
                        replace BK240 := bB BK240 hb
                        clear hb hbox hg
                        refine hK.out _ _ ⟨bc BK240 0, bc BK240 1⟩ (fun hHeld => ?_)
                        clear hK K
                        refine nm ?_
                        exact norm_ (by simp only [putAll, Act.put, List.setIfInBounds_toArray, List.set_cons_zero, List.set_cons_succ]) (hCont (v253, v256, gb259) _ ⟨hHeld, (by (with_reducible repeat (first | apply Kd.R_alloc | apply Kd.R_drewN | apply Kd.R_drew)); exact Kd.R_mono HO254.out (fun _ hk => hk.2)), (by (with_reducible repeat (first | apply Kd.R_alloc | apply Kd.R_drewN | apply Kd.R_drew)); exact Kd.R_mono HO257.out (fun _ hk => hk.2)), (by (with_reducible repeat (first | apply Kd.R_alloc | apply Kd.R_drewN | apply Kd.R_drew)); exact Kd.R_mono HO_241000.out (fun _ hk => hk.2)), (by (with_reducible repeat (first | apply Kd.R_alloc | apply Kd.R_drewN | apply Kd.R_drew)); exact Kd.R_mono HO_241001.out (fun _ hk => hk.2)), (bG BK232), (bG BK233), (bG BK240), (bG BK259), GW259.out, GE259.out, NB232_259.out, NB259_232.out, NB233_259.out, NB259_233.out, NB240_259.out, NB259_240.out, (lT HB (gC GE232 (gC GE233 (gC GE240 (gC GE259 gN)))))⟩)
                       ·skip
                        refine box_step ?hg (N := 17) ?hd (cs := #[.slice none 0 0, .slice none 0 0]) (t := 27) ?hr ?_; (case hd => rfl); (case hg => rfl); (case hr => first | (go_simp; done) | (go_simp; rfl))
                        intro gb259 hg w88 hbox hb
                        replace HO_241000 := rB HO_241000 hb
                        replace HO_241001 := rB HO_241001 hb
                        replace BK259 := ak (hbox)
                        replace GW259 := ak (bz hg (lT HB (gC GE232 (gC GE233 (gC GE240 gN)))))
                        replace GE259 := ak (bz hg (lT HB (gC GE232 (gC GE233 (gC GE240 gN)))))
                        replace HB := ak (below_step (lT HB (gC GE232 (gC GE233 (gC GE240 gN)))) hb)
                        replace NB232_259 := ak (nl hg (bG BK232))
                        replace NB259_232 := ak (ng hg (bG BK232))
                        replace BK232 := bB BK232 hb
                        replace NB233_259 := ak (nl hg (bG BK233))
                        replace NB259_233 := ak (ng hg (bG BK233))
                        replace BK233 := bB BK233 hb
                        replace NB240_259 := ak (nl hg (bG BK240))
                        replace NB259_240 := ak (ng hg (bG BK240))
                        replace BK240 := bB BK240 hb
                        clear hb hbox hg
                        refine hK.out _ _ ⟨bc BK240 0, bc BK240 1⟩ (fun hHeld => ?_)
                        clear hK K
                        refine nm ?_
                        refine on 18 (some 99) (fb 25 4718591) HT_ (fun K hK => ?_)
                        refine goes_ Try.func95 (by kernel_rfl) rfl #[.agg #[.slice Ao44 x241000_2.length co44, .slice Ao45 x241001_2.length co45], .int .i64 (wrap64 (a1 + (wrap64 (Int.tdiv (wrap64 (a2 + x11_2)) 32)))), .string (((t244.extract 0 ((ji58) : Int).toNat) ++ (a3.extract (x11_2 : Int).toNat ((wrap64 (x11_2 + x14_36)) : Int).toNat)) ++ (t244.extract ((ji65) : Int).toNat t244.size))] (by rfl) rfl rfl (by (try simp only [List.map_toArray, List.map_cons, List.map_nil]); first | done | (simp only [hji58, hji65]; rfl) | rfl | (simp only [List.length_drop, List.length_take]; rfl)) ?_
                        with_reducible refine (spec_WriteSector.calls kj39 _ _ x241000_2 _ _ x241001_2 (wrap64 (a1 + (wrap64 (Int.tdiv (wrap64 (a2 + x11_2)) 32)))) (((t244.extract 0 ((ji58) : Int).toNat) ++ (a3.extract (x11_2 : Int).toNat ((wrap64 (x11_2 + x14_36)) : Int).toNat)) ++ (t244.extract ((ji65) : Int).toNat t244.size)) t252 t255 false _ ?side1 ?side2 ?side3 ?side4 A69.out).mono ?_
                        (case side1 => exact cG (Kd.R_reads' HO_241000.out).2.2)
                        (case side2 => exact (Kd.R_reads' HO_241000.out).2.1)
                        (case side3 => exact cG (Kd.R_reads' HO_241001.out).2.2)
                        (case side4 => exact (Kd.R_reads' HO_241001.out).2.1)
                        rintro e w89 ⟨v253, v256, rfl, ho0, ho1, hb⟩
                        refine ⟨_, rfl, ?_⟩
                        replace HO254 := ak (Kd.R_lower (Kd.R_new' ho0 (Kd.R_lt (rG HO_241000))) (below_size (lT HB (gC GE232 (gC GE233 (gC GE240 (gC GE259 gN)))))))
                        replace HO_241000 := ak (Kd.R_elder' (rG HO_241000) (Kd.R_base ho0) hb)
                        replace HO257 := ak (Kd.R_lower (Kd.R_new' ho1 (Kd.R_lt (rG HO_241001))) (below_size (lT HB (gC GE232 (gC GE233 (gC GE240 (gC GE259 gN)))))))
                        replace HO_241001 := ak (Kd.R_elder' (rG HO_241001) (Kd.R_base ho1) hb)
                        replace BK232 := bB BK232 hb
                        replace BK233 := bB BK233 hb
                        replace BK240 := bB BK240 hb
                        replace BK259 := bB BK259 hb
                        replace HB := ak (below_step (lT HB (gC GE232 (gC GE233 (gC GE240 (gC GE259 gN))))) hb)
                        (try clear hb)
                        (try clear hb2)
                        (try clear hk)
                        (try clear hi)
                        (try clear ho0)
                        (try clear ho1)
                        refine hK.out _ _ ⟨bc BK240 0, bc BK240 1⟩ (fun hHeld => ?_)
                        clear hK K
                        refine nm ?_
                        refine pu 19 80 (fb 25 5242879) HT_ ?_
                        refine pu 20 100 (fb 25 6291455) HT_ ?_
                        refine pu 21 101 (fb 25 8388607) HT_ ?_
                        exact norm_ (by simp only [putAll, Act.put, List.setIfInBounds_toArray, List.set_cons_zero, List.set_cons_succ]) (hCont (v253, v256, gb259) _ ⟨hHeld, (by (with_reducible repeat (first | apply Kd.R_alloc | apply Kd.R_drewN | apply Kd.R_drew)); exact Kd.R_mono HO254.out (fun _ hk => hk.2)), (by (with_reducible repeat (first | apply Kd.R_alloc | apply Kd.R_drewN | apply Kd.R_drew)); exact Kd.R_mono HO257.out (fun _ hk => hk.2)), (by (with_reducible repeat (first | apply Kd.R_alloc | apply Kd.R_drewN | apply Kd.R_drew)); exact Kd.R_mono HO_241000.out (fun _ hk => hk.2)), (by (with_reducible repeat (first | apply Kd.R_alloc | apply Kd.R_drewN | apply Kd.R_drew)); exact Kd.R_mono HO_241001.out (fun _ hk => hk.2)), (bG BK232), (bG BK233), (bG BK240), (bG BK259), GW259.out, GE259.out, NB232_259.out, NB259_232.out, NB233_259.out, NB259_233.out, NB240_259.out, NB259_240.out, (lT HB (gC GE232 (gC GE233 (gC GE240 (gC GE259 gN)))))⟩)
                      rintro ⟨v253, v256, gb259⟩ w90 ⟨hS_, h0_, h1_, h2_, h3_, h4_, h5_, h6_, h7_, h8_, h9_, h10_, h11_, h12_, h13_, h14_, h15_, h16_⟩
                      have n0_ : Aside0 (Kd.R Kd.string 9 w90 w.heap.size (fun k_ => some k_ ≠ (.slice Ao44 x241000_2.length co44 : Value).ownBlock) v253 t252) := ⟨h0_⟩
                      have n1_ : Aside0 (Kd.R k63 63 w90 w.heap.size (fun k_ => some k_ ≠ (.slice Ao45 x241001_2.length co45 : Value).ownBlock) v256 t255) := ⟨h1_⟩
                      have n2_ : Aside0 (Kd.R Kd.string 9 w90 w.heap.size (fun k_ => some k_ ≠ (v253 : Value).ownBlock) (.slice Ao44 x241000_2.length co44) x241000_2) := ⟨h2_⟩
                      have n3_ : Aside0 (Kd.R k63 63 w90 w.heap.size (fun k_ => some k_ ≠ (v256 : Value).ownBlock) (.slice Ao45 x241001_2.length co45) x241001_2) := ⟨h3_⟩
                      have n4_ : Aside0 (w90.heap[gb232]? = some (.cells #[.slice A0_0 l0_0.length c0_0, .slice A0_1 l0_1.length c0_1] 27 (0, 0))) := ⟨h4_⟩
                      have n5_ : Aside0 (w90.heap[gb233]? = some (.cells #[.slice none 0 0, .slice none 0 0] 27 (0, 0))) := ⟨h5_⟩
                      have n6_ : Aside0 (w90.heap[gb240]? = some (.cells #[.slice Ao44 x241000_2.length co44, .slice Ao45 x241001_2.length co45] 27 (0, 0))) := ⟨h6_⟩
                      have n7_ : Aside0 (w90.heap[gb259]? = some (.cells #[.slice none 0 0, .slice none 0 0] 27 (0, 0))) := ⟨h7_⟩
                      have n8_ : Aside0 (w.heap.size ≤ gb259) := ⟨h8_⟩
                      have n9_ : Aside0 (w.heap.size ≤ gb259) := ⟨h9_⟩
                      have n10_ : Aside0 (gb232 ≠ gb259) := ⟨h10_⟩
                      have n11_ : Aside0 (gb259 ≠ gb232) := ⟨h11_⟩
                      have n12_ : Aside0 (gb233 ≠ gb259) := ⟨h12_⟩
                      have n13_ : Aside0 (gb259 ≠ gb233) := ⟨h13_⟩
                      have n14_ : Aside0 (gb240 ≠ gb259) := ⟨h14_⟩
                      have n15_ : Aside0 (gb259 ≠ gb240) := ⟨h15_⟩
                      have n16_ : Aside0 (Below w.heap.size w w90) := ⟨h16_⟩
                      clear HO_241000
                      clear HO_241001
                      clear BK232
                      clear BK233
                      clear BK240
                      clear HB
                      clear h0_ h1_ h2_ h3_ h4_ h5_ h6_ h7_ h8_ h9_ h10_ h11_ h12_ h13_ h14_ h15_ h16_
                      have HO254 := n0_
                      have HO257 := n1_
                      have HO_241000 := n2_
                      have HO_241001 := n3_
                      have BK232 := n4_
                      have BK233 := n5_
                      have BK240 := n6_
                      have BK259 := n7_
                      have GW259 := n8_
                      have GE259 := n9_
                      have NB232_259 := n10_
                      have NB259_232 := n11_
                      have NB233_259 := n12_
                      have NB259_233 := n13_
                      have NB240_259 := n14_
                      have NB259_240 := n15_
                      have HB := n16_
                      clear n0_ n1_ n2_ n3_ n4_ n5_ n6_ n7_ n8_ n9_ n10_ n11_ n12_ n13_ n14_ n15_ n16_
                      have hHeld : w90.cell? ⟨gb240, 0, none⟩ = some (.slice Ao44 x241000_2.length co44) ∧ w90.cell? ⟨gb240, 1, none⟩ = some (.slice Ao45 x241001_2.length co45) := hS_
                      obtain ⟨Ao91, co91, eo91⟩ := Kd.R_slice HO254.out
                      (first | subst eo91 | (injection eo91 with f1_ f2_ f3_; have f4_ := f1_.symm; have f5_ := f3_.symm; clear f1_ f2_ f3_; subst f4_; subst f5_))
                      obtain ⟨Ao93, co93, eo93⟩ := Kd.R_slice HO257.out
                      (first | subst eo93 | (injection eo93 with f1_ f2_ f3_; have f4_ := f1_.symm; have f5_ := f3_.symm; clear f1_ f2_ f3_; subst f4_; subst f5_))
                      refine norm_ (a' := ?_) ?_ ?_
                      rotate_left
                      ·simp only [putAll, Act.put, List.setIfInBounds_toArray, List.set_cons_zero, List.set_cons_succ]
                       rfl
                      refine on 23 none (fb 25 16777215) HT_ (fun K hK => ?_)
                      have hs92 : w90.cell? ⟨gb259, 0, none⟩ = some (.slice none 0 0) := bc BK259 0
                      have hfs92 := blk_frozen BK259.out 0
                      have hns92_0 := NB232_259.out
                      have hns92_1 := NB233_259.out
                      have hns92_2 := NB240_259.out
                      have hms92_0 := NB259_232.out
                      have hms92_1 := NB259_233.out
                      have hms92_2 := NB259_240.out
                      have hs94 : w90.cell? ⟨gb259, 1, none⟩ = some (.slice none 0 0) := bc BK259 1
                      have hfs94 := blk_frozen BK259.out 1
                      have hns94_0 := NB232_259.out
                      have hns94_1 := NB233_259.out
                      have hns94_2 := NB240_259.out
                      have hms94_0 := NB259_232.out
                      have hms94_1 := NB259_233.out
                      have hms94_2 := NB259_240.out
                      refine skip_ (w1 := ?_) (by rfl) rfl ?_ ?_
                      rotate_left
                      ·go_simp
                       rfl
                      refine hK.out _ _ ⟨((cell_far (p := ⟨gb259, _, none⟩) NB240_259.out _).trans (((cell_far (p := ⟨gb259, _, none⟩) NB240_259.out _).trans (hHeld.1)))), ((cell_far (p := ⟨gb259, _, none⟩) NB240_259.out _).trans (((cell_far (p := ⟨gb259, _, none⟩) NB240_259.out _).trans (hHeld.2))))⟩ (fun hHeld => ?_)
                      clear hK K
                      refine pu 24 18 (fb 25 33554431) HT_ ?_
                      refine done_ (done_of HT_.out (by kernel_rfl)) ?_
                      have hnb95 := NB232_233.out
                      have hnc95 := NB233_232.out
                      have hnb96 := NB232_240.out
                      have hnc96 := NB240_232.out
                      have hnb97 := NB232_259.out
                      have hnc97 := NB259_232.out
                      have hcz98_0 : w90.cell? ⟨gb232, 0, none⟩ = some (.slice A0_0 l0_0.length c0_0) := bc BK232 0
                      have hcz98_1 : w90.cell? ⟨gb232, 1, none⟩ = some (.slice A0_1 l0_1.length c0_1) := bc BK232 1
                      have hfz98_0 := blk_frozen BK232.out 0
                      have hfz98_1 := blk_frozen BK232.out 1
                      try go_wp2_with (first | ((with_reducible refine gate_callee (f := 58) rfl ?_); refine gl (some 105) Try.func58 #[.agg #[.slice A0_0 l0_0.length c0_0, .slice A0_1 l0_1.length c0_1]] ?_; (with_reducible refine (spec_l03Copy.calls _ _ l0_0 _ _ l0_1 t260 t263 _ ?side1 ?side2 ?side3 ?side4 A86.out).mono ?_); (case side1 => exact Kd.C_below HR0_0.out (lT HB (gC GE232 (gC GE233 (gC GE240 (gC GE259 gN)))))); (case side2 => exact HC0_0.out); (case side3 => exact Kd.C_below HR0_1.out (lT HB (gC GE232 (gC GE233 (gC GE240 (gC GE259 gN)))))); (case side4 => exact HC0_1.out); rintro e w99 ⟨v261, v264, rfl, ho0, ho1, hb⟩; refine ⟨_, rfl, ?_⟩; replace HO262 := ak (Kd.R_lower (Kd.R_new' (Kd.R_new' ho0 (Kd.R_lt (rT HO_241000 BK259 (by decide)))) (Kd.R_lt (rT HO254 BK259 (by decide)))) (below_size (lT HB (gC GE232 (gC GE233 (gC GE240 (gC GE259 gN))))))); replace HO_241000 := ak (Kd.R_elder' (rT HO_241000 BK259 (by decide)) (Kd.R_base ho0) hb); replace HO254 := ak (Kd.R_elder' (rT HO254 BK259 (by decide)) (Kd.R_base ho0) hb); replace HO265 := ak (Kd.R_lower (Kd.R_new' (Kd.R_new' ho1 (Kd.R_lt (rT HO_241001 BK259 (by decide)))) (Kd.R_lt (rT HO257 BK259 (by decide)))) (below_size (lT HB (gC GE232 (gC GE233 (gC GE240 (gC GE259 gN))))))); replace HO_241001 := ak (Kd.R_elder' (rT HO_241001 BK259 (by decide)) (Kd.R_base ho1) hb); replace HO257 := ak (Kd.R_elder' (rT HO257 BK259 (by decide)) (Kd.R_base ho1) hb); replace BK232 := ak (blk_below (bT BK232 (nC NB232_259 nN)) hb); replace BK233 := ak (blk_below (bT BK233 (nC NB233_259 nN)) hb); replace BK240 := ak (blk_below (bT BK240 (nC NB240_259 nN)) hb); replace BK259 := ak (blk_below (g := gb259) (o := .cells #[.slice Ao91 t252.length co91, .slice Ao93 t255.length co93] 27 (0, 0)) (bW BK259) hb); replace HB := ak (below_step (lT HB (gC GE232 (gC GE233 (gC GE240 (gC GE259 gN))))) hb); (try clear hb); (try clear hk); (try clear ho0); (try clear ho1); obtain ⟨Ao100, co100, eo100⟩ := Kd.R_slice HO262.out; subst eo100; have hnb101 := NB233_240.out; have hnc101 := NB240_233.out; have hnb102 := NB233_259.out; have hnc102 := NB259_233.out; obtain ⟨hcz103_0, hcz103_1, hfz103_0, hfz103_1⟩ := bC2 BK233; obtain ⟨Ao104, co104, eo104⟩ := Kd.R_slice HO265.out; subst eo104))
                      refine bodyPost_ret (results_ct rfl _ _ gb233 27 #[.slice Ao100 t260.length co100, .slice Ao104 t263.length co104] (0, 0) _ rfl (bW BK233) Try.underlying27 rfl (by kernel_rfl)) rfl ?_
                      exact ⟨_, _, by first | rfl | (simp [errW_none, errW_some] <;> rfl) | (simp only [← hji58, ← hji65]; first | rfl | (simp [errW_none, errW_some] <;> rfl)) | (simp [*, errW_none, errW_some] <;> rfl), by exact Kd.R_mono (rT HO262 BK233 (by decide)) (fun _ hk => trivial), by exact Kd.R_mono (rT HO265 BK233 (by decide)) (fun _ hk => trivial), by exact lT HB (gC GE232 (gC GE233 (gC GE240 (gC GE259 gN))))⟩
                    ·rw [if_neg c68] at H
                     exact absurd H (by simp)
                   ·rw [if_neg c67] at H
                    exact absurd H (by simp)
                  ·rw [if_neg c66] at H
                   exact absurd H (by simp)
                 ·rw [if_neg c64] at H
                  exact absurd H (by simp)
                ·rw [if_neg c63] at H
                 exact absurd H (by simp)
               ·rw [if_neg c62] at H
                exact absurd H (by simp)
              ·rw [if_neg c61] at H
               exact absurd H (by simp)
             ·rw [if_neg c60] at H
              exact absurd H (by simp)
            ·rw [if_neg c59] at H
             exact absurd H (by simp)
      ·rw [if_neg c36] at H
       have c36b0 : decide (x11_2 < (a3.size : Int)) = false := decide_eq_false c36
       clear c36
       simp only [Option.some.injEq, Prod.mk.injEq] at H
       obtain ⟨rfl, rfl, rfl⟩ := H
       have hnb105 := NB240_232.out
       have hnc105 := NB232_240.out
       have hnb106 := NB240_233.out
       have hnc106 := NB233_240.out
       have hcz107_0 : wr.cell? ⟨gb240, 0, none⟩ = some (u241000) := bc BK240 0
       have hcz107_1 : wr.cell? ⟨gb240, 1, none⟩ = some (u241001) := bc BK240 1
       have hfz107_0 := blk_frozen BK240.out 0
       have hfz107_1 := blk_frozen BK240.out 1
       obtain ⟨Ao108, co108, eo108⟩ := Kd.R_slice HO_241000.out
       subst eo108
       have hnb109 := NB233_232.out
       have hnc109 := NB232_233.out
       have hcz110_0 : wr.cell? ⟨gb233, 0, none⟩ = some (.slice none 0 0) := bc BK233 0
       have hcz110_1 : wr.cell? ⟨gb233, 1, none⟩ = some (.slice none 0 0) := bc BK233 1
       have hfz110_0 := blk_frozen BK233.out 0
       have hfz110_1 := blk_frozen BK233.out 1
       obtain ⟨Ao111, co111, eo111⟩ := Kd.R_slice HO_241001.out
       subst eo111
       go_wp2
       refine bodyPost_ret (results_ct rfl _ _ gb233 27 #[.slice Ao108 x241000_2.length co108, .slice Ao111 x241001_2.length co111] (0, 0) _ rfl (bW BK233) Try.underlying27 rfl (by kernel_rfl)) rfl ?_
       exact ⟨_, _, ew, by exact Kd.R_mono (rT HO_241000 BK233 (by decide)) (fun _ hk => trivial), by exact Kd.R_mono (rT HO_241001 BK233 (by decide)) (fun _ hk => trivial), by exact lT HB (gC GE232 (gC GE233 (gC GE240 gN)))⟩

end Go.Proofs.Ytjpngldnkgofaaa.PFnDisksTold
