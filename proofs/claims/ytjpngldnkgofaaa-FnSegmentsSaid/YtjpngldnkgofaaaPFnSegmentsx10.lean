-- Written for this claim by a program of mine (a turned copy of the kit's print): functions as plain Lean, and their contracts. Lean checks it.
import Derived.Test.YtjpngldnkgofaaaPFnSegmentsx0
import Derived.Test.YtjpngldnkgofaaaPFnSegmentsx8
import Derived.Test.YtjpngldnkgofaaaPFnSegmentsx9
import Derived.Test.YtjpngldnkgofaaaVFnSegments1
namespace Go.Proofs.Ytjpngldnkgofaaa.PFnSegments
open Go.RowKit Go.Proofs.YtjpngldnkgofaaaW.PrintWords Go.Proofs.YtjpngldnkgofaaaW.PrintLast Go.Proofs.YtjpngldnkgofaaaW.PrintMore
attribute [local go_sem] max2_int min2_int max_two min_two max_three min_three max_four min_four   -- for this text's walks alone
set_option linter.unusedVariables false
set_option linter.unusedSimpArgs false

/-! ### impl_WriteBytes: function 60 -/
mutual
def impl_WriteBytes.j0 : Nat → Int → Int → ByteArray → Bool → List ByteArray → List (S63) → List ByteArray → List (S63) → Option (List ByteArray × (List (S63)) × Bool)
 | 0, _, _, _, _, _, _, _, _ => none
 | k + 1, x1, x2, x3, x30, x416000, x416001, x424000, x424001 => if x30 = true then (some (x424000, x424001, false)) else ((impl_cloneDisk.f x416000 x416001).bind fun bt426 => (impl_WriteBytes.l0 k x1 x2 x3 x424000 x424001 bt426.1 bt426.2))
def impl_WriteBytes.l0 : Nat → Int → Int → ByteArray → List ByteArray → List (S63) → List ByteArray → List (S63) → Option (List ByteArray × (List (S63)) × Bool)
 | 0, _, _, _, _, _, _, _ => none
 | k + 1, x1, x2, x3, x424000, x424001, x433000, x433001 => if x3.toList = ([] : List UInt8) then (some (x433000, x433001, true)) else ((impl_ReadSector.f k x433000 x433001 (wrap64 (x1 + (wrap64 (Int.tdiv x2 32))))).bind fun bt433 => (if bt433.2 = true then (impl_WriteBytes.j2 k x1 x2 x3 (wrap64 (x1 + (wrap64 (Int.tdiv x2 32)))) (Int.tmod x2 32) bt433.1 ((bt433.1.size : Int) != 32) x424000 x424001 x433000 x433001) else (impl_WriteBytes.j2 k x1 x2 x3 (wrap64 (x1 + (wrap64 (Int.tdiv x2 32)))) (Int.tmod x2 32) bt433.1 true x424000 x424001 x433000 x433001)))
def impl_WriteBytes.j2 : Nat → Int → Int → ByteArray → Int → Int → ByteArray → Bool → List ByteArray → List (S63) → List ByteArray → List (S63) → Option (List ByteArray × (List (S63)) × Bool)
 | 0, _, _, _, _, _, _, _, _, _, _, _ => none
 | k + 1, x1, x2, x3, x12, x13, x14, x54, x424000, x424001, x433000, x433001 => if x54 = true then (some (x424000, x424001, false)) else (if 0 ≤ x13 then (if x13 ≤ (x14.size : Int) then (if 0 ≤ (mn (x3.size : Int) (wrap64 (32 - x13))) then (if (mn (x3.size : Int) (wrap64 (32 - x13))) ≤ (x3.size : Int) then (if (x14.extract 0 (x13 : Int).toNat).size + (x3.extract 0 ((mn (x3.size : Int) (wrap64 (32 - x13))) : Int).toNat).size ≤ 9223372036854775807 then (if 0 ≤ (wrap64 (x13 + (mn (x3.size : Int) (wrap64 (32 - x13))))) then (if (wrap64 (x13 + (mn (x3.size : Int) (wrap64 (32 - x13))))) ≤ (x14.size : Int) then (if (x14.extract 0 (x13 : Int).toNat).size + (x3.extract 0 ((mn (x3.size : Int) (wrap64 (32 - x13))) : Int).toNat).size + (x14.extract ((wrap64 (x13 + (mn (x3.size : Int) (wrap64 (32 - x13))))) : Int).toNat x14.size).size ≤ 9223372036854775807 then ((impl_WriteSector.f x433000 x433001 x12 (((x14.extract 0 (x13 : Int).toNat) ++ (x3.extract 0 ((mn (x3.size : Int) (wrap64 (32 - x13))) : Int).toNat)) ++ (x14.extract ((wrap64 (x13 + (mn (x3.size : Int) (wrap64 (32 - x13))))) : Int).toNat x14.size))).bind fun bt435 => (if bt435.2.2 = true then (impl_WriteBytes.l0 k x1 (wrap64 (x2 + (mn (x3.size : Int) (wrap64 (32 - x13))))) (x3.extract ((mn (x3.size : Int) (wrap64 (32 - x13))) : Int).toNat x3.size) x424000 x424001 bt435.1 bt435.2.1) else (some (x424000, x424001, false)))) else (none)) else (none)) else (none)) else (none)) else (none)) else (none)) else (none)) else (none))
end
def impl_WriteBytes.f (k : Nat) (l0_0 : List ByteArray) (l0_1 : List (S63)) (a1 : Int) (a2 : Int) (a3 : ByteArray) : Option (List ByteArray × (List (S63)) × Bool) := (impl_cloneDisk.f l0_0 l0_1).bind fun bt417 => ((impl_in.f a2 0 3200).bind fun t424 => (if t424 = true then ((impl_in.f a1 0 (wrap64 ((l0_0.length : Int) - 1))).bind fun t425 => (impl_WriteBytes.j0 k a1 a2 a3 (!t425) l0_0 l0_1 bt417.1 bt417.2)) else (impl_WriteBytes.j0 k a1 a2 a3 true l0_0 l0_1 bt417.1 bt417.2)))
theorem impl_WriteBytes.mono_l : ∀ k, (∀ y0 y1 y2 y3 y4 y5 y6 y7, LeO (impl_WriteBytes.j0 k y0 y1 y2 y3 y4 y5 y6 y7) (impl_WriteBytes.j0 (k + 1) y0 y1 y2 y3 y4 y5 y6 y7)) ∧ (∀ y0 y1 y2 y3 y4 y5 y6, LeO (impl_WriteBytes.l0 k y0 y1 y2 y3 y4 y5 y6) (impl_WriteBytes.l0 (k + 1) y0 y1 y2 y3 y4 y5 y6)) ∧ (∀ y0 y1 y2 y3 y4 y5 y6 y7 y8 y9 y10, LeO (impl_WriteBytes.j2 k y0 y1 y2 y3 y4 y5 y6 y7 y8 y9 y10) (impl_WriteBytes.j2 (k + 1) y0 y1 y2 y3 y4 y5 y6 y7 y8 y9 y10))
 | 0 => ⟨fun _ _ _ _ _ _ _ _ r h => by simp [impl_WriteBytes.j0] at h, fun _ _ _ _ _ _ _ r h => by simp [impl_WriteBytes.l0] at h, fun _ _ _ _ _ _ _ _ _ _ _ r h => by simp [impl_WriteBytes.j2] at h⟩
 | k + 1 => by
  obtain ⟨ih0, ih1, ih2⟩ := impl_WriteBytes.mono_l k
  refine ⟨?_, ?_, ?_⟩
  ·intro y0 y1 y2 y3 y4 y5 y6 y7
   unfold impl_WriteBytes.j0
   repeat' first
   | (with_reducible exact ih0 _ _ _ _ _ _ _ _)
   | (with_reducible exact ih1 _ _ _ _ _ _ _)
   | (with_reducible exact ih2 _ _ _ _ _ _ _ _ _ _ _)
   | (with_reducible exact impl_ReadSector.mono _ _ _ _)
   | (with_reducible exact LeO.refl _)
   | (with_reducible exact LeO.none _)
   | (with_reducible refine LeO.ite ?_ ?_)
   | (with_reducible refine LeO.bind ?_ (fun _ => ?_))
   | exact ih0 _ _ _ _ _ _ _ _
   | exact ih1 _ _ _ _ _ _ _
   | exact ih2 _ _ _ _ _ _ _ _ _ _ _
   | exact impl_ReadSector.mono _ _ _ _
   | exact LeO.none _
   | refine LeO.ite ?_ ?_
   | refine LeO.bind ?_ (fun _ => ?_)
  ·intro y0 y1 y2 y3 y4 y5 y6
   unfold impl_WriteBytes.l0
   repeat' first
   | (with_reducible exact ih0 _ _ _ _ _ _ _ _)
   | (with_reducible exact ih1 _ _ _ _ _ _ _)
   | (with_reducible exact ih2 _ _ _ _ _ _ _ _ _ _ _)
   | (with_reducible exact impl_ReadSector.mono _ _ _ _)
   | (with_reducible exact LeO.refl _)
   | (with_reducible exact LeO.none _)
   | (with_reducible refine LeO.ite ?_ ?_)
   | (with_reducible refine LeO.bind ?_ (fun _ => ?_))
   | exact ih0 _ _ _ _ _ _ _ _
   | exact ih1 _ _ _ _ _ _ _
   | exact ih2 _ _ _ _ _ _ _ _ _ _ _
   | exact impl_ReadSector.mono _ _ _ _
   | exact LeO.none _
   | refine LeO.ite ?_ ?_
   | refine LeO.bind ?_ (fun _ => ?_)
  ·intro y0 y1 y2 y3 y4 y5 y6 y7 y8 y9 y10
   unfold impl_WriteBytes.j2
   repeat' first
   | (with_reducible exact ih0 _ _ _ _ _ _ _ _)
   | (with_reducible exact ih1 _ _ _ _ _ _ _)
   | (with_reducible exact ih2 _ _ _ _ _ _ _ _ _ _ _)
   | (with_reducible exact impl_ReadSector.mono _ _ _ _)
   | (with_reducible exact LeO.refl _)
   | (with_reducible exact LeO.none _)
   | (with_reducible refine LeO.ite ?_ ?_)
   | (with_reducible refine LeO.bind ?_ (fun _ => ?_))
   | exact ih0 _ _ _ _ _ _ _ _
   | exact ih1 _ _ _ _ _ _ _
   | exact ih2 _ _ _ _ _ _ _ _ _ _ _
   | exact impl_ReadSector.mono _ _ _ _
   | exact LeO.none _
   | refine LeO.ite ?_ ?_
   | refine LeO.bind ?_ (fun _ => ?_)
theorem impl_WriteBytes.mono : ∀ a0 a1 a2 a3 a4 k, LeO (impl_WriteBytes.f k a0 a1 a2 a3 a4) (impl_WriteBytes.f (k + 1) a0 a1 a2 a3 a4) := by
 intro a0 a1 a2 a3 a4 k
 obtain ⟨ih0, ih1, ih2⟩ := impl_WriteBytes.mono_l k
 unfold impl_WriteBytes.f
 repeat' first
   | (with_reducible exact ih0 _ _ _ _ _ _ _ _)
   | (with_reducible exact ih1 _ _ _ _ _ _ _)
   | (with_reducible exact ih2 _ _ _ _ _ _ _ _ _ _ _)
   | (with_reducible exact impl_ReadSector.mono _ _ _ _)
   | (with_reducible exact LeO.refl _)
   | (with_reducible exact LeO.none _)
   | (with_reducible refine LeO.ite ?_ ?_)
   | (with_reducible refine LeO.bind ?_ (fun _ => ?_))
   | exact ih0 _ _ _ _ _ _ _ _
   | exact ih1 _ _ _ _ _ _ _
   | exact ih2 _ _ _ _ _ _ _ _ _ _ _
   | exact impl_ReadSector.mono _ _ _ _
   | exact LeO.none _
   | refine LeO.ite ?_ ?_
   | refine LeO.bind ?_ (fun _ => ?_)
def impl_WriteBytes.T12 : Bool × List (List Nat × List Nat) := (true, [([], []), ([], []), ([], []), ([], []), ([2, 3], [2, 3]), ([], []), ([], []), ([5, 6], [5, 6]), ([4, 7], [4, 7]), ([], []), ([], []), ([], []), ([10, 11], [10, 11]), ([9, 12], [9, 12]), ([8, 13], [8, 13]), ([0, 1, 14], [0, 1, 14]), ([15], [15]), ([16], [16]), ([16], [16]), ([17, 15, 0, 1, 2, 3, 4, 5, 6, 7, 8, 9, 10, 11, 12, 13, 14, 15, 16, 17], [17]), ([18, 19, 0, 1, 2, 3, 4, 5, 6, 7, 8, 9, 10, 11, 12, 13, 14, 15, 16, 17, 18, 19], [18])])
def impl_WriteBytes.B12 : List Nat := [0, 0, 0, 0, 12, 0, 0, 96, 252, 0, 0, 0, 3072, 7680, 16380, 32767, 65535, 131071, 131071, 262143, 1048575]
theorem impl_WriteBytes.tab12 : rtab .any (opsOf Try.f60 12) = impl_WriteBytes.T12 := by kernel_rfl
theorem impl_WriteBytes.bits12 : waitsOk impl_WriteBytes.T12.2 impl_WriteBytes.B12 = true := by kernel_rfl
set_option maxHeartbeats 8000000 in
set_option maxRecDepth 100000 in
theorem impl_WriteBytes.calls (k : Nat) (A0_0 : Option Addr) (c0_0 : Nat) (l0_0 : List ByteArray) (A0_1 : Option Addr) (c0_1 : Nat) (l0_1 : List (S63)) (a1 : Int) (a2 : Int) (a3 : ByteArray) (r1 : List ByteArray) (r2 : List (S63)) (r3 : Bool) (w : World) (hr0_0 : Kd.C Kd.string w A0_0 l0_0.length l0_0) (hc0_0 : l0_0.length ≤ c0_0) (hr0_1 : Kd.C k63 w A0_1 l0_1.length l0_1) (hc0_1 : l0_1.length ≤ c0_1) (h : impl_WriteBytes.f k l0_0 l0_1 a1 a2 a3 = some (r1, r2, r3)) :
  Calls Try.prog 60 #[.agg #[.slice A0_0 l0_0.length c0_0, .slice A0_1 l0_1.length c0_1], .int .i64 a1, .int .i64 a2, .string a3] w fun e w' => ∃ v0_ v1_ : Value, e = .returned (.tuple #[.agg #[v0_, v1_], .bool r3]) ∧ Kd.R Kd.string 9 w' w.heap.size (fun _ => True) v0_ r1 ∧ Kd.R k63 63 w' w.heap.size (fun _ => True) v1_ r2 ∧ Below w.heap.size w w' := by
 have hu27 := Try.underlying27
 have HR0_0 := Aside0.mk hr0_0
 have HC0_0 := Aside0.mk hc0_0
 clear hr0_0 hc0_0
 have HR0_1 := Aside0.mk hr0_1
 have HC0_1 := Aside0.mk hc0_1
 clear hr0_1 hc0_1
 have HB := ak (Below.refl w.heap.size w)
 have H : ((impl_cloneDisk.f l0_0 l0_1).bind fun bt417 => ((impl_in.f a2 0 3200).bind fun t424 => (if t424 = true then ((impl_in.f a1 0 (wrap64 ((l0_0.length : Int) - 1))).bind fun t425 => (impl_WriteBytes.j0 k a1 a2 a3 (!t425) l0_0 l0_1 bt417.1 bt417.2)) else (impl_WriteBytes.j0 k a1 a2 a3 true l0_0 l0_1 bt417.1 bt417.2)))) = some (r1, r2, r3) := h
 clear h
 replace H := Option.bind_eq_some_iff.mp H
 obtain ⟨⟨t417, t420⟩, A50, H⟩ := H
 replace H : ((impl_in.f a2 0 3200).bind fun t424 => (if t424 = true then ((impl_in.f a1 0 (wrap64 ((l0_0.length : Int) - 1))).bind fun t425 => (impl_WriteBytes.j0 k a1 a2 a3 (!t425) l0_0 l0_1 t417 t420)) else (impl_WriteBytes.j0 k a1 a2 a3 true l0_0 l0_1 t417 t420))) = some (r1, r2, r3) := H
 have A5 := Aside0.mk A50
 clear A50
 have HC6 := Aside0.mk H
 clear H
 go_enter Try.func60, Try.ntmps60
 go_upto_region 2 with (first | ((with_reducible refine gate_dst (N := 4) rfl ?_); (try (refine gate_guard (by rfl) ?_; dsimp only)); refine bx 4 #[.slice A0_0 l0_0.length c0_0, .slice A0_1 l0_1.length c0_1] 27 ?_; intro gb415 hg w7 hbox hb; replace BK415 := ak (hbox); replace GW415 := ak (bz hg (lG HB)); replace GE415 := ak (bz hg (lG HB)); replace HB := lB HB hb; clear hb hbox hg) | ((with_reducible refine gate_dst (N := 8) rfl ?_); (try (refine gate_guard (by rfl) ?_; dsimp only)); refine bx 8 #[.slice none 0 0, .slice none 0 0] 27 ?_; intro gb416 hg w8 hbox hb; replace BK416 := ak (hbox); replace GW416 := ak (bz hg (lT HB (gC GE415 gN))); replace GE416 := ak (bz hg (lT HB (gC GE415 gN))); replace HB := ak (below_step (lT HB (gC GE415 gN)) hb); replace NB415_416 := ak (nl hg (bG BK415)); replace NB416_415 := ak (ng hg (bG BK415)); replace BK415 := bB BK415 hb; clear hb hbox hg; have hnb9 := NB415_416.out; have hnc9 := NB416_415.out; obtain ⟨hcz10_0, hcz10_1, hfz10_0, hfz10_1⟩ := bC2 BK415) | ((with_reducible refine gate_callee (f := 48) rfl ?_); refine gl (some 18) Try.func48 #[.agg #[.slice A0_0 l0_0.length c0_0, .slice A0_1 l0_1.length c0_1]] ?_; (with_reducible refine (impl_cloneDisk.calls _ _ l0_0 _ _ l0_1 t417 t420 _ ?side1 ?side2 ?side3 ?side4 A5.out).mono ?_); (case side1 => exact cG (Kd.C_below HR0_0.out HB.out)); (case side2 => exact HC0_0.out); (case side3 => exact cG (Kd.C_below HR0_1.out HB.out)); (case side4 => exact HC0_1.out); rintro e w11 ⟨v418, v421, rfl, ho0, ho1, hb⟩; refine ⟨_, rfl, ?_⟩; replace HO419 := ak (Kd.R_lower ho0 (below_size (lT HB (gC GE415 (gC GE416 gN))))); replace HO422 := ak (Kd.R_lower ho1 (below_size (lT HB (gC GE415 (gC GE416 gN))))); replace BK415 := bB BK415 hb; replace BK416 := bB BK416 hb; replace HB := ak (below_step (lT HB (gC GE415 (gC GE416 gN))) hb); (try clear hb); (try clear hk); (try clear ho0); (try clear ho1)) | ((with_reducible refine gate_dst (N := 10) rfl ?_); (try (refine gate_guard (by rfl) ?_; dsimp only)); refine bx 10 #[.slice none 0 0, .slice none 0 0] 27 ?_; intro gb423 hg w12 hbox hb; replace HO419 := rB HO419 hb; replace HO422 := rB HO422 hb; replace BK423 := ak (hbox); replace GW423 := ak (bz hg (lT HB (gC GE415 (gC GE416 gN)))); replace GE423 := ak (bz hg (lT HB (gC GE415 (gC GE416 gN)))); replace HB := ak (below_step (lT HB (gC GE415 (gC GE416 gN))) hb); replace NB415_423 := ak (nl hg (bG BK415)); replace NB423_415 := ak (ng hg (bG BK415)); replace BK415 := bB BK415 hb; replace NB416_423 := ak (nl hg (bG BK416)); replace NB423_416 := ak (ng hg (bG BK416)); replace BK416 := bB BK416 hb; clear hb hbox hg; obtain ⟨Ao13, co13, eo13⟩ := Kd.R_slice HO419.out; subst eo13; have hnb14 := NB423_415.out; have hnc14 := NB415_423.out; have hnb15 := NB423_416.out; have hnc15 := NB416_423.out; obtain ⟨hcz16_0, hcz16_1, hfz16_0, hfz16_1⟩ := bC2 BK423; obtain ⟨Ao17, co17, eo17⟩ := Kd.R_slice HO422.out; subst eo17))
 (try simp only [Act.put, List.setIfInBounds_toArray, List.set_cons_zero, List.set_cons_succ])
 go_cut [30] (fun v30 wc => ∃ (kq : Nat) (x30_5 : Bool), v30 = .bool x30_5 ∧ Aside0 (impl_WriteBytes.j0 kq a1 a2 a3 x30_5 l0_0 l0_1 t417 t420 = some (r1, r2, r3)) ∧ Aside0 (kq ≤ k) ∧ Aside0 (Kd.R Kd.string 9 wc w.heap.size (fun _ => True) (.slice Ao13 t417.length co13) t417) ∧ Aside0 (Kd.R k63 63 wc w.heap.size (fun _ => True) (.slice Ao17 t420.length co17) t420) ∧ Aside0 (wc.heap[gb415]? = some (.cells #[(.slice A0_0 l0_0.length c0_0), (.slice A0_1 l0_1.length c0_1)] 27 (0, 0))) ∧ Aside0 (wc.heap[gb416]? = some (.cells #[(.slice none 0 0), (.slice none 0 0)] 27 (0, 0))) ∧ Aside0 (wc.heap[gb423]? = some (.cells #[(.slice Ao13 t417.length co13), (.slice Ao17 t420.length co17)] 27 (0, 0))) ∧ Aside0 (Below w.heap.size w wc))
 case first =>
  have H := HC6.out
  clear HC6
  replace H := Option.bind_eq_some_iff.mp H
  obtain ⟨t424, A180, H⟩ := H
  replace H : (if t424 = true then ((impl_in.f a1 0 (wrap64 ((l0_0.length : Int) - 1))).bind fun t425 => (impl_WriteBytes.j0 k a1 a2 a3 (!t425) l0_0 l0_1 t417 t420)) else (impl_WriteBytes.j0 k a1 a2 a3 true l0_0 l0_1 t417 t420)) = some (r1, r2, r3) := H
  have A18 := Aside0.mk A180
  clear A180
  by_cases c19 : t424 = true
  ·subst c19
   have H1 : ((impl_in.f a1 0 (wrap64 ((l0_0.length : Int) - 1))).bind fun t425 => (impl_WriteBytes.j0 k a1 a2 a3 (!t425) l0_0 l0_1 t417 t420)) = some (r1, r2, r3) := by rw [if_pos rfl] at H; exact H
   clear H
   have H := H1
   clear H1
   replace H := Option.bind_eq_some_iff.mp H
   obtain ⟨t425, A200, H⟩ := H
   replace H : (impl_WriteBytes.j0 k a1 a2 a3 (!t425) l0_0 l0_1 t417 t420) = some (r1, r2, r3) := H
   have A20 := Aside0.mk A200
   clear A200
   have H' := Aside0.mk H
   clear H
   go_wp2_with (first | ((with_reducible refine gate_callee (f := 50) rfl ?_); refine gl (some 20) Try.func50 #[.int .i64 a2, .int .i64 0, .int .i64 3200] ?_; (with_reducible refine (impl_in.calls a2 0 3200 true _ A18.out).mono ?_); rintro e w' ⟨rfl, ⟨nd, rfl⟩⟩; refine ⟨_, rfl, ?_⟩; have hnb21 := NB415_416.out; have hnc21 := NB416_415.out; have hnb22 := NB415_423.out; have hnc22 := NB423_415.out; obtain ⟨hcz23_0, hcz23_1, hfz23_0, hfz23_1⟩ := bC2 BK415) | (go_at_call 50; (with_reducible refine (impl_in.calls a1 0 (wrap64 ((l0_0.length : Int) - 1)) t425 _ A20.out).mono ?_); rintro e w' ⟨rfl, ⟨nd, rfl⟩⟩))
   go_meet
   case rel => exact ⟨_, (!t425), (by first | rfl | (simp; done) | (simp [*]; done)), H', ⟨by first | omega | exact Nat.le_refl _⟩, ⟨by exact Kd.R_mono (rT HO419 BK423 (by decide)) (fun _ hk => trivial)⟩, ⟨by exact Kd.R_mono (rT HO422 BK423 (by decide)) (fun _ hk => trivial)⟩, ⟨by (with_reducible repeat (first | refine blk_drewN ?_ _ | refine blk_drew ?_ | refine blk_alloc ?_ _)); refine blk_far ?_ NB415_423.out _; (with_reducible repeat (first | refine blk_drewN ?_ _ | refine blk_drew ?_ | refine blk_alloc ?_ _)); refine blk_far ?_ NB415_423.out _; (with_reducible repeat (first | refine blk_drewN ?_ _ | refine blk_drew ?_ | refine blk_alloc ?_ _)); exact BK415.out⟩, ⟨by (with_reducible repeat (first | refine blk_drewN ?_ _ | refine blk_drew ?_ | refine blk_alloc ?_ _)); refine blk_far ?_ NB416_423.out _; (with_reducible repeat (first | refine blk_drewN ?_ _ | refine blk_drew ?_ | refine blk_alloc ?_ _)); refine blk_far ?_ NB416_423.out _; (with_reducible repeat (first | refine blk_drewN ?_ _ | refine blk_drew ?_ | refine blk_alloc ?_ _)); exact BK416.out⟩, ⟨bW BK423⟩, ⟨by exact lT HB (gC GE415 (gC GE416 (gC GE423 gN)))⟩⟩
  ·replace c19 := Bool.eq_false_iff.mpr c19
   subst c19
   have H1 : (impl_WriteBytes.j0 k a1 a2 a3 true l0_0 l0_1 t417 t420) = some (r1, r2, r3) := by rw [if_neg (show ¬ (false = true) by decide)] at H; exact H
   clear H
   have H := H1
   clear H1
   have H' := Aside0.mk H
   clear H
   go_wp2_with (first | ((with_reducible refine gate_callee (f := 50) rfl ?_); refine gl (some 20) Try.func50 #[.int .i64 a2, .int .i64 0, .int .i64 3200] ?_; (with_reducible refine (impl_in.calls a2 0 3200 false _ A18.out).mono ?_); rintro e w' ⟨rfl, ⟨nd, rfl⟩⟩; refine ⟨_, rfl, ?_⟩))
   go_meet
   case rel => exact ⟨_, (true), (by first | rfl | (simp; done) | (simp [*]; done)), H', ⟨by first | omega | exact Nat.le_refl _⟩, ⟨by exact Kd.R_mono (rT HO419 BK423 (by decide)) (fun _ hk => trivial)⟩, ⟨by exact Kd.R_mono (rT HO422 BK423 (by decide)) (fun _ hk => trivial)⟩, ⟨by (with_reducible repeat (first | refine blk_drewN ?_ _ | refine blk_drew ?_ | refine blk_alloc ?_ _)); refine blk_far ?_ NB415_423.out _; (with_reducible repeat (first | refine blk_drewN ?_ _ | refine blk_drew ?_ | refine blk_alloc ?_ _)); refine blk_far ?_ NB415_423.out _; (with_reducible repeat (first | refine blk_drewN ?_ _ | refine blk_drew ?_ | refine blk_alloc ?_ _)); exact BK415.out⟩, ⟨by (with_reducible repeat (first | refine blk_drewN ?_ _ | refine blk_drew ?_ | refine blk_alloc ?_ _)); refine blk_far ?_ NB416_423.out _; (with_reducible repeat (first | refine blk_drewN ?_ _ | refine blk_drew ?_ | refine blk_alloc ?_ _)); refine blk_far ?_ NB416_423.out _; (with_reducible repeat (first | refine blk_drewN ?_ _ | refine blk_drew ?_ | refine blk_alloc ?_ _)); exact BK416.out⟩, ⟨bW BK423⟩, ⟨by exact lT HB (gC GE415 (gC GE416 (gC GE423 gN)))⟩⟩
 case rest =>
  clear HC6
  try clear c1
  try clear c2
  try clear p2
  try clear c4
  try clear c5
  try clear c6
  try clear p6
  try clear c9
  try clear c14
  try clear c15
  try clear c19
  try clear c21
  try clear c22
  try clear hcz10_0
  try clear hcz10_1
  try clear hcz16_0
  try clear hcz16_1
  try clear hcz23_0
  try clear hcz23_1
  try clear hfz10_0
  try clear hfz10_1
  try clear hfz16_0
  try clear hfz16_1
  try clear hfz23_0
  try clear hfz23_1
  obtain ⟨kq, x30_5, rfl, HA, HJ5, HO_424000, HO_424001, BK415, BK416, BK423, HB⟩ := hcut
  cases kq with
  | zero => exact absurd HA.out (by simp [impl_WriteBytes.j0])
  | succ kj5 =>
   have H := HA.out
   clear HA
   simp only [impl_WriteBytes.j0] at H
   by_cases c24 : x30_5 = true
   ·subst c24
    have H1 : (some (t417, t420, false)) = some (r1, r2, r3) := by rw [if_pos rfl] at H; exact H
    clear H
    have H := H1
    clear H1
    simp only [Option.some.injEq, Prod.mk.injEq] at H
    obtain ⟨rfl, rfl, rfl⟩ := H
    have hnb25 := NB423_415.out
    have hnc25 := NB415_423.out
    have hnb26 := NB423_416.out
    have hnc26 := NB416_423.out
    have hcz27_0 : wc.cell? ⟨gb423, 0, none⟩ = some (.slice Ao13 t417.length co13) := bc BK423 0
    have hcz27_1 : wc.cell? ⟨gb423, 1, none⟩ = some (.slice Ao17 t420.length co17) := bc BK423 1
    have hfz27_0 := blk_frozen BK423.out 0
    have hfz27_1 := blk_frozen BK423.out 1
    have hnb28 := NB416_415.out
    have hnc28 := NB415_416.out
    have hcz29_0 : wc.cell? ⟨gb416, 0, none⟩ = some (.slice none 0 0) := bc BK416 0
    have hcz29_1 : wc.cell? ⟨gb416, 1, none⟩ = some (.slice none 0 0) := bc BK416 1
    have hfz29_0 := blk_frozen BK416.out 0
    have hfz29_1 := blk_frozen BK416.out 1
    go_wp2
    refine bodyPost_ret (results_ct rfl _ _ gb416 27 #[.slice Ao13 t417.length co13, .slice Ao17 t420.length co17] (0, 0) _ rfl (bW BK416) Try.underlying27 rfl (by kernel_rfl)) rfl ?_
    exact ⟨_, _, ew, by exact Kd.R_mono (rT HO_424000 BK416 (by decide)) (fun _ hk => trivial), by exact Kd.R_mono (rT HO_424001 BK416 (by decide)) (fun _ hk => trivial), by exact lT HB (gC GE415 (gC GE416 (gC GE423 gN)))⟩
   ·replace c24 := Bool.eq_false_iff.mpr c24
    subst c24
    have H1 : ((impl_cloneDisk.f l0_0 l0_1).bind fun bt426 => (impl_WriteBytes.l0 kj5 a1 a2 a3 t417 t420 bt426.1 bt426.2)) = some (r1, r2, r3) := by rw [if_neg (show ¬ (false = true) by decide)] at H; exact H
    clear H
    have H := H1
    clear H1
    replace H := Option.bind_eq_some_iff.mp H
    obtain ⟨⟨t426, t429⟩, A300, H⟩ := H
    replace H : (impl_WriteBytes.l0 kj5 a1 a2 a3 t417 t420 t426 t429) = some (r1, r2, r3) := H
    have A30 := Aside0.mk A300
    clear A300
    have H' := Aside0.mk H
    clear H
    have hnb31 := NB415_416.out
    have hnc31 := NB416_415.out
    have hnb32 := NB415_423.out
    have hnc32 := NB423_415.out
    have hcz33_0 : wc.cell? ⟨gb415, 0, none⟩ = some (.slice A0_0 l0_0.length c0_0) := bc BK415 0
    have hcz33_1 : wc.cell? ⟨gb415, 1, none⟩ = some (.slice A0_1 l0_1.length c0_1) := bc BK415 1
    have hfz33_0 := blk_frozen BK415.out 0
    have hfz33_1 := blk_frozen BK415.out 1
    go_wp2_with (first | ((with_reducible refine gate_callee (f := 48) rfl ?_); refine gl (some 33) Try.func48 #[.agg #[.slice A0_0 l0_0.length c0_0, .slice A0_1 l0_1.length c0_1]] ?_; (with_reducible refine (impl_cloneDisk.calls _ _ l0_0 _ _ l0_1 t426 t429 _ ?side1 ?side2 ?side3 ?side4 A30.out).mono ?_); (case side1 => exact cG (Kd.C_below HR0_0.out HB.out)); (case side2 => exact HC0_0.out); (case side3 => exact cG (Kd.C_below HR0_1.out HB.out)); (case side4 => exact HC0_1.out); rintro e w34 ⟨v427, v430, rfl, ho0, ho1, hb⟩; refine ⟨_, rfl, ?_⟩; replace HO428 := ak (Kd.R_lower (Kd.R_new' ho0 (Kd.R_lt (rG HO_424000))) (below_size (lT HB (gC GE415 (gC GE416 (gC GE423 gN)))))); replace HO_424000 := ak (Kd.R_elder' (rG HO_424000) (Kd.R_base ho0) hb); replace HO431 := ak (Kd.R_lower (Kd.R_new' ho1 (Kd.R_lt (rG HO_424001))) (below_size (lT HB (gC GE415 (gC GE416 (gC GE423 gN)))))); replace HO_424001 := ak (Kd.R_elder' (rG HO_424001) (Kd.R_base ho1) hb); replace BK415 := bB BK415 hb; replace BK416 := bB BK416 hb; replace BK423 := bB BK423 hb; replace HB := ak (below_step (lT HB (gC GE415 (gC GE416 (gC GE423 gN)))) hb); (try clear hb); (try clear hk); (try clear ho0); (try clear ho1)) | ((with_reducible refine gate_dst (N := 11) rfl ?_); (try (refine gate_guard (by rfl) ?_; dsimp only)); refine bx 11 #[.slice none 0 0, .slice none 0 0] 27 ?_; intro gb432 hg w35 hbox hb; replace HO_424000 := rB HO_424000 hb; replace HO_424001 := rB HO_424001 hb; replace HO428 := rB HO428 hb; replace HO431 := rB HO431 hb; replace BK432 := ak (hbox); replace GW432 := ak (bz hg (lT HB (gC GE415 (gC GE416 (gC GE423 gN))))); replace GE432 := ak (bz hg (lT HB (gC GE415 (gC GE416 (gC GE423 gN))))); replace HB := ak (below_step (lT HB (gC GE415 (gC GE416 (gC GE423 gN)))) hb); replace NB415_432 := ak (nl hg (bG BK415)); replace NB432_415 := ak (ng hg (bG BK415)); replace BK415 := bB BK415 hb; replace NB416_432 := ak (nl hg (bG BK416)); replace NB432_416 := ak (ng hg (bG BK416)); replace BK416 := bB BK416 hb; replace NB423_432 := ak (nl hg (bG BK423)); replace NB432_423 := ak (ng hg (bG BK423)); replace BK423 := bB BK423 hb; clear hb hbox hg; obtain ⟨Ao36, co36, eo36⟩ := Kd.R_slice HO428.out; subst eo36; have hnb37 := NB432_415.out; have hnc37 := NB415_432.out; have hnb38 := NB432_416.out; have hnc38 := NB416_432.out; have hnb39 := NB432_423.out; have hnc39 := NB423_432.out; obtain ⟨hcz40_0, hcz40_1, hfz40_0, hfz40_1⟩ := bC2 BK432; obtain ⟨Ao41, co41, eo41⟩ := Kd.R_slice HO431.out; subst eo41))
    go_loopg [2, 3] kj5 (fun kq v2 v3 w' => ∃ (x2_2 : Int) (x3_2 : ByteArray) (x433000_2 : List ByteArray) (x433001_2 : List (S63)) (u433000 : Value) (u433001 : Value), v2 = .int .i64 x2_2 ∧ v3 = .string x3_2 ∧ Aside0 (impl_WriteBytes.l0 kq a1 x2_2 x3_2 t417 t420 x433000_2 x433001_2 = some (r1, r2, r3)) ∧ Aside0 (kq ≤ kj5) ∧ Aside0 (Kd.R Kd.string 9 w' w.heap.size (fun k_ => some k_ ≠ (u433000 : Value).ownBlock) (.slice Ao13 t417.length co13) t417) ∧ Aside0 (Kd.R k63 63 w' w.heap.size (fun k_ => some k_ ≠ (u433001 : Value).ownBlock) (.slice Ao17 t420.length co17) t420) ∧ Aside0 (Kd.R Kd.string 9 w' w.heap.size (fun k_ => some k_ ≠ ((.slice Ao13 t417.length co13) : Value).ownBlock) u433000 x433000_2) ∧ Aside0 (Kd.R k63 63 w' w.heap.size (fun k_ => some k_ ≠ ((.slice Ao17 t420.length co17) : Value).ownBlock) u433001 x433001_2) ∧ Aside0 (w'.heap[gb415]? = some (.cells #[(.slice A0_0 l0_0.length c0_0), (.slice A0_1 l0_1.length c0_1)] 27 (0, 0))) ∧ Aside0 (w'.heap[gb416]? = some (.cells #[(.slice none 0 0), (.slice none 0 0)] 27 (0, 0))) ∧ Aside0 (w'.heap[gb423]? = some (.cells #[(.slice Ao13 t417.length co13), (.slice Ao17 t420.length co17)] 27 (0, 0))) ∧ Aside0 (w'.heap[gb432]? = some (.cells #[u433000, u433001] 27 (0, 0))) ∧ Aside0 (Below w.heap.size w w'))
    case atStart => exact ⟨(a2), (a3), (t426), (t429), (.slice Ao36 t426.length co36), (.slice Ao41 t429.length co41), (by first | rfl | (simp; done) | (simp [*]; done)), (by first | rfl | (simp; done) | (simp [*]; done)), H', ⟨Nat.le_refl _⟩, ⟨by (with_reducible repeat (first | apply Kd.R_alloc | apply Kd.R_drewN | apply Kd.R_drew)); exact Kd.R_mono (Kd.R_far (p := ⟨gb432, 1, none⟩) (Kd.R_far (p := ⟨gb432, 0, none⟩) (Kd.R_types HO_424000.out BK432.out (by decide)) (fun _ hk => hk.2) (.slice Ao36 t426.length co36)) (fun _ hk => hk.2) (.slice Ao41 t429.length co41)) (fun _ hk => hk.1.2)⟩, ⟨by (with_reducible repeat (first | apply Kd.R_alloc | apply Kd.R_drewN | apply Kd.R_drew)); exact Kd.R_mono (Kd.R_far (p := ⟨gb432, 1, none⟩) (Kd.R_far (p := ⟨gb432, 0, none⟩) (Kd.R_types HO_424001.out BK432.out (by decide)) (fun _ hk => hk.2) (.slice Ao36 t426.length co36)) (fun _ hk => hk.2) (.slice Ao41 t429.length co41)) (fun _ hk => hk.1.2)⟩, ⟨by (with_reducible repeat (first | apply Kd.R_alloc | apply Kd.R_drewN | apply Kd.R_drew)); exact Kd.R_mono (Kd.R_far (p := ⟨gb432, 1, none⟩) (Kd.R_far (p := ⟨gb432, 0, none⟩) (Kd.R_types HO428.out BK432.out (by decide)) (fun _ hk => hk.2) (.slice Ao36 t426.length co36)) (fun _ hk => hk.2) (.slice Ao41 t429.length co41)) (fun _ hk => hk.1.2)⟩, ⟨by (with_reducible repeat (first | apply Kd.R_alloc | apply Kd.R_drewN | apply Kd.R_drew)); exact Kd.R_mono (Kd.R_far (p := ⟨gb432, 1, none⟩) (Kd.R_far (p := ⟨gb432, 0, none⟩) (Kd.R_types HO431.out BK432.out (by decide)) (fun _ hk => hk.2) (.slice Ao36 t426.length co36)) (fun _ hk => hk.2) (.slice Ao41 t429.length co41)) (fun _ hk => hk.1.2)⟩, ⟨by (with_reducible repeat (first | refine blk_drewN ?_ _ | refine blk_drew ?_ | refine blk_alloc ?_ _)); refine blk_far ?_ NB415_432.out _; (with_reducible repeat (first | refine blk_drewN ?_ _ | refine blk_drew ?_ | refine blk_alloc ?_ _)); refine blk_far ?_ NB415_432.out _; (with_reducible repeat (first | refine blk_drewN ?_ _ | refine blk_drew ?_ | refine blk_alloc ?_ _)); exact BK415.out⟩, ⟨by (with_reducible repeat (first | refine blk_drewN ?_ _ | refine blk_drew ?_ | refine blk_alloc ?_ _)); refine blk_far ?_ NB416_432.out _; (with_reducible repeat (first | refine blk_drewN ?_ _ | refine blk_drew ?_ | refine blk_alloc ?_ _)); refine blk_far ?_ NB416_432.out _; (with_reducible repeat (first | refine blk_drewN ?_ _ | refine blk_drew ?_ | refine blk_alloc ?_ _)); exact BK416.out⟩, ⟨by (with_reducible repeat (first | refine blk_drewN ?_ _ | refine blk_drew ?_ | refine blk_alloc ?_ _)); refine blk_far ?_ NB423_432.out _; (with_reducible repeat (first | refine blk_drewN ?_ _ | refine blk_drew ?_ | refine blk_alloc ?_ _)); refine blk_far ?_ NB423_432.out _; (with_reducible repeat (first | refine blk_drewN ?_ _ | refine blk_drew ?_ | refine blk_alloc ?_ _)); exact BK423.out⟩, ⟨bW BK432⟩, ⟨by exact lT HB (gC GE415 (gC GE416 (gC GE423 (gC GE432 gN))))⟩⟩
    case round =>
     clear H'
     try clear c1
     try clear c2
     try clear p2
     try clear c3
     try clear c4
     try clear c5
     try clear c6
     try clear p6
     try clear c9
     try clear c14
     try clear c15
     try clear c19
     try clear c21
     try clear c22
     try clear c24
     try clear c25
     try clear c26
     try clear c28
     try clear c31
     try clear c32
     try clear c37
     try clear c38
     try clear c39
     try clear hcz10_0
     try clear hcz10_1
     try clear hcz16_0
     try clear hcz16_1
     try clear hcz23_0
     try clear hcz23_1
     try clear hcz27_0
     try clear hcz27_1
     try clear hcz29_0
     try clear hcz29_1
     try clear hcz33_0
     try clear hcz33_1
     try clear hcz40_0
     try clear hcz40_1
     try clear hfz10_0
     try clear hfz10_1
     try clear hfz16_0
     try clear hfz16_1
     try clear hfz23_0
     try clear hfz23_1
     try clear hfz27_0
     try clear hfz27_1
     try clear hfz29_0
     try clear hfz29_1
     try clear hfz33_0
     try clear hfz33_1
     try clear hfz40_0
     try clear hfz40_1
     try clear p2
     try clear p6
     obtain ⟨x2_2, x3_2, x433000_2, x433001_2, u433000, u433001, rfl, rfl, HA, HK2, HO_424000, HO_424001, HO_433000, HO_433001, BK415, BK416, BK423, BK432, HB⟩ := hrel
     cases gk with
     | zero => exact absurd HA.out (by simp [impl_WriteBytes.l0])
     | succ k2 =>
      have H := HA.out
      clear HA
      simp only [impl_WriteBytes.l0] at H
      by_cases c42 : x3_2.toList = ([] : List UInt8)
      ·rw [if_pos c42] at H
       have c42b0 : (x3_2.toList == ([] : List UInt8)) = true := beq_iff_eq.mpr c42
       have c42b1 : (x3_2.toList != ([] : List UInt8)) = false := bne_eq_false_iff_eq.mpr c42
       clear c42
       simp only [Option.some.injEq, Prod.mk.injEq] at H
       obtain ⟨rfl, rfl, rfl⟩ := H
       have hnb43 := NB432_415.out
       have hnc43 := NB415_432.out
       have hnb44 := NB432_416.out
       have hnc44 := NB416_432.out
       have hnb45 := NB432_423.out
       have hnc45 := NB423_432.out
       have hcz46_0 : wr.cell? ⟨gb432, 0, none⟩ = some (u433000) := bc BK432 0
       have hcz46_1 : wr.cell? ⟨gb432, 1, none⟩ = some (u433001) := bc BK432 1
       have hfz46_0 := blk_frozen BK432.out 0
       have hfz46_1 := blk_frozen BK432.out 1
       obtain ⟨Ao47, co47, eo47⟩ := Kd.R_slice HO_433000.out
       subst eo47
       have hnb48 := NB416_415.out
       have hnc48 := NB415_416.out
       have hnb49 := NB416_423.out
       have hnc49 := NB423_416.out
       have hcz50_0 : wr.cell? ⟨gb416, 0, none⟩ = some (.slice none 0 0) := bc BK416 0
       have hcz50_1 : wr.cell? ⟨gb416, 1, none⟩ = some (.slice none 0 0) := bc BK416 1
       have hfz50_0 := blk_frozen BK416.out 0
       have hfz50_1 := blk_frozen BK416.out 1
       obtain ⟨Ao51, co51, eo51⟩ := Kd.R_slice HO_433001.out
       subst eo51
       go_wp2
       refine bodyPost_ret (results_ct rfl _ _ gb416 27 #[.slice Ao47 x433000_2.length co47, .slice Ao51 x433001_2.length co51] (0, 0) _ rfl (bW BK416) Try.underlying27 rfl (by kernel_rfl)) rfl ?_
       exact ⟨_, _, ew, by exact Kd.R_mono (rT HO_433000 BK416 (by decide)) (fun _ hk => trivial), by exact Kd.R_mono (rT HO_433001 BK416 (by decide)) (fun _ hk => trivial), by exact lT HB (gC GE415 (gC GE416 (gC GE423 (gC GE432 gN))))⟩
      ·rw [if_neg c42] at H
       have c42b0 : (x3_2.toList == ([] : List UInt8)) = false := beq_eq_false_iff_ne.mpr c42
       have c42b1 : (x3_2.toList != ([] : List UInt8)) = true := bne_iff_ne.mpr c42
       replace H := Option.bind_eq_some_iff.mp H
       obtain ⟨⟨t433, t434⟩, A520, H⟩ := H
       replace H : (if t434 = true then (impl_WriteBytes.j2 k2 a1 x2_2 x3_2 (wrap64 (a1 + (wrap64 (Int.tdiv x2_2 32)))) (Int.tmod x2_2 32) t433 ((t433.size : Int) != 32) t417 t420 x433000_2 x433001_2) else (impl_WriteBytes.j2 k2 a1 x2_2 x3_2 (wrap64 (a1 + (wrap64 (Int.tdiv x2_2 32)))) (Int.tmod x2_2 32) t433 true t417 t420 x433000_2 x433001_2)) = some (r1, r2, r3) := H
       have A52 := Aside0.mk A520
       clear A520
       have HC53 := Aside0.mk H
       clear H
       have hnb54 := NB432_415.out
       have hnc54 := NB415_432.out
       have hnb55 := NB432_416.out
       have hnc55 := NB416_432.out
       have hnb56 := NB432_423.out
       have hnc56 := NB423_432.out
       have hcz57_0 : wr.cell? ⟨gb432, 0, none⟩ = some (u433000) := bc BK432 0
       have hcz57_1 : wr.cell? ⟨gb432, 1, none⟩ = some (u433001) := bc BK432 1
       have hfz57_0 := blk_frozen BK432.out 0
       have hfz57_1 := blk_frozen BK432.out 1
       obtain ⟨Ao58, co58, eo58⟩ := Kd.R_slice HO_433000.out
       subst eo58
       obtain ⟨Ao59, co59, eo59⟩ := Kd.R_slice HO_433001.out
       subst eo59
       go_upto_region 9 with (first | ((with_reducible refine gate_callee (f := 15) rfl ?_); refine gl (some 45) Try.func15 #[.agg #[.slice Ao58 x433000_2.length co58, .slice Ao59 x433001_2.length co59], .int .i64 (wrap64 (a1 + (wrap64 (Int.tdiv x2_2 32))))] ?_; (with_reducible refine (impl_ReadSector.calls k2 _ _ x433000_2 _ _ x433001_2 (wrap64 (a1 + (wrap64 (Int.tdiv x2_2 32)))) t433 t434 _ ?side1 ?side2 ?side3 ?side4 A52.out).mono ?_); (case side1 => exact cG (Kd.R_reads' HO_433000.out).2.2); (case side2 => exact (Kd.R_reads' HO_433000.out).2.1); (case side3 => exact cG (Kd.R_reads' HO_433001.out).2.2); (case side4 => exact (Kd.R_reads' HO_433001.out).2.1); rintro e w60 ⟨rfl, hb⟩; refine ⟨_, rfl, ?_⟩; replace HO_424000 := rB HO_424000 hb; replace HO_424001 := rB HO_424001 hb; replace HO_433000 := rB HO_433000 hb; replace HO_433001 := rB HO_433001 hb; replace BK415 := bB BK415 hb; replace BK416 := bB BK416 hb; replace BK423 := bB BK423 hb; replace BK432 := bB BK432 hb; replace HB := ak (below_step (lT HB (gC GE415 (gC GE416 (gC GE423 (gC GE432 gN))))) hb); (try clear hb); (try clear hk)))
       (try simp only [Act.put, List.setIfInBounds_toArray, List.set_cons_zero, List.set_cons_succ])
       go_cut [54] (fun v54 wc => ∃ (kq : Nat) (x54_52 : Bool), v54 = .bool x54_52 ∧ Aside0 (impl_WriteBytes.j2 kq a1 x2_2 x3_2 (wrap64 (a1 + (wrap64 (Int.tdiv x2_2 32)))) (Int.tmod x2_2 32) t433 x54_52 t417 t420 x433000_2 x433001_2 = some (r1, r2, r3)) ∧ Aside0 (kq ≤ k2) ∧ Aside0 (Kd.R Kd.string 9 wc w.heap.size (fun k_ => some k_ ≠ ((.slice Ao58 x433000_2.length co58) : Value).ownBlock) (.slice Ao13 t417.length co13) t417) ∧ Aside0 (Kd.R k63 63 wc w.heap.size (fun k_ => some k_ ≠ ((.slice Ao59 x433001_2.length co59) : Value).ownBlock) (.slice Ao17 t420.length co17) t420) ∧ Aside0 (Kd.R Kd.string 9 wc w.heap.size (fun k_ => some k_ ≠ ((.slice Ao13 t417.length co13) : Value).ownBlock) (.slice Ao58 x433000_2.length co58) x433000_2) ∧ Aside0 (Kd.R k63 63 wc w.heap.size (fun k_ => some k_ ≠ ((.slice Ao17 t420.length co17) : Value).ownBlock) (.slice Ao59 x433001_2.length co59) x433001_2) ∧ Aside0 (wc.heap[gb415]? = some (.cells #[(.slice A0_0 l0_0.length c0_0), (.slice A0_1 l0_1.length c0_1)] 27 (0, 0))) ∧ Aside0 (wc.heap[gb416]? = some (.cells #[(.slice none 0 0), (.slice none 0 0)] 27 (0, 0))) ∧ Aside0 (wc.heap[gb423]? = some (.cells #[(.slice Ao13 t417.length co13), (.slice Ao17 t420.length co17)] 27 (0, 0))) ∧ Aside0 (wc.heap[gb432]? = some (.cells #[(.slice Ao58 x433000_2.length co58), (.slice Ao59 x433001_2.length co59)] 27 (0, 0))) ∧ Aside0 (Below w.heap.size w wc))
       case first =>
        have H := HC53.out
        clear HC53
        by_cases c61 : t434 = true
        ·subst c61
         have H1 : (impl_WriteBytes.j2 k2 a1 x2_2 x3_2 (wrap64 (a1 + (wrap64 (Int.tdiv x2_2 32)))) (Int.tmod x2_2 32) t433 ((t433.size : Int) != 32) t417 t420 x433000_2 x433001_2) = some (r1, r2, r3) := by rw [if_pos rfl] at H; exact H
         clear H
         have H := H1
         clear H1
         have H' := Aside0.mk H
         clear H
         go_wp2
         go_meet
         case rel => exact ⟨_, (((t433.size : Int) != 32)), (by first | rfl | (simp; done) | (simp [*]; done)), H', ⟨by have := HJ5.out; have := HK2.out; first | omega | exact Nat.le_refl _⟩, ⟨by (with_reducible repeat (first | apply Kd.R_alloc | apply Kd.R_drewN | apply Kd.R_drew)); exact HO_424000.out⟩, ⟨by (with_reducible repeat (first | apply Kd.R_alloc | apply Kd.R_drewN | apply Kd.R_drew)); exact HO_424001.out⟩, ⟨by (with_reducible repeat (first | apply Kd.R_alloc | apply Kd.R_drewN | apply Kd.R_drew)); exact HO_433000.out⟩, ⟨by (with_reducible repeat (first | apply Kd.R_alloc | apply Kd.R_drewN | apply Kd.R_drew)); exact HO_433001.out⟩, ⟨bG BK415⟩, ⟨bG BK416⟩, ⟨bG BK423⟩, ⟨bG BK432⟩, ⟨by exact lT HB (gC GE415 (gC GE416 (gC GE423 (gC GE432 gN))))⟩⟩
        ·replace c61 := Bool.eq_false_iff.mpr c61
         subst c61
         have H1 : (impl_WriteBytes.j2 k2 a1 x2_2 x3_2 (wrap64 (a1 + (wrap64 (Int.tdiv x2_2 32)))) (Int.tmod x2_2 32) t433 true t417 t420 x433000_2 x433001_2) = some (r1, r2, r3) := by rw [if_neg (show ¬ (false = true) by decide)] at H; exact H
         clear H
         have H := H1
         clear H1
         have H' := Aside0.mk H
         clear H
         go_wp2
         go_meet
         case rel => exact ⟨_, (true), (by first | rfl | (simp; done) | (simp [*]; done)), H', ⟨by have := HJ5.out; have := HK2.out; first | omega | exact Nat.le_refl _⟩, ⟨by (with_reducible repeat (first | apply Kd.R_alloc | apply Kd.R_drewN | apply Kd.R_drew)); exact HO_424000.out⟩, ⟨by (with_reducible repeat (first | apply Kd.R_alloc | apply Kd.R_drewN | apply Kd.R_drew)); exact HO_424001.out⟩, ⟨by (with_reducible repeat (first | apply Kd.R_alloc | apply Kd.R_drewN | apply Kd.R_drew)); exact HO_433000.out⟩, ⟨by (with_reducible repeat (first | apply Kd.R_alloc | apply Kd.R_drewN | apply Kd.R_drew)); exact HO_433001.out⟩, ⟨bG BK415⟩, ⟨bG BK416⟩, ⟨bG BK423⟩, ⟨bG BK432⟩, ⟨by exact lT HB (gC GE415 (gC GE416 (gC GE423 (gC GE432 gN))))⟩⟩
       case rest =>
        clear HC53
        try clear c1
        try clear c2
        try clear p2
        try clear c3
        try clear c4
        try clear c5
        try clear c6
        try clear p6
        try clear c9
        try clear c14
        try clear c15
        try clear c19
        try clear c21
        try clear c22
        try clear c24
        try clear c25
        try clear c26
        try clear c28
        try clear c31
        try clear c32
        try clear c37
        try clear c38
        try clear c39
        try clear c42
        try clear c42b0
        try clear c42b1
        try clear c43
        try clear c44
        try clear c45
        try clear c48
        try clear c49
        try clear c50
        try clear c54
        try clear c55
        try clear c56
        try clear c60
        try clear c61
        try clear hcz10_0
        try clear hcz10_1
        try clear hcz16_0
        try clear hcz16_1
        try clear hcz23_0
        try clear hcz23_1
        try clear hcz27_0
        try clear hcz27_1
        try clear hcz29_0
        try clear hcz29_1
        try clear hcz33_0
        try clear hcz33_1
        try clear hcz40_0
        try clear hcz40_1
        try clear hcz46_0
        try clear hcz46_1
        try clear hcz50_0
        try clear hcz50_1
        try clear hcz57_0
        try clear hcz57_1
        try clear hfz10_0
        try clear hfz10_1
        try clear hfz16_0
        try clear hfz16_1
        try clear hfz23_0
        try clear hfz23_1
        try clear hfz27_0
        try clear hfz27_1
        try clear hfz29_0
        try clear hfz29_1
        try clear hfz33_0
        try clear hfz33_1
        try clear hfz40_0
        try clear hfz40_1
        try clear hfz46_0
        try clear hfz46_1
        try clear hfz50_0
        try clear hfz50_1
        try clear hfz57_0
        try clear hfz57_1
        try clear p2
        try clear p6
        obtain ⟨kq, x54_52, rfl, HA, HJ52, HO_424000, HO_424001, HO_433000, HO_433001, BK415, BK416, BK423, BK432, HB⟩ := hcut
        cases kq with
        | zero => exact absurd HA.out (by simp [impl_WriteBytes.j2])
        | succ kj52 =>
         have H := HA.out
         clear HA
         simp only [impl_WriteBytes.j2] at H
         by_cases c62 : x54_52 = true
         ·subst c62
          have H1 : (some (t417, t420, false)) = some (r1, r2, r3) := by rw [if_pos rfl] at H; exact H
          clear H
          have H := H1
          clear H1
          simp only [Option.some.injEq, Prod.mk.injEq] at H
          obtain ⟨rfl, rfl, rfl⟩ := H
          have hnb63 := NB423_415.out
          have hnc63 := NB415_423.out
          have hnb64 := NB423_416.out
          have hnc64 := NB416_423.out
          have hnb65 := NB423_432.out
          have hnc65 := NB432_423.out
          have hcz66_0 : wc.cell? ⟨gb423, 0, none⟩ = some (.slice Ao13 t417.length co13) := bc BK423 0
          have hcz66_1 : wc.cell? ⟨gb423, 1, none⟩ = some (.slice Ao17 t420.length co17) := bc BK423 1
          have hfz66_0 := blk_frozen BK423.out 0
          have hfz66_1 := blk_frozen BK423.out 1
          have hnb67 := NB416_415.out
          have hnc67 := NB415_416.out
          have hnb68 := NB416_432.out
          have hnc68 := NB432_416.out
          have hcz69_0 : wc.cell? ⟨gb416, 0, none⟩ = some (.slice none 0 0) := bc BK416 0
          have hcz69_1 : wc.cell? ⟨gb416, 1, none⟩ = some (.slice none 0 0) := bc BK416 1
          have hfz69_0 := blk_frozen BK416.out 0
          have hfz69_1 := blk_frozen BK416.out 1
          go_wp2
          refine bodyPost_ret (results_ct rfl _ _ gb416 27 #[.slice Ao13 t417.length co13, .slice Ao17 t420.length co17] (0, 0) _ rfl (bW BK416) Try.underlying27 rfl (by kernel_rfl)) rfl ?_
          exact ⟨_, _, ew, by exact Kd.R_mono (rT HO_424000 BK416 (by decide)) (fun _ hk => trivial), by exact Kd.R_mono (rT HO_424001 BK416 (by decide)) (fun _ hk => trivial), by exact lT HB (gC GE415 (gC GE416 (gC GE423 (gC GE432 gN))))⟩
         ·replace c62 := Bool.eq_false_iff.mpr c62
          subst c62
          have H1 : (if 0 ≤ (Int.tmod x2_2 32) then (if (Int.tmod x2_2 32) ≤ (t433.size : Int) then (if 0 ≤ (mn (x3_2.size : Int) (wrap64 (32 - (Int.tmod x2_2 32)))) then (if (mn (x3_2.size : Int) (wrap64 (32 - (Int.tmod x2_2 32)))) ≤ (x3_2.size : Int) then (if (t433.extract 0 ((Int.tmod x2_2 32) : Int).toNat).size + (x3_2.extract 0 ((mn (x3_2.size : Int) (wrap64 (32 - (Int.tmod x2_2 32)))) : Int).toNat).size ≤ 9223372036854775807 then (if 0 ≤ (wrap64 ((Int.tmod x2_2 32) + (mn (x3_2.size : Int) (wrap64 (32 - (Int.tmod x2_2 32)))))) then (if (wrap64 ((Int.tmod x2_2 32) + (mn (x3_2.size : Int) (wrap64 (32 - (Int.tmod x2_2 32)))))) ≤ (t433.size : Int) then (if (t433.extract 0 ((Int.tmod x2_2 32) : Int).toNat).size + (x3_2.extract 0 ((mn (x3_2.size : Int) (wrap64 (32 - (Int.tmod x2_2 32)))) : Int).toNat).size + (t433.extract ((wrap64 ((Int.tmod x2_2 32) + (mn (x3_2.size : Int) (wrap64 (32 - (Int.tmod x2_2 32)))))) : Int).toNat t433.size).size ≤ 9223372036854775807 then ((impl_WriteSector.f x433000_2 x433001_2 (wrap64 (a1 + (wrap64 (Int.tdiv x2_2 32)))) (((t433.extract 0 ((Int.tmod x2_2 32) : Int).toNat) ++ (x3_2.extract 0 ((mn (x3_2.size : Int) (wrap64 (32 - (Int.tmod x2_2 32)))) : Int).toNat)) ++ (t433.extract ((wrap64 ((Int.tmod x2_2 32) + (mn (x3_2.size : Int) (wrap64 (32 - (Int.tmod x2_2 32)))))) : Int).toNat t433.size))).bind fun bt435 => (if bt435.2.2 = true then (impl_WriteBytes.l0 kj52 a1 (wrap64 (x2_2 + (mn (x3_2.size : Int) (wrap64 (32 - (Int.tmod x2_2 32)))))) (x3_2.extract ((mn (x3_2.size : Int) (wrap64 (32 - (Int.tmod x2_2 32)))) : Int).toNat x3_2.size) t417 t420 bt435.1 bt435.2.1) else (some (t417, t420, false)))) else (none)) else (none)) else (none)) else (none)) else (none)) else (none)) else (none)) else (none)) = some (r1, r2, r3) := by rw [if_neg (show ¬ (false = true) by decide)] at H; exact H
          clear H
          have H := H1
          clear H1
          obtain ⟨ji70, hji70⟩ : ∃ j_ : Int, (mn (x3_2.size : Int) (wrap64 (32 - (Int.tmod x2_2 32)))) = j_ := ⟨_, rfl⟩
          replace H : (if 0 ≤ (Int.tmod x2_2 32) then (if (Int.tmod x2_2 32) ≤ (t433.size : Int) then (if 0 ≤ (ji70) then (if (ji70) ≤ (x3_2.size : Int) then (if (t433.extract 0 ((Int.tmod x2_2 32) : Int).toNat).size + (x3_2.extract 0 ((ji70) : Int).toNat).size ≤ 9223372036854775807 then (if 0 ≤ (wrap64 ((Int.tmod x2_2 32) + (ji70))) then (if (wrap64 ((Int.tmod x2_2 32) + (ji70))) ≤ (t433.size : Int) then (if (t433.extract 0 ((Int.tmod x2_2 32) : Int).toNat).size + (x3_2.extract 0 ((ji70) : Int).toNat).size + (t433.extract ((wrap64 ((Int.tmod x2_2 32) + (ji70))) : Int).toNat t433.size).size ≤ 9223372036854775807 then ((impl_WriteSector.f x433000_2 x433001_2 (wrap64 (a1 + (wrap64 (Int.tdiv x2_2 32)))) (((t433.extract 0 ((Int.tmod x2_2 32) : Int).toNat) ++ (x3_2.extract 0 ((ji70) : Int).toNat)) ++ (t433.extract ((wrap64 ((Int.tmod x2_2 32) + (ji70))) : Int).toNat t433.size))).bind fun bt435 => (if bt435.2.2 = true then (impl_WriteBytes.l0 kj52 a1 (wrap64 (x2_2 + (ji70))) (x3_2.extract ((ji70) : Int).toNat x3_2.size) t417 t420 bt435.1 bt435.2.1) else (some (t417, t420, false)))) else (none)) else (none)) else (none)) else (none)) else (none)) else (none)) else (none)) else (none)) = some (r1, r2, r3) := by first | (rw [hji70] at H; exact H) | (simp only [hji70] at H ⊢; exact H)
          have hji70_ : (if (wrap64 (32 - (Int.tmod x2_2 32))) < (x3_2.size : Int) then (wrap64 (32 - (Int.tmod x2_2 32))) else (x3_2.size : Int)) = ji70 := hji70
          obtain ⟨ji71, hji71⟩ : ∃ j_ : Int, (Int.tmod x2_2 32) = j_ := ⟨_, rfl⟩
          have hji70c : (if (wrap64 (32 - ji71)) < (x3_2.size : Int) then (wrap64 (32 - ji71)) else (x3_2.size : Int)) = ji70 := by rw [← hji71]; exact hji70_
          replace H : (if 0 ≤ (ji71) then (if (ji71) ≤ (t433.size : Int) then (if 0 ≤ (ji70) then (if (ji70) ≤ (x3_2.size : Int) then (if (t433.extract 0 ((ji71) : Int).toNat).size + (x3_2.extract 0 ((ji70) : Int).toNat).size ≤ 9223372036854775807 then (if 0 ≤ (wrap64 ((ji71) + (ji70))) then (if (wrap64 ((ji71) + (ji70))) ≤ (t433.size : Int) then (if (t433.extract 0 ((ji71) : Int).toNat).size + (x3_2.extract 0 ((ji70) : Int).toNat).size + (t433.extract ((wrap64 ((ji71) + (ji70))) : Int).toNat t433.size).size ≤ 9223372036854775807 then ((impl_WriteSector.f x433000_2 x433001_2 (wrap64 (a1 + (wrap64 (Int.tdiv x2_2 32)))) (((t433.extract 0 ((ji71) : Int).toNat) ++ (x3_2.extract 0 ((ji70) : Int).toNat)) ++ (t433.extract ((wrap64 ((ji71) + (ji70))) : Int).toNat t433.size))).bind fun bt435 => (if bt435.2.2 = true then (impl_WriteBytes.l0 kj52 a1 (wrap64 (x2_2 + (ji70))) (x3_2.extract ((ji70) : Int).toNat x3_2.size) t417 t420 bt435.1 bt435.2.1) else (some (t417, t420, false)))) else (none)) else (none)) else (none)) else (none)) else (none)) else (none)) else (none)) else (none)) = some (r1, r2, r3) := by first | (rw [hji71] at H; exact H) | (simp only [hji71] at H ⊢; exact H)
          by_cases c72 : 0 ≤ (ji71)
          ·rw [if_pos c72] at H
           have c72b0 := eq_true c72
           have c72b1 : decide (0 ≤ (ji71)) = true := decide_eq_true c72
           clear c72
           by_cases c73 : (ji71) ≤ (t433.size : Int)
           ·rw [if_pos c73] at H
            have c73b0 := eq_true c73
            have c73b1 : decide ((ji71) ≤ (t433.size : Int)) = true := decide_eq_true c73
            clear c73
            by_cases c74 : 0 ≤ (ji70)
            ·rw [if_pos c74] at H
             have c74b0 := eq_true c74
             have c74b1 : decide (0 ≤ (ji70)) = true := decide_eq_true c74
             clear c74
             by_cases c75 : (ji70) ≤ (x3_2.size : Int)
             ·rw [if_pos c75] at H
              have c75b0 := eq_true c75
              have c75b1 : decide ((ji70) ≤ (x3_2.size : Int)) = true := decide_eq_true c75
              clear c75
              by_cases c76 : (t433.extract 0 ((ji71) : Int).toNat).size + (x3_2.extract 0 ((ji70) : Int).toNat).size ≤ 9223372036854775807
              ·rw [if_pos c76] at H
               have c76b0 := eq_true c76
               have c76b1 : decide ((t433.extract 0 ((ji71) : Int).toNat).size + (x3_2.extract 0 ((ji70) : Int).toNat).size ≤ 9223372036854775807) = true := decide_eq_true c76
               try have c76b2 : (9223372036854775807 < (t433.extract 0 ((ji71) : Int).toNat).size + (x3_2.extract 0 ((ji70) : Int).toNat).size) = False := eq_false (Nat.not_lt.2 c76)
               try have c76b9 : (9223372036854775807 < ((ji71) : Int).toNat + ((ji70) : Int).toNat) = False := eq_false (by have h_ := c76; (try have h72_ := of_eq_true c72b0); (try have g72_ := of_decide_eq_true c72b0); (try have h73_ := of_eq_true c73b0); (try have g73_ := of_decide_eq_true c73b0); (try have h74_ := of_eq_true c74b0); (try have g74_ := of_decide_eq_true c74b0); (try have h75_ := of_eq_true c75b0); (try have g75_ := of_decide_eq_true c75b0); simp only [ByteArray.size_extract] at h_; omega)
               try have c76b7 : (9223372036854775807 < min ((ji71) : Int).toNat t433.size + min ((ji70) : Int).toNat x3_2.size) = False := eq_false (by have h_ := c76; (try have h72_ := of_eq_true c72b0); (try have g72_ := of_decide_eq_true c72b0); (try have h73_ := of_eq_true c73b0); (try have g73_ := of_decide_eq_true c73b0); (try have h74_ := of_eq_true c74b0); (try have g74_ := of_decide_eq_true c74b0); (try have h75_ := of_eq_true c75b0); (try have g75_ := of_decide_eq_true c75b0); simp only [ByteArray.size_extract] at h_; omega)
               obtain ⟨ji77, hji77⟩ : ∃ j_ : Int, (wrap64 ((ji71) + (ji70))) = j_ := ⟨_, rfl⟩
               replace H : (if 0 ≤ (ji77) then (if (ji77) ≤ (t433.size : Int) then (if (t433.extract 0 ((ji71) : Int).toNat).size + (x3_2.extract 0 ((ji70) : Int).toNat).size + (t433.extract ((ji77) : Int).toNat t433.size).size ≤ 9223372036854775807 then ((impl_WriteSector.f x433000_2 x433001_2 (wrap64 (a1 + (wrap64 (Int.tdiv x2_2 32)))) (((t433.extract 0 ((ji71) : Int).toNat) ++ (x3_2.extract 0 ((ji70) : Int).toNat)) ++ (t433.extract ((ji77) : Int).toNat t433.size))).bind fun bt435 => (if bt435.2.2 = true then (impl_WriteBytes.l0 kj52 a1 (wrap64 (x2_2 + (ji70))) (x3_2.extract ((ji70) : Int).toNat x3_2.size) t417 t420 bt435.1 bt435.2.1) else (some (t417, t420, false)))) else (none)) else (none)) else (none)) = some (r1, r2, r3) := by first | (rw [hji77] at H; exact H) | (simp only [hji77] at H ⊢; exact H)
               have hji77w : (IntKind.i64.wrap ((ji71) + (ji70))) = ji77 := (i64_w _).trans hji77
               by_cases c78 : 0 ≤ (ji77)
               ·rw [if_pos c78] at H
                have c78b0 := eq_true c78
                have c78b1 : decide (0 ≤ (ji77)) = true := decide_eq_true c78
                clear c78
                by_cases c79 : (ji77) ≤ (t433.size : Int)
                ·rw [if_pos c79] at H
                 have c79b0 := eq_true c79
                 have c79b1 : decide ((ji77) ≤ (t433.size : Int)) = true := decide_eq_true c79
                 clear c79
                 by_cases c80 : (t433.extract 0 ((ji71) : Int).toNat).size + (x3_2.extract 0 ((ji70) : Int).toNat).size + (t433.extract ((ji77) : Int).toNat t433.size).size ≤ 9223372036854775807
                 ·rw [if_pos c80] at H
                  have c80b0 := eq_true c80
                  have c80b1 : decide ((t433.extract 0 ((ji71) : Int).toNat).size + (x3_2.extract 0 ((ji70) : Int).toNat).size + (t433.extract ((ji77) : Int).toNat t433.size).size ≤ 9223372036854775807) = true := decide_eq_true c80
                  try have c80b2 : (9223372036854775807 < (t433.extract 0 ((ji71) : Int).toNat).size + (x3_2.extract 0 ((ji70) : Int).toNat).size + (t433.extract ((ji77) : Int).toNat t433.size).size) = False := eq_false (Nat.not_lt.2 c80)
                  try have c80b9 : (9223372036854775807 < ((ji71) : Int).toNat + ((ji70) : Int).toNat + (t433.size - ((ji77) : Int).toNat)) = False := eq_false (by have h_ := c80; (try have h72_ := of_eq_true c72b0); (try have g72_ := of_decide_eq_true c72b0); (try have h73_ := of_eq_true c73b0); (try have g73_ := of_decide_eq_true c73b0); (try have h74_ := of_eq_true c74b0); (try have g74_ := of_decide_eq_true c74b0); (try have h75_ := of_eq_true c75b0); (try have g75_ := of_decide_eq_true c75b0); (try have h76_ := of_eq_true c76b0); (try have g76_ := of_decide_eq_true c76b0); (try simp only [ByteArray.size_extract, ByteArray.size_append] at h76_); (try have h78_ := of_eq_true c78b0); (try have g78_ := of_decide_eq_true c78b0); (try have h79_ := of_eq_true c79b0); (try have g79_ := of_decide_eq_true c79b0); simp only [ByteArray.size_extract] at h_; omega)
                  try have c80b7 : (9223372036854775807 < min ((ji71) : Int).toNat t433.size + min ((ji70) : Int).toNat x3_2.size + (t433.size - ((ji77) : Int).toNat)) = False := eq_false (by have h_ := c80; (try have h72_ := of_eq_true c72b0); (try have g72_ := of_decide_eq_true c72b0); (try have h73_ := of_eq_true c73b0); (try have g73_ := of_decide_eq_true c73b0); (try have h74_ := of_eq_true c74b0); (try have g74_ := of_decide_eq_true c74b0); (try have h75_ := of_eq_true c75b0); (try have g75_ := of_decide_eq_true c75b0); (try have h76_ := of_eq_true c76b0); (try have g76_ := of_decide_eq_true c76b0); (try simp only [ByteArray.size_extract, ByteArray.size_append] at h76_); (try have h78_ := of_eq_true c78b0); (try have g78_ := of_decide_eq_true c78b0); (try have h79_ := of_eq_true c79b0); (try have g79_ := of_decide_eq_true c79b0); simp only [ByteArray.size_extract] at h_; omega)
                  replace H := Option.bind_eq_some_iff.mp H
                  obtain ⟨⟨t435, t438, t441⟩, A810, H⟩ := H
                  replace H : (if t441 = true then (impl_WriteBytes.l0 kj52 a1 (wrap64 (x2_2 + (ji70))) (x3_2.extract ((ji70) : Int).toNat x3_2.size) t417 t420 t435 t438) else (some (t417, t420, false))) = some (r1, r2, r3) := H
                  have A81 := Aside0.mk A810
                  clear A810
                  by_cases c82 : t441 = true
                  ·subst c82
                   have H1 : (impl_WriteBytes.l0 kj52 a1 (wrap64 (x2_2 + (ji70))) (x3_2.extract ((ji70) : Int).toNat x3_2.size) t417 t420 t435 t438) = some (r1, r2, r3) := by rw [if_pos rfl] at H; exact H
                   clear H
                   have H := H1
                   clear H1
                   have c83b0 := eq_true (of_decide_eq_true (by first | (with_reducible assumption) | assumption) : 0 ≤ (ji70))
                   have c84b0 := eq_true (of_decide_eq_true (by first | (with_reducible assumption) | assumption) : (ji70) ≤ (x3_2.size : Int))
                   have H' := Aside0.mk H
                   clear H
                   try go_wp2
                   replace HO_424000 := ak (Kd.R_drew HO_424000.out)
                   replace HO_424001 := ak (Kd.R_drew HO_424001.out)
                   replace HO_433000 := ak (Kd.R_drew HO_433000.out)
                   replace HO_433001 := ak (Kd.R_drew HO_433001.out)
                   replace BK415 := ak (blk_drew BK415.out)
                   replace BK416 := ak (blk_drew BK416.out)
                   replace BK423 := ak (blk_drew BK423.out)
                   replace BK432 := ak (blk_drew BK432.out)
                   replace HB := ak (below_drew1 HB.out)
                   refine start_ (n := 21) (S := fun w' => w'.cell? ⟨gb432, 0, none⟩ = some (.slice Ao58 x433000_2.length co58) ∧ w'.cell? ⟨gb432, 1, none⟩ = some (.slice Ao59 x433001_2.length co59)) (ds := [19]) #[f_,f_,f_,f_,f_,f_,f_,f_,f_,f_,f_,f_,f_,f_,f_,f_,f_,f_,f_,f_,f_] (by kernel_rfl) rfl rfl ⟨bc BK432 0, bc BK432 1⟩ (fun hHeld => ?_); refine with_tabW impl_WriteBytes.tab12 impl_WriteBytes.bits12 (fun HT_ HW_ => ?_)
                   generalize wc.drew = w85 at HO_424000 HO_424001 HO_433000 HO_433001 BK415 BK416 BK423 BK432 HB hHeld ⊢
                   refine pu 1 63 (fb 21 2) HT_ ?_
                   refine pu 2 64 (fb 21 6) HT_ ?_
                   refine pu 3 65 (fb 21 14) HT_ ?_
                   refine pu 4 66 (fb 21 30) HT_ ?_
                   refine pu 5 67 (fb 21 62) HT_ ?_
                   refine pu 6 68 (fb 21 126) HT_ ?_
                   refine pu 7 69 (fb 21 254) HT_ ?_
                   refine pu 8 70 (fb 21 510) HT_ ?_
                   refine pu 9 71 (fb 21 1022) HT_ ?_
                   refine pu 10 72 (fb 21 2046) HT_ ?_
                   refine pu 11 73 (fb 21 4094) HT_ ?_
                   refine pu 12 74 (fb 21 8190) HT_ ?_
                   refine pu 13 75 (fb 21 16382) HT_ ?_
                   refine pu 14 76 (fb 21 32766) HT_ ?_
                   refine tk 0 62 (fb 21 32767) HT_ HW_ hHeld ?_
                   refine on 15 (some 77) (fb 21 65535) HT_ (fun K hK => ?_)
                   refine goes_ Try.func12 (by kernel_rfl) rfl #[.agg #[.slice Ao58 x433000_2.length co58, .slice Ao59 x433001_2.length co59], .int .i64 (wrap64 (a1 + (wrap64 (Int.tdiv x2_2 32)))), .string (((t433.extract 0 ((ji71) : Int).toNat) ++ (x3_2.extract 0 ((ji70) : Int).toNat)) ++ (t433.extract ((ji77) : Int).toNat t433.size))] (by rfl) rfl rfl (by (try simp only [List.map_toArray, List.map_cons, List.map_nil]); first | done | (simp only [hji70, hji71, hji77]; rfl) | rfl | (simp only [List.length_drop, List.length_take]; rfl)) ?_
                   with_reducible refine (impl_WriteSector.calls _ _ x433000_2 _ _ x433001_2 (wrap64 (a1 + (wrap64 (Int.tdiv x2_2 32)))) (((t433.extract 0 ((ji71) : Int).toNat) ++ (x3_2.extract 0 ((ji70) : Int).toNat)) ++ (t433.extract ((ji77) : Int).toNat t433.size)) t435 t438 true _ ?side1 ?side2 ?side3 ?side4 A81.out).mono ?_
                   (case side1 => exact cG (Kd.R_reads' HO_433000.out).2.2)
                   (case side2 => exact (Kd.R_reads' HO_433000.out).2.1)
                   (case side3 => exact cG (Kd.R_reads' HO_433001.out).2.2)
                   (case side4 => exact (Kd.R_reads' HO_433001.out).2.1)
                   rintro e w86 ⟨v436, v439, rfl, ho0, ho1, hb⟩
                   refine ⟨_, rfl, ?_⟩
                   replace HO437 := ak (Kd.R_lower (Kd.R_new' (Kd.R_new' ho0 (Kd.R_lt (rG HO_424000))) (Kd.R_lt (rG HO_433000))) (below_size (lT HB (gC GE415 (gC GE416 (gC GE423 (gC GE432 gN)))))))
                   replace HO_424000 := ak (Kd.R_elder' (rG HO_424000) (Kd.R_base ho0) hb)
                   replace HO_433000 := ak (Kd.R_elder' (rG HO_433000) (Kd.R_base ho0) hb)
                   replace HO440 := ak (Kd.R_lower (Kd.R_new' (Kd.R_new' ho1 (Kd.R_lt (rG HO_424001))) (Kd.R_lt (rG HO_433001))) (below_size (lT HB (gC GE415 (gC GE416 (gC GE423 (gC GE432 gN)))))))
                   replace HO_424001 := ak (Kd.R_elder' (rG HO_424001) (Kd.R_base ho1) hb)
                   replace HO_433001 := ak (Kd.R_elder' (rG HO_433001) (Kd.R_base ho1) hb)
                   replace BK415 := bB BK415 hb
                   replace BK416 := bB BK416 hb
                   replace BK423 := bB BK423 hb
                   replace BK432 := bB BK432 hb
                   replace HB := ak (below_step (lT HB (gC GE415 (gC GE416 (gC GE423 (gC GE432 gN))))) hb)
                   (try clear hb)
                   (try clear hb2)
                   (try clear hk)
                   (try clear hi)
                   (try clear ho0)
                   (try clear ho1)
                   obtain ⟨Ao87, co87, eo87⟩ := Kd.R_slice HO437.out
                   (first | subst eo87 | (injection eo87 with f1_ f2_ f3_; have f4_ := f1_.symm; have f5_ := f3_.symm; clear f1_ f2_ f3_; subst f4_; subst f5_))
                   obtain ⟨Ao89, co89, eo89⟩ := Kd.R_slice HO440.out
                   (first | subst eo89 | (injection eo89 with f1_ f2_ f3_; have f4_ := f1_.symm; have f5_ := f3_.symm; clear f1_ f2_ f3_; subst f4_; subst f5_))
                   refine hK.out _ _ ⟨bc BK432 0, bc BK432 1⟩ (fun hHeld => ?_)
                   clear hK K
                   refine nm ?_
                   refine pu 16 61 (fb 21 131071) HT_ ?_
                   refine pu 17 78 (fb 21 262143) HT_ ?_
                   refine pu 18 79 (fb 21 524287) HT_ ?_
                   refine last_ (i := 19) (N := none) #[t_,t_,t_,t_,t_,t_,t_,t_,t_,t_,t_,t_,t_,t_,t_,t_,t_,t_,t_,t_,f_] rfl rfl (one_of HT_.out (by kernel_rfl)) (by decide) (fun K hK => ?_)
                   have hs88 : w86.cell? ⟨gb432, 0, none⟩ = some (.slice Ao58 x433000_2.length co58) := bc BK432 0
                   have hfs88 := blk_frozen BK432.out 0
                   have hns88_0 := NB415_432.out
                   have hns88_1 := NB416_432.out
                   have hns88_2 := NB423_432.out
                   have hms88_0 := NB432_415.out
                   have hms88_1 := NB432_416.out
                   have hms88_2 := NB432_423.out
                   have hs90 : w86.cell? ⟨gb432, 1, none⟩ = some (.slice Ao59 x433001_2.length co59) := bc BK432 1
                   have hfs90 := blk_frozen BK432.out 1
                   have hns90_0 := NB415_432.out
                   have hns90_1 := NB416_432.out
                   have hns90_2 := NB423_432.out
                   have hms90_0 := NB432_415.out
                   have hms90_1 := NB432_416.out
                   have hms90_2 := NB432_423.out
                   refine skip_ (w1 := ?_) (by rfl) rfl ?_ ?_
                   rotate_left
                   ·go_simp
                    rfl
                   refine hK.out _ _ ?_
                   clear hK K
                   refine pu 20 15 (fb 21 2097151) HT_ ?_
                   refine done_ (done_of HT_.out (by kernel_rfl)) ?_
                   try go_wp2
                   go_roundg kj52
                   case measure => have := HJ5.out; have := HK2.out; have := HJ52.out; omega
                   case rel => exact ⟨(wrap64 (x2_2 + (ji70))), (x3_2.extract ((ji70) : Int).toNat x3_2.size), (t435), (t438), (.slice Ao87 t435.length co87), (.slice Ao89 t438.length co89), (by first | rfl | (simp; done) | (simp only [← hji70] <;> (first | rfl | simp)) | (simp [*]; done)), (by first | rfl | (simp; done) | (simp only [← hji70] <;> (first | rfl | simp)) | (simp [*]; done)), H', ⟨by have := HJ5.out; have := HK2.out; have := HJ52.out; omega⟩, ⟨by (with_reducible repeat (first | apply Kd.R_alloc | apply Kd.R_drewN | apply Kd.R_drew)); exact Kd.R_mono (Kd.R_far (p := ⟨gb432, 1, none⟩) (Kd.R_far (p := ⟨gb432, 0, none⟩) (Kd.R_types HO_424000.out BK432.out (by decide)) (fun _ hk => hk.2) (.slice Ao87 t435.length co87)) (fun _ hk => hk.2) (.slice Ao89 t438.length co89)) (fun _ hk => hk.1.2)⟩, ⟨by (with_reducible repeat (first | apply Kd.R_alloc | apply Kd.R_drewN | apply Kd.R_drew)); exact Kd.R_mono (Kd.R_far (p := ⟨gb432, 1, none⟩) (Kd.R_far (p := ⟨gb432, 0, none⟩) (Kd.R_types HO_424001.out BK432.out (by decide)) (fun _ hk => hk.2) (.slice Ao87 t435.length co87)) (fun _ hk => hk.2) (.slice Ao89 t438.length co89)) (fun _ hk => hk.1.2)⟩, ⟨by (with_reducible repeat (first | apply Kd.R_alloc | apply Kd.R_drewN | apply Kd.R_drew)); exact Kd.R_mono (Kd.R_far (p := ⟨gb432, 1, none⟩) (Kd.R_far (p := ⟨gb432, 0, none⟩) (Kd.R_types HO437.out BK432.out (by decide)) (fun _ hk => hk.2) (.slice Ao87 t435.length co87)) (fun _ hk => hk.2) (.slice Ao89 t438.length co89)) (fun _ hk => hk.1.1.2)⟩, ⟨by (with_reducible repeat (first | apply Kd.R_alloc | apply Kd.R_drewN | apply Kd.R_drew)); exact Kd.R_mono (Kd.R_far (p := ⟨gb432, 1, none⟩) (Kd.R_far (p := ⟨gb432, 0, none⟩) (Kd.R_types HO440.out BK432.out (by decide)) (fun _ hk => hk.2) (.slice Ao87 t435.length co87)) (fun _ hk => hk.2) (.slice Ao89 t438.length co89)) (fun _ hk => hk.1.1.2)⟩, ⟨by (with_reducible repeat (first | refine blk_drewN ?_ _ | refine blk_drew ?_ | refine blk_alloc ?_ _)); refine blk_far ?_ NB415_432.out _; (with_reducible repeat (first | refine blk_drewN ?_ _ | refine blk_drew ?_ | refine blk_alloc ?_ _)); refine blk_far ?_ NB415_432.out _; (with_reducible repeat (first | refine blk_drewN ?_ _ | refine blk_drew ?_ | refine blk_alloc ?_ _)); exact BK415.out⟩, ⟨by (with_reducible repeat (first | refine blk_drewN ?_ _ | refine blk_drew ?_ | refine blk_alloc ?_ _)); refine blk_far ?_ NB416_432.out _; (with_reducible repeat (first | refine blk_drewN ?_ _ | refine blk_drew ?_ | refine blk_alloc ?_ _)); refine blk_far ?_ NB416_432.out _; (with_reducible repeat (first | refine blk_drewN ?_ _ | refine blk_drew ?_ | refine blk_alloc ?_ _)); exact BK416.out⟩, ⟨by (with_reducible repeat (first | refine blk_drewN ?_ _ | refine blk_drew ?_ | refine blk_alloc ?_ _)); refine blk_far ?_ NB423_432.out _; (with_reducible repeat (first | refine blk_drewN ?_ _ | refine blk_drew ?_ | refine blk_alloc ?_ _)); refine blk_far ?_ NB423_432.out _; (with_reducible repeat (first | refine blk_drewN ?_ _ | refine blk_drew ?_ | refine blk_alloc ?_ _)); exact BK423.out⟩, ⟨bW BK432⟩, ⟨by exact lT HB (gC GE415 (gC GE416 (gC GE423 (gC GE432 gN))))⟩⟩
                  ·replace c82 := Bool.eq_false_iff.mpr c82
                   subst c82
                   have H1 : (some (t417, t420, false)) = some (r1, r2, r3) := by rw [if_neg (show ¬ (false = true) by decide)] at H; exact H
                   clear H
                   have H := H1
                   clear H1
                   simp only [Option.some.injEq, Prod.mk.injEq] at H
                   obtain ⟨rfl, rfl, rfl⟩ := H
                   try go_wp2
                   replace HO_424000 := ak (Kd.R_drew HO_424000.out)
                   replace HO_424001 := ak (Kd.R_drew HO_424001.out)
                   replace HO_433000 := ak (Kd.R_drew HO_433000.out)
                   replace HO_433001 := ak (Kd.R_drew HO_433001.out)
                   replace BK415 := ak (blk_drew BK415.out)
                   replace BK416 := ak (blk_drew BK416.out)
                   replace BK423 := ak (blk_drew BK423.out)
                   replace BK432 := ak (blk_drew BK432.out)
                   replace HB := ak (below_drew1 HB.out)
                   refine start_ (n := 21) (S := fun w' => w'.cell? ⟨gb432, 0, none⟩ = some (.slice Ao58 x433000_2.length co58) ∧ w'.cell? ⟨gb432, 1, none⟩ = some (.slice Ao59 x433001_2.length co59)) (ds := [19]) #[f_,f_,f_,f_,f_,f_,f_,f_,f_,f_,f_,f_,f_,f_,f_,f_,f_,f_,f_,f_,f_] (by kernel_rfl) rfl rfl ⟨bc BK432 0, bc BK432 1⟩ (fun hHeld => ?_); refine with_tabW impl_WriteBytes.tab12 impl_WriteBytes.bits12 (fun HT_ HW_ => ?_)
                   generalize wc.drew = w91 at HO_424000 HO_424001 HO_433000 HO_433001 BK415 BK416 BK423 BK432 HB hHeld ⊢
                   refine pu 1 63 (fb 21 2) HT_ ?_
                   refine pu 2 64 (fb 21 6) HT_ ?_
                   refine pu 3 65 (fb 21 14) HT_ ?_
                   refine pu 4 66 (fb 21 30) HT_ ?_
                   refine pu 5 67 (fb 21 62) HT_ ?_
                   refine pu 6 68 (fb 21 126) HT_ ?_
                   refine pu 7 69 (fb 21 254) HT_ ?_
                   refine pu 8 70 (fb 21 510) HT_ ?_
                   refine pu 9 71 (fb 21 1022) HT_ ?_
                   refine pu 10 72 (fb 21 2046) HT_ ?_
                   refine pu 11 73 (fb 21 4094) HT_ ?_
                   refine pu 12 74 (fb 21 8190) HT_ ?_
                   refine pu 13 75 (fb 21 16382) HT_ ?_
                   refine pu 14 76 (fb 21 32766) HT_ ?_
                   refine tk 0 62 (fb 21 32767) HT_ HW_ hHeld ?_
                   refine on 15 (some 77) (fb 21 65535) HT_ (fun K hK => ?_)
                   refine goes_ Try.func12 (by kernel_rfl) rfl #[.agg #[.slice Ao58 x433000_2.length co58, .slice Ao59 x433001_2.length co59], .int .i64 (wrap64 (a1 + (wrap64 (Int.tdiv x2_2 32)))), .string (((t433.extract 0 ((ji71) : Int).toNat) ++ (x3_2.extract 0 ((ji70) : Int).toNat)) ++ (t433.extract ((ji77) : Int).toNat t433.size))] (by rfl) rfl rfl (by (try simp only [List.map_toArray, List.map_cons, List.map_nil]); first | done | (simp only [hji70, hji71, hji77]; rfl) | rfl | (simp only [List.length_drop, List.length_take]; rfl)) ?_
                   with_reducible refine (impl_WriteSector.calls _ _ x433000_2 _ _ x433001_2 (wrap64 (a1 + (wrap64 (Int.tdiv x2_2 32)))) (((t433.extract 0 ((ji71) : Int).toNat) ++ (x3_2.extract 0 ((ji70) : Int).toNat)) ++ (t433.extract ((ji77) : Int).toNat t433.size)) t435 t438 false _ ?side1 ?side2 ?side3 ?side4 A81.out).mono ?_
                   (case side1 => exact cG (Kd.R_reads' HO_433000.out).2.2)
                   (case side2 => exact (Kd.R_reads' HO_433000.out).2.1)
                   (case side3 => exact cG (Kd.R_reads' HO_433001.out).2.2)
                   (case side4 => exact (Kd.R_reads' HO_433001.out).2.1)
                   rintro e w92 ⟨v436, v439, rfl, ho0, ho1, hb⟩
                   refine ⟨_, rfl, ?_⟩
                   replace HO437 := ak (Kd.R_lower (Kd.R_new' (Kd.R_new' ho0 (Kd.R_lt (rG HO_424000))) (Kd.R_lt (rG HO_433000))) (below_size (lT HB (gC GE415 (gC GE416 (gC GE423 (gC GE432 gN)))))))
                   replace HO_424000 := ak (Kd.R_elder' (rG HO_424000) (Kd.R_base ho0) hb)
                   replace HO_433000 := ak (Kd.R_elder' (rG HO_433000) (Kd.R_base ho0) hb)
                   replace HO440 := ak (Kd.R_lower (Kd.R_new' (Kd.R_new' ho1 (Kd.R_lt (rG HO_424001))) (Kd.R_lt (rG HO_433001))) (below_size (lT HB (gC GE415 (gC GE416 (gC GE423 (gC GE432 gN)))))))
                   replace HO_424001 := ak (Kd.R_elder' (rG HO_424001) (Kd.R_base ho1) hb)
                   replace HO_433001 := ak (Kd.R_elder' (rG HO_433001) (Kd.R_base ho1) hb)
                   replace BK415 := bB BK415 hb
                   replace BK416 := bB BK416 hb
                   replace BK423 := bB BK423 hb
                   replace BK432 := bB BK432 hb
                   replace HB := ak (below_step (lT HB (gC GE415 (gC GE416 (gC GE423 (gC GE432 gN))))) hb)
                   (try clear hb)
                   (try clear hb2)
                   (try clear hk)
                   (try clear hi)
                   (try clear ho0)
                   (try clear ho1)
                   obtain ⟨Ao93, co93, eo93⟩ := Kd.R_slice HO437.out
                   (first | subst eo93 | (injection eo93 with f1_ f2_ f3_; have f4_ := f1_.symm; have f5_ := f3_.symm; clear f1_ f2_ f3_; subst f4_; subst f5_))
                   obtain ⟨Ao95, co95, eo95⟩ := Kd.R_slice HO440.out
                   (first | subst eo95 | (injection eo95 with f1_ f2_ f3_; have f4_ := f1_.symm; have f5_ := f3_.symm; clear f1_ f2_ f3_; subst f4_; subst f5_))
                   refine hK.out _ _ ⟨bc BK432 0, bc BK432 1⟩ (fun hHeld => ?_)
                   clear hK K
                   refine nm ?_
                   refine pu 16 61 (fb 21 131071) HT_ ?_
                   refine pu 17 78 (fb 21 262143) HT_ ?_
                   refine pu 18 79 (fb 21 524287) HT_ ?_
                   refine last_ (i := 19) (N := none) #[t_,t_,t_,t_,t_,t_,t_,t_,t_,t_,t_,t_,t_,t_,t_,t_,t_,t_,t_,t_,f_] rfl rfl (one_of HT_.out (by kernel_rfl)) (by decide) (fun K hK => ?_)
                   have hs94 : w92.cell? ⟨gb432, 0, none⟩ = some (.slice Ao58 x433000_2.length co58) := bc BK432 0
                   have hfs94 := blk_frozen BK432.out 0
                   have hns94_0 := NB415_432.out
                   have hns94_1 := NB416_432.out
                   have hns94_2 := NB423_432.out
                   have hms94_0 := NB432_415.out
                   have hms94_1 := NB432_416.out
                   have hms94_2 := NB432_423.out
                   have hs96 : w92.cell? ⟨gb432, 1, none⟩ = some (.slice Ao59 x433001_2.length co59) := bc BK432 1
                   have hfs96 := blk_frozen BK432.out 1
                   have hns96_0 := NB415_432.out
                   have hns96_1 := NB416_432.out
                   have hns96_2 := NB423_432.out
                   have hms96_0 := NB432_415.out
                   have hms96_1 := NB432_416.out
                   have hms96_2 := NB432_423.out
                   refine skip_ (w1 := ?_) (by rfl) rfl ?_ ?_
                   rotate_left
                   ·go_simp
                    rfl
                   refine hK.out _ _ ?_
                   clear hK K
                   refine pu 20 15 (fb 21 2097151) HT_ ?_
                   refine done_ (done_of HT_.out (by kernel_rfl)) ?_
                   have hnb97 := NB423_415.out
                   have hnc97 := NB415_423.out
                   have hnb98 := NB423_416.out
                   have hnc98 := NB416_423.out
                   have hnb99 := NB423_432.out
                   have hnc99 := NB432_423.out
                   have hcz100_0 : w92.cell? ⟨gb423, 0, none⟩ = some (.slice Ao13 t417.length co13) := bc BK423 0
                   have hcz100_1 : w92.cell? ⟨gb423, 1, none⟩ = some (.slice Ao17 t420.length co17) := bc BK423 1
                   have hfz100_0 := blk_frozen BK423.out 0
                   have hfz100_1 := blk_frozen BK423.out 1
                   have hnb101 := NB416_415.out
                   have hnc101 := NB415_416.out
                   have hnb102 := NB416_432.out
                   have hnc102 := NB432_416.out
                   have hcz103_0 : w92.cell? ⟨gb416, 0, none⟩ = some (.slice none 0 0) := bc BK416 0
                   have hcz103_1 : w92.cell? ⟨gb416, 1, none⟩ = some (.slice none 0 0) := bc BK416 1
                   have hfz103_0 := blk_frozen BK416.out 0
                   have hfz103_1 := blk_frozen BK416.out 1
                   try go_wp2
                   refine bodyPost_ret (results_ct rfl _ _ gb416 27 #[.slice Ao13 t417.length co13, .slice Ao17 t420.length co17] (0, 0) _ rfl (by (with_reducible repeat (first | refine blk_drewN ?_ _ | refine blk_drew ?_ | refine blk_alloc ?_ _)); refine blk_put (cs := #[.slice Ao13 t417.length co13, .slice none 0 0]) ?_ 1 _ rfl; (with_reducible repeat (first | refine blk_drewN ?_ _ | refine blk_drew ?_ | refine blk_alloc ?_ _)); refine blk_put (cs := #[.slice none 0 0, .slice none 0 0]) ?_ 0 _ rfl; (with_reducible repeat (first | refine blk_drewN ?_ _ | refine blk_drew ?_ | refine blk_alloc ?_ _)); refine blk_far ?_ NB416_432.out _; (with_reducible repeat (first | refine blk_drewN ?_ _ | refine blk_drew ?_ | refine blk_alloc ?_ _)); refine blk_far ?_ NB416_432.out _; (with_reducible repeat (first | refine blk_drewN ?_ _ | refine blk_drew ?_ | refine blk_alloc ?_ _)); exact BK416.out) Try.underlying27 rfl (by kernel_rfl)) rfl ?_
                   exact ⟨_, _, by first | rfl | (simp [errW_none, errW_some] <;> rfl) | (simp only [← hji70, ← hji71, ← hji77]; first | rfl | (simp [errW_none, errW_some] <;> rfl)) | (simp [*, errW_none, errW_some] <;> rfl), by exact Kd.R_mono (rT2 HO_424000 BK432 BK416 (by decide) (by decide)) (fun _ hk => trivial), by exact Kd.R_mono (rT2 HO_424001 BK432 BK416 (by decide) (by decide)) (fun _ hk => trivial), by exact lT HB (gC GE415 (gC GE416 (gC GE423 (gC GE432 gN))))⟩
                 ·rw [if_neg c80] at H
                  exact absurd H (by simp)
                ·rw [if_neg c79] at H
                 exact absurd H (by simp)
               ·rw [if_neg c78] at H
                exact absurd H (by simp)
              ·rw [if_neg c76] at H
               exact absurd H (by simp)
             ·rw [if_neg c75] at H
              exact absurd H (by simp)
            ·rw [if_neg c74] at H
             exact absurd H (by simp)
           ·rw [if_neg c73] at H
            exact absurd H (by simp)
          ·rw [if_neg c72] at H
           exact absurd H (by simp)

end Go.Proofs.Ytjpngldnkgofaaa.PFnSegments
