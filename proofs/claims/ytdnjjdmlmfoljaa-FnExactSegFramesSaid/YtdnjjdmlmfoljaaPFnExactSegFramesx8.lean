-- Written for this claim by a program of mine (a turned copy of the kit's print): functions as plain Lean, and their contracts. Lean checks it.
import Derived.Test.YtdnjjdmlmfoljaaPFnExactSegFramesx0
import Derived.Test.YtdnjjdmlmfoljaaPFnExactSegFramesx6
import Derived.Test.YtdnjjdmlmfoljaaPFnExactSegFramesx7
import Derived.Test.YtdnjjdmlmfoljaaVFnExactSegFrames1
namespace Go.Proofs.Ytdnjjdmlmfoljaa.PFnExactSegFrames
open Go.RowKit Go.Proofs.YtdnjjdmlmfoljaaW.PrintWords Go.Proofs.YtdnjjdmlmfoljaaW.PrintLast Go.Proofs.YtdnjjdmlmfoljaaW.PrintMore
attribute [local go_sem] max2_int min2_int max_two min_two max_three min_three max_four min_four   -- for this text's walks alone
set_option linter.unusedVariables false
set_option linter.unusedSimpArgs false

/-! ### impl_FrameText: function 95 -/
def impl_FrameText.f (k : Nat) (a0_0 : Int) (a0_1 : Int) (a0_2 : ByteArray) : Option (ByteArray × Bool) := (impl_FrameOk.f a0_0 a0_1 a0_2).bind fun t294 => (if t294 = true then ((impl_varText.f k a0_0).bind fun t295 => ((impl_varText.f k a0_1).bind fun t296 => (if t295.size + t296.size ≤ 9223372036854775807 then ((impl_varText.f k (a0_2.size : Int)).bind fun t297 => (if t295.size + t296.size + t297.size ≤ 9223372036854775807 then (if t295.size + t296.size + t297.size + a0_2.size ≤ 9223372036854775807 then ((impl_Sealed.f k (((t295 ++ t296) ++ t297) ++ a0_2)).bind fun bt298 => (some (bt298.1, bt298.2))) else (none)) else (none))) else (none)))) else (some ((⟨#[]⟩ : ByteArray), false)))
theorem impl_FrameText.mono : ∀ a0 a1 a2 k, LeO (impl_FrameText.f k a0 a1 a2) (impl_FrameText.f (k + 1) a0 a1 a2) := by
 intro a0 a1 a2 k
 unfold impl_FrameText.f
 repeat' first
   | (with_reducible exact impl_Sealed.mono _ _)
   | (with_reducible exact impl_varText.mono _ _)
   | (with_reducible exact LeO.refl _)
   | (with_reducible exact LeO.none _)
   | (with_reducible refine LeO.ite ?_ ?_)
   | (with_reducible refine LeO.bind ?_ (fun _ => ?_))
   | exact impl_Sealed.mono _ _
   | exact impl_varText.mono _ _
   | exact LeO.none _
   | refine LeO.ite ?_ ?_
   | refine LeO.bind ?_ (fun _ => ?_)
def impl_FrameText.T3 : Bool × List (List Nat × List Nat) := (true, [([], []), ([0], [0]), ([1], [1]), ([], []), ([3], [3]), ([4, 2], [4]), ([2, 5], [2, 5]), ([], []), ([7], [7]), ([8], [8]), ([9, 5], [9]), ([6, 10], [6, 10]), ([], []), ([12], [12]), ([11, 13], [11, 13]), ([14, 10], [14]), ([15], [15]), ([15], [15]), ([16, 15, 0, 1, 2, 3, 4, 5, 6, 7, 8, 9, 10, 11, 12, 13, 14, 15, 16, 17], [16]), ([17, 18, 0, 1, 2, 3, 4, 5, 6, 7, 8, 9, 10, 11, 12, 13, 14, 15, 16, 17, 18], [17])])
def impl_FrameText.B3 : List Nat := [0, 1, 3, 0, 8, 31, 63, 0, 128, 384, 959, 2047, 0, 4096, 16383, 32767, 65535, 65535, 262143, 524287]
theorem impl_FrameText.tab3 : rtab .any (opsOf Try.f95 3) = impl_FrameText.T3 := by kernel_rfl
theorem impl_FrameText.bits3 : waitsOk impl_FrameText.T3.2 impl_FrameText.B3 = true := by kernel_rfl
set_option maxHeartbeats 8000000 in
set_option maxRecDepth 100000 in
theorem impl_FrameText.calls (k : Nat) (a0_0 : Int) (a0_1 : Int) (a0_2 : ByteArray) (r1 : ByteArray) (r2 : Bool) (w : World) (h : impl_FrameText.f k a0_0 a0_1 a0_2 = some (r1, r2)) :
  Calls Try.prog 95 #[.agg #[.int .i64 a0_0, .int .i64 a0_1, .string a0_2]] w fun e w' => e = .returned (.tuple #[.string r1, .bool r2]) ∧ Below w.heap.size w w' := by
 have hu77 := Try.underlying77
 have HB := ak (Below.refl w.heap.size w)
 have H : ((impl_FrameOk.f a0_0 a0_1 a0_2).bind fun t294 => (if t294 = true then ((impl_varText.f k a0_0).bind fun t295 => ((impl_varText.f k a0_1).bind fun t296 => (if t295.size + t296.size ≤ 9223372036854775807 then ((impl_varText.f k (a0_2.size : Int)).bind fun t297 => (if t295.size + t296.size + t297.size ≤ 9223372036854775807 then (if t295.size + t296.size + t297.size + a0_2.size ≤ 9223372036854775807 then ((impl_Sealed.f k (((t295 ++ t296) ++ t297) ++ a0_2)).bind fun bt298 => (some (bt298.1, bt298.2))) else (none)) else (none))) else (none)))) else (some ((⟨#[]⟩ : ByteArray), false)))) = some (r1, r2) := h
 clear h
 replace H := Option.bind_eq_some_iff.mp H
 obtain ⟨t294, A20, H⟩ := H
 replace H : (if t294 = true then ((impl_varText.f k a0_0).bind fun t295 => ((impl_varText.f k a0_1).bind fun t296 => (if t295.size + t296.size ≤ 9223372036854775807 then ((impl_varText.f k (a0_2.size : Int)).bind fun t297 => (if t295.size + t296.size + t297.size ≤ 9223372036854775807 then (if t295.size + t296.size + t297.size + a0_2.size ≤ 9223372036854775807 then ((impl_Sealed.f k (((t295 ++ t296) ++ t297) ++ a0_2)).bind fun bt298 => (some (bt298.1, bt298.2))) else (none)) else (none))) else (none)))) else (some ((⟨#[]⟩ : ByteArray), false))) = some (r1, r2) := H
 have A2 := Aside0.mk A20
 clear A20
 by_cases c3 : t294 = true
 ·subst c3
  have H1 : ((impl_varText.f k a0_0).bind fun t295 => ((impl_varText.f k a0_1).bind fun t296 => (if t295.size + t296.size ≤ 9223372036854775807 then ((impl_varText.f k (a0_2.size : Int)).bind fun t297 => (if t295.size + t296.size + t297.size ≤ 9223372036854775807 then (if t295.size + t296.size + t297.size + a0_2.size ≤ 9223372036854775807 then ((impl_Sealed.f k (((t295 ++ t296) ++ t297) ++ a0_2)).bind fun bt298 => (some (bt298.1, bt298.2))) else (none)) else (none))) else (none)))) = some (r1, r2) := by rw [if_pos rfl] at H; exact H
  clear H
  have H := H1
  clear H1
  replace H := Option.bind_eq_some_iff.mp H
  obtain ⟨t295, A40, H⟩ := H
  replace H : ((impl_varText.f k a0_1).bind fun t296 => (if t295.size + t296.size ≤ 9223372036854775807 then ((impl_varText.f k (a0_2.size : Int)).bind fun t297 => (if t295.size + t296.size + t297.size ≤ 9223372036854775807 then (if t295.size + t296.size + t297.size + a0_2.size ≤ 9223372036854775807 then ((impl_Sealed.f k (((t295 ++ t296) ++ t297) ++ a0_2)).bind fun bt298 => (some (bt298.1, bt298.2))) else (none)) else (none))) else (none))) = some (r1, r2) := H
  have A4 := Aside0.mk A40
  clear A40
  replace H := Option.bind_eq_some_iff.mp H
  obtain ⟨t296, A50, H⟩ := H
  replace H : (if t295.size + t296.size ≤ 9223372036854775807 then ((impl_varText.f k (a0_2.size : Int)).bind fun t297 => (if t295.size + t296.size + t297.size ≤ 9223372036854775807 then (if t295.size + t296.size + t297.size + a0_2.size ≤ 9223372036854775807 then ((impl_Sealed.f k (((t295 ++ t296) ++ t297) ++ a0_2)).bind fun bt298 => (some (bt298.1, bt298.2))) else (none)) else (none))) else (none)) = some (r1, r2) := H
  have A5 := Aside0.mk A50
  clear A50
  by_cases c6 : t295.size + t296.size ≤ 9223372036854775807
  ·rw [if_pos c6] at H
   have c6b0 := eq_true c6
   have c6b1 : decide (t295.size + t296.size ≤ 9223372036854775807) = true := decide_eq_true c6
   try have c6b2 : (9223372036854775807 < t295.size + t296.size) = False := eq_false (Nat.not_lt.2 c6)
   replace H := Option.bind_eq_some_iff.mp H
   obtain ⟨t297, A70, H⟩ := H
   replace H : (if t295.size + t296.size + t297.size ≤ 9223372036854775807 then (if t295.size + t296.size + t297.size + a0_2.size ≤ 9223372036854775807 then ((impl_Sealed.f k (((t295 ++ t296) ++ t297) ++ a0_2)).bind fun bt298 => (some (bt298.1, bt298.2))) else (none)) else (none)) = some (r1, r2) := H
   have A7 := Aside0.mk A70
   clear A70
   by_cases c8 : t295.size + t296.size + t297.size ≤ 9223372036854775807
   ·rw [if_pos c8] at H
    have c8b0 := eq_true c8
    have c8b1 : decide (t295.size + t296.size + t297.size ≤ 9223372036854775807) = true := decide_eq_true c8
    try have c8b2 : (9223372036854775807 < t295.size + t296.size + t297.size) = False := eq_false (Nat.not_lt.2 c8)
    by_cases c9 : t295.size + t296.size + t297.size + a0_2.size ≤ 9223372036854775807
    ·rw [if_pos c9] at H
     have c9b0 := eq_true c9
     have c9b1 : decide (t295.size + t296.size + t297.size + a0_2.size ≤ 9223372036854775807) = true := decide_eq_true c9
     try have c9b2 : (9223372036854775807 < t295.size + t296.size + t297.size + a0_2.size) = False := eq_false (Nat.not_lt.2 c9)
     replace H := Option.bind_eq_some_iff.mp H
     obtain ⟨⟨t298, t299⟩, A100, H⟩ := H
     replace H : (some (t298, t299)) = some (r1, r2) := H
     have A10 := Aside0.mk A100
     clear A100
     simp only [Option.some.injEq, Prod.mk.injEq] at H
     obtain ⟨rfl, rfl⟩ := H
     go_enter Try.func95, Try.ntmps95
     try go_wp2_with (first | ((with_reducible refine gate_dst (N := 1) rfl ?_); refine bx 1 #[.int .i64 a0_0, .int .i64 a0_1, .string a0_2] 77 ?_; intro gb293 hg w11 hbox hb; replace BK293 := ak (hbox); replace GW293 := ak (bz hg (lG HB)); replace GE293 := ak (bz hg (lG HB)); replace HB := lB HB hb; clear hb hbox hg; obtain ⟨hcz12_0, hcz12_1, hcz12_2, hfz12_0, hfz12_1, hfz12_2⟩ := bC3 BK293) | ((with_reducible refine gate_callee (f := 94) rfl ?_); refine gl (some 5) Try.func94 #[.agg #[.int .i64 a0_0, .int .i64 a0_1, .string a0_2]] ?_; (with_reducible refine (impl_FrameOk.calls a0_0 a0_1 a0_2 true _ A2.out).mono ?_); rintro e w13 ⟨rfl, hb⟩; refine ⟨_, rfl, ?_⟩; replace BK293 := bB BK293 hb; replace HB := ak (below_step (lT HB (gC GE293 gN)) hb); (try clear hb); (try clear hk)))
     replace BK293 := ak (blk_drew BK293.out)
     replace HB := ak (below_drew1 HB.out)
     refine start_ (n := 20) (S := fun w' => w'.cell? ⟨gb293, 0, none⟩ = some (.int .i64 a0_0) ∧ w'.cell? ⟨gb293, 1, none⟩ = some (.int .i64 a0_1) ∧ w'.cell? ⟨gb293, 2, none⟩ = some (.string a0_2)) (ds := []) #[f_,f_,f_,f_,f_,f_,f_,f_,f_,f_,f_,f_,f_,f_,f_,f_,f_,f_,f_,f_] (by kernel_rfl) rfl rfl ⟨bc BK293 0, bc BK293 1, bc BK293 2⟩ (fun hHeld => ?_); refine with_tabW impl_FrameText.tab3 impl_FrameText.bits3 (fun HT_ HW_ => ?_)
     generalize w13.drew = w14 at BK293 HB hHeld ⊢
     refine pu 0 7 (fb 20 1) HT_ ?_
     refine pu 3 10 (fb 20 9) HT_ ?_
     refine pu 7 14 (fb 20 137) HT_ ?_
     refine pu 12 19 (fb 20 4233) HT_ ?_
     refine tk 1 8 (fb 20 4235) HT_ HW_ hHeld ?_
     refine tk 4 11 (fb 20 4251) HT_ HW_ hHeld ?_
     refine tk 8 15 (fb 20 4507) HT_ HW_ hHeld ?_
     refine pu 9 16 (fb 20 5019) HT_ ?_
     refine tk 13 20 (fb 20 13211) HT_ HW_ hHeld ?_
     refine on 2 (some 9) (fb 20 13215) HT_ (fun K hK => ?_)
     refine goes_ Try.func105 (by kernel_rfl) rfl #[.int .i64 a0_0] (by rfl) rfl rfl (by (try simp only [List.map_toArray, List.map_cons, List.map_nil]); first | done | rfl | (simp only [List.length_drop, List.length_take]; rfl)) ?_
     with_reducible refine (impl_varText.calls k a0_0 t295 _ A4.out).mono ?_
     rintro e w15 ⟨rfl, hb⟩
     refine ⟨_, rfl, ?_⟩
     replace BK293 := bB BK293 hb
     replace HB := ak (below_step (lT HB (gC GE293 gN)) hb)
     (try clear hb)
     (try clear hb2)
     (try clear hk)
     (try clear hi)
     refine hK.out _ _ ⟨bc BK293 0, bc BK293 1, bc BK293 2⟩ (fun hHeld => ?_)
     clear hK K
     refine nm ?_
     refine on 5 (some 12) (fb 20 13247) HT_ (fun K hK => ?_)
     refine goes_ Try.func105 (by kernel_rfl) rfl #[.int .i64 a0_1] (by rfl) rfl rfl (by (try simp only [List.map_toArray, List.map_cons, List.map_nil]); first | done | rfl | (simp only [List.length_drop, List.length_take]; rfl)) ?_
     with_reducible refine (impl_varText.calls k a0_1 t296 _ A5.out).mono ?_
     rintro e w16 ⟨rfl, hb⟩
     refine ⟨_, rfl, ?_⟩
     replace BK293 := bB BK293 hb
     replace HB := ak (below_step (lT HB (gC GE293 gN)) hb)
     (try clear hb)
     (try clear hb2)
     (try clear hk)
     (try clear hi)
     refine hK.out _ _ ⟨bc BK293 0, bc BK293 1, bc BK293 2⟩ (fun hHeld => ?_)
     clear hK K
     refine nm ?_
     refine pu 6 13 (fb 20 13311) HT_ ?_
     refine on 10 (some 17) (fb 20 14335) HT_ (fun K hK => ?_)
     refine goes_ Try.func105 (by kernel_rfl) rfl #[.int .i64 (a0_2.size : Int)] (by rfl) rfl rfl (by (try simp only [List.map_toArray, List.map_cons, List.map_nil]); first | done | rfl | (simp only [List.length_drop, List.length_take]; rfl)) ?_
     with_reducible refine (impl_varText.calls k (a0_2.size : Int) t297 _ A7.out).mono ?_
     rintro e w17 ⟨rfl, hb⟩
     refine ⟨_, rfl, ?_⟩
     replace BK293 := bB BK293 hb
     replace HB := ak (below_step (lT HB (gC GE293 gN)) hb)
     (try clear hb)
     (try clear hb2)
     (try clear hk)
     (try clear hi)
     refine hK.out _ _ ⟨bc BK293 0, bc BK293 1, bc BK293 2⟩ (fun hHeld => ?_)
     clear hK K
     refine nm ?_
     refine pu 11 18 (fb 20 16383) HT_ ?_
     refine pu 14 21 (fb 20 32767) HT_ ?_
     refine on 15 (some 22) (fb 20 65535) HT_ (fun K hK => ?_)
     refine goes_ Try.func104 (by kernel_rfl) rfl #[.string (((t295 ++ t296) ++ t297) ++ a0_2)] (by rfl) rfl rfl (by (try simp only [List.map_toArray, List.map_cons, List.map_nil]); first | done | rfl | (simp only [List.length_drop, List.length_take]; rfl)) ?_
     with_reducible refine (impl_Sealed.calls k (((t295 ++ t296) ++ t297) ++ a0_2) t298 t299 _ A10.out).mono ?_
     rintro e w18 ⟨rfl, hb⟩
     refine ⟨_, rfl, ?_⟩
     replace BK293 := bB BK293 hb
     replace HB := ak (below_step (lT HB (gC GE293 gN)) hb)
     (try clear hb)
     (try clear hb2)
     (try clear hk)
     (try clear hi)
     refine hK.out _ _ ⟨bc BK293 0, bc BK293 1, bc BK293 2⟩ (fun hHeld => ?_)
     clear hK K
     refine nm ?_
     refine pu 16 23 (fb 20 131071) HT_ ?_
     refine pu 17 24 (fb 20 262143) HT_ ?_
     refine pu 18 2 (fb 20 524287) HT_ ?_
     refine pu 19 3 (fb 20 1048575) HT_ ?_
     refine done_ (done_of HT_.out (by kernel_rfl)) ?_
     try go_wp2
     go_ret2
     exact ⟨ew, by exact lT HB (gC GE293 gN)⟩
    ·rw [if_neg c9] at H
     exact absurd H (by simp)
   ·rw [if_neg c8] at H
    exact absurd H (by simp)
  ·rw [if_neg c6] at H
   exact absurd H (by simp)
 ·replace c3 := Bool.eq_false_iff.mpr c3
  subst c3
  have H1 : (some ((⟨#[]⟩ : ByteArray), false)) = some (r1, r2) := by rw [if_neg (show ¬ (false = true) by decide)] at H; exact H
  clear H
  have H := H1
  clear H1
  simp only [Option.some.injEq, Prod.mk.injEq] at H
  obtain ⟨rfl, rfl⟩ := H
  go_enter Try.func95, Try.ntmps95
  go_wp2_with (first | ((with_reducible refine gate_dst (N := 1) rfl ?_); refine bx 1 #[.int .i64 a0_0, .int .i64 a0_1, .string a0_2] 77 ?_; intro gb293 hg w19 hbox hb; replace BK293 := ak (hbox); replace GW293 := ak (bz hg (lG HB)); replace GE293 := ak (bz hg (lG HB)); replace HB := lB HB hb; clear hb hbox hg; obtain ⟨hcz20_0, hcz20_1, hcz20_2, hfz20_0, hfz20_1, hfz20_2⟩ := bC3 BK293) | ((with_reducible refine gate_callee (f := 94) rfl ?_); refine gl (some 5) Try.func94 #[.agg #[.int .i64 a0_0, .int .i64 a0_1, .string a0_2]] ?_; (with_reducible refine (impl_FrameOk.calls a0_0 a0_1 a0_2 false _ A2.out).mono ?_); rintro e w21 ⟨rfl, hb⟩; refine ⟨_, rfl, ?_⟩; replace BK293 := bB BK293 hb; replace HB := ak (below_step (lT HB (gC GE293 gN)) hb); (try clear hb); (try clear hk)))
  go_ret2
  exact ⟨ew, by exact lT HB (gC GE293 gN)⟩

/-! ### impl_ReadFrame: function 70 -/
def impl_ReadFrame.j0 : Nat → ByteArray → Int → Int → Bool → Int → Int → ByteArray → Option (Int × Int × ByteArray × Int × Bool)
 | 0, _, _, _, _, _, _, _ => none
 | k + 1, x0, x1, x8, x63, x311000, x311001, x311002 => if x63 = true then (some (0, 0, (⟨#[]⟩ : ByteArray), 0, false)) else ((impl_FrameText.f k x311000 x311001 x311002).bind fun bt312 => (if 0 ≤ x1 then (if x1 ≤ (wrap64 (x8 + 4)) then (if (wrap64 (x8 + 4)) ≤ (x0.size : Int) then (if (x0.extract (x1 : Int).toNat ((wrap64 (x8 + 4)) : Int).toNat).toList = bt312.1.toList then (some (x311000, x311001, x311002, wrap64 (x8 + 4), true)) else (some (0, 0, (⟨#[]⟩ : ByteArray), 0, false))) else (none)) else (none)) else (none)))
def impl_ReadFrame.f (k : Nat) (a0 : ByteArray) (a1 : Int) : Option (Int × Int × ByteArray × Int × Bool) := (impl_ReadVar.f k a0 a1).bind fun bt301 => ((impl_ReadVar.f k a0 bt301.2.1).bind fun bt304 => ((impl_ReadShort.f k a0 bt304.2.1).bind fun bt307 => (if bt301.2.2 = true then (if bt304.2.2 = true then (if bt307.2.2 = true then ((impl_FrameOk.f bt301.1 bt304.1 bt307.1).bind fun t311 => (if t311 = true then (impl_ReadFrame.j0 k a0 a1 bt307.2.1 (decide ((wrap64 ((a0.size : Int) - bt307.2.1)) < 4)) bt301.1 bt304.1 bt307.1) else (impl_ReadFrame.j0 k a0 a1 bt307.2.1 true bt301.1 bt304.1 bt307.1))) else (impl_ReadFrame.j0 k a0 a1 bt307.2.1 true bt301.1 bt304.1 bt307.1)) else (impl_ReadFrame.j0 k a0 a1 bt307.2.1 true bt301.1 bt304.1 bt307.1)) else (impl_ReadFrame.j0 k a0 a1 bt307.2.1 true bt301.1 bt304.1 bt307.1))))
theorem impl_ReadFrame.mono_l : ∀ k, (∀ y0 y1 y2 y3 y4 y5 y6, LeO (impl_ReadFrame.j0 k y0 y1 y2 y3 y4 y5 y6) (impl_ReadFrame.j0 (k + 1) y0 y1 y2 y3 y4 y5 y6))
 | 0 => fun _ _ _ _ _ _ _ r h => by simp [impl_ReadFrame.j0] at h
 | k + 1 => by
  have ih0 := impl_ReadFrame.mono_l k
  ·intro y0 y1 y2 y3 y4 y5 y6
   unfold impl_ReadFrame.j0
   repeat' first
   | (with_reducible exact ih0 _ _ _ _ _ _ _)
   | (with_reducible exact impl_FrameText.mono _ _ _ _)
   | (with_reducible exact impl_ReadShort.mono _ _ _)
   | (with_reducible exact impl_ReadVar.mono _ _ _)
   | (with_reducible exact LeO.refl _)
   | (with_reducible exact LeO.none _)
   | (with_reducible refine LeO.ite ?_ ?_)
   | (with_reducible refine LeO.bind ?_ (fun _ => ?_))
   | exact ih0 _ _ _ _ _ _ _
   | exact impl_FrameText.mono _ _ _ _
   | exact impl_ReadShort.mono _ _ _
   | exact impl_ReadVar.mono _ _ _
   | exact LeO.none _
   | refine LeO.ite ?_ ?_
   | refine LeO.bind ?_ (fun _ => ?_)
theorem impl_ReadFrame.mono : ∀ a0 a1 k, LeO (impl_ReadFrame.f k a0 a1) (impl_ReadFrame.f (k + 1) a0 a1) := by
 intro a0 a1 k
 have ih0 := impl_ReadFrame.mono_l k
 unfold impl_ReadFrame.f
 repeat' first
   | (with_reducible exact ih0 _ _ _ _ _ _ _)
   | (with_reducible exact impl_FrameText.mono _ _ _ _)
   | (with_reducible exact impl_ReadShort.mono _ _ _)
   | (with_reducible exact impl_ReadVar.mono _ _ _)
   | (with_reducible exact LeO.refl _)
   | (with_reducible exact LeO.none _)
   | (with_reducible refine LeO.ite ?_ ?_)
   | (with_reducible refine LeO.bind ?_ (fun _ => ?_))
   | exact ih0 _ _ _ _ _ _ _
   | exact impl_FrameText.mono _ _ _ _
   | exact impl_ReadShort.mono _ _ _
   | exact impl_ReadVar.mono _ _ _
   | exact LeO.none _
   | refine LeO.ite ?_ ?_
   | refine LeO.bind ?_ (fun _ => ?_)
set_option maxHeartbeats 8000000 in
set_option maxRecDepth 100000 in
theorem impl_ReadFrame.calls (k : Nat) (a0 : ByteArray) (a1 : Int) (r1 : Int) (r2 : Int) (r3 : ByteArray) (r4 : Int) (r5 : Bool) (w : World) (h : impl_ReadFrame.f k a0 a1 = some (r1, r2, r3, r4, r5)) :
  Calls Try.prog 70 #[.string a0, .int .i64 a1] w fun e w' => e = .returned (.tuple #[.agg #[.int .i64 r1, .int .i64 r2, .string r3], .int .i64 r4, .bool r5]) ∧ Below w.heap.size w w' := by
 have hu77 := Try.underlying77
 have HB := ak (Below.refl w.heap.size w)
 have H : ((impl_ReadVar.f k a0 a1).bind fun bt301 => ((impl_ReadVar.f k a0 bt301.2.1).bind fun bt304 => ((impl_ReadShort.f k a0 bt304.2.1).bind fun bt307 => (if bt301.2.2 = true then (if bt304.2.2 = true then (if bt307.2.2 = true then ((impl_FrameOk.f bt301.1 bt304.1 bt307.1).bind fun t311 => (if t311 = true then (impl_ReadFrame.j0 k a0 a1 bt307.2.1 (decide ((wrap64 ((a0.size : Int) - bt307.2.1)) < 4)) bt301.1 bt304.1 bt307.1) else (impl_ReadFrame.j0 k a0 a1 bt307.2.1 true bt301.1 bt304.1 bt307.1))) else (impl_ReadFrame.j0 k a0 a1 bt307.2.1 true bt301.1 bt304.1 bt307.1)) else (impl_ReadFrame.j0 k a0 a1 bt307.2.1 true bt301.1 bt304.1 bt307.1)) else (impl_ReadFrame.j0 k a0 a1 bt307.2.1 true bt301.1 bt304.1 bt307.1))))) = some (r1, r2, r3, r4, r5) := h
 clear h
 replace H := Option.bind_eq_some_iff.mp H
 obtain ⟨⟨t301, t302, t303⟩, A30, H⟩ := H
 replace H : ((impl_ReadVar.f k a0 t302).bind fun bt304 => ((impl_ReadShort.f k a0 bt304.2.1).bind fun bt307 => (if t303 = true then (if bt304.2.2 = true then (if bt307.2.2 = true then ((impl_FrameOk.f t301 bt304.1 bt307.1).bind fun t311 => (if t311 = true then (impl_ReadFrame.j0 k a0 a1 bt307.2.1 (decide ((wrap64 ((a0.size : Int) - bt307.2.1)) < 4)) t301 bt304.1 bt307.1) else (impl_ReadFrame.j0 k a0 a1 bt307.2.1 true t301 bt304.1 bt307.1))) else (impl_ReadFrame.j0 k a0 a1 bt307.2.1 true t301 bt304.1 bt307.1)) else (impl_ReadFrame.j0 k a0 a1 bt307.2.1 true t301 bt304.1 bt307.1)) else (impl_ReadFrame.j0 k a0 a1 bt307.2.1 true t301 bt304.1 bt307.1)))) = some (r1, r2, r3, r4, r5) := H
 have A3 := Aside0.mk A30
 clear A30
 replace H := Option.bind_eq_some_iff.mp H
 obtain ⟨⟨t304, t305, t306⟩, A40, H⟩ := H
 replace H : ((impl_ReadShort.f k a0 t305).bind fun bt307 => (if t303 = true then (if t306 = true then (if bt307.2.2 = true then ((impl_FrameOk.f t301 t304 bt307.1).bind fun t311 => (if t311 = true then (impl_ReadFrame.j0 k a0 a1 bt307.2.1 (decide ((wrap64 ((a0.size : Int) - bt307.2.1)) < 4)) t301 t304 bt307.1) else (impl_ReadFrame.j0 k a0 a1 bt307.2.1 true t301 t304 bt307.1))) else (impl_ReadFrame.j0 k a0 a1 bt307.2.1 true t301 t304 bt307.1)) else (impl_ReadFrame.j0 k a0 a1 bt307.2.1 true t301 t304 bt307.1)) else (impl_ReadFrame.j0 k a0 a1 bt307.2.1 true t301 t304 bt307.1))) = some (r1, r2, r3, r4, r5) := H
 have A4 := Aside0.mk A40
 clear A40
 replace H := Option.bind_eq_some_iff.mp H
 obtain ⟨⟨t307, t308, t309⟩, A50, H⟩ := H
 replace H : (if t303 = true then (if t306 = true then (if t309 = true then ((impl_FrameOk.f t301 t304 t307).bind fun t311 => (if t311 = true then (impl_ReadFrame.j0 k a0 a1 t308 (decide ((wrap64 ((a0.size : Int) - t308)) < 4)) t301 t304 t307) else (impl_ReadFrame.j0 k a0 a1 t308 true t301 t304 t307))) else (impl_ReadFrame.j0 k a0 a1 t308 true t301 t304 t307)) else (impl_ReadFrame.j0 k a0 a1 t308 true t301 t304 t307)) else (impl_ReadFrame.j0 k a0 a1 t308 true t301 t304 t307)) = some (r1, r2, r3, r4, r5) := H
 have A5 := Aside0.mk A50
 clear A50
 have HC6 := Aside0.mk H
 clear H
 go_enter Try.func70, Try.ntmps70
 go_upto_region 5 with (first | ((with_reducible refine gate_dst (N := 4) rfl ?_); (try (refine gate_guard (by rfl) ?_; dsimp only)); refine bx 4 #[.int .i64 0, .int .i64 0, .string (⟨#[]⟩ : ByteArray)] 77 ?_; intro gb300 hg w7 hbox hb; replace BK300 := ak (hbox); replace GW300 := ak (bz hg (lG HB)); replace GE300 := ak (bz hg (lG HB)); replace HB := lB HB hb; clear hb hbox hg) | ((with_reducible refine gate_callee (f := 92) rfl ?_); refine gl (some 20) Try.func92 #[.string a0, .int .i64 a1] ?_; (with_reducible refine (impl_ReadVar.calls k a0 a1 t301 t302 t303 _ A3.out).mono ?_); rintro e w' ⟨rfl, ⟨nd, rfl⟩⟩; refine ⟨_, rfl, ?_⟩; (try (rw [drewN_self w7]; generalize hq_ : World.drewN w7 _ = w7; have n0_ : Aside0 (w7.heap[gb300]? = some (.cells #[.int .i64 0, .int .i64 0, .string (⟨#[]⟩ : ByteArray)] 77 (0, 0))) := ⟨by rw [← hq_]; exact (bG BK300)⟩; have n1_ : Aside0 (Below w.heap.size w w7) := ⟨by rw [← hq_]; exact (lT HB (gC GE300 gN))⟩; clear BK300 HB hq_; have BK300 := n0_; have HB := n1_; clear n0_ n1_)); (try (have hy300_0 : w7.cell? ⟨gb300, 0, none⟩ = some (.int .i64 0) := bc BK300 0; have hv300_0 := blk_frozen BK300.out 0; have hy300_1 : w7.cell? ⟨gb300, 1, none⟩ = some (.int .i64 0) := bc BK300 1; have hv300_1 := blk_frozen BK300.out 1; have hy300_2 : w7.cell? ⟨gb300, 2, none⟩ = some (.string (⟨#[]⟩ : ByteArray)) := bc BK300 2; have hv300_2 := blk_frozen BK300.out 2))) | ((with_reducible refine gate_callee (f := 92) rfl ?_); refine gl (some 27) Try.func92 #[.string a0, .int .i64 t302] ?_; (with_reducible refine (impl_ReadVar.calls k a0 t302 t304 t305 t306 _ A4.out).mono ?_); rintro e w' ⟨rfl, ⟨nd, rfl⟩⟩; refine ⟨_, rfl, ?_⟩; (try (rw [drewN_self w7]; generalize hq_ : World.drewN w7 _ = w7; have n0_ : Aside0 (w7.heap[gb300]? = some (.cells #[.int .i64 0, .int .i64 0, .string (⟨#[]⟩ : ByteArray)] 77 (0, 0))) := ⟨by rw [← hq_]; exact (bG BK300)⟩; have n1_ : Aside0 (Below w.heap.size w w7) := ⟨by rw [← hq_]; exact (lT HB (gC GE300 gN))⟩; clear BK300 HB hq_; have BK300 := n0_; have HB := n1_; clear n0_ n1_)); (try (have hy300_0 : w7.cell? ⟨gb300, 0, none⟩ = some (.int .i64 0) := bc BK300 0; have hv300_0 := blk_frozen BK300.out 0; have hy300_1 : w7.cell? ⟨gb300, 1, none⟩ = some (.int .i64 0) := bc BK300 1; have hv300_1 := blk_frozen BK300.out 1; have hy300_2 : w7.cell? ⟨gb300, 2, none⟩ = some (.string (⟨#[]⟩ : ByteArray)) := bc BK300 2; have hv300_2 := blk_frozen BK300.out 2))) | ((with_reducible refine gate_callee (f := 93) rfl ?_); refine gl (some 34) Try.func93 #[.string a0, .int .i64 t305] ?_; (with_reducible refine (impl_ReadShort.calls k a0 t305 t307 t308 t309 _ A5.out).mono ?_); rintro e w' ⟨rfl, ⟨nd, rfl⟩⟩; refine ⟨_, rfl, ?_⟩; (try (rw [drewN_self w7]; generalize hq_ : World.drewN w7 _ = w7; have n0_ : Aside0 (w7.heap[gb300]? = some (.cells #[.int .i64 0, .int .i64 0, .string (⟨#[]⟩ : ByteArray)] 77 (0, 0))) := ⟨by rw [← hq_]; exact (bG BK300)⟩; have n1_ : Aside0 (Below w.heap.size w w7) := ⟨by rw [← hq_]; exact (lT HB (gC GE300 gN))⟩; clear BK300 HB hq_; have BK300 := n0_; have HB := n1_; clear n0_ n1_)); (try (have hy300_0 : w7.cell? ⟨gb300, 0, none⟩ = some (.int .i64 0) := bc BK300 0; have hv300_0 := blk_frozen BK300.out 0; have hy300_1 : w7.cell? ⟨gb300, 1, none⟩ = some (.int .i64 0) := bc BK300 1; have hv300_1 := blk_frozen BK300.out 1; have hy300_2 : w7.cell? ⟨gb300, 2, none⟩ = some (.string (⟨#[]⟩ : ByteArray)) := bc BK300 2; have hv300_2 := blk_frozen BK300.out 2))) | ((with_reducible refine gate_dst (N := 14) rfl ?_); (try (refine gate_guard (by rfl) ?_; dsimp only)); refine bx 14 #[.int .i64 0, .int .i64 0, .string (⟨#[]⟩ : ByteArray)] 77 ?_; intro gb310 hg w8 hbox hb; replace BK310 := ak (hbox); replace GW310 := ak (bz hg (lT HB (gC GE300 gN))); replace GE310 := ak (bz hg (lT HB (gC GE300 gN))); replace HB := ak (below_step (lT HB (gC GE300 gN)) hb); replace NB300_310 := ak (nl hg (bG BK300)); replace NB310_300 := ak (ng hg (bG BK300)); replace BK300 := bB BK300 hb; clear hb hbox hg; have hnb9 := NB310_300.out; have hnc9 := NB300_310.out; obtain ⟨hcz10_0, hcz10_1, hcz10_2, hfz10_0, hfz10_1, hfz10_2⟩ := bC3 BK310))
 (try simp only [Act.put, List.setIfInBounds_toArray, List.set_cons_zero, List.set_cons_succ])
 go_cut [63] (fun v63 wc => ∃ (kq : Nat) (x63_5 : Bool), v63 = .bool x63_5 ∧ Aside0 (impl_ReadFrame.j0 kq a0 a1 t308 x63_5 t301 t304 t307 = some (r1, r2, r3, r4, r5)) ∧ Aside0 (kq ≤ k) ∧ Aside0 (wc.heap[gb300]? = some (.cells #[.int .i64 0, .int .i64 0, .string (⟨#[]⟩ : ByteArray)] 77 (0, 0))) ∧ Aside0 (wc.heap[gb310]? = some (.cells #[.int .i64 t301, .int .i64 t304, .string t307] 77 (0, 0))) ∧ Aside0 (Below w.heap.size w wc))
 case first =>
  have H := HC6.out
  clear HC6
  by_cases c11 : t303 = true
  ·subst c11
   have H1 : (if t306 = true then (if t309 = true then ((impl_FrameOk.f t301 t304 t307).bind fun t311 => (if t311 = true then (impl_ReadFrame.j0 k a0 a1 t308 (decide ((wrap64 ((a0.size : Int) - t308)) < 4)) t301 t304 t307) else (impl_ReadFrame.j0 k a0 a1 t308 true t301 t304 t307))) else (impl_ReadFrame.j0 k a0 a1 t308 true t301 t304 t307)) else (impl_ReadFrame.j0 k a0 a1 t308 true t301 t304 t307)) = some (r1, r2, r3, r4, r5) := by rw [if_pos rfl] at H; exact H
   clear H
   have H := H1
   clear H1
   by_cases c12 : t306 = true
   ·subst c12
    have H1 : (if t309 = true then ((impl_FrameOk.f t301 t304 t307).bind fun t311 => (if t311 = true then (impl_ReadFrame.j0 k a0 a1 t308 (decide ((wrap64 ((a0.size : Int) - t308)) < 4)) t301 t304 t307) else (impl_ReadFrame.j0 k a0 a1 t308 true t301 t304 t307))) else (impl_ReadFrame.j0 k a0 a1 t308 true t301 t304 t307)) = some (r1, r2, r3, r4, r5) := by rw [if_pos rfl] at H; exact H
    clear H
    have H := H1
    clear H1
    by_cases c13 : t309 = true
    ·subst c13
     have H1 : ((impl_FrameOk.f t301 t304 t307).bind fun t311 => (if t311 = true then (impl_ReadFrame.j0 k a0 a1 t308 (decide ((wrap64 ((a0.size : Int) - t308)) < 4)) t301 t304 t307) else (impl_ReadFrame.j0 k a0 a1 t308 true t301 t304 t307))) = some (r1, r2, r3, r4, r5) := by rw [if_pos rfl] at H; exact H
     clear H
     have H := H1
     clear H1
     replace H := Option.bind_eq_some_iff.mp H
     obtain ⟨t311, A140, H⟩ := H
     replace H : (if t311 = true then (impl_ReadFrame.j0 k a0 a1 t308 (decide ((wrap64 ((a0.size : Int) - t308)) < 4)) t301 t304 t307) else (impl_ReadFrame.j0 k a0 a1 t308 true t301 t304 t307)) = some (r1, r2, r3, r4, r5) := H
     have A14 := Aside0.mk A140
     clear A140
     by_cases c15 : t311 = true
     ·subst c15
      have H1 : (impl_ReadFrame.j0 k a0 a1 t308 (decide ((wrap64 ((a0.size : Int) - t308)) < 4)) t301 t304 t307) = some (r1, r2, r3, r4, r5) := by rw [if_pos rfl] at H; exact H
      clear H
      have H := H1
      clear H1
      have H' := Aside0.mk H
      clear H
      have hnb16 := NB310_300.out
      have hnc16 := NB300_310.out
      obtain ⟨hcz17_0, hcz17_1, hcz17_2, hfz17_0, hfz17_1, hfz17_2⟩ := bC3 BK310
      go_wp2_with (first | (go_at_call 94; (with_reducible refine (impl_FrameOk.calls t301 t304 t307 true _ A14.out).mono ?_); rintro e w18 ⟨rfl, hb⟩; replace BK300 := ak (blk_below (bT BK300 (nC NB300_310 nN)) hb); replace BK310 := ak (blk_below (g := gb310) (o := .cells #[.int .i64 t301, .int .i64 t304, .string t307] 77 (0, 0)) (bW BK310) hb); replace HB := ak (below_step (lT HB (gC GE300 (gC GE310 gN))) hb); (try clear hb); (try clear hk)))
      go_meet
      case rel => exact ⟨_, (decide ((wrap64 ((a0.size : Int) - t308)) < 4)), (by first | rfl | (simp; done) | (simp [*]; done)), H', ⟨by first | omega | exact Nat.le_refl _⟩, ⟨bG BK300⟩, ⟨bG BK310⟩, ⟨by exact lT HB (gC GE300 (gC GE310 gN))⟩⟩
     ·replace c15 := Bool.eq_false_iff.mpr c15
      subst c15
      have H1 : (impl_ReadFrame.j0 k a0 a1 t308 true t301 t304 t307) = some (r1, r2, r3, r4, r5) := by rw [if_neg (show ¬ (false = true) by decide)] at H; exact H
      clear H
      have H := H1
      clear H1
      have H' := Aside0.mk H
      clear H
      have hnb19 := NB310_300.out
      have hnc19 := NB300_310.out
      obtain ⟨hcz20_0, hcz20_1, hcz20_2, hfz20_0, hfz20_1, hfz20_2⟩ := bC3 BK310
      go_wp2_with (first | (go_at_call 94; (with_reducible refine (impl_FrameOk.calls t301 t304 t307 false _ A14.out).mono ?_); rintro e w21 ⟨rfl, hb⟩; replace BK300 := ak (blk_below (bT BK300 (nC NB300_310 nN)) hb); replace BK310 := ak (blk_below (g := gb310) (o := .cells #[.int .i64 t301, .int .i64 t304, .string t307] 77 (0, 0)) (bW BK310) hb); replace HB := ak (below_step (lT HB (gC GE300 (gC GE310 gN))) hb); (try clear hb); (try clear hk)))
      go_meet
      case rel => exact ⟨_, (true), (by first | rfl | (simp; done) | (simp [*]; done)), H', ⟨by first | omega | exact Nat.le_refl _⟩, ⟨bG BK300⟩, ⟨bG BK310⟩, ⟨by exact lT HB (gC GE300 (gC GE310 gN))⟩⟩
    ·replace c13 := Bool.eq_false_iff.mpr c13
     subst c13
     have H1 : (impl_ReadFrame.j0 k a0 a1 t308 true t301 t304 t307) = some (r1, r2, r3, r4, r5) := by rw [if_neg (show ¬ (false = true) by decide)] at H; exact H
     clear H
     have H := H1
     clear H1
     have H' := Aside0.mk H
     clear H
     go_wp2
     go_meet
     case rel => exact ⟨_, (true), (by first | rfl | (simp; done) | (simp [*]; done)), H', ⟨by first | omega | exact Nat.le_refl _⟩, ⟨by (with_reducible repeat (first | refine blk_drewN ?_ _ | refine blk_drew ?_ | refine blk_alloc ?_ _)); refine blk_far ?_ NB300_310.out _; (with_reducible repeat (first | refine blk_drewN ?_ _ | refine blk_drew ?_ | refine blk_alloc ?_ _)); refine blk_far ?_ NB300_310.out _; (with_reducible repeat (first | refine blk_drewN ?_ _ | refine blk_drew ?_ | refine blk_alloc ?_ _)); refine blk_far ?_ NB300_310.out _; (with_reducible repeat (first | refine blk_drewN ?_ _ | refine blk_drew ?_ | refine blk_alloc ?_ _)); exact BK300.out⟩, ⟨bW BK310⟩, ⟨by exact lT HB (gC GE300 (gC GE310 gN))⟩⟩
   ·replace c12 := Bool.eq_false_iff.mpr c12
    subst c12
    have H1 : (impl_ReadFrame.j0 k a0 a1 t308 true t301 t304 t307) = some (r1, r2, r3, r4, r5) := by rw [if_neg (show ¬ (false = true) by decide)] at H; exact H
    clear H
    have H := H1
    clear H1
    have H' := Aside0.mk H
    clear H
    go_wp2
    go_meet
    case rel => exact ⟨_, (true), (by first | rfl | (simp; done) | (simp [*]; done)), H', ⟨by first | omega | exact Nat.le_refl _⟩, ⟨by (with_reducible repeat (first | refine blk_drewN ?_ _ | refine blk_drew ?_ | refine blk_alloc ?_ _)); refine blk_far ?_ NB300_310.out _; (with_reducible repeat (first | refine blk_drewN ?_ _ | refine blk_drew ?_ | refine blk_alloc ?_ _)); refine blk_far ?_ NB300_310.out _; (with_reducible repeat (first | refine blk_drewN ?_ _ | refine blk_drew ?_ | refine blk_alloc ?_ _)); refine blk_far ?_ NB300_310.out _; (with_reducible repeat (first | refine blk_drewN ?_ _ | refine blk_drew ?_ | refine blk_alloc ?_ _)); exact BK300.out⟩, ⟨bW BK310⟩, ⟨by exact lT HB (gC GE300 (gC GE310 gN))⟩⟩
  ·replace c11 := Bool.eq_false_iff.mpr c11
   subst c11
   have H1 : (impl_ReadFrame.j0 k a0 a1 t308 true t301 t304 t307) = some (r1, r2, r3, r4, r5) := by rw [if_neg (show ¬ (false = true) by decide)] at H; exact H
   clear H
   have H := H1
   clear H1
   have H' := Aside0.mk H
   clear H
   go_wp2
   go_meet
   case rel => exact ⟨_, (true), (by first | rfl | (simp; done) | (simp [*]; done)), H', ⟨by first | omega | exact Nat.le_refl _⟩, ⟨by (with_reducible repeat (first | refine blk_drewN ?_ _ | refine blk_drew ?_ | refine blk_alloc ?_ _)); refine blk_far ?_ NB300_310.out _; (with_reducible repeat (first | refine blk_drewN ?_ _ | refine blk_drew ?_ | refine blk_alloc ?_ _)); refine blk_far ?_ NB300_310.out _; (with_reducible repeat (first | refine blk_drewN ?_ _ | refine blk_drew ?_ | refine blk_alloc ?_ _)); refine blk_far ?_ NB300_310.out _; (with_reducible repeat (first | refine blk_drewN ?_ _ | refine blk_drew ?_ | refine blk_alloc ?_ _)); exact BK300.out⟩, ⟨bW BK310⟩, ⟨by exact lT HB (gC GE300 (gC GE310 gN))⟩⟩
 case rest =>
  clear HC6
  try clear c1
  try clear p2
  try clear p6
  try clear c7
  try clear c9
  try clear c11
  try clear c12
  try clear c13
  try clear c15
  try clear c16
  try clear c19
  try clear hcz10_0
  try clear hcz10_1
  try clear hcz10_2
  try clear hcz17_0
  try clear hcz17_1
  try clear hcz17_2
  try clear hcz20_0
  try clear hcz20_1
  try clear hcz20_2
  try clear hfz10_0
  try clear hfz10_1
  try clear hfz10_2
  try clear hfz17_0
  try clear hfz17_1
  try clear hfz17_2
  try clear hfz20_0
  try clear hfz20_1
  try clear hfz20_2
  obtain ⟨kq, x63_5, rfl, HA, HJ5, BK300, BK310, HB⟩ := hcut
  cases kq with
  | zero => exact absurd HA.out (by simp [impl_ReadFrame.j0])
  | succ kj5 =>
   have H := HA.out
   clear HA
   simp only [impl_ReadFrame.j0] at H
   by_cases c22 : x63_5 = true
   ·subst c22
    have H1 : (some (0, 0, (⟨#[]⟩ : ByteArray), 0, false)) = some (r1, r2, r3, r4, r5) := by rw [if_pos rfl] at H; exact H
    clear H
    have H := H1
    clear H1
    simp only [Option.some.injEq, Prod.mk.injEq] at H
    obtain ⟨rfl, rfl, rfl, rfl, rfl⟩ := H
    have hnb23 := NB300_310.out
    have hnc23 := NB310_300.out
    obtain ⟨hcz24_0, hcz24_1, hcz24_2, hfz24_0, hfz24_1, hfz24_2⟩ := bC3 BK300
    go_wp2
    refine bodyPost_ret (results_ctt rfl _ _ gb300 77 #[.int .i64 0, .int .i64 0, .string (⟨#[]⟩ : ByteArray)] (0, 0) _ rfl (bW BK300) Try.underlying77 rfl (by kernel_rfl)) rfl ?_
    exact ⟨ew, by exact lT HB (gC GE300 (gC GE310 gN))⟩
   ·replace c22 := Bool.eq_false_iff.mpr c22
    subst c22
    have H1 : ((impl_FrameText.f kj5 t301 t304 t307).bind fun bt312 => (if 0 ≤ a1 then (if a1 ≤ (wrap64 (t308 + 4)) then (if (wrap64 (t308 + 4)) ≤ (a0.size : Int) then (if (a0.extract (a1 : Int).toNat ((wrap64 (t308 + 4)) : Int).toNat).toList = bt312.1.toList then (some (t301, t304, t307, wrap64 (t308 + 4), true)) else (some (0, 0, (⟨#[]⟩ : ByteArray), 0, false))) else (none)) else (none)) else (none))) = some (r1, r2, r3, r4, r5) := by rw [if_neg (show ¬ (false = true) by decide)] at H; exact H
    clear H
    have H := H1
    clear H1
    replace H := Option.bind_eq_some_iff.mp H
    obtain ⟨⟨t312, t313⟩, A250, H⟩ := H
    replace H : (if 0 ≤ a1 then (if a1 ≤ (wrap64 (t308 + 4)) then (if (wrap64 (t308 + 4)) ≤ (a0.size : Int) then (if (a0.extract (a1 : Int).toNat ((wrap64 (t308 + 4)) : Int).toNat).toList = t312.toList then (some (t301, t304, t307, wrap64 (t308 + 4), true)) else (some (0, 0, (⟨#[]⟩ : ByteArray), 0, false))) else (none)) else (none)) else (none)) = some (r1, r2, r3, r4, r5) := H
    have A25 := Aside0.mk A250
    clear A250
    by_cases c26 : 0 ≤ a1
    ·rw [if_pos c26] at H
     have c26b0 := eq_true c26
     have c26b1 : decide (0 ≤ a1) = true := decide_eq_true c26
     clear c26
     by_cases c27 : a1 ≤ (wrap64 (t308 + 4))
     ·rw [if_pos c27] at H
      have c27b0 := eq_true c27
      have c27b1 : decide (a1 ≤ (wrap64 (t308 + 4))) = true := decide_eq_true c27
      by_cases c28 : (wrap64 (t308 + 4)) ≤ (a0.size : Int)
      ·rw [if_pos c28] at H
       have c28b0 := eq_true c28
       have c28b1 : decide ((wrap64 (t308 + 4)) ≤ (a0.size : Int)) = true := decide_eq_true c28
       by_cases c29 : (a0.extract (a1 : Int).toNat ((wrap64 (t308 + 4)) : Int).toNat).toList = t312.toList
       ·rw [if_pos c29] at H
        have c29b0 : ((a0.extract (a1 : Int).toNat ((wrap64 (t308 + 4)) : Int).toNat).toList == t312.toList) = true := beq_iff_eq.mpr c29
        have c29b1 : ((a0.extract (a1 : Int).toNat ((wrap64 (t308 + 4)) : Int).toNat).toList != t312.toList) = false := bne_eq_false_iff_eq.mpr c29
        clear c29
        simp only [Option.some.injEq, Prod.mk.injEq] at H
        obtain ⟨rfl, rfl, rfl, rfl, rfl⟩ := H
        have hnb30 := NB310_300.out
        have hnc30 := NB300_310.out
        obtain ⟨hcz31_0, hcz31_1, hcz31_2, hfz31_0, hfz31_1, hfz31_2⟩ := bC3 BK310
        go_wp2_with (first | ((with_reducible refine gate_callee (f := 95) rfl ?_); refine gl (some 67) Try.func95 #[.agg #[.int .i64 t301, .int .i64 t304, .string t307]] ?_; (with_reducible refine (impl_FrameText.calls kj5 t301 t304 t307 t312 t313 _ A25.out).mono ?_); rintro e w32 ⟨rfl, hb⟩; refine ⟨_, rfl, ?_⟩; replace BK300 := bB BK300 hb; replace BK310 := bB BK310 hb; replace HB := ak (below_step (lT HB (gC GE300 (gC GE310 gN))) hb); (try clear hb); (try clear hk); obtain ⟨hcz33_0, hcz33_1, hcz33_2, hfz33_0, hfz33_1, hfz33_2⟩ := bC3 BK310; obtain ⟨hcz34_0, hcz34_1, hcz34_2, hfz34_0, hfz34_1, hfz34_2⟩ := bC3 BK300))
        refine bodyPost_ret (results_ctt rfl _ _ gb300 77 #[.int .i64 t301, .int .i64 t304, .string t307] (0, 0) _ rfl (bW BK300) Try.underlying77 rfl (by kernel_rfl)) rfl ?_
        exact ⟨ew, by exact lT HB (gC GE300 (gC GE310 gN))⟩
       ·rw [if_neg c29] at H
        have c29b0 : ((a0.extract (a1 : Int).toNat ((wrap64 (t308 + 4)) : Int).toNat).toList == t312.toList) = false := beq_eq_false_iff_ne.mpr c29
        have c29b1 : ((a0.extract (a1 : Int).toNat ((wrap64 (t308 + 4)) : Int).toNat).toList != t312.toList) = true := bne_iff_ne.mpr c29
        simp only [Option.some.injEq, Prod.mk.injEq] at H
        obtain ⟨rfl, rfl, rfl, rfl, rfl⟩ := H
        have hnb35 := NB310_300.out
        have hnc35 := NB300_310.out
        obtain ⟨hcz36_0, hcz36_1, hcz36_2, hfz36_0, hfz36_1, hfz36_2⟩ := bC3 BK310
        go_wp2_with (first | ((with_reducible refine gate_callee (f := 95) rfl ?_); refine gl (some 67) Try.func95 #[.agg #[.int .i64 t301, .int .i64 t304, .string t307]] ?_; (with_reducible refine (impl_FrameText.calls kj5 t301 t304 t307 t312 t313 _ A25.out).mono ?_); rintro e w37 ⟨rfl, hb⟩; refine ⟨_, rfl, ?_⟩; replace BK300 := bB BK300 hb; replace BK310 := bB BK310 hb; replace HB := ak (below_step (lT HB (gC GE300 (gC GE310 gN))) hb); (try clear hb); (try clear hk); obtain ⟨hcz38_0, hcz38_1, hcz38_2, hfz38_0, hfz38_1, hfz38_2⟩ := bC3 BK300))
        refine bodyPost_ret (results_ctt rfl _ _ gb300 77 #[.int .i64 0, .int .i64 0, .string (⟨#[]⟩ : ByteArray)] (0, 0) _ rfl (bW BK300) Try.underlying77 rfl (by kernel_rfl)) rfl ?_
        exact ⟨ew, by exact lT HB (gC GE300 (gC GE310 gN))⟩
      ·rw [if_neg c28] at H
       exact absurd H (by simp)
     ·rw [if_neg c27] at H
      exact absurd H (by simp)
    ·rw [if_neg c26] at H
     exact absurd H (by simp)

/-! ### impl_SegGen: function 41 -/
def impl_SegGen.f (k : Nat) (l0_0 : List ByteArray) (l0_1 : List (S67)) (a1 : Int) : Option (Int) := (impl_SegText.f k l0_0 l0_1 a1).bind fun t315 => ((impl_ReadFrame.f k t315 0).bind fun bt316 => (if bt316.2.2.1.toList = ([115, 101, 103] : List UInt8) then (some bt316.1) else (some 0)))
theorem impl_SegGen.mono : ∀ a0 a1 a2 k, LeO (impl_SegGen.f k a0 a1 a2) (impl_SegGen.f (k + 1) a0 a1 a2) := by
 intro a0 a1 a2 k
 unfold impl_SegGen.f
 repeat' first
   | (with_reducible exact impl_ReadFrame.mono _ _ _)
   | (with_reducible exact impl_SegText.mono _ _ _ _)
   | (with_reducible exact LeO.refl _)
   | (with_reducible exact LeO.none _)
   | (with_reducible refine LeO.ite ?_ ?_)
   | (with_reducible refine LeO.bind ?_ (fun _ => ?_))
   | exact impl_ReadFrame.mono _ _ _
   | exact impl_SegText.mono _ _ _ _
   | exact LeO.none _
   | refine LeO.ite ?_ ?_
   | refine LeO.bind ?_ (fun _ => ?_)
set_option maxHeartbeats 8000000 in
set_option maxRecDepth 100000 in
theorem impl_SegGen.calls (k : Nat) (A0_0 : Option Addr) (c0_0 : Nat) (l0_0 : List ByteArray) (A0_1 : Option Addr) (c0_1 : Nat) (l0_1 : List (S67)) (a1 : Int) (r : Int) (w : World) (hr0_0 : Kd.C Kd.string w A0_0 l0_0.length l0_0) (hc0_0 : l0_0.length ≤ c0_0) (hr0_1 : Kd.C k67 w A0_1 l0_1.length l0_1) (hc0_1 : l0_1.length ≤ c0_1) (h : impl_SegGen.f k l0_0 l0_1 a1 = some r) :
  Calls Try.prog 41 #[.agg #[.slice A0_0 l0_0.length c0_0, .slice A0_1 l0_1.length c0_1], .int .i64 a1] w fun e w' => e = .returned (.int .i64 r) ∧ Below w.heap.size w w' := by
 have hu30 := Try.underlying30
 have hu77 := Try.underlying77
 have HR0_0 := Aside0.mk hr0_0
 have HC0_0 := Aside0.mk hc0_0
 clear hr0_0 hc0_0
 have HR0_1 := Aside0.mk hr0_1
 have HC0_1 := Aside0.mk hc0_1
 clear hr0_1 hc0_1
 have HB := ak (Below.refl w.heap.size w)
 have H : ((impl_SegText.f k l0_0 l0_1 a1).bind fun t315 => ((impl_ReadFrame.f k t315 0).bind fun bt316 => (if bt316.2.2.1.toList = ([115, 101, 103] : List UInt8) then (some bt316.1) else (some 0)))) = some r := h
 clear h
 replace H := Option.bind_eq_some_iff.mp H
 obtain ⟨t315, A30, H⟩ := H
 replace H : ((impl_ReadFrame.f k t315 0).bind fun bt316 => (if bt316.2.2.1.toList = ([115, 101, 103] : List UInt8) then (some bt316.1) else (some 0))) = some r := H
 have A3 := Aside0.mk A30
 clear A30
 replace H := Option.bind_eq_some_iff.mp H
 obtain ⟨⟨t316, t317, t318, t319, t320⟩, A40, H⟩ := H
 replace H : (if t318.toList = ([115, 101, 103] : List UInt8) then (some t316) else (some 0)) = some r := H
 have A4 := Aside0.mk A40
 clear A40
 by_cases c5 : t318.toList = ([115, 101, 103] : List UInt8)
 ·rw [if_pos c5] at H
  have c5b0 : (t318.toList == ([115, 101, 103] : List UInt8)) = true := beq_iff_eq.mpr c5
  have c5b1 : (t318.toList != ([115, 101, 103] : List UInt8)) = false := bne_eq_false_iff_eq.mpr c5
  clear c5
  obtain rfl := Option.some.inj H
  go_enter Try.func41, Try.ntmps41
  go_wp2_with (first | ((with_reducible refine gate_dst (N := 2) rfl ?_); refine bx 2 #[.slice A0_0 l0_0.length c0_0, .slice A0_1 l0_1.length c0_1] 30 ?_; intro gb314 hg w6 hbox hb; replace BK314 := ak (hbox); replace GW314 := ak (bz hg (lG HB)); replace GE314 := ak (bz hg (lG HB)); replace HB := lB HB hb; clear hb hbox hg; obtain ⟨hcz7_0, hcz7_1, hfz7_0, hfz7_1⟩ := bC2 BK314) | ((with_reducible refine gate_callee (f := 26) rfl ?_); refine gl (some 11) Try.func26 #[.agg #[.slice A0_0 l0_0.length c0_0, .slice A0_1 l0_1.length c0_1], .int .i64 a1] ?_; (with_reducible refine (impl_SegText.calls k _ _ l0_0 _ _ l0_1 a1 t315 _ ?side1 ?side2 ?side3 ?side4 A3.out).mono ?_); (case side1 => exact cG (Kd.C_below HR0_0.out HB.out)); (case side2 => exact HC0_0.out); (case side3 => exact cG (Kd.C_below HR0_1.out HB.out)); (case side4 => exact HC0_1.out); rintro e w8 ⟨rfl, hb⟩; refine ⟨_, rfl, ?_⟩; replace BK314 := bB BK314 hb; replace HB := ak (below_step (lT HB (gC GE314 gN)) hb); (try clear hb); (try clear hk)) | ((with_reducible refine gate_callee (f := 70) rfl ?_); refine gl (some 12) Try.func70 #[.string t315, .int .i64 0] ?_; (with_reducible refine (impl_ReadFrame.calls k t315 0 t316 t317 t318 t319 t320 _ A4.out).mono ?_); rintro e w9 ⟨rfl, hb⟩; refine ⟨_, rfl, ?_⟩; replace BK314 := bB BK314 hb; replace HB := ak (below_step (lT HB (gC GE314 gN)) hb); (try clear hb); (try clear hk)) | ((with_reducible refine gate_dst (N := 5) rfl ?_); refine bx 5 #[.int .i64 0, .int .i64 0, .string (⟨#[]⟩ : ByteArray)] 77 ?_; intro gb321 hg w10 hbox hb; replace BK321 := ak (hbox); replace GW321 := ak (bz hg (lT HB (gC GE314 gN))); replace GE321 := ak (bz hg (lT HB (gC GE314 gN))); replace HB := ak (below_step (lT HB (gC GE314 gN)) hb); replace NB314_321 := ak (nl hg (bG BK314)); replace NB321_314 := ak (ng hg (bG BK314)); replace BK314 := bB BK314 hb; clear hb hbox hg; have hnb11 := NB321_314.out; have hnc11 := NB314_321.out; obtain ⟨hcz12_0, hcz12_1, hcz12_2, hfz12_0, hfz12_1, hfz12_2⟩ := bC3 BK321))
  go_ret
  exact ⟨ew, by exact lT HB (gC GE314 (gC GE321 gN))⟩
 ·rw [if_neg c5] at H
  have c5b0 : (t318.toList == ([115, 101, 103] : List UInt8)) = false := beq_eq_false_iff_ne.mpr c5
  have c5b1 : (t318.toList != ([115, 101, 103] : List UInt8)) = true := bne_iff_ne.mpr c5
  obtain rfl := Option.some.inj H
  go_enter Try.func41, Try.ntmps41
  go_wp2_with (first | ((with_reducible refine gate_dst (N := 2) rfl ?_); refine bx 2 #[.slice A0_0 l0_0.length c0_0, .slice A0_1 l0_1.length c0_1] 30 ?_; intro gb314 hg w13 hbox hb; replace BK314 := ak (hbox); replace GW314 := ak (bz hg (lG HB)); replace GE314 := ak (bz hg (lG HB)); replace HB := lB HB hb; clear hb hbox hg; obtain ⟨hcz14_0, hcz14_1, hfz14_0, hfz14_1⟩ := bC2 BK314) | ((with_reducible refine gate_callee (f := 26) rfl ?_); refine gl (some 11) Try.func26 #[.agg #[.slice A0_0 l0_0.length c0_0, .slice A0_1 l0_1.length c0_1], .int .i64 a1] ?_; (with_reducible refine (impl_SegText.calls k _ _ l0_0 _ _ l0_1 a1 t315 _ ?side1 ?side2 ?side3 ?side4 A3.out).mono ?_); (case side1 => exact cG (Kd.C_below HR0_0.out HB.out)); (case side2 => exact HC0_0.out); (case side3 => exact cG (Kd.C_below HR0_1.out HB.out)); (case side4 => exact HC0_1.out); rintro e w15 ⟨rfl, hb⟩; refine ⟨_, rfl, ?_⟩; replace BK314 := bB BK314 hb; replace HB := ak (below_step (lT HB (gC GE314 gN)) hb); (try clear hb); (try clear hk)) | ((with_reducible refine gate_callee (f := 70) rfl ?_); refine gl (some 12) Try.func70 #[.string t315, .int .i64 0] ?_; (with_reducible refine (impl_ReadFrame.calls k t315 0 t316 t317 t318 t319 t320 _ A4.out).mono ?_); rintro e w16 ⟨rfl, hb⟩; refine ⟨_, rfl, ?_⟩; replace BK314 := bB BK314 hb; replace HB := ak (below_step (lT HB (gC GE314 gN)) hb); (try clear hb); (try clear hk)) | ((with_reducible refine gate_dst (N := 5) rfl ?_); refine bx 5 #[.int .i64 0, .int .i64 0, .string (⟨#[]⟩ : ByteArray)] 77 ?_; intro gb321 hg w17 hbox hb; replace BK321 := ak (hbox); replace GW321 := ak (bz hg (lT HB (gC GE314 gN))); replace GE321 := ak (bz hg (lT HB (gC GE314 gN))); replace HB := ak (below_step (lT HB (gC GE314 gN)) hb); replace NB314_321 := ak (nl hg (bG BK314)); replace NB321_314 := ak (ng hg (bG BK314)); replace BK314 := bB BK314 hb; clear hb hbox hg; have hnb18 := NB321_314.out; have hnc18 := NB314_321.out; obtain ⟨hcz19_0, hcz19_1, hcz19_2, hfz19_0, hfz19_1, hfz19_2⟩ := bC3 BK321))
  go_ret
  exact ⟨ew, by exact lT HB (gC GE314 (gC GE321 gN))⟩

/-! ### impl_ScanFrames: function 72 -/
def impl_ScanFrames.l0 : Nat → ByteArray → Int → List (S77) → Int → Option ((List (S77)) × Int)
 | 0, _, _, _, _ => none
 | k + 1, x0, x1, x6, x7 => (impl_ReadFrame.f k x0 x7).bind fun bt325 => (if bt325.2.2.2.2 = true then (if bt325.1 = x1 then (if x6.length < 4398046511104 then (impl_ScanFrames.l0 k x0 x1 (x6 ++ [(⟨bt325.1, bt325.2.1, bt325.2.2.1⟩ : S77)]) bt325.2.2.2.1) else (none)) else (some (x6, x7))) else (some (x6, x7)))
def impl_ScanFrames.f (k : Nat) (a0 : ByteArray) (a1 : Int) : Option ((List (S77)) × Int) := impl_ScanFrames.l0 k a0 a1 (([] : List (S77))) 0
theorem impl_ScanFrames.mono_l : ∀ k, (∀ y0 y1 y2 y3, LeO (impl_ScanFrames.l0 k y0 y1 y2 y3) (impl_ScanFrames.l0 (k + 1) y0 y1 y2 y3))
 | 0 => fun _ _ _ _ r h => by simp [impl_ScanFrames.l0] at h
 | k + 1 => by
  have ih0 := impl_ScanFrames.mono_l k
  ·intro y0 y1 y2 y3
   unfold impl_ScanFrames.l0
   repeat' first
   | (with_reducible exact ih0 _ _ _ _)
   | (with_reducible exact impl_ReadFrame.mono _ _ _)
   | (with_reducible exact LeO.refl _)
   | (with_reducible exact LeO.none _)
   | (with_reducible refine LeO.ite ?_ ?_)
   | (with_reducible refine LeO.bind ?_ (fun _ => ?_))
   | exact ih0 _ _ _ _
   | exact impl_ReadFrame.mono _ _ _
   | exact LeO.none _
   | refine LeO.ite ?_ ?_
   | refine LeO.bind ?_ (fun _ => ?_)
theorem impl_ScanFrames.mono : ∀ a0 a1 k, LeO (impl_ScanFrames.f k a0 a1) (impl_ScanFrames.f (k + 1) a0 a1) := by
 intro a0 a1 k
 have ih0 := impl_ScanFrames.mono_l k
 unfold impl_ScanFrames.f
 repeat' first
   | (with_reducible exact ih0 _ _ _ _)
   | (with_reducible exact impl_ReadFrame.mono _ _ _)
   | (with_reducible exact LeO.refl _)
   | (with_reducible exact LeO.none _)
   | (with_reducible refine LeO.ite ?_ ?_)
   | (with_reducible refine LeO.bind ?_ (fun _ => ?_))
   | exact ih0 _ _ _ _
   | exact impl_ReadFrame.mono _ _ _
   | exact LeO.none _
   | refine LeO.ite ?_ ?_
   | refine LeO.bind ?_ (fun _ => ?_)
set_option maxHeartbeats 8000000 in
set_option maxRecDepth 100000 in
theorem impl_ScanFrames.calls (k : Nat) (a0 : ByteArray) (a1 : Int) (r1 : List (S77)) (r2 : Int) (w : World) (h : impl_ScanFrames.f k a0 a1 = some (r1, r2)) :
  Calls Try.prog 72 #[.string a0, .int .i64 a1] w fun e w' => ∃ v0_ : Value, e = .returned (.tuple #[v0_, .int .i64 r2]) ∧ Kd.R k77 77 w' w.heap.size (fun _ => True) v0_ r1 ∧ Below w.heap.size w w' := by
 have hu77 := Try.underlying77
 have HB := ak (Below.refl w.heap.size w)
 have H : (impl_ScanFrames.l0 k a0 a1 (([] : List (S77))) 0) = some (r1, r2) := h
 clear h
 obtain ⟨y322, hy322⟩ : ∃ y_ : List (S77), y_ = (([] : List (S77))) := ⟨_, rfl⟩
 replace H : (impl_ScanFrames.l0 k a0 a1 y322 0) = some (r1, r2) := by first | (rw [hy322]; with_reducible exact H) | (have H2_ := (Option.bind_some _ _).symm.trans H; rw [hy322]; with_reducible exact H2_) | (have H2_ := (Option.bind_some _ _).symm.trans H; with_reducible exact H2_) | with_reducible exact H | (rw [hy322]; exact H) | exact H
 have Ny322 := Aside0.mk hy322
 clear hy322
 have H' := Aside0.mk H
 clear H
 go_enter Try.func72, Try.ntmps72
 go_wp2_with (first | ((with_reducible refine gate_dst (N := 11) rfl ?_); refine Kd.R_lit k77 _ 77 ?hg (N := 11) ?hd (xs := ([] : List (S77))) (inner := []) (ok := fun _ => True) (okp := fun _ => True) ?hr ?hp (fun _ hk => hk) trivial (Below.refl _ _) (Nat.le_refl _) (by simp) ?_; (case hd => rfl); (case hg => rfl); (case hr => first | (go_simp; done) | (go_simp; rfl)); (case hp => exact (Reps.none _ _)); intro v323 w3 ho4 hb hg_ hnew_; clear hg_ hnew_; (first | rw [← Ny322.out] at ho4 | (simp only [Int.reduceToNat] at ho4; rw [← Ny322.out] at ho4)); replace HO324 := ak (Kd.R_lower ho4 (below_size (lG HB))); replace HB := lB HB hb; clear hb ho4))
 go_loopg [6, 7] k (fun kq v6 v7 w' => ∃ (x6_1 : List (S77)) (x7_1 : Int), v7 = .int .i64 x7_1 ∧ Aside0 (impl_ScanFrames.l0 kq a0 a1 x6_1 x7_1 = some (r1, r2)) ∧ Aside0 (kq ≤ k) ∧ Aside0 (Kd.R k77 77 w' w.heap.size (fun _ => True) v6 x6_1) ∧ Aside0 (Below w.heap.size w w'))
 case atStart => exact ⟨(y322), (0), (by first | rfl | (simp; done) | (simp [*]; done)), H', ⟨Nat.le_refl _⟩, ⟨by (with_reducible repeat (first | apply Kd.R_alloc | apply Kd.R_drewN | apply Kd.R_drew)); exact HO324.out⟩, ⟨by exact lG HB⟩⟩
 case round =>
  clear H'
  try clear p2
  obtain ⟨x6_1, x7_1, rfl, HA, HK1, HO_6, HB⟩ := hrel
  cases gk with
  | zero => exact absurd HA.out (by simp [impl_ScanFrames.l0])
  | succ k1 =>
   have H := HA.out
   clear HA
   simp only [impl_ScanFrames.l0] at H
   replace H := Option.bind_eq_some_iff.mp H
   obtain ⟨⟨t325, t326, t327, t328, t329⟩, A50, H⟩ := H
   replace H : (if t329 = true then (if t325 = a1 then (if x6_1.length < 4398046511104 then (impl_ScanFrames.l0 k1 a0 a1 (x6_1 ++ [(⟨t325, t326, t327⟩ : S77)]) t328) else (none)) else (some (x6_1, x7_1))) else (some (x6_1, x7_1))) = some (r1, r2) := H
   have A5 := Aside0.mk A50
   clear A50
   by_cases c6 : t329 = true
   ·subst c6
    have H1 : (if t325 = a1 then (if x6_1.length < 4398046511104 then (impl_ScanFrames.l0 k1 a0 a1 (x6_1 ++ [(⟨t325, t326, t327⟩ : S77)]) t328) else (none)) else (some (x6_1, x7_1))) = some (r1, r2) := by rw [if_pos rfl] at H; exact H
    clear H
    have H := H1
    clear H1
    by_cases c7 : t325 = a1
    ·rw [if_pos c7] at H
     have c7b0 : (t325 == a1) = true := beq_iff_eq.mpr c7
     have c7b1 : (t325 != a1) = false := bne_eq_false_iff_eq.mpr c7
     clear c7
     by_cases c8 : x6_1.length < 4398046511104
     ·rw [if_pos c8] at H
      have LMc8 := Aside0.mk c8
      clear c8
      obtain ⟨y331, hy331⟩ : ∃ y_ : List (S77), y_ = (x6_1 ++ [(⟨t325, t326, t327⟩ : S77)]) := ⟨_, rfl⟩
      replace H : (impl_ScanFrames.l0 k1 a0 a1 y331 t328) = some (r1, r2) := by first | (rw [hy331]; with_reducible exact H) | (have H2_ := (Option.bind_some _ _).symm.trans H; rw [hy331]; with_reducible exact H2_) | (have H2_ := (Option.bind_some _ _).symm.trans H; with_reducible exact H2_) | with_reducible exact H | (rw [hy331]; exact H) | exact H
      have Ny331 := Aside0.mk hy331
      clear hy331
      have H' := Aside0.mk H
      clear H
      go_wp2_with (first | ((with_reducible refine gate_callee (f := 70) rfl ?_); refine gl (some 15) Try.func70 #[.string a0, .int .i64 x7_1] ?_; (with_reducible refine (impl_ReadFrame.calls k1 a0 x7_1 t325 t326 t327 t328 true _ A5.out).mono ?_); rintro e w9 ⟨rfl, hb⟩; refine ⟨_, rfl, ?_⟩; replace HO_6 := rB HO_6 hb; replace HB := lB HB hb; (try clear hb); (try clear hk)) | ((with_reducible refine gate_dst (N := 8) rfl ?_); refine bx 8 #[.int .i64 0, .int .i64 0, .string (⟨#[]⟩ : ByteArray)] 77 ?_; intro gb330 hg w10 hbox hb; replace HO_6 := ak (Kd.R_below (Kd.R_elderB (rG HO_6) gb330 (Nat.le_of_eq hg.symm)) hb); replace BK330 := ak (hbox); replace GW330 := ak (bz hg (lG HB)); replace GE330 := ak (bz hg (lG HB)); replace HB := lB HB hb; clear hb hbox hg; obtain ⟨hcz11_0, hcz11_1, hcz11_2, hfz11_0, hfz11_1, hfz11_2⟩ := bC3 BK330) | ((with_reducible refine gate_builtin (b := .append) (xs := #[.tmp 29, .tmp 31]) rfl ?_); at_builtin; refine Kd.R_append k77 (w0 := w) w.heap.size rfl (.tmp 29) (.tmp 31) 54 77 (.agg #[(.int .i64 0), (.int .i64 0), (.string ⟨#[]⟩)]) 32 rfl Try.underlying54 info77 rfl (by decide) (by omega) u6 x6_1 (⟨t325, t326, t327⟩ : S77) [.int .i64 t325, .int .i64 t326, .string t327] (fun k_ => k_ ≠ gb330) (fun _ => False) rfl (by first | (go_simp; done) | (go_simp; rfl)) ?aP (fun _ hk => hk.elim) ?aF ?aO ?aB ?aS ?aL ?_; (case aP => exact k77_mkM _ _ _ (⟨t325, t326, t327⟩ : S77)); (case aB => exact (lT HB (gC GE330 gN))); (case aF => exact (fun k_ hk => Kd.freshB (g := gb330) (o := .cells #[.int .i64 t325, .int .i64 t326, .string t327] 77 (0, 0)) (bW BK330) k_ hk)); (case aO => exact (by (with_reducible repeat (first | apply Kd.R_alloc | apply Kd.R_drewN | apply Kd.R_drew)); exact Kd.R_mono (Kd.R_far (p := ⟨gb330, 2, none⟩) (Kd.R_far (p := ⟨gb330, 1, none⟩) (Kd.R_far (p := ⟨gb330, 0, none⟩) (Kd.R_mono HO_6.out (fun k_ hk => (⟨hk, hk.2⟩ : _ ∧ k_ ≠ gb330))) (fun _ hk => hk.2) (.int .i64 t325)) (fun _ hk => hk.2) (.int .i64 t326)) (fun _ hk => hk.2) (.string t327)) (fun _ hk => hk.1.2))); (case aS => exact (below_size (lT HB (gC GE330 gN)))); (case aL => have := LMc8.out; omega); intro v332 w12 ho hb hg hat; rw [← Ny331.out] at ho; have n0_ := ak (blk_grown (g := gb330) (o := .cells #[.int .i64 t325, .int .i64 t326, .string t327] 77 (0, 0)) (bW BK330) hg (Kd.R_away HO_6.out (fun _ hk => hk.2))); have n1_ := ak (hb); have n2_ := ak (ho); clear BK330; clear HB; clear HO_6; have BK330 := n0_; have HB := n1_; have HO333 := n2_; clear n0_ n1_ n2_; clear ho hb hg hat))
      go_roundg k1
      case measure => have := HK1.out; omega
      case rel => exact ⟨(y331), (t328), (by first | rfl | (simp; done) | (simp [*]; done)), H', ⟨by have := HK1.out; omega⟩, ⟨by (with_reducible repeat (first | apply Kd.R_alloc | apply Kd.R_drewN | apply Kd.R_drew)); exact Kd.R_mono HO333.out (fun _ hk => trivial)⟩, ⟨by exact lT HB (gC GE330 gN)⟩⟩
     ·rw [if_neg c8] at H
      exact absurd H (by simp)
    ·rw [if_neg c7] at H
     have c7b0 : (t325 == a1) = false := beq_eq_false_iff_ne.mpr c7
     have c7b1 : (t325 != a1) = true := bne_iff_ne.mpr c7
     simp only [Option.some.injEq, Prod.mk.injEq] at H
     obtain ⟨rfl, rfl⟩ := H
     go_wp2_with (first | ((with_reducible refine gate_callee (f := 70) rfl ?_); refine gl (some 15) Try.func70 #[.string a0, .int .i64 x7_1] ?_; (with_reducible refine (impl_ReadFrame.calls k1 a0 x7_1 t325 t326 t327 t328 true _ A5.out).mono ?_); rintro e w13 ⟨rfl, hb⟩; refine ⟨_, rfl, ?_⟩; replace HO_6 := rB HO_6 hb; replace HB := lB HB hb; (try clear hb); (try clear hk)) | ((with_reducible refine gate_dst (N := 8) rfl ?_); refine bx 8 #[.int .i64 0, .int .i64 0, .string (⟨#[]⟩ : ByteArray)] 77 ?_; intro gb330 hg w14 hbox hb; replace HO_6 := ak (Kd.R_below (Kd.R_elderB (rG HO_6) gb330 (Nat.le_of_eq hg.symm)) hb); replace BK330 := ak (hbox); replace GW330 := ak (bz hg (lG HB)); replace GE330 := ak (bz hg (lG HB)); replace HB := lB HB hb; clear hb hbox hg; obtain ⟨hcz15_0, hcz15_1, hcz15_2, hfz15_0, hfz15_1, hfz15_2⟩ := bC3 BK330))
     go_ret2
     exact ⟨_, ew, by (with_reducible repeat (first | apply Kd.R_alloc | apply Kd.R_drewN | apply Kd.R_drew)); exact Kd.R_mono (Kd.R_far (p := ⟨gb330, 2, none⟩) (Kd.R_far (p := ⟨gb330, 1, none⟩) (Kd.R_far (p := ⟨gb330, 0, none⟩) (Kd.R_mono HO_6.out (fun k_ hk => (⟨hk, hk.2⟩ : _ ∧ k_ ≠ gb330))) (fun _ hk => hk.2) (.int .i64 t325)) (fun _ hk => hk.2) (.int .i64 t326)) (fun _ hk => hk.2) (.string t327)) (fun _ hk => trivial), by exact lT HB (gC GE330 gN)⟩
   ·replace c6 := Bool.eq_false_iff.mpr c6
    subst c6
    have H1 : (some (x6_1, x7_1)) = some (r1, r2) := by rw [if_neg (show ¬ (false = true) by decide)] at H; exact H
    clear H
    have H := H1
    clear H1
    simp only [Option.some.injEq, Prod.mk.injEq] at H
    obtain ⟨rfl, rfl⟩ := H
    go_wp2_with (first | ((with_reducible refine gate_callee (f := 70) rfl ?_); refine gl (some 15) Try.func70 #[.string a0, .int .i64 x7_1] ?_; (with_reducible refine (impl_ReadFrame.calls k1 a0 x7_1 t325 t326 t327 t328 false _ A5.out).mono ?_); rintro e w16 ⟨rfl, hb⟩; refine ⟨_, rfl, ?_⟩; replace HO_6 := rB HO_6 hb; replace HB := lB HB hb; (try clear hb); (try clear hk)) | ((with_reducible refine gate_dst (N := 8) rfl ?_); refine bx 8 #[.int .i64 0, .int .i64 0, .string (⟨#[]⟩ : ByteArray)] 77 ?_; intro gb330 hg w17 hbox hb; replace HO_6 := ak (Kd.R_below (Kd.R_elderB (rG HO_6) gb330 (Nat.le_of_eq hg.symm)) hb); replace BK330 := ak (hbox); replace GW330 := ak (bz hg (lG HB)); replace GE330 := ak (bz hg (lG HB)); replace HB := lB HB hb; clear hb hbox hg; obtain ⟨hcz18_0, hcz18_1, hcz18_2, hfz18_0, hfz18_1, hfz18_2⟩ := bC3 BK330))
    go_ret2
    exact ⟨_, ew, by (with_reducible repeat (first | apply Kd.R_alloc | apply Kd.R_drewN | apply Kd.R_drew)); exact Kd.R_mono (Kd.R_far (p := ⟨gb330, 2, none⟩) (Kd.R_far (p := ⟨gb330, 1, none⟩) (Kd.R_far (p := ⟨gb330, 0, none⟩) (Kd.R_mono HO_6.out (fun k_ hk => (⟨hk, hk.2⟩ : _ ∧ k_ ≠ gb330))) (fun _ hk => hk.2) (.int .i64 t325)) (fun _ hk => hk.2) (.int .i64 t326)) (fun _ hk => hk.2) (.string t327)) (fun _ hk => trivial), by exact lT HB (gC GE330 gN)⟩

/-! ### impl_SegFrames: function 43 -/
def impl_SegFrames.f (k : Nat) (l0_0 : List ByteArray) (l0_1 : List (S67)) (a1 : Int) : Option ((List (S77)) × Int) := (impl_SegGen.f k l0_0 l0_1 a1).bind fun t335 => (if t335 = 0 then (some (([] : List (S77)), 0)) else ((impl_SegText.f k l0_0 l0_1 a1).bind fun t336 => ((impl_ScanFrames.f k t336 t335).bind fun bt337 => (if 1 ≤ (bt337.1.length : Int) then (some ((bt337.1.drop (1 : Int).toNat), bt337.2)) else (none)))))
theorem impl_SegFrames.mono : ∀ a0 a1 a2 k, LeO (impl_SegFrames.f k a0 a1 a2) (impl_SegFrames.f (k + 1) a0 a1 a2) := by
 intro a0 a1 a2 k
 unfold impl_SegFrames.f
 repeat' first
   | (with_reducible exact impl_ScanFrames.mono _ _ _)
   | (with_reducible exact impl_SegGen.mono _ _ _ _)
   | (with_reducible exact impl_SegText.mono _ _ _ _)
   | (with_reducible exact LeO.refl _)
   | (with_reducible exact LeO.none _)
   | (with_reducible refine LeO.ite ?_ ?_)
   | (with_reducible refine LeO.bind ?_ (fun _ => ?_))
   | exact impl_ScanFrames.mono _ _ _
   | exact impl_SegGen.mono _ _ _ _
   | exact impl_SegText.mono _ _ _ _
   | exact LeO.none _
   | refine LeO.ite ?_ ?_
   | refine LeO.bind ?_ (fun _ => ?_)
set_option maxHeartbeats 8000000 in
set_option maxRecDepth 100000 in
theorem impl_SegFrames.calls (k : Nat) (A0_0 : Option Addr) (c0_0 : Nat) (l0_0 : List ByteArray) (A0_1 : Option Addr) (c0_1 : Nat) (l0_1 : List (S67)) (a1 : Int) (r1 : List (S77)) (r2 : Int) (w : World) (hr0_0 : Kd.C Kd.string w A0_0 l0_0.length l0_0) (hc0_0 : l0_0.length ≤ c0_0) (hr0_1 : Kd.C k67 w A0_1 l0_1.length l0_1) (hc0_1 : l0_1.length ≤ c0_1) (h : impl_SegFrames.f k l0_0 l0_1 a1 = some (r1, r2)) :
  Calls Try.prog 43 #[.agg #[.slice A0_0 l0_0.length c0_0, .slice A0_1 l0_1.length c0_1], .int .i64 a1] w fun e w' => ∃ v0_ : Value, e = .returned (.tuple #[v0_, .int .i64 r2]) ∧ Kd.Q k77 77 w' w.heap.size (fun _ => True) v0_ r1 ∧ Below w.heap.size w w' := by
 have hu30 := Try.underlying30
 have HR0_0 := Aside0.mk hr0_0
 have HC0_0 := Aside0.mk hc0_0
 clear hr0_0 hc0_0
 have HR0_1 := Aside0.mk hr0_1
 have HC0_1 := Aside0.mk hc0_1
 clear hr0_1 hc0_1
 have HB := ak (Below.refl w.heap.size w)
 have H : ((impl_SegGen.f k l0_0 l0_1 a1).bind fun t335 => (if t335 = 0 then (some (([] : List (S77)), 0)) else ((impl_SegText.f k l0_0 l0_1 a1).bind fun t336 => ((impl_ScanFrames.f k t336 t335).bind fun bt337 => (if 1 ≤ (bt337.1.length : Int) then (some ((bt337.1.drop (1 : Int).toNat), bt337.2)) else (none)))))) = some (r1, r2) := h
 clear h
 replace H := Option.bind_eq_some_iff.mp H
 obtain ⟨t335, A30, H⟩ := H
 replace H : (if t335 = 0 then (some (([] : List (S77)), 0)) else ((impl_SegText.f k l0_0 l0_1 a1).bind fun t336 => ((impl_ScanFrames.f k t336 t335).bind fun bt337 => (if 1 ≤ (bt337.1.length : Int) then (some ((bt337.1.drop (1 : Int).toNat), bt337.2)) else (none))))) = some (r1, r2) := H
 have A3 := Aside0.mk A30
 clear A30
 by_cases c4 : t335 = 0
 ·rw [if_pos c4] at H
  have c4b0 : (t335 == 0) = true := beq_iff_eq.mpr c4
  have c4b1 : (t335 != 0) = false := bne_eq_false_iff_eq.mpr c4
  clear c4
  simp only [Option.some.injEq, Prod.mk.injEq] at H
  obtain ⟨rfl, rfl⟩ := H
  go_enter Try.func43, Try.ntmps43
  go_wp2_with (first | ((with_reducible refine gate_dst (N := 2) rfl ?_); refine bx 2 #[.slice A0_0 l0_0.length c0_0, .slice A0_1 l0_1.length c0_1] 30 ?_; intro gb334 hg w5 hbox hb; replace BK334 := ak (hbox); replace GW334 := ak (bz hg (lG HB)); replace GE334 := ak (bz hg (lG HB)); replace HB := lB HB hb; clear hb hbox hg; obtain ⟨hcz6_0, hcz6_1, hfz6_0, hfz6_1⟩ := bC2 BK334) | ((with_reducible refine gate_callee (f := 41) rfl ?_); refine gl (some 11) Try.func41 #[.agg #[.slice A0_0 l0_0.length c0_0, .slice A0_1 l0_1.length c0_1], .int .i64 a1] ?_; (with_reducible refine (impl_SegGen.calls k _ _ l0_0 _ _ l0_1 a1 t335 _ ?side1 ?side2 ?side3 ?side4 A3.out).mono ?_); (case side1 => exact cG (Kd.C_below HR0_0.out HB.out)); (case side2 => exact HC0_0.out); (case side3 => exact cG (Kd.C_below HR0_1.out HB.out)); (case side4 => exact HC0_1.out); rintro e w7 ⟨rfl, hb⟩; refine ⟨_, rfl, ?_⟩; replace BK334 := bB BK334 hb; replace HB := ak (below_step (lT HB (gC GE334 gN)) hb); (try clear hb); (try clear hk)))
  go_ret2
  exact ⟨_, ew, Kd.Q_of_R (nil_), by exact lT HB (gC GE334 gN)⟩
 ·rw [if_neg c4] at H
  have c4b0 : (t335 == 0) = false := beq_eq_false_iff_ne.mpr c4
  have c4b1 : (t335 != 0) = true := bne_iff_ne.mpr c4
  replace H := Option.bind_eq_some_iff.mp H
  obtain ⟨t336, A80, H⟩ := H
  replace H : ((impl_ScanFrames.f k t336 t335).bind fun bt337 => (if 1 ≤ (bt337.1.length : Int) then (some ((bt337.1.drop (1 : Int).toNat), bt337.2)) else (none))) = some (r1, r2) := H
  have A8 := Aside0.mk A80
  clear A80
  replace H := Option.bind_eq_some_iff.mp H
  obtain ⟨⟨t337, t338⟩, A90, H⟩ := H
  replace H : (if 1 ≤ (t337.length : Int) then (some ((t337.drop (1 : Int).toNat), t338)) else (none)) = some (r1, r2) := H
  have A9 := Aside0.mk A90
  clear A90
  by_cases c10 : 1 ≤ (t337.length : Int)
  ·rw [if_pos c10] at H
   have c10b0 := eq_true c10
   have c10b1 : decide (1 ≤ (t337.length : Int)) = true := decide_eq_true c10
   clear c10
   obtain ⟨y341, hy341⟩ : ∃ y_ : List (S77), y_ = (t337.drop (1 : Int).toNat) := ⟨_, rfl⟩
   replace H : (some (y341, t338)) = some (r1, r2) := by first | (rw [hy341]; with_reducible exact H) | (have H2_ := (Option.bind_some _ _).symm.trans H; rw [hy341]; with_reducible exact H2_) | (have H2_ := (Option.bind_some _ _).symm.trans H; with_reducible exact H2_) | with_reducible exact H | (rw [hy341]; exact H) | exact H
   have Ny341 := Aside0.mk hy341
   clear hy341
   simp only [Option.some.injEq, Prod.mk.injEq] at H
   obtain ⟨rfl, rfl⟩ := H
   go_enter Try.func43, Try.ntmps43
   go_wp2_with (first | ((with_reducible refine gate_dst (N := 2) rfl ?_); refine bx 2 #[.slice A0_0 l0_0.length c0_0, .slice A0_1 l0_1.length c0_1] 30 ?_; intro gb334 hg w11 hbox hb; replace BK334 := ak (hbox); replace GW334 := ak (bz hg (lG HB)); replace GE334 := ak (bz hg (lG HB)); replace HB := lB HB hb; clear hb hbox hg; obtain ⟨hcz12_0, hcz12_1, hfz12_0, hfz12_1⟩ := bC2 BK334) | ((with_reducible refine gate_callee (f := 41) rfl ?_); refine gl (some 11) Try.func41 #[.agg #[.slice A0_0 l0_0.length c0_0, .slice A0_1 l0_1.length c0_1], .int .i64 a1] ?_; (with_reducible refine (impl_SegGen.calls k _ _ l0_0 _ _ l0_1 a1 t335 _ ?side1 ?side2 ?side3 ?side4 A3.out).mono ?_); (case side1 => exact cG (Kd.C_below HR0_0.out HB.out)); (case side2 => exact HC0_0.out); (case side3 => exact cG (Kd.C_below HR0_1.out HB.out)); (case side4 => exact HC0_1.out); rintro e w13 ⟨rfl, hb⟩; refine ⟨_, rfl, ?_⟩; replace BK334 := bB BK334 hb; replace HB := ak (below_step (lT HB (gC GE334 gN)) hb); (try clear hb); (try clear hk); obtain ⟨hcz14_0, hcz14_1, hfz14_0, hfz14_1⟩ := bC2 BK334) | ((with_reducible refine gate_callee (f := 26) rfl ?_); refine gl (some 17) Try.func26 #[.agg #[.slice A0_0 l0_0.length c0_0, .slice A0_1 l0_1.length c0_1], .int .i64 a1] ?_; (with_reducible refine (impl_SegText.calls k _ _ l0_0 _ _ l0_1 a1 t336 _ ?side1 ?side2 ?side3 ?side4 A8.out).mono ?_); (case side1 => exact cG (Kd.C_below HR0_0.out HB.out)); (case side2 => exact HC0_0.out); (case side3 => exact cG (Kd.C_below HR0_1.out HB.out)); (case side4 => exact HC0_1.out); rintro e w15 ⟨rfl, hb⟩; refine ⟨_, rfl, ?_⟩; replace BK334 := bB BK334 hb; replace HB := ak (below_step (lT HB (gC GE334 gN)) hb); (try clear hb); (try clear hk)) | ((with_reducible refine gate_callee (f := 72) rfl ?_); refine gl (some 19) Try.func72 #[.string t336, .int .i64 t335] ?_; (with_reducible refine (impl_ScanFrames.calls k t336 t335 t337 t338 _ A9.out).mono ?_); rintro e w16 ⟨v339, rfl, ho0, hb⟩; refine ⟨_, rfl, ?_⟩; replace HO340 := ak (Kd.R_lower ho0 (below_size (lT HB (gC GE334 gN)))); replace BK334 := bB BK334 hb; replace HB := ak (below_step (lT HB (gC GE334 gN)) hb); (try clear hb); (try clear hk); (try clear ho0); obtain ⟨Ao17, co17, eo17⟩ := Kd.R_slice HO340.out; subst eo17; have q18 : (1 : Int) ≤ ((t337.length : Int) : Int) := of_decide_eq_true (by first | (with_reducible assumption) | assumption); obtain ⟨i018, hi018, _, hsz18, _⟩ := info_parts info77; have hcut18 := cut_from (P := Try.prog) 54 77 .i64 Try.underlying54 hi018 3 hsz18 Ao17 t337.length co17 1 (by omega) q18; have hr18 := Kd.Q_drop (k := (1 : Int).toNat) (Kd.Q_of_R HO340.out) (by omega); obtain ⟨A18, hA18⟩ : ∃ A1, A1 = (if co17 = (1 : Int).toNat then Ao17 else (Ao17 : Option Addr).map (·.add ((1 : Int).toNat * 3))) := ⟨_, rfl⟩; obtain ⟨c18, hc18⟩ : ∃ c1, c1 = co17 - (1 : Int).toNat := ⟨_, rfl⟩; have hy18 : y341.length = t337.length - (1 : Int).toNat := (by rw [Ny341.out, List.length_drop]); rw [← Ny341.out] at hr18; rw [← hy18, ← hA18, ← hc18] at hcut18; replace hr18 : Kd.Q k77 77 w16 w.heap.size (fun _ => True) (.slice A18 y341.length c18) y341 := (by rw [hA18, hc18, hy18]; exact hr18); have HE18 : Aside0 ((Value.slice A18 y341.length c18).ownBlock = (.slice Ao17 t337.length co17 : Value).ownBlock) := ⟨by rw [hA18]; split <;> (cases (Ao17 : Option Addr) <;> rfl)⟩; clear hy18 hi018 hsz18 HO340 hA18 hc18; have HO343 := Aside0.mk hr18; clear hr18; replace q18 := eq_true q18))
   go_ret2
   exact ⟨_, ew, by (with_reducible repeat (first | apply Kd.Q_alloc | apply Kd.Q_drewN | apply Kd.Q_drew)); exact HO343.out, by exact lT HB (gC GE334 gN)⟩
  ·rw [if_neg c10] at H
   exact absurd H (by simp)

end Go.Proofs.Ytdnjjdmlmfoljaa.PFnExactSegFrames
