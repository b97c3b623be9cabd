-- Written for this claim by a program of mine (a turned copy of the kit's print): functions as plain Lean, and their contracts. Lean checks it.
import Derived.Test.YtdnjjdmlmfoljaaPFnExactSegFramesx0
import Derived.Test.YtdnjjdmlmfoljaaPFnExactSegFramesx3
import Derived.Test.YtdnjjdmlmfoljaaPFnExactSegFramesx5
import Derived.Test.YtdnjjdmlmfoljaaVFnExactSegFrames1
namespace Go.Proofs.Ytdnjjdmlmfoljaa.PFnExactSegFrames
open Go.RowKit Go.Proofs.YtdnjjdmlmfoljaaW.PrintWords Go.Proofs.YtdnjjdmlmfoljaaW.PrintLast Go.Proofs.YtdnjjdmlmfoljaaW.PrintMore
attribute [local go_sem] max2_int min2_int max_two min_two max_three min_three max_four min_four   -- for this text's walks alone
set_option linter.unusedVariables false
set_option linter.unusedSimpArgs false

/-! ### spec_SegGen: function 40 -/
def spec_SegGen.f (k : Nat) (l0_0 : List ByteArray) (l0_1 : List (S67)) (a1 : Int) : Option (Int) := (spec_SegText.f k l0_0 l0_1 a1).bind fun t216 => ((spec_ReadFrame.f k t216 0).bind fun bt217 => (if bt217.2.2.2.2 = true then (if bt217.2.2.1.toList = ([115, 101, 103] : List UInt8) then (some bt217.1) else (some 0)) else (some 0)))
theorem spec_SegGen.mono : ∀ a0 a1 a2 k, LeO (spec_SegGen.f k a0 a1 a2) (spec_SegGen.f (k + 1) a0 a1 a2) := by
 intro a0 a1 a2 k
 unfold spec_SegGen.f
 repeat' first
   | (with_reducible exact spec_ReadFrame.mono _ _ _)
   | (with_reducible exact spec_SegText.mono _ _ _ _)
   | (with_reducible exact LeO.refl _)
   | (with_reducible exact LeO.none _)
   | (with_reducible refine LeO.ite ?_ ?_)
   | (with_reducible refine LeO.bind ?_ (fun _ => ?_))
   | exact spec_ReadFrame.mono _ _ _
   | exact spec_SegText.mono _ _ _ _
   | exact LeO.none _
   | refine LeO.ite ?_ ?_
   | refine LeO.bind ?_ (fun _ => ?_)
set_option maxHeartbeats 8000000 in
set_option maxRecDepth 100000 in
theorem spec_SegGen.calls (k : Nat) (A0_0 : Option Addr) (c0_0 : Nat) (l0_0 : List ByteArray) (A0_1 : Option Addr) (c0_1 : Nat) (l0_1 : List (S67)) (a1 : Int) (r : Int) (w : World) (hr0_0 : Kd.C Kd.string w A0_0 l0_0.length l0_0) (hc0_0 : l0_0.length ≤ c0_0) (hr0_1 : Kd.C k67 w A0_1 l0_1.length l0_1) (hc0_1 : l0_1.length ≤ c0_1) (h : spec_SegGen.f k l0_0 l0_1 a1 = some r) :
  Calls Try.prog 40 #[.agg #[.slice A0_0 l0_0.length c0_0, .slice A0_1 l0_1.length c0_1], .int .i64 a1] w fun e w' => e = .returned (.int .i64 r) ∧ Below w.heap.size w w' := by
 have hu30 := Try.underlying30
 have hu77 := Try.underlying77
 have HR0_0 := Aside0.mk hr0_0
 have HC0_0 := Aside0.mk hc0_0
 clear hr0_0 hc0_0
 have HR0_1 := Aside0.mk hr0_1
 have HC0_1 := Aside0.mk hc0_1
 clear hr0_1 hc0_1
 have HB := ak (Below.refl w.heap.size w)
 have H : ((spec_SegText.f k l0_0 l0_1 a1).bind fun t216 => ((spec_ReadFrame.f k t216 0).bind fun bt217 => (if bt217.2.2.2.2 = true then (if bt217.2.2.1.toList = ([115, 101, 103] : List UInt8) then (some bt217.1) else (some 0)) else (some 0)))) = some r := h
 clear h
 replace H := Option.bind_eq_some_iff.mp H
 obtain ⟨t216, A30, H⟩ := H
 replace H : ((spec_ReadFrame.f k t216 0).bind fun bt217 => (if bt217.2.2.2.2 = true then (if bt217.2.2.1.toList = ([115, 101, 103] : List UInt8) then (some bt217.1) else (some 0)) else (some 0))) = some r := H
 have A3 := Aside0.mk A30
 clear A30
 replace H := Option.bind_eq_some_iff.mp H
 obtain ⟨⟨t217, t218, t219, t220, t221⟩, A40, H⟩ := H
 replace H : (if t221 = true then (if t219.toList = ([115, 101, 103] : List UInt8) then (some t217) else (some 0)) else (some 0)) = some r := H
 have A4 := Aside0.mk A40
 clear A40
 by_cases c5 : t221 = true
 ·subst c5
  have H1 : (if t219.toList = ([115, 101, 103] : List UInt8) then (some t217) else (some 0)) = some r := by rw [if_pos rfl] at H; exact H
  clear H
  have H := H1
  clear H1
  by_cases c6 : t219.toList = ([115, 101, 103] : List UInt8)
  ·rw [if_pos c6] at H
   have c6b0 : (t219.toList == ([115, 101, 103] : List UInt8)) = true := beq_iff_eq.mpr c6
   have c6b1 : (t219.toList != ([115, 101, 103] : List UInt8)) = false := bne_eq_false_iff_eq.mpr c6
   clear c6
   obtain rfl := Option.some.inj H
   go_enter Try.func40, Try.ntmps40
   go_wp2_with (first | ((with_reducible refine gate_dst (N := 2) rfl ?_); refine bx 2 #[.slice A0_0 l0_0.length c0_0, .slice A0_1 l0_1.length c0_1] 30 ?_; intro gb215 hg w7 hbox hb; replace BK215 := ak (hbox); replace GW215 := ak (bz hg (lG HB)); replace GE215 := ak (bz hg (lG HB)); replace HB := lB HB hb; clear hb hbox hg; obtain ⟨hcz8_0, hcz8_1, hfz8_0, hfz8_1⟩ := bC2 BK215) | ((with_reducible refine gate_callee (f := 25) rfl ?_); refine gl (some 11) Try.func25 #[.agg #[.slice A0_0 l0_0.length c0_0, .slice A0_1 l0_1.length c0_1], .int .i64 a1] ?_; (with_reducible refine (spec_SegText.calls k _ _ l0_0 _ _ l0_1 a1 t216 _ ?side1 ?side2 ?side3 ?side4 A3.out).mono ?_); (case side1 => exact cG (Kd.C_below HR0_0.out HB.out)); (case side2 => exact HC0_0.out); (case side3 => exact cG (Kd.C_below HR0_1.out HB.out)); (case side4 => exact HC0_1.out); rintro e w9 ⟨rfl, hb⟩; refine ⟨_, rfl, ?_⟩; replace BK215 := bB BK215 hb; replace HB := ak (below_step (lT HB (gC GE215 gN)) hb); (try clear hb); (try clear hk)) | ((with_reducible refine gate_callee (f := 69) rfl ?_); refine gl (some 12) Try.func69 #[.string t216, .int .i64 0] ?_; (with_reducible refine (spec_ReadFrame.calls k t216 0 t217 t218 t219 t220 true _ A4.out).mono ?_); rintro e w10 ⟨rfl, hb⟩; refine ⟨_, rfl, ?_⟩; replace BK215 := bB BK215 hb; replace HB := ak (below_step (lT HB (gC GE215 gN)) hb); (try clear hb); (try clear hk)) | ((with_reducible refine gate_dst (N := 5) rfl ?_); refine bx 5 #[.int .i64 0, .int .i64 0, .string (⟨#[]⟩ : ByteArray)] 77 ?_; intro gb222 hg w11 hbox hb; replace BK222 := ak (hbox); replace GW222 := ak (bz hg (lT HB (gC GE215 gN))); replace GE222 := ak (bz hg (lT HB (gC GE215 gN))); replace HB := ak (below_step (lT HB (gC GE215 gN)) hb); replace NB215_222 := ak (nl hg (bG BK215)); replace NB222_215 := ak (ng hg (bG BK215)); replace BK215 := bB BK215 hb; clear hb hbox hg; have hnb12 := NB222_215.out; have hnc12 := NB215_222.out; obtain ⟨hcz13_0, hcz13_1, hcz13_2, hfz13_0, hfz13_1, hfz13_2⟩ := bC3 BK222))
   go_ret
   exact ⟨ew, by exact lT HB (gC GE215 (gC GE222 gN))⟩
  ·rw [if_neg c6] at H
   have c6b0 : (t219.toList == ([115, 101, 103] : List UInt8)) = false := beq_eq_false_iff_ne.mpr c6
   have c6b1 : (t219.toList != ([115, 101, 103] : List UInt8)) = true := bne_iff_ne.mpr c6
   obtain rfl := Option.some.inj H
   go_enter Try.func40, Try.ntmps40
   go_wp2_with (first | ((with_reducible refine gate_dst (N := 2) rfl ?_); refine bx 2 #[.slice A0_0 l0_0.length c0_0, .slice A0_1 l0_1.length c0_1] 30 ?_; intro gb215 hg w14 hbox hb; replace BK215 := ak (hbox); replace GW215 := ak (bz hg (lG HB)); replace GE215 := ak (bz hg (lG HB)); replace HB := lB HB hb; clear hb hbox hg; obtain ⟨hcz15_0, hcz15_1, hfz15_0, hfz15_1⟩ := bC2 BK215) | ((with_reducible refine gate_callee (f := 25) rfl ?_); refine gl (some 11) Try.func25 #[.agg #[.slice A0_0 l0_0.length c0_0, .slice A0_1 l0_1.length c0_1], .int .i64 a1] ?_; (with_reducible refine (spec_SegText.calls k _ _ l0_0 _ _ l0_1 a1 t216 _ ?side1 ?side2 ?side3 ?side4 A3.out).mono ?_); (case side1 => exact cG (Kd.C_below HR0_0.out HB.out)); (case side2 => exact HC0_0.out); (case side3 => exact cG (Kd.C_below HR0_1.out HB.out)); (case side4 => exact HC0_1.out); rintro e w16 ⟨rfl, hb⟩; refine ⟨_, rfl, ?_⟩; replace BK215 := bB BK215 hb; replace HB := ak (below_step (lT HB (gC GE215 gN)) hb); (try clear hb); (try clear hk)) | ((with_reducible refine gate_callee (f := 69) rfl ?_); refine gl (some 12) Try.func69 #[.string t216, .int .i64 0] ?_; (with_reducible refine (spec_ReadFrame.calls k t216 0 t217 t218 t219 t220 true _ A4.out).mono ?_); rintro e w17 ⟨rfl, hb⟩; refine ⟨_, rfl, ?_⟩; replace BK215 := bB BK215 hb; replace HB := ak (below_step (lT HB (gC GE215 gN)) hb); (try clear hb); (try clear hk)) | ((with_reducible refine gate_dst (N := 5) rfl ?_); refine bx 5 #[.int .i64 0, .int .i64 0, .string (⟨#[]⟩ : ByteArray)] 77 ?_; intro gb222 hg w18 hbox hb; replace BK222 := ak (hbox); replace GW222 := ak (bz hg (lT HB (gC GE215 gN))); replace GE222 := ak (bz hg (lT HB (gC GE215 gN))); replace HB := ak (below_step (lT HB (gC GE215 gN)) hb); replace NB215_222 := ak (nl hg (bG BK215)); replace NB222_215 := ak (ng hg (bG BK215)); replace BK215 := bB BK215 hb; clear hb hbox hg; have hnb19 := NB222_215.out; have hnc19 := NB215_222.out; obtain ⟨hcz20_0, hcz20_1, hcz20_2, hfz20_0, hfz20_1, hfz20_2⟩ := bC3 BK222))
   go_ret
   exact ⟨ew, by exact lT HB (gC GE215 (gC GE222 gN))⟩
 ·replace c5 := Bool.eq_false_iff.mpr c5
  subst c5
  have H1 : (some 0) = some r := by rw [if_neg (show ¬ (false = true) by decide)] at H; exact H
  clear H
  have H := H1
  clear H1
  obtain rfl := Option.some.inj H
  go_enter Try.func40, Try.ntmps40
  go_wp2_with (first | ((with_reducible refine gate_dst (N := 2) rfl ?_); refine bx 2 #[.slice A0_0 l0_0.length c0_0, .slice A0_1 l0_1.length c0_1] 30 ?_; intro gb215 hg w21 hbox hb; replace BK215 := ak (hbox); replace GW215 := ak (bz hg (lG HB)); replace GE215 := ak (bz hg (lG HB)); replace HB := lB HB hb; clear hb hbox hg; obtain ⟨hcz22_0, hcz22_1, hfz22_0, hfz22_1⟩ := bC2 BK215) | ((with_reducible refine gate_callee (f := 25) rfl ?_); refine gl (some 11) Try.func25 #[.agg #[.slice A0_0 l0_0.length c0_0, .slice A0_1 l0_1.length c0_1], .int .i64 a1] ?_; (with_reducible refine (spec_SegText.calls k _ _ l0_0 _ _ l0_1 a1 t216 _ ?side1 ?side2 ?side3 ?side4 A3.out).mono ?_); (case side1 => exact cG (Kd.C_below HR0_0.out HB.out)); (case side2 => exact HC0_0.out); (case side3 => exact cG (Kd.C_below HR0_1.out HB.out)); (case side4 => exact HC0_1.out); rintro e w23 ⟨rfl, hb⟩; refine ⟨_, rfl, ?_⟩; replace BK215 := bB BK215 hb; replace HB := ak (below_step (lT HB (gC GE215 gN)) hb); (try clear hb); (try clear hk)) | ((with_reducible refine gate_callee (f := 69) rfl ?_); refine gl (some 12) Try.func69 #[.string t216, .int .i64 0] ?_; (with_reducible refine (spec_ReadFrame.calls k t216 0 t217 t218 t219 t220 false _ A4.out).mono ?_); rintro e w24 ⟨rfl, hb⟩; refine ⟨_, rfl, ?_⟩; replace BK215 := bB BK215 hb; replace HB := ak (below_step (lT HB (gC GE215 gN)) hb); (try clear hb); (try clear hk)) | ((with_reducible refine gate_dst (N := 5) rfl ?_); refine bx 5 #[.int .i64 0, .int .i64 0, .string (⟨#[]⟩ : ByteArray)] 77 ?_; intro gb222 hg w25 hbox hb; replace BK222 := ak (hbox); replace GW222 := ak (bz hg (lT HB (gC GE215 gN))); replace GE222 := ak (bz hg (lT HB (gC GE215 gN))); replace HB := ak (below_step (lT HB (gC GE215 gN)) hb); replace NB215_222 := ak (nl hg (bG BK215)); replace NB222_215 := ak (ng hg (bG BK215)); replace BK215 := bB BK215 hb; clear hb hbox hg; have hnb26 := NB222_215.out; have hnc26 := NB215_222.out; obtain ⟨hcz27_0, hcz27_1, hcz27_2, hfz27_0, hfz27_1, hfz27_2⟩ := bC3 BK222))
  go_ret
  exact ⟨ew, by exact lT HB (gC GE215 (gC GE222 gN))⟩

/-! ### spec_ScanFrames: function 71 -/
def spec_ScanFrames.l0 : Nat → ByteArray → Int → List (S77) → Int → Option ((List (S77)) × Int)
 | 0, _, _, _, _ => none
 | k + 1, x0, x1, x6, x7 => (spec_ReadFrame.f k x0 x7).bind fun bt226 => (if bt226.2.2.2.2 = true then (if bt226.1 = x1 then (if x6.length < 4398046511104 then (spec_ScanFrames.l0 k x0 x1 (x6 ++ [(⟨bt226.1, bt226.2.1, bt226.2.2.1⟩ : S77)]) bt226.2.2.2.1) else (none)) else (some (x6, x7))) else (some (x6, x7)))
def spec_ScanFrames.f (k : Nat) (a0 : ByteArray) (a1 : Int) : Option ((List (S77)) × Int) := spec_ScanFrames.l0 k a0 a1 (([] : List (S77))) 0
theorem spec_ScanFrames.mono_l : ∀ k, (∀ y0 y1 y2 y3, LeO (spec_ScanFrames.l0 k y0 y1 y2 y3) (spec_ScanFrames.l0 (k + 1) y0 y1 y2 y3))
 | 0 => fun _ _ _ _ r h => by simp [spec_ScanFrames.l0] at h
 | k + 1 => by
  have ih0 := spec_ScanFrames.mono_l k
  ·intro y0 y1 y2 y3
   unfold spec_ScanFrames.l0
   repeat' first
   | (with_reducible exact ih0 _ _ _ _)
   | (with_reducible exact spec_ReadFrame.mono _ _ _)
   | (with_reducible exact LeO.refl _)
   | (with_reducible exact LeO.none _)
   | (with_reducible refine LeO.ite ?_ ?_)
   | (with_reducible refine LeO.bind ?_ (fun _ => ?_))
   | exact ih0 _ _ _ _
   | exact spec_ReadFrame.mono _ _ _
   | exact LeO.none _
   | refine LeO.ite ?_ ?_
   | refine LeO.bind ?_ (fun _ => ?_)
theorem spec_ScanFrames.mono : ∀ a0 a1 k, LeO (spec_ScanFrames.f k a0 a1) (spec_ScanFrames.f (k + 1) a0 a1) := by
 intro a0 a1 k
 have ih0 := spec_ScanFrames.mono_l k
 unfold spec_ScanFrames.f
 repeat' first
   | (with_reducible exact ih0 _ _ _ _)
   | (with_reducible exact spec_ReadFrame.mono _ _ _)
   | (with_reducible exact LeO.refl _)
   | (with_reducible exact LeO.none _)
   | (with_reducible refine LeO.ite ?_ ?_)
   | (with_reducible refine LeO.bind ?_ (fun _ => ?_))
   | exact ih0 _ _ _ _
   | exact spec_ReadFrame.mono _ _ _
   | exact LeO.none _
   | refine LeO.ite ?_ ?_
   | refine LeO.bind ?_ (fun _ => ?_)
set_option maxHeartbeats 8000000 in
set_option maxRecDepth 100000 in
theorem spec_ScanFrames.calls (k : Nat) (a0 : ByteArray) (a1 : Int) (r1 : List (S77)) (r2 : Int) (w : World) (h : spec_ScanFrames.f k a0 a1 = some (r1, r2)) :
  Calls Try.prog 71 #[.string a0, .int .i64 a1] w fun e w' => ∃ v0_ : Value, e = .returned (.tuple #[v0_, .int .i64 r2]) ∧ Kd.R k77 77 w' w.heap.size (fun _ => True) v0_ r1 ∧ Below w.heap.size w w' := by
 have hu77 := Try.underlying77
 have HB := ak (Below.refl w.heap.size w)
 have H : (spec_ScanFrames.l0 k a0 a1 (([] : List (S77))) 0) = some (r1, r2) := h
 clear h
 obtain ⟨y223, hy223⟩ : ∃ y_ : List (S77), y_ = (([] : List (S77))) := ⟨_, rfl⟩
 replace H : (spec_ScanFrames.l0 k a0 a1 y223 0) = some (r1, r2) := by first | (rw [hy223]; with_reducible exact H) | (have H2_ := (Option.bind_some _ _).symm.trans H; rw [hy223]; with_reducible exact H2_) | (have H2_ := (Option.bind_some _ _).symm.trans H; with_reducible exact H2_) | with_reducible exact H | (rw [hy223]; exact H) | exact H
 have Ny223 := Aside0.mk hy223
 clear hy223
 have H' := Aside0.mk H
 clear H
 go_enter Try.func71, Try.ntmps71
 go_wp2_with (first | ((with_reducible refine gate_dst (N := 11) rfl ?_); refine Kd.R_lit k77 _ 77 ?hg (N := 11) ?hd (xs := ([] : List (S77))) (inner := []) (ok := fun _ => True) (okp := fun _ => True) ?hr ?hp (fun _ hk => hk) trivial (Below.refl _ _) (Nat.le_refl _) (by simp) ?_; (case hd => rfl); (case hg => rfl); (case hr => first | (go_simp; done) | (go_simp; rfl)); (case hp => exact (Reps.none _ _)); intro v224 w3 ho4 hb hg_ hnew_; clear hg_ hnew_; (first | rw [← Ny223.out] at ho4 | (simp only [Int.reduceToNat] at ho4; rw [← Ny223.out] at ho4)); replace HO225 := ak (Kd.R_lower ho4 (below_size (lG HB))); replace HB := lB HB hb; clear hb ho4))
 go_loopg [6, 7] k (fun kq v6 v7 w' => ∃ (x6_1 : List (S77)) (x7_1 : Int), v7 = .int .i64 x7_1 ∧ Aside0 (spec_ScanFrames.l0 kq a0 a1 x6_1 x7_1 = some (r1, r2)) ∧ Aside0 (kq ≤ k) ∧ Aside0 (Kd.R k77 77 w' w.heap.size (fun _ => True) v6 x6_1) ∧ Aside0 (Below w.heap.size w w'))
 case atStart => exact ⟨(y223), (0), (by first | rfl | (simp; done) | (simp [*]; done)), H', ⟨Nat.le_refl _⟩, ⟨by (with_reducible repeat (first | apply Kd.R_alloc | apply Kd.R_drewN | apply Kd.R_drew)); exact HO225.out⟩, ⟨by exact lG HB⟩⟩
 case round =>
  clear H'
  try clear p2
  obtain ⟨x6_1, x7_1, rfl, HA, HK1, HO_6, HB⟩ := hrel
  cases gk with
  | zero => exact absurd HA.out (by simp [spec_ScanFrames.l0])
  | succ k1 =>
   have H := HA.out
   clear HA
   simp only [spec_ScanFrames.l0] at H
   replace H := Option.bind_eq_some_iff.mp H
   obtain ⟨⟨t226, t227, t228, t229, t230⟩, A50, H⟩ := H
   replace H : (if t230 = true then (if t226 = a1 then (if x6_1.length < 4398046511104 then (spec_ScanFrames.l0 k1 a0 a1 (x6_1 ++ [(⟨t226, t227, t228⟩ : S77)]) t229) else (none)) else (some (x6_1, x7_1))) else (some (x6_1, x7_1))) = some (r1, r2) := H
   have A5 := Aside0.mk A50
   clear A50
   by_cases c6 : t230 = true
   ·subst c6
    have H1 : (if t226 = a1 then (if x6_1.length < 4398046511104 then (spec_ScanFrames.l0 k1 a0 a1 (x6_1 ++ [(⟨t226, t227, t228⟩ : S77)]) t229) else (none)) else (some (x6_1, x7_1))) = some (r1, r2) := by rw [if_pos rfl] at H; exact H
    clear H
    have H := H1
    clear H1
    by_cases c7 : t226 = a1
    ·rw [if_pos c7] at H
     have c7b0 : (t226 == a1) = true := beq_iff_eq.mpr c7
     have c7b1 : (t226 != a1) = false := bne_eq_false_iff_eq.mpr c7
     clear c7
     by_cases c8 : x6_1.length < 4398046511104
     ·rw [if_pos c8] at H
      have LMc8 := Aside0.mk c8
      clear c8
      obtain ⟨y232, hy232⟩ : ∃ y_ : List (S77), y_ = (x6_1 ++ [(⟨t226, t227, t228⟩ : S77)]) := ⟨_, rfl⟩
      replace H : (spec_ScanFrames.l0 k1 a0 a1 y232 t229) = some (r1, r2) := by first | (rw [hy232]; with_reducible exact H) | (have H2_ := (Option.bind_some _ _).symm.trans H; rw [hy232]; with_reducible exact H2_) | (have H2_ := (Option.bind_some _ _).symm.trans H; with_reducible exact H2_) | with_reducible exact H | (rw [hy232]; exact H) | exact H
      have Ny232 := Aside0.mk hy232
      clear hy232
      have H' := Aside0.mk H
      clear H
      go_wp2_with (first | ((with_reducible refine gate_callee (f := 69) rfl ?_); refine gl (some 15) Try.func69 #[.string a0, .int .i64 x7_1] ?_; (with_reducible refine (spec_ReadFrame.calls k1 a0 x7_1 t226 t227 t228 t229 true _ A5.out).mono ?_); rintro e w9 ⟨rfl, hb⟩; refine ⟨_, rfl, ?_⟩; replace HO_6 := rB HO_6 hb; replace HB := lB HB hb; (try clear hb); (try clear hk)) | ((with_reducible refine gate_dst (N := 8) rfl ?_); refine bx 8 #[.int .i64 0, .int .i64 0, .string (⟨#[]⟩ : ByteArray)] 77 ?_; intro gb231 hg w10 hbox hb; replace HO_6 := ak (Kd.R_below (Kd.R_elderB (rG HO_6) gb231 (Nat.le_of_eq hg.symm)) hb); replace BK231 := ak (hbox); replace GW231 := ak (bz hg (lG HB)); replace GE231 := ak (bz hg (lG HB)); replace HB := lB HB hb; clear hb hbox hg; obtain ⟨hcz11_0, hcz11_1, hcz11_2, hfz11_0, hfz11_1, hfz11_2⟩ := bC3 BK231) | ((with_reducible refine gate_builtin (b := .append) (xs := #[.tmp 29, .tmp 31]) rfl ?_); at_builtin; refine Kd.R_append k77 (w0 := w) w.heap.size rfl (.tmp 29) (.tmp 31) 54 77 (.agg #[(.int .i64 0), (.int .i64 0), (.string ⟨#[]⟩)]) 32 rfl Try.underlying54 info77 rfl (by decide) (by omega) u6 x6_1 (⟨t226, t227, t228⟩ : S77) [.int .i64 t226, .int .i64 t227, .string t228] (fun k_ => k_ ≠ gb231) (fun _ => False) rfl (by first | (go_simp; done) | (go_simp; rfl)) ?aP (fun _ hk => hk.elim) ?aF ?aO ?aB ?aS ?aL ?_; (case aP => exact k77_mkM _ _ _ (⟨t226, t227, t228⟩ : S77)); (case aB => exact (lT HB (gC GE231 gN))); (case aF => exact (fun k_ hk => Kd.freshB (g := gb231) (o := .cells #[.int .i64 t226, .int .i64 t227, .string t228] 77 (0, 0)) (bW BK231) k_ hk)); (case aO => exact (by (with_reducible repeat (first | apply Kd.R_alloc | apply Kd.R_drewN | apply Kd.R_drew)); exact Kd.R_mono (Kd.R_far (p := ⟨gb231, 2, none⟩) (Kd.R_far (p := ⟨gb231, 1, none⟩) (Kd.R_far (p := ⟨gb231, 0, none⟩) (Kd.R_mono HO_6.out (fun k_ hk => (⟨hk, hk.2⟩ : _ ∧ k_ ≠ gb231))) (fun _ hk => hk.2) (.int .i64 t226)) (fun _ hk => hk.2) (.int .i64 t227)) (fun _ hk => hk.2) (.string t228)) (fun _ hk => hk.1.2))); (case aS => exact (below_size (lT HB (gC GE231 gN)))); (case aL => have := LMc8.out; omega); intro v233 w12 ho hb hg hat; rw [← Ny232.out] at ho; have n0_ := ak (blk_grown (g := gb231) (o := .cells #[.int .i64 t226, .int .i64 t227, .string t228] 77 (0, 0)) (bW BK231) hg (Kd.R_away HO_6.out (fun _ hk => hk.2))); have n1_ := ak (hb); have n2_ := ak (ho); clear BK231; clear HB; clear HO_6; have BK231 := n0_; have HB := n1_; have HO234 := n2_; clear n0_ n1_ n2_; clear ho hb hg hat))
      go_roundg k1
      case measure => have := HK1.out; omega
      case rel => exact ⟨(y232), (t229), (by first | rfl | (simp; done) | (simp [*]; done)), H', ⟨by have := HK1.out; omega⟩, ⟨by (with_reducible repeat (first | apply Kd.R_alloc | apply Kd.R_drewN | apply Kd.R_drew)); exact Kd.R_mono HO234.out (fun _ hk => trivial)⟩, ⟨by exact lT HB (gC GE231 gN)⟩⟩
     ·rw [if_neg c8] at H
      exact absurd H (by simp)
    ·rw [if_neg c7] at H
     have c7b0 : (t226 == a1) = false := beq_eq_false_iff_ne.mpr c7
     have c7b1 : (t226 != a1) = true := bne_iff_ne.mpr c7
     simp only [Option.some.injEq, Prod.mk.injEq] at H
     obtain ⟨rfl, rfl⟩ := H
     go_wp2_with (first | ((with_reducible refine gate_callee (f := 69) rfl ?_); refine gl (some 15) Try.func69 #[.string a0, .int .i64 x7_1] ?_; (with_reducible refine (spec_ReadFrame.calls k1 a0 x7_1 t226 t227 t228 t229 true _ A5.out).mono ?_); rintro e w13 ⟨rfl, hb⟩; refine ⟨_, rfl, ?_⟩; replace HO_6 := rB HO_6 hb; replace HB := lB HB hb; (try clear hb); (try clear hk)) | ((with_reducible refine gate_dst (N := 8) rfl ?_); refine bx 8 #[.int .i64 0, .int .i64 0, .string (⟨#[]⟩ : ByteArray)] 77 ?_; intro gb231 hg w14 hbox hb; replace HO_6 := ak (Kd.R_below (Kd.R_elderB (rG HO_6) gb231 (Nat.le_of_eq hg.symm)) hb); replace BK231 := ak (hbox); replace GW231 := ak (bz hg (lG HB)); replace GE231 := ak (bz hg (lG HB)); replace HB := lB HB hb; clear hb hbox hg; obtain ⟨hcz15_0, hcz15_1, hcz15_2, hfz15_0, hfz15_1, hfz15_2⟩ := bC3 BK231))
     go_ret2
     exact ⟨_, ew, by (with_reducible repeat (first | apply Kd.R_alloc | apply Kd.R_drewN | apply Kd.R_drew)); exact Kd.R_mono (Kd.R_far (p := ⟨gb231, 2, none⟩) (Kd.R_far (p := ⟨gb231, 1, none⟩) (Kd.R_far (p := ⟨gb231, 0, none⟩) (Kd.R_mono HO_6.out (fun k_ hk => (⟨hk, hk.2⟩ : _ ∧ k_ ≠ gb231))) (fun _ hk => hk.2) (.int .i64 t226)) (fun _ hk => hk.2) (.int .i64 t227)) (fun _ hk => hk.2) (.string t228)) (fun _ hk => trivial), by exact lT HB (gC GE231 gN)⟩
   ·replace c6 := Bool.eq_false_iff.mpr c6
    subst c6
    have H1 : (some (x6_1, x7_1)) = some (r1, r2) := by rw [if_neg (show ¬ (false = true) by decide)] at H; exact H
    clear H
    have H := H1
    clear H1
    simp only [Option.some.injEq, Prod.mk.injEq] at H
    obtain ⟨rfl, rfl⟩ := H
    go_wp2_with (first | ((with_reducible refine gate_callee (f := 69) rfl ?_); refine gl (some 15) Try.func69 #[.string a0, .int .i64 x7_1] ?_; (with_reducible refine (spec_ReadFrame.calls k1 a0 x7_1 t226 t227 t228 t229 false _ A5.out).mono ?_); rintro e w16 ⟨rfl, hb⟩; refine ⟨_, rfl, ?_⟩; replace HO_6 := rB HO_6 hb; replace HB := lB HB hb; (try clear hb); (try clear hk)) | ((with_reducible refine gate_dst (N := 8) rfl ?_); refine bx 8 #[.int .i64 0, .int .i64 0, .string (⟨#[]⟩ : ByteArray)] 77 ?_; intro gb231 hg w17 hbox hb; replace HO_6 := ak (Kd.R_below (Kd.R_elderB (rG HO_6) gb231 (Nat.le_of_eq hg.symm)) hb); replace BK231 := ak (hbox); replace GW231 := ak (bz hg (lG HB)); replace GE231 := ak (bz hg (lG HB)); replace HB := lB HB hb; clear hb hbox hg; obtain ⟨hcz18_0, hcz18_1, hcz18_2, hfz18_0, hfz18_1, hfz18_2⟩ := bC3 BK231))
    go_ret2
    exact ⟨_, ew, by (with_reducible repeat (first | apply Kd.R_alloc | apply Kd.R_drewN | apply Kd.R_drew)); exact Kd.R_mono (Kd.R_far (p := ⟨gb231, 2, none⟩) (Kd.R_far (p := ⟨gb231, 1, none⟩) (Kd.R_far (p := ⟨gb231, 0, none⟩) (Kd.R_mono HO_6.out (fun k_ hk => (⟨hk, hk.2⟩ : _ ∧ k_ ≠ gb231))) (fun _ hk => hk.2) (.int .i64 t226)) (fun _ hk => hk.2) (.int .i64 t227)) (fun _ hk => hk.2) (.string t228)) (fun _ hk => trivial), by exact lT HB (gC GE231 gN)⟩

/-! ### spec_SegFrames: function 42 -/
def spec_SegFrames.f (k : Nat) (l0_0 : List ByteArray) (l0_1 : List (S67)) (a1 : Int) : Option ((List (S77)) × Int) := (spec_SegGen.f k l0_0 l0_1 a1).bind fun t236 => (if t236 = 0 then (some ((([] : List (S77))), 0)) else ((spec_SegText.f k l0_0 l0_1 a1).bind fun t240 => ((spec_ScanFrames.f k t240 t236).bind fun bt241 => ((some (([] : List (S77)) : List (S77))).bind fun y245 => (if 1 ≤ (bt241.1.length : Int) then ((some (bt241.1.drop 1 : List (S77))).bind fun y248 => (if y245.length + y248.length < 4398046511104 then (some ((y245 ++ y248), bt241.2)) else (none))) else (none))))))
theorem spec_SegFrames.mono : ∀ a0 a1 a2 k, LeO (spec_SegFrames.f k a0 a1 a2) (spec_SegFrames.f (k + 1) a0 a1 a2) := by
 intro a0 a1 a2 k
 unfold spec_SegFrames.f
 repeat' first
   | (with_reducible exact spec_ScanFrames.mono _ _ _)
   | (with_reducible exact spec_SegGen.mono _ _ _ _)
   | (with_reducible exact spec_SegText.mono _ _ _ _)
   | (with_reducible exact LeO.refl _)
   | (with_reducible exact LeO.none _)
   | (with_reducible refine LeO.ite ?_ ?_)
   | (with_reducible refine LeO.bind ?_ (fun _ => ?_))
   | exact spec_ScanFrames.mono _ _ _
   | exact spec_SegGen.mono _ _ _ _
   | exact spec_SegText.mono _ _ _ _
   | exact LeO.none _
   | refine LeO.ite ?_ ?_
   | refine LeO.bind ?_ (fun _ => ?_)
set_option maxHeartbeats 8000000 in
set_option maxRecDepth 100000 in
theorem spec_SegFrames.calls (k : Nat) (A0_0 : Option Addr) (c0_0 : Nat) (l0_0 : List ByteArray) (A0_1 : Option Addr) (c0_1 : Nat) (l0_1 : List (S67)) (a1 : Int) (r1 : List (S77)) (r2 : Int) (w : World) (hr0_0 : Kd.C Kd.string w A0_0 l0_0.length l0_0) (hc0_0 : l0_0.length ≤ c0_0) (hr0_1 : Kd.C k67 w A0_1 l0_1.length l0_1) (hc0_1 : l0_1.length ≤ c0_1) (h : spec_SegFrames.f k l0_0 l0_1 a1 = some (r1, r2)) :
  Calls Try.prog 42 #[.agg #[.slice A0_0 l0_0.length c0_0, .slice A0_1 l0_1.length c0_1], .int .i64 a1] w fun e w' => ∃ v0_ : Value, e = .returned (.tuple #[v0_, .int .i64 r2]) ∧ Kd.R k77 77 w' w.heap.size (fun _ => True) v0_ r1 ∧ Below w.heap.size w w' := by
 have hu30 := Try.underlying30
 have HR0_0 := Aside0.mk hr0_0
 have HC0_0 := Aside0.mk hc0_0
 clear hr0_0 hc0_0
 have HR0_1 := Aside0.mk hr0_1
 have HC0_1 := Aside0.mk hc0_1
 clear hr0_1 hc0_1
 have HB := ak (Below.refl w.heap.size w)
 have H : ((spec_SegGen.f k l0_0 l0_1 a1).bind fun t236 => (if t236 = 0 then (some ((([] : List (S77))), 0)) else ((spec_SegText.f k l0_0 l0_1 a1).bind fun t240 => ((spec_ScanFrames.f k t240 t236).bind fun bt241 => ((some (([] : List (S77)) : List (S77))).bind fun y245 => (if 1 ≤ (bt241.1.length : Int) then ((some (bt241.1.drop 1 : List (S77))).bind fun y248 => (if y245.length + y248.length < 4398046511104 then (some ((y245 ++ y248), bt241.2)) else (none))) else (none))))))) = some (r1, r2) := h
 clear h
 replace H := Option.bind_eq_some_iff.mp H
 obtain ⟨t236, A30, H⟩ := H
 replace H : (if t236 = 0 then (some ((([] : List (S77))), 0)) else ((spec_SegText.f k l0_0 l0_1 a1).bind fun t240 => ((spec_ScanFrames.f k t240 t236).bind fun bt241 => ((some (([] : List (S77)) : List (S77))).bind fun y245 => (if 1 ≤ (bt241.1.length : Int) then ((some (bt241.1.drop 1 : List (S77))).bind fun y248 => (if y245.length + y248.length < 4398046511104 then (some ((y245 ++ y248), bt241.2)) else (none))) else (none)))))) = some (r1, r2) := H
 have A3 := Aside0.mk A30
 clear A30
 by_cases c4 : t236 = 0
 ·rw [if_pos c4] at H
  have c4b0 : (t236 == 0) = true := beq_iff_eq.mpr c4
  have c4b1 : (t236 != 0) = false := bne_eq_false_iff_eq.mpr c4
  clear c4
  obtain ⟨y237, hy237⟩ : ∃ y_ : List (S77), y_ = (([] : List (S77))) := ⟨_, rfl⟩
  replace H : (some (y237, 0)) = some (r1, r2) := by first | (rw [hy237]; with_reducible exact H) | (have H2_ := (Option.bind_some _ _).symm.trans H; rw [hy237]; with_reducible exact H2_) | (have H2_ := (Option.bind_some _ _).symm.trans H; with_reducible exact H2_) | with_reducible exact H | (rw [hy237]; exact H) | exact H
  have Ny237 := Aside0.mk hy237
  clear hy237
  simp only [Option.some.injEq, Prod.mk.injEq] at H
  obtain ⟨rfl, rfl⟩ := H
  go_enter Try.func42, Try.ntmps42
  go_wp2_with (first | ((with_reducible refine gate_dst (N := 2) rfl ?_); refine bx 2 #[.slice A0_0 l0_0.length c0_0, .slice A0_1 l0_1.length c0_1] 30 ?_; intro gb235 hg w5 hbox hb; replace BK235 := ak (hbox); replace GW235 := ak (bz hg (lG HB)); replace GE235 := ak (bz hg (lG HB)); replace HB := lB HB hb; clear hb hbox hg; obtain ⟨hcz6_0, hcz6_1, hfz6_0, hfz6_1⟩ := bC2 BK235) | ((with_reducible refine gate_callee (f := 40) rfl ?_); refine gl (some 11) Try.func40 #[.agg #[.slice A0_0 l0_0.length c0_0, .slice A0_1 l0_1.length c0_1], .int .i64 a1] ?_; (with_reducible refine (spec_SegGen.calls k _ _ l0_0 _ _ l0_1 a1 t236 _ ?side1 ?side2 ?side3 ?side4 A3.out).mono ?_); (case side1 => exact cG (Kd.C_below HR0_0.out HB.out)); (case side2 => exact HC0_0.out); (case side3 => exact cG (Kd.C_below HR0_1.out HB.out)); (case side4 => exact HC0_1.out); rintro e w7 ⟨rfl, hb⟩; refine ⟨_, rfl, ?_⟩; replace BK235 := bB BK235 hb; replace HB := ak (below_step (lT HB (gC GE235 gN)) hb); (try clear hb); (try clear hk)) | ((with_reducible refine gate_dst (N := 14) rfl ?_); refine Kd.R_lit k77 _ 77 ?hg (N := 14) ?hd (xs := ([] : List (S77))) (inner := []) (ok := fun _ => True) (okp := fun _ => True) ?hr ?hp (fun _ hk => hk) trivial (Below.refl _ _) (Nat.le_refl _) (by simp) ?_; (case hd => rfl); (case hg => rfl); (case hr => first | (go_simp; done) | (go_simp; rfl)); (case hp => exact (Reps.none _ _)); intro v238 w8 ho9 hb hg_ hnew_; clear hg_ hnew_; (first | rw [← Ny237.out] at ho9 | (simp only [Int.reduceToNat] at ho9; rw [← Ny237.out] at ho9)); replace HO239 := ak (Kd.R_lower ho9 (below_size (lT HB (gC GE235 gN)))); replace BK235 := bB BK235 hb; replace HB := ak (below_step (lT HB (gC GE235 gN)) hb); clear hb ho9))
  go_ret2
  exact ⟨_, ew, by (with_reducible repeat (first | apply Kd.R_alloc | apply Kd.R_drewN | apply Kd.R_drew)); exact HO239.out, by exact lT HB (gC GE235 gN)⟩
 ·rw [if_neg c4] at H
  have c4b0 : (t236 == 0) = false := beq_eq_false_iff_ne.mpr c4
  have c4b1 : (t236 != 0) = true := bne_iff_ne.mpr c4
  replace H := Option.bind_eq_some_iff.mp H
  obtain ⟨t240, A100, H⟩ := H
  replace H : ((spec_ScanFrames.f k t240 t236).bind fun bt241 => ((some (([] : List (S77)) : List (S77))).bind fun y245 => (if 1 ≤ (bt241.1.length : Int) then ((some (bt241.1.drop 1 : List (S77))).bind fun y248 => (if y245.length + y248.length < 4398046511104 then (some ((y245 ++ y248), bt241.2)) else (none))) else (none)))) = some (r1, r2) := H
  have A10 := Aside0.mk A100
  clear A100
  replace H := Option.bind_eq_some_iff.mp H
  obtain ⟨⟨t241, t242⟩, A110, H⟩ := H
  replace H : ((some (([] : List (S77)) : List (S77))).bind fun y245 => (if 1 ≤ (t241.length : Int) then ((some (t241.drop 1 : List (S77))).bind fun y248 => (if y245.length + y248.length < 4398046511104 then (some ((y245 ++ y248), t242)) else (none))) else (none))) = some (r1, r2) := H
  have A11 := Aside0.mk A110
  clear A110
  obtain ⟨y245, hy245⟩ : ∃ y_ : List (S77), y_ = (([] : List (S77))) := ⟨_, rfl⟩
  replace H : (if 1 ≤ (t241.length : Int) then ((some (t241.drop 1 : List (S77))).bind fun y248 => (if y245.length + y248.length < 4398046511104 then (some ((y245 ++ y248), t242)) else (none))) else (none)) = some (r1, r2) := by first | (rw [hy245]; with_reducible exact H) | (have H2_ := (Option.bind_some _ _).symm.trans H; rw [hy245]; with_reducible exact H2_) | (have H2_ := (Option.bind_some _ _).symm.trans H; with_reducible exact H2_) | with_reducible exact H | (rw [hy245]; exact H) | exact H
  have Ny245 := Aside0.mk hy245
  clear hy245
  by_cases c12 : 1 ≤ (t241.length : Int)
  ·rw [if_pos c12] at H
   have c12b0 := eq_true c12
   have c12b1 : decide (1 ≤ (t241.length : Int)) = true := decide_eq_true c12
   clear c12
   obtain ⟨y248, hy248⟩ : ∃ y_ : List (S77), y_ = (t241.drop 1) := ⟨_, rfl⟩
   replace H : (if y245.length + y248.length < 4398046511104 then (some ((y245 ++ y248), t242)) else (none)) = some (r1, r2) := by first | (rw [hy248]; with_reducible exact H) | (have H2_ := (Option.bind_some _ _).symm.trans H; rw [hy248]; with_reducible exact H2_) | (have H2_ := (Option.bind_some _ _).symm.trans H; with_reducible exact H2_) | with_reducible exact H | (rw [hy248]; exact H) | exact H
   have Ny248 := Aside0.mk hy248
   clear hy248
   by_cases c13 : y245.length + y248.length < 4398046511104
   ·rw [if_pos c13] at H
    have LMc13 := Aside0.mk c13
    clear c13
    obtain ⟨y252, hy252⟩ : ∃ y_ : List (S77), y_ = (y245 ++ y248) := ⟨_, rfl⟩
    replace H : (some (y252, t242)) = some (r1, r2) := by first | (rw [hy252]; with_reducible exact H) | (have H2_ := (Option.bind_some _ _).symm.trans H; rw [hy252]; with_reducible exact H2_) | (have H2_ := (Option.bind_some _ _).symm.trans H; with_reducible exact H2_) | with_reducible exact H | (rw [hy252]; exact H) | exact H
    have Ny252 := Aside0.mk hy252
    clear hy252
    simp only [Option.some.injEq, Prod.mk.injEq] at H
    obtain ⟨rfl, rfl⟩ := H
    go_enter Try.func42, Try.ntmps42
    go_wp2_with (first | ((with_reducible refine gate_dst (N := 2) rfl ?_); refine bx 2 #[.slice A0_0 l0_0.length c0_0, .slice A0_1 l0_1.length c0_1] 30 ?_; intro gb235 hg w14 hbox hb; replace BK235 := ak (hbox); replace GW235 := ak (bz hg (lG HB)); replace GE235 := ak (bz hg (lG HB)); replace HB := lB HB hb; clear hb hbox hg; obtain ⟨hcz15_0, hcz15_1, hfz15_0, hfz15_1⟩ := bC2 BK235) | ((with_reducible refine gate_callee (f := 40) rfl ?_); refine gl (some 11) Try.func40 #[.agg #[.slice A0_0 l0_0.length c0_0, .slice A0_1 l0_1.length c0_1], .int .i64 a1] ?_; (with_reducible refine (spec_SegGen.calls k _ _ l0_0 _ _ l0_1 a1 t236 _ ?side1 ?side2 ?side3 ?side4 A3.out).mono ?_); (case side1 => exact cG (Kd.C_below HR0_0.out HB.out)); (case side2 => exact HC0_0.out); (case side3 => exact cG (Kd.C_below HR0_1.out HB.out)); (case side4 => exact HC0_1.out); rintro e w16 ⟨rfl, hb⟩; refine ⟨_, rfl, ?_⟩; replace BK235 := bB BK235 hb; replace HB := ak (below_step (lT HB (gC GE235 gN)) hb); (try clear hb); (try clear hk); obtain ⟨hcz17_0, hcz17_1, hfz17_0, hfz17_1⟩ := bC2 BK235) | ((with_reducible refine gate_callee (f := 25) rfl ?_); refine gl (some 18) Try.func25 #[.agg #[.slice A0_0 l0_0.length c0_0, .slice A0_1 l0_1.length c0_1], .int .i64 a1] ?_; (with_reducible refine (spec_SegText.calls k _ _ l0_0 _ _ l0_1 a1 t240 _ ?side1 ?side2 ?side3 ?side4 A10.out).mono ?_); (case side1 => exact cG (Kd.C_below HR0_0.out HB.out)); (case side2 => exact HC0_0.out); (case side3 => exact cG (Kd.C_below HR0_1.out HB.out)); (case side4 => exact HC0_1.out); rintro e w18 ⟨rfl, hb⟩; refine ⟨_, rfl, ?_⟩; replace BK235 := bB BK235 hb; replace HB := ak (below_step (lT HB (gC GE235 gN)) hb); (try clear hb); (try clear hk)) | ((with_reducible refine gate_callee (f := 71) rfl ?_); refine gl (some 20) Try.func71 #[.string t240, .int .i64 t236] ?_; (with_reducible refine (spec_ScanFrames.calls k t240 t236 t241 t242 _ A11.out).mono ?_); rintro e w19 ⟨v243, rfl, ho0, hb⟩; refine ⟨_, rfl, ?_⟩; replace HO244 := ak (Kd.R_lower ho0 (below_size (lT HB (gC GE235 gN)))); replace BK235 := bB BK235 hb; replace HB := ak (below_step (lT HB (gC GE235 gN)) hb); (try clear hb); (try clear hk); (try clear ho0)) | ((with_reducible refine gate_dst (N := 23) rfl ?_); refine Kd.R_lit k77 _ 77 ?hg (N := 23) ?hd (xs := ([] : List (S77))) (inner := []) (ok := fun _ => True) (okp := fun _ => True) ?hr ?hp (fun _ hk => hk) trivial (Below.refl _ _) (Nat.le_refl _) (by simp) ?_; (case hd => rfl); (case hg => rfl); (case hr => first | (go_simp; done) | (go_simp; rfl)); (case hp => exact (Reps.none _ _)); intro v246 w20 ho21 hb hg_ hnew_; clear hg_ hnew_; (first | rw [← Ny245.out] at ho21 | (simp only [Int.reduceToNat] at ho21; rw [← Ny245.out] at ho21)); replace HO247 := ak (Kd.R_lower (Kd.R_new' ho21 (Kd.R_lt (rG HO244))) (below_size (lT HB (gC GE235 gN)))); replace HO244 := ak (Kd.R_elder' (rG HO244) (Kd.R_base ho21) hb); replace BK235 := bB BK235 hb; replace HB := ak (below_step (lT HB (gC GE235 gN)) hb); clear hb ho21; obtain ⟨Ao23, co23, eo23⟩ := Kd.R_slice HO244.out; subst eo23; have q22 : (1 : Int) ≤ ((t241.length : Int) : Int) := of_decide_eq_true (by first | (with_reducible assumption) | assumption); obtain ⟨i022, hi022, _, hsz22, _⟩ := info_parts info77; have hroom22 : t241.length ≤ co23 := (Kd.R_reads' HO244.out).2.1; have hC22 : Kd.C k77 _ Ao23 t241.length t241 := (Kd.R_reads' HO244.out).2.2; have hcut22 := cut_from (P := Try.prog) 54 77 .i64 Try.underlying54 hi022 3 hsz22 Ao23 t241.length co23 1 (by omega) q22; have hr22 := Kd.C_drop (m := (1 : Int).toNat) (c := co23) hC22 (by omega) hroom22; obtain ⟨A22, hA22⟩ : ∃ A1, A1 = (if co23 = (1 : Int).toNat then Ao23 else (Ao23 : Option Addr).map (·.add ((1 : Int).toNat * 3))) := ⟨_, rfl⟩; obtain ⟨c22, hc22⟩ : ∃ c1, c1 = co23 - (1 : Int).toNat := ⟨_, rfl⟩; have hy22 : y248.length = t241.length - (1 : Int).toNat := (by rw [Ny248.out, List.length_drop] <;> omega); rw [show (t241).drop (1 : Int).toNat = y248 from Ny248.out.symm] at hr22; replace hr22 : Kd.C k77 _ A22 y248.length y248 := (by rw [hA22]; exact hr22); rw [← hy22, ← hA22, ← hc22] at hcut22; have HR251 := Aside0.mk hr22; have HC251 := ak (show y248.length ≤ c22 from by rw [hy22, hc22]; exact Nat.sub_le_sub_right hroom22 _); clear hr22 hC22 hroom22 hi022 hsz22 hc22; have KY22 := Aside0.mk hy22; have KA22 := Aside0.mk hA22; clear hy22 hA22; have KL22 := ak (show 1 ≤ t241.length from by omega); replace q22 := eq_true q22) | ((with_reducible refine gate_builtin (b := .append) (xs := #[.tmp 23, .tmp 25]) rfl ?_); at_builtin; refine Kd.R_append_rows k77 (w0 := w) w.heap.size rfl (.tmp 23) (.tmp 25) 54 77 (.agg #[(.int .i64 0), (.int .i64 0), (.string ⟨#[]⟩)]) 32 rfl Try.underlying54 info77 rfl (by decide) (by omega) v246 y245 y248 _ _ _ (fun k_ => some k_ ≠ (.slice Ao23 t241.length co23 : Value).ownBlock) (fun _ => False) rfl rfl ?aO ?aR (fun _ _ h => h) (fun _ h => h.elim) ?aF ?aB ?aS ?aL ?_; (case aR => repeat (first | exact (by repeat (first | (with_reducible exact HR251.out) | (with_reducible refine Kd.C_alloc ?_ _) | (with_reducible refine Kd.C_drewN ?_ _) | (with_reducible refine Kd.C_drew ?_) | exact HR251.out)) | (with_reducible refine Kd.C_alloc ?_ _) | (with_reducible refine Kd.C_drewN ?_ _) | (with_reducible refine Kd.C_drew ?_))); (case aB => exact (lT HB (gC GE235 gN))); (case aF => exact (fun k_ hk => Kd.fresh' (Kd.R_lt (rG HO244)) k_ hk)); (case aO => exact (by (with_reducible repeat (first | apply Kd.R_alloc | apply Kd.R_drewN | apply Kd.R_drew)); exact Kd.R_mono HO247.out (fun _ hk => hk.2))); (case aS => exact (below_size (lT HB (gC GE235 gN)))); (case aL => have := LMc13.out; omega); intro v253 w24 ho hb hg hat; rw [← Ny252.out] at ho; have n0_ := ak (blk_grown (g := gb235) (o := .cells #[.slice A0_0 l0_0.length c0_0, .slice A0_1 l0_1.length c0_1] 30 (0, 0)) (bG BK235) hg (Kd.R_ne HO247.out BK235.out (by decide))); have n1_ := ak (Kd.R_after (ok := (fun _ => True)) (rG HO244) hg hat); have n2_ := ak (hb); have n3_ := ak ((show Kd.C k77 w24 A22 y248.length y248 from by rw [Ny248.out, KA22.out]; exact Kd.C_drop (m := 1) (c := co23) ((Kd.R_reads' (Kd.R_after (ok := (fun _ => True)) (rG HO244) hg hat)).2.2) KL22.out ((Kd.R_reads' (Kd.R_after (ok := (fun _ => True)) (rG HO244) hg hat)).2.1))); have n4_ := ak (ho); clear BK235; clear HO244; clear HB; clear HR251; clear HO247; have BK235 := n0_; have HO244 := n1_; have HB := n2_; have HR251 := n3_; have HO254 := n4_; clear n0_ n1_ n2_ n3_ n4_; clear ho hb hg hat))
    go_ret2
    exact ⟨_, ew, by (with_reducible repeat (first | apply Kd.R_alloc | apply Kd.R_drewN | apply Kd.R_drew)); exact Kd.R_mono HO254.out (fun _ hk => trivial), by exact lT HB (gC GE235 gN)⟩
   ·rw [if_neg c13] at H
    exact absurd H (by simp)
  ·rw [if_neg c12] at H
   exact absurd H (by simp)

/-! ### impl_in: function 52 -/
def impl_in.f (a0 : Int) (a1 : Int) (a2 : Int) : Option (Bool) := if a0 ≥ a1 then (some (decide (a0 ≤ a2))) else (some false)
set_option maxHeartbeats 8000000 in
set_option maxRecDepth 100000 in
theorem impl_in.calls (a0 : Int) (a1 : Int) (a2 : Int) (r : Bool) (w : World) (h : impl_in.f a0 a1 a2 = some r) :
  Calls Try.prog 52 #[.int .i64 a0, .int .i64 a1, .int .i64 a2] w fun e w' => e = .returned (.bool r) ∧ Drawn0 w w' := by
 have H : (if a0 ≥ a1 then (some (decide (a0 ≤ a2))) else (some false)) = some r := h
 clear h
 by_cases c4 : a0 ≥ a1
 ·rw [if_pos c4] at H
  have c4b0 : decide (a1 ≤ a0) = true := decide_eq_true c4
  clear c4
  obtain rfl := Option.some.inj H
  go_enter Try.func52, Try.ntmps52
  go_wp2
  go_ret
  exact ⟨by first | rfl | (simp; done) | (simp [*]; done), by repeat (first | exact Drawn0.refl _ | apply Drawn0.step)⟩
 ·rw [if_neg c4] at H
  have c4b0 : decide (a1 ≤ a0) = false := decide_eq_false c4
  clear c4
  obtain rfl := Option.some.inj H
  go_enter Try.func52, Try.ntmps52
  go_wp2
  go_ret
  exact ⟨by first | rfl | (simp; done) | (simp [*]; done), by repeat (first | exact Drawn0.refl _ | apply Drawn0.step)⟩

/-! ### impl_ReadSector: function 20 -/
def impl_ReadSector.l0 : Nat → Int → ByteArray → List (S67) → Int → Int → Option (ByteArray × Bool)
 | 0, _, _, _, _, _ => none
 | k + 1, x1, x6, x22, x23, x24 => if x24 < x23 then (if 0 ≤ x24 then (if x24 < (x22.length : Int) then (if ((rd_T67 x22 x24).f0) = x1 then (impl_ReadSector.l0 k x1 ((rd_T67 x22 x24).f1) x22 x23 (wrap64 (x24 + 1))) else (impl_ReadSector.l0 k x1 x6 x22 x23 (wrap64 (x24 + 1)))) else (none)) else (none)) else (some (x6, true))
def impl_ReadSector.f (k : Nat) (l0_0 : List ByteArray) (l0_1 : List (S67)) (a1 : Int) : Option (ByteArray × Bool) := (impl_in.f a1 0 (wrap64 ((l0_0.length : Int) - 1))).bind fun t256 => (if t256 = true then (if 0 ≤ a1 then (if a1 < (l0_0.length : Int) then (impl_ReadSector.l0 k a1 (rdOf ByteArray.empty l0_0 a1) l0_1 (l0_1.length : Int) 0) else (none)) else (none)) else (some ((⟨#[]⟩ : ByteArray), false)))
theorem impl_ReadSector.mono_l : ∀ k, (∀ y0 y1 y2 y3 y4, LeO (impl_ReadSector.l0 k y0 y1 y2 y3 y4) (impl_ReadSector.l0 (k + 1) y0 y1 y2 y3 y4))
 | 0 => fun _ _ _ _ _ r h => by simp [impl_ReadSector.l0] at h
 | k + 1 => by
  have ih0 := impl_ReadSector.mono_l k
  ·intro y0 y1 y2 y3 y4
   unfold impl_ReadSector.l0
   repeat' first
   | (with_reducible exact ih0 _ _ _ _ _)
   | (with_reducible exact LeO.refl _)
   | (with_reducible exact LeO.none _)
   | (with_reducible refine LeO.ite ?_ ?_)
   | (with_reducible refine LeO.bind ?_ (fun _ => ?_))
   | exact ih0 _ _ _ _ _
   | exact LeO.none _
   | refine LeO.ite ?_ ?_
   | refine LeO.bind ?_ (fun _ => ?_)
theorem impl_ReadSector.mono : ∀ a0 a1 a2 k, LeO (impl_ReadSector.f k a0 a1 a2) (impl_ReadSector.f (k + 1) a0 a1 a2) := by
 intro a0 a1 a2 k
 have ih0 := impl_ReadSector.mono_l k
 unfold impl_ReadSector.f
 repeat' first
   | (with_reducible exact ih0 _ _ _ _ _)
   | (with_reducible exact LeO.refl _)
   | (with_reducible exact LeO.none _)
   | (with_reducible refine LeO.ite ?_ ?_)
   | (with_reducible refine LeO.bind ?_ (fun _ => ?_))
   | exact ih0 _ _ _ _ _
   | exact LeO.none _
   | refine LeO.ite ?_ ?_
   | refine LeO.bind ?_ (fun _ => ?_)
set_option maxHeartbeats 8000000 in
set_option maxRecDepth 100000 in
theorem impl_ReadSector.calls (k : Nat) (A0_0 : Option Addr) (c0_0 : Nat) (l0_0 : List ByteArray) (A0_1 : Option Addr) (c0_1 : Nat) (l0_1 : List (S67)) (a1 : Int) (r1 : ByteArray) (r2 : Bool) (w : World) (hr0_0 : Kd.C Kd.string w A0_0 l0_0.length l0_0) (hc0_0 : l0_0.length ≤ c0_0) (hr0_1 : Kd.C k67 w A0_1 l0_1.length l0_1) (hc0_1 : l0_1.length ≤ c0_1) (h : impl_ReadSector.f k l0_0 l0_1 a1 = some (r1, r2)) :
  Calls Try.prog 20 #[.agg #[.slice A0_0 l0_0.length c0_0, .slice A0_1 l0_1.length c0_1], .int .i64 a1] w fun e w' => e = .returned (.tuple #[.string r1, .bool r2]) ∧ Below w.heap.size w w' := by
 have hu30 := Try.underlying30
 have hu67 := Try.underlying67
 have HR0_0 := Aside0.mk hr0_0
 have HC0_0 := Aside0.mk hc0_0
 clear hr0_0 hc0_0
 have HR0_1 := Aside0.mk hr0_1
 have HC0_1 := Aside0.mk hc0_1
 clear hr0_1 hc0_1
 have HB := ak (Below.refl w.heap.size w)
 have H : ((impl_in.f a1 0 (wrap64 ((l0_0.length : Int) - 1))).bind fun t256 => (if t256 = true then (if 0 ≤ a1 then (if a1 < (l0_0.length : Int) then (impl_ReadSector.l0 k a1 (rdOf ByteArray.empty l0_0 a1) l0_1 (l0_1.length : Int) 0) else (none)) else (none)) else (some ((⟨#[]⟩ : ByteArray), false)))) = some (r1, r2) := h
 clear h
 replace H := Option.bind_eq_some_iff.mp H
 obtain ⟨t256, A30, H⟩ := H
 replace H : (if t256 = true then (if 0 ≤ a1 then (if a1 < (l0_0.length : Int) then (impl_ReadSector.l0 k a1 (rdOf ByteArray.empty l0_0 a1) l0_1 (l0_1.length : Int) 0) else (none)) else (none)) else (some ((⟨#[]⟩ : ByteArray), false))) = some (r1, r2) := H
 have A3 := Aside0.mk A30
 clear A30
 by_cases c4 : t256 = true
 ·subst c4
  have H1 : (if 0 ≤ a1 then (if a1 < (l0_0.length : Int) then (impl_ReadSector.l0 k a1 (rdOf ByteArray.empty l0_0 a1) l0_1 (l0_1.length : Int) 0) else (none)) else (none)) = some (r1, r2) := by rw [if_pos rfl] at H; exact H
  clear H
  have H := H1
  clear H1
  by_cases c5 : 0 ≤ a1
  ·rw [if_pos c5] at H
   have c5b0 : decide (0 ≤ a1) = true := decide_eq_true c5
   clear c5
   by_cases c6 : a1 < (l0_0.length : Int)
   ·rw [if_pos c6] at H
    have c6b0 : decide (a1 < (l0_0.length : Int)) = true := decide_eq_true c6
    clear c6
    have H' := Aside0.mk H
    clear H
    go_enter Try.func20, Try.ntmps20
    go_wp2_with (first | ((with_reducible refine gate_dst (N := 2) rfl ?_); refine bx 2 #[.slice A0_0 l0_0.length c0_0, .slice A0_1 l0_1.length c0_1] 30 ?_; intro gb255 hg w7 hbox hb; replace BK255 := ak (hbox); replace GW255 := ak (bz hg (lG HB)); replace GE255 := ak (bz hg (lG HB)); replace HB := lB HB hb; clear hb hbox hg; obtain ⟨hcz8_0, hcz8_1, hfz8_0, hfz8_1⟩ := bC2 BK255) | ((with_reducible refine gate_callee (f := 52) rfl ?_); refine gl (some 14) Try.func52 #[.int .i64 a1, .int .i64 0, .int .i64 (wrap64 ((l0_0.length : Int) - 1))] ?_; (with_reducible refine (impl_in.calls a1 0 (wrap64 ((l0_0.length : Int) - 1)) true _ A3.out).mono ?_); rintro e w' ⟨rfl, ⟨nd, rfl⟩⟩; refine ⟨_, rfl, ?_⟩; have p257 : 0 ≤ (a1 : Int) := of_decide_eq_true (by first | (with_reducible assumption) | assumption); have q257 : a1 < (l0_0.length : Int) := of_decide_eq_true (by first | (with_reducible assumption) | assumption); obtain ⟨ad257, e257, hx257_0⟩ := Kd.at_string HR0_0.out a1 p257 q257; cases e257; replace hx257_0 := (HB.out.cell (World.block_lt_of_cell? w _ hx257_0)).trans hx257_0; replace p257 := eq_true p257; replace q257 := eq_true q257))
    go_loopg [6, 24] k (fun kq v6 v24 w' => ∃ (x6_1 : ByteArray) (x24_1 : Int), v6 = .string x6_1 ∧ v24 = .int .i64 x24_1 ∧ Aside0 (impl_ReadSector.l0 kq a1 x6_1 l0_1 (l0_1.length : Int) x24_1 = some (r1, r2)) ∧ Aside0 (kq ≤ k) ∧ Aside0 (w'.heap[gb255]? = some (.cells #[(.slice (some ad257) l0_0.length c0_0), (.slice A0_1 l0_1.length c0_1)] 30 (0, 0))) ∧ Aside0 (Below w.heap.size w w'))
    case atStart => exact ⟨(rdOf ByteArray.empty l0_0 a1), (0), (by first | rfl | (simp; done) | (simp [*]; done)), (by first | rfl | (simp; done) | (simp [*]; done)), H', ⟨Nat.le_refl _⟩, ⟨bG BK255⟩, ⟨by exact lT HB (gC GE255 gN)⟩⟩
    case round =>
     clear H'
     try clear c2
     try clear p2
     try clear q2
     try clear hx2
     try clear c4
     try clear c5
     try clear c5b0
     try clear c6
     try clear c6b0
     try clear p6
     try clear hcz8_0
     try clear hcz8_1
     try clear hfz8_0
     try clear hfz8_1
     try clear hx257_0
     try clear p257
     try clear q257
     obtain ⟨x6_1, x24_1, rfl, rfl, HA, HK1, BK255, HB⟩ := hrel
     cases gk with
     | zero => exact absurd HA.out (by simp [impl_ReadSector.l0])
     | succ k1 =>
      have H := HA.out
      clear HA
      simp only [impl_ReadSector.l0] at H
      by_cases c9 : x24_1 < (l0_1.length : Int)
      ·rw [if_pos c9] at H
       have c9b0 : decide (x24_1 < (l0_1.length : Int)) = true := decide_eq_true c9
       clear c9
       by_cases c10 : 0 ≤ x24_1
       ·rw [if_pos c10] at H
        have c10b0 : decide (0 ≤ x24_1) = true := decide_eq_true c10
        clear c10
        by_cases c11 : x24_1 < (l0_1.length : Int)
        ·rw [if_pos c11] at H
         have c11b0 : decide (x24_1 < (l0_1.length : Int)) = true := decide_eq_true c11
         clear c11
         by_cases c12 : ((rd_T67 l0_1 x24_1).f0) = a1
         ·rw [if_pos c12] at H
          have c12b0 : (((rd_T67 l0_1 x24_1).f0) == a1) = true := beq_iff_eq.mpr c12
          have c12b1 : (((rd_T67 l0_1 x24_1).f0) != a1) = false := bne_eq_false_iff_eq.mpr c12
          clear c12
          have H' := Aside0.mk H
          clear H
          have p258 : 0 ≤ (x24_1 : Int) := of_decide_eq_true (by first | (with_reducible assumption) | assumption)
          have q258 : x24_1 < (l0_1.length : Int) := of_decide_eq_true (by first | (with_reducible assumption) | assumption)
          obtain ⟨ad258, e258, hx258_0, hx258_1⟩ := at_T67 HR0_1.out x24_1 p258 q258
          cases e258
          replace hx258_0 := (HB.out.cell (World.block_lt_of_cell? w _ hx258_0)).trans hx258_0
          replace hx258_1 := (HB.out.cell (World.block_lt_of_cell? w _ hx258_1)).trans hx258_1
          replace p258 := eq_true p258
          replace q258 := eq_true q258
          go_wp2_with (first | ((with_reducible refine gate_dst (N := 8) rfl ?_); refine bx 8 #[.int .i64 0, .string (⟨#[]⟩ : ByteArray)] 67 ?_; intro gb259 hg w13 hbox hb; replace BK259 := ak (hbox); replace GW259 := ak (bz hg (lT HB (gC GE255 gN))); replace GE259 := ak (bz hg (lT HB (gC GE255 gN))); replace HB := ak (below_step (lT HB (gC GE255 gN)) hb); replace NB255_259 := ak (nl hg (bG BK255)); replace NB259_255 := ak (ng hg (bG BK255)); replace BK255 := bB BK255 hb; clear hb hbox hg; have hnb14 := NB259_255.out; have hnc14 := NB255_259.out; obtain ⟨hcz15_0, hcz15_1, hfz15_0, hfz15_1⟩ := bC2 BK259))
          go_roundg k1
          case measure => have := HK1.out; omega
          case rel => exact ⟨((rd_T67 l0_1 x24_1).f1), (wrap64 (x24_1 + 1)), (by first | rfl | (simp; done) | (simp [*]; done)), (by first | rfl | (simp; done) | (simp [*]; done)), H', ⟨by have := HK1.out; omega⟩, ⟨by (with_reducible repeat (first | refine blk_drewN ?_ _ | refine blk_drew ?_ | refine blk_alloc ?_ _)); refine blk_far ?_ NB255_259.out _; (with_reducible repeat (first | refine blk_drewN ?_ _ | refine blk_drew ?_ | refine blk_alloc ?_ _)); refine blk_far ?_ NB255_259.out _; (with_reducible repeat (first | refine blk_drewN ?_ _ | refine blk_drew ?_ | refine blk_alloc ?_ _)); exact BK255.out⟩, ⟨by exact lT HB (gC GE255 (gC GE259 gN))⟩⟩
         ·rw [if_neg c12] at H
          have c12b0 : (((rd_T67 l0_1 x24_1).f0) == a1) = false := beq_eq_false_iff_ne.mpr c12
          have c12b1 : (((rd_T67 l0_1 x24_1).f0) != a1) = true := bne_iff_ne.mpr c12
          have H' := Aside0.mk H
          clear H
          have p258 : 0 ≤ (x24_1 : Int) := of_decide_eq_true (by first | (with_reducible assumption) | assumption)
          have q258 : x24_1 < (l0_1.length : Int) := of_decide_eq_true (by first | (with_reducible assumption) | assumption)
          obtain ⟨ad258, e258, hx258_0, hx258_1⟩ := at_T67 HR0_1.out x24_1 p258 q258
          cases e258
          replace hx258_0 := (HB.out.cell (World.block_lt_of_cell? w _ hx258_0)).trans hx258_0
          replace hx258_1 := (HB.out.cell (World.block_lt_of_cell? w _ hx258_1)).trans hx258_1
          replace p258 := eq_true p258
          replace q258 := eq_true q258
          go_wp2_with (first | ((with_reducible refine gate_dst (N := 8) rfl ?_); refine bx 8 #[.int .i64 0, .string (⟨#[]⟩ : ByteArray)] 67 ?_; intro gb259 hg w16 hbox hb; replace BK259 := ak (hbox); replace GW259 := ak (bz hg (lT HB (gC GE255 gN))); replace GE259 := ak (bz hg (lT HB (gC GE255 gN))); replace HB := ak (below_step (lT HB (gC GE255 gN)) hb); replace NB255_259 := ak (nl hg (bG BK255)); replace NB259_255 := ak (ng hg (bG BK255)); replace BK255 := bB BK255 hb; clear hb hbox hg; have hnb17 := NB259_255.out; have hnc17 := NB255_259.out; obtain ⟨hcz18_0, hcz18_1, hfz18_0, hfz18_1⟩ := bC2 BK259))
          go_roundg k1
          case measure => have := HK1.out; omega
          case rel => exact ⟨(x6_1), (wrap64 (x24_1 + 1)), (by first | rfl | (simp; done) | (simp [*]; done)), (by first | rfl | (simp; done) | (simp [*]; done)), H', ⟨by have := HK1.out; omega⟩, ⟨by (with_reducible repeat (first | refine blk_drewN ?_ _ | refine blk_drew ?_ | refine blk_alloc ?_ _)); refine blk_far ?_ NB255_259.out _; (with_reducible repeat (first | refine blk_drewN ?_ _ | refine blk_drew ?_ | refine blk_alloc ?_ _)); refine blk_far ?_ NB255_259.out _; (with_reducible repeat (first | refine blk_drewN ?_ _ | refine blk_drew ?_ | refine blk_alloc ?_ _)); exact BK255.out⟩, ⟨by exact lT HB (gC GE255 (gC GE259 gN))⟩⟩
        ·rw [if_neg c11] at H
         exact absurd H (by simp)
       ·rw [if_neg c10] at H
        exact absurd H (by simp)
      ·rw [if_neg c9] at H
       have c9b0 : decide (x24_1 < (l0_1.length : Int)) = false := decide_eq_false c9
       clear c9
       simp only [Option.some.injEq, Prod.mk.injEq] at H
       obtain ⟨rfl, rfl⟩ := H
       go_wp2
       go_ret2
       exact ⟨ew, by exact lT HB (gC GE255 gN)⟩
   ·rw [if_neg c6] at H
    exact absurd H (by simp)
  ·rw [if_neg c5] at H
   exact absurd H (by simp)
 ·replace c4 := Bool.eq_false_iff.mpr c4
  subst c4
  have H1 : (some ((⟨#[]⟩ : ByteArray), false)) = some (r1, r2) := by rw [if_neg (show ¬ (false = true) by decide)] at H; exact H
  clear H
  have H := H1
  clear H1
  simp only [Option.some.injEq, Prod.mk.injEq] at H
  obtain ⟨rfl, rfl⟩ := H
  go_enter Try.func20, Try.ntmps20
  go_wp2_with (first | ((with_reducible refine gate_dst (N := 2) rfl ?_); refine bx 2 #[.slice A0_0 l0_0.length c0_0, .slice A0_1 l0_1.length c0_1] 30 ?_; intro gb255 hg w19 hbox hb; replace BK255 := ak (hbox); replace GW255 := ak (bz hg (lG HB)); replace GE255 := ak (bz hg (lG HB)); replace HB := lB HB hb; clear hb hbox hg; obtain ⟨hcz20_0, hcz20_1, hfz20_0, hfz20_1⟩ := bC2 BK255) | ((with_reducible refine gate_callee (f := 52) rfl ?_); refine gl (some 14) Try.func52 #[.int .i64 a1, .int .i64 0, .int .i64 (wrap64 ((l0_0.length : Int) - 1))] ?_; (with_reducible refine (impl_in.calls a1 0 (wrap64 ((l0_0.length : Int) - 1)) false _ A3.out).mono ?_); rintro e w' ⟨rfl, ⟨nd, rfl⟩⟩; refine ⟨_, rfl, ?_⟩))
  go_ret2
  exact ⟨ew, by exact lT HB (gC GE255 gN)⟩

/-! ### impl_SectorText: function 24 -/
def impl_SectorText.l0 : Nat → Int → ByteArray → Int → Int → List ByteArray → List (S67) → Option (ByteArray × Bool)
 | 0, _, _, _, _, _, _ => none
 | k + 1, x1, x8, x15, x16, x261000, x261001 => if x16 < x15 then ((impl_ReadSector.f k x261000 x261001 (wrap64 (x1 + x16))).bind fun bt262 => (if bt262.2 = true then (if x8.size + bt262.1.size ≤ 9223372036854775807 then (impl_SectorText.l0 k x1 (x8 ++ bt262.1) x15 (wrap64 (x16 + 1)) x261000 x261001) else (none)) else (some ((⟨#[]⟩ : ByteArray), false)))) else (some (x8, true))
def impl_SectorText.f (k : Nat) (l0_0 : List ByteArray) (l0_1 : List (S67)) (a1 : Int) (a2 : Int) : Option (ByteArray × Bool) := (impl_in.f a2 0 100).bind fun t261 => (if t261 = true then (impl_SectorText.l0 k a1 (⟨#[]⟩ : ByteArray) a2 0 l0_0 l0_1) else (some ((⟨#[]⟩ : ByteArray), false)))
theorem impl_SectorText.mono_l : ∀ k, (∀ y0 y1 y2 y3 y4 y5, LeO (impl_SectorText.l0 k y0 y1 y2 y3 y4 y5) (impl_SectorText.l0 (k + 1) y0 y1 y2 y3 y4 y5))
 | 0 => fun _ _ _ _ _ _ r h => by simp [impl_SectorText.l0] at h
 | k + 1 => by
  have ih0 := impl_SectorText.mono_l k
  ·intro y0 y1 y2 y3 y4 y5
   unfold impl_SectorText.l0
   repeat' first
   | (with_reducible exact ih0 _ _ _ _ _ _)
   | (with_reducible exact impl_ReadSector.mono _ _ _ _)
   | (with_reducible exact LeO.refl _)
   | (with_reducible exact LeO.none _)
   | (with_reducible refine LeO.ite ?_ ?_)
   | (with_reducible refine LeO.bind ?_ (fun _ => ?_))
   | exact ih0 _ _ _ _ _ _
   | exact impl_ReadSector.mono _ _ _ _
   | exact LeO.none _
   | refine LeO.ite ?_ ?_
   | refine LeO.bind ?_ (fun _ => ?_)
theorem impl_SectorText.mono : ∀ a0 a1 a2 a3 k, LeO (impl_SectorText.f k a0 a1 a2 a3) (impl_SectorText.f (k + 1) a0 a1 a2 a3) := by
 intro a0 a1 a2 a3 k
 have ih0 := impl_SectorText.mono_l k
 unfold impl_SectorText.f
 repeat' first
   | (with_reducible exact ih0 _ _ _ _ _ _)
   | (with_reducible exact impl_ReadSector.mono _ _ _ _)
   | (with_reducible exact LeO.refl _)
   | (with_reducible exact LeO.none _)
   | (with_reducible refine LeO.ite ?_ ?_)
   | (with_reducible refine LeO.bind ?_ (fun _ => ?_))
   | exact ih0 _ _ _ _ _ _
   | exact impl_ReadSector.mono _ _ _ _
   | exact LeO.none _
   | refine LeO.ite ?_ ?_
   | refine LeO.bind ?_ (fun _ => ?_)
set_option maxHeartbeats 8000000 in
set_option maxRecDepth 100000 in
theorem impl_SectorText.calls (k : Nat) (A0_0 : Option Addr) (c0_0 : Nat) (l0_0 : List ByteArray) (A0_1 : Option Addr) (c0_1 : Nat) (l0_1 : List (S67)) (a1 : Int) (a2 : Int) (r1 : ByteArray) (r2 : Bool) (w : World) (hr0_0 : Kd.C Kd.string w A0_0 l0_0.length l0_0) (hc0_0 : l0_0.length ≤ c0_0) (hr0_1 : Kd.C k67 w A0_1 l0_1.length l0_1) (hc0_1 : l0_1.length ≤ c0_1) (h : impl_SectorText.f k l0_0 l0_1 a1 a2 = some (r1, r2)) :
  Calls Try.prog 24 #[.agg #[.slice A0_0 l0_0.length c0_0, .slice A0_1 l0_1.length c0_1], .int .i64 a1, .int .i64 a2] w fun e w' => e = .returned (.tuple #[.string r1, .bool r2]) ∧ Below w.heap.size w w' := by
 have hu30 := Try.underlying30
 have HR0_0 := Aside0.mk hr0_0
 have HC0_0 := Aside0.mk hc0_0
 clear hr0_0 hc0_0
 have HR0_1 := Aside0.mk hr0_1
 have HC0_1 := Aside0.mk hc0_1
 clear hr0_1 hc0_1
 have HB := ak (Below.refl w.heap.size w)
 have H : ((impl_in.f a2 0 100).bind fun t261 => (if t261 = true then (impl_SectorText.l0 k a1 (⟨#[]⟩ : ByteArray) a2 0 l0_0 l0_1) else (some ((⟨#[]⟩ : ByteArray), false)))) = some (r1, r2) := h
 clear h
 replace H := Option.bind_eq_some_iff.mp H
 obtain ⟨t261, A40, H⟩ := H
 replace H : (if t261 = true then (impl_SectorText.l0 k a1 (⟨#[]⟩ : ByteArray) a2 0 l0_0 l0_1) else (some ((⟨#[]⟩ : ByteArray), false))) = some (r1, r2) := H
 have A4 := Aside0.mk A40
 clear A40
 by_cases c5 : t261 = true
 ·subst c5
  have H1 : (impl_SectorText.l0 k a1 (⟨#[]⟩ : ByteArray) a2 0 l0_0 l0_1) = some (r1, r2) := by rw [if_pos rfl] at H; exact H
  clear H
  have H := H1
  clear H1
  have H' := Aside0.mk H
  clear H
  go_enter Try.func24, Try.ntmps24
  go_wp2_with (first | ((with_reducible refine gate_dst (N := 3) rfl ?_); refine bx 3 #[.slice A0_0 l0_0.length c0_0, .slice A0_1 l0_1.length c0_1] 30 ?_; intro gb260 hg w6 hbox hb; replace BK260 := ak (hbox); replace GW260 := ak (bz hg (lG HB)); replace GE260 := ak (bz hg (lG HB)); replace HB := lB HB hb; clear hb hbox hg) | ((with_reducible refine gate_callee (f := 52) rfl ?_); refine gl (some 13) Try.func52 #[.int .i64 a2, .int .i64 0, .int .i64 100] ?_; (with_reducible refine (impl_in.calls a2 0 100 true _ A4.out).mono ?_); rintro e w' ⟨rfl, ⟨nd, rfl⟩⟩; refine ⟨_, rfl, ?_⟩))
  go_loopg [8, 16] k (fun kq v8 v16 w' => ∃ (x8_1 : ByteArray) (x16_1 : Int), v8 = .string x8_1 ∧ v16 = .int .i64 x16_1 ∧ Aside0 (impl_SectorText.l0 kq a1 x8_1 a2 x16_1 l0_0 l0_1 = some (r1, r2)) ∧ Aside0 (kq ≤ k) ∧ Aside0 (w'.heap[gb260]? = some (.cells #[(.slice A0_0 l0_0.length c0_0), (.slice A0_1 l0_1.length c0_1)] 30 (0, 0))) ∧ Aside0 (Below w.heap.size w w'))
  case atStart => exact ⟨((⟨#[]⟩ : ByteArray)), (0), (by first | rfl | (simp; done) | (simp [*]; done)), (by first | rfl | (simp; done) | (simp [*]; done)), H', ⟨Nat.le_refl _⟩, ⟨bG BK260⟩, ⟨by exact lT HB (gC GE260 gN)⟩⟩
  case round =>
   clear H'
   try clear c2
   try clear p2
   try clear c5
   obtain ⟨x8_1, x16_1, rfl, rfl, HA, HK1, BK260, HB⟩ := hrel
   cases gk with
   | zero => exact absurd HA.out (by simp [impl_SectorText.l0])
   | succ k1 =>
    have H := HA.out
    clear HA
    simp only [impl_SectorText.l0] at H
    by_cases c7 : x16_1 < a2
    ·rw [if_pos c7] at H
     have c7b0 : decide (x16_1 < a2) = true := decide_eq_true c7
     clear c7
     replace H := Option.bind_eq_some_iff.mp H
     obtain ⟨⟨t262, t263⟩, A80, H⟩ := H
     replace H : (if t263 = true then (if x8_1.size + t262.size ≤ 9223372036854775807 then (impl_SectorText.l0 k1 a1 (x8_1 ++ t262) a2 (wrap64 (x16_1 + 1)) l0_0 l0_1) else (none)) else (some ((⟨#[]⟩ : ByteArray), false))) = some (r1, r2) := H
     have A8 := Aside0.mk A80
     clear A80
     by_cases c9 : t263 = true
     ·subst c9
      have H1 : (if x8_1.size + t262.size ≤ 9223372036854775807 then (impl_SectorText.l0 k1 a1 (x8_1 ++ t262) a2 (wrap64 (x16_1 + 1)) l0_0 l0_1) else (none)) = some (r1, r2) := by rw [if_pos rfl] at H; exact H
      clear H
      have H := H1
      clear H1
      by_cases c10 : x8_1.size + t262.size ≤ 9223372036854775807
      ·rw [if_pos c10] at H
       have c10b0 := eq_true c10
       have c10b1 : decide (x8_1.size + t262.size ≤ 9223372036854775807) = true := decide_eq_true c10
       try have c10b2 : (9223372036854775807 < x8_1.size + t262.size) = False := eq_false (Nat.not_lt.2 c10)
       have H' := Aside0.mk H
       clear H
       obtain ⟨hcz11_0, hcz11_1, hfz11_0, hfz11_1⟩ := bC2 BK260
       go_wp2_with (first | ((with_reducible refine gate_callee (f := 20) rfl ?_); refine gl (some 24) Try.func20 #[.agg #[.slice A0_0 l0_0.length c0_0, .slice A0_1 l0_1.length c0_1], .int .i64 (wrap64 (a1 + x16_1))] ?_; (with_reducible refine (impl_ReadSector.calls k1 _ _ l0_0 _ _ l0_1 (wrap64 (a1 + x16_1)) t262 true _ ?side1 ?side2 ?side3 ?side4 A8.out).mono ?_); (case side1 => exact cG (Kd.C_below HR0_0.out HB.out)); (case side2 => exact HC0_0.out); (case side3 => exact cG (Kd.C_below HR0_1.out HB.out)); (case side4 => exact HC0_1.out); rintro e w12 ⟨rfl, hb⟩; refine ⟨_, rfl, ?_⟩; replace BK260 := bB BK260 hb; replace HB := ak (below_step (lT HB (gC GE260 gN)) hb); (try clear hb); (try clear hk)))
       go_roundg k1
       case measure => have := HK1.out; omega
       case rel => exact ⟨(x8_1 ++ t262), (wrap64 (x16_1 + 1)), (by first | rfl | (simp; done) | (simp [*]; done)), (by first | rfl | (simp; done) | (simp [*]; done)), H', ⟨by have := HK1.out; omega⟩, ⟨bG BK260⟩, ⟨by exact lT HB (gC GE260 gN)⟩⟩
      ·rw [if_neg c10] at H
       exact absurd H (by simp)
     ·replace c9 := Bool.eq_false_iff.mpr c9
      subst c9
      have H1 : (some ((⟨#[]⟩ : ByteArray), false)) = some (r1, r2) := by rw [if_neg (show ¬ (false = true) by decide)] at H; exact H
      clear H
      have H := H1
      clear H1
      simp only [Option.some.injEq, Prod.mk.injEq] at H
      obtain ⟨rfl, rfl⟩ := H
      obtain ⟨hcz13_0, hcz13_1, hfz13_0, hfz13_1⟩ := bC2 BK260
      go_wp2_with (first | ((with_reducible refine gate_callee (f := 20) rfl ?_); refine gl (some 24) Try.func20 #[.agg #[.slice A0_0 l0_0.length c0_0, .slice A0_1 l0_1.length c0_1], .int .i64 (wrap64 (a1 + x16_1))] ?_; (with_reducible refine (impl_ReadSector.calls k1 _ _ l0_0 _ _ l0_1 (wrap64 (a1 + x16_1)) t262 false _ ?side1 ?side2 ?side3 ?side4 A8.out).mono ?_); (case side1 => exact cG (Kd.C_below HR0_0.out HB.out)); (case side2 => exact HC0_0.out); (case side3 => exact cG (Kd.C_below HR0_1.out HB.out)); (case side4 => exact HC0_1.out); rintro e w14 ⟨rfl, hb⟩; refine ⟨_, rfl, ?_⟩; replace BK260 := bB BK260 hb; replace HB := ak (below_step (lT HB (gC GE260 gN)) hb); (try clear hb); (try clear hk)))
      go_ret2
      exact ⟨ew, by exact lT HB (gC GE260 gN)⟩
    ·rw [if_neg c7] at H
     have c7b0 : decide (x16_1 < a2) = false := decide_eq_false c7
     clear c7
     simp only [Option.some.injEq, Prod.mk.injEq] at H
     obtain ⟨rfl, rfl⟩ := H
     go_wp2
     go_ret2
     exact ⟨ew, by exact lT HB (gC GE260 gN)⟩
 ·replace c5 := Bool.eq_false_iff.mpr c5
  subst c5
  have H1 : (some ((⟨#[]⟩ : ByteArray), false)) = some (r1, r2) := by rw [if_neg (show ¬ (false = true) by decide)] at H; exact H
  clear H
  have H := H1
  clear H1
  simp only [Option.some.injEq, Prod.mk.injEq] at H
  obtain ⟨rfl, rfl⟩ := H
  go_enter Try.func24, Try.ntmps24
  go_wp2_with (first | ((with_reducible refine gate_dst (N := 3) rfl ?_); refine bx 3 #[.slice A0_0 l0_0.length c0_0, .slice A0_1 l0_1.length c0_1] 30 ?_; intro gb260 hg w15 hbox hb; replace BK260 := ak (hbox); replace GW260 := ak (bz hg (lG HB)); replace GE260 := ak (bz hg (lG HB)); replace HB := lB HB hb; clear hb hbox hg) | ((with_reducible refine gate_callee (f := 52) rfl ?_); refine gl (some 13) Try.func52 #[.int .i64 a2, .int .i64 0, .int .i64 100] ?_; (with_reducible refine (impl_in.calls a2 0 100 false _ A4.out).mono ?_); rintro e w' ⟨rfl, ⟨nd, rfl⟩⟩; refine ⟨_, rfl, ?_⟩))
  go_ret2
  exact ⟨ew, by exact lT HB (gC GE260 gN)⟩

/-! ### impl_SegFirst: function 60 -/
def impl_SegFirst.f (a0 : Int) : Option (Int) := (impl_in.f a0 0 10).bind fun t264 => (if t264 = true then (some (wrap64 (8 + (wrap64 (a0 * 8))))) else (some 0))
set_option maxHeartbeats 8000000 in
set_option maxRecDepth 100000 in
theorem impl_SegFirst.calls (a0 : Int) (r : Int) (w : World) (h : impl_SegFirst.f a0 = some r) :
  Calls Try.prog 60 #[.int .i64 a0] w fun e w' => e = .returned (.int .i64 r) ∧ Drawn0 w w' := by
 have H : ((impl_in.f a0 0 10).bind fun t264 => (if t264 = true then (some (wrap64 (8 + (wrap64 (a0 * 8))))) else (some 0))) = some r := h
 clear h
 replace H := Option.bind_eq_some_iff.mp H
 obtain ⟨t264, A20, H⟩ := H
 replace H : (if t264 = true then (some (wrap64 (8 + (wrap64 (a0 * 8))))) else (some 0)) = some r := H
 have A2 := Aside0.mk A20
 clear A20
 by_cases c3 : t264 = true
 ·subst c3
  have H1 : (some (wrap64 (8 + (wrap64 (a0 * 8))))) = some r := by rw [if_pos rfl] at H; exact H
  clear H
  have H := H1
  clear H1
  obtain rfl := Option.some.inj H
  go_enter Try.func60, Try.ntmps60
  go_wp2_with (first | ((with_reducible refine gate_callee (f := 52) rfl ?_); refine gl (some 4) Try.func52 #[.int .i64 a0, .int .i64 0, .int .i64 10] ?_; (with_reducible refine (impl_in.calls a0 0 10 true _ A2.out).mono ?_); rintro e w' ⟨rfl, ⟨nd, rfl⟩⟩; refine ⟨_, rfl, ?_⟩))
  go_ret
  exact ⟨by first | rfl | (simp; done) | (simp [*]; done), by repeat (first | exact Drawn0.refl _ | apply Drawn0.step)⟩
 ·replace c3 := Bool.eq_false_iff.mpr c3
  subst c3
  have H1 : (some 0) = some r := by rw [if_neg (show ¬ (false = true) by decide)] at H; exact H
  clear H
  have H := H1
  clear H1
  obtain rfl := Option.some.inj H
  go_enter Try.func60, Try.ntmps60
  go_wp2_with (first | ((with_reducible refine gate_callee (f := 52) rfl ?_); refine gl (some 4) Try.func52 #[.int .i64 a0, .int .i64 0, .int .i64 10] ?_; (with_reducible refine (impl_in.calls a0 0 10 false _ A2.out).mono ?_); rintro e w' ⟨rfl, ⟨nd, rfl⟩⟩; refine ⟨_, rfl, ?_⟩))
  go_ret
  exact ⟨by first | rfl | (simp; done) | (simp [*]; done), by repeat (first | exact Drawn0.refl _ | apply Drawn0.step)⟩

/-! ### impl_SegText: function 26 -/
def impl_SegText.f (k : Nat) (l0_0 : List ByteArray) (l0_1 : List (S67)) (a1 : Int) : Option (ByteArray) := (impl_in.f a1 0 10).bind fun t266 => (if t266 = true then ((impl_SegFirst.f a1).bind fun t267 => ((impl_SectorText.f k l0_0 l0_1 t267 8).bind fun bt268 => (some bt268.1))) else (some (⟨#[]⟩ : ByteArray)))
theorem impl_SegText.mono : ∀ a0 a1 a2 k, LeO (impl_SegText.f k a0 a1 a2) (impl_SegText.f (k + 1) a0 a1 a2) := by
 intro a0 a1 a2 k
 unfold impl_SegText.f
 repeat' first
   | (with_reducible exact impl_SectorText.mono _ _ _ _ _)
   | (with_reducible exact LeO.refl _)
   | (with_reducible exact LeO.none _)
   | (with_reducible refine LeO.ite ?_ ?_)
   | (with_reducible refine LeO.bind ?_ (fun _ => ?_))
   | exact impl_SectorText.mono _ _ _ _ _
   | exact LeO.none _
   | refine LeO.ite ?_ ?_
   | refine LeO.bind ?_ (fun _ => ?_)
def impl_SegText.T3 : Bool × List (List Nat × List Nat) := (true, [([], []), ([], []), ([1], [1]), ([0, 2, 2], [0, 2]), ([3], [3]), ([4], [4]), ([4], [4]), ([5, 3, 0, 1, 2, 3, 4, 5], [5]), ([6, 7, 0, 1, 2, 3, 4, 5, 6, 7], [6])])
def impl_SegText.B3 : List Nat := [0, 0, 2, 7, 15, 31, 31, 63, 255]
theorem impl_SegText.tab3 : rtab .any (opsOf Try.f26 3) = impl_SegText.T3 := by kernel_rfl
theorem impl_SegText.bits3 : waitsOk impl_SegText.T3.2 impl_SegText.B3 = true := by kernel_rfl
set_option maxHeartbeats 8000000 in
set_option maxRecDepth 100000 in
theorem impl_SegText.calls (k : Nat) (A0_0 : Option Addr) (c0_0 : Nat) (l0_0 : List ByteArray) (A0_1 : Option Addr) (c0_1 : Nat) (l0_1 : List (S67)) (a1 : Int) (r : ByteArray) (w : World) (hr0_0 : Kd.C Kd.string w A0_0 l0_0.length l0_0) (hc0_0 : l0_0.length ≤ c0_0) (hr0_1 : Kd.C k67 w A0_1 l0_1.length l0_1) (hc0_1 : l0_1.length ≤ c0_1) (h : impl_SegText.f k l0_0 l0_1 a1 = some r) :
  Calls Try.prog 26 #[.agg #[.slice A0_0 l0_0.length c0_0, .slice A0_1 l0_1.length c0_1], .int .i64 a1] w fun e w' => e = .returned (.string r) ∧ Below w.heap.size w w' := by
 have hu30 := Try.underlying30
 have HR0_0 := Aside0.mk hr0_0
 have HC0_0 := Aside0.mk hc0_0
 clear hr0_0 hc0_0
 have HR0_1 := Aside0.mk hr0_1
 have HC0_1 := Aside0.mk hc0_1
 clear hr0_1 hc0_1
 have HB := ak (Below.refl w.heap.size w)
 have H : ((impl_in.f a1 0 10).bind fun t266 => (if t266 = true then ((impl_SegFirst.f a1).bind fun t267 => ((impl_SectorText.f k l0_0 l0_1 t267 8).bind fun bt268 => (some bt268.1))) else (some (⟨#[]⟩ : ByteArray)))) = some r := h
 clear h
 replace H := Option.bind_eq_some_iff.mp H
 obtain ⟨t266, A30, H⟩ := H
 replace H : (if t266 = true then ((impl_SegFirst.f a1).bind fun t267 => ((impl_SectorText.f k l0_0 l0_1 t267 8).bind fun bt268 => (some bt268.1))) else (some (⟨#[]⟩ : ByteArray))) = some r := H
 have A3 := Aside0.mk A30
 clear A30
 by_cases c4 : t266 = true
 ·subst c4
  have H1 : ((impl_SegFirst.f a1).bind fun t267 => ((impl_SectorText.f k l0_0 l0_1 t267 8).bind fun bt268 => (some bt268.1))) = some r := by rw [if_pos rfl] at H; exact H
  clear H
  have H := H1
  clear H1
  replace H := Option.bind_eq_some_iff.mp H
  obtain ⟨t267, A50, H⟩ := H
  replace H : ((impl_SectorText.f k l0_0 l0_1 t267 8).bind fun bt268 => (some bt268.1)) = some r := H
  have A5 := Aside0.mk A50
  clear A50
  replace H := Option.bind_eq_some_iff.mp H
  obtain ⟨⟨t268, t269⟩, A60, H⟩ := H
  replace H : (some t268) = some r := H
  have A6 := Aside0.mk A60
  clear A60
  obtain rfl := Option.some.inj H
  go_enter Try.func26, Try.ntmps26
  try go_wp2_with (first | ((with_reducible refine gate_dst (N := 2) rfl ?_); refine bx 2 #[.slice A0_0 l0_0.length c0_0, .slice A0_1 l0_1.length c0_1] 30 ?_; intro gb265 hg w7 hbox hb; replace BK265 := ak (hbox); replace GW265 := ak (bz hg (lG HB)); replace GE265 := ak (bz hg (lG HB)); replace HB := lB HB hb; clear hb hbox hg) | ((with_reducible refine gate_callee (f := 52) rfl ?_); refine gl (some 8) Try.func52 #[.int .i64 a1, .int .i64 0, .int .i64 10] ?_; (with_reducible refine (impl_in.calls a1 0 10 true _ A3.out).mono ?_); rintro e w' ⟨rfl, ⟨nd, rfl⟩⟩; refine ⟨_, rfl, ?_⟩))
  (try (rw [drewN_self w7]; generalize hq_ : World.drewN w7 _ = w7; have n0_ : Aside0 (w7.heap[gb265]? = some (.cells #[.slice A0_0 l0_0.length c0_0, .slice A0_1 l0_1.length c0_1] 30 (0, 0))) := ⟨by rw [← hq_]; exact (bG BK265)⟩; have n1_ : Aside0 (Below w.heap.size w w7) := ⟨by rw [← hq_]; exact (lT HB (gC GE265 gN))⟩; clear BK265 HB hq_; have BK265 := n0_; have HB := n1_; clear n0_ n1_))
  (try (have hy265_0 : w7.cell? ⟨gb265, 0, none⟩ = some (.slice A0_0 l0_0.length c0_0) := bc BK265 0; have hv265_0 := blk_frozen BK265.out 0; have hy265_1 : w7.cell? ⟨gb265, 1, none⟩ = some (.slice A0_1 l0_1.length c0_1) := bc BK265 1; have hv265_1 := blk_frozen BK265.out 1))
  replace BK265 := ak (blk_drew BK265.out)
  replace HB := ak (below_drew1 HB.out)
  refine start_ (n := 9) (S := fun w' => w'.cell? ⟨gb265, 0, none⟩ = some (.slice A0_0 l0_0.length c0_0) ∧ w'.cell? ⟨gb265, 1, none⟩ = some (.slice A0_1 l0_1.length c0_1)) (ds := []) #[f_,f_,f_,f_,f_,f_,f_,f_,f_] (by kernel_rfl) rfl rfl ⟨bc BK265 0, bc BK265 1⟩ (fun hHeld => ?_); refine with_tabW impl_SegText.tab3 impl_SegText.bits3 (fun HT_ HW_ => ?_)
  generalize w7.drew = w8 at BK265 HB hHeld ⊢
  refine pu 1 12 (fb 9 2) HT_ ?_
  refine tk 0 11 (fb 9 3) HT_ HW_ hHeld ?_
  refine on 2 (some 13) (fb 9 7) HT_ (fun K hK => ?_)
  refine goes_ Try.func60 (by kernel_rfl) rfl #[.int .i64 a1] (by rfl) rfl rfl (by (try simp only [List.map_toArray, List.map_cons, List.map_nil]); first | done | rfl | (simp only [List.length_drop, List.length_take]; rfl)) ?_
  with_reducible refine (impl_SegFirst.calls a1 t267 _ A5.out).mono ?_
  rintro e w' ⟨rfl, ⟨nd, rfl⟩⟩
  refine ⟨_, rfl, ?_⟩
  refine hK.out _ _ ⟨bc BK265 0, bc BK265 1⟩ (fun hHeld => ?_)
  clear hK K
  refine nm ?_
  refine on 3 (some 14) (fb 9 15) HT_ (fun K hK => ?_)
  refine goes_ Try.func24 (by kernel_rfl) rfl #[.agg #[.slice A0_0 l0_0.length c0_0, .slice A0_1 l0_1.length c0_1], .int .i64 t267, .int .i64 8] (by rfl) rfl rfl (by (try simp only [List.map_toArray, List.map_cons, List.map_nil]); first | done | rfl | (simp only [List.length_drop, List.length_take]; rfl)) ?_
  with_reducible refine (impl_SectorText.calls k _ _ l0_0 _ _ l0_1 t267 8 t268 t269 _ ?side1 ?side2 ?side3 ?side4 A6.out).mono ?_
  (case side1 => repeat (first | exact (Kd.C_below HR0_0.out (lT HB (gC GE265 gN))) | (with_reducible refine Kd.C_alloc ?_ _) | (with_reducible refine Kd.C_drewN ?_ _) | (with_reducible refine Kd.C_drew ?_)))
  (case side2 => exact HC0_0.out)
  (case side3 => repeat (first | exact (Kd.C_below HR0_1.out (lT HB (gC GE265 gN))) | (with_reducible refine Kd.C_alloc ?_ _) | (with_reducible refine Kd.C_drewN ?_ _) | (with_reducible refine Kd.C_drew ?_)))
  (case side4 => exact HC0_1.out)
  rintro e w9 ⟨rfl, hb⟩
  refine ⟨_, rfl, ?_⟩
  replace BK265 := bB BK265 hb
  replace HB := ak (below_step (lT HB (gC GE265 gN)) hb)
  (try clear hb)
  (try clear hb2)
  (try clear hk)
  (try clear hi)
  refine hK.out _ _ ⟨bc BK265 0, bc BK265 1⟩ (fun hHeld => ?_)
  clear hK K
  refine nm ?_
  refine pu 4 10 (fb 9 31) HT_ ?_
  refine pu 5 15 (fb 9 63) HT_ ?_
  refine pu 6 16 (fb 9 127) HT_ ?_
  refine pu 7 5 (fb 9 255) HT_ ?_
  refine pu 8 6 (fb 9 511) HT_ ?_
  refine done_ (done_of HT_.out (by kernel_rfl)) ?_
  try go_wp2
  go_ret
  exact ⟨ew, by exact lT HB (gC GE265 gN)⟩
 ·replace c4 := Bool.eq_false_iff.mpr c4
  subst c4
  have H1 : (some (⟨#[]⟩ : ByteArray)) = some r := by rw [if_neg (show ¬ (false = true) by decide)] at H; exact H
  clear H
  have H := H1
  clear H1
  obtain rfl := Option.some.inj H
  go_enter Try.func26, Try.ntmps26
  go_wp2_with (first | ((with_reducible refine gate_dst (N := 2) rfl ?_); refine bx 2 #[.slice A0_0 l0_0.length c0_0, .slice A0_1 l0_1.length c0_1] 30 ?_; intro gb265 hg w10 hbox hb; replace BK265 := ak (hbox); replace GW265 := ak (bz hg (lG HB)); replace GE265 := ak (bz hg (lG HB)); replace HB := lB HB hb; clear hb hbox hg) | ((with_reducible refine gate_callee (f := 52) rfl ?_); refine gl (some 8) Try.func52 #[.int .i64 a1, .int .i64 0, .int .i64 10] ?_; (with_reducible refine (impl_in.calls a1 0 10 false _ A3.out).mono ?_); rintro e w' ⟨rfl, ⟨nd, rfl⟩⟩; refine ⟨_, rfl, ?_⟩))
  go_ret
  exact ⟨ew, by exact lT HB (gC GE265 gN)⟩

end Go.Proofs.Ytdnjjdmlmfoljaa.PFnExactSegFrames
