-- Written by a program of mine (a turned copy of the kit's print): functions as plain Lean, their contracts.
import Derived.Test.YtagkjeldheiejaaPFnAnyOrderx0
import Derived.Test.YtagkjeldheiejaaVFnAnyOrder1
namespace Go.Proofs.Ytagkjeldheiejaa.PFnAnyOrder
open Go.RowKit Go.Proofs.YtagkjeldheiejaaW.PrintWords Go.Proofs.YtagkjeldheiejaaW.PrintLast Go.Proofs.YtagkjeldheiejaaW.PrintMore
attribute [local go_sem] max2_int min2_int max_two min_two max_three min_three max_four min_four   -- for this text's walks alone
set_option maxHeartbeats 8000000
set_option maxRecDepth 100000
set_option linter.unusedVariables false
set_option linter.unusedSimpArgs false
/-! ### spec_l07Tell: function 82 -/
mutual
def spec_l07Tell.l0 : Nat → List (S32) → Int → Int → Int → Int → Int → Int → Int → Int → ByteArray → ByteArray → ByteArray → Option (Int × Int × Int × Int × Int × Int × ByteArray × ByteArray × ByteArray)
 | 0, _, _, _, _, _, _, _, _, _, _, _, _ => none
 | k + 1, x0, x1, x6, x424000, x424001, x424002, x424003, x424004, x424005, x424006, x424007, x424008 => if x6 < (x0.length : Int) then (if 0 ≤ x6 then (if ((rd_T32 x0 x6).f1.f0) = 1 then (spec_l07Tell.j1 k x0 x1 x6 (((rd_T32 x0 x6).f1.f1) != x1) x424000 x424001 x424002 x424003 x424004 x424005 x424006 x424007 x424008 ((rd_T32 x0 x6).f0) ((rd_T32 x0 x6).f1.f0) ((rd_T32 x0 x6).f1.f1) ((rd_T32 x0 x6).f1.f2) ((rd_T32 x0 x6).f1.f3) ((rd_T32 x0 x6).f1.f4) ((rd_T32 x0 x6).f1.f5) ((rd_T32 x0 x6).f1.f6) ((rd_T32 x0 x6).f1.f7)) else (spec_l07Tell.j1 k x0 x1 x6 true x424000 x424001 x424002 x424003 x424004 x424005 x424006 x424007 x424008 ((rd_T32 x0 x6).f0) ((rd_T32 x0 x6).f1.f0) ((rd_T32 x0 x6).f1.f1) ((rd_T32 x0 x6).f1.f2) ((rd_T32 x0 x6).f1.f3) ((rd_T32 x0 x6).f1.f4) ((rd_T32 x0 x6).f1.f5) ((rd_T32 x0 x6).f1.f6) ((rd_T32 x0 x6).f1.f7))) else (none)) else (some (x424000, x424001, x424002, x424003, x424004, x424005, x424006, x424007, x424008))
def spec_l07Tell.j1 : Nat → List (S32) → Int → Int → Bool → Int → Int → Int → Int → Int → Int → ByteArray → ByteArray → ByteArray → Int → Int → Int → Int → Int → Int → ByteArray → ByteArray → ByteArray → Option (Int × Int × Int × Int × Int × Int × ByteArray × ByteArray × ByteArray)
 | 0, _, _, _, _, _, _, _, _, _, _, _, _, _, _, _, _, _, _, _, _, _, _ => none
 | k + 1, x0, x1, x6, x29, x424000, x424001, x424002, x424003, x424004, x424005, x424006, x424007, x424008, x426000, x426001, x426002, x426003, x426004, x426005, x426006, x426007, x426008 => if x29 = true then (spec_l07Tell.l0 k x0 x1 (wrap64 (x6 + 1)) x424000 x424001 x424002 x424003 x424004 x424005 x424006 x424007 x424008) else (if x424000 = 0 then (spec_l07Tell.l0 k x0 x1 (wrap64 (x6 + 1)) x426000 x426001 x426002 x426003 x426004 x426005 x426006 x426007 x426008) else (if x426004 > x424004 then (spec_l07Tell.l0 k x0 x1 (wrap64 (x6 + 1)) x426000 x426001 x426002 x426003 x426004 x426005 x426006 x426007 x426008) else (if x426004 = x424004 then (if x426000 > x424000 then (spec_l07Tell.l0 k x0 x1 (wrap64 (x6 + 1)) x426000 x426001 x426002 x426003 x426004 x426005 x426006 x426007 x426008) else (spec_l07Tell.l0 k x0 x1 (wrap64 (x6 + 1)) x424000 x424001 x424002 x424003 x424004 x424005 x424006 x424007 x424008)) else (spec_l07Tell.l0 k x0 x1 (wrap64 (x6 + 1)) x424000 x424001 x424002 x424003 x424004 x424005 x424006 x424007 x424008))))
end
def spec_l07Tell.f (k : Nat) (l0 : List (S32)) (a1 : Int) : Option (Int × Int × Int × Int × Int × Int × ByteArray × ByteArray × ByteArray) := spec_l07Tell.l0 k l0 a1 0 0 0 0 0 0 0 (⟨#[]⟩ : ByteArray) (⟨#[]⟩ : ByteArray) (⟨#[]⟩ : ByteArray)
theorem spec_l07Tell.mono_l : ∀ k, (∀ y0 y1 y2 y3 y4 y5 y6 y7 y8 y9 y10 y11, LeO (spec_l07Tell.l0 k y0 y1 y2 y3 y4 y5 y6 y7 y8 y9 y10 y11) (spec_l07Tell.l0 (k + 1) y0 y1 y2 y3 y4 y5 y6 y7 y8 y9 y10 y11)) ∧ (∀ y0 y1 y2 y3 y4 y5 y6 y7 y8 y9 y10 y11 y12 y13 y14 y15 y16 y17 y18 y19 y20 y21, LeO (spec_l07Tell.j1 k y0 y1 y2 y3 y4 y5 y6 y7 y8 y9 y10 y11 y12 y13 y14 y15 y16 y17 y18 y19 y20 y21) (spec_l07Tell.j1 (k + 1) y0 y1 y2 y3 y4 y5 y6 y7 y8 y9 y10 y11 y12 y13 y14 y15 y16 y17 y18 y19 y20 y21))
 | 0 => ⟨fun _ _ _ _ _ _ _ _ _ _ _ _ r h => by simp [spec_l07Tell.l0] at h, fun _ _ _ _ _ _ _ _ _ _ _ _ _ _ _ _ _ _ _ _ _ _ r h => by simp [spec_l07Tell.j1] at h⟩
 | k + 1 => by
  obtain ⟨ih0, ih1⟩ := spec_l07Tell.mono_l k
  refine ⟨?_, ?_⟩
  ·intro y0 y1 y2 y3 y4 y5 y6 y7 y8 y9 y10 y11
   unfold spec_l07Tell.l0
   repeat' first
   | (with_reducible exact ih0 _ _ _ _ _ _ _ _ _ _ _ _)
   | (with_reducible exact ih1 _ _ _ _ _ _ _ _ _ _ _ _ _ _ _ _ _ _ _ _ _ _)
   | (with_reducible exact LeO.refl _)
   | (with_reducible exact LeO.none _)
   | (with_reducible refine LeO.ite ?_ ?_)
   | (with_reducible refine LeO.bind ?_ (fun _ => ?_))
   | exact ih0 _ _ _ _ _ _ _ _ _ _ _ _
   | exact ih1 _ _ _ _ _ _ _ _ _ _ _ _ _ _ _ _ _ _ _ _ _ _
   | exact LeO.none _
   | refine LeO.ite ?_ ?_
   | refine LeO.bind ?_ (fun _ => ?_)
  ·intro y0 y1 y2 y3 y4 y5 y6 y7 y8 y9 y10 y11 y12 y13 y14 y15 y16 y17 y18 y19 y20 y21
   unfold spec_l07Tell.j1
   repeat' first
   | (with_reducible exact ih0 _ _ _ _ _ _ _ _ _ _ _ _)
   | (with_reducible exact ih1 _ _ _ _ _ _ _ _ _ _ _ _ _ _ _ _ _ _ _ _ _ _)
   | (with_reducible exact LeO.refl _)
   | (with_reducible exact LeO.none _)
   | (with_reducible refine LeO.ite ?_ ?_)
   | (with_reducible refine LeO.bind ?_ (fun _ => ?_))
   | exact ih0 _ _ _ _ _ _ _ _ _ _ _ _
   | exact ih1 _ _ _ _ _ _ _ _ _ _ _ _ _ _ _ _ _ _ _ _ _ _
   | exact LeO.none _
   | refine LeO.ite ?_ ?_
   | refine LeO.bind ?_ (fun _ => ?_)
theorem spec_l07Tell.mono : ∀ a0 a1 k, LeO (spec_l07Tell.f k a0 a1) (spec_l07Tell.f (k + 1) a0 a1) := by
 intro a0 a1 k
 obtain ⟨ih0, ih1⟩ := spec_l07Tell.mono_l k
 unfold spec_l07Tell.f
 repeat' first
   | (with_reducible exact ih0 _ _ _ _ _ _ _ _ _ _ _ _)
   | (with_reducible exact ih1 _ _ _ _ _ _ _ _ _ _ _ _ _ _ _ _ _ _ _ _ _ _)
   | (with_reducible exact LeO.refl _)
   | (with_reducible exact LeO.none _)
   | (with_reducible refine LeO.ite ?_ ?_)
   | (with_reducible refine LeO.bind ?_ (fun _ => ?_))
   | exact ih0 _ _ _ _ _ _ _ _ _ _ _ _
   | exact ih1 _ _ _ _ _ _ _ _ _ _ _ _ _ _ _ _ _ _ _ _ _ _
   | exact LeO.none _
   | refine LeO.ite ?_ ?_
   | refine LeO.bind ?_ (fun _ => ?_)
theorem spec_l07Tell.calls (k : Nat) (A0 : Option Addr) (c0 : Nat) (l0 : List (S32)) (a1 : Int) (r1 : Int) (r2 : Int) (r3 : Int) (r4 : Int) (r5 : Int) (r6 : Int) (r7 : ByteArray) (r8 : ByteArray) (r9 : ByteArray) (w : World) (hr0 : Kd.C k32 w A0 l0.length l0) (hc0 : l0.length ≤ c0) (h : spec_l07Tell.f k l0 a1 = some (r1, r2, r3, r4, r5, r6, r7, r8, r9)) :
  Calls Try.prog 82 #[.slice A0 l0.length c0, .int .i64 a1] w fun e w' => e = .returned (.agg #[.int .i64 r1, .int .i64 r2, .int .i64 r3, .int .i64 r4, .int .i64 r5, .int .i64 r6, .string r7, .string r8, .string r9]) ∧ Below w.heap.size w w' := by
 have hu32 := Try.underlying32
 have HR0 := Aside0.mk hr0
 have HC0 := Aside0.mk hc0
 clear hr0 hc0
 have HB := ak (Below.refl w.heap.size w)
 have H : (spec_l07Tell.l0 k l0 a1 0 0 0 0 0 0 0 (⟨#[]⟩ : ByteArray) (⟨#[]⟩ : ByteArray) (⟨#[]⟩ : ByteArray)) = some (r1, r2, r3, r4, r5, r6, r7, r8, r9) := h
 clear h
 have H' := Aside0.mk H
 clear H
 go_enter Try.func82, Try.ntmps82
 go_wp2_with (first | ((with_reducible refine gate_dst (N := 4) rfl ?_); refine bx 4 #[.int .i64 0, .int .i64 0, .int .i64 0, .int .i64 0, .int .i64 0, .int .i64 0, .string (⟨#[]⟩ : ByteArray), .string (⟨#[]⟩ : ByteArray), .string (⟨#[]⟩ : ByteArray)] 32 ?_; intro gb422 hg w3 hbox hb; replace BK422 := ak (hbox); replace GE422 := ak (bz hg (lG HB)); replace HB := lB HB hb; clear hb hbox hg) | ((with_reducible refine gate_dst (N := 5) rfl ?_); refine bx 5 #[.int .i64 0, .int .i64 0, .int .i64 0, .int .i64 0, .int .i64 0, .int .i64 0, .string (⟨#[]⟩ : ByteArray), .string (⟨#[]⟩ : ByteArray), .string (⟨#[]⟩ : ByteArray)] 32 ?_; intro gb423 hg w4 hbox hb; replace BK423 := ak (hbox); replace GW423 := ak (bz hg (lT HB (gC GE422 gN))); replace GE423 := ak (bz hg (lT HB (gC GE422 gN))); replace HB := ak (below_step (lT HB (gC GE422 gN)) hb); replace NB422_423 := ak (nl hg (bG BK422)); replace NB423_422 := ak (ng hg (bG BK422)); replace BK422 := bB BK422 hb; clear hb hbox hg; have hnb5 := NB423_422.out; have hnc5 := NB422_423.out; obtain ⟨hcz6_0, hcz6_1, hcz6_2, hcz6_3, hcz6_4, hcz6_5, hcz6_6, hcz6_7, hcz6_8, hfz6_0, hfz6_1, hfz6_2, hfz6_3, hfz6_4, hfz6_5, hfz6_6, hfz6_7, hfz6_8⟩ := bC9 BK423))
 go_loopg [6] k (fun kq v6 w' => ∃ (x6_1 : Int) (x424000_1 : Int) (x424001_1 : Int) (x424002_1 : Int) (x424003_1 : Int) (x424004_1 : Int) (x424005_1 : Int) (x424006_1 : ByteArray) (x424007_1 : ByteArray) (x424008_1 : ByteArray), v6 = .int .i64 x6_1 ∧ Aside0 (spec_l07Tell.l0 kq l0 a1 x6_1 x424000_1 x424001_1 x424002_1 x424003_1 x424004_1 x424005_1 x424006_1 x424007_1 x424008_1 = some (r1, r2, r3, r4, r5, r6, r7, r8, r9)) ∧ Aside0 (kq ≤ k) ∧ Aside0 (w'.heap[gb422]? = some (.cells #[.int .i64 0, .int .i64 0, .int .i64 0, .int .i64 0, .int .i64 0, .int .i64 0, .string (⟨#[]⟩ : ByteArray), .string (⟨#[]⟩ : ByteArray), .string (⟨#[]⟩ : ByteArray)] 32 (0, 0))) ∧ Aside0 (w'.heap[gb423]? = some (.cells #[.int .i64 x424000_1, .int .i64 x424001_1, .int .i64 x424002_1, .int .i64 x424003_1, .int .i64 x424004_1, .int .i64 x424005_1, .string x424006_1, .string x424007_1, .string x424008_1] 32 (0, 0))) ∧ Aside0 (Below w.heap.size w w'))
 case atStart => exact ⟨_, _, _, _, _, _, _, _, _, _, rr, H', ⟨Nat.le_refl _⟩, ⟨bF BK422 (nC NB422_423 nN)⟩, ⟨bW BK423⟩, ⟨by exact lT HB (gC GE422 (gC GE423 gN))⟩⟩
 case round =>
  clear H'
  try clear p2
  try clear c5
  try clear hcz6_0
  try clear hcz6_1
  try clear hcz6_2
  try clear hcz6_3
  try clear hcz6_4
  try clear hcz6_5
  try clear hcz6_6
  try clear hcz6_7
  try clear hcz6_8
  try clear hfz6_0
  try clear hfz6_1
  try clear hfz6_2
  try clear hfz6_3
  try clear hfz6_4
  try clear hfz6_5
  try clear hfz6_6
  try clear hfz6_7
  try clear hfz6_8
  obtain ⟨x6_1, x424000_1, x424001_1, x424002_1, x424003_1, x424004_1, x424005_1, x424006_1, x424007_1, x424008_1, rfl, HA, HK1, BK422, BK423, HB⟩ := hrel
  cases gk with
  | zero => exact absurd HA.out (by simp [spec_l07Tell.l0])
  | succ k1 =>
   have H := HA.out
   clear HA
   simp only [spec_l07Tell.l0] at H
   by_cases c7 : x6_1 < (l0.length : Int)
   ·rw [if_pos c7] at H
    have c7b0 : decide (x6_1 < (l0.length : Int)) = true := decide_eq_true c7
    clear c7
    by_cases c8 : 0 ≤ x6_1
    ·rw [if_pos c8] at H
     have c8b0 : decide (0 ≤ x6_1) = true := decide_eq_true c8
     clear c8
     have HC9 := Aside0.mk H
     clear H
     have p424 : 0 ≤ (x6_1 : Int) := oda
     have q424 : x6_1 < (l0.length : Int) := oda
     obtain ⟨ad424, e424, hx424_0, hx424_1, hx424_2, hx424_3, hx424_4, hx424_5, hx424_6, hx424_7, hx424_8⟩ := at_T32 HR0.out x6_1 p424 q424
     cases e424
     replace hx424_0 := (HB.out.cell (World.block_lt_of_cell? w _ hx424_0)).trans hx424_0
     replace hx424_1 := (HB.out.cell (World.block_lt_of_cell? w _ hx424_1)).trans hx424_1
     replace hx424_2 := (HB.out.cell (World.block_lt_of_cell? w _ hx424_2)).trans hx424_2
     replace hx424_3 := (HB.out.cell (World.block_lt_of_cell? w _ hx424_3)).trans hx424_3
     replace hx424_4 := (HB.out.cell (World.block_lt_of_cell? w _ hx424_4)).trans hx424_4
     replace hx424_5 := (HB.out.cell (World.block_lt_of_cell? w _ hx424_5)).trans hx424_5
     replace hx424_6 := (HB.out.cell (World.block_lt_of_cell? w _ hx424_6)).trans hx424_6
     replace hx424_7 := (HB.out.cell (World.block_lt_of_cell? w _ hx424_7)).trans hx424_7
     replace hx424_8 := (HB.out.cell (World.block_lt_of_cell? w _ hx424_8)).trans hx424_8
     replace p424 := eq_true p424
     replace q424 := eq_true q424
     go_upto_region 6 with (first | ((with_reducible refine gate_dst (N := 7) rfl ?_); refine bx 7 #[.int .i64 0, .int .i64 0, .int .i64 0, .int .i64 0, .int .i64 0, .int .i64 0, .string (⟨#[]⟩ : ByteArray), .string (⟨#[]⟩ : ByteArray), .string (⟨#[]⟩ : ByteArray)] 32 ?_; intro gb425 hg w10 hbox hb; replace BK425 := ak (hbox); replace GW425 := ak (bz hg (lT HB (gC GE422 (gC GE423 gN)))); replace GE425 := ak (bz hg (lT HB (gC GE422 (gC GE423 gN)))); replace HB := ak (below_step (lT HB (gC GE422 (gC GE423 gN))) hb); replace NB422_425 := ak (nl hg (bG BK422)); replace NB425_422 := ak (ng hg (bG BK422)); replace BK422 := bB BK422 hb; replace NB423_425 := ak (nl hg (bG BK423)); replace NB425_423 := ak (ng hg (bG BK423)); replace BK423 := bB BK423 hb; clear hb hbox hg; have hnb11 := NB425_422.out; have hnc11 := NB422_425.out; have hnb12 := NB425_423.out; have hnc12 := NB423_425.out; obtain ⟨hcz13_0, hcz13_1, hcz13_2, hcz13_3, hcz13_4, hcz13_5, hcz13_6, hcz13_7, hcz13_8, hfz13_0, hfz13_1, hfz13_2, hfz13_3, hfz13_4, hfz13_5, hfz13_6, hfz13_7, hfz13_8⟩ := bC9 BK425))
     (try simp only [Act.put, List.setIfInBounds_toArray, List.set_cons_zero, List.set_cons_succ])
     go_cut [29] (fun v29 wc => ∃ (kq : Nat) (x29_8 : Bool), v29 = .bool x29_8 ∧ Aside0 (spec_l07Tell.j1 kq l0 a1 x6_1 x29_8 x424000_1 x424001_1 x424002_1 x424003_1 x424004_1 x424005_1 x424006_1 x424007_1 x424008_1 ((rd_T32 l0 x6_1).f0) ((rd_T32 l0 x6_1).f1.f0) ((rd_T32 l0 x6_1).f1.f1) ((rd_T32 l0 x6_1).f1.f2) ((rd_T32 l0 x6_1).f1.f3) ((rd_T32 l0 x6_1).f1.f4) ((rd_T32 l0 x6_1).f1.f5) ((rd_T32 l0 x6_1).f1.f6) ((rd_T32 l0 x6_1).f1.f7) = some (r1, r2, r3, r4, r5, r6, r7, r8, r9)) ∧ Aside0 (kq ≤ k1) ∧ Aside0 (wc.heap[gb422]? = some (.cells #[.int .i64 0, .int .i64 0, .int .i64 0, .int .i64 0, .int .i64 0, .int .i64 0, .string (⟨#[]⟩ : ByteArray), .string (⟨#[]⟩ : ByteArray), .string (⟨#[]⟩ : ByteArray)] 32 (0, 0))) ∧ Aside0 (wc.heap[gb423]? = some (.cells #[.int .i64 x424000_1, .int .i64 x424001_1, .int .i64 x424002_1, .int .i64 x424003_1, .int .i64 x424004_1, .int .i64 x424005_1, .string x424006_1, .string x424007_1, .string x424008_1] 32 (0, 0))) ∧ Aside0 (wc.heap[gb425]? = some (.cells #[.int .i64 ((rd_T32 l0 x6_1).f0), .int .i64 ((rd_T32 l0 x6_1).f1.f0), .int .i64 ((rd_T32 l0 x6_1).f1.f1), .int .i64 ((rd_T32 l0 x6_1).f1.f2), .int .i64 ((rd_T32 l0 x6_1).f1.f3), .int .i64 ((rd_T32 l0 x6_1).f1.f4), .string ((rd_T32 l0 x6_1).f1.f5), .string ((rd_T32 l0 x6_1).f1.f6), .string ((rd_T32 l0 x6_1).f1.f7)] 32 (0, 0))) ∧ Aside0 (Below w.heap.size w wc))
     case first =>
      have H := HC9.out
      clear HC9
      by_cases c14 : ((rd_T32 l0 x6_1).f1.f0) = 1
      ·rw [if_pos c14] at H
       have c14b0 : (((rd_T32 l0 x6_1).f1.f0) == 1) = true := beq_iff_eq.mpr c14
       have c14b1 : (((rd_T32 l0 x6_1).f1.f0) != 1) = false := bne_eq_false_iff_eq.mpr c14
       clear c14
       (first | rw [c14b0] | (simp only [i64_w, i32_w]; rw [c14b0]) | skip)
       have H' := Aside0.mk H
       clear H
       have hnb15 := NB425_422.out
       have hnc15 := NB422_425.out
       have hnb16 := NB425_423.out
       have hnc16 := NB423_425.out
       obtain ⟨hcz17_0, hcz17_1, hcz17_2, hcz17_3, hcz17_4, hcz17_5, hcz17_6, hcz17_7, hcz17_8, hfz17_0, hfz17_1, hfz17_2, hfz17_3, hfz17_4, hfz17_5, hfz17_6, hfz17_7, hfz17_8⟩ := bC9 BK425
       go_wp2
       go_meet
       case rel => exact ⟨_, _, rr, H', ⟨by have := HK1.out; first | omega | exact Nat.le_refl _⟩, ⟨bF BK422 (nC NB422_425 nN)⟩, ⟨bF BK423 (nC NB423_425 nN)⟩, ⟨bW BK425⟩, ⟨by exact lT HB (gC GE422 (gC GE423 (gC GE425 gN)))⟩⟩
      ·rw [if_neg c14] at H
       have c14b0 : (((rd_T32 l0 x6_1).f1.f0) == 1) = false := beq_eq_false_iff_ne.mpr c14
       have c14b1 : (((rd_T32 l0 x6_1).f1.f0) != 1) = true := bne_iff_ne.mpr c14
       (first | rw [c14b0] | (simp only [i64_w, i32_w]; rw [c14b0]) | skip)
       have H' := Aside0.mk H
       clear H
       have hnb18 := NB425_422.out
       have hnc18 := NB422_425.out
       have hnb19 := NB425_423.out
       have hnc19 := NB423_425.out
       obtain ⟨hcz20_0, hcz20_1, hcz20_2, hcz20_3, hcz20_4, hcz20_5, hcz20_6, hcz20_7, hcz20_8, hfz20_0, hfz20_1, hfz20_2, hfz20_3, hfz20_4, hfz20_5, hfz20_6, hfz20_7, hfz20_8⟩ := bC9 BK425
       go_wp2
       go_meet
       case rel => exact ⟨_, _, rr, H', ⟨by have := HK1.out; first | omega | exact Nat.le_refl _⟩, ⟨bF BK422 (nC NB422_425 nN)⟩, ⟨bF BK423 (nC NB423_425 nN)⟩, ⟨bW BK425⟩, ⟨by exact lT HB (gC GE422 (gC GE423 (gC GE425 gN)))⟩⟩
     case rest =>
      clear HC9
      try clear c1
      try clear p2
      try clear p4
      try clear q4
      try clear hx4
      try clear c5
      try clear c7
      try clear c7b0
      try clear c8
      try clear c8b0
      try clear c11
      try clear c12
      try clear c14
      try clear c14b0
      try clear c14b1
      try clear c15
      try clear c16
      try clear c18
      try clear c19
      try clear hcz13_0
      try clear hcz13_1
      try clear hcz13_2
      try clear hcz13_3
      try clear hcz13_4
      try clear hcz13_5
      try clear hcz13_6
      try clear hcz13_7
      try clear hcz13_8
      try clear hcz17_0
      try clear hcz17_1
      try clear hcz17_2
      try clear hcz17_3
      try clear hcz17_4
      try clear hcz17_5
      try clear hcz17_6
      try clear hcz17_7
      try clear hcz17_8
      try clear hcz20_0
      try clear hcz20_1
      try clear hcz20_2
      try clear hcz20_3
      try clear hcz20_4
      try clear hcz20_5
      try clear hcz20_6
      try clear hcz20_7
      try clear hcz20_8
      try clear hcz6_0
      try clear hcz6_1
      try clear hcz6_2
      try clear hcz6_3
      try clear hcz6_4
      try clear hcz6_5
      try clear hcz6_6
      try clear hcz6_7
      try clear hcz6_8
      try clear hfz13_0
      try clear hfz13_1
      try clear hfz13_2
      try clear hfz13_3
      try clear hfz13_4
      try clear hfz13_5
      try clear hfz13_6
      try clear hfz13_7
      try clear hfz13_8
      try clear hfz17_0
      try clear hfz17_1
      try clear hfz17_2
      try clear hfz17_3
      try clear hfz17_4
      try clear hfz17_5
      try clear hfz17_6
      try clear hfz17_7
      try clear hfz17_8
      try clear hfz20_0
      try clear hfz20_1
      try clear hfz20_2
      try clear hfz20_3
      try clear hfz20_4
      try clear hfz20_5
      try clear hfz20_6
      try clear hfz20_7
      try clear hfz20_8
      try clear hfz6_0
      try clear hfz6_1
      try clear hfz6_2
      try clear hfz6_3
      try clear hfz6_4
      try clear hfz6_5
      try clear hfz6_6
      try clear hfz6_7
      try clear hfz6_8
      try clear hx424_0
      try clear hx424_1
      try clear hx424_2
      try clear hx424_3
      try clear hx424_4
      try clear hx424_5
      try clear hx424_6
      try clear hx424_7
      try clear hx424_8
      try clear p2
      try clear p424
      try clear q424
      obtain ⟨kq, x29_8, rfl, HA, HJ8, BK422, BK423, BK425, HB⟩ := hcut
      cases kq with
      | zero => exact absurd HA.out (by simp [spec_l07Tell.j1])
      | succ kj8 =>
       have H := HA.out
       clear HA
       simp only [spec_l07Tell.j1] at H
       by_cases c21 : x29_8 = true
       ·subst c21
        rw [if_pos rfl] at H
        have H' := Aside0.mk H
        clear H
        go_wp2
        go_roundg kj8
        case measure => have := HK1.out; have := HJ8.out; omega
        case rel => exact ⟨_, _, _, _, _, _, _, _, _, _, rr, H', ⟨by have := HK1.out; have := HJ8.out; omega⟩, ⟨bG BK422⟩, ⟨bG BK423⟩, ⟨by exact lT HB (gC GE422 (gC GE423 (gC GE425 gN)))⟩⟩
       ·replace c21 := Bool.eq_false_iff.mpr c21
        subst c21
        rw [if_neg (show ¬ (false = true) by decide)] at H
        by_cases c22 : x424000_1 = 0
        ·rw [if_pos c22] at H
         have c22b0 : (x424000_1 == 0) = true := beq_iff_eq.mpr c22
         have c22b1 : (x424000_1 != 0) = false := bne_eq_false_iff_eq.mpr c22
         clear c22
         have H' := Aside0.mk H
         clear H
         have hnb23 := NB423_422.out
         have hnc23 := NB422_423.out
         have hnb24 := NB423_425.out
         have hnc24 := NB425_423.out
         obtain ⟨_, _, _, _, _, _, _, _, _, _, _, _, _, _, _, _, _, _⟩ := bC9 BK423
         have hnb26 := NB425_422.out
         have hnc26 := NB422_425.out
         obtain ⟨_, _, _, _, _, _, _, _, _, _, _, _, _, _, _, _, _, _⟩ := bC9 BK425
         go_wp2
         go_roundg kj8
         case measure => have := HK1.out; have := HJ8.out; omega
         case rel => exact ⟨_, _, _, _, _, _, _, _, _, _, rr, H', ⟨by have := HK1.out; have := HJ8.out; omega⟩, ⟨bF BK422 (nC NB422_423 nN)⟩, ⟨bW BK423⟩, ⟨by exact lT HB (gC GE422 (gC GE423 (gC GE425 gN)))⟩⟩
        ·rw [if_neg c22] at H
         have c22b0 : (x424000_1 == 0) = false := beq_eq_false_iff_ne.mpr c22
         have c22b1 : (x424000_1 != 0) = true := bne_iff_ne.mpr c22
         by_cases c28 : ((rd_T32 l0 x6_1).f1.f3) > x424004_1
         ·rw [if_pos c28] at H
          have c28b0 : decide (x424004_1 < ((rd_T32 l0 x6_1).f1.f3)) = true := decide_eq_true c28
          clear c28
          have H' := Aside0.mk H
          clear H
          have hnb29 := NB423_422.out
          have hnc29 := NB422_423.out
          have hnb30 := NB423_425.out
          have hnc30 := NB425_423.out
          obtain ⟨_, _, _, _, _, _, _, _, _, _, _, _, _, _, _, _, _, _⟩ := bC9 BK423
          have hnb32 := NB425_422.out
          have hnc32 := NB422_425.out
          obtain ⟨_, _, _, _, _, _, _, _, _, _, _, _, _, _, _, _, _, _⟩ := bC9 BK425
          go_wp2
          go_roundg kj8
          case measure => have := HK1.out; have := HJ8.out; omega
          case rel => exact ⟨_, _, _, _, _, _, _, _, _, _, rr, H', ⟨by have := HK1.out; have := HJ8.out; omega⟩, ⟨bF BK422 (nC NB422_423 nN)⟩, ⟨bW BK423⟩, ⟨by exact lT HB (gC GE422 (gC GE423 (gC GE425 gN)))⟩⟩
         ·rw [if_neg c28] at H
          have c28b0 : decide (x424004_1 < ((rd_T32 l0 x6_1).f1.f3)) = false := decide_eq_false c28
          clear c28
          by_cases c34 : ((rd_T32 l0 x6_1).f1.f3) = x424004_1
          ·rw [if_pos c34] at H
           have c34b0 : (((rd_T32 l0 x6_1).f1.f3) == x424004_1) = true := beq_iff_eq.mpr c34
           have c34b1 : (((rd_T32 l0 x6_1).f1.f3) != x424004_1) = false := bne_eq_false_iff_eq.mpr c34
           clear c34
           by_cases c35 : ((rd_T32 l0 x6_1).f0) > x424000_1
           ·rw [if_pos c35] at H
            have c35b0 : decide (x424000_1 < ((rd_T32 l0 x6_1).f0)) = true := decide_eq_true c35
            clear c35
            have H' := Aside0.mk H
            clear H
            have hnb36 := NB423_422.out
            have hnc36 := NB422_423.out
            have hnb37 := NB423_425.out
            have hnc37 := NB425_423.out
            obtain ⟨_, _, _, _, _, _, _, _, _, _, _, _, _, _, _, _, _, _⟩ := bC9 BK423
            have hnb39 := NB425_422.out
            have hnc39 := NB422_425.out
            obtain ⟨_, _, _, _, _, _, _, _, _, _, _, _, _, _, _, _, _, _⟩ := bC9 BK425
            go_wp2
            go_roundg kj8
            case measure => have := HK1.out; have := HJ8.out; omega
            case rel => exact ⟨_, _, _, _, _, _, _, _, _, _, rr, H', ⟨by have := HK1.out; have := HJ8.out; omega⟩, ⟨bF BK422 (nC NB422_423 nN)⟩, ⟨bW BK423⟩, ⟨by exact lT HB (gC GE422 (gC GE423 (gC GE425 gN)))⟩⟩
           ·rw [if_neg c35] at H
            have c35b0 : decide (x424000_1 < ((rd_T32 l0 x6_1).f0)) = false := decide_eq_false c35
            clear c35
            have H' := Aside0.mk H
            clear H
            have hnb41 := NB423_422.out
            have hnc41 := NB422_423.out
            have hnb42 := NB423_425.out
            have hnc42 := NB425_423.out
            obtain ⟨_, _, _, _, _, _, _, _, _, _, _, _, _, _, _, _, _, _⟩ := bC9 BK423
            have hnb44 := NB425_422.out
            have hnc44 := NB422_425.out
            obtain ⟨_, _, _, _, _, _, _, _, _, _, _, _, _, _, _, _, _, _⟩ := bC9 BK425
            go_wp2
            go_roundg kj8
            case measure => have := HK1.out; have := HJ8.out; omega
            case rel => exact ⟨_, _, _, _, _, _, _, _, _, _, rr, H', ⟨by have := HK1.out; have := HJ8.out; omega⟩, ⟨bG BK422⟩, ⟨bG BK423⟩, ⟨by exact lT HB (gC GE422 (gC GE423 (gC GE425 gN)))⟩⟩
          ·rw [if_neg c34] at H
           have c34b0 : (((rd_T32 l0 x6_1).f1.f3) == x424004_1) = false := beq_eq_false_iff_ne.mpr c34
           have c34b1 : (((rd_T32 l0 x6_1).f1.f3) != x424004_1) = true := bne_iff_ne.mpr c34
           have H' := Aside0.mk H
           clear H
           have hnb46 := NB423_422.out
           have hnc46 := NB422_423.out
           have hnb47 := NB423_425.out
           have hnc47 := NB425_423.out
           obtain ⟨_, _, _, _, _, _, _, _, _, _, _, _, _, _, _, _, _, _⟩ := bC9 BK423
           have hnb49 := NB425_422.out
           have hnc49 := NB422_425.out
           obtain ⟨_, _, _, _, _, _, _, _, _, _, _, _, _, _, _, _, _, _⟩ := bC9 BK425
           go_wp2
           go_roundg kj8
           case measure => have := HK1.out; have := HJ8.out; omega
           case rel => exact ⟨_, _, _, _, _, _, _, _, _, _, rr, H', ⟨by have := HK1.out; have := HJ8.out; omega⟩, ⟨bG BK422⟩, ⟨bG BK423⟩, ⟨by exact lT HB (gC GE422 (gC GE423 (gC GE425 gN)))⟩⟩
    ·rw [if_neg c8] at H
     exact absurd H (by simp)
   ·rw [if_neg c7] at H
    have c7b0 : decide (x6_1 < (l0.length : Int)) = false := decide_eq_false c7
    clear c7
    simp only [Option.some.injEq, Prod.mk.injEq] at H
    obtain ⟨rfl, rfl, rfl, rfl, rfl, rfl, rfl, rfl, rfl⟩ := H
    have hnb51 := NB423_422.out
    have hnc51 := NB422_423.out
    obtain ⟨_, _, _, _, _, _, _, _, _, _, _, _, _, _, _, _, _, _⟩ := bC9 BK423
    obtain ⟨_, _, _, _, _, _, _, _, _, _, _, _, _, _, _, _, _, _⟩ := bC9 BK422
    go_wp2
    refine bodyPost_ret (results_cell_row rfl _ _ gb422 32 #[.int .i64 x424000_1, .int .i64 x424001_1, .int .i64 x424002_1, .int .i64 x424003_1, .int .i64 x424004_1, .int .i64 x424005_1, .string x424006_1, .string x424007_1, .string x424008_1] (0, 0) _ rfl (bW BK422) Try.underlying32 rfl (by kernel_rfl)) rfl ?_
    exact ⟨ew, by exact lT HB (gC GE422 (gC GE423 gN))⟩
end Go.Proofs.Ytagkjeldheiejaa.PFnAnyOrder
