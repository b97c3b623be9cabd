-- Written for this claim by a program of mine (a turned copy of the kit's print): functions as plain Lean, and their contracts. Lean checks it.
import Derived.Test.YtjpngldnkgofaaaPFnCrashesx0
import Derived.Test.YtjpngldnkgofaaaPFnCrashesx10
import Derived.Test.YtjpngldnkgofaaaVFnCrashes1
namespace Go.Proofs.Ytjpngldnkgofaaa.PFnCrashes
open Go.RowKit Go.Proofs.YtjpngldnkgofaaaW.PrintWords Go.Proofs.YtjpngldnkgofaaaW.PrintLast Go.Proofs.YtjpngldnkgofaaaW.PrintMore
attribute [local go_sem] max2_int min2_int max_two min_two max_three min_three max_four min_four   -- for this text's walks alone
set_option linter.unusedVariables false
set_option linter.unusedSimpArgs false

/-! ### impl_FlushDisk: function 13 -/
def impl_FlushDisk.l0 : Nat → List (S63) → Int → Int → List ByteArray → List (S63) → Option (List ByteArray × (List (S63)))
 | 0, _, _, _, _, _ => none
 | k + 1, x13, x14, x15, x318000, x318001 => if x15 < x14 then (if 0 ≤ x15 then (if x15 < (x13.length : Int) then (if 0 ≤ ((rd_T63 x13 x15).f0) then (if ((rd_T63 x13 x15).f0) < (x318000.length : Int) then (impl_FlushDisk.l0 k x13 x14 (wrap64 (x15 + 1)) (x318000.set (((rd_T63 x13 x15).f0) : Int).toNat ((rd_T63 x13 x15).f1)) x318001) else (none)) else (none)) else (none)) else (none)) else (some (x318000, ([] : List (S63))))
def impl_FlushDisk.f (k : Nat) (l0_0 : List ByteArray) (l0_1 : List (S63)) : Option (List ByteArray × (List (S63))) := (impl_cloneDisk.f l0_0 l0_1).bind fun bt311 => ((impl_DiskOk.f l0_0 l0_1).bind fun t318 => (if t318 = true then (impl_FlushDisk.l0 k l0_1 (l0_1.length : Int) 0 bt311.1 bt311.2) else (some (bt311.1, bt311.2))))
theorem impl_FlushDisk.mono_l : ∀ k, (∀ y0 y1 y2 y3 y4, LeO (impl_FlushDisk.l0 k y0 y1 y2 y3 y4) (impl_FlushDisk.l0 (k + 1) y0 y1 y2 y3 y4))
 | 0 => fun _ _ _ _ _ r h => by simp [impl_FlushDisk.l0] at h
 | k + 1 => by
  have ih0 := impl_FlushDisk.mono_l k
  ·intro y0 y1 y2 y3 y4
   unfold impl_FlushDisk.l0
   repeat' first
   | (with_reducible exact ih0 _ _ _ _ _)
   | (with_reducible exact LeO.refl _)
   | (with_reducible exact LeO.none _)
   | (with_reducible refine LeO.ite ?_ ?_)
   | (with_reducible refine LeO.bind ?_ (fun _ => ?_))
   | exact ih0 _ _ _ _ _
   | exact LeO.none _
   | refine LeO.ite ?_ ?_
   | refine LeO.bind ?_ (fun _ => ?_)
theorem impl_FlushDisk.mono : ∀ a0 a1 k, LeO (impl_FlushDisk.f k a0 a1) (impl_FlushDisk.f (k + 1) a0 a1) := by
 intro a0 a1 k
 have ih0 := impl_FlushDisk.mono_l k
 unfold impl_FlushDisk.f
 repeat' first
   | (with_reducible exact ih0 _ _ _ _ _)
   | (with_reducible exact LeO.refl _)
   | (with_reducible exact LeO.none _)
   | (with_reducible refine LeO.ite ?_ ?_)
   | (with_reducible refine LeO.bind ?_ (fun _ => ?_))
   | exact ih0 _ _ _ _ _
   | exact LeO.none _
   | refine LeO.ite ?_ ?_
   | refine LeO.bind ?_ (fun _ => ?_)
set_option maxHeartbeats 8000000 in
set_option maxRecDepth 100000 in
theorem impl_FlushDisk.calls (k : Nat) (A0_0 : Option Addr) (c0_0 : Nat) (l0_0 : List ByteArray) (A0_1 : Option Addr) (c0_1 : Nat) (l0_1 : List (S63)) (r1 : List ByteArray) (r2 : List (S63)) (w : World) (hr0_0 : Kd.C Kd.string w A0_0 l0_0.length l0_0) (hc0_0 : l0_0.length ≤ c0_0) (hr0_1 : Kd.C k63 w A0_1 l0_1.length l0_1) (hc0_1 : l0_1.length ≤ c0_1) (h : impl_FlushDisk.f k l0_0 l0_1 = some (r1, r2)) :
  Calls Try.prog 13 #[.agg #[.slice A0_0 l0_0.length c0_0, .slice A0_1 l0_1.length c0_1]] w fun e w' => ∃ v0_ v1_ : Value, e = .returned (.agg #[v0_, v1_]) ∧ Kd.R Kd.string 9 w' w.heap.size (fun _ => True) v0_ r1 ∧ Kd.R k63 63 w' w.heap.size (fun _ => True) v1_ r2 ∧ Below w.heap.size w w' := by
 have hu27 := Try.underlying27
 have hu63 := Try.underlying63
 have HR0_0 := Aside0.mk hr0_0
 have HC0_0 := Aside0.mk hc0_0
 clear hr0_0 hc0_0
 have HR0_1 := Aside0.mk hr0_1
 have HC0_1 := Aside0.mk hc0_1
 clear hr0_1 hc0_1
 have HB := ak (Below.refl w.heap.size w)
 have H : ((impl_cloneDisk.f l0_0 l0_1).bind fun bt311 => ((impl_DiskOk.f l0_0 l0_1).bind fun t318 => (if t318 = true then (impl_FlushDisk.l0 k l0_1 (l0_1.length : Int) 0 bt311.1 bt311.2) else (some (bt311.1, bt311.2))))) = some (r1, r2) := h
 clear h
 replace H := Option.bind_eq_some_iff.mp H
 obtain ⟨⟨t311, t314⟩, A20, H⟩ := H
 replace H : ((impl_DiskOk.f l0_0 l0_1).bind fun t318 => (if t318 = true then (impl_FlushDisk.l0 k l0_1 (l0_1.length : Int) 0 t311 t314) else (some (t311, t314)))) = some (r1, r2) := H
 have A2 := Aside0.mk A20
 clear A20
 replace H := Option.bind_eq_some_iff.mp H
 obtain ⟨t318, A30, H⟩ := H
 replace H : (if t318 = true then (impl_FlushDisk.l0 k l0_1 (l0_1.length : Int) 0 t311 t314) else (some (t311, t314))) = some (r1, r2) := H
 have A3 := Aside0.mk A30
 clear A30
 by_cases c4 : t318 = true
 ·subst c4
  have H1 : (impl_FlushDisk.l0 k l0_1 (l0_1.length : Int) 0 t311 t314) = some (r1, r2) := by rw [if_pos rfl] at H; exact H
  clear H
  have H := H1
  clear H1
  have H' := Aside0.mk H
  clear H
  go_enter Try.func13, Try.ntmps13
  go_wp2_with (first | ((with_reducible refine gate_dst (N := 1) rfl ?_); refine bx 1 #[.slice A0_0 l0_0.length c0_0, .slice A0_1 l0_1.length c0_1] 27 ?_; intro gb309 hg w5 hbox hb; replace BK309 := ak (hbox); replace GW309 := ak (bz hg (lG HB)); replace GE309 := ak (bz hg (lG HB)); replace HB := lB HB hb; clear hb hbox hg) | ((with_reducible refine gate_dst (N := 2) rfl ?_); refine bx 2 #[.slice none 0 0, .slice none 0 0] 27 ?_; intro gb310 hg w6 hbox hb; replace BK310 := ak (hbox); replace GW310 := ak (bz hg (lT HB (gC GE309 gN))); replace GE310 := ak (bz hg (lT HB (gC GE309 gN))); replace HB := ak (below_step (lT HB (gC GE309 gN)) hb); replace NB309_310 := ak (nl hg (bG BK309)); replace NB310_309 := ak (ng hg (bG BK309)); replace BK309 := bB BK309 hb; clear hb hbox hg; have hnb7 := NB309_310.out; have hnc7 := NB310_309.out; obtain ⟨hcz8_0, hcz8_1, hfz8_0, hfz8_1⟩ := bC2 BK309) | ((with_reducible refine gate_callee (f := 48) rfl ?_); refine gl (some 7) Try.func48 #[.agg #[.slice A0_0 l0_0.length c0_0, .slice A0_1 l0_1.length c0_1]] ?_; (with_reducible refine (impl_cloneDisk.calls _ _ l0_0 _ _ l0_1 t311 t314 _ ?side1 ?side2 ?side3 ?side4 A2.out).mono ?_); (case side1 => exact cG (Kd.C_below HR0_0.out HB.out)); (case side2 => exact HC0_0.out); (case side3 => exact cG (Kd.C_below HR0_1.out HB.out)); (case side4 => exact HC0_1.out); rintro e w9 ⟨v312, v315, rfl, ho0, ho1, hb⟩; refine ⟨_, rfl, ?_⟩; replace HO313 := ak (Kd.R_lower ho0 (below_size (lT HB (gC GE309 (gC GE310 gN))))); replace HO316 := ak (Kd.R_lower ho1 (below_size (lT HB (gC GE309 (gC GE310 gN))))); replace BK309 := bB BK309 hb; replace BK310 := bB BK310 hb; replace HB := ak (below_step (lT HB (gC GE309 (gC GE310 gN))) hb); (try clear hb); (try clear hk); (try clear ho0); (try clear ho1)) | ((with_reducible refine gate_dst (N := 3) rfl ?_); refine bx 3 #[.slice none 0 0, .slice none 0 0] 27 ?_; intro gb317 hg w10 hbox hb; replace HO313 := rB HO313 hb; replace HO316 := rB HO316 hb; replace BK317 := ak (hbox); replace GW317 := ak (bz hg (lT HB (gC GE309 (gC GE310 gN)))); replace GE317 := ak (bz hg (lT HB (gC GE309 (gC GE310 gN)))); replace HB := ak (below_step (lT HB (gC GE309 (gC GE310 gN))) hb); replace NB309_317 := ak (nl hg (bG BK309)); replace NB317_309 := ak (ng hg (bG BK309)); replace BK309 := bB BK309 hb; replace NB310_317 := ak (nl hg (bG BK310)); replace NB317_310 := ak (ng hg (bG BK310)); replace BK310 := bB BK310 hb; clear hb hbox hg; obtain ⟨Ao11, co11, eo11⟩ := Kd.R_slice HO313.out; subst eo11; have hnb12 := NB317_309.out; have hnc12 := NB309_317.out; have hnb13 := NB317_310.out; have hnc13 := NB310_317.out; obtain ⟨hcz14_0, hcz14_1, hfz14_0, hfz14_1⟩ := bC2 BK317; obtain ⟨Ao15, co15, eo15⟩ := Kd.R_slice HO316.out; subst eo15; obtain ⟨hcz16_0, hcz16_1, hfz16_0, hfz16_1⟩ := bC2 BK309) | ((with_reducible refine gate_callee (f := 16) rfl ?_); refine gl (some 9) Try.func16 #[.agg #[.slice A0_0 l0_0.length c0_0, .slice A0_1 l0_1.length c0_1]] ?_; (with_reducible refine (impl_DiskOk.calls _ _ l0_0 _ _ l0_1 true _ ?side1 ?side2 ?side3 ?side4 A3.out).mono ?_); (case side1 => exact Kd.C_below HR0_0.out (lT HB (gC GE309 (gC GE310 (gC GE317 gN))))); (case side2 => exact HC0_0.out); (case side3 => exact Kd.C_below HR0_1.out (lT HB (gC GE309 (gC GE310 (gC GE317 gN))))); (case side4 => exact HC0_1.out); rintro e w17 ⟨rfl, hb⟩; refine ⟨_, rfl, ?_⟩; replace HO313 := ak (Kd.R_below (rT HO313 BK317 (by decide)) hb); replace HO316 := ak (Kd.R_below (rT HO316 BK317 (by decide)) hb); replace BK309 := ak (blk_below (bT BK309 (nC NB309_317 nN)) hb); replace BK310 := ak (blk_below (bT BK310 (nC NB310_317 nN)) hb); replace BK317 := ak (blk_below (g := gb317) (o := .cells #[.slice Ao11 t311.length co11, .slice Ao15 t314.length co15] 27 (0, 0)) (by (with_reducible repeat (first | refine blk_drewN ?_ _ | refine blk_drew ?_ | refine blk_alloc ?_ _)); refine blk_put (cs := #[.slice Ao11 t311.length co11, .slice none 0 0]) ?_ 1 _ rfl; (with_reducible repeat (first | refine blk_drewN ?_ _ | refine blk_drew ?_ | refine blk_alloc ?_ _)); refine blk_put (cs := #[.slice none 0 0, .slice none 0 0]) ?_ 0 _ rfl; (with_reducible repeat (first | refine blk_drewN ?_ _ | refine blk_drew ?_ | refine blk_alloc ?_ _)); exact BK317.out) hb); replace HB := ak (below_step (lT HB (gC GE309 (gC GE310 (gC GE317 gN)))) hb); (try clear hb); (try clear hk); obtain ⟨hcz18_0, hcz18_1, hfz18_0, hfz18_1⟩ := bC2 BK309))
  go_loopg [15] k (fun kq v15 w' => ∃ (x15_1 : Int) (x318000_1 : List ByteArray) (u318000 : Value), v15 = .int .i64 x15_1 ∧ Aside0 (impl_FlushDisk.l0 kq l0_1 (l0_1.length : Int) x15_1 x318000_1 t314 = some (r1, r2)) ∧ Aside0 (kq ≤ k) ∧ Aside0 (Kd.R Kd.string 9 w' w.heap.size (fun _ => True) u318000 x318000_1) ∧ Aside0 (Kd.R k63 63 w' w.heap.size (fun _ => True) (.slice Ao15 t314.length co15) t314) ∧ Aside0 (w'.heap[gb309]? = some (.cells #[(.slice A0_0 l0_0.length c0_0), (.slice A0_1 l0_1.length c0_1)] 27 (0, 0))) ∧ Aside0 (w'.heap[gb310]? = some (.cells #[(.slice none 0 0), (.slice none 0 0)] 27 (0, 0))) ∧ Aside0 (w'.heap[gb317]? = some (.cells #[u318000, (.slice Ao15 t314.length co15)] 27 (0, 0))) ∧ Aside0 (Below w.heap.size w w'))
  case atStart => exact ⟨(0), (t311), (.slice Ao11 t311.length co11), (by first | rfl | (simp; done) | (simp [*]; done)), H', ⟨Nat.le_refl _⟩, ⟨by (with_reducible repeat (first | apply Kd.R_alloc | apply Kd.R_drewN | apply Kd.R_drew)); exact HO313.out⟩, ⟨by (with_reducible repeat (first | apply Kd.R_alloc | apply Kd.R_drewN | apply Kd.R_drew)); exact HO316.out⟩, ⟨by (with_reducible repeat (first | refine blk_drewN ?_ _ | refine blk_drew ?_ | refine blk_alloc ?_ _)); exact BK309.out⟩, ⟨by (with_reducible repeat (first | refine blk_drewN ?_ _ | refine blk_drew ?_ | refine blk_alloc ?_ _)); exact BK310.out⟩, ⟨by (with_reducible repeat (first | refine blk_drewN ?_ _ | refine blk_drew ?_ | refine blk_alloc ?_ _)); exact BK317.out⟩, ⟨by exact lT HB (gC GE309 (gC GE310 (gC GE317 gN)))⟩⟩
  case round =>
   clear H'
   try clear c1
   try clear p2
   try clear c4
   try clear c7
   try clear c12
   try clear c13
   try clear c16
   try clear hcz14_0
   try clear hcz14_1
   try clear hcz16_0
   try clear hcz16_1
   try clear hcz18_0
   try clear hcz18_1
   try clear hcz8_0
   try clear hcz8_1
   try clear hfz14_0
   try clear hfz14_1
   try clear hfz16_0
   try clear hfz16_1
   try clear hfz18_0
   try clear hfz18_1
   try clear hfz8_0
   try clear hfz8_1
   obtain ⟨x15_1, x318000_1, u318000, rfl, HA, HK1, HO_318000, HO_318001, BK309, BK310, BK317, HB⟩ := hrel
   cases gk with
   | zero => exact absurd HA.out (by simp [impl_FlushDisk.l0])
   | succ k1 =>
    have H := HA.out
    clear HA
    simp only [impl_FlushDisk.l0] at H
    by_cases c19 : x15_1 < (l0_1.length : Int)
    ·rw [if_pos c19] at H
     have c19b0 : decide (x15_1 < (l0_1.length : Int)) = true := decide_eq_true c19
     clear c19
     by_cases c20 : 0 ≤ x15_1
     ·rw [if_pos c20] at H
      have c20b0 : decide (0 ≤ x15_1) = true := decide_eq_true c20
      clear c20
      by_cases c21 : x15_1 < (l0_1.length : Int)
      ·rw [if_pos c21] at H
       have c21b0 : decide (x15_1 < (l0_1.length : Int)) = true := decide_eq_true c21
       clear c21
       by_cases c22 : 0 ≤ ((rd_T63 l0_1 x15_1).f0)
       ·rw [if_pos c22] at H
        have c22b0 : decide (0 ≤ ((rd_T63 l0_1 x15_1).f0)) = true := decide_eq_true c22
        clear c22
        by_cases c23 : ((rd_T63 l0_1 x15_1).f0) < (x318000_1.length : Int)
        ·rw [if_pos c23] at H
         have c23b0 : decide (((rd_T63 l0_1 x15_1).f0) < (x318000_1.length : Int)) = true := decide_eq_true c23
         clear c23
         obtain ⟨y321, hy321⟩ : ∃ y_ : List ByteArray, y_ = (x318000_1.set (((rd_T63 l0_1 x15_1).f0) : Int).toNat ((rd_T63 l0_1 x15_1).f1)) := ⟨_, rfl⟩
         replace H : (impl_FlushDisk.l0 k1 l0_1 (l0_1.length : Int) (wrap64 (x15_1 + 1)) y321 t314) = some (r1, r2) := by first | (rw [hy321]; with_reducible exact H) | (have H2_ := (Option.bind_some _ _).symm.trans H; rw [hy321]; with_reducible exact H2_) | (have H2_ := (Option.bind_some _ _).symm.trans H; with_reducible exact H2_) | with_reducible exact H | (rw [hy321]; exact H) | exact H
         have Ny321 := Aside0.mk hy321
         clear hy321
         have H' := Aside0.mk H
         clear H
         have p319 : 0 ≤ (x15_1 : Int) := of_decide_eq_true (by first | (with_reducible assumption) | assumption)
         have q319 : x15_1 < (l0_1.length : Int) := of_decide_eq_true (by first | (with_reducible assumption) | assumption)
         obtain ⟨ad319, e319, hx319_0, hx319_1⟩ := at_T63 HR0_1.out x15_1 p319 q319
         cases e319
         replace hx319_0 := (HB.out.cell (World.block_lt_of_cell? w _ hx319_0)).trans hx319_0
         replace hx319_1 := (HB.out.cell (World.block_lt_of_cell? w _ hx319_1)).trans hx319_1
         replace p319 := eq_true p319
         replace q319 := eq_true q319
         go_wp2_with (first | ((with_reducible refine gate_dst (N := 5) rfl ?_); refine bx 5 #[.int .i64 0, .string (⟨#[]⟩ : ByteArray)] 63 ?_; intro gb320 hg w25 hbox hb; replace HO_318000 := rB HO_318000 hb; replace HO_318001 := ak (Kd.R_below (Kd.R_elderB (rG HO_318001) gb320 (Nat.le_of_eq hg.symm)) hb); replace BK320 := ak (hbox); replace GW320 := ak (bz hg (lT HB (gC GE309 (gC GE310 (gC GE317 gN))))); replace GE320 := ak (bz hg (lT HB (gC GE309 (gC GE310 (gC GE317 gN))))); replace HB := ak (below_step (lT HB (gC GE309 (gC GE310 (gC GE317 gN)))) hb); replace NB309_320 := ak (nl hg (bG BK309)); replace NB320_309 := ak (ng hg (bG BK309)); replace BK309 := bB BK309 hb; replace NB310_320 := ak (nl hg (bG BK310)); replace NB320_310 := ak (ng hg (bG BK310)); replace BK310 := bB BK310 hb; replace NB317_320 := ak (nl hg (bG BK317)); replace NB320_317 := ak (ng hg (bG BK317)); replace BK317 := bB BK317 hb; clear hb hbox hg; have hnb26 := NB320_309.out; have hnc26 := NB309_320.out; have hnb27 := NB320_310.out; have hnc27 := NB310_320.out; have hnb28 := NB320_317.out; have hnc28 := NB317_320.out; obtain ⟨hcz29_0, hcz29_1, hfz29_0, hfz29_1⟩ := bC2 BK320) | ((with_reducible refine gate_store (t := 63) (p := 5) rfl ?_); refine store_event (t := 63) (p := 5) (v := ?vo_w30) (w1 := ((w25.setCell ⟨gb320, 0, none⟩ (.int .i64 ((rd_T63 l0_1 x15_1).f0))).setCell ⟨gb320, 1, none⟩ (.string ((rd_T63 l0_1 x15_1).f1)))) ?hg ?ho ?hn ?hr ?_; (case ho => rfl); (case hg => rfl); (case hn => rfl); (case hr => first | (go_simp; done) | (go_simp; rfl)); intro w30 hw; have n0_ : Aside0 (Kd.R Kd.string 9 w30 w.heap.size (fun _ => True) u318000 x318000_1) := ⟨(by rw [hw]; exact (by (with_reducible repeat (first | apply Kd.R_alloc | apply Kd.R_drewN | apply Kd.R_drew)); exact Kd.R_mono (Kd.R_far (p := ⟨gb320, 1, none⟩) (Kd.R_far (p := ⟨gb320, 0, none⟩) (Kd.R_types HO_318000.out BK320.out (by decide)) (fun _ hk => hk.2) (.int .i64 ((rd_T63 l0_1 x15_1).f0))) (fun _ hk => hk.2) (.string ((rd_T63 l0_1 x15_1).f1))) (fun _ hk => trivial)))⟩; have n1_ : Aside0 (Kd.R k63 63 w30 w.heap.size (fun k_ => k_ ≠ gb320) (.slice Ao15 t314.length co15) t314) := ⟨(by rw [hw]; exact (by (with_reducible repeat (first | apply Kd.R_alloc | apply Kd.R_drewN | apply Kd.R_drew)); exact Kd.R_mono (Kd.R_far (p := ⟨gb320, 1, none⟩) (Kd.R_far (p := ⟨gb320, 0, none⟩) (Kd.R_mono HO_318001.out (fun k_ hk => (⟨hk, hk.2⟩ : _ ∧ k_ ≠ gb320))) (fun _ hk => hk.2) (.int .i64 ((rd_T63 l0_1 x15_1).f0))) (fun _ hk => hk.2) (.string ((rd_T63 l0_1 x15_1).f1))) (fun _ hk => hk.1.2)))⟩; have n2_ : Aside0 (w30.heap[gb309]? = some (.cells #[.slice A0_0 l0_0.length c0_0, .slice (some ad319) l0_1.length c0_1] 27 (0, 0))) := ⟨(by rw [hw]; exact (bT BK309 (nC NB309_320 nN)))⟩; have n3_ : Aside0 (w30.heap[gb310]? = some (.cells #[.slice none 0 0, .slice none 0 0] 27 (0, 0))) := ⟨(by rw [hw]; exact (bT BK310 (nC NB310_320 nN)))⟩; have n4_ : Aside0 (w30.heap[gb317]? = some (.cells #[u318000, .slice Ao15 t314.length co15] 27 (0, 0))) := ⟨(by rw [hw]; exact (bT BK317 (nC NB317_320 nN)))⟩; have n5_ : Aside0 (w30.heap[gb320]? = some (.cells #[.int .i64 ((rd_T63 l0_1 x15_1).f0), .string ((rd_T63 l0_1 x15_1).f1)] 63 (0, 0))) := ⟨(by rw [hw]; exact (by (with_reducible repeat (first | refine blk_drewN ?_ _ | refine blk_drew ?_ | refine blk_alloc ?_ _)); refine blk_put (cs := #[.int .i64 ((rd_T63 l0_1 x15_1).f0), .string (⟨#[]⟩ : ByteArray)]) ?_ 1 _ rfl; (with_reducible repeat (first | refine blk_drewN ?_ _ | refine blk_drew ?_ | refine blk_alloc ?_ _)); refine blk_put (cs := #[.int .i64 0, .string (⟨#[]⟩ : ByteArray)]) ?_ 0 _ rfl; (with_reducible repeat (first | refine blk_drewN ?_ _ | refine blk_drew ?_ | refine blk_alloc ?_ _)); exact BK320.out))⟩; have n6_ : Aside0 (Below w.heap.size w w30) := ⟨(by rw [hw]; exact (lT HB (gC GE309 (gC GE310 (gC GE317 (gC GE320 gN))))))⟩; clear hw; clear HO_318000; clear HO_318001; clear BK309; clear BK310; clear BK317; clear BK320; clear HB; have HO_318000 := n0_; have HO_318001 := n1_; have BK309 := n2_; have BK310 := n3_; have BK317 := n4_; have BK320 := n5_; have HB := n6_; clear n0_ n1_ n2_ n3_ n4_ n5_ n6_; have hnb31 := NB317_309.out; have hnc31 := NB309_317.out; have hnb32 := NB317_310.out; have hnc32 := NB310_317.out; obtain ⟨hcz33_0, hcz33_1, hfz33_0, hfz33_1⟩ := bC2 BK317; obtain ⟨hcz34_0, hcz34_1, hfz34_0, hfz34_1⟩ := bC2 BK320; have p24 : 0 ≤ (((rd_T63 l0_1 x15_1).f0) : Int) := of_decide_eq_true (by first | (with_reducible assumption) | assumption); have q24 : (((rd_T63 l0_1 x15_1).f0) : Int) < ((x318000_1.length : Int) : Int) := of_decide_eq_true (by first | (with_reducible assumption) | assumption); obtain ⟨go24, co24, eo24, gb24, gl24, cl24, HG24⟩ := Kd.R_form HO_318000.out (by omega); (first | cases eo24 | (injection eo24 with ea_ en_ ec_; (first | subst ea_ | (injection ea_ with ea_; subst ea_)); subst ec_; clear en_)); have GB24 := Aside0.mk gb24; have GG24 := Aside0.mk HG24; clear gb24 gl24 HG24; obtain ⟨hx24_0, hf24_0⟩ := Kd.R_celln (⟨#[]⟩ : ByteArray) HO_318000.out (((rd_T63 l0_1 x15_1).f0) : Int) p24 q24; replace p24 := eq_true p24; replace q24 := eq_true q24; obtain ⟨hy35_, hz35_⟩ := Kd.R_celln (⟨#[]⟩ : ByteArray) HO_318000.out (((rd_T63 l0_1 x15_1).f0) : Int) (of_decide_eq_true (by first | (with_reducible assumption) | assumption)) (of_decide_eq_true (by first | (with_reducible assumption) | assumption)); have HP35 := Kd.R_putg HO_318000.out (((rd_T63 l0_1 x15_1).f0) : Int) ((rd_T63 l0_1 x15_1).f1)) | ((with_reducible refine gate_store (t := 9) (p := 25) rfl ?_); refine store_event (t := 9) (p := 25) (v := ?vo_w36) (w1 := (w30.setCell ⟨go24, (((rd_T63 l0_1 x15_1).f0) : Int).toNat, none⟩ (.string ((rd_T63 l0_1 x15_1).f1)))) ?hg ?ho ?hn ?hr ?_; (case ho => rfl); (case hg => rfl); (case hn => rfl); (case hr => first | (go_simp; done) | (go_simp; rfl)); intro w36 hw; have hg : w30.grownBy w36 (some go24) := (by rw [hw]; exact HP35.2); have hp_ : Kd.R Kd.string 9 w36 w.heap.size (fun _ => True) (.slice (some ⟨go24, 0, none⟩) x318000_1.length co24) y321 := (by rw [hw, Ny321.out]; exact HP35.1); clear HP35; replace HO_318001 := ak (Kd.R_over' (v := (.slice (some ⟨go24, 0, none⟩) x318000_1.length co24)) (rG HO_318001) (Kd.R_typed HO_318000.out) (by decide) hg); replace BK309 := ak (blk_grown (g := gb309) (o := .cells #[.slice A0_0 l0_0.length c0_0, .slice (some ad319) l0_1.length c0_1] 27 (0, 0)) (bG BK309) hg (Kd.R_ne HO_318000.out BK309.out (by decide))); replace BK310 := ak (blk_grown (g := gb310) (o := .cells #[.slice none 0 0, .slice none 0 0] 27 (0, 0)) (bG BK310) hg (Kd.R_ne HO_318000.out BK310.out (by decide))); replace BK317 := ak (blk_grown (g := gb317) (o := .cells #[.slice (some ⟨go24, 0, none⟩) x318000_1.length co24, .slice Ao15 t314.length co15] 27 (0, 0)) (bG BK317) hg (Kd.R_ne HO_318000.out BK317.out (by decide))); replace BK320 := ak (blk_grown (g := gb320) (o := .cells #[.int .i64 ((rd_T63 l0_1 x15_1).f0), .string ((rd_T63 l0_1 x15_1).f1)] 63 (0, 0)) (bG BK320) hg (Kd.R_ne HO_318000.out BK320.out (by decide))); replace HO_318000 := ak (hp_); replace HB := ak ((by rw [hw]; exact below_set (HB.out) GB24.out : Below w.heap.size w w36)); clear hg hw hp_))
         go_roundg k1
         case measure => have := HK1.out; omega
         case rel => exact ⟨(wrap64 (x15_1 + 1)), (y321), (.slice (some ⟨go24, 0, none⟩) x318000_1.length co24), (by first | rfl | (simp; done) | (simp [*]; done)), H', ⟨by have := HK1.out; omega⟩, ⟨by (with_reducible repeat (first | apply Kd.R_alloc | apply Kd.R_drewN | apply Kd.R_drew)); exact HO_318000.out⟩, ⟨by (with_reducible repeat (first | apply Kd.R_alloc | apply Kd.R_drewN | apply Kd.R_drew)); exact Kd.R_mono HO_318001.out (fun _ hk => trivial)⟩, ⟨by (with_reducible repeat (first | refine blk_drewN ?_ _ | refine blk_drew ?_ | refine blk_alloc ?_ _)); exact BK309.out⟩, ⟨by (with_reducible repeat (first | refine blk_drewN ?_ _ | refine blk_drew ?_ | refine blk_alloc ?_ _)); exact BK310.out⟩, ⟨by (with_reducible repeat (first | refine blk_drewN ?_ _ | refine blk_drew ?_ | refine blk_alloc ?_ _)); exact BK317.out⟩, ⟨by exact lT HB (gC GE309 (gC GE310 (gC GE317 (gC GE320 gN))))⟩⟩
        ·rw [if_neg c23] at H
         exact absurd H (by simp)
       ·rw [if_neg c22] at H
        exact absurd H (by simp)
      ·rw [if_neg c21] at H
       exact absurd H (by simp)
     ·rw [if_neg c20] at H
      exact absurd H (by simp)
    ·rw [if_neg c19] at H
     have c19b0 : decide (x15_1 < (l0_1.length : Int)) = false := decide_eq_false c19
     clear c19
     simp only [Option.some.injEq, Prod.mk.injEq] at H
     obtain ⟨rfl, rfl⟩ := H
     have hnb37 := NB317_309.out
     have hnc37 := NB309_317.out
     have hnb38 := NB317_310.out
     have hnc38 := NB310_317.out
     have hcz39_0 : wr.cell? ⟨gb317, 0, none⟩ = some (u318000) := (blk_cell BK317.out 0).trans rfl
     have hcz39_1 : wr.cell? ⟨gb317, 1, none⟩ = some (.slice Ao15 t314.length co15) := (blk_cell BK317.out 1).trans rfl
     have hfz39_0 := blk_frozen BK317.out 0
     have hfz39_1 := blk_frozen BK317.out 1
     obtain ⟨Ao40, co40, eo40⟩ := Kd.R_slice HO_318000.out
     subst eo40
     have hnb41 := NB310_309.out
     have hnc41 := NB309_310.out
     have hcz42_0 : wr.cell? ⟨gb310, 0, none⟩ = some (.slice none 0 0) := (blk_cell BK310.out 0).trans rfl
     have hcz42_1 : wr.cell? ⟨gb310, 1, none⟩ = some (.slice none 0 0) := (blk_cell BK310.out 1).trans rfl
     have hfz42_0 := blk_frozen BK310.out 0
     have hfz42_1 := blk_frozen BK310.out 1
     go_wp2
     refine bodyPost_ret (results_cell_row rfl _ _ gb310 27 #[.slice Ao40 x318000_1.length co40, .slice none 0 0] (0, 0) _ rfl (by (with_reducible repeat (first | refine blk_drewN ?_ _ | refine blk_drew ?_ | refine blk_alloc ?_ _)); refine blk_put (cs := #[.slice Ao40 x318000_1.length co40, .slice none 0 0]) ?_ 1 _ rfl; (with_reducible repeat (first | refine blk_drewN ?_ _ | refine blk_drew ?_ | refine blk_alloc ?_ _)); refine blk_put (cs := #[.slice none 0 0, .slice none 0 0]) ?_ 0 _ rfl; (with_reducible repeat (first | refine blk_drewN ?_ _ | refine blk_drew ?_ | refine blk_alloc ?_ _)); refine blk_far ?_ NB310_317.out _; (with_reducible repeat (first | refine blk_drewN ?_ _ | refine blk_drew ?_ | refine blk_alloc ?_ _)); exact BK310.out) Try.underlying27 rfl (by kernel_rfl)) rfl ?_
     exact ⟨_, _, by first | rfl | (simp [errW_none, errW_some] <;> rfl) | (simp [*, errW_none, errW_some] <;> rfl), by (with_reducible repeat (first | apply Kd.R_alloc | apply Kd.R_drewN | apply Kd.R_drew)); exact Kd.R_mono (Kd.R_far (p := ⟨gb310, 1, none⟩) (Kd.R_far (p := ⟨gb310, 0, none⟩) (Kd.R_far (p := ⟨gb317, 1, none⟩) (Kd.R_types (Kd.R_types HO_318000.out BK317.out (by decide)) BK310.out (by decide)) (fun _ hk => hk.1.2) (.slice none 0 0)) (fun _ hk => hk.2) (.slice Ao40 x318000_1.length co40)) (fun _ hk => hk.2) (.slice none 0 0)) (fun _ hk => trivial), by first | exact Kd.R_nil _ _ _ _ _ | exact Kd.N_nil _ _ _ _ _ | exact Kd.V_nil _ _ _ _ _ | exact Kd.Q_nil _ _ _ _ _ | exact Kd.S_nil _ _ _ _ _, by exact lT HB (gC GE309 (gC GE310 (gC GE317 gN)))⟩
 ·replace c4 := Bool.eq_false_iff.mpr c4
  subst c4
  have H1 : (some (t311, t314)) = some (r1, r2) := by rw [if_neg (show ¬ (false = true) by decide)] at H; exact H
  clear H
  have H := H1
  clear H1
  simp only [Option.some.injEq, Prod.mk.injEq] at H
  obtain ⟨rfl, rfl⟩ := H
  go_enter Try.func13, Try.ntmps13
  go_wp2_with (first | ((with_reducible refine gate_dst (N := 1) rfl ?_); refine bx 1 #[.slice A0_0 l0_0.length c0_0, .slice A0_1 l0_1.length c0_1] 27 ?_; intro gb309 hg w43 hbox hb; replace BK309 := ak (hbox); replace GW309 := ak (bz hg (lG HB)); replace GE309 := ak (bz hg (lG HB)); replace HB := lB HB hb; clear hb hbox hg) | ((with_reducible refine gate_dst (N := 2) rfl ?_); refine bx 2 #[.slice none 0 0, .slice none 0 0] 27 ?_; intro gb310 hg w44 hbox hb; replace BK310 := ak (hbox); replace GW310 := ak (bz hg (lT HB (gC GE309 gN))); replace GE310 := ak (bz hg (lT HB (gC GE309 gN))); replace HB := ak (below_step (lT HB (gC GE309 gN)) hb); replace NB309_310 := ak (nl hg (bG BK309)); replace NB310_309 := ak (ng hg (bG BK309)); replace BK309 := bB BK309 hb; clear hb hbox hg; have hnb45 := NB309_310.out; have hnc45 := NB310_309.out; obtain ⟨hcz46_0, hcz46_1, hfz46_0, hfz46_1⟩ := bC2 BK309) | ((with_reducible refine gate_callee (f := 48) rfl ?_); refine gl (some 7) Try.func48 #[.agg #[.slice A0_0 l0_0.length c0_0, .slice A0_1 l0_1.length c0_1]] ?_; (with_reducible refine (impl_cloneDisk.calls _ _ l0_0 _ _ l0_1 t311 t314 _ ?side1 ?side2 ?side3 ?side4 A2.out).mono ?_); (case side1 => exact cG (Kd.C_below HR0_0.out HB.out)); (case side2 => exact HC0_0.out); (case side3 => exact cG (Kd.C_below HR0_1.out HB.out)); (case side4 => exact HC0_1.out); rintro e w47 ⟨v312, v315, rfl, ho0, ho1, hb⟩; refine ⟨_, rfl, ?_⟩; replace HO313 := ak (Kd.R_lower ho0 (below_size (lT HB (gC GE309 (gC GE310 gN))))); replace HO316 := ak (Kd.R_lower ho1 (below_size (lT HB (gC GE309 (gC GE310 gN))))); replace BK309 := bB BK309 hb; replace BK310 := bB BK310 hb; replace HB := ak (below_step (lT HB (gC GE309 (gC GE310 gN))) hb); (try clear hb); (try clear hk); (try clear ho0); (try clear ho1)) | ((with_reducible refine gate_dst (N := 3) rfl ?_); refine bx 3 #[.slice none 0 0, .slice none 0 0] 27 ?_; intro gb317 hg w48 hbox hb; replace HO313 := rB HO313 hb; replace HO316 := rB HO316 hb; replace BK317 := ak (hbox); replace GW317 := ak (bz hg (lT HB (gC GE309 (gC GE310 gN)))); replace GE317 := ak (bz hg (lT HB (gC GE309 (gC GE310 gN)))); replace HB := ak (below_step (lT HB (gC GE309 (gC GE310 gN))) hb); replace NB309_317 := ak (nl hg (bG BK309)); replace NB317_309 := ak (ng hg (bG BK309)); replace BK309 := bB BK309 hb; replace NB310_317 := ak (nl hg (bG BK310)); replace NB317_310 := ak (ng hg (bG BK310)); replace BK310 := bB BK310 hb; clear hb hbox hg; obtain ⟨Ao49, co49, eo49⟩ := Kd.R_slice HO313.out; subst eo49; have hnb50 := NB317_309.out; have hnc50 := NB309_317.out; have hnb51 := NB317_310.out; have hnc51 := NB310_317.out; obtain ⟨hcz52_0, hcz52_1, hfz52_0, hfz52_1⟩ := bC2 BK317; obtain ⟨Ao53, co53, eo53⟩ := Kd.R_slice HO316.out; subst eo53; obtain ⟨hcz54_0, hcz54_1, hfz54_0, hfz54_1⟩ := bC2 BK309) | ((with_reducible refine gate_callee (f := 16) rfl ?_); refine gl (some 9) Try.func16 #[.agg #[.slice A0_0 l0_0.length c0_0, .slice A0_1 l0_1.length c0_1]] ?_; (with_reducible refine (impl_DiskOk.calls _ _ l0_0 _ _ l0_1 false _ ?side1 ?side2 ?side3 ?side4 A3.out).mono ?_); (case side1 => exact Kd.C_below HR0_0.out (lT HB (gC GE309 (gC GE310 (gC GE317 gN))))); (case side2 => exact HC0_0.out); (case side3 => exact Kd.C_below HR0_1.out (lT HB (gC GE309 (gC GE310 (gC GE317 gN))))); (case side4 => exact HC0_1.out); rintro e w55 ⟨rfl, hb⟩; refine ⟨_, rfl, ?_⟩; replace HO313 := ak (Kd.R_below (rT HO313 BK317 (by decide)) hb); replace HO316 := ak (Kd.R_below (rT HO316 BK317 (by decide)) hb); replace BK309 := ak (blk_below (bT BK309 (nC NB309_317 nN)) hb); replace BK310 := ak (blk_below (bT BK310 (nC NB310_317 nN)) hb); replace BK317 := ak (blk_below (g := gb317) (o := .cells #[.slice Ao49 t311.length co49, .slice Ao53 t314.length co53] 27 (0, 0)) (by (with_reducible repeat (first | refine blk_drewN ?_ _ | refine blk_drew ?_ | refine blk_alloc ?_ _)); refine blk_put (cs := #[.slice Ao49 t311.length co49, .slice none 0 0]) ?_ 1 _ rfl; (with_reducible repeat (first | refine blk_drewN ?_ _ | refine blk_drew ?_ | refine blk_alloc ?_ _)); refine blk_put (cs := #[.slice none 0 0, .slice none 0 0]) ?_ 0 _ rfl; (with_reducible repeat (first | refine blk_drewN ?_ _ | refine blk_drew ?_ | refine blk_alloc ?_ _)); exact BK317.out) hb); replace HB := ak (below_step (lT HB (gC GE309 (gC GE310 (gC GE317 gN)))) hb); (try clear hb); (try clear hk); obtain ⟨hcz56_0, hcz56_1, hfz56_0, hfz56_1⟩ := bC2 BK317; obtain ⟨hcz57_0, hcz57_1, hfz57_0, hfz57_1⟩ := bC2 BK310))
  refine bodyPost_ret (results_cell_row rfl _ _ gb310 27 #[.slice Ao49 t311.length co49, .slice Ao53 t314.length co53] (0, 0) _ rfl (by (with_reducible repeat (first | refine blk_drewN ?_ _ | refine blk_drew ?_ | refine blk_alloc ?_ _)); refine blk_put (cs := #[.slice Ao49 t311.length co49, .slice none 0 0]) ?_ 1 _ rfl; (with_reducible repeat (first | refine blk_drewN ?_ _ | refine blk_drew ?_ | refine blk_alloc ?_ _)); refine blk_put (cs := #[.slice none 0 0, .slice none 0 0]) ?_ 0 _ rfl; (with_reducible repeat (first | refine blk_drewN ?_ _ | refine blk_drew ?_ | refine blk_alloc ?_ _)); exact BK310.out) Try.underlying27 rfl (by kernel_rfl)) rfl ?_
  exact ⟨_, _, by first | rfl | (simp [errW_none, errW_some] <;> rfl) | (simp [*, errW_none, errW_some] <;> rfl), by (with_reducible repeat (first | apply Kd.R_alloc | apply Kd.R_drewN | apply Kd.R_drew)); exact Kd.R_mono (Kd.R_far (p := ⟨gb310, 1, none⟩) (Kd.R_far (p := ⟨gb310, 0, none⟩) (Kd.R_types HO313.out BK310.out (by decide)) (fun _ hk => hk.2) (.slice Ao49 t311.length co49)) (fun _ hk => hk.2) (.slice Ao53 t314.length co53)) (fun _ hk => trivial), by (with_reducible repeat (first | apply Kd.R_alloc | apply Kd.R_drewN | apply Kd.R_drew)); exact Kd.R_mono (Kd.R_far (p := ⟨gb310, 1, none⟩) (Kd.R_far (p := ⟨gb310, 0, none⟩) (Kd.R_types HO316.out BK310.out (by decide)) (fun _ hk => hk.2) (.slice Ao49 t311.length co49)) (fun _ hk => hk.2) (.slice Ao53 t314.length co53)) (fun _ hk => trivial), by exact lT HB (gC GE309 (gC GE310 (gC GE317 gN)))⟩

end Go.Proofs.Ytjpngldnkgofaaa.PFnCrashes
