-- Written for this claim by a program of mine (a turned copy of the kit's print): functions as plain Lean, and their contracts. Lean checks it.
import Derived.Test.YtdnjjdmlmfoljaaPFnExactDiskNewx0
import Derived.Test.YtdnjjdmlmfoljaaPFnExactDiskNewx1
import Derived.Test.YtdnjjdmlmfoljaaPFnExactDiskNewx2
import Derived.Test.YtdnjjdmlmfoljaaPFnExactDiskNewx3
import Derived.Test.YtdnjjdmlmfoljaaVFnExactDiskNew1
namespace Go.Proofs.Ytdnjjdmlmfoljaa.PFnExactDiskNew
open Go.RowKit Go.Proofs.YtdnjjdmlmfoljaaW.PrintWords Go.Proofs.YtdnjjdmlmfoljaaW.PrintLast Go.Proofs.YtdnjjdmlmfoljaaW.PrintMore
attribute [local go_sem] max2_int min2_int max_two min_two max_three min_three max_four min_four   -- for this text's walks alone
set_option linter.unusedVariables false
set_option linter.unusedSimpArgs false

/-! ### laws_FnExactDiskNew: function 10 -/
mutual
def laws_FnExactDiskNew.j0 : Nat → Int → Bool → Bool → List ByteArray → List (S67) → List ByteArray → List (S67) → Option (Bool)
 | 0, _, _, _, _, _, _, _ => none
 | k + 1, x0, x4, x29, x163000, x163001, x171000, x171001 => if x29 = true then (some false) else ((laws_markDisk.f k x171000 x171001 1).bind fun bt172 => ((laws_heldDisk.f k bt172.2.1 bt172.2.2 1).bind fun t175 => (if t175 < 0 then (some false) else (if t175 = bt172.1 then ((impl_DiskNew.f k x0).bind fun bt176 => ((laws_eqDisk.f k bt176.1 bt176.2.1 x163000 x163001).bind fun t184 => (if t184 = true then (laws_FnExactDiskNew.j1 k bt172.1 (bt176.2.2 != x4) bt172.2.1 bt172.2.2) else (laws_FnExactDiskNew.j1 k bt172.1 true bt172.2.1 bt172.2.2)))) else (some false)))))
def laws_FnExactDiskNew.j1 : Nat → Int → Bool → List ByteArray → List (S67) → Option (Bool)
 | 0, _, _, _, _ => none
 | k + 1, x7, x54, x171000, x171001 => if x54 = true then (some false) else ((laws_heldDisk.f k x171000 x171001 1).bind fun t185 => (if t185 < 0 then (some false) else (if t185 = x7 then (some true) else (some false))))
end
def laws_FnExactDiskNew.f (k : Nat) (a0 : Int) : Option (Bool) := (spec_DiskNew.f k a0).bind fun bt155 => ((impl_DiskNew.f k a0).bind fun bt163 => ((laws_eqDisk.f k bt163.1 bt163.2.1 bt155.1 bt155.2.1).bind fun t171 => (if t171 = true then (laws_FnExactDiskNew.j0 k a0 bt155.2.2 (bt163.2.2 != bt155.2.2) bt155.1 bt155.2.1 bt163.1 bt163.2.1) else (laws_FnExactDiskNew.j0 k a0 bt155.2.2 true bt155.1 bt155.2.1 bt163.1 bt163.2.1))))
theorem laws_FnExactDiskNew.mono_l : ∀ k, (∀ y0 y1 y2 y3 y4 y5 y6, LeO (laws_FnExactDiskNew.j0 k y0 y1 y2 y3 y4 y5 y6) (laws_FnExactDiskNew.j0 (k + 1) y0 y1 y2 y3 y4 y5 y6)) ∧ (∀ y0 y1 y2 y3, LeO (laws_FnExactDiskNew.j1 k y0 y1 y2 y3) (laws_FnExactDiskNew.j1 (k + 1) y0 y1 y2 y3))
 | 0 => ⟨fun _ _ _ _ _ _ _ r h => by simp [laws_FnExactDiskNew.j0] at h, fun _ _ _ _ r h => by simp [laws_FnExactDiskNew.j1] at h⟩
 | k + 1 => by
  obtain ⟨ih0, ih1⟩ := laws_FnExactDiskNew.mono_l k
  refine ⟨?_, ?_⟩
  ·intro y0 y1 y2 y3 y4 y5 y6
   unfold laws_FnExactDiskNew.j0
   repeat' first
   | (with_reducible exact ih0 _ _ _ _ _ _ _)
   | (with_reducible exact ih1 _ _ _ _)
   | (with_reducible exact impl_DiskNew.mono _ _)
   | (with_reducible exact laws_eqDisk.mono _ _ _ _ _)
   | (with_reducible exact laws_heldDisk.mono _ _ _ _)
   | (with_reducible exact laws_markDisk.mono _ _ _ _)
   | (with_reducible exact spec_DiskNew.mono _ _)
   | (with_reducible exact LeO.refl _)
   | (with_reducible exact LeO.none _)
   | (with_reducible refine LeO.ite ?_ ?_)
   | (with_reducible refine LeO.bind ?_ (fun _ => ?_))
   | exact ih0 _ _ _ _ _ _ _
   | exact ih1 _ _ _ _
   | exact impl_DiskNew.mono _ _
   | exact laws_eqDisk.mono _ _ _ _ _
   | exact laws_heldDisk.mono _ _ _ _
   | exact laws_markDisk.mono _ _ _ _
   | exact spec_DiskNew.mono _ _
   | exact LeO.none _
   | refine LeO.ite ?_ ?_
   | refine LeO.bind ?_ (fun _ => ?_)
  ·intro y0 y1 y2 y3
   unfold laws_FnExactDiskNew.j1
   repeat' first
   | (with_reducible exact ih0 _ _ _ _ _ _ _)
   | (with_reducible exact ih1 _ _ _ _)
   | (with_reducible exact impl_DiskNew.mono _ _)
   | (with_reducible exact laws_eqDisk.mono _ _ _ _ _)
   | (with_reducible exact laws_heldDisk.mono _ _ _ _)
   | (with_reducible exact laws_markDisk.mono _ _ _ _)
   | (with_reducible exact spec_DiskNew.mono _ _)
   | (with_reducible exact LeO.refl _)
   | (with_reducible exact LeO.none _)
   | (with_reducible refine LeO.ite ?_ ?_)
   | (with_reducible refine LeO.bind ?_ (fun _ => ?_))
   | exact ih0 _ _ _ _ _ _ _
   | exact ih1 _ _ _ _
   | exact impl_DiskNew.mono _ _
   | exact laws_eqDisk.mono _ _ _ _ _
   | exact laws_heldDisk.mono _ _ _ _
   | exact laws_markDisk.mono _ _ _ _
   | exact spec_DiskNew.mono _ _
   | exact LeO.none _
   | refine LeO.ite ?_ ?_
   | refine LeO.bind ?_ (fun _ => ?_)
theorem laws_FnExactDiskNew.mono : ∀ a0 k, LeO (laws_FnExactDiskNew.f k a0) (laws_FnExactDiskNew.f (k + 1) a0) := by
 intro a0 k
 obtain ⟨ih0, ih1⟩ := laws_FnExactDiskNew.mono_l k
 unfold laws_FnExactDiskNew.f
 repeat' first
   | (with_reducible exact ih0 _ _ _ _ _ _ _)
   | (with_reducible exact ih1 _ _ _ _)
   | (with_reducible exact impl_DiskNew.mono _ _)
   | (with_reducible exact laws_eqDisk.mono _ _ _ _ _)
   | (with_reducible exact laws_heldDisk.mono _ _ _ _)
   | (with_reducible exact laws_markDisk.mono _ _ _ _)
   | (with_reducible exact spec_DiskNew.mono _ _)
   | (with_reducible exact LeO.refl _)
   | (with_reducible exact LeO.none _)
   | (with_reducible refine LeO.ite ?_ ?_)
   | (with_reducible refine LeO.bind ?_ (fun _ => ?_))
   | exact ih0 _ _ _ _ _ _ _
   | exact ih1 _ _ _ _
   | exact impl_DiskNew.mono _ _
   | exact laws_eqDisk.mono _ _ _ _ _
   | exact laws_heldDisk.mono _ _ _ _
   | exact laws_markDisk.mono _ _ _ _
   | exact spec_DiskNew.mono _ _
   | exact LeO.none _
   | refine LeO.ite ?_ ?_
   | refine LeO.bind ?_ (fun _ => ?_)
set_option maxHeartbeats 8000000 in
set_option maxRecDepth 100000 in
theorem laws_FnExactDiskNew.calls (k : Nat) (a0 : Int) (r : Bool) (w : World) (h : laws_FnExactDiskNew.f k a0 = some r) :
  Calls Try.prog 10 #[.int .i64 a0] w fun e w' => e = .returned (.bool r) ∧ Below w.heap.size w w' := by
 have hu30 := Try.underlying30
 have HB := ak (Below.refl w.heap.size w)
 have H : ((spec_DiskNew.f k a0).bind fun bt155 => ((impl_DiskNew.f k a0).bind fun bt163 => ((laws_eqDisk.f k bt163.1 bt163.2.1 bt155.1 bt155.2.1).bind fun t171 => (if t171 = true then (laws_FnExactDiskNew.j0 k a0 bt155.2.2 (bt163.2.2 != bt155.2.2) bt155.1 bt155.2.1 bt163.1 bt163.2.1) else (laws_FnExactDiskNew.j0 k a0 bt155.2.2 true bt155.1 bt155.2.1 bt163.1 bt163.2.1))))) = some r := h
 clear h
 replace H := Option.bind_eq_some_iff.mp H
 obtain ⟨⟨t155, t158, t161⟩, A20, H⟩ := H
 replace H : ((impl_DiskNew.f k a0).bind fun bt163 => ((laws_eqDisk.f k bt163.1 bt163.2.1 t155 t158).bind fun t171 => (if t171 = true then (laws_FnExactDiskNew.j0 k a0 t161 (bt163.2.2 != t161) t155 t158 bt163.1 bt163.2.1) else (laws_FnExactDiskNew.j0 k a0 t161 true t155 t158 bt163.1 bt163.2.1)))) = some r := H
 have A2 := Aside0.mk A20
 clear A20
 replace H := Option.bind_eq_some_iff.mp H
 obtain ⟨⟨t163, t166, t169⟩, A30, H⟩ := H
 replace H : ((laws_eqDisk.f k t163 t166 t155 t158).bind fun t171 => (if t171 = true then (laws_FnExactDiskNew.j0 k a0 t161 (t169 != t161) t155 t158 t163 t166) else (laws_FnExactDiskNew.j0 k a0 t161 true t155 t158 t163 t166))) = some r := H
 have A3 := Aside0.mk A30
 clear A30
 have HC4 := Aside0.mk H
 clear H
 go_enter Try.func10, Try.ntmps10
 go_upto_region 3 with (first | ((with_reducible refine gate_callee (f := 33) rfl ?_); refine gl (some 13) Try.func33 #[.int .i64 a0] ?_; (with_reducible refine (spec_DiskNew.calls k a0 t155 t158 t161 _ A2.out).mono ?_); rintro e w5 ⟨v156, v159, rfl, ho0, ho1, hb⟩; refine ⟨_, rfl, ?_⟩; replace HO157 := ak (Kd.R_lower ho0 (below_size (lG HB))); replace HO160 := ak (Kd.R_lower ho1 (below_size (lG HB))); replace HB := lB HB hb; (try clear hb); (try clear hk); (try clear ho0); (try clear ho1)) | ((with_reducible refine gate_dst (N := 3) rfl ?_); refine bx 3 #[.slice none 0 0, .slice none 0 0] 30 ?_; intro gb162 hg w6 hbox hb; replace HO157 := rB HO157 hb; replace HO160 := rB HO160 hb; replace BK162 := ak (hbox); replace GW162 := ak (bz hg (lG HB)); replace GE162 := ak (bz hg (lG HB)); replace HB := lB HB hb; clear hb hbox hg; obtain ⟨Ao7, co7, eo7⟩ := Kd.R_slice HO157.out; subst eo7; obtain ⟨hcz8_0, hcz8_1, hfz8_0, hfz8_1⟩ := bC2 BK162; obtain ⟨Ao9, co9, eo9⟩ := Kd.R_slice HO160.out; subst eo9) | ((with_reducible refine gate_callee (f := 34) rfl ?_); refine gl (some 18) Try.func34 #[.int .i64 a0] ?_; (with_reducible refine (impl_DiskNew.calls k a0 t163 t166 t169 _ A3.out).mono ?_); rintro e w10 ⟨v164, v167, rfl, ho0, ho1, hb⟩; refine ⟨_, rfl, ?_⟩; replace HO165 := ak (Kd.R_lower (Kd.R_new' ho0 (Kd.R_lt (rT HO157 BK162 (by decide)))) (below_size (lT HB (gC GE162 gN)))); replace HO157 := ak (Kd.R_elder' (rT HO157 BK162 (by decide)) (Kd.R_base ho0) hb); replace HO168 := ak (Kd.R_lower (Kd.R_new' ho1 (Kd.R_lt (rT HO160 BK162 (by decide)))) (below_size (lT HB (gC GE162 gN)))); replace HO160 := ak (Kd.R_elder' (rT HO160 BK162 (by decide)) (Kd.R_base ho1) hb); replace BK162 := ak (blk_below (g := gb162) (o := .cells #[.slice Ao7 t155.length co7, .slice Ao9 t158.length co9] 30 (0, 0)) (bW BK162) hb); replace HB := ak (below_step (lT HB (gC GE162 gN)) hb); (try clear hb); (try clear hk); (try clear ho0); (try clear ho1)) | ((with_reducible refine gate_dst (N := 5) rfl ?_); refine bx 5 #[.slice none 0 0, .slice none 0 0] 30 ?_; intro gb170 hg w11 hbox hb; replace HO157 := rB HO157 hb; replace HO160 := rB HO160 hb; replace HO165 := rB HO165 hb; replace HO168 := rB HO168 hb; replace BK170 := ak (hbox); replace GW170 := ak (bz hg (lT HB (gC GE162 gN))); replace GE170 := ak (bz hg (lT HB (gC GE162 gN))); replace HB := ak (below_step (lT HB (gC GE162 gN)) hb); replace NB162_170 := ak (nl hg (bG BK162)); replace NB170_162 := ak (ng hg (bG BK162)); replace BK162 := bB BK162 hb; clear hb hbox hg; obtain ⟨Ao12, co12, eo12⟩ := Kd.R_slice HO165.out; subst eo12; have hnb13 := NB170_162.out; have hnc13 := NB162_170.out; obtain ⟨hcz14_0, hcz14_1, hfz14_0, hfz14_1⟩ := bC2 BK170; obtain ⟨Ao15, co15, eo15⟩ := Kd.R_slice HO168.out; subst eo15))
 (try simp only [Act.put, List.setIfInBounds_toArray, List.set_cons_zero, List.set_cons_succ])
 go_cut [29] (fun v29 wc => ∃ (kq : Nat) (x29_3 : Bool), v29 = .bool x29_3 ∧ Aside0 (laws_FnExactDiskNew.j0 kq a0 t161 x29_3 t155 t158 t163 t166 = some r) ∧ Aside0 (kq ≤ k) ∧ Aside0 (Kd.R Kd.string 9 wc w.heap.size (fun k_ => some k_ ≠ ((.slice Ao12 t163.length co12) : Value).ownBlock) (.slice Ao7 t155.length co7) t155) ∧ Aside0 (Kd.R k67 67 wc w.heap.size (fun k_ => some k_ ≠ ((.slice Ao15 t166.length co15) : Value).ownBlock) (.slice Ao9 t158.length co9) t158) ∧ Aside0 (Kd.R Kd.string 9 wc w.heap.size (fun k_ => some k_ ≠ ((.slice Ao7 t155.length co7) : Value).ownBlock) (.slice Ao12 t163.length co12) t163) ∧ Aside0 (Kd.R k67 67 wc w.heap.size (fun k_ => some k_ ≠ ((.slice Ao9 t158.length co9) : Value).ownBlock) (.slice Ao15 t166.length co15) t166) ∧ Aside0 (wc.heap[gb162]? = some (.cells #[(.slice Ao7 t155.length co7), (.slice Ao9 t158.length co9)] 30 (0, 0))) ∧ Aside0 (wc.heap[gb170]? = some (.cells #[(.slice Ao12 t163.length co12), (.slice Ao15 t166.length co15)] 30 (0, 0))) ∧ Aside0 (Below w.heap.size w wc))
 case first =>
  have H := HC4.out
  clear HC4
  replace H := Option.bind_eq_some_iff.mp H
  obtain ⟨t171, A160, H⟩ := H
  replace H : (if t171 = true then (laws_FnExactDiskNew.j0 k a0 t161 (t169 != t161) t155 t158 t163 t166) else (laws_FnExactDiskNew.j0 k a0 t161 true t155 t158 t163 t166)) = some r := H
  have A16 := Aside0.mk A160
  clear A160
  by_cases c17 : t171 = true
  ·subst c17
   have H1 : (laws_FnExactDiskNew.j0 k a0 t161 (t169 != t161) t155 t158 t163 t166) = some r := by rw [if_pos rfl] at H; exact H
   clear H
   have H := H1
   clear H1
   have H' := Aside0.mk H
   clear H
   have hnb18 := NB170_162.out
   have hnc18 := NB162_170.out
   have hcz19_0 : w11.cell? ⟨gb170, 0, none⟩ = some (.slice none 0 0) := bc BK170 0
   have hcz19_1 : w11.cell? ⟨gb170, 1, none⟩ = some (.slice none 0 0) := bc BK170 1
   have hfz19_0 := blk_frozen BK170.out 0
   have hfz19_1 := blk_frozen BK170.out 1
   have hcz20_0 : w11.cell? ⟨gb162, 0, none⟩ = some (.slice Ao7 t155.length co7) := bc BK162 0
   have hcz20_1 : w11.cell? ⟨gb162, 1, none⟩ = some (.slice Ao9 t158.length co9) := bc BK162 1
   have hfz20_0 := blk_frozen BK162.out 0
   have hfz20_1 := blk_frozen BK162.out 1
   go_wp2_with (first | ((with_reducible refine gate_callee (f := 18) rfl ?_); refine gl (some 23) Try.func18 #[.agg #[.slice Ao12 t163.length co12, .slice Ao15 t166.length co15], .agg #[.slice Ao7 t155.length co7, .slice Ao9 t158.length co9]] ?_; (with_reducible refine (laws_eqDisk.calls k _ _ t163 _ _ t166 _ _ t155 _ _ t158 true _ ?side1 ?side2 ?side3 ?side4 ?side5 ?side6 ?side7 ?side8 A16.out).mono ?_); (case side1 => exact (Kd.R_reads' (rT HO165 BK170 (by decide))).2.2); (case side2 => exact (Kd.R_reads' HO165.out).2.1); (case side3 => exact (Kd.R_reads' (rT HO168 BK170 (by decide))).2.2); (case side4 => exact (Kd.R_reads' HO168.out).2.1); (case side5 => exact (Kd.R_reads' (rT HO157 BK170 (by decide))).2.2); (case side6 => exact (Kd.R_reads' HO157.out).2.1); (case side7 => exact (Kd.R_reads' (rT HO160 BK170 (by decide))).2.2); (case side8 => exact (Kd.R_reads' HO160.out).2.1); rintro e w21 ⟨rfl, hb⟩; refine ⟨_, rfl, ?_⟩; replace HO157 := ak (Kd.R_below (rT HO157 BK170 (by decide)) hb); replace HO160 := ak (Kd.R_below (rT HO160 BK170 (by decide)) hb); replace HO165 := ak (Kd.R_below (rT HO165 BK170 (by decide)) hb); replace HO168 := ak (Kd.R_below (rT HO168 BK170 (by decide)) hb); replace BK162 := ak (blk_below (bT BK162 (nC NB162_170 nN)) hb); replace BK170 := ak (blk_below (g := gb170) (o := .cells #[.slice Ao12 t163.length co12, .slice Ao15 t166.length co15] 30 (0, 0)) (bW BK170) hb); replace HB := ak (below_step (lT HB (gC GE162 (gC GE170 gN))) hb); (try clear hb); (try clear hk)))
   go_meet
   case rel => exact ⟨_, ((t169 != t161)), (by first | rfl | (simp; done) | (simp [*]; done)), H', ⟨by first | omega | exact Nat.le_refl _⟩, ⟨by (with_reducible repeat (first | apply Kd.R_alloc | apply Kd.R_drewN | apply Kd.R_drew)); exact Kd.R_mono HO157.out (fun _ hk => hk.2)⟩, ⟨by (with_reducible repeat (first | apply Kd.R_alloc | apply Kd.R_drewN | apply Kd.R_drew)); exact Kd.R_mono HO160.out (fun _ hk => hk.2)⟩, ⟨by (with_reducible repeat (first | apply Kd.R_alloc | apply Kd.R_drewN | apply Kd.R_drew)); exact Kd.R_mono HO165.out (fun _ hk => hk.2)⟩, ⟨by (with_reducible repeat (first | apply Kd.R_alloc | apply Kd.R_drewN | apply Kd.R_drew)); exact Kd.R_mono HO168.out (fun _ hk => hk.2)⟩, ⟨bG BK162⟩, ⟨bG BK170⟩, ⟨by exact lT HB (gC GE162 (gC GE170 gN))⟩⟩
  ·replace c17 := Bool.eq_false_iff.mpr c17
   subst c17
   have H1 : (laws_FnExactDiskNew.j0 k a0 t161 true t155 t158 t163 t166) = some r := by rw [if_neg (show ¬ (false = true) by decide)] at H; exact H
   clear H
   have H := H1
   clear H1
   have H' := Aside0.mk H
   clear H
   have hnb22 := NB170_162.out
   have hnc22 := NB162_170.out
   have hcz23_0 : w11.cell? ⟨gb170, 0, none⟩ = some (.slice none 0 0) := bc BK170 0
   have hcz23_1 : w11.cell? ⟨gb170, 1, none⟩ = some (.slice none 0 0) := bc BK170 1
   have hfz23_0 := blk_frozen BK170.out 0
   have hfz23_1 := blk_frozen BK170.out 1
   have hcz24_0 : w11.cell? ⟨gb162, 0, none⟩ = some (.slice Ao7 t155.length co7) := bc BK162 0
   have hcz24_1 : w11.cell? ⟨gb162, 1, none⟩ = some (.slice Ao9 t158.length co9) := bc BK162 1
   have hfz24_0 := blk_frozen BK162.out 0
   have hfz24_1 := blk_frozen BK162.out 1
   go_wp2_with (first | ((with_reducible refine gate_callee (f := 18) rfl ?_); refine gl (some 23) Try.func18 #[.agg #[.slice Ao12 t163.length co12, .slice Ao15 t166.length co15], .agg #[.slice Ao7 t155.length co7, .slice Ao9 t158.length co9]] ?_; (with_reducible refine (laws_eqDisk.calls k _ _ t163 _ _ t166 _ _ t155 _ _ t158 false _ ?side1 ?side2 ?side3 ?side4 ?side5 ?side6 ?side7 ?side8 A16.out).mono ?_); (case side1 => exact (Kd.R_reads' (rT HO165 BK170 (by decide))).2.2); (case side2 => exact (Kd.R_reads' HO165.out).2.1); (case side3 => exact (Kd.R_reads' (rT HO168 BK170 (by decide))).2.2); (case side4 => exact (Kd.R_reads' HO168.out).2.1); (case side5 => exact (Kd.R_reads' (rT HO157 BK170 (by decide))).2.2); (case side6 => exact (Kd.R_reads' HO157.out).2.1); (case side7 => exact (Kd.R_reads' (rT HO160 BK170 (by decide))).2.2); (case side8 => exact (Kd.R_reads' HO160.out).2.1); rintro e w25 ⟨rfl, hb⟩; refine ⟨_, rfl, ?_⟩; replace HO157 := ak (Kd.R_below (rT HO157 BK170 (by decide)) hb); replace HO160 := ak (Kd.R_below (rT HO160 BK170 (by decide)) hb); replace HO165 := ak (Kd.R_below (rT HO165 BK170 (by decide)) hb); replace HO168 := ak (Kd.R_below (rT HO168 BK170 (by decide)) hb); replace BK162 := ak (blk_below (bT BK162 (nC NB162_170 nN)) hb); replace BK170 := ak (blk_below (g := gb170) (o := .cells #[.slice Ao12 t163.length co12, .slice Ao15 t166.length co15] 30 (0, 0)) (bW BK170) hb); replace HB := ak (below_step (lT HB (gC GE162 (gC GE170 gN))) hb); (try clear hb); (try clear hk)))
   go_meet
   case rel => exact ⟨_, (true), (by first | rfl | (simp; done) | (simp [*]; done)), H', ⟨by first | omega | exact Nat.le_refl _⟩, ⟨by (with_reducible repeat (first | apply Kd.R_alloc | apply Kd.R_drewN | apply Kd.R_drew)); exact Kd.R_mono HO157.out (fun _ hk => hk.2)⟩, ⟨by (with_reducible repeat (first | apply Kd.R_alloc | apply Kd.R_drewN | apply Kd.R_drew)); exact Kd.R_mono HO160.out (fun _ hk => hk.2)⟩, ⟨by (with_reducible repeat (first | apply Kd.R_alloc | apply Kd.R_drewN | apply Kd.R_drew)); exact Kd.R_mono HO165.out (fun _ hk => hk.2)⟩, ⟨by (with_reducible repeat (first | apply Kd.R_alloc | apply Kd.R_drewN | apply Kd.R_drew)); exact Kd.R_mono HO168.out (fun _ hk => hk.2)⟩, ⟨bG BK162⟩, ⟨bG BK170⟩, ⟨by exact lT HB (gC GE162 (gC GE170 gN))⟩⟩
 case rest =>
  clear HC4
  try clear c1
  try clear c2
  try clear p2
  try clear c3
  try clear c10
  try clear c13
  try clear c17
  try clear c18
  try clear c22
  try clear hcz14_0
  try clear hcz14_1
  try clear hcz19_0
  try clear hcz19_1
  try clear hcz20_0
  try clear hcz20_1
  try clear hcz23_0
  try clear hcz23_1
  try clear hcz24_0
  try clear hcz24_1
  try clear hcz8_0
  try clear hcz8_1
  try clear hfz14_0
  try clear hfz14_1
  try clear hfz19_0
  try clear hfz19_1
  try clear hfz20_0
  try clear hfz20_1
  try clear hfz23_0
  try clear hfz23_1
  try clear hfz24_0
  try clear hfz24_1
  try clear hfz8_0
  try clear hfz8_1
  obtain ⟨kq, x29_3, rfl, HA, HJ3, HO_163000, HO_163001, HO_171000, HO_171001, BK162, BK170, HB⟩ := hcut
  cases kq with
  | zero => exact absurd HA.out (by simp [laws_FnExactDiskNew.j0])
  | succ kj3 =>
   have H := HA.out
   clear HA
   simp only [laws_FnExactDiskNew.j0] at H
   by_cases c26 : x29_3 = true
   ·subst c26
    have H1 : (some false) = some r := by rw [if_pos rfl] at H; exact H
    clear H
    have H := H1
    clear H1
    obtain rfl := Option.some.inj H
    go_wp2
    go_ret
    exact ⟨ew, by exact lT HB (gC GE162 (gC GE170 gN))⟩
   ·replace c26 := Bool.eq_false_iff.mpr c26
    subst c26
    have H1 : ((laws_markDisk.f kj3 t163 t166 1).bind fun bt172 => ((laws_heldDisk.f kj3 bt172.2.1 bt172.2.2 1).bind fun t175 => (if t175 < 0 then (some false) else (if t175 = bt172.1 then ((impl_DiskNew.f kj3 a0).bind fun bt176 => ((laws_eqDisk.f kj3 bt176.1 bt176.2.1 t155 t158).bind fun t184 => (if t184 = true then (laws_FnExactDiskNew.j1 kj3 bt172.1 (bt176.2.2 != t161) bt172.2.1 bt172.2.2) else (laws_FnExactDiskNew.j1 kj3 bt172.1 true bt172.2.1 bt172.2.2)))) else (some false))))) = some r := by rw [if_neg (show ¬ (false = true) by decide)] at H; exact H
    clear H
    have H := H1
    clear H1
    replace H := Option.bind_eq_some_iff.mp H
    obtain ⟨⟨t172, t173, t174⟩, A270, H⟩ := H
    replace H : ((laws_heldDisk.f kj3 t173 t174 1).bind fun t175 => (if t175 < 0 then (some false) else (if t175 = t172 then ((impl_DiskNew.f kj3 a0).bind fun bt176 => ((laws_eqDisk.f kj3 bt176.1 bt176.2.1 t155 t158).bind fun t184 => (if t184 = true then (laws_FnExactDiskNew.j1 kj3 t172 (bt176.2.2 != t161) t173 t174) else (laws_FnExactDiskNew.j1 kj3 t172 true t173 t174)))) else (some false)))) = some r := H
    have A27 := Aside0.mk A270
    clear A270
    replace H := Option.bind_eq_some_iff.mp H
    obtain ⟨t175, A280, H⟩ := H
    replace H : (if t175 < 0 then (some false) else (if t175 = t172 then ((impl_DiskNew.f kj3 a0).bind fun bt176 => ((laws_eqDisk.f kj3 bt176.1 bt176.2.1 t155 t158).bind fun t184 => (if t184 = true then (laws_FnExactDiskNew.j1 kj3 t172 (bt176.2.2 != t161) t173 t174) else (laws_FnExactDiskNew.j1 kj3 t172 true t173 t174)))) else (some false))) = some r := H
    have A28 := Aside0.mk A280
    clear A280
    by_cases c29 : t175 < 0
    ·rw [if_pos c29] at H
     have c29b0 : decide (t175 < 0) = true := decide_eq_true c29
     clear c29
     obtain rfl := Option.some.inj H
     have hnb30 := NB170_162.out
     have hnc30 := NB162_170.out
     have hcz31_0 : wc.cell? ⟨gb170, 0, none⟩ = some (.slice Ao12 t163.length co12) := bc BK170 0
     have hcz31_1 : wc.cell? ⟨gb170, 1, none⟩ = some (.slice Ao15 t166.length co15) := bc BK170 1
     have hfz31_0 := blk_frozen BK170.out 0
     have hfz31_1 := blk_frozen BK170.out 1
     go_wp2_with (first | ((with_reducible refine gate_callee (f := 29) rfl ?_); refine gl (some 32) Try.func29 #[.agg #[.slice Ao12 t163.length co12, .slice Ao15 t166.length co15], .int .i64 1] ?_; (with_reducible refine (laws_markDisk.calls kj3 (fun k_ => some k_ = (.slice Ao12 t163.length co12 : Value).ownBlock) (.slice Ao12 t163.length co12) t163 (fun k_ => some k_ = (.slice Ao15 t166.length co15 : Value).ownBlock) (.slice Ao15 t166.length co15) t166 1 t172 t173 t174 w _ ?side1 ?side2 ?side3 A27.out).mono ?_); (case side1 => exact lT HB (gC GE162 (gC GE170 gN))); (case side2 => exact Kd.R_tight rfl HO_171000.out); (case side3 => exact Kd.R_tight rfl HO_171001.out); rintro e w32 ⟨rfl, hy0, hy1, hb, hkp⟩; refine ⟨_, rfl, ?_⟩; replace HO_163000 := ak (Kd.R_mono (ok' := fun k_ => some k_ ≠ (.slice Ao12 t163.length co12 : Value).ownBlock) (Kd.R_keptB ((Kd.R_apart' HO_163000.out (Kd.R_typed HO_171001.out) (by decide))) hkp (fun k_ hk_ hs_ => Or.elim hs_ (fun e_ => (hk_.1) e_) (fun e_ => (hk_.2) e_))) (fun k_ hk_ => hk_.1.1)); replace HO_163001 := ak (Kd.R_mono (ok' := fun k_ => some k_ ≠ (.slice Ao15 t166.length co15 : Value).ownBlock) (Kd.R_keptB ((Kd.R_apart' HO_163001.out (Kd.R_typed HO_171000.out) (by decide))) hkp (fun k_ hk_ hs_ => Or.elim hs_ (fun e_ => (hk_.2) e_) (fun e_ => (hk_.1) e_))) (fun k_ hk_ => hk_.1.1)); replace BK162 := ak (blk_kept (bG BK162) hkp (fun hs_ => Or.elim hs_ (fun e_ => (fun e_ => (Kd.R_ne HO_171000.out BK162.out (by decide)) e_) e_) (fun e_ => (fun e_ => (Kd.R_ne HO_171001.out BK162.out (by decide)) e_) e_))); replace BK170 := ak (blk_kept (bG BK170) hkp (fun hs_ => Or.elim hs_ (fun e_ => (fun e_ => (Kd.R_ne HO_171000.out BK170.out (by decide)) e_) e_) (fun e_ => (fun e_ => (Kd.R_ne HO_171001.out BK170.out (by decide)) e_) e_))); replace HO_171000 := ak (Kd.R_reok rfl hy0 (fun k_ e_ => HO_171000.out.1 k_ e_)); replace HO_171001 := ak (Kd.R_reok rfl hy1 (fun k_ e_ => HO_171001.out.1 k_ e_)); replace HB := ak (hb); (try clear hb); (try clear hkp); (try clear hy0); (try clear hy1); obtain ⟨hcz33_0, hcz33_1, hfz33_0, hfz33_1⟩ := bC2 BK170) | ((with_reducible refine gate_callee (f := 30) rfl ?_); refine goesL_ (some 35) rfl rfl Try.func30 (by kernel_rfl) rfl #[.agg #[.slice Ao12 t173.length co12, .slice Ao15 t174.length co15], .int .i64 1] rfl (by (try simp only [List.map_toArray, List.map_cons, List.map_nil]); first | done | (rw [show t173.length = t163.length from (Kd.R_reads' HO_171000.out).1.symm, show t174.length = t166.length from (Kd.R_reads' HO_171001.out).1.symm] <;> rfl) | rfl | (simp only [List.length_drop, List.length_take]; rfl)) ?_; (with_reducible refine (laws_heldDisk.calls kj3 _ _ t173 _ _ t174 1 t175 _ ?side1 ?side2 ?side3 ?side4 A28.out).mono ?_); (case side1 => exact cG (Kd.R_reads' HO_171000.out).2.2); (case side2 => rw [show t173.length = t163.length from (Kd.R_reads' HO_171000.out).1.symm]; exact (Kd.R_reads' HO_171000.out).2.1); (case side3 => exact cG (Kd.R_reads' HO_171001.out).2.2); (case side4 => rw [show t174.length = t166.length from (Kd.R_reads' HO_171001.out).1.symm]; exact (Kd.R_reads' HO_171001.out).2.1); rintro e w34 ⟨rfl, hb⟩; refine ⟨_, rfl, ?_⟩; replace HO_163000 := rB HO_163000 hb; replace HO_163001 := rB HO_163001 hb; replace HO_171000 := rB HO_171000 hb; replace HO_171001 := rB HO_171001 hb; replace BK162 := bB BK162 hb; replace BK170 := bB BK170 hb; replace HB := ak (below_step (lT HB (gC GE162 (gC GE170 gN))) hb); (try clear hb); (try clear hk)))
     go_ret
     exact ⟨ew, by exact lT HB (gC GE162 (gC GE170 gN))⟩
    ·rw [if_neg c29] at H
     have c29b0 : decide (t175 < 0) = false := decide_eq_false c29
     clear c29
     by_cases c35 : t175 = t172
     ·rw [if_pos c35] at H
      have c35b0 : (t175 == t172) = true := beq_iff_eq.mpr c35
      have c35b1 : (t175 != t172) = false := bne_eq_false_iff_eq.mpr c35
      clear c35
      replace H := Option.bind_eq_some_iff.mp H
      obtain ⟨⟨t176, t179, t182⟩, A360, H⟩ := H
      replace H : ((laws_eqDisk.f kj3 t176 t179 t155 t158).bind fun t184 => (if t184 = true then (laws_FnExactDiskNew.j1 kj3 t172 (t182 != t161) t173 t174) else (laws_FnExactDiskNew.j1 kj3 t172 true t173 t174))) = some r := H
      have A36 := Aside0.mk A360
      clear A360
      have HC37 := Aside0.mk H
      clear H
      have hnb38 := NB170_162.out
      have hnc38 := NB162_170.out
      have hcz39_0 : wc.cell? ⟨gb170, 0, none⟩ = some (.slice Ao12 t163.length co12) := bc BK170 0
      have hcz39_1 : wc.cell? ⟨gb170, 1, none⟩ = some (.slice Ao15 t166.length co15) := bc BK170 1
      have hfz39_0 := blk_frozen BK170.out 0
      have hfz39_1 := blk_frozen BK170.out 1
      go_upto_region 14 with (first | ((with_reducible refine gate_callee (f := 29) rfl ?_); refine gl (some 32) Try.func29 #[.agg #[.slice Ao12 t163.length co12, .slice Ao15 t166.length co15], .int .i64 1] ?_; (with_reducible refine (laws_markDisk.calls kj3 (fun k_ => some k_ = (.slice Ao12 t163.length co12 : Value).ownBlock) (.slice Ao12 t163.length co12) t163 (fun k_ => some k_ = (.slice Ao15 t166.length co15 : Value).ownBlock) (.slice Ao15 t166.length co15) t166 1 t172 t173 t174 w _ ?side1 ?side2 ?side3 A27.out).mono ?_); (case side1 => exact lT HB (gC GE162 (gC GE170 gN))); (case side2 => exact Kd.R_tight rfl HO_171000.out); (case side3 => exact Kd.R_tight rfl HO_171001.out); rintro e w40 ⟨rfl, hy0, hy1, hb, hkp⟩; refine ⟨_, rfl, ?_⟩; replace HO_163000 := ak (Kd.R_mono (ok' := fun k_ => some k_ ≠ (.slice Ao12 t163.length co12 : Value).ownBlock) (Kd.R_keptB ((Kd.R_apart' HO_163000.out (Kd.R_typed HO_171001.out) (by decide))) hkp (fun k_ hk_ hs_ => Or.elim hs_ (fun e_ => (hk_.1) e_) (fun e_ => (hk_.2) e_))) (fun k_ hk_ => hk_.1.1)); replace HO_163001 := ak (Kd.R_mono (ok' := fun k_ => some k_ ≠ (.slice Ao15 t166.length co15 : Value).ownBlock) (Kd.R_keptB ((Kd.R_apart' HO_163001.out (Kd.R_typed HO_171000.out) (by decide))) hkp (fun k_ hk_ hs_ => Or.elim hs_ (fun e_ => (hk_.2) e_) (fun e_ => (hk_.1) e_))) (fun k_ hk_ => hk_.1.1)); replace BK162 := ak (blk_kept (bG BK162) hkp (fun hs_ => Or.elim hs_ (fun e_ => (fun e_ => (Kd.R_ne HO_171000.out BK162.out (by decide)) e_) e_) (fun e_ => (fun e_ => (Kd.R_ne HO_171001.out BK162.out (by decide)) e_) e_))); replace BK170 := ak (blk_kept (bG BK170) hkp (fun hs_ => Or.elim hs_ (fun e_ => (fun e_ => (Kd.R_ne HO_171000.out BK170.out (by decide)) e_) e_) (fun e_ => (fun e_ => (Kd.R_ne HO_171001.out BK170.out (by decide)) e_) e_))); replace HO_171000 := ak (Kd.R_reok rfl hy0 (fun k_ e_ => HO_171000.out.1 k_ e_)); replace HO_171001 := ak (Kd.R_reok rfl hy1 (fun k_ e_ => HO_171001.out.1 k_ e_)); replace HB := ak (hb); (try clear hb); (try clear hkp); (try clear hy0); (try clear hy1); obtain ⟨hcz41_0, hcz41_1, hfz41_0, hfz41_1⟩ := bC2 BK170) | ((with_reducible refine gate_callee (f := 30) rfl ?_); refine goesL_ (some 35) rfl rfl Try.func30 (by kernel_rfl) rfl #[.agg #[.slice Ao12 t173.length co12, .slice Ao15 t174.length co15], .int .i64 1] rfl (by (try simp only [List.map_toArray, List.map_cons, List.map_nil]); first | done | (rw [show t173.length = t163.length from (Kd.R_reads' HO_171000.out).1.symm, show t174.length = t166.length from (Kd.R_reads' HO_171001.out).1.symm] <;> rfl) | rfl | (simp only [List.length_drop, List.length_take]; rfl)) ?_; (with_reducible refine (laws_heldDisk.calls kj3 _ _ t173 _ _ t174 1 t175 _ ?side1 ?side2 ?side3 ?side4 A28.out).mono ?_); (case side1 => exact cG (Kd.R_reads' HO_171000.out).2.2); (case side2 => rw [show t173.length = t163.length from (Kd.R_reads' HO_171000.out).1.symm]; exact (Kd.R_reads' HO_171000.out).2.1); (case side3 => exact cG (Kd.R_reads' HO_171001.out).2.2); (case side4 => rw [show t174.length = t166.length from (Kd.R_reads' HO_171001.out).1.symm]; exact (Kd.R_reads' HO_171001.out).2.1); rintro e w42 ⟨rfl, hb⟩; refine ⟨_, rfl, ?_⟩; replace HO_163000 := rB HO_163000 hb; replace HO_163001 := rB HO_163001 hb; replace HO_171000 := rB HO_171000 hb; replace HO_171001 := rB HO_171001 hb; replace BK162 := bB BK162 hb; replace BK170 := bB BK170 hb; replace HB := ak (below_step (lT HB (gC GE162 (gC GE170 gN))) hb); (try clear hb); (try clear hk)) | ((with_reducible refine gate_callee (f := 34) rfl ?_); refine gl (some 43) Try.func34 #[.int .i64 a0] ?_; (with_reducible refine (impl_DiskNew.calls kj3 a0 t176 t179 t182 _ A36.out).mono ?_); rintro e w43 ⟨v177, v180, rfl, ho0, ho1, hb⟩; refine ⟨_, rfl, ?_⟩; replace HO178 := ak (Kd.R_lower (Kd.R_new' (Kd.R_new' ho0 (Kd.R_lt (rG HO_163000))) (Kd.R_lt (rG HO_171000))) (below_size (lT HB (gC GE162 (gC GE170 gN))))); replace HO_163000 := ak (Kd.R_elder' (rG HO_163000) (Kd.R_base ho0) hb); replace HO_171000 := ak (Kd.R_elder' (rG HO_171000) (Kd.R_base ho0) hb); replace HO181 := ak (Kd.R_lower (Kd.R_new' (Kd.R_new' ho1 (Kd.R_lt (rG HO_163001))) (Kd.R_lt (rG HO_171001))) (below_size (lT HB (gC GE162 (gC GE170 gN))))); replace HO_163001 := ak (Kd.R_elder' (rG HO_163001) (Kd.R_base ho1) hb); replace HO_171001 := ak (Kd.R_elder' (rG HO_171001) (Kd.R_base ho1) hb); replace BK162 := bB BK162 hb; replace BK170 := bB BK170 hb; replace HB := ak (below_step (lT HB (gC GE162 (gC GE170 gN))) hb); (try clear hb); (try clear hk); (try clear ho0); (try clear ho1)) | ((with_reducible refine gate_dst (N := 9) rfl ?_); refine bx 9 #[.slice none 0 0, .slice none 0 0] 30 ?_; intro gb183 hg w44 hbox hb; replace HO_163000 := rB HO_163000 hb; replace HO_163001 := rB HO_163001 hb; replace HO_171000 := rB HO_171000 hb; replace HO_171001 := rB HO_171001 hb; replace HO178 := rB HO178 hb; replace HO181 := rB HO181 hb; replace BK183 := ak (hbox); replace GW183 := ak (bz hg (lT HB (gC GE162 (gC GE170 gN)))); replace GE183 := ak (bz hg (lT HB (gC GE162 (gC GE170 gN)))); replace HB := ak (below_step (lT HB (gC GE162 (gC GE170 gN))) hb); replace NB162_183 := ak (nl hg (bG BK162)); replace NB183_162 := ak (ng hg (bG BK162)); replace BK162 := bB BK162 hb; replace NB170_183 := ak (nl hg (bG BK170)); replace NB183_170 := ak (ng hg (bG BK170)); replace BK170 := bB BK170 hb; clear hb hbox hg; obtain ⟨Ao45, co45, eo45⟩ := Kd.R_slice HO178.out; subst eo45; have hnb46 := NB183_162.out; have hnc46 := NB162_183.out; have hnb47 := NB183_170.out; have hnc47 := NB170_183.out; obtain ⟨hcz48_0, hcz48_1, hfz48_0, hfz48_1⟩ := bC2 BK183; obtain ⟨Ao49, co49, eo49⟩ := Kd.R_slice HO181.out; subst eo49))
      (try simp only [Act.put, List.setIfInBounds_toArray, List.set_cons_zero, List.set_cons_succ])
      go_cut [54] (fun v54 wc => ∃ (kq : Nat) (x54_36 : Bool), v54 = .bool x54_36 ∧ Aside0 (laws_FnExactDiskNew.j1 kq t172 x54_36 t173 t174 = some r) ∧ Aside0 (kq ≤ kj3) ∧ Aside0 (Kd.R Kd.string 9 wc w.heap.size (fun k_ => some k_ ≠ ((.slice Ao12 t163.length co12) : Value).ownBlock ∧ some k_ ≠ ((.slice Ao45 t176.length co45) : Value).ownBlock) (.slice Ao7 t155.length co7) t155) ∧ Aside0 (Kd.R k67 67 wc w.heap.size (fun k_ => some k_ ≠ ((.slice Ao15 t166.length co15) : Value).ownBlock ∧ some k_ ≠ ((.slice Ao49 t179.length co49) : Value).ownBlock) (.slice Ao9 t158.length co9) t158) ∧ Aside0 (Kd.R Kd.string 9 wc w.heap.size (fun k_ => some k_ ≠ ((.slice Ao7 t155.length co7) : Value).ownBlock ∧ some k_ ≠ ((.slice Ao45 t176.length co45) : Value).ownBlock) (.slice Ao12 t163.length co12) t173) ∧ Aside0 (Kd.R k67 67 wc w.heap.size (fun k_ => some k_ ≠ ((.slice Ao9 t158.length co9) : Value).ownBlock ∧ some k_ ≠ ((.slice Ao49 t179.length co49) : Value).ownBlock) (.slice Ao15 t166.length co15) t174) ∧ Aside0 (Kd.R Kd.string 9 wc w.heap.size (fun k_ => some k_ ≠ ((.slice Ao7 t155.length co7) : Value).ownBlock ∧ some k_ ≠ ((.slice Ao12 t163.length co12) : Value).ownBlock) (.slice Ao45 t176.length co45) t176) ∧ Aside0 (Kd.R k67 67 wc w.heap.size (fun k_ => some k_ ≠ ((.slice Ao9 t158.length co9) : Value).ownBlock ∧ some k_ ≠ ((.slice Ao15 t166.length co15) : Value).ownBlock) (.slice Ao49 t179.length co49) t179) ∧ Aside0 (wc.heap[gb162]? = some (.cells #[(.slice Ao7 t155.length co7), (.slice Ao9 t158.length co9)] 30 (0, 0))) ∧ Aside0 (wc.heap[gb170]? = some (.cells #[(.slice Ao12 t163.length co12), (.slice Ao15 t166.length co15)] 30 (0, 0))) ∧ Aside0 (wc.heap[gb183]? = some (.cells #[(.slice Ao45 t176.length co45), (.slice Ao49 t179.length co49)] 30 (0, 0))) ∧ Aside0 (Below w.heap.size w wc))
      case first =>
       have H := HC37.out
       clear HC37
       replace H := Option.bind_eq_some_iff.mp H
       obtain ⟨t184, A500, H⟩ := H
       replace H : (if t184 = true then (laws_FnExactDiskNew.j1 kj3 t172 (t182 != t161) t173 t174) else (laws_FnExactDiskNew.j1 kj3 t172 true t173 t174)) = some r := H
       have A50 := Aside0.mk A500
       clear A500
       by_cases c51 : t184 = true
       ·subst c51
        have H1 : (laws_FnExactDiskNew.j1 kj3 t172 (t182 != t161) t173 t174) = some r := by rw [if_pos rfl] at H; exact H
        clear H
        have H := H1
        clear H1
        have H' := Aside0.mk H
        clear H
        have hnb52 := NB183_162.out
        have hnc52 := NB162_183.out
        have hnb53 := NB183_170.out
        have hnc53 := NB170_183.out
        have hcz54_0 : w44.cell? ⟨gb183, 0, none⟩ = some (.slice none 0 0) := bc BK183 0
        have hcz54_1 : w44.cell? ⟨gb183, 1, none⟩ = some (.slice none 0 0) := bc BK183 1
        have hfz54_0 := blk_frozen BK183.out 0
        have hfz54_1 := blk_frozen BK183.out 1
        have hnb55 := NB162_170.out
        have hnc55 := NB170_162.out
        have hcz56_0 : w44.cell? ⟨gb162, 0, none⟩ = some (.slice Ao7 t155.length co7) := bc BK162 0
        have hcz56_1 : w44.cell? ⟨gb162, 1, none⟩ = some (.slice Ao9 t158.length co9) := bc BK162 1
        have hfz56_0 := blk_frozen BK162.out 0
        have hfz56_1 := blk_frozen BK162.out 1
        go_wp2_with (first | ((with_reducible refine gate_callee (f := 18) rfl ?_); refine gl (some 48) Try.func18 #[.agg #[.slice Ao45 t176.length co45, .slice Ao49 t179.length co49], .agg #[.slice Ao7 t155.length co7, .slice Ao9 t158.length co9]] ?_; (with_reducible refine (laws_eqDisk.calls kj3 _ _ t176 _ _ t179 _ _ t155 _ _ t158 true _ ?side1 ?side2 ?side3 ?side4 ?side5 ?side6 ?side7 ?side8 A50.out).mono ?_); (case side1 => exact (Kd.R_reads' (rT HO178 BK183 (by decide))).2.2); (case side2 => exact (Kd.R_reads' HO178.out).2.1); (case side3 => exact (Kd.R_reads' (rT HO181 BK183 (by decide))).2.2); (case side4 => exact (Kd.R_reads' HO181.out).2.1); (case side5 => exact (Kd.R_reads' (rT HO_163000 BK183 (by decide))).2.2); (case side6 => exact (Kd.R_reads' HO_163000.out).2.1); (case side7 => exact (Kd.R_reads' (rT HO_163001 BK183 (by decide))).2.2); (case side8 => exact (Kd.R_reads' HO_163001.out).2.1); rintro e w57 ⟨rfl, hb⟩; refine ⟨_, rfl, ?_⟩; replace HO_163000 := ak (Kd.R_below (rT HO_163000 BK183 (by decide)) hb); replace HO_163001 := ak (Kd.R_below (rT HO_163001 BK183 (by decide)) hb); replace HO_171000 := ak (Kd.R_below (rT HO_171000 BK183 (by decide)) hb); replace HO_171001 := ak (Kd.R_below (rT HO_171001 BK183 (by decide)) hb); replace HO178 := ak (Kd.R_below (rT HO178 BK183 (by decide)) hb); replace HO181 := ak (Kd.R_below (rT HO181 BK183 (by decide)) hb); replace BK162 := ak (blk_below (bT BK162 (nC NB162_183 nN)) hb); replace BK170 := ak (blk_below (bT BK170 (nC NB170_183 nN)) hb); replace BK183 := ak (blk_below (g := gb183) (o := .cells #[.slice Ao45 t176.length co45, .slice Ao49 t179.length co49] 30 (0, 0)) (bW BK183) hb); replace HB := ak (below_step (lT HB (gC GE162 (gC GE170 (gC GE183 gN)))) hb); (try clear hb); (try clear hk)))
        go_meet
        case rel => exact ⟨_, ((t182 != t161)), (by first | rfl | (simp; done) | (simp [*]; done)), H', ⟨by have := HJ3.out; first | omega | exact Nat.le_refl _⟩, ⟨by (with_reducible repeat (first | apply Kd.R_alloc | apply Kd.R_drewN | apply Kd.R_drew)); exact HO_163000.out⟩, ⟨by (with_reducible repeat (first | apply Kd.R_alloc | apply Kd.R_drewN | apply Kd.R_drew)); exact HO_163001.out⟩, ⟨by (with_reducible repeat (first | apply Kd.R_alloc | apply Kd.R_drewN | apply Kd.R_drew)); exact HO_171000.out⟩, ⟨by (with_reducible repeat (first | apply Kd.R_alloc | apply Kd.R_drewN | apply Kd.R_drew)); exact HO_171001.out⟩, ⟨by (with_reducible repeat (first | apply Kd.R_alloc | apply Kd.R_drewN | apply Kd.R_drew)); exact Kd.R_mono HO178.out (fun _ hk => ⟨hk.1.2, hk.2⟩)⟩, ⟨by (with_reducible repeat (first | apply Kd.R_alloc | apply Kd.R_drewN | apply Kd.R_drew)); exact Kd.R_mono HO181.out (fun _ hk => ⟨hk.1.2, hk.2⟩)⟩, ⟨bG BK162⟩, ⟨bG BK170⟩, ⟨bG BK183⟩, ⟨by exact lT HB (gC GE162 (gC GE170 (gC GE183 gN)))⟩⟩
       ·replace c51 := Bool.eq_false_iff.mpr c51
        subst c51
        have H1 : (laws_FnExactDiskNew.j1 kj3 t172 true t173 t174) = some r := by rw [if_neg (show ¬ (false = true) by decide)] at H; exact H
        clear H
        have H := H1
        clear H1
        have H' := Aside0.mk H
        clear H
        have hnb58 := NB183_162.out
        have hnc58 := NB162_183.out
        have hnb59 := NB183_170.out
        have hnc59 := NB170_183.out
        have hcz60_0 : w44.cell? ⟨gb183, 0, none⟩ = some (.slice none 0 0) := bc BK183 0
        have hcz60_1 : w44.cell? ⟨gb183, 1, none⟩ = some (.slice none 0 0) := bc BK183 1
        have hfz60_0 := blk_frozen BK183.out 0
        have hfz60_1 := blk_frozen BK183.out 1
        have hnb61 := NB162_170.out
        have hnc61 := NB170_162.out
        have hcz62_0 : w44.cell? ⟨gb162, 0, none⟩ = some (.slice Ao7 t155.length co7) := bc BK162 0
        have hcz62_1 : w44.cell? ⟨gb162, 1, none⟩ = some (.slice Ao9 t158.length co9) := bc BK162 1
        have hfz62_0 := blk_frozen BK162.out 0
        have hfz62_1 := blk_frozen BK162.out 1
        go_wp2_with (first | ((with_reducible refine gate_callee (f := 18) rfl ?_); refine gl (some 48) Try.func18 #[.agg #[.slice Ao45 t176.length co45, .slice Ao49 t179.length co49], .agg #[.slice Ao7 t155.length co7, .slice Ao9 t158.length co9]] ?_; (with_reducible refine (laws_eqDisk.calls kj3 _ _ t176 _ _ t179 _ _ t155 _ _ t158 false _ ?side1 ?side2 ?side3 ?side4 ?side5 ?side6 ?side7 ?side8 A50.out).mono ?_); (case side1 => exact (Kd.R_reads' (rT HO178 BK183 (by decide))).2.2); (case side2 => exact (Kd.R_reads' HO178.out).2.1); (case side3 => exact (Kd.R_reads' (rT HO181 BK183 (by decide))).2.2); (case side4 => exact (Kd.R_reads' HO181.out).2.1); (case side5 => exact (Kd.R_reads' (rT HO_163000 BK183 (by decide))).2.2); (case side6 => exact (Kd.R_reads' HO_163000.out).2.1); (case side7 => exact (Kd.R_reads' (rT HO_163001 BK183 (by decide))).2.2); (case side8 => exact (Kd.R_reads' HO_163001.out).2.1); rintro e w63 ⟨rfl, hb⟩; refine ⟨_, rfl, ?_⟩; replace HO_163000 := ak (Kd.R_below (rT HO_163000 BK183 (by decide)) hb); replace HO_163001 := ak (Kd.R_below (rT HO_163001 BK183 (by decide)) hb); replace HO_171000 := ak (Kd.R_below (rT HO_171000 BK183 (by decide)) hb); replace HO_171001 := ak (Kd.R_below (rT HO_171001 BK183 (by decide)) hb); replace HO178 := ak (Kd.R_below (rT HO178 BK183 (by decide)) hb); replace HO181 := ak (Kd.R_below (rT HO181 BK183 (by decide)) hb); replace BK162 := ak (blk_below (bT BK162 (nC NB162_183 nN)) hb); replace BK170 := ak (blk_below (bT BK170 (nC NB170_183 nN)) hb); replace BK183 := ak (blk_below (g := gb183) (o := .cells #[.slice Ao45 t176.length co45, .slice Ao49 t179.length co49] 30 (0, 0)) (bW BK183) hb); replace HB := ak (below_step (lT HB (gC GE162 (gC GE170 (gC GE183 gN)))) hb); (try clear hb); (try clear hk)))
        go_meet
        case rel => exact ⟨_, (true), (by first | rfl | (simp; done) | (simp [*]; done)), H', ⟨by have := HJ3.out; first | omega | exact Nat.le_refl _⟩, ⟨by (with_reducible repeat (first | apply Kd.R_alloc | apply Kd.R_drewN | apply Kd.R_drew)); exact HO_163000.out⟩, ⟨by (with_reducible repeat (first | apply Kd.R_alloc | apply Kd.R_drewN | apply Kd.R_drew)); exact HO_163001.out⟩, ⟨by (with_reducible repeat (first | apply Kd.R_alloc | apply Kd.R_drewN | apply Kd.R_drew)); exact HO_171000.out⟩, ⟨by (with_reducible repeat (first | apply Kd.R_alloc | apply Kd.R_drewN | apply Kd.R_drew)); exact HO_171001.out⟩, ⟨by (with_reducible repeat (first | apply Kd.R_alloc | apply Kd.R_drewN | apply Kd.R_drew)); exact Kd.R_mono HO178.out (fun _ hk => ⟨hk.1.2, hk.2⟩)⟩, ⟨by (with_reducible repeat (first | apply Kd.R_alloc | apply Kd.R_drewN | apply Kd.R_drew)); exact Kd.R_mono HO181.out (fun _ hk => ⟨hk.1.2, hk.2⟩)⟩, ⟨bG BK162⟩, ⟨bG BK170⟩, ⟨bG BK183⟩, ⟨by exact lT HB (gC GE162 (gC GE170 (gC GE183 gN)))⟩⟩
      case rest =>
       clear HC37
       try clear c1
       try clear c2
       try clear p2
       try clear c3
       try clear c4
       try clear c5
       try clear c6
       try clear c10
       try clear c13
       try clear c17
       try clear c18
       try clear c22
       try clear c26
       try clear c29
       try clear c29b0
       try clear c30
       try clear c33
       try clear c34
       try clear c35
       try clear c35b0
       try clear c35b1
       try clear c38
       try clear c46
       try clear c47
       try clear c51
       try clear c52
       try clear c53
       try clear c55
       try clear c58
       try clear c59
       try clear c61
       try clear hcz14_0
       try clear hcz14_1
       try clear hcz19_0
       try clear hcz19_1
       try clear hcz20_0
       try clear hcz20_1
       try clear hcz23_0
       try clear hcz23_1
       try clear hcz24_0
       try clear hcz24_1
       try clear hcz31_0
       try clear hcz31_1
       try clear hcz33_0
       try clear hcz33_1
       try clear hcz39_0
       try clear hcz39_1
       try clear hcz41_0
       try clear hcz41_1
       try clear hcz48_0
       try clear hcz48_1
       try clear hcz54_0
       try clear hcz54_1
       try clear hcz56_0
       try clear hcz56_1
       try clear hcz60_0
       try clear hcz60_1
       try clear hcz62_0
       try clear hcz62_1
       try clear hcz8_0
       try clear hcz8_1
       try clear hfz14_0
       try clear hfz14_1
       try clear hfz19_0
       try clear hfz19_1
       try clear hfz20_0
       try clear hfz20_1
       try clear hfz23_0
       try clear hfz23_1
       try clear hfz24_0
       try clear hfz24_1
       try clear hfz31_0
       try clear hfz31_1
       try clear hfz33_0
       try clear hfz33_1
       try clear hfz39_0
       try clear hfz39_1
       try clear hfz41_0
       try clear hfz41_1
       try clear hfz48_0
       try clear hfz48_1
       try clear hfz54_0
       try clear hfz54_1
       try clear hfz56_0
       try clear hfz56_1
       try clear hfz60_0
       try clear hfz60_1
       try clear hfz62_0
       try clear hfz62_1
       try clear hfz8_0
       try clear hfz8_1
       try clear p2
       obtain ⟨kq, x54_36, rfl, HA, HJ36, HO_163000, HO_163001, HO_171000, HO_171001, HO_184000, HO_184001, BK162, BK170, BK183, HB⟩ := hcut
       have hl171000_36 := (Kd.R_reads' HO_171000.out).1
       rw [hl171000_36] at HO_171000
       (try simp only [hl171000_36])
       (try simp only [hl171000_36] at BK162)
       (try simp only [hl171000_36] at BK170)
       (try simp only [hl171000_36] at BK183)
       (try simp only [hl171000_36] at HO_163000)
       (try simp only [hl171000_36] at HO_163001)
       (try simp only [hl171000_36] at HO_171001)
       (try simp only [hl171000_36] at HO_184000)
       (try simp only [hl171000_36] at HO_184001)
       have hl171001_36 := (Kd.R_reads' HO_171001.out).1
       rw [hl171001_36] at HO_171001
       (try simp only [hl171001_36])
       (try simp only [hl171001_36] at BK162)
       (try simp only [hl171001_36] at BK170)
       (try simp only [hl171001_36] at BK183)
       (try simp only [hl171001_36] at HO_163000)
       (try simp only [hl171001_36] at HO_163001)
       (try simp only [hl171001_36] at HO_171000)
       (try simp only [hl171001_36] at HO_184000)
       (try simp only [hl171001_36] at HO_184001)
       cases kq with
       | zero => exact absurd HA.out (by simp [laws_FnExactDiskNew.j1])
       | succ kj36 =>
        have H := HA.out
        clear HA
        simp only [laws_FnExactDiskNew.j1] at H
        by_cases c64 : x54_36 = true
        ·subst c64
         have H1 : (some false) = some r := by rw [if_pos rfl] at H; exact H
         clear H
         have H := H1
         clear H1
         obtain rfl := Option.some.inj H
         go_wp2
         go_ret
         exact ⟨ew, by exact lT HB (gC GE162 (gC GE170 (gC GE183 gN)))⟩
        ·replace c64 := Bool.eq_false_iff.mpr c64
         subst c64
         have H1 : ((laws_heldDisk.f kj36 t173 t174 1).bind fun t185 => (if t185 < 0 then (some false) else (if t185 = t172 then (some true) else (some false)))) = some r := by rw [if_neg (show ¬ (false = true) by decide)] at H; exact H
         clear H
         have H := H1
         clear H1
         replace H := Option.bind_eq_some_iff.mp H
         obtain ⟨t185, A650, H⟩ := H
         replace H : (if t185 < 0 then (some false) else (if t185 = t172 then (some true) else (some false))) = some r := H
         have A65 := Aside0.mk A650
         clear A650
         by_cases c66 : t185 < 0
         ·rw [if_pos c66] at H
          have c66b0 : decide (t185 < 0) = true := decide_eq_true c66
          clear c66
          obtain rfl := Option.some.inj H
          have hnb67 := NB170_162.out
          have hnc67 := NB162_170.out
          have hnb68 := NB170_183.out
          have hnc68 := NB183_170.out
          have hcz69_0 : wc.cell? ⟨gb170, 0, none⟩ = some (.slice Ao12 t173.length co12) := bc BK170 0
          have hcz69_1 : wc.cell? ⟨gb170, 1, none⟩ = some (.slice Ao15 t174.length co15) := bc BK170 1
          have hfz69_0 := blk_frozen BK170.out 0
          have hfz69_1 := blk_frozen BK170.out 1
          go_wp2_with (first | ((with_reducible refine gate_callee (f := 30) rfl ?_); refine gl (some 57) Try.func30 #[.agg #[.slice Ao12 t173.length co12, .slice Ao15 t174.length co15], .int .i64 1] ?_; (with_reducible refine (laws_heldDisk.calls kj36 _ _ t173 _ _ t174 1 t185 _ ?side1 ?side2 ?side3 ?side4 A65.out).mono ?_); (case side1 => exact cG (Kd.R_reads' HO_171000.out).2.2); (case side2 => exact (Kd.R_reads' HO_171000.out).2.1); (case side3 => exact cG (Kd.R_reads' HO_171001.out).2.2); (case side4 => exact (Kd.R_reads' HO_171001.out).2.1); rintro e w70 ⟨rfl, hb⟩; refine ⟨_, rfl, ?_⟩; replace HO_163000 := rB HO_163000 hb; replace HO_163001 := rB HO_163001 hb; replace HO_171000 := rB HO_171000 hb; replace HO_171001 := rB HO_171001 hb; replace HO_184000 := rB HO_184000 hb; replace HO_184001 := rB HO_184001 hb; replace BK162 := bB BK162 hb; replace BK170 := bB BK170 hb; replace BK183 := bB BK183 hb; replace HB := ak (below_step (lT HB (gC GE162 (gC GE170 (gC GE183 gN)))) hb); (try clear hb); (try clear hk)))
          go_ret
          exact ⟨ew, by exact lT HB (gC GE162 (gC GE170 (gC GE183 gN)))⟩
         ·rw [if_neg c66] at H
          have c66b0 : decide (t185 < 0) = false := decide_eq_false c66
          clear c66
          by_cases c71 : t185 = t172
          ·rw [if_pos c71] at H
           have c71b0 : (t185 == t172) = true := beq_iff_eq.mpr c71
           have c71b1 : (t185 != t172) = false := bne_eq_false_iff_eq.mpr c71
           clear c71
           obtain rfl := Option.some.inj H
           have hnb72 := NB170_162.out
           have hnc72 := NB162_170.out
           have hnb73 := NB170_183.out
           have hnc73 := NB183_170.out
           have hcz74_0 : wc.cell? ⟨gb170, 0, none⟩ = some (.slice Ao12 t173.length co12) := bc BK170 0
           have hcz74_1 : wc.cell? ⟨gb170, 1, none⟩ = some (.slice Ao15 t174.length co15) := bc BK170 1
           have hfz74_0 := blk_frozen BK170.out 0
           have hfz74_1 := blk_frozen BK170.out 1
           go_wp2_with (first | ((with_reducible refine gate_callee (f := 30) rfl ?_); refine gl (some 57) Try.func30 #[.agg #[.slice Ao12 t173.length co12, .slice Ao15 t174.length co15], .int .i64 1] ?_; (with_reducible refine (laws_heldDisk.calls kj36 _ _ t173 _ _ t174 1 t185 _ ?side1 ?side2 ?side3 ?side4 A65.out).mono ?_); (case side1 => exact cG (Kd.R_reads' HO_171000.out).2.2); (case side2 => exact (Kd.R_reads' HO_171000.out).2.1); (case side3 => exact cG (Kd.R_reads' HO_171001.out).2.2); (case side4 => exact (Kd.R_reads' HO_171001.out).2.1); rintro e w75 ⟨rfl, hb⟩; refine ⟨_, rfl, ?_⟩; replace HO_163000 := rB HO_163000 hb; replace HO_163001 := rB HO_163001 hb; replace HO_171000 := rB HO_171000 hb; replace HO_171001 := rB HO_171001 hb; replace HO_184000 := rB HO_184000 hb; replace HO_184001 := rB HO_184001 hb; replace BK162 := bB BK162 hb; replace BK170 := bB BK170 hb; replace BK183 := bB BK183 hb; replace HB := ak (below_step (lT HB (gC GE162 (gC GE170 (gC GE183 gN)))) hb); (try clear hb); (try clear hk)))
           go_ret
           exact ⟨ew, by exact lT HB (gC GE162 (gC GE170 (gC GE183 gN)))⟩
          ·rw [if_neg c71] at H
           have c71b0 : (t185 == t172) = false := beq_eq_false_iff_ne.mpr c71
           have c71b1 : (t185 != t172) = true := bne_iff_ne.mpr c71
           obtain rfl := Option.some.inj H
           have hnb76 := NB170_162.out
           have hnc76 := NB162_170.out
           have hnb77 := NB170_183.out
           have hnc77 := NB183_170.out
           have hcz78_0 : wc.cell? ⟨gb170, 0, none⟩ = some (.slice Ao12 t173.length co12) := bc BK170 0
           have hcz78_1 : wc.cell? ⟨gb170, 1, none⟩ = some (.slice Ao15 t174.length co15) := bc BK170 1
           have hfz78_0 := blk_frozen BK170.out 0
           have hfz78_1 := blk_frozen BK170.out 1
           go_wp2_with (first | ((with_reducible refine gate_callee (f := 30) rfl ?_); refine gl (some 57) Try.func30 #[.agg #[.slice Ao12 t173.length co12, .slice Ao15 t174.length co15], .int .i64 1] ?_; (with_reducible refine (laws_heldDisk.calls kj36 _ _ t173 _ _ t174 1 t185 _ ?side1 ?side2 ?side3 ?side4 A65.out).mono ?_); (case side1 => exact cG (Kd.R_reads' HO_171000.out).2.2); (case side2 => exact (Kd.R_reads' HO_171000.out).2.1); (case side3 => exact cG (Kd.R_reads' HO_171001.out).2.2); (case side4 => exact (Kd.R_reads' HO_171001.out).2.1); rintro e w79 ⟨rfl, hb⟩; refine ⟨_, rfl, ?_⟩; replace HO_163000 := rB HO_163000 hb; replace HO_163001 := rB HO_163001 hb; replace HO_171000 := rB HO_171000 hb; replace HO_171001 := rB HO_171001 hb; replace HO_184000 := rB HO_184000 hb; replace HO_184001 := rB HO_184001 hb; replace BK162 := bB BK162 hb; replace BK170 := bB BK170 hb; replace BK183 := bB BK183 hb; replace HB := ak (below_step (lT HB (gC GE162 (gC GE170 (gC GE183 gN)))) hb); (try clear hb); (try clear hk)))
           go_ret
           exact ⟨ew, by exact lT HB (gC GE162 (gC GE170 (gC GE183 gN)))⟩
     ·rw [if_neg c35] at H
      have c35b0 : (t175 == t172) = false := beq_eq_false_iff_ne.mpr c35
      have c35b1 : (t175 != t172) = true := bne_iff_ne.mpr c35
      obtain rfl := Option.some.inj H
      have hnb80 := NB170_162.out
      have hnc80 := NB162_170.out
      have hcz81_0 : wc.cell? ⟨gb170, 0, none⟩ = some (.slice Ao12 t163.length co12) := bc BK170 0
      have hcz81_1 : wc.cell? ⟨gb170, 1, none⟩ = some (.slice Ao15 t166.length co15) := bc BK170 1
      have hfz81_0 := blk_frozen BK170.out 0
      have hfz81_1 := blk_frozen BK170.out 1
      go_wp2_with (first | ((with_reducible refine gate_callee (f := 29) rfl ?_); refine gl (some 32) Try.func29 #[.agg #[.slice Ao12 t163.length co12, .slice Ao15 t166.length co15], .int .i64 1] ?_; (with_reducible refine (laws_markDisk.calls kj3 (fun k_ => some k_ = (.slice Ao12 t163.length co12 : Value).ownBlock) (.slice Ao12 t163.length co12) t163 (fun k_ => some k_ = (.slice Ao15 t166.length co15 : Value).ownBlock) (.slice Ao15 t166.length co15) t166 1 t172 t173 t174 w _ ?side1 ?side2 ?side3 A27.out).mono ?_); (case side1 => exact lT HB (gC GE162 (gC GE170 gN))); (case side2 => exact Kd.R_tight rfl HO_171000.out); (case side3 => exact Kd.R_tight rfl HO_171001.out); rintro e w82 ⟨rfl, hy0, hy1, hb, hkp⟩; refine ⟨_, rfl, ?_⟩; replace HO_163000 := ak (Kd.R_mono (ok' := fun k_ => some k_ ≠ (.slice Ao12 t163.length co12 : Value).ownBlock) (Kd.R_keptB ((Kd.R_apart' HO_163000.out (Kd.R_typed HO_171001.out) (by decide))) hkp (fun k_ hk_ hs_ => Or.elim hs_ (fun e_ => (hk_.1) e_) (fun e_ => (hk_.2) e_))) (fun k_ hk_ => hk_.1.1)); replace HO_163001 := ak (Kd.R_mono (ok' := fun k_ => some k_ ≠ (.slice Ao15 t166.length co15 : Value).ownBlock) (Kd.R_keptB ((Kd.R_apart' HO_163001.out (Kd.R_typed HO_171000.out) (by decide))) hkp (fun k_ hk_ hs_ => Or.elim hs_ (fun e_ => (hk_.2) e_) (fun e_ => (hk_.1) e_))) (fun k_ hk_ => hk_.1.1)); replace BK162 := ak (blk_kept (bG BK162) hkp (fun hs_ => Or.elim hs_ (fun e_ => (fun e_ => (Kd.R_ne HO_171000.out BK162.out (by decide)) e_) e_) (fun e_ => (fun e_ => (Kd.R_ne HO_171001.out BK162.out (by decide)) e_) e_))); replace BK170 := ak (blk_kept (bG BK170) hkp (fun hs_ => Or.elim hs_ (fun e_ => (fun e_ => (Kd.R_ne HO_171000.out BK170.out (by decide)) e_) e_) (fun e_ => (fun e_ => (Kd.R_ne HO_171001.out BK170.out (by decide)) e_) e_))); replace HO_171000 := ak (Kd.R_reok rfl hy0 (fun k_ e_ => HO_171000.out.1 k_ e_)); replace HO_171001 := ak (Kd.R_reok rfl hy1 (fun k_ e_ => HO_171001.out.1 k_ e_)); replace HB := ak (hb); (try clear hb); (try clear hkp); (try clear hy0); (try clear hy1); obtain ⟨hcz83_0, hcz83_1, hfz83_0, hfz83_1⟩ := bC2 BK170) | ((with_reducible refine gate_callee (f := 30) rfl ?_); refine goesL_ (some 35) rfl rfl Try.func30 (by kernel_rfl) rfl #[.agg #[.slice Ao12 t173.length co12, .slice Ao15 t174.length co15], .int .i64 1] rfl (by (try simp only [List.map_toArray, List.map_cons, List.map_nil]); first | done | (rw [show t173.length = t163.length from (Kd.R_reads' HO_171000.out).1.symm, show t174.length = t166.length from (Kd.R_reads' HO_171001.out).1.symm] <;> rfl) | rfl | (simp only [List.length_drop, List.length_take]; rfl)) ?_; (with_reducible refine (laws_heldDisk.calls kj3 _ _ t173 _ _ t174 1 t175 _ ?side1 ?side2 ?side3 ?side4 A28.out).mono ?_); (case side1 => exact cG (Kd.R_reads' HO_171000.out).2.2); (case side2 => rw [show t173.length = t163.length from (Kd.R_reads' HO_171000.out).1.symm]; exact (Kd.R_reads' HO_171000.out).2.1); (case side3 => exact cG (Kd.R_reads' HO_171001.out).2.2); (case side4 => rw [show t174.length = t166.length from (Kd.R_reads' HO_171001.out).1.symm]; exact (Kd.R_reads' HO_171001.out).2.1); rintro e w84 ⟨rfl, hb⟩; refine ⟨_, rfl, ?_⟩; replace HO_163000 := rB HO_163000 hb; replace HO_163001 := rB HO_163001 hb; replace HO_171000 := rB HO_171000 hb; replace HO_171001 := rB HO_171001 hb; replace BK162 := bB BK162 hb; replace BK170 := bB BK170 hb; replace HB := ak (below_step (lT HB (gC GE162 (gC GE170 gN))) hb); (try clear hb); (try clear hk)))
      go_ret
      exact ⟨ew, by exact lT HB (gC GE162 (gC GE170 gN))⟩

/-- THE ONE PURE STATEMENT of laws_FnExactDiskNew: yours. -/
def laws_FnExactDiskNew.Pure : Prop := ∀ (a0 : Int), (Lit.int .i64 a0).wf = true → ∃ k, laws_FnExactDiskNew.f k a0 = some true
theorem laws_FnExactDiskNew.walk (P : laws_FnExactDiskNew.Pure) (a0 : Int) (w : World) (w0 : (Lit.int .i64 a0).wf = true) :
  Calls Try.prog 10 #[.int .i64 a0] w fun e w' => e = .returned (.bool true) ∧ Below w.heap.size w w' := by
 obtain ⟨k, h⟩ := P a0 w0
 refine (laws_FnExactDiskNew.calls k a0 true w h).mono ?_
 rintro e w' ⟨rfl, hd⟩
 exact ⟨rfl, hd⟩

end Go.Proofs.Ytdnjjdmlmfoljaa.PFnExactDiskNew
