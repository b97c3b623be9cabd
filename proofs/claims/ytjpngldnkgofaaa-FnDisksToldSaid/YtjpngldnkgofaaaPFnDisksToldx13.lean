-- Written for this claim by a program of mine (a turned copy of the kit's print): functions as plain Lean, and their contracts. Lean checks it.
import Derived.Test.YtjpngldnkgofaaaPFnDisksToldx0
import Derived.Test.YtjpngldnkgofaaaPFnDisksToldx2
import Derived.Test.YtjpngldnkgofaaaPFnDisksToldx12
import Derived.Test.YtjpngldnkgofaaaVFnDisksTold1
namespace Go.Proofs.Ytjpngldnkgofaaa.PFnDisksTold
open Go.RowKit Go.Proofs.YtjpngldnkgofaaaW.PrintWords Go.Proofs.YtjpngldnkgofaaaW.PrintLast Go.Proofs.YtjpngldnkgofaaaW.PrintMore
attribute [local go_sem] max2_int min2_int max_two min_two max_three min_three max_four min_four   -- for this text's walks alone
set_option linter.unusedVariables false
set_option linter.unusedSimpArgs false

/-! ### impl_DiskNew: function 34 -/
def impl_DiskNew.l0 : Nat → Int → Int → List ByteArray → Option (List ByteArray × (List (S63)) × Bool)
 | 0, _, _, _ => none
 | k + 1, x10, x11, x437000 => if x11 < x10 then ((strings_Repeat.f (⟨#[0]⟩ : ByteArray) 32).bind fun t437 => (if x437000.length < 8796093022208 then (impl_DiskNew.l0 k x10 (wrap64 (x11 + 1)) (x437000 ++ [t437])) else (none))) else (some (x437000, ([] : List (S63)), true))
def impl_DiskNew.f (k : Nat) (a0 : Int) : Option (List ByteArray × (List (S63)) × Bool) := (impl_in.f a0 1 100).bind fun t435 => (if t435 = true then (impl_DiskNew.l0 k a0 0 ([] : List ByteArray)) else (some (([] : List ByteArray), ([] : List (S63)), false)))
theorem impl_DiskNew.mono_l : ∀ k, (∀ y0 y1 y2, LeO (impl_DiskNew.l0 k y0 y1 y2) (impl_DiskNew.l0 (k + 1) y0 y1 y2))
 | 0 => fun _ _ _ r h => by simp [impl_DiskNew.l0] at h
 | k + 1 => by
  have ih0 := impl_DiskNew.mono_l k
  ·intro y0 y1 y2
   unfold impl_DiskNew.l0
   repeat' first
   | (with_reducible exact ih0 _ _ _)
   | (with_reducible exact LeO.refl _)
   | (with_reducible exact LeO.none _)
   | (with_reducible refine LeO.ite ?_ ?_)
   | (with_reducible refine LeO.bind ?_ (fun _ => ?_))
   | exact ih0 _ _ _
   | exact LeO.none _
   | refine LeO.ite ?_ ?_
   | refine LeO.bind ?_ (fun _ => ?_)
theorem impl_DiskNew.mono : ∀ a0 k, LeO (impl_DiskNew.f k a0) (impl_DiskNew.f (k + 1) a0) := by
 intro a0 k
 have ih0 := impl_DiskNew.mono_l k
 unfold impl_DiskNew.f
 repeat' first
   | (with_reducible exact ih0 _ _ _)
   | (with_reducible exact LeO.refl _)
   | (with_reducible exact LeO.none _)
   | (with_reducible refine LeO.ite ?_ ?_)
   | (with_reducible refine LeO.bind ?_ (fun _ => ?_))
   | exact ih0 _ _ _
   | exact LeO.none _
   | refine LeO.ite ?_ ?_
   | refine LeO.bind ?_ (fun _ => ?_)
set_option maxHeartbeats 8000000 in
set_option maxRecDepth 100000 in
theorem impl_DiskNew.calls (k : Nat) (a0 : Int) (r1 : List ByteArray) (r2 : List (S63)) (r3 : Bool) (w : World) (h : impl_DiskNew.f k a0 = some (r1, r2, r3)) :
  Calls Try.prog 34 #[.int .i64 a0] w fun e w' => ∃ v0_ v1_ : Value, e = .returned (.tuple #[.agg #[v0_, v1_], .bool r3]) ∧ Kd.R Kd.string 9 w' w.heap.size (fun _ => True) v0_ r1 ∧ Kd.R k63 63 w' w.heap.size (fun _ => True) v1_ r2 ∧ Below w.heap.size w w' := by
 have hu27 := Try.underlying27
 have HB := ak (Below.refl w.heap.size w)
 have H : ((impl_in.f a0 1 100).bind fun t435 => (if t435 = true then (impl_DiskNew.l0 k a0 0 ([] : List ByteArray)) else (some (([] : List ByteArray), ([] : List (S63)), false)))) = some (r1, r2, r3) := h
 clear h
 replace H := Option.bind_eq_some_iff.mp H
 obtain ⟨t435, A20, H⟩ := H
 replace H : (if t435 = true then (impl_DiskNew.l0 k a0 0 ([] : List ByteArray)) else (some (([] : List ByteArray), ([] : List (S63)), false))) = some (r1, r2, r3) := H
 have A2 := Aside0.mk A20
 clear A20
 by_cases c3 : t435 = true
 ·subst c3
  have H1 : (impl_DiskNew.l0 k a0 0 ([] : List ByteArray)) = some (r1, r2, r3) := by rw [if_pos rfl] at H; exact H
  clear H
  have H := H1
  clear H1
  have H' := Aside0.mk H
  clear H
  go_enter Try.func34, Try.ntmps34
  go_wp2_with (first | ((with_reducible refine gate_dst (N := 2) rfl ?_); refine bx 2 #[.slice none 0 0, .slice none 0 0] 27 ?_; intro gb434 hg w4 hbox hb; replace BK434 := ak (hbox); replace GW434 := ak (bz hg (lG HB)); replace GE434 := ak (bz hg (lG HB)); replace HB := lB HB hb; clear hb hbox hg) | ((with_reducible refine gate_callee (f := 50) rfl ?_); refine gl (some 6) Try.func50 #[.int .i64 a0, .int .i64 1, .int .i64 100] ?_; (with_reducible refine (impl_in.calls a0 1 100 true _ A2.out).mono ?_); rintro e w' ⟨rfl, ⟨nd, rfl⟩⟩; refine ⟨_, rfl, ?_⟩; (try (rw [drewN_self w4]; generalize hq_ : World.drewN w4 _ = w4; have n0_ : Aside0 (w4.heap[gb434]? = some (.cells #[.slice none 0 0, .slice none 0 0] 27 (0, 0))) := ⟨by rw [← hq_]; exact (bG BK434)⟩; have n1_ : Aside0 (Below w.heap.size w w4) := ⟨by rw [← hq_]; exact (lT HB (gC GE434 gN))⟩; clear BK434 HB hq_; have BK434 := n0_; have HB := n1_; clear n0_ n1_)); (try (have hy434_0 : w4.cell? ⟨gb434, 0, none⟩ = some (.slice none 0 0) := bc BK434 0; have hv434_0 := blk_frozen BK434.out 0; have hy434_1 : w4.cell? ⟨gb434, 1, none⟩ = some (.slice none 0 0) := bc BK434 1; have hv434_1 := blk_frozen BK434.out 1))) | ((with_reducible refine gate_dst (N := 4) rfl ?_); refine bx 4 #[.slice none 0 0, .slice none 0 0] 27 ?_; intro gb436 hg w5 hbox hb; replace BK436 := ak (hbox); replace GW436 := ak (bz hg (lT HB (gC GE434 gN))); replace GE436 := ak (bz hg (lT HB (gC GE434 gN))); replace HB := ak (below_step (lT HB (gC GE434 gN)) hb); replace NB434_436 := ak (nl hg (bG BK434)); replace NB436_434 := ak (ng hg (bG BK434)); replace BK434 := bB BK434 hb; clear hb hbox hg; have hnb6 := NB436_434.out; have hnc6 := NB434_436.out; obtain ⟨hcz7_0, hcz7_1, hfz7_0, hfz7_1⟩ := bC2 BK436))
  go_loopg [11] k (fun kq v11 w' => ∃ (x11_1 : Int) (x437000_1 : List ByteArray) (u437000 : Value), v11 = .int .i64 x11_1 ∧ Aside0 (impl_DiskNew.l0 kq a0 x11_1 x437000_1 = some (r1, r2, r3)) ∧ Aside0 (kq ≤ k) ∧ Aside0 (Kd.R Kd.string 9 w' w.heap.size (fun _ => True) u437000 x437000_1) ∧ Aside0 (w'.heap[gb434]? = some (.cells #[(.slice none 0 0), (.slice none 0 0)] 27 (0, 0))) ∧ Aside0 (w'.heap[gb436]? = some (.cells #[u437000, (.slice none 0 0)] 27 (0, 0))) ∧ Aside0 (Below w.heap.size w w'))
  case atStart => exact ⟨(0), (([] : List ByteArray)), (.slice none 0 0), (by first | rfl | (simp; done) | (simp [*]; done)), H', ⟨Nat.le_refl _⟩, ⟨nil_⟩, ⟨by (with_reducible repeat (first | refine blk_drewN ?_ _ | refine blk_drew ?_ | refine blk_alloc ?_ _)); refine blk_far ?_ NB434_436.out _; (with_reducible repeat (first | refine blk_drewN ?_ _ | refine blk_drew ?_ | refine blk_alloc ?_ _)); refine blk_far ?_ NB434_436.out _; (with_reducible repeat (first | refine blk_drewN ?_ _ | refine blk_drew ?_ | refine blk_alloc ?_ _)); exact BK434.out⟩, ⟨bW BK436⟩, ⟨by exact lT HB (gC GE434 (gC GE436 gN))⟩⟩
  case round =>
   clear H'
   try clear p2
   try clear c3
   try clear c5
   try clear c6
   try clear hcz7_0
   try clear hcz7_1
   try clear hfz7_0
   try clear hfz7_1
   obtain ⟨x11_1, x437000_1, u437000, rfl, HA, HK1, HO_437000, BK434, BK436, HB⟩ := hrel
   cases gk with
   | zero => exact absurd HA.out (by simp [impl_DiskNew.l0])
   | succ k1 =>
    have H := HA.out
    clear HA
    simp only [impl_DiskNew.l0] at H
    by_cases c8 : x11_1 < a0
    ·rw [if_pos c8] at H
     have c8b0 : decide (x11_1 < a0) = true := decide_eq_true c8
     clear c8
     replace H := Option.bind_eq_some_iff.mp H
     obtain ⟨t437, A90, H⟩ := H
     replace H : (if x437000_1.length < 8796093022208 then (impl_DiskNew.l0 k1 a0 (wrap64 (x11_1 + 1)) (x437000_1 ++ [t437])) else (none)) = some (r1, r2, r3) := H
     have A9 := Aside0.mk A90
     clear A90
     by_cases c10 : x437000_1.length < 8796093022208
     ·rw [if_pos c10] at H
      have LMc10 := Aside0.mk c10
      clear c10
      obtain ⟨y438, hy438⟩ : ∃ y_ : List ByteArray, y_ = (x437000_1 ++ [t437]) := ⟨_, rfl⟩
      replace H : (impl_DiskNew.l0 k1 a0 (wrap64 (x11_1 + 1)) y438) = some (r1, r2, r3) := by first | (rw [hy438]; with_reducible exact H) | (have H2_ := (Option.bind_some _ _).symm.trans H; rw [hy438]; with_reducible exact H2_) | (have H2_ := (Option.bind_some _ _).symm.trans H; with_reducible exact H2_) | with_reducible exact H | (rw [hy438]; exact H) | exact H
      have Ny438 := Aside0.mk hy438
      clear hy438
      have H' := Aside0.mk H
      clear H
      try go_wp2
      replace HO_437000 := ak (Kd.R_drew HO_437000.out)
      replace BK434 := ak (blk_drew BK434.out)
      replace BK436 := ak (blk_drew BK436.out)
      replace HB := ak (below_drew1 HB.out)
      refine start_ (n := 7) (S := fun w' => w'.cell? ⟨gb436, 0, none⟩ = some (u437000) ∧ w'.cell? ⟨gb436, 1, none⟩ = some (.slice none 0 0)) (ds := [6]) #[f_,f_,f_,f_,f_,f_,f_] (by kernel_rfl) rfl rfl ⟨bc BK436 0, bc BK436 1⟩ (fun hHeld => ?_)
      generalize wr.drew = w11 at HO_437000 BK434 BK436 HB hHeld ⊢
      refine pure_ (i := 0) (N := some 13) (v := ?_) (a' := ?_) #[t_,f_,f_,f_,f_,f_,f_] rfl rfl (by kernel_rfl) (fun _ _ _ h => h) (Or.inl ⟨by rfl, ?_⟩) ?_ ?_
      rotate_left
      ·intro w'
       go_simp
       with_reducible rfl
      rotate_left
      ·simp only [Act.put, List.setIfInBounds_toArray, List.set_cons_zero, List.set_cons_succ, i64_w, i32_w]
       rfl
      refine take_ (i := 1) (N := some 14) (v := ?_) (a' := ?_) #[t_,t_,f_,f_,f_,f_,f_] rfl rfl (by kernel_rfl) (fun _ _ _ h => h) (Or.inl ⟨by rfl, ?_⟩) hHeld ?_ ?_
      rotate_left
      ·rintro w' ⟨s0, s1⟩
       go_simp
       with_reducible rfl
      rotate_left
      ·simp only [Act.put, List.setIfInBounds_toArray, List.set_cons_zero, List.set_cons_succ, i64_w, i32_w]
       rfl
      refine one_ (i := 2) (N := some 15) #[t_,t_,t_,f_,f_,f_,f_] rfl rfl (by kernel_rfl) (by decide) (fun K hK => ?_)
      refine goes_ Try.func63 (by kernel_rfl) rfl #[.string (⟨#[0]⟩ : ByteArray), .int .i64 32] (by rfl) rfl rfl (by (try simp only [List.map_toArray, List.map_cons, List.map_nil]); first | done | rfl | (simp only [List.length_drop, List.length_take]; rfl)) ?_
      with_reducible refine (strings_Repeat.calls (⟨#[0]⟩ : ByteArray) 32 t437 _ A9.out).mono ?_
      rintro e w12 ⟨rfl, hb⟩
      refine ⟨_, rfl, ?_⟩
      replace HO_437000 := rB HO_437000 hb
      replace BK434 := bB BK434 hb
      replace BK436 := bB BK436 hb
      replace HB := ak (below_step (lT HB (gC GE434 (gC GE436 gN))) hb)
      (try clear hb)
      (try clear hb2)
      (try clear hk)
      (try clear hi)
      refine hK.out _ _ ⟨bc BK436 0, bc BK436 1⟩ (fun hHeld => ?_)
      clear hK K
      refine nm ?_
      refine one_ (i := 3) (N := some 16) #[t_,t_,t_,t_,f_,f_,f_] rfl rfl (by kernel_rfl) (by decide) (fun K hK => ?_)
      refine value_ (w1 := ?_) (v := ?_) (by rfl) rfl ?_ ?_
      rotate_left 2
      ·go_simp
       constructor
       ·rfl
       ·rfl
      refine hK.out _ _ ⟨(blk_cell (blk_alloc BK436.out _) 0).trans rfl, (blk_cell (blk_alloc BK436.out _) 1).trans rfl⟩ (fun hHeld => ?_)
      clear hK K
      refine nm ?_
      refine one_ (i := 4) (N := some 17) #[t_,t_,t_,t_,t_,f_,f_] rfl rfl (by kernel_rfl) (by decide) (fun K hK => ?_)
      refine Kd.R_append_step Kd.string (w0 := w) w.heap.size (by rfl) (.tmp 14) (.tmp 16) 24 9 (.string ⟨#[]⟩) 16 rfl Try.underlying24 info9 rfl (by decide) (by omega) u437000 x437000_1 t437 [.string t437] (fun _ => True) (fun _ => False) rfl rfl ?aP (fun _ hk => hk.elim) ?aF ?aO ?aB ?aS ?aL ?_
      (case aP => exact rfl)
      (case aB => exact (lT HB (gC GE434 (gC GE436 gN))))
      (case aF => exact (fun _ _ => trivial))
      (case aO => exact (rG HO_437000))
      (case aS => exact (below_size (lT HB (gC GE434 (gC GE436 gN)))))
      (case aL => have := LMc10.out; omega)
      intro v439 w13 ho hb hg hat
      rw [← Ny438.out] at ho
      have n0_ := ak (blk_grown (g := gb434) (o := .cells #[.slice none 0 0, .slice none 0 0] 27 (0, 0)) (bG BK434) hg (Kd.R_ne HO_437000.out BK434.out (by decide)))
      have n1_ := ak (blk_grown (g := gb436) (o := .cells #[u437000, .slice none 0 0] 27 (0, 0)) (bG BK436) hg (Kd.R_ne HO_437000.out BK436.out (by decide)))
      have n2_ := ak (hb)
      have n3_ := ak (ho)
      clear BK434
      clear BK436
      clear HB
      clear HO_437000
      have BK434 := n0_
      have BK436 := n1_
      have HB := n2_
      have HO440 := n3_
      clear n0_ n1_ n2_ n3_
      clear ho hb hg hat
      obtain ⟨Ao14, co14, eo14⟩ := Kd.R_slice HO440.out
      (first | subst eo14 | (injection eo14 with f1_ f2_ f3_; have f4_ := f1_.symm; have f5_ := f3_.symm; clear f1_ f2_ f3_; subst f4_; subst f5_))
      refine hK.out _ _ ⟨bc BK436 0, bc BK436 1⟩ (fun hHeld => ?_)
      clear hK K
      refine nm ?_
      refine pure_ (i := 5) (N := some 18) (v := ?_) (a' := ?_) #[t_,t_,t_,t_,t_,t_,f_] rfl rfl (by kernel_rfl) (fun _ _ _ h => h) (Or.inl ⟨by rfl, ?_⟩) ?_ ?_
      rotate_left
      ·intro w'
       go_simp
       with_reducible rfl
      rotate_left
      ·simp only [Act.put, List.setIfInBounds_toArray, List.set_cons_zero, List.set_cons_succ, i64_w, i32_w]
       rfl
      refine last_ (i := 6) (N := none) #[t_,t_,t_,t_,t_,t_,t_] rfl rfl (by kernel_rfl) (by decide) (fun K hK => ?_)
      have hs15 : w13.cell? ⟨gb436, 0, none⟩ = some (u437000) := bc BK436 0
      have hfs15 := blk_frozen BK436.out 0
      have hns15_0 := NB434_436.out
      have hms15_0 := NB436_434.out
      refine skip_ (w1 := ?_) (by rfl) rfl ?_ ?_
      rotate_left
      ·go_simp
       rfl
      refine hK.out _ _ ?_
      clear hK K
      refine done_ (by kernel_rfl) ?_
      try go_wp2
      go_roundg k1
      case measure => have := HK1.out; omega
      case rel => exact ⟨(wrap64 (x11_1 + 1)), (y438), (.slice Ao14 y438.length co14), (by first | rfl | (simp; done) | (simp [*]; done)), H', ⟨by have := HK1.out; omega⟩, ⟨by exact Kd.R_mono (rT HO440 BK436 (by decide)) (fun _ hk => trivial)⟩, ⟨by (with_reducible repeat (first | refine blk_drewN ?_ _ | refine blk_drew ?_ | refine blk_alloc ?_ _)); refine blk_far ?_ NB434_436.out _; (with_reducible repeat (first | refine blk_drewN ?_ _ | refine blk_drew ?_ | refine blk_alloc ?_ _)); exact BK434.out⟩, ⟨bW BK436⟩, ⟨by exact lT HB (gC GE434 (gC GE436 gN))⟩⟩
     ·rw [if_neg c10] at H
      exact absurd H (by simp)
    ·rw [if_neg c8] at H
     have c8b0 : decide (x11_1 < a0) = false := decide_eq_false c8
     clear c8
     simp only [Option.some.injEq, Prod.mk.injEq] at H
     obtain ⟨rfl, rfl, rfl⟩ := H
     have hnb16 := NB436_434.out
     have hnc16 := NB434_436.out
     have hcz17_0 : wr.cell? ⟨gb436, 0, none⟩ = some (u437000) := bc BK436 0
     have hcz17_1 : wr.cell? ⟨gb436, 1, none⟩ = some (.slice none 0 0) := bc BK436 1
     have hfz17_0 := blk_frozen BK436.out 0
     have hfz17_1 := blk_frozen BK436.out 1
     obtain ⟨Ao18, co18, eo18⟩ := Kd.R_slice HO_437000.out
     subst eo18
     have hcz19_0 : wr.cell? ⟨gb434, 0, none⟩ = some (.slice none 0 0) := bc BK434 0
     have hcz19_1 : wr.cell? ⟨gb434, 1, none⟩ = some (.slice none 0 0) := bc BK434 1
     have hfz19_0 := blk_frozen BK434.out 0
     have hfz19_1 := blk_frozen BK434.out 1
     go_wp2
     refine bodyPost_ret (results_ct rfl _ _ gb434 27 #[.slice Ao18 x437000_1.length co18, .slice none 0 0] (0, 0) _ rfl (bW BK434) Try.underlying27 rfl (by kernel_rfl)) rfl ?_
     exact ⟨_, _, ew, by exact Kd.R_mono (rT HO_437000 BK434 (by decide)) (fun _ hk => trivial), nil_, by exact lT HB (gC GE434 (gC GE436 gN))⟩
 ·replace c3 := Bool.eq_false_iff.mpr c3
  subst c3
  have H1 : (some (([] : List ByteArray), ([] : List (S63)), false)) = some (r1, r2, r3) := by rw [if_neg (show ¬ (false = true) by decide)] at H; exact H
  clear H
  have H := H1
  clear H1
  simp only [Option.some.injEq, Prod.mk.injEq] at H
  obtain ⟨rfl, rfl, rfl⟩ := H
  go_enter Try.func34, Try.ntmps34
  go_wp2_with (first | ((with_reducible refine gate_dst (N := 2) rfl ?_); refine bx 2 #[.slice none 0 0, .slice none 0 0] 27 ?_; intro gb434 hg w20 hbox hb; replace BK434 := ak (hbox); replace GW434 := ak (bz hg (lG HB)); replace GE434 := ak (bz hg (lG HB)); replace HB := lB HB hb; clear hb hbox hg) | ((with_reducible refine gate_callee (f := 50) rfl ?_); refine gl (some 6) Try.func50 #[.int .i64 a0, .int .i64 1, .int .i64 100] ?_; (with_reducible refine (impl_in.calls a0 1 100 false _ A2.out).mono ?_); rintro e w' ⟨rfl, ⟨nd, rfl⟩⟩; refine ⟨_, rfl, ?_⟩; (try (rw [drewN_self w20]; generalize hq_ : World.drewN w20 _ = w20; have n0_ : Aside0 (w20.heap[gb434]? = some (.cells #[.slice none 0 0, .slice none 0 0] 27 (0, 0))) := ⟨by rw [← hq_]; exact (bG BK434)⟩; have n1_ : Aside0 (Below w.heap.size w w20) := ⟨by rw [← hq_]; exact (lT HB (gC GE434 gN))⟩; clear BK434 HB hq_; have BK434 := n0_; have HB := n1_; clear n0_ n1_)); (try (have hy434_0 : w20.cell? ⟨gb434, 0, none⟩ = some (.slice none 0 0) := bc BK434 0; have hv434_0 := blk_frozen BK434.out 0; have hy434_1 : w20.cell? ⟨gb434, 1, none⟩ = some (.slice none 0 0) := bc BK434 1; have hv434_1 := blk_frozen BK434.out 1)); obtain ⟨hcz21_0, hcz21_1, hfz21_0, hfz21_1⟩ := bC2 BK434))
  refine bodyPost_ret (results_ct rfl _ _ gb434 27 #[.slice none 0 0, .slice none 0 0] (0, 0) _ rfl (bW BK434) Try.underlying27 rfl (by kernel_rfl)) rfl ?_
  exact ⟨_, _, ew, nil_, nil_, by exact lT HB (gC GE434 gN)⟩

end Go.Proofs.Ytjpngldnkgofaaa.PFnDisksTold
