-- printed
import Derived.Test.YtagkjeldheiejaaPFnStatesToldx3
import Derived.Test.YtagkjeldheiejaaPFnStatesToldx8
import Derived.Test.YtagkjeldheiejaaPFnStatesToldx10
import Derived.Test.YtagkjeldheiejaaVFnStatesTold1
namespace Go.Proofs.Ytagkjeldheiejaa.PFnStatesTold
open Go.RowKit YtagkjeldheiejaaW.PrintWords YtagkjeldheiejaaW.PrintLast YtagkjeldheiejaaW.PrintMore
set_option linter.unusedVariables false
set_option linter.unusedSimpArgs false
attribute [local go_sem] max2_int min2_int max_two min_two max_three min_three max_four min_four
set_option maxHeartbeats 8000000
set_option maxRecDepth 100000
attribute [local go_sem high] eqA68
def impl_StateOf.l0 : Nat → List (S32) → List Int → Int → Int → List (S66) → Option ((List (S66)))
 | 0, _, _, _, _, _ => none
 | k + 1, a, b, c, d, e => if d < c then (if 0 ≤ d then (if d < (b.length : Int) then ((impl_boxThere.f a (rd b d)).bind fun bt222 => (if bt222.2.2.2.2.2.2.2.2.2 = true then ((impl_boxState.f k a bt222.1 bt222.2.1 bt222.2.2.1 bt222.2.2.2.1 bt222.2.2.2.2.1 bt222.2.2.2.2.2.1 bt222.2.2.2.2.2.2.1 bt222.2.2.2.2.2.2.2.1 bt222.2.2.2.2.2.2.2.2.1).bind fun bt233 => (if e.length < 1954687338268 then (impl_StateOf.l0 k a b c (wrap64 (d + 1)) (e ++ [(⟨bt233.1, bt233.2.1, bt233.2.2.1, bt233.2.2.2.1, bt233.2.2.2.2⟩ : S66)])) else (none))) else (impl_StateOf.l0 k a b c (wrap64 (d + 1)) e))) else (none)) else (none)) else (some e)
def impl_StateOf.f (k : Nat) (l0 : List (S32)) : Option ((List (S66))) := (impl_ItemsOk.f k l0).bind fun t216 => (if t216 = true then ((impl_numbers_valid.f l0).bind fun t218 => (impl_StateOf.l0 k l0 t218 (t218.length : Int) 0 ([] : List (S66)))) else (some ([] : List (S66))))
theorem impl_StateOf.mono_l : ∀ k, (∀ y0 y1 y2 y3 y4, LeO (impl_StateOf.l0 k y0 y1 y2 y3 y4) (impl_StateOf.l0 (k + 1) y0 y1 y2 y3 y4))
 | 0 => fun _ _ _ _ _ r h => by simp [impl_StateOf.l0] at h
 | k + 1 => by
  have ih0 := impl_StateOf.mono_l k
  ·intro y0 y1 y2 y3 y4
   unfold impl_StateOf.l0
   repeat' with_reducible first | exact ih0 _ _ _ _ _ | exact impl_ItemsOk.mono _ _ | exact impl_boxState.mono _ _ _ _ _ _ _ _ _ _ _ | exact LeO.refl _ | exact LeO.none _ | refine LeO.ite ?_ ?_ | refine LeO.bind ?_ (fun _ => ?_)
theorem impl_StateOf.mono : ∀ a0 k, LeO (impl_StateOf.f k a0) (impl_StateOf.f (k + 1) a0) := by
 intro a0 k
 have ih0 := impl_StateOf.mono_l k
 unfold impl_StateOf.f
 repeat' with_reducible first | exact ih0 _ _ _ _ _ | exact impl_ItemsOk.mono _ _ | exact impl_boxState.mono _ _ _ _ _ _ _ _ _ _ _ | exact LeO.refl _ | exact LeO.none _ | refine LeO.ite ?_ ?_ | refine LeO.bind ?_ (fun _ => ?_)
def impl_StateOf.T9 : Bool × List (List Nat × List Nat) := (true, [([], []), ([0], [0]), ([], []), ([], []), ([2, 3], [2, 3]), ([4], [4]), ([1, 5, 4], [1, 5]), ([0, 1, 2, 3, 4, 5, 6], []), ([7, 6, 6, 0, 1, 2, 3, 4, 5, 6], [6, 7])])
def impl_StateOf.B9 : List Nat := [0, 1, 0, 0, 12, 28, 63, 127, 255]
theorem impl_StateOf.tab9 : rtab .any (opsOf Try.f35 9) = impl_StateOf.T9 := by kernel_rfl
theorem impl_StateOf.bits9 : waitsOk impl_StateOf.T9.2 impl_StateOf.B9 = true := by kernel_rfl
theorem impl_StateOf.calls (k : Nat) (A0 : Option Addr) (c0 : Nat) (l0 : List (S32)) (r : List (S66)) (w : World) (hr0 : Kd.C k32 w A0 l0.length l0) (hc0 : l0.length ≤ c0) (h : impl_StateOf.f k l0 = some r) :
  Calls Try.prog 35 #[.slice A0 l0.length c0] w fun e w' => ∃ v0_ : Value, e = .returned (.agg #[v0_]) ∧ Kd.S k66 66 w' w.heap.size (fun _ => True) v0_ r ∧ Below w.heap.size w w' := by
 have hu60 := Try.underlying60
 have hu32 := Try.underlying32
 have HR0 := Aside0.mk hr0
 have HC0 := Aside0.mk hc0
 clear hr0 hc0
 have HB := ak (Below.refl w.heap.size w)
 have H := h
 clear h
 unfold impl_StateOf.f at H
 obtain ⟨t216, A2, H⟩ := eb H
 try dsimp only at H
 by_cases c3 : t216 = true
 ·subst c3
  rw [if_pos rfl] at H
  obtain ⟨t218, A4, H⟩ := eb H
  try dsimp only at H
  have H' := Aside0.mk H
  clear H
  go_enter Try.func35, Try.ntmps35
  go_wp2_with (first | ((with_reducible refine gate_dst (N := 2) rfl ?_); refine bx 2 #[.slice none 0 0] 60 ?_; intro gb215 hg w5 hbox hb; replace BK215 := ak (hbox); replace GE215 := ak (bz hg (lG HB)); replace HB := lB HB hb; clear hb hbox hg) | ((with_reducible refine gate_callee (f := 21) rfl ?_); refine gl (some 9) Try.func21 #[.slice A0 l0.length c0] ?_; (with_reducible refine (impl_ItemsOk.calls k _ _ l0 true _ ?side1 ?side2 A2.out).mono ?_); (case side1 => exact cG (Kd.C_below HR0.out HB.out)); (case side2 => exact HC0.out); rintro e w6 ⟨rfl, hb⟩; refine ⟨_, rfl, ?_⟩; replace BK215 := bB BK215 hb; replace HB := ak (below_step (lT HB (gC GE215 gN)) hb); (try clear hb); (try clear hk)) | ((with_reducible refine gate_dst (N := 3) rfl ?_); refine bx 3 #[.slice none 0 0] 60 ?_; intro gb217 hg w7 hbox hb; replace BK217 := ak (hbox); replace GW217 := ak (bz hg (lT HB (gC GE215 gN))); replace GE217 := ak (bz hg (lT HB (gC GE215 gN))); replace HB := ak (below_step (lT HB (gC GE215 gN)) hb); replace NB215_217 := ak (nl hg (bG BK215)); replace NB217_215 := ak (ng hg (bG BK215)); replace BK215 := bB BK215 hb; clear hb hbox hg; have hnb8 := NB217_215.out; have hnc8 := NB215_217.out; obtain ⟨hcz9_0, hfz9_0⟩ := bC1 BK217) | ((with_reducible refine gate_callee (f := 74) rfl ?_); refine gl (some 14) Try.func74 #[.slice A0 l0.length c0, .func (.func 75) #[] #[]] ?_; (with_reducible refine (impl_numbers_valid.calls _ _ l0 t218 _ ?side1 ?side2 A4.out).mono ?_); (case side1 => exact Kd.C_below HR0.out (lT HB (gC GE215 (gC GE217 gN)))); (case side2 => exact HC0.out); rintro e w10 ⟨v219, rfl, ho0, hb⟩; refine ⟨_, rfl, ?_⟩; replace HO220 := ak (Kd.R_lower ho0 (below_size (lT HB (gC GE215 (gC GE217 gN))))); replace BK215 := ak (blk_below (bT BK215 (nC NB215_217 nN)) hb); replace BK217 := ak (blk_below (g := gb217) (o := .cells #[.slice none 0 0] 60 (0, 0)) (bW BK217) hb); replace HB := ak (below_step (lT HB (gC GE215 (gC GE217 gN))) hb); (try clear hb); (try clear hk); (try clear ho0); obtain ⟨Ao11, co11, eo11⟩ := Kd.R_slice HO220.out; subst eo11))
  go_loopg [16] k (fun kq v16 w' => ∃ (x16_1 : Int) (x218000_1 : List (S66)) (u218000 : Value), v16 = .int .i64 x16_1 ∧ Aside0 (impl_StateOf.l0 kq l0 t218 (t218.length : Int) x16_1 x218000_1 = some r) ∧ Aside0 (kq ≤ k) ∧ Aside0 (Kd.R (Kd.int .i64) 3 w' w.heap.size (fun _ => True) (.slice Ao11 t218.length co11) t218) ∧ Aside0 (Kd.S k66 66 w' w.heap.size (fun _ => True) u218000 x218000_1) ∧ Aside0 (w'.heap[gb215]? = some (.cells #[(.slice none 0 0)] 60 (0, 0))) ∧ Aside0 (w'.heap[gb217]? = some (.cells #[u218000] 60 (0, 0))) ∧ Aside0 (Below w.heap.size w w'))
  case atStart => exact ⟨_, _, (.slice none 0 0), rr, H', ⟨Nat.le_refl _⟩, ⟨by (with_reducible repeat (first | apply Kd.R_alloc | apply Kd.R_drewN | apply Kd.R_drew)); exact HO220.out⟩, ⟨by first | exact Kd.S_nil _ _ _ _ _ | exact Kd.N_nil _ _ _ _ _ | exact Kd.V_nil _ _ _ _ _ | exact Kd.Q_nil _ _ _ _ _ | exact Kd.R_nil _ _ _ _ _⟩, ⟨bG BK215⟩, ⟨bG BK217⟩, ⟨by exact lT HB (gC GE215 (gC GE217 gN))⟩⟩
  case round =>
   clear H'
   try clear c2
   try clear p2
   try clear c3
   try clear c7
   try clear c8
   try clear hcz9_0
   try clear hfz9_0
   obtain ⟨x16_1, x218000_1, u218000, rfl, HA, HK1, HO_14, HO_218000, BK215, BK217, HB⟩ := hrel
   cases gk with
   | zero => exact absurd HA.out (by simp [impl_StateOf.l0])
   | succ k1 =>
    have H := HA.out
    clear HA
    simp only [impl_StateOf.l0] at H
    by_cases c12 : x16_1 < (t218.length : Int)
    ·rw [if_pos c12] at H
     have c12b0 := decide_eq_true c12
     clear c12
     by_cases c13 : 0 ≤ x16_1
     ·rw [if_pos c13] at H
      have c13b0 := decide_eq_true c13
      clear c13
      by_cases c14 : x16_1 < (t218.length : Int)
      ·rw [if_pos c14] at H
       have c14b0 := decide_eq_true c14
       clear c14
       obtain ⟨⟨t222, t223, t224, t225, t226, t227, t228, t229, t230, t231⟩, A15, H⟩ := eb H
       try dsimp only at H
       by_cases c16 : t231 = true
       ·subst c16
        rw [if_pos rfl] at H
        obtain ⟨⟨t233, t234, t235, t236, t237⟩, A17, H⟩ := eb H
        try dsimp only at H
        by_cases c18 : x218000_1.length < 1954687338268
        ·rw [if_pos c18] at H
         have LMc18 := Aside0.mk c18
         clear c18
         obtain ⟨y240, hy240⟩ : ∃ y_ : List (S66), y_ = (x218000_1 ++ [(⟨t233, t234, t235, t236, t237⟩ : S66)]) := ⟨_, rfl⟩
         replace H : (impl_StateOf.l0 k1 l0 t218 (t218.length : Int) (wrap64 (x16_1 + 1)) y240) = some r := by first | (rw [hy240]; with_reducible exact H) | (have H2_ := (Option.bind_some _ _).symm.trans H; rw [hy240]; with_reducible exact H2_) | (have H2_ := (Option.bind_some _ _).symm.trans H; with_reducible exact H2_) | with_reducible exact H | (rw [hy240]; exact H) | exact H
         have Ny240 := Aside0.mk hy240
         clear hy240
         have H' := Aside0.mk H
         clear H
         have p221 : 0 ≤ (x16_1 : Int) := oda
         have q221 : x16_1 < (t218.length : Int) := oda
         obtain ⟨ad221, e221, hx221_0⟩ := Kd.at_int (Kd.R_reads' HO_14.out).2.2 x16_1 p221 q221
         cases e221
         replace p221 := eq_true p221
         replace q221 := eq_true q221
         try go_wp2_with (first | ((with_reducible refine gate_callee (f := 76) rfl ?_); refine gl (some 23) Try.func76 #[.slice A0 l0.length c0, .int .i64 (rd t218 x16_1)] ?_; (with_reducible refine (impl_boxThere.calls _ _ l0 (rd t218 x16_1) t222 t223 t224 t225 t226 t227 t228 t229 t230 true _ ?side1 ?side2 A15.out).mono ?_); (case side1 => exact cG (Kd.C_below HR0.out HB.out)); (case side2 => exact HC0.out); rintro e w19 ⟨rfl, hb⟩; refine ⟨_, rfl, ?_⟩; replace HO_14 := rB HO_14 hb; replace HO_218000 := sB HO_218000 hb; replace BK215 := bB BK215 hb; replace BK217 := bB BK217 hb; replace HB := ak (below_step (lT HB (gC GE215 (gC GE217 gN))) hb); (try clear hb); (try clear hk)) | ((with_reducible refine gate_dst (N := 6) rfl ?_); refine b9 6 ?_; intro gb232 hg w20 hbox hb; replace HO_14 := rB HO_14 hb; replace HO_218000 := sB HO_218000 hb; replace BK232 := ak (hbox); replace GW232 := ak (bz hg (lT HB (gC GE215 (gC GE217 gN)))); replace GE232 := ak (bz hg (lT HB (gC GE215 (gC GE217 gN)))); replace HB := ak (below_step (lT HB (gC GE215 (gC GE217 gN))) hb); replace NB215_232 := ak (nl hg (bG BK215)); replace NB232_215 := ak (ng hg (bG BK215)); replace BK215 := bB BK215 hb; replace NB217_232 := ak (nl hg (bG BK217)); replace NB232_217 := ak (ng hg (bG BK217)); replace BK217 := bB BK217 hb; clear hb hbox hg; have hnb21 := NB232_215.out; have hnc21 := NB215_232.out; have hnb22 := NB232_217.out; have hnc22 := NB217_232.out; obtain ⟨_, _, _, _, _, _, _, _, _, _, _, _, _, _, _, _, _, _⟩ := bC9 BK232))
         obtain ⟨w24, eW_⟩ : ∃ w_, w_ = (((((((((w20.setCell ⟨gb232, 0, none⟩ (.int .i64 t222)).setCell ⟨gb232, 1, none⟩ (.int .i64 t223)).setCell ⟨gb232, 2, none⟩ (.int .i64 t224)).setCell ⟨gb232, 3, none⟩ (.int .i64 t225)).setCell ⟨gb232, 4, none⟩ (.int .i64 t226)).setCell ⟨gb232, 5, none⟩ (.int .i64 t227)).setCell ⟨gb232, 6, none⟩ (.string t228)).setCell ⟨gb232, 7, none⟩ (.string t229)).setCell ⟨gb232, 8, none⟩ (.string t230)) := ⟨_, rfl⟩
         have n0_ : Aside0 (Kd.R (Kd.int .i64) 3 w24 w.heap.size (fun _ => True) (.slice (some ad221) t218.length co11) t218) := by rw [eW_]; exact ⟨by exact Kd.R_mono (rT HO_14 BK232 (by decide)) (fun _ hk => trivial)⟩
         have n1_ : Aside0 (Kd.S k66 66 w24 w.heap.size (fun _ => True) u218000 x218000_1) := by rw [eW_]; exact ⟨by (with_reducible repeat (first | apply Kd.S_alloc | apply Kd.S_drewN | apply Kd.S_drew)); exact Kd.S_mono (Kd.S_far (p := ⟨gb232, 8, none⟩) (Kd.S_far (p := ⟨gb232, 7, none⟩) (Kd.S_far (p := ⟨gb232, 6, none⟩) (Kd.S_far (p := ⟨gb232, 5, none⟩) (Kd.S_far (p := ⟨gb232, 4, none⟩) (Kd.S_far (p := ⟨gb232, 3, none⟩) (Kd.S_far (p := ⟨gb232, 2, none⟩) (Kd.S_far (p := ⟨gb232, 1, none⟩) (Kd.S_far (p := ⟨gb232, 0, none⟩) (Kd.S_types HO_218000.out BK232.out (by decide)) (fun _ hk => hk.2) (.int .i64 t222)) (fun _ hk => hk.2) (.int .i64 t223)) (fun _ hk => hk.2) (.int .i64 t224)) (fun _ hk => hk.2) (.int .i64 t225)) (fun _ hk => hk.2) (.int .i64 t226)) (fun _ hk => hk.2) (.int .i64 t227)) (fun _ hk => hk.2) (.string t228)) (fun _ hk => hk.2) (.string t229)) (fun _ hk => hk.2) (.string t230)) (fun _ hk => trivial)⟩
         have n2_ : Aside0 (w24.heap[gb215]? = some (.cells #[.slice none 0 0] 60 (0, 0))) := by rw [eW_]; exact ⟨bF BK215 (nC NB215_232 nN)⟩
         have n3_ : Aside0 (w24.heap[gb217]? = some (.cells #[u218000] 60 (0, 0))) := by rw [eW_]; exact ⟨bF BK217 (nC NB217_232 nN)⟩
         have n4_ : Aside0 (w24.heap[gb232]? = some (.cells #[.int .i64 t222, .int .i64 t223, .int .i64 t224, .int .i64 t225, .int .i64 t226, .int .i64 t227, .string t228, .string t229, .string t230] 32 (0, 0))) := by rw [eW_]; exact ⟨bW BK232⟩
         have n5_ : Aside0 (Below w.heap.size w w24) := by rw [eW_]; exact ⟨by exact lT HB (gC GE215 (gC GE217 (gC GE232 gN)))⟩
         (try clear HO_14)
         (try clear HO_218000)
         (try clear BK215)
         (try clear BK217)
         (try clear BK232)
         (try clear HB)
         rw [← eW_];clear eW_
         have HO_14 := n0_
         have HO_218000 := n1_
         have BK215 := n2_
         have BK217 := n3_
         have BK232 := n4_
         have HB := n5_
         clear n0_ n1_ n2_ n3_ n4_ n5_
         replace HO_14 := ak (Kd.R_drew HO_14.out)
         replace HO_218000 := ak (Kd.S_drew HO_218000.out)
         replace BK215 := ak (blk_drew BK215.out)
         replace BK217 := ak (blk_drew BK217.out)
         replace BK232 := ak (blk_drew BK232.out)
         replace HB := ak (below_drew1 HB.out)
         refine start_ (n := 9) (S := fun w' => w'.cell? ⟨gb217, 0, none⟩ = some (u218000) ∧ w'.cell? ⟨gb232, 0, none⟩ = some (.int .i64 t222) ∧ w'.cell? ⟨gb232, 1, none⟩ = some (.int .i64 t223) ∧ w'.cell? ⟨gb232, 2, none⟩ = some (.int .i64 t224) ∧ w'.cell? ⟨gb232, 3, none⟩ = some (.int .i64 t225) ∧ w'.cell? ⟨gb232, 4, none⟩ = some (.int .i64 t226) ∧ w'.cell? ⟨gb232, 5, none⟩ = some (.int .i64 t227) ∧ w'.cell? ⟨gb232, 6, none⟩ = some (.string t228) ∧ w'.cell? ⟨gb232, 7, none⟩ = some (.string t229) ∧ w'.cell? ⟨gb232, 8, none⟩ = some (.string t230)) (ds := [8]) (fb 9 0) (by kernel_rfl) rfl rfl ⟨bc BK217 0, bc BK232 0, bc BK232 1, bc BK232 2, bc BK232 3, bc BK232 4, bc BK232 5, bc BK232 6, bc BK232 7, bc BK232 8⟩ (fun hHeld => ?_); refine with_tabW impl_StateOf.tab9 impl_StateOf.bits9 (fun HT_ HW_ => ?_)
         generalize w24.drew = w25 at HO_14 HO_218000 BK215 BK217 BK232 HB hHeld ⊢
         refine pu 0 27 (fb 9 1) HT_ ?_
         refine pu 2 29 (fb 9 5) HT_ ?_
         refine tk 1 28 (fb 9 7) HT_ HW_ hHeld ?_
         refine tk 3 30 (fb 9 15) HT_ HW_ hHeld ?_
         refine on 4 (some 31) (fb 9 31) HT_ (fun K hK => ?_)
         refine gs Try.func77 #[.slice A0 l0.length c0, .agg #[.int .i64 t222, .int .i64 t223, .int .i64 t224, .int .i64 t225, .int .i64 t226, .int .i64 t227, .string t228, .string t229, .string t230]] ?_
         with_reducible refine (impl_boxState.calls k1 _ _ l0 t222 t223 t224 t225 t226 t227 t228 t229 t230 t233 t234 t235 t236 t237 _ ?side1 ?side2 A17.out).mono ?_
         (case side1 => exact cG (Kd.C_below HR0.out HB.out))
         (case side2 => exact HC0.out)
         rintro e w26 ⟨v238, rfl, ho0, hb⟩
         refine ⟨_, rfl, ?_⟩
         replace HO_14 := rB HO_14 hb
         replace HO_218000 := ak (Kd.S_elder' (sG HO_218000) (Kd.R_base ho0) hb)
         replace HO239 := ak (Kd.R_lower ho0 (below_size (lT HB (gC GE215 (gC GE217 (gC GE232 gN))))))
         replace BK215 := bB BK215 hb
         replace BK217 := bB BK217 hb
         replace BK232 := bB BK232 hb
         replace HB := ak (below_step (lT HB (gC GE215 (gC GE217 (gC GE232 gN)))) hb)
         (try clear hb)
         (try clear hb2)
         (try clear hk)
         (try clear hi)
         (try clear ho0)
         obtain ⟨Ao28, co28, eo28⟩ := Kd.R_slice HO239.out
         (first | subst eo28 | (injection eo28 with f1_ f2_ f3_; have f4_ := f1_.symm; have f5_ := f3_.symm; clear f1_ f2_ f3_; subst f4_; subst f5_))
         refine hK.out _ _ ⟨bc BK217 0, bc BK232 0, bc BK232 1, bc BK232 2, bc BK232 3, bc BK232 4, bc BK232 5, bc BK232 6, bc BK232 7, bc BK232 8⟩ (fun hHeld => ?_)
         clear hK K
         refine nm ?_
         refine on 5 (some 32) (fb 9 63) HT_ (fun K hK => ?_)
         refine value_ (w1 := ?_) (v := ?_) (by rfl) rfl ?_ ?_
         rotate_left 2
         ·go_simp
          constructor
          ·rfl
          ·rfl
         refine hK.out _ _ ⟨(blk_cell (blk_alloc BK217.out _) 0).trans rfl, (blk_cell (blk_alloc BK232.out _) 0).trans rfl, (blk_cell (blk_alloc BK232.out _) 1).trans rfl, (blk_cell (blk_alloc BK232.out _) 2).trans rfl, (blk_cell (blk_alloc BK232.out _) 3).trans rfl, (blk_cell (blk_alloc BK232.out _) 4).trans rfl, (blk_cell (blk_alloc BK232.out _) 5).trans rfl, (blk_cell (blk_alloc BK232.out _) 6).trans rfl, (blk_cell (blk_alloc BK232.out _) 7).trans rfl, (blk_cell (blk_alloc BK232.out _) 8).trans rfl⟩ (fun hHeld => ?_)
         clear hK K
         refine nm ?_
         refine on 6 (some 33) (fb 9 127) HT_ (fun K hK => ?_)
         refine Kd.S_append_step k66 (w0 := w) w.heap.size (by rfl) (.tmp 28) (.tmp 32) 58 66 (.agg #[(.int .i64 0), (.string ⟨#[]⟩), (.string ⟨#[]⟩), (.int .i64 0), (.slice none 0 0)]) 72 rfl Try.underlying58 info66 rfl (by decide) (by omega) u218000 x218000_1 (⟨t233, t234, t235, t236, t237⟩ : S66) [.int .i64 t233, .string t234, .string t235, .int .i64 t236, .slice Ao28 t237.length co28] (fun _ => True) (fun k_ => some k_ = (.slice Ao28 t237.length co28 : Value).ownBlock) rfl rfl ?aP (fun k_ hk_ => ((Kd.R_mono (ok' := fun k_ => ((fun _ => True)) k_ ∧ some k_ ≠ (u218000 : Value).ownBlock) (Kd.R_apart' (HO239.out) (Kd.S_typed HO_218000.out) (by decide)) (fun k_ hk => ⟨trivial, hk.2⟩))).1 k_ hk_.symm) ?aF ?aO ?aB ?aS ?aL ?_
         (case aP => exact k66_mkM _ _ _ (⟨t233, t234, t235, t236, t237⟩ : S66) (Kd.R_mono (Kd.R_tight rfl (Kd.R_mono (ok' := fun k_ => ((fun _ => True)) k_ ∧ some k_ ≠ (u218000 : Value).ownBlock) (Kd.R_apart' (HO239.out) (Kd.S_typed HO_218000.out) (by decide)) (fun k_ hk => ⟨trivial, hk.2⟩))) (fun _ h_ => h_)))
         (case aB => exact (lT HB (gC GE215 (gC GE217 (gC GE232 gN)))))
         (case aF => exact (fun _ _ => trivial))
         (case aO => exact (by (with_reducible repeat (first | apply Kd.S_alloc | apply Kd.S_drewN | apply Kd.S_drew)); exact Kd.S_mono HO_218000.out (fun k_ hk => ⟨trivial, fun e_ => hk.2 e_⟩)))
         (case aS => exact (below_size (lT HB (gC GE215 (gC GE217 (gC GE232 gN))))))
         (case aL => have := LMc18.out; omega)
         intro v241 w27 ho hb hg hat
         rw [← Ny240.out] at ho
         have n0_ := ak (Kd.R_over' (rG HO_14) (Kd.S_typed (sG HO_218000)) (by decide) hg)
         have n1_ := ak (blk_grown (g := gb215) (o := .cells #[.slice none 0 0] 60 (0, 0)) (bG BK215) hg (Kd.S_ne HO_218000.out BK215.out (by decide)))
         have n2_ := ak (blk_grown (g := gb217) (o := .cells #[u218000] 60 (0, 0)) (bG BK217) hg (Kd.S_ne HO_218000.out BK217.out (by decide)))
         have n3_ := ak (blk_grown (g := gb232) (o := .cells #[.int .i64 t222, .int .i64 t223, .int .i64 t224, .int .i64 t225, .int .i64 t226, .int .i64 t227, .string t228, .string t229, .string t230] 32 (0, 0)) (bG BK232) hg (Kd.S_ne HO_218000.out BK232.out (by decide)))
         have n4_ := ak (hb)
         have n5_ := ak (ho)
         clear HO_14
         clear BK215
         clear BK217
         clear BK232
         clear HB
         clear HO_218000
         clear HO239
         have HO_14 := n0_
         have BK215 := n1_
         have BK217 := n2_
         have BK232 := n3_
         have HB := n4_
         have HO242 := n5_
         clear n0_ n1_ n2_ n3_ n4_ n5_
         clear ho hb hg hat
         obtain ⟨Ao29, co29, eo29⟩ := Kd.S_slice HO242.out
         (first | subst eo29 | (injection eo29 with f1_ f2_ f3_; have f4_ := f1_.symm; have f5_ := f3_.symm; clear f1_ f2_ f3_; subst f4_; subst f5_))
         refine hK.out _ _ ⟨bc BK217 0, bc BK232 0, bc BK232 1, bc BK232 2, bc BK232 3, bc BK232 4, bc BK232 5, bc BK232 6, bc BK232 7, bc BK232 8⟩ (fun hHeld => ?_)
         clear hK K
         refine nm ?_
         refine pu 7 34 (fb 9 255) HT_ ?_
         refine last_ (i := 8) (N := none) #[t_,t_,t_,t_,t_,t_,t_,t_,t_] rfl rfl (one_of HT_.out (by kernel_rfl)) (by decide) (fun K hK => ?_)
         have hs30 : w27.cell? ⟨gb217, 0, none⟩ = some (u218000) := bc BK217 0
         have hfs30 := blk_frozen BK217.out 0
         have hns30_0 := NB215_217.out
         have hns30_2 := NB232_217.out
         have hms30_0 := NB217_215.out
         have hms30_2 := NB217_232.out
         refine skip_ (w1 := ?_) (by rfl) rfl ?_ ?_
         rotate_left
         ·go_simp
          rfl
         refine hK.out _ _ ?_
         clear hK K
         refine done_ (done_of HT_.out (by kernel_rfl)) ?_
         try go_wp2
         go_roundg k1
         case measure => have := HK1.out; omega
         case rel => exact ⟨_, _, (.slice Ao29 y240.length co29), rr, H', ⟨by have := HK1.out; omega⟩, ⟨by exact Kd.R_mono (rT HO_14 BK217 (by decide)) (fun _ hk => trivial)⟩, ⟨by (with_reducible repeat (first | apply Kd.S_alloc | apply Kd.S_drewN | apply Kd.S_drew)); exact Kd.S_mono (Kd.S_far (p := ⟨gb217, 0, none⟩) (Kd.S_types HO242.out BK217.out (by decide)) (fun _ hk => hk.2) (.slice Ao29 y240.length co29)) (fun _ hk => trivial)⟩, ⟨bF BK215 (nC NB215_217 nN)⟩, ⟨bW BK217⟩, ⟨by exact lT HB (gC GE215 (gC GE217 (gC GE232 gN)))⟩⟩
        ·rw [if_neg c18] at H
         exact absurd H (by simp)
       ·replace c16 := Bool.eq_false_iff.mpr c16
        subst c16
        rw [if_neg (show ¬ (false = true) by decide)] at H
        have H' := Aside0.mk H
        clear H
        have p221 : 0 ≤ (x16_1 : Int) := oda
        have q221 : x16_1 < (t218.length : Int) := oda
        obtain ⟨ad221, e221, hx221_0⟩ := Kd.at_int (Kd.R_reads' HO_14.out).2.2 x16_1 p221 q221
        cases e221
        replace p221 := eq_true p221
        replace q221 := eq_true q221
        go_wp2_with (first | ((with_reducible refine gate_callee (f := 76) rfl ?_); refine gl (some 23) Try.func76 #[.slice A0 l0.length c0, .int .i64 (rd t218 x16_1)] ?_; (with_reducible refine (impl_boxThere.calls _ _ l0 (rd t218 x16_1) t222 t223 t224 t225 t226 t227 t228 t229 t230 false _ ?side1 ?side2 A15.out).mono ?_); (case side1 => exact cG (Kd.C_below HR0.out HB.out)); (case side2 => exact HC0.out); rintro e w31 ⟨rfl, hb⟩; refine ⟨_, rfl, ?_⟩; replace HO_14 := rB HO_14 hb; replace HO_218000 := sB HO_218000 hb; replace BK215 := bB BK215 hb; replace BK217 := bB BK217 hb; replace HB := ak (below_step (lT HB (gC GE215 (gC GE217 gN))) hb); (try clear hb); (try clear hk)) | ((with_reducible refine gate_dst (N := 6) rfl ?_); refine b9 6 ?_; intro gb232 hg w32 hbox hb; replace HO_14 := rB HO_14 hb; replace HO_218000 := sB HO_218000 hb; replace BK232 := ak (hbox); replace GW232 := ak (bz hg (lT HB (gC GE215 (gC GE217 gN)))); replace GE232 := ak (bz hg (lT HB (gC GE215 (gC GE217 gN)))); replace HB := ak (below_step (lT HB (gC GE215 (gC GE217 gN))) hb); replace NB215_232 := ak (nl hg (bG BK215)); replace NB232_215 := ak (ng hg (bG BK215)); replace BK215 := bB BK215 hb; replace NB217_232 := ak (nl hg (bG BK217)); replace NB232_217 := ak (ng hg (bG BK217)); replace BK217 := bB BK217 hb; clear hb hbox hg; have hnb33 := NB232_215.out; have hnc33 := NB215_232.out; have hnb34 := NB232_217.out; have hnc34 := NB217_232.out; obtain ⟨_, _, _, _, _, _, _, _, _, _, _, _, _, _, _, _, _, _⟩ := bC9 BK232))
        go_roundg k1
        case measure => have := HK1.out; omega
        case rel => exact ⟨_, _, (u218000), rr, H', ⟨by have := HK1.out; omega⟩, ⟨by exact Kd.R_mono (rT HO_14 BK232 (by decide)) (fun _ hk => trivial)⟩, ⟨by (with_reducible repeat (first | apply Kd.S_alloc | apply Kd.S_drewN | apply Kd.S_drew)); exact Kd.S_mono (Kd.S_far (p := ⟨gb232, 8, none⟩) (Kd.S_far (p := ⟨gb232, 7, none⟩) (Kd.S_far (p := ⟨gb232, 6, none⟩) (Kd.S_far (p := ⟨gb232, 5, none⟩) (Kd.S_far (p := ⟨gb232, 4, none⟩) (Kd.S_far (p := ⟨gb232, 3, none⟩) (Kd.S_far (p := ⟨gb232, 2, none⟩) (Kd.S_far (p := ⟨gb232, 1, none⟩) (Kd.S_far (p := ⟨gb232, 0, none⟩) (Kd.S_types HO_218000.out BK232.out (by decide)) (fun _ hk => hk.2) (.int .i64 t222)) (fun _ hk => hk.2) (.int .i64 t223)) (fun _ hk => hk.2) (.int .i64 t224)) (fun _ hk => hk.2) (.int .i64 t225)) (fun _ hk => hk.2) (.int .i64 t226)) (fun _ hk => hk.2) (.int .i64 t227)) (fun _ hk => hk.2) (.string t228)) (fun _ hk => hk.2) (.string t229)) (fun _ hk => hk.2) (.string t230)) (fun _ hk => trivial)⟩, ⟨bF BK215 (nC NB215_232 nN)⟩, ⟨bF BK217 (nC NB217_232 nN)⟩, ⟨by exact lT HB (gC GE215 (gC GE217 (gC GE232 gN)))⟩⟩
      ·rw [if_neg c14] at H
       exact absurd H (by simp)
     ·rw [if_neg c13] at H
      exact absurd H (by simp)
    ·rw [if_neg c12] at H
     have c12b0 := decide_eq_false c12
     clear c12
     obtain rfl := Option.some.inj H
     have hnb36 := NB217_215.out
     have hnc36 := NB215_217.out
     obtain ⟨_, _⟩ := bC1 BK217
     obtain ⟨Ao38, co38, eo38⟩ := Kd.S_slice HO_218000.out
     subst eo38
     obtain ⟨_, _⟩ := bC1 BK215
     go_wp2
     refine bodyPost_ret (results_cell_row rfl _ _ gb215 60 #[.slice Ao38 x218000_1.length co38] (0, 0) _ rfl (bW BK215) Try.underlying60 rfl (by kernel_rfl)) rfl ?_
     exact ⟨_, ew, by (with_reducible repeat (first | apply Kd.S_alloc | apply Kd.S_drewN | apply Kd.S_drew)); exact Kd.S_mono (Kd.S_far (p := ⟨gb215, 0, none⟩) (Kd.S_types HO_218000.out BK215.out (by decide)) (fun _ hk => hk.2) (.slice Ao38 x218000_1.length co38)) (fun _ hk => trivial), by exact lT HB (gC GE215 (gC GE217 gN))⟩
 ·replace c3 := Bool.eq_false_iff.mpr c3
  subst c3
  rw [if_neg (show ¬ (false = true) by decide)] at H
  obtain rfl := Option.some.inj H
  go_enter Try.func35, Try.ntmps35
  go_wp2_with (first | ((with_reducible refine gate_dst (N := 2) rfl ?_); refine bx 2 #[.slice none 0 0] 60 ?_; intro gb215 hg w40 hbox hb; replace BK215 := ak (hbox); replace GE215 := ak (bz hg (lG HB)); replace HB := lB HB hb; clear hb hbox hg) | ((with_reducible refine gate_callee (f := 21) rfl ?_); refine gl (some 9) Try.func21 #[.slice A0 l0.length c0] ?_; (with_reducible refine (impl_ItemsOk.calls k _ _ l0 false _ ?side1 ?side2 A2.out).mono ?_); (case side1 => exact cG (Kd.C_below HR0.out HB.out)); (case side2 => exact HC0.out); rintro e w41 ⟨rfl, hb⟩; refine ⟨_, rfl, ?_⟩; replace BK215 := bB BK215 hb; replace HB := ak (below_step (lT HB (gC GE215 gN)) hb); (try clear hb); (try clear hk); obtain ⟨_, _⟩ := bC1 BK215))
  refine bodyPost_ret (results_cell_row rfl _ _ gb215 60 #[.slice none 0 0] (0, 0) _ rfl (bW BK215) Try.underlying60 rfl (by kernel_rfl)) rfl ?_
  exact ⟨_, ew, by first | exact Kd.S_nil _ _ _ _ _ | exact Kd.N_nil _ _ _ _ _ | exact Kd.V_nil _ _ _ _ _ | exact Kd.Q_nil _ _ _ _ _ | exact Kd.R_nil _ _ _ _ _, by exact lT HB (gC GE215 gN)⟩
-- NOT PRINTED: function 78 (impl_Box_78)
def impl_Mail.l0 : Nat → List (S68) → List (S68) → Int → Int → Option (Bool)
 | 0, _, _, _, _ => none
 | k + 1, a, b, c, d => if d < c then (if 0 ≤ d then (if d < (a.length : Int) then (if d < (b.length : Int) then (if (!(((rd_T68 a d).f0) == ((rd_T68 b d).f0)) || (!(((rd_T68 a d).f1) == ((rd_T68 b d).f1)) || (!((((rd_T68 a d).f2).toList) == (((rd_T68 b d).f2).toList))))) = true then (some false) else (impl_Mail.l0 k a b c (wrap64 (d + 1)))) else (none)) else (none)) else (none)) else (some true)
def impl_Mail.f (k : Nat) (l0 : List (S68)) (l1 : List (S68)) : Option (Bool) := if (l0.length : Int) = (l1.length : Int) then (impl_Mail.l0 k l0 l1 (l0.length : Int) 0) else (some false)
theorem impl_Mail.mono_l : ∀ k, (∀ y0 y1 y2 y3, LeO (impl_Mail.l0 k y0 y1 y2 y3) (impl_Mail.l0 (k + 1) y0 y1 y2 y3))
 | 0 => fun _ _ _ _ r h => by simp [impl_Mail.l0] at h
 | k + 1 => by
  have ih0 := impl_Mail.mono_l k
  ·intro y0 y1 y2 y3
   unfold impl_Mail.l0
   repeat' with_reducible first | exact ih0 _ _ _ _ | exact LeO.refl _ | exact LeO.none _ | refine LeO.ite ?_ ?_ | refine LeO.bind ?_ (fun _ => ?_)
theorem impl_Mail.mono : ∀ a0 a1 k, LeO (impl_Mail.f k a0 a1) (impl_Mail.f (k + 1) a0 a1) := by
 intro a0 a1 k
 have ih0 := impl_Mail.mono_l k
 unfold impl_Mail.f
 repeat' with_reducible first | exact ih0 _ _ _ _ | exact LeO.refl _ | exact LeO.none _ | refine LeO.ite ?_ ?_ | refine LeO.bind ?_ (fun _ => ?_)
theorem impl_Mail.calls (k : Nat) (A0 : Option Addr) (c0 : Nat) (l0 : List (S68)) (A1 : Option Addr) (c1 : Nat) (l1 : List (S68)) (r : Bool) (w : World) (hr0 : Kd.C k68 w A0 l0.length l0) (hc0 : l0.length ≤ c0) (hr1 : Kd.C k68 w A1 l1.length l1) (hc1 : l1.length ≤ c1) (h : impl_Mail.f k l0 l1 = some r) :
  Calls Try.prog 113 #[.slice A0 l0.length c0, .slice A1 l1.length c1] w fun e w' => e = .returned (.bool r) ∧ Drawn0 w w' := by
 have hu68 := Try.underlying68
 have HR0 := Aside0.mk hr0
 have HC0 := Aside0.mk hc0
 clear hr0 hc0
 have HR1 := Aside0.mk hr1
 have HC1 := Aside0.mk hc1
 clear hr1 hc1
 have H := h
 clear h
 unfold impl_Mail.f at H
 by_cases c3 : (l0.length : Int) = (l1.length : Int)
 {
 rw [if_pos c3] at H
 have c3b0 := beq_iff_eq.mpr c3
 have c3b1 := bne_eq_false_iff_eq.mpr c3
 have c3b2 : (l0.length == l1.length) = true := by first | simpa using c3 | (simp at c3 ⊢; omega)
 clear c3
 have H' := Aside0.mk H
 clear H
 go_enter Try.func113, Try.ntmps113
 go_wp2
 repeat (go_quiet (fail); try go_wp2)
 go_loopg [13] k (fun kq v13 w' => ∃ (x13_1 : Int), v13 = .int .i64 x13_1 ∧ Aside0 (impl_Mail.l0 kq l0 l1 (l0.length : Int) x13_1 = some r) ∧ Aside0 (kq ≤ k) ∧ Drawn0 w w')
 case atStart => exact ⟨_, rr, H', ⟨Nat.le_refl _⟩, by repeat (first | exact Drawn0.refl _ | apply Drawn0.step)⟩
 case round =>
  skip;{
 clear H'
 try clear c1 c3 c3b0 c3b1 c3b2
 obtain ⟨x13_1, rfl, HA, HK1, ⟨m1, rfl⟩⟩ := hrel
 cases gk with
 | zero => exact absurd HA.out (by simp [impl_Mail.l0])
 | succ k1 =>
  skip;{
 have H := HA.out
 clear HA
 simp only [impl_Mail.l0] at H
 by_cases c4 : x13_1 < (l0.length : Int)
 {
 rw [if_pos c4] at H
 have c4b0 := decide_eq_true c4
 clear c4
 by_cases c5 : 0 ≤ x13_1
 {
 rw [if_pos c5] at H
 have c5b0 := decide_eq_true c5
 clear c5
 by_cases c6 : x13_1 < (l0.length : Int)
 {
 rw [if_pos c6] at H
 have c6b0 := decide_eq_true c6
 clear c6
 by_cases c7 : x13_1 < (l1.length : Int)
 {
 rw [if_pos c7] at H
 have c7b0 := decide_eq_true c7
 clear c7
 by_cases c8 : (!(((rd_T68 l0 x13_1).f0) == ((rd_T68 l1 x13_1).f0)) || (!(((rd_T68 l0 x13_1).f1) == ((rd_T68 l1 x13_1).f1)) || (!((((rd_T68 l0 x13_1).f2).toList) == (((rd_T68 l1 x13_1).f2).toList))))) = true
 {
 rw [if_pos c8] at H
 have c8b0 : (!(((rd_T68 l0 x13_1).f0) == ((rd_T68 l1 x13_1).f0)) || (!(((rd_T68 l0 x13_1).f1) == ((rd_T68 l1 x13_1).f1)) || (!((((rd_T68 l0 x13_1).f2).toList) == (((rd_T68 l1 x13_1).f2).toList))))) = true := c8
 clear c8
 obtain rfl := Option.some.inj H
 have p243 : 0 ≤ (x13_1 : Int) := oda
 have q243 : x13_1 < (l0.length : Int) := oda
 obtain ⟨ad243, e243, hx243_0, hx243_1, hx243_2⟩ := at_T68 HR0.out x13_1 p243 q243
 cases e243
 replace p243 := eq_true p243
 replace q243 := eq_true q243
 have p244 : 0 ≤ (x13_1 : Int) := oda
 have q244 : x13_1 < (l1.length : Int) := oda
 obtain ⟨ad244, e244, hx244_0, hx244_1, hx244_2⟩ := at_T68 HR1.out x13_1 p244 q244
 cases e244
 replace p244 := eq_true p244
 replace q244 := eq_true q244
 go_wp2
 repeat (go_quiet (fail); try go_wp2)
 go_ret
 exact ⟨by first | rfl | (simp; done) | (simp [*]; done), by repeat (first | exact Drawn0.refl _ | apply Drawn0.step)⟩
 }
 {
 rw [if_neg c8] at H
 have c8b0 : (!(((rd_T68 l0 x13_1).f0) == ((rd_T68 l1 x13_1).f0)) || (!(((rd_T68 l0 x13_1).f1) == ((rd_T68 l1 x13_1).f1)) || (!((((rd_T68 l0 x13_1).f2).toList) == (((rd_T68 l1 x13_1).f2).toList))))) = false := by simpa using c8
 clear c8
 have H' := Aside0.mk H
 clear H
 have p243 : 0 ≤ (x13_1 : Int) := oda
 have q243 : x13_1 < (l0.length : Int) := oda
 obtain ⟨ad243, e243, hx243_0, hx243_1, hx243_2⟩ := at_T68 HR0.out x13_1 p243 q243
 cases e243
 replace p243 := eq_true p243
 replace q243 := eq_true q243
 have p244 : 0 ≤ (x13_1 : Int) := oda
 have q244 : x13_1 < (l1.length : Int) := oda
 obtain ⟨ad244, e244, hx244_0, hx244_1, hx244_2⟩ := at_T68 HR1.out x13_1 p244 q244
 cases e244
 replace p244 := eq_true p244
 replace q244 := eq_true q244
 go_wp2
 repeat (go_quiet (fail); try go_wp2)
 go_roundg k1
 case measure => have := HK1.out; omega
 case rel => exact ⟨_, rr, H', ⟨by have := HK1.out; omega⟩, by repeat (first | exact Drawn0.refl _ | apply Drawn0.step)⟩
 }
 }
 {rw [if_neg c7] at H;exact absurd H (by simp)}
 }
 {rw [if_neg c6] at H;exact absurd H (by simp)}
 }
 {rw [if_neg c5] at H;exact absurd H (by simp)}
 }
 {
 rw [if_neg c4] at H
 have c4b0 := decide_eq_false c4
 clear c4
 obtain rfl := Option.some.inj H
 go_wp2
 repeat (go_quiet (fail); try go_wp2)
 go_ret
 exact ⟨by first | rfl | (simp; done) | (simp [*]; done), by repeat (first | exact Drawn0.refl _ | apply Drawn0.step)⟩
 }
 }
 }
 }
 {
 rw [if_neg c3] at H
 have c3b0 := beq_eq_false_iff_ne.mpr c3
 have c3b1 := bne_iff_ne.mpr c3
 have c3b2 : (l0.length == l1.length) = false := by first | simpa using c3 | (simp at c3 ⊢; omega)
 obtain rfl := Option.some.inj H
 go_enter Try.func113, Try.ntmps113
 go_wp2
 repeat (go_quiet (fail); try go_wp2)
 go_ret
 exact ⟨by first | rfl | (simp; done) | (simp [*]; done), by repeat (first | exact Drawn0.refl _ | apply Drawn0.step)⟩
 }
def impl_sameBox.f (k : Nat) (a0_0 : Int) (a0_1 : ByteArray) (a0_2 : ByteArray) (a0_3 : Int) (l0_4 : List (S68)) (a1_0 : Int) (a1_1 : ByteArray) (a1_2 : ByteArray) (a1_3 : Int) (l1_4 : List (S68)) : Option (Bool) := if a0_0 = a1_0 then (if a0_1.toList = a1_1.toList then (if a0_2.toList = a1_2.toList then (if a0_3 = a1_3 then ((impl_Mail.f k l0_4 l1_4).bind fun t247 => (some t247)) else (some false)) else (some false)) else (some false)) else (some false)
theorem impl_sameBox.mono : ∀ a0 a1 a2 a3 a4 a5 a6 a7 a8 a9 k, LeO (impl_sameBox.f k a0 a1 a2 a3 a4 a5 a6 a7 a8 a9) (impl_sameBox.f (k + 1) a0 a1 a2 a3 a4 a5 a6 a7 a8 a9) := by
 intro a0 a1 a2 a3 a4 a5 a6 a7 a8 a9 k
 unfold impl_sameBox.f
 repeat' with_reducible first | exact impl_Mail.mono _ _ _ | exact LeO.refl _ | exact LeO.none _ | refine LeO.ite ?_ ?_ | refine LeO.bind ?_ (fun _ => ?_)
theorem impl_sameBox.calls (k : Nat) (a0_0 : Int) (a0_1 : ByteArray) (a0_2 : ByteArray) (a0_3 : Int) (A0_4 : Option Addr) (c0_4 : Nat) (l0_4 : List (S68)) (a1_0 : Int) (a1_1 : ByteArray) (a1_2 : ByteArray) (a1_3 : Int) (A1_4 : Option Addr) (c1_4 : Nat) (l1_4 : List (S68)) (r : Bool) (w : World) (hr0_4 : Kd.C k68 w A0_4 l0_4.length l0_4) (hc0_4 : l0_4.length ≤ c0_4) (hr1_4 : Kd.C k68 w A1_4 l1_4.length l1_4) (hc1_4 : l1_4.length ≤ c1_4) (h : impl_sameBox.f k a0_0 a0_1 a0_2 a0_3 l0_4 a1_0 a1_1 a1_2 a1_3 l1_4 = some r) :
  Calls Try.prog 79 #[.agg #[.int .i64 a0_0, .string a0_1, .string a0_2, .int .i64 a0_3, .slice A0_4 l0_4.length c0_4], .agg #[.int .i64 a1_0, .string a1_1, .string a1_2, .int .i64 a1_3, .slice A1_4 l1_4.length c1_4]] w fun e w' => e = .returned (.bool r) ∧ Below w.heap.size w w' := by
 have hu66 := Try.underlying66
 have HR0_4 := Aside0.mk hr0_4
 have HC0_4 := Aside0.mk hc0_4
 clear hr0_4 hc0_4
 have HR1_4 := Aside0.mk hr1_4
 have HC1_4 := Aside0.mk hc1_4
 clear hr1_4 hc1_4
 have HB := ak (Below.refl w.heap.size w)
 have H := h
 clear h
 unfold impl_sameBox.f at H
 by_cases c3 : a0_0 = a1_0
 {
 rw [if_pos c3] at H
 have c3b0 := beq_iff_eq.mpr c3
 have c3b1 := bne_eq_false_iff_eq.mpr c3
 clear c3
 by_cases c4 : a0_1.toList = a1_1.toList
 {
 rw [if_pos c4] at H
 have c4b0 := beq_iff_eq.mpr c4
 have c4b1 := bne_eq_false_iff_eq.mpr c4
 clear c4
 by_cases c5 : a0_2.toList = a1_2.toList
 {
 rw [if_pos c5] at H
 have c5b0 := beq_iff_eq.mpr c5
 have c5b1 := bne_eq_false_iff_eq.mpr c5
 clear c5
 by_cases c6 : a0_3 = a1_3
 {
 rw [if_pos c6] at H
 have c6b0 := beq_iff_eq.mpr c6
 have c6b1 := bne_eq_false_iff_eq.mpr c6
 clear c6
 obtain ⟨t247, A7, H⟩ := eb H
 try dsimp only at H
 obtain rfl := Option.some.inj H
 go_enter Try.func79, Try.ntmps79
 go_wp2_with (first | ((with_reducible refine gate_dst (N := 2) rfl ?_); refine bx 2 #[.int .i64 a0_0, .string a0_1, .string a0_2, .int .i64 a0_3, .slice A0_4 l0_4.length c0_4] 66 ?_; intro gb245 hg w8 hbox hb; replace BK245 := ak (hbox); replace GE245 := ak (bz hg (lG HB)); replace HB := lB HB hb; clear hb hbox hg) | ((with_reducible refine gate_dst (N := 3) rfl ?_); refine bx 3 #[.int .i64 a1_0, .string a1_1, .string a1_2, .int .i64 a1_3, .slice A1_4 l1_4.length c1_4] 66 ?_; intro gb246 hg w9 hbox hb; replace BK246 := ak (hbox); replace GW246 := ak (bz hg (lT HB (gC GE245 gN))); replace GE246 := ak (bz hg (lT HB (gC GE245 gN))); replace HB := ak (below_step (lT HB (gC GE245 gN)) hb); replace NB245_246 := ak (nl hg (bG BK245)); replace NB246_245 := ak (ng hg (bG BK245)); replace BK245 := bB BK245 hb; clear hb hbox hg; have hnb10 := NB245_246.out; have hnc10 := NB246_245.out; obtain ⟨_, _, _, _, _, _, _, _, _, _⟩ := bC5 BK245; obtain ⟨_, _, _, _, _, _, _, _, _, _⟩ := bC5 BK246) | (go_at_call 113; (with_reducible refine (impl_Mail.calls k _ _ l0_4 _ _ l1_4 t247 _ ?side1 ?side2 ?side3 ?side4 A7.out).mono ?_); (case side1 => exact cG (Kd.C_below HR0_4.out HB.out)); (case side2 => exact HC0_4.out); (case side3 => exact cG (Kd.C_below HR1_4.out HB.out)); (case side4 => exact HC1_4.out); rintro e w' ⟨rfl, ⟨nd, rfl⟩⟩))
 go_ret
 exact ⟨ew, by exact lT HB (gC GE245 (gC GE246 gN))⟩
 }
 {
 rw [if_neg c6] at H
 have c6b0 := beq_eq_false_iff_ne.mpr c6
 have c6b1 := bne_iff_ne.mpr c6
 obtain rfl := Option.some.inj H
 go_enter Try.func79, Try.ntmps79
 go_wp2_with (first | ((with_reducible refine gate_dst (N := 2) rfl ?_); refine bx 2 #[.int .i64 a0_0, .string a0_1, .string a0_2, .int .i64 a0_3, .slice A0_4 l0_4.length c0_4] 66 ?_; intro gb245 hg w13 hbox hb; replace BK245 := ak (hbox); replace GE245 := ak (bz hg (lG HB)); replace HB := lB HB hb; clear hb hbox hg) | ((with_reducible refine gate_dst (N := 3) rfl ?_); refine bx 3 #[.int .i64 a1_0, .string a1_1, .string a1_2, .int .i64 a1_3, .slice A1_4 l1_4.length c1_4] 66 ?_; intro gb246 hg w14 hbox hb; replace BK246 := ak (hbox); replace GW246 := ak (bz hg (lT HB (gC GE245 gN))); replace GE246 := ak (bz hg (lT HB (gC GE245 gN))); replace HB := ak (below_step (lT HB (gC GE245 gN)) hb); replace NB245_246 := ak (nl hg (bG BK245)); replace NB246_245 := ak (ng hg (bG BK245)); replace BK245 := bB BK245 hb; clear hb hbox hg; have hnb15 := NB245_246.out; have hnc15 := NB246_245.out; obtain ⟨_, _, _, _, _, _, _, _, _, _⟩ := bC5 BK245; obtain ⟨_, _, _, _, _, _, _, _, _, _⟩ := bC5 BK246))
 go_ret
 exact ⟨ew, by exact lT HB (gC GE245 (gC GE246 gN))⟩
 }
 }
 {
 rw [if_neg c5] at H
 have c5b0 := beq_eq_false_iff_ne.mpr c5
 have c5b1 := bne_iff_ne.mpr c5
 obtain rfl := Option.some.inj H
 go_enter Try.func79, Try.ntmps79
 go_wp2_with (first | ((with_reducible refine gate_dst (N := 2) rfl ?_); refine bx 2 #[.int .i64 a0_0, .string a0_1, .string a0_2, .int .i64 a0_3, .slice A0_4 l0_4.length c0_4] 66 ?_; intro gb245 hg w18 hbox hb; replace BK245 := ak (hbox); replace GE245 := ak (bz hg (lG HB)); replace HB := lB HB hb; clear hb hbox hg) | ((with_reducible refine gate_dst (N := 3) rfl ?_); refine bx 3 #[.int .i64 a1_0, .string a1_1, .string a1_2, .int .i64 a1_3, .slice A1_4 l1_4.length c1_4] 66 ?_; intro gb246 hg w19 hbox hb; replace BK246 := ak (hbox); replace GW246 := ak (bz hg (lT HB (gC GE245 gN))); replace GE246 := ak (bz hg (lT HB (gC GE245 gN))); replace HB := ak (below_step (lT HB (gC GE245 gN)) hb); replace NB245_246 := ak (nl hg (bG BK245)); replace NB246_245 := ak (ng hg (bG BK245)); replace BK245 := bB BK245 hb; clear hb hbox hg; have hnb20 := NB245_246.out; have hnc20 := NB246_245.out; obtain ⟨_, _, _, _, _, _, _, _, _, _⟩ := bC5 BK245; obtain ⟨_, _, _, _, _, _, _, _, _, _⟩ := bC5 BK246))
 go_ret
 exact ⟨ew, by exact lT HB (gC GE245 (gC GE246 gN))⟩
 }
 }
 {
 rw [if_neg c4] at H
 have c4b0 := beq_eq_false_iff_ne.mpr c4
 have c4b1 := bne_iff_ne.mpr c4
 obtain rfl := Option.some.inj H
 go_enter Try.func79, Try.ntmps79
 go_wp2_with (first | ((with_reducible refine gate_dst (N := 2) rfl ?_); refine bx 2 #[.int .i64 a0_0, .string a0_1, .string a0_2, .int .i64 a0_3, .slice A0_4 l0_4.length c0_4] 66 ?_; intro gb245 hg w23 hbox hb; replace BK245 := ak (hbox); replace GE245 := ak (bz hg (lG HB)); replace HB := lB HB hb; clear hb hbox hg) | ((with_reducible refine gate_dst (N := 3) rfl ?_); refine bx 3 #[.int .i64 a1_0, .string a1_1, .string a1_2, .int .i64 a1_3, .slice A1_4 l1_4.length c1_4] 66 ?_; intro gb246 hg w24 hbox hb; replace BK246 := ak (hbox); replace GW246 := ak (bz hg (lT HB (gC GE245 gN))); replace GE246 := ak (bz hg (lT HB (gC GE245 gN))); replace HB := ak (below_step (lT HB (gC GE245 gN)) hb); replace NB245_246 := ak (nl hg (bG BK245)); replace NB246_245 := ak (ng hg (bG BK245)); replace BK245 := bB BK245 hb; clear hb hbox hg; have hnb25 := NB245_246.out; have hnc25 := NB246_245.out; obtain ⟨_, _, _, _, _, _, _, _, _, _⟩ := bC5 BK245; obtain ⟨_, _, _, _, _, _, _, _, _, _⟩ := bC5 BK246))
 go_ret
 exact ⟨ew, by exact lT HB (gC GE245 (gC GE246 gN))⟩
 }
 }
 {
 rw [if_neg c3] at H
 have c3b0 := beq_eq_false_iff_ne.mpr c3
 have c3b1 := bne_iff_ne.mpr c3
 obtain rfl := Option.some.inj H
 go_enter Try.func79, Try.ntmps79
 go_wp2_with (first | ((with_reducible refine gate_dst (N := 2) rfl ?_); refine bx 2 #[.int .i64 a0_0, .string a0_1, .string a0_2, .int .i64 a0_3, .slice A0_4 l0_4.length c0_4] 66 ?_; intro gb245 hg w28 hbox hb; replace BK245 := ak (hbox); replace GE245 := ak (bz hg (lG HB)); replace HB := lB HB hb; clear hb hbox hg) | ((with_reducible refine gate_dst (N := 3) rfl ?_); refine bx 3 #[.int .i64 a1_0, .string a1_1, .string a1_2, .int .i64 a1_3, .slice A1_4 l1_4.length c1_4] 66 ?_; intro gb246 hg w29 hbox hb; replace BK246 := ak (hbox); replace GW246 := ak (bz hg (lT HB (gC GE245 gN))); replace GE246 := ak (bz hg (lT HB (gC GE245 gN))); replace HB := ak (below_step (lT HB (gC GE245 gN)) hb); replace NB245_246 := ak (nl hg (bG BK245)); replace NB246_245 := ak (ng hg (bG BK245)); replace BK245 := bB BK245 hb; clear hb hbox hg; have hnb30 := NB245_246.out; have hnc30 := NB246_245.out; obtain ⟨_, _, _, _, _, _, _, _, _, _⟩ := bC5 BK245; obtain ⟨_, _, _, _, _, _, _, _, _, _⟩ := bC5 BK246))
 go_ret
 exact ⟨ew, by exact lT HB (gC GE245 (gC GE246 gN))⟩
 }
def slices_EqualFunc_sameBox.l0 : Nat → List (S66) → List (S66) → Int → Int → Option (Bool)
 | 0, _, _, _, _ => none
 | k + 1, a, b, c, d => if d < c then (if 0 ≤ d then (if d < (b.length : Int) then (if d < (a.length : Int) then ((impl_sameBox.f k ((rd_T66 b d).f0) ((rd_T66 b d).f1) ((rd_T66 b d).f2) ((rd_T66 b d).f3) ((rd_T66 b d).f4) ((rd_T66 a d).f0) ((rd_T66 a d).f1) ((rd_T66 a d).f2) ((rd_T66 a d).f3) ((rd_T66 a d).f4)).bind fun t252 => (if t252 = true then (slices_EqualFunc_sameBox.l0 k a b c (wrap64 (d + 1))) else (some false))) else (none)) else (none)) else (none)) else (some true)
def slices_EqualFunc_sameBox.f (k : Nat) (l0 : List (S66)) (l1 : List (S66)) : Option (Bool) := if (l0.length : Int) = (l1.length : Int) then (slices_EqualFunc_sameBox.l0 k l1 l0 (l0.length : Int) 0) else (some false)
theorem slices_EqualFunc_sameBox.mono_l : ∀ k, (∀ y0 y1 y2 y3, LeO (slices_EqualFunc_sameBox.l0 k y0 y1 y2 y3) (slices_EqualFunc_sameBox.l0 (k + 1) y0 y1 y2 y3))
 | 0 => fun _ _ _ _ r h => by simp [slices_EqualFunc_sameBox.l0] at h
 | k + 1 => by
  have ih0 := slices_EqualFunc_sameBox.mono_l k
  ·intro y0 y1 y2 y3
   unfold slices_EqualFunc_sameBox.l0
   repeat' with_reducible first | exact ih0 _ _ _ _ | exact impl_sameBox.mono _ _ _ _ _ _ _ _ _ _ _ | exact LeO.refl _ | exact LeO.none _ | refine LeO.ite ?_ ?_ | refine LeO.bind ?_ (fun _ => ?_)
theorem slices_EqualFunc_sameBox.mono : ∀ a0 a1 k, LeO (slices_EqualFunc_sameBox.f k a0 a1) (slices_EqualFunc_sameBox.f (k + 1) a0 a1) := by
 intro a0 a1 k
 have ih0 := slices_EqualFunc_sameBox.mono_l k
 unfold slices_EqualFunc_sameBox.f
 repeat' with_reducible first | exact ih0 _ _ _ _ | exact impl_sameBox.mono _ _ _ _ _ _ _ _ _ _ _ | exact LeO.refl _ | exact LeO.none _ | refine LeO.ite ?_ ?_ | refine LeO.bind ?_ (fun _ => ?_)
theorem slices_EqualFunc_sameBox.calls (k : Nat) (A0 : Option Addr) (c0 : Nat) (l0 : List (S66)) (A1 : Option Addr) (c1 : Nat) (l1 : List (S66)) (r : Bool) (w : World) (hr0 : Kd.C k66 w A0 l0.length l0) (hc0 : l0.length ≤ c0) (hr1 : Kd.C k66 w A1 l1.length l1) (hc1 : l1.length ≤ c1) (h : slices_EqualFunc_sameBox.f k l0 l1 = some r) :
  Calls Try.prog 78 #[.slice A0 l0.length c0, .slice A1 l1.length c1, .func (.func 79) #[] #[]] w fun e w' => e = .returned (.bool r) ∧ Below w.heap.size w w' := by
 have hu66 := Try.underlying66
 have HR0 := Aside0.mk hr0
 have HC0 := Aside0.mk hc0
 clear hr0 hc0
 have HR1 := Aside0.mk hr1
 have HC1 := Aside0.mk hc1
 clear hr1 hc1
 have HB := ak (Below.refl w.heap.size w)
 have H := h
 clear h
 unfold slices_EqualFunc_sameBox.f at H
 by_cases c3 : (l0.length : Int) = (l1.length : Int)
 {
 rw [if_pos c3] at H
 have c3b0 := beq_iff_eq.mpr c3
 have c3b1 := bne_eq_false_iff_eq.mpr c3
 have c3b2 : (l0.length == l1.length) = true := by first | simpa using c3 | (simp at c3 ⊢; omega)
 clear c3
 have H' := Aside0.mk H
 clear H
 go_enter Try.func78, Try.ntmps78
 go_wp2
 go_loopg [17] k (fun kq v17 w' => ∃ (x17_1 : Int), v17 = .int .i64 x17_1 ∧ Aside0 (slices_EqualFunc_sameBox.l0 kq l1 l0 (l0.length : Int) x17_1 = some r) ∧ Aside0 (kq ≤ k) ∧ Aside0 (Below w.heap.size w w'))
 case atStart => exact ⟨_, rr, H', ⟨Nat.le_refl _⟩, ⟨by exact lG HB⟩⟩
 case round =>
  skip;{
 clear H'
 try clear c1 c3 c3b0 c3b1 c3b2
 obtain ⟨x17_1, rfl, HA, HK1, HB⟩ := hrel
 cases gk with
 | zero => exact absurd HA.out (by simp [slices_EqualFunc_sameBox.l0])
 | succ k1 =>
  skip;{
 have H := HA.out
 clear HA
 simp only [slices_EqualFunc_sameBox.l0] at H
 by_cases c4 : x17_1 < (l0.length : Int)
 {
 rw [if_pos c4] at H
 have c4b0 := decide_eq_true c4
 clear c4
 by_cases c5 : 0 ≤ x17_1
 {
 rw [if_pos c5] at H
 have c5b0 := decide_eq_true c5
 clear c5
 by_cases c6 : x17_1 < (l0.length : Int)
 {
 rw [if_pos c6] at H
 have c6b0 := decide_eq_true c6
 clear c6
 by_cases c7 : x17_1 < (l1.length : Int)
 {
 rw [if_pos c7] at H
 have c7b0 := decide_eq_true c7
 clear c7
 obtain ⟨t252, A8, H⟩ := eb H
 try dsimp only at H
 have HS_ := Aside0.mk H
 clear H
 have p248 : 0 ≤ (x17_1 : Int) := oda
 have q248 : x17_1 < (l0.length : Int) := oda
 obtain ⟨ad248, A248_4, c248_4, e248, hx248_0, hx248_1, hx248_2, hx248_3, hx248_4, hl248_4, hi248_4⟩ := at_T66 HR0.out x17_1 p248 q248
 cases e248
 replace hx248_0 := clB HB hx248_0
 replace hx248_1 := clB HB hx248_1
 replace hx248_2 := clB HB hx248_2
 replace hx248_3 := clB HB hx248_3
 replace hx248_4 := clB HB hx248_4
 have HR248_4 := Aside0.mk hi248_4
 have HC248_4 := Aside0.mk hl248_4
 clear hi248_4 hl248_4
 replace p248 := eq_true p248
 replace q248 := eq_true q248
 go_wp2_with (first | ((with_reducible refine gate_dst (N := 8) rfl ?_); refine bx 8 #[.int .i64 0, .string (⟨#[]⟩ : ByteArray), .string (⟨#[]⟩ : ByteArray), .int .i64 0, .slice none 0 0] 66 ?_; intro gb249 hg w10 hbox hb; replace BK249 := ak (hbox); replace GW249 := ak (bz hg (lG HB)); replace GE249 := ak (bz hg (lG HB)); replace HB := lB HB hb; clear hb hbox hg; obtain ⟨_, _, _, _, _, _, _, _, _, _⟩ := bC5 BK249; have p250 : 0 ≤ (x17_1 : Int) := oda; have q250 : x17_1 < (l1.length : Int) := oda; obtain ⟨ad250, A250_4, c250_4, e250, hx250_0, hx250_1, hx250_2, hx250_3, hx250_4, hl250_4, hi250_4⟩ := at_T66 HR1.out x17_1 p250 q250; cases e250; have hn250_0 : ad250.block ≠ gb249 := Nat.ne_of_lt (Nat.lt_of_lt_of_le (by have := World.block_lt_of_cell? _ _ hx250_0; first | rwa [add_block] at this | exact this) GW249.out); have hn250_1 : ad250.block ≠ gb249 := Nat.ne_of_lt (Nat.lt_of_lt_of_le (by have := World.block_lt_of_cell? _ _ hx250_0; first | rwa [add_block] at this | exact this) GW249.out); have hn250_2 : ad250.block ≠ gb249 := Nat.ne_of_lt (Nat.lt_of_lt_of_le (by have := World.block_lt_of_cell? _ _ hx250_0; first | rwa [add_block] at this | exact this) GW249.out); have hn250_3 : ad250.block ≠ gb249 := Nat.ne_of_lt (Nat.lt_of_lt_of_le (by have := World.block_lt_of_cell? _ _ hx250_0; first | rwa [add_block] at this | exact this) GW249.out); have hn250_4 : ad250.block ≠ gb249 := Nat.ne_of_lt (Nat.lt_of_lt_of_le (by have := World.block_lt_of_cell? _ _ hx250_0; first | rwa [add_block] at this | exact this) GW249.out); replace hx250_0 := clB HB hx250_0; replace hx250_1 := clB HB hx250_1; replace hx250_2 := clB HB hx250_2; replace hx250_3 := clB HB hx250_3; replace hx250_4 := clB HB hx250_4; have HR250_4 := Aside0.mk hi250_4; have HC250_4 := Aside0.mk hl250_4; clear hi250_4 hl250_4; replace hx250_0 := cF hx250_0 ⟨gb249, 0, none⟩ (.int .i64 ((rd_T66 l0 x17_1).f0)) (aF hn250_0); replace hx250_1 := cF hx250_1 ⟨gb249, 0, none⟩ (.int .i64 ((rd_T66 l0 x17_1).f0)) (aF hn250_0); replace hx250_2 := cF hx250_2 ⟨gb249, 0, none⟩ (.int .i64 ((rd_T66 l0 x17_1).f0)) (aF hn250_0); replace hx250_3 := cF hx250_3 ⟨gb249, 0, none⟩ (.int .i64 ((rd_T66 l0 x17_1).f0)) (aF hn250_0); replace hx250_4 := cF hx250_4 ⟨gb249, 0, none⟩ (.int .i64 ((rd_T66 l0 x17_1).f0)) (aF hn250_0); replace hx250_0 := cF hx250_0 ⟨gb249, 1, none⟩ (.string ((rd_T66 l0 x17_1).f1)) (aF hn250_0); replace hx250_1 := cF hx250_1 ⟨gb249, 1, none⟩ (.string ((rd_T66 l0 x17_1).f1)) (aF hn250_0); replace hx250_2 := cF hx250_2 ⟨gb249, 1, none⟩ (.string ((rd_T66 l0 x17_1).f1)) (aF hn250_0); replace hx250_3 := cF hx250_3 ⟨gb249, 1, none⟩ (.string ((rd_T66 l0 x17_1).f1)) (aF hn250_0); replace hx250_4 := cF hx250_4 ⟨gb249, 1, none⟩ (.string ((rd_T66 l0 x17_1).f1)) (aF hn250_0); replace hx250_0 := cF hx250_0 ⟨gb249, 2, none⟩ (.string ((rd_T66 l0 x17_1).f2)) (aF hn250_0); replace hx250_1 := cF hx250_1 ⟨gb249, 2, none⟩ (.string ((rd_T66 l0 x17_1).f2)) (aF hn250_0); replace hx250_2 := cF hx250_2 ⟨gb249, 2, none⟩ (.string ((rd_T66 l0 x17_1).f2)) (aF hn250_0); replace hx250_3 := cF hx250_3 ⟨gb249, 2, none⟩ (.string ((rd_T66 l0 x17_1).f2)) (aF hn250_0); replace hx250_4 := cF hx250_4 ⟨gb249, 2, none⟩ (.string ((rd_T66 l0 x17_1).f2)) (aF hn250_0); replace hx250_0 := cF hx250_0 ⟨gb249, 3, none⟩ (.int .i64 ((rd_T66 l0 x17_1).f3)) (aF hn250_0); replace hx250_1 := cF hx250_1 ⟨gb249, 3, none⟩ (.int .i64 ((rd_T66 l0 x17_1).f3)) (aF hn250_0); replace hx250_2 := cF hx250_2 ⟨gb249, 3, none⟩ (.int .i64 ((rd_T66 l0 x17_1).f3)) (aF hn250_0); replace hx250_3 := cF hx250_3 ⟨gb249, 3, none⟩ (.int .i64 ((rd_T66 l0 x17_1).f3)) (aF hn250_0); replace hx250_4 := cF hx250_4 ⟨gb249, 3, none⟩ (.int .i64 ((rd_T66 l0 x17_1).f3)) (aF hn250_0); replace hx250_0 := cF hx250_0 ⟨gb249, 4, none⟩ (.slice A248_4 ((rd_T66 l0 x17_1).f4).length c248_4) (aF hn250_0); replace hx250_1 := cF hx250_1 ⟨gb249, 4, none⟩ (.slice A248_4 ((rd_T66 l0 x17_1).f4).length c248_4) (aF hn250_0); replace hx250_2 := cF hx250_2 ⟨gb249, 4, none⟩ (.slice A248_4 ((rd_T66 l0 x17_1).f4).length c248_4) (aF hn250_0); replace hx250_3 := cF hx250_3 ⟨gb249, 4, none⟩ (.slice A248_4 ((rd_T66 l0 x17_1).f4).length c248_4) (aF hn250_0); replace hx250_4 := cF hx250_4 ⟨gb249, 4, none⟩ (.slice A248_4 ((rd_T66 l0 x17_1).f4).length c248_4) (aF hn250_0); clear hn250_0; clear hn250_1; clear hn250_2; clear hn250_3; clear hn250_4; replace p250 := eq_true p250; replace q250 := eq_true q250) | ((with_reducible refine gate_dst (N := 9) rfl ?_); refine bx 9 #[.int .i64 0, .string (⟨#[]⟩ : ByteArray), .string (⟨#[]⟩ : ByteArray), .int .i64 0, .slice none 0 0] 66 ?_; intro gb251 hg w12 hbox hb; replace BK251 := ak (hbox); replace GW251 := ak (bz hg (lT HB (gC GE249 gN))); replace GE251 := ak (bz hg (lT HB (gC GE249 gN))); replace HB := ak (below_step (lT HB (gC GE249 gN)) hb); replace NB249_251 := ak ((by rw [hg]; exact Nat.ne_of_lt (blk_lt (g := gb249) (o := .cells #[.int .i64 ((rd_T66 l0 x17_1).f0), .string ((rd_T66 l0 x17_1).f1), .string ((rd_T66 l0 x17_1).f2), .int .i64 ((rd_T66 l0 x17_1).f3), .slice A248_4 ((rd_T66 l0 x17_1).f4).length c248_4] 66 (0, 0)) (bW BK249)) : gb249 ≠ gb251)); replace NB251_249 := ak ((by rw [hg]; exact Nat.ne_of_gt (blk_lt (g := gb249) (o := .cells #[.int .i64 ((rd_T66 l0 x17_1).f0), .string ((rd_T66 l0 x17_1).f1), .string ((rd_T66 l0 x17_1).f2), .int .i64 ((rd_T66 l0 x17_1).f3), .slice A248_4 ((rd_T66 l0 x17_1).f4).length c248_4] 66 (0, 0)) (bW BK249)) : gb251 ≠ gb249)); replace BK249 := ak (blk_below (g := gb249) (o := .cells #[.int .i64 ((rd_T66 l0 x17_1).f0), .string ((rd_T66 l0 x17_1).f1), .string ((rd_T66 l0 x17_1).f2), .int .i64 ((rd_T66 l0 x17_1).f3), .slice A248_4 ((rd_T66 l0 x17_1).f4).length c248_4] 66 (0, 0)) (bW BK249) hb); clear hb hbox hg; have hnb13 := NB251_249.out; have hnc13 := NB249_251.out; obtain ⟨_, _, _, _, _, _, _, _, _, _⟩ := bC5 BK251; obtain ⟨_, _, _, _, _, _, _, _, _, _⟩ := bC5 BK249) | (go_at_call 79; (with_reducible refine (impl_sameBox.calls k1 ((rd_T66 l0 x17_1).f0) ((rd_T66 l0 x17_1).f1) ((rd_T66 l0 x17_1).f2) ((rd_T66 l0 x17_1).f3) _ _ ((rd_T66 l0 x17_1).f4) ((rd_T66 l1 x17_1).f0) ((rd_T66 l1 x17_1).f1) ((rd_T66 l1 x17_1).f2) ((rd_T66 l1 x17_1).f3) _ _ ((rd_T66 l1 x17_1).f4) _ _ ?side1 ?side2 ?side3 ?side4 A8.out).mono ?_); (case side1 => exact Kd.C_below HR248_4.out (lT HB (gC GE249 (gC GE251 gN)))); (case side2 => exact HC248_4.out); (case side3 => exact Kd.C_below HR250_4.out (lT HB (gC GE249 (gC GE251 gN)))); (case side4 => exact HC250_4.out); rintro e w16 ⟨rfl, hb⟩; replace BK249 := ak (blk_below (bT BK249 (nC NB249_251 nN)) hb); replace BK251 := ak (blk_below (g := gb251) (o := .cells #[.int .i64 ((rd_T66 l1 x17_1).f0), .string ((rd_T66 l1 x17_1).f1), .string ((rd_T66 l1 x17_1).f2), .int .i64 ((rd_T66 l1 x17_1).f3), .slice A250_4 ((rd_T66 l1 x17_1).f4).length c250_4] 66 (0, 0)) (bW BK251) hb); replace HB := ak (below_step (lT HB (gC GE249 (gC GE251 gN))) hb); (try clear hb); (try clear hk); refine Stop.out ?_))
 have H := HS_.out
 clear HS_
 by_cases c9 : t252 = true
 {
 subst c9
 rw [if_pos rfl] at H
 have H' := Aside0.mk H
 clear H
 refine ⟨?_⟩
 go_wp2
 go_roundg k1
 case measure => have := HK1.out; omega
 case rel => exact ⟨_, rr, H', ⟨by have := HK1.out; omega⟩, ⟨by exact lT HB (gC GE249 (gC GE251 gN))⟩⟩
 }
 {
 replace c9 := Bool.eq_false_iff.mpr c9
 subst c9
 rw [if_neg (show ¬ (false = true) by decide)] at H
 obtain rfl := Option.some.inj H
 refine ⟨?_⟩
 go_wp2
 go_ret
 exact ⟨ew, by exact lT HB (gC GE249 (gC GE251 gN))⟩
 }
 }
 {rw [if_neg c7] at H;exact absurd H (by simp)}
 }
 {rw [if_neg c6] at H;exact absurd H (by simp)}
 }
 {rw [if_neg c5] at H;exact absurd H (by simp)}
 }
 {
 rw [if_neg c4] at H
 have c4b0 := decide_eq_false c4
 clear c4
 obtain rfl := Option.some.inj H
 go_wp2
 go_ret
 exact ⟨ew, by exact lG HB⟩
 }
 }
 }
 }
 {
 rw [if_neg c3] at H
 have c3b0 := beq_eq_false_iff_ne.mpr c3
 have c3b1 := bne_iff_ne.mpr c3
 have c3b2 : (l0.length == l1.length) = false := by first | simpa using c3 | (simp at c3 ⊢; omega)
 obtain rfl := Option.some.inj H
 go_enter Try.func78, Try.ntmps78
 go_wp2
 go_ret
 exact ⟨ew, by exact lG HB⟩
 }
def impl_SameState.f (k : Nat) (l0_0 : List (S66)) (l1_0 : List (S66)) : Option (Bool) := (slices_EqualFunc_sameBox.f k l0_0 l1_0).bind fun t255 => (some t255)
theorem impl_SameState.mono : ∀ a0 a1 k, LeO (impl_SameState.f k a0 a1) (impl_SameState.f (k + 1) a0 a1) := by
 intro a0 a1 k
 unfold impl_SameState.f
 repeat' with_reducible first | exact slices_EqualFunc_sameBox.mono _ _ _ | exact LeO.refl _ | exact LeO.none _ | refine LeO.ite ?_ ?_ | refine LeO.bind ?_ (fun _ => ?_)
theorem impl_SameState.calls (k : Nat) (A0_0 : Option Addr) (c0_0 : Nat) (l0_0 : List (S66)) (A1_0 : Option Addr) (c1_0 : Nat) (l1_0 : List (S66)) (r : Bool) (w : World) (hr0_0 : Kd.C k66 w A0_0 l0_0.length l0_0) (hc0_0 : l0_0.length ≤ c0_0) (hr1_0 : Kd.C k66 w A1_0 l1_0.length l1_0) (hc1_0 : l1_0.length ≤ c1_0) (h : impl_SameState.f k l0_0 l1_0 = some r) :
  Calls Try.prog 37 #[.agg #[.slice A0_0 l0_0.length c0_0], .agg #[.slice A1_0 l1_0.length c1_0]] w fun e w' => e = .returned (.bool r) ∧ Below w.heap.size w w' := by
 have hu60 := Try.underlying60
 have HR0_0 := Aside0.mk hr0_0
 have HC0_0 := Aside0.mk hc0_0
 clear hr0_0 hc0_0
 have HR1_0 := Aside0.mk hr1_0
 have HC1_0 := Aside0.mk hc1_0
 clear hr1_0 hc1_0
 have HB := ak (Below.refl w.heap.size w)
 have H := h
 clear h
 unfold impl_SameState.f at H
 obtain ⟨t255, A3, H⟩ := eb H
 try dsimp only at H
 obtain rfl := Option.some.inj H
 go_enter Try.func37, Try.ntmps37
 go_wp2_with (first | ((with_reducible refine gate_dst (N := 2) rfl ?_); refine bx 2 #[.slice A0_0 l0_0.length c0_0] 60 ?_; intro gb253 hg w4 hbox hb; replace BK253 := ak (hbox); replace GE253 := ak (bz hg (lG HB)); replace HB := lB HB hb; clear hb hbox hg) | ((with_reducible refine gate_dst (N := 3) rfl ?_); refine bx 3 #[.slice A1_0 l1_0.length c1_0] 60 ?_; intro gb254 hg w5 hbox hb; replace BK254 := ak (hbox); replace GW254 := ak (bz hg (lT HB (gC GE253 gN))); replace GE254 := ak (bz hg (lT HB (gC GE253 gN))); replace HB := ak (below_step (lT HB (gC GE253 gN)) hb); replace NB253_254 := ak (nl hg (bG BK253)); replace NB254_253 := ak (ng hg (bG BK253)); replace BK253 := bB BK253 hb; clear hb hbox hg; have hnb6 := NB253_254.out; have hnc6 := NB254_253.out; obtain ⟨_, _⟩ := bC1 BK253; obtain ⟨_, _⟩ := bC1 BK254) | ((with_reducible refine gate_callee (f := 78) rfl ?_); refine gl (some 9) Try.func78 #[.slice A0_0 l0_0.length c0_0, .slice A1_0 l1_0.length c1_0, .func (.func 79) #[] #[]] ?_; (with_reducible refine (slices_EqualFunc_sameBox.calls k _ _ l0_0 _ _ l1_0 t255 _ ?side1 ?side2 ?side3 ?side4 A3.out).mono ?_); (case side1 => exact cG (Kd.C_below HR0_0.out HB.out)); (case side2 => exact HC0_0.out); (case side3 => exact cG (Kd.C_below HR1_0.out HB.out)); (case side4 => exact HC1_0.out); rintro e w9 ⟨rfl, hb⟩; refine ⟨_, rfl, ?_⟩; replace BK253 := bB BK253 hb; replace BK254 := bB BK254 hb; replace HB := ak (below_step (lT HB (gC GE253 (gC GE254 gN))) hb); (try clear hb); (try clear hk)))
 go_ret
 exact ⟨ew, by exact lT HB (gC GE253 (gC GE254 gN))⟩
end Go.Proofs.Ytagkjeldheiejaa.PFnStatesTold
