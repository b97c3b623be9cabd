-- Written by a program of mine (a turned copy of the kit's print): functions as plain Lean, their contracts.
import Derived.Test.YtagkjeldheiejaaPFnAnyOrderx3
import Derived.Test.YtagkjeldheiejaaPFnAnyOrderx7
import Derived.Test.YtagkjeldheiejaaPFnAnyOrderx9
import Derived.Test.YtagkjeldheiejaaVFnAnyOrder1
namespace Go.Proofs.Ytagkjeldheiejaa.PFnAnyOrder
open Go.RowKit Go.Proofs.YtagkjeldheiejaaW.PrintWords Go.Proofs.YtagkjeldheiejaaW.PrintLast Go.Proofs.YtagkjeldheiejaaW.PrintMore
attribute [local go_sem] max2_int min2_int max_two min_two max_three min_three max_four min_four   -- for this text's walks alone
set_option maxHeartbeats 8000000
set_option maxRecDepth 100000
set_option linter.unusedVariables false
set_option linter.unusedSimpArgs false
attribute [local go_sem high] eqA68
/-! ### impl_StateOf: function 35 -/
def impl_StateOf.l0 : Nat → List (S32) → List Int → Int → Int → List (S66) → Option ((List (S66)))
 | 0, _, _, _, _, _ => none
 | k + 1, x0, x14, x15, x16, x321000 => if x16 < x15 then (if 0 ≤ x16 then (if x16 < (x14.length : Int) then ((impl_boxThere.f x0 (rd x14 x16)).bind fun bt325 => (if bt325.2.2.2.2.2.2.2.2.2 = true then ((impl_boxState.f k x0 bt325.1 bt325.2.1 bt325.2.2.1 bt325.2.2.2.1 bt325.2.2.2.2.1 bt325.2.2.2.2.2.1 bt325.2.2.2.2.2.2.1 bt325.2.2.2.2.2.2.2.1 bt325.2.2.2.2.2.2.2.2.1).bind fun bt336 => (if x321000.length < 1954687338268 then (impl_StateOf.l0 k x0 x14 x15 (wrap64 (x16 + 1)) (x321000 ++ [(⟨bt336.1, bt336.2.1, bt336.2.2.1, bt336.2.2.2.1, bt336.2.2.2.2⟩ : S66)])) else (none))) else (impl_StateOf.l0 k x0 x14 x15 (wrap64 (x16 + 1)) x321000))) else (none)) else (none)) else (some x321000)
def impl_StateOf.f (k : Nat) (l0 : List (S32)) : Option ((List (S66))) := (impl_ItemsOk.f k l0).bind fun t319 => (if t319 = true then ((impl_numbers_valid.f l0).bind fun t321 => (impl_StateOf.l0 k l0 t321 (t321.length : Int) 0 ([] : List (S66)))) else (some ([] : List (S66))))
theorem impl_StateOf.mono_l : ∀ k, (∀ y0 y1 y2 y3 y4, LeO (impl_StateOf.l0 k y0 y1 y2 y3 y4) (impl_StateOf.l0 (k + 1) y0 y1 y2 y3 y4))
 | 0 => fun _ _ _ _ _ r h => by simp [impl_StateOf.l0] at h
 | k + 1 => by
  have ih0 := impl_StateOf.mono_l k
  ·intro y0 y1 y2 y3 y4
   unfold impl_StateOf.l0
   repeat' first
   | (with_reducible exact ih0 _ _ _ _ _)
   | (with_reducible exact impl_ItemsOk.mono _ _)
   | (with_reducible exact impl_boxState.mono _ _ _ _ _ _ _ _ _ _ _)
   | (with_reducible exact LeO.refl _)
   | (with_reducible exact LeO.none _)
   | (with_reducible refine LeO.ite ?_ ?_)
   | (with_reducible refine LeO.bind ?_ (fun _ => ?_))
   | exact ih0 _ _ _ _ _
   | exact impl_ItemsOk.mono _ _
   | exact impl_boxState.mono _ _ _ _ _ _ _ _ _ _ _
   | exact LeO.none _
   | refine LeO.ite ?_ ?_
   | refine LeO.bind ?_ (fun _ => ?_)
theorem impl_StateOf.mono : ∀ a0 k, LeO (impl_StateOf.f k a0) (impl_StateOf.f (k + 1) a0) := by
 intro a0 k
 have ih0 := impl_StateOf.mono_l k
 unfold impl_StateOf.f
 repeat' first
   | (with_reducible exact ih0 _ _ _ _ _)
   | (with_reducible exact impl_ItemsOk.mono _ _)
   | (with_reducible exact impl_boxState.mono _ _ _ _ _ _ _ _ _ _ _)
   | (with_reducible exact LeO.refl _)
   | (with_reducible exact LeO.none _)
   | (with_reducible refine LeO.ite ?_ ?_)
   | (with_reducible refine LeO.bind ?_ (fun _ => ?_))
   | exact ih0 _ _ _ _ _
   | exact impl_ItemsOk.mono _ _
   | exact impl_boxState.mono _ _ _ _ _ _ _ _ _ _ _
   | exact LeO.none _
   | refine LeO.ite ?_ ?_
   | refine LeO.bind ?_ (fun _ => ?_)
def impl_StateOf.T9 : Bool × List (List Nat × List Nat) := (true, [([], []), ([0], [0]), ([], []), ([], []), ([2, 3], [2, 3]), ([4], [4]), ([1, 5, 4], [1, 5]), ([0, 1, 2, 3, 4, 5, 6], []), ([7, 6, 6, 0, 1, 2, 3, 4, 5, 6], [6, 7])])
def impl_StateOf.B9 : List Nat := [0, 1, 0, 0, 12, 28, 63, 127, 255]
theorem impl_StateOf.tab9 : rtab .any (opsOf Try.f35 9) = impl_StateOf.T9 := by kernel_rfl
theorem impl_StateOf.bits9 : waitsOk impl_StateOf.T9.2 impl_StateOf.B9 = true := by kernel_rfl
theorem impl_StateOf.calls (k : Nat) (A0 : Option Addr) (c0 : Nat) (l0 : List (S32)) (r : List (S66)) (w : World) (hr0 : Kd.C k32 w A0 l0.length l0) (hc0 : l0.length ≤ c0) (h : impl_StateOf.f k l0 = some r) :
  Calls Try.prog 35 #[.slice A0 l0.length c0] w fun e w' => ∃ v0_ : Value, e = .returned (.agg #[v0_]) ∧ Kd.S k66 66 w' w.heap.size (fun _ => True) v0_ r ∧ Below w.heap.size w w' := by
 have hu60 := Try.underlying60
 have hu32 := Try.underlying32
 have HR0 := Aside0.mk hr0
 have HC0 := Aside0.mk hc0
 clear hr0 hc0
 have HB := ak (Below.refl w.heap.size w)
 have H : ((impl_ItemsOk.f k l0).bind fun t319 => (if t319 = true then ((impl_numbers_valid.f l0).bind fun t321 => (impl_StateOf.l0 k l0 t321 (t321.length : Int) 0 ([] : List (S66)))) else (some ([] : List (S66))))) = some r := h
 clear h
 obtain ⟨t319, A2, H⟩ := eb H
 try dsimp only at H
 by_cases c3 : t319 = true
 ·subst c3
  rw [if_pos rfl] at H
  obtain ⟨t321, A4, H⟩ := eb H
  try dsimp only at H
  have H' := Aside0.mk H
  clear H
  go_enter Try.func35, Try.ntmps35
  go_wp2_with (first | ((with_reducible refine gate_dst (N := 2) rfl ?_); refine bx 2 #[.slice none 0 0] 60 ?_; intro gb318 hg w5 hbox hb; replace BK318 := ak (hbox); replace GE318 := ak (bz hg (lG HB)); replace HB := lB HB hb; clear hb hbox hg) | ((with_reducible refine gate_callee (f := 21) rfl ?_); refine gl (some 9) Try.func21 #[.slice A0 l0.length c0] ?_; (with_reducible refine (impl_ItemsOk.calls k _ _ l0 true _ ?side1 ?side2 A2.out).mono ?_); (case side1 => exact cG (Kd.C_below HR0.out HB.out)); (case side2 => exact HC0.out); rintro e w6 ⟨rfl, hb⟩; refine ⟨_, rfl, ?_⟩; replace BK318 := bB BK318 hb; replace HB := ak (below_step (lT HB (gC GE318 gN)) hb); (try clear hb); (try clear hk)) | ((with_reducible refine gate_dst (N := 3) rfl ?_); refine bx 3 #[.slice none 0 0] 60 ?_; intro gb320 hg w7 hbox hb; replace BK320 := ak (hbox); replace GW320 := ak (bz hg (lT HB (gC GE318 gN))); replace GE320 := ak (bz hg (lT HB (gC GE318 gN))); replace HB := ak (below_step (lT HB (gC GE318 gN)) hb); replace NB318_320 := ak (nl hg (bG BK318)); replace NB320_318 := ak (ng hg (bG BK318)); replace BK318 := bB BK318 hb; clear hb hbox hg; have hnb8 := NB320_318.out; have hnc8 := NB318_320.out; obtain ⟨hcz9_0, hfz9_0⟩ := bC1 BK320) | ((with_reducible refine gate_callee (f := 74) rfl ?_); refine gl (some 14) Try.func74 #[.slice A0 l0.length c0, .func (.func 75) #[] #[]] ?_; (with_reducible refine (impl_numbers_valid.calls _ _ l0 t321 _ ?side1 ?side2 A4.out).mono ?_); (case side1 => exact Kd.C_below HR0.out (lT HB (gC GE318 (gC GE320 gN)))); (case side2 => exact HC0.out); rintro e w10 ⟨v322, rfl, ho0, hb⟩; refine ⟨_, rfl, ?_⟩; replace HO323 := ak (Kd.R_lower ho0 (below_size (lT HB (gC GE318 (gC GE320 gN))))); replace BK318 := ak (blk_below (bT BK318 (nC NB318_320 nN)) hb); replace BK320 := ak (blk_below (g := gb320) (o := .cells #[.slice none 0 0] 60 (0, 0)) (bW BK320) hb); replace HB := ak (below_step (lT HB (gC GE318 (gC GE320 gN))) hb); (try clear hb); (try clear hk); (try clear ho0); obtain ⟨Ao11, co11, eo11⟩ := Kd.R_slice HO323.out; subst eo11))
  go_loopg [16] k (fun kq v16 w' => ∃ (x16_1 : Int) (x321000_1 : List (S66)) (u321000 : Value), v16 = .int .i64 x16_1 ∧ Aside0 (impl_StateOf.l0 kq l0 t321 (t321.length : Int) x16_1 x321000_1 = some r) ∧ Aside0 (kq ≤ k) ∧ Aside0 (Kd.R (Kd.int .i64) 3 w' w.heap.size (fun _ => True) (.slice Ao11 t321.length co11) t321) ∧ Aside0 (Kd.S k66 66 w' w.heap.size (fun _ => True) u321000 x321000_1) ∧ Aside0 (w'.heap[gb318]? = some (.cells #[(.slice none 0 0)] 60 (0, 0))) ∧ Aside0 (w'.heap[gb320]? = some (.cells #[u321000] 60 (0, 0))) ∧ Aside0 (Below w.heap.size w w'))
  case atStart => exact ⟨_, _, _, rr, H', ⟨Nat.le_refl _⟩, ⟨by (with_reducible repeat (first | apply Kd.R_alloc | apply Kd.R_drewN | apply Kd.R_drew)); exact HO323.out⟩, ⟨by first | exact Kd.S_nil _ _ _ _ _ | exact Kd.N_nil _ _ _ _ _ | exact Kd.V_nil _ _ _ _ _ | exact Kd.Q_nil _ _ _ _ _ | exact Kd.R_nil _ _ _ _ _⟩, ⟨bG BK318⟩, ⟨bG BK320⟩, ⟨by exact lT HB (gC GE318 (gC GE320 gN))⟩⟩
  case round =>
   clear H'
   try clear c2
   try clear p2
   try clear c3
   try clear c7
   try clear c8
   try clear hcz9_0
   try clear hfz9_0
   obtain ⟨x16_1, x321000_1, u321000, rfl, HA, HK1, HO_14, HO_321000, BK318, BK320, HB⟩ := hrel
   cases gk with
   | zero => exact absurd HA.out (by simp [impl_StateOf.l0])
   | succ k1 =>
    have H := HA.out
    clear HA
    simp only [impl_StateOf.l0] at H
    by_cases c12 : x16_1 < (t321.length : Int)
    ·rw [if_pos c12] at H
     have c12b0 : decide (x16_1 < (t321.length : Int)) = true := decide_eq_true c12
     clear c12
     by_cases c13 : 0 ≤ x16_1
     ·rw [if_pos c13] at H
      have c13b0 : decide (0 ≤ x16_1) = true := decide_eq_true c13
      clear c13
      by_cases c14 : x16_1 < (t321.length : Int)
      ·rw [if_pos c14] at H
       have c14b0 : decide (x16_1 < (t321.length : Int)) = true := decide_eq_true c14
       clear c14
       obtain ⟨⟨t325, t326, t327, t328, t329, t330, t331, t332, t333, t334⟩, A15, H⟩ := eb H
       try dsimp only at H
       by_cases c16 : t334 = true
       ·subst c16
        rw [if_pos rfl] at H
        obtain ⟨⟨t336, t337, t338, t339, t340⟩, A17, H⟩ := eb H
        try dsimp only at H
        by_cases c18 : x321000_1.length < 1954687338268
        ·rw [if_pos c18] at H
         have LMc18 := Aside0.mk c18
         clear c18
         obtain ⟨y343, hy343⟩ : ∃ y_ : List (S66), y_ = (x321000_1 ++ [(⟨t336, t337, t338, t339, t340⟩ : S66)]) := ⟨_, rfl⟩
         replace H : (impl_StateOf.l0 k1 l0 t321 (t321.length : Int) (wrap64 (x16_1 + 1)) y343) = some r := by first | (rw [hy343]; with_reducible exact H) | (have H2_ := (Option.bind_some _ _).symm.trans H; rw [hy343]; with_reducible exact H2_) | (have H2_ := (Option.bind_some _ _).symm.trans H; with_reducible exact H2_) | with_reducible exact H | (rw [hy343]; exact H) | exact H
         have Ny343 := Aside0.mk hy343
         clear hy343
         have H' := Aside0.mk H
         clear H
         have p324 : 0 ≤ (x16_1 : Int) := oda
         have q324 : x16_1 < (t321.length : Int) := oda
         obtain ⟨ad324, e324, hx324_0⟩ := Kd.at_int (Kd.R_reads' HO_14.out).2.2 x16_1 p324 q324
         cases e324
         replace p324 := eq_true p324
         replace q324 := eq_true q324
         try go_wp2_with (first | ((with_reducible refine gate_callee (f := 76) rfl ?_); refine gl (some 23) Try.func76 #[.slice A0 l0.length c0, .int .i64 (rd t321 x16_1)] ?_; (with_reducible refine (impl_boxThere.calls _ _ l0 (rd t321 x16_1) t325 t326 t327 t328 t329 t330 t331 t332 t333 true _ ?side1 ?side2 A15.out).mono ?_); (case side1 => exact cG (Kd.C_below HR0.out HB.out)); (case side2 => exact HC0.out); rintro e w19 ⟨rfl, hb⟩; refine ⟨_, rfl, ?_⟩; replace HO_14 := rB HO_14 hb; replace HO_321000 := ak (Kd.S_below (by (with_reducible repeat (first | apply Kd.S_alloc | apply Kd.S_drewN | apply Kd.S_drew)); exact HO_321000.out) hb); replace BK318 := bB BK318 hb; replace BK320 := bB BK320 hb; replace HB := ak (below_step (lT HB (gC GE318 (gC GE320 gN))) hb); (try clear hb); (try clear hk)) | ((with_reducible refine gate_dst (N := 6) rfl ?_); refine bx 6 #[.int .i64 0, .int .i64 0, .int .i64 0, .int .i64 0, .int .i64 0, .int .i64 0, .string (⟨#[]⟩ : ByteArray), .string (⟨#[]⟩ : ByteArray), .string (⟨#[]⟩ : ByteArray)] 32 ?_; intro gb335 hg w20 hbox hb; replace HO_14 := rB HO_14 hb; replace HO_321000 := ak (Kd.S_below (by (with_reducible repeat (first | apply Kd.S_alloc | apply Kd.S_drewN | apply Kd.S_drew)); exact HO_321000.out) hb); replace BK335 := ak (hbox); replace GW335 := ak (bz hg (lT HB (gC GE318 (gC GE320 gN)))); replace GE335 := ak (bz hg (lT HB (gC GE318 (gC GE320 gN)))); replace HB := ak (below_step (lT HB (gC GE318 (gC GE320 gN))) hb); replace NB318_335 := ak (nl hg (bG BK318)); replace NB335_318 := ak (ng hg (bG BK318)); replace BK318 := bB BK318 hb; replace NB320_335 := ak (nl hg (bG BK320)); replace NB335_320 := ak (ng hg (bG BK320)); replace BK320 := bB BK320 hb; clear hb hbox hg; have hnb21 := NB335_318.out; have hnc21 := NB318_335.out; have hnb22 := NB335_320.out; have hnc22 := NB320_335.out; obtain ⟨_, _, _, _, _, _, _, _, _, _, _, _, _, _, _, _, _, _⟩ := bC9 BK335))
         have n0_ : Aside0 (Kd.R (Kd.int .i64) 3 (((((((((w20.setCell ⟨gb335, 0, none⟩ (.int .i64 t325)).setCell ⟨gb335, 1, none⟩ (.int .i64 t326)).setCell ⟨gb335, 2, none⟩ (.int .i64 t327)).setCell ⟨gb335, 3, none⟩ (.int .i64 t328)).setCell ⟨gb335, 4, none⟩ (.int .i64 t329)).setCell ⟨gb335, 5, none⟩ (.int .i64 t330)).setCell ⟨gb335, 6, none⟩ (.string t331)).setCell ⟨gb335, 7, none⟩ (.string t332)).setCell ⟨gb335, 8, none⟩ (.string t333)) w.heap.size (fun _ => True) (.slice (some ad324) t321.length co11) t321) := ⟨by exact Kd.R_mono (rT HO_14 BK335 (by decide)) (fun _ hk => trivial)⟩
         have n1_ : Aside0 (Kd.S k66 66 (((((((((w20.setCell ⟨gb335, 0, none⟩ (.int .i64 t325)).setCell ⟨gb335, 1, none⟩ (.int .i64 t326)).setCell ⟨gb335, 2, none⟩ (.int .i64 t327)).setCell ⟨gb335, 3, none⟩ (.int .i64 t328)).setCell ⟨gb335, 4, none⟩ (.int .i64 t329)).setCell ⟨gb335, 5, none⟩ (.int .i64 t330)).setCell ⟨gb335, 6, none⟩ (.string t331)).setCell ⟨gb335, 7, none⟩ (.string t332)).setCell ⟨gb335, 8, none⟩ (.string t333)) w.heap.size (fun _ => True) u321000 x321000_1) := ⟨by (with_reducible repeat (first | apply Kd.S_alloc | apply Kd.S_drewN | apply Kd.S_drew)); exact Kd.S_mono (Kd.S_far (p := ⟨gb335, 8, none⟩) (Kd.S_far (p := ⟨gb335, 7, none⟩) (Kd.S_far (p := ⟨gb335, 6, none⟩) (Kd.S_far (p := ⟨gb335, 5, none⟩) (Kd.S_far (p := ⟨gb335, 4, none⟩) (Kd.S_far (p := ⟨gb335, 3, none⟩) (Kd.S_far (p := ⟨gb335, 2, none⟩) (Kd.S_far (p := ⟨gb335, 1, none⟩) (Kd.S_far (p := ⟨gb335, 0, none⟩) (Kd.S_types HO_321000.out BK335.out (by decide)) (fun _ hk => hk.2) (.int .i64 t325)) (fun _ hk => hk.2) (.int .i64 t326)) (fun _ hk => hk.2) (.int .i64 t327)) (fun _ hk => hk.2) (.int .i64 t328)) (fun _ hk => hk.2) (.int .i64 t329)) (fun _ hk => hk.2) (.int .i64 t330)) (fun _ hk => hk.2) (.string t331)) (fun _ hk => hk.2) (.string t332)) (fun _ hk => hk.2) (.string t333)) (fun _ hk => trivial)⟩
         have n2_ : Aside0 ((((((((((w20.setCell ⟨gb335, 0, none⟩ (.int .i64 t325)).setCell ⟨gb335, 1, none⟩ (.int .i64 t326)).setCell ⟨gb335, 2, none⟩ (.int .i64 t327)).setCell ⟨gb335, 3, none⟩ (.int .i64 t328)).setCell ⟨gb335, 4, none⟩ (.int .i64 t329)).setCell ⟨gb335, 5, none⟩ (.int .i64 t330)).setCell ⟨gb335, 6, none⟩ (.string t331)).setCell ⟨gb335, 7, none⟩ (.string t332)).setCell ⟨gb335, 8, none⟩ (.string t333)).heap[gb318]? = some (.cells #[.slice none 0 0] 60 (0, 0))) := ⟨bF BK318 (nC NB318_335 nN)⟩
         have n3_ : Aside0 ((((((((((w20.setCell ⟨gb335, 0, none⟩ (.int .i64 t325)).setCell ⟨gb335, 1, none⟩ (.int .i64 t326)).setCell ⟨gb335, 2, none⟩ (.int .i64 t327)).setCell ⟨gb335, 3, none⟩ (.int .i64 t328)).setCell ⟨gb335, 4, none⟩ (.int .i64 t329)).setCell ⟨gb335, 5, none⟩ (.int .i64 t330)).setCell ⟨gb335, 6, none⟩ (.string t331)).setCell ⟨gb335, 7, none⟩ (.string t332)).setCell ⟨gb335, 8, none⟩ (.string t333)).heap[gb320]? = some (.cells #[u321000] 60 (0, 0))) := ⟨bF BK320 (nC NB320_335 nN)⟩
         have n4_ : Aside0 ((((((((((w20.setCell ⟨gb335, 0, none⟩ (.int .i64 t325)).setCell ⟨gb335, 1, none⟩ (.int .i64 t326)).setCell ⟨gb335, 2, none⟩ (.int .i64 t327)).setCell ⟨gb335, 3, none⟩ (.int .i64 t328)).setCell ⟨gb335, 4, none⟩ (.int .i64 t329)).setCell ⟨gb335, 5, none⟩ (.int .i64 t330)).setCell ⟨gb335, 6, none⟩ (.string t331)).setCell ⟨gb335, 7, none⟩ (.string t332)).setCell ⟨gb335, 8, none⟩ (.string t333)).heap[gb335]? = some (.cells #[.int .i64 t325, .int .i64 t326, .int .i64 t327, .int .i64 t328, .int .i64 t329, .int .i64 t330, .string t331, .string t332, .string t333] 32 (0, 0))) := ⟨bW BK335⟩
         have n5_ : Aside0 (Below w.heap.size w (((((((((w20.setCell ⟨gb335, 0, none⟩ (.int .i64 t325)).setCell ⟨gb335, 1, none⟩ (.int .i64 t326)).setCell ⟨gb335, 2, none⟩ (.int .i64 t327)).setCell ⟨gb335, 3, none⟩ (.int .i64 t328)).setCell ⟨gb335, 4, none⟩ (.int .i64 t329)).setCell ⟨gb335, 5, none⟩ (.int .i64 t330)).setCell ⟨gb335, 6, none⟩ (.string t331)).setCell ⟨gb335, 7, none⟩ (.string t332)).setCell ⟨gb335, 8, none⟩ (.string t333))) := ⟨by exact lT HB (gC GE318 (gC GE320 (gC GE335 gN)))⟩
         (try clear HO_14)
         (try clear HO_321000)
         (try clear BK318)
         (try clear BK320)
         (try clear BK335)
         (try clear HB)
         generalize (((((((((w20.setCell ⟨gb335, 0, none⟩ (.int .i64 t325)).setCell ⟨gb335, 1, none⟩ (.int .i64 t326)).setCell ⟨gb335, 2, none⟩ (.int .i64 t327)).setCell ⟨gb335, 3, none⟩ (.int .i64 t328)).setCell ⟨gb335, 4, none⟩ (.int .i64 t329)).setCell ⟨gb335, 5, none⟩ (.int .i64 t330)).setCell ⟨gb335, 6, none⟩ (.string t331)).setCell ⟨gb335, 7, none⟩ (.string t332)).setCell ⟨gb335, 8, none⟩ (.string t333)) = w24 at n0_ n1_ n2_ n3_ n4_ n5_ ⊢
         have HO_14 := n0_
         have HO_321000 := n1_
         have BK318 := n2_
         have BK320 := n3_
         have BK335 := n4_
         have HB := n5_
         clear n0_ n1_ n2_ n3_ n4_ n5_
         replace HO_14 := ak (Kd.R_drew HO_14.out)
         replace HO_321000 := ak (Kd.S_drew HO_321000.out)
         replace BK318 := ak (blk_drew BK318.out)
         replace BK320 := ak (blk_drew BK320.out)
         replace BK335 := ak (blk_drew BK335.out)
         replace HB := ak (below_drew1 HB.out)
         refine start_ (n := 9) (S := fun w' => w'.cell? ⟨gb320, 0, none⟩ = some (u321000) ∧ w'.cell? ⟨gb335, 0, none⟩ = some (.int .i64 t325) ∧ w'.cell? ⟨gb335, 1, none⟩ = some (.int .i64 t326) ∧ w'.cell? ⟨gb335, 2, none⟩ = some (.int .i64 t327) ∧ w'.cell? ⟨gb335, 3, none⟩ = some (.int .i64 t328) ∧ w'.cell? ⟨gb335, 4, none⟩ = some (.int .i64 t329) ∧ w'.cell? ⟨gb335, 5, none⟩ = some (.int .i64 t330) ∧ w'.cell? ⟨gb335, 6, none⟩ = some (.string t331) ∧ w'.cell? ⟨gb335, 7, none⟩ = some (.string t332) ∧ w'.cell? ⟨gb335, 8, none⟩ = some (.string t333)) (ds := [8]) #[f_,f_,f_,f_,f_,f_,f_,f_,f_] (by kernel_rfl) rfl rfl ⟨bc BK320 0, bc BK335 0, bc BK335 1, bc BK335 2, bc BK335 3, bc BK335 4, bc BK335 5, bc BK335 6, bc BK335 7, bc BK335 8⟩ (fun hHeld => ?_); refine with_tabW impl_StateOf.tab9 impl_StateOf.bits9 (fun HT_ HW_ => ?_)
         generalize w24.drew = w25 at HO_14 HO_321000 BK318 BK320 BK335 HB hHeld ⊢
         refine pu 0 27 (fb 9 1) HT_ ?_
         refine pu 2 29 (fb 9 5) HT_ ?_
         refine tk 1 28 (fb 9 7) HT_ HW_ hHeld ?_
         refine tk 3 30 (fb 9 15) HT_ HW_ hHeld ?_
         refine on 4 (some 31) (fb 9 31) HT_ (fun K hK => ?_)
         refine goes_ Try.func77 (by kernel_rfl) rfl #[.slice A0 l0.length c0, .agg #[.int .i64 t325, .int .i64 t326, .int .i64 t327, .int .i64 t328, .int .i64 t329, .int .i64 t330, .string t331, .string t332, .string t333]] (by rfl) rfl rfl (by (try simp only [List.map_toArray, List.map_cons, List.map_nil]); first | done | rfl | (simp only [List.length_drop, List.length_take]; rfl)) ?_
         with_reducible refine (impl_boxState.calls k1 _ _ l0 t325 t326 t327 t328 t329 t330 t331 t332 t333 t336 t337 t338 t339 t340 _ ?side1 ?side2 A17.out).mono ?_
         (case side1 => exact cG (Kd.C_below HR0.out HB.out))
         (case side2 => exact HC0.out)
         rintro e w26 ⟨v341, rfl, ho0, hb⟩
         refine ⟨_, rfl, ?_⟩
         replace HO_14 := rB HO_14 hb
         replace HO_321000 := ak (Kd.S_elder' (by (with_reducible repeat (first | apply Kd.S_alloc | apply Kd.S_drewN | apply Kd.S_drew)); exact HO_321000.out) (Kd.R_base ho0) hb)
         replace HO342 := ak (Kd.R_lower ho0 (below_size (lT HB (gC GE318 (gC GE320 (gC GE335 gN))))))
         replace BK318 := bB BK318 hb
         replace BK320 := bB BK320 hb
         replace BK335 := bB BK335 hb
         replace HB := ak (below_step (lT HB (gC GE318 (gC GE320 (gC GE335 gN)))) hb)
         (try clear hb)
         (try clear hb2)
         (try clear hk)
         (try clear hi)
         (try clear ho0)
         obtain ⟨Ao28, co28, eo28⟩ := Kd.R_slice HO342.out
         (first | subst eo28 | (injection eo28 with f1_ f2_ f3_; have f4_ := f1_.symm; have f5_ := f3_.symm; clear f1_ f2_ f3_; subst f4_; subst f5_))
         refine hK.out _ _ ⟨bc BK320 0, bc BK335 0, bc BK335 1, bc BK335 2, bc BK335 3, bc BK335 4, bc BK335 5, bc BK335 6, bc BK335 7, bc BK335 8⟩ (fun hHeld => ?_)
         clear hK K
         refine nm ?_
         refine on 5 (some 32) (fb 9 63) HT_ (fun K hK => ?_)
         refine value_ (w1 := ?_) (v := ?_) (by rfl) rfl ?_ ?_
         rotate_left 2
         ·go_simp
          constructor
          ·rfl
          ·rfl
         refine hK.out _ _ ⟨(blk_cell (blk_alloc BK320.out _) 0).trans rfl, (blk_cell (blk_alloc BK335.out _) 0).trans rfl, (blk_cell (blk_alloc BK335.out _) 1).trans rfl, (blk_cell (blk_alloc BK335.out _) 2).trans rfl, (blk_cell (blk_alloc BK335.out _) 3).trans rfl, (blk_cell (blk_alloc BK335.out _) 4).trans rfl, (blk_cell (blk_alloc BK335.out _) 5).trans rfl, (blk_cell (blk_alloc BK335.out _) 6).trans rfl, (blk_cell (blk_alloc BK335.out _) 7).trans rfl, (blk_cell (blk_alloc BK335.out _) 8).trans rfl⟩ (fun hHeld => ?_)
         clear hK K
         refine nm ?_
         refine on 6 (some 33) (fb 9 127) HT_ (fun K hK => ?_)
         refine Kd.S_append_step k66 (w0 := w) w.heap.size (by rfl) (.tmp 28) (.tmp 32) 58 66 (.agg #[(.int .i64 0), (.string ⟨#[]⟩), (.string ⟨#[]⟩), (.int .i64 0), (.slice none 0 0)]) 72 rfl Try.underlying58 info66 rfl (by decide) (by omega) u321000 x321000_1 (⟨t336, t337, t338, t339, t340⟩ : S66) [.int .i64 t336, .string t337, .string t338, .int .i64 t339, .slice Ao28 t340.length co28] (fun _ => True) (fun k_ => some k_ = (.slice Ao28 t340.length co28 : Value).ownBlock) rfl rfl ?aP (fun k_ hk_ => ((Kd.R_mono (ok' := fun k_ => ((fun _ => True)) k_ ∧ some k_ ≠ (u321000 : Value).ownBlock) (Kd.R_apart' (HO342.out) (Kd.S_typed HO_321000.out) (by decide)) (fun k_ hk => ⟨trivial, hk.2⟩))).1 k_ hk_.symm) ?aF ?aO ?aB ?aS ?aL ?_
         (case aP => exact k66_mkM _ _ _ (⟨t336, t337, t338, t339, t340⟩ : S66) (Kd.R_mono (Kd.R_tight rfl (Kd.R_mono (ok' := fun k_ => ((fun _ => True)) k_ ∧ some k_ ≠ (u321000 : Value).ownBlock) (Kd.R_apart' (HO342.out) (Kd.S_typed HO_321000.out) (by decide)) (fun k_ hk => ⟨trivial, hk.2⟩))) (fun _ h_ => h_)))
         (case aB => exact (lT HB (gC GE318 (gC GE320 (gC GE335 gN)))))
         (case aF => exact (fun _ _ => trivial))
         (case aO => exact (by (with_reducible repeat (first | apply Kd.S_alloc | apply Kd.S_drewN | apply Kd.S_drew)); exact Kd.S_mono HO_321000.out (fun k_ hk => ⟨trivial, fun e_ => hk.2 e_⟩)))
         (case aS => exact (below_size (lT HB (gC GE318 (gC GE320 (gC GE335 gN))))))
         (case aL => have := LMc18.out; omega)
         intro v344 w27 ho hb hg hat
         rw [← Ny343.out] at ho
         have n0_ := ak (Kd.R_over' (rG HO_14) (Kd.S_typed (by (with_reducible repeat (first | apply Kd.S_alloc | apply Kd.S_drewN | apply Kd.S_drew)); exact HO_321000.out)) (by decide) hg)
         have n1_ := ak (blk_grown (g := gb318) (o := .cells #[.slice none 0 0] 60 (0, 0)) (bG BK318) hg (Kd.S_ne HO_321000.out BK318.out (by decide)))
         have n2_ := ak (blk_grown (g := gb320) (o := .cells #[u321000] 60 (0, 0)) (bG BK320) hg (Kd.S_ne HO_321000.out BK320.out (by decide)))
         have n3_ := ak (blk_grown (g := gb335) (o := .cells #[.int .i64 t325, .int .i64 t326, .int .i64 t327, .int .i64 t328, .int .i64 t329, .int .i64 t330, .string t331, .string t332, .string t333] 32 (0, 0)) (bG BK335) hg (Kd.S_ne HO_321000.out BK335.out (by decide)))
         have n4_ := ak (hb)
         have n5_ := ak (ho)
         clear HO_14
         clear BK318
         clear BK320
         clear BK335
         clear HB
         clear HO_321000
         clear HO342
         have HO_14 := n0_
         have BK318 := n1_
         have BK320 := n2_
         have BK335 := n3_
         have HB := n4_
         have HO345 := n5_
         clear n0_ n1_ n2_ n3_ n4_ n5_
         clear ho hb hg hat
         obtain ⟨Ao29, co29, eo29⟩ := Kd.S_slice HO345.out
         (first | subst eo29 | (injection eo29 with f1_ f2_ f3_; have f4_ := f1_.symm; have f5_ := f3_.symm; clear f1_ f2_ f3_; subst f4_; subst f5_))
         refine hK.out _ _ ⟨bc BK320 0, bc BK335 0, bc BK335 1, bc BK335 2, bc BK335 3, bc BK335 4, bc BK335 5, bc BK335 6, bc BK335 7, bc BK335 8⟩ (fun hHeld => ?_)
         clear hK K
         refine nm ?_
         refine pu 7 34 (fb 9 255) HT_ ?_
         refine last_ (i := 8) (N := none) #[t_,t_,t_,t_,t_,t_,t_,t_,t_] rfl rfl (one_of HT_.out (by kernel_rfl)) (by decide) (fun K hK => ?_)
         have hs30 : w27.cell? ⟨gb320, 0, none⟩ = some (u321000) := bc BK320 0
         have hfs30 := blk_frozen BK320.out 0
         have hns30_0 := NB318_320.out
         have hns30_2 := NB335_320.out
         have hms30_0 := NB320_318.out
         have hms30_2 := NB320_335.out
         refine skip_ (w1 := ?_) (by rfl) rfl ?_ ?_
         rotate_left
         ·go_simp
          rfl
         refine hK.out _ _ ?_
         clear hK K
         refine done_ (done_of HT_.out (by kernel_rfl)) ?_
         try go_wp2
         go_roundg k1
         case measure => have := HK1.out; omega
         case rel => exact ⟨_, _, _, rr, H', ⟨by have := HK1.out; omega⟩, ⟨by exact Kd.R_mono (rT HO_14 BK320 (by decide)) (fun _ hk => trivial)⟩, ⟨by (with_reducible repeat (first | apply Kd.S_alloc | apply Kd.S_drewN | apply Kd.S_drew)); exact Kd.S_mono (Kd.S_far (p := ⟨gb320, 0, none⟩) (Kd.S_types HO345.out BK320.out (by decide)) (fun _ hk => hk.2) (.slice Ao29 y343.length co29)) (fun _ hk => trivial)⟩, ⟨bF BK318 (nC NB318_320 nN)⟩, ⟨bW BK320⟩, ⟨by exact lT HB (gC GE318 (gC GE320 (gC GE335 gN)))⟩⟩
        ·rw [if_neg c18] at H
         exact absurd H (by simp)
       ·replace c16 := Bool.eq_false_iff.mpr c16
        subst c16
        rw [if_neg (show ¬ (false = true) by decide)] at H
        have H' := Aside0.mk H
        clear H
        have p324 : 0 ≤ (x16_1 : Int) := oda
        have q324 : x16_1 < (t321.length : Int) := oda
        obtain ⟨ad324, e324, hx324_0⟩ := Kd.at_int (Kd.R_reads' HO_14.out).2.2 x16_1 p324 q324
        cases e324
        replace p324 := eq_true p324
        replace q324 := eq_true q324
        go_wp2_with (first | ((with_reducible refine gate_callee (f := 76) rfl ?_); refine gl (some 23) Try.func76 #[.slice A0 l0.length c0, .int .i64 (rd t321 x16_1)] ?_; (with_reducible refine (impl_boxThere.calls _ _ l0 (rd t321 x16_1) t325 t326 t327 t328 t329 t330 t331 t332 t333 false _ ?side1 ?side2 A15.out).mono ?_); (case side1 => exact cG (Kd.C_below HR0.out HB.out)); (case side2 => exact HC0.out); rintro e w31 ⟨rfl, hb⟩; refine ⟨_, rfl, ?_⟩; replace HO_14 := rB HO_14 hb; replace HO_321000 := ak (Kd.S_below (by (with_reducible repeat (first | apply Kd.S_alloc | apply Kd.S_drewN | apply Kd.S_drew)); exact HO_321000.out) hb); replace BK318 := bB BK318 hb; replace BK320 := bB BK320 hb; replace HB := ak (below_step (lT HB (gC GE318 (gC GE320 gN))) hb); (try clear hb); (try clear hk)) | ((with_reducible refine gate_dst (N := 6) rfl ?_); refine bx 6 #[.int .i64 0, .int .i64 0, .int .i64 0, .int .i64 0, .int .i64 0, .int .i64 0, .string (⟨#[]⟩ : ByteArray), .string (⟨#[]⟩ : ByteArray), .string (⟨#[]⟩ : ByteArray)] 32 ?_; intro gb335 hg w32 hbox hb; replace HO_14 := rB HO_14 hb; replace HO_321000 := ak (Kd.S_below (by (with_reducible repeat (first | apply Kd.S_alloc | apply Kd.S_drewN | apply Kd.S_drew)); exact HO_321000.out) hb); replace BK335 := ak (hbox); replace GW335 := ak (bz hg (lT HB (gC GE318 (gC GE320 gN)))); replace GE335 := ak (bz hg (lT HB (gC GE318 (gC GE320 gN)))); replace HB := ak (below_step (lT HB (gC GE318 (gC GE320 gN))) hb); replace NB318_335 := ak (nl hg (bG BK318)); replace NB335_318 := ak (ng hg (bG BK318)); replace BK318 := bB BK318 hb; replace NB320_335 := ak (nl hg (bG BK320)); replace NB335_320 := ak (ng hg (bG BK320)); replace BK320 := bB BK320 hb; clear hb hbox hg; have hnb33 := NB335_318.out; have hnc33 := NB318_335.out; have hnb34 := NB335_320.out; have hnc34 := NB320_335.out; obtain ⟨_, _, _, _, _, _, _, _, _, _, _, _, _, _, _, _, _, _⟩ := bC9 BK335))
        go_roundg k1
        case measure => have := HK1.out; omega
        case rel => exact ⟨_, _, _, rr, H', ⟨by have := HK1.out; omega⟩, ⟨by exact Kd.R_mono (rT HO_14 BK335 (by decide)) (fun _ hk => trivial)⟩, ⟨by (with_reducible repeat (first | apply Kd.S_alloc | apply Kd.S_drewN | apply Kd.S_drew)); exact Kd.S_mono (Kd.S_far (p := ⟨gb335, 8, none⟩) (Kd.S_far (p := ⟨gb335, 7, none⟩) (Kd.S_far (p := ⟨gb335, 6, none⟩) (Kd.S_far (p := ⟨gb335, 5, none⟩) (Kd.S_far (p := ⟨gb335, 4, none⟩) (Kd.S_far (p := ⟨gb335, 3, none⟩) (Kd.S_far (p := ⟨gb335, 2, none⟩) (Kd.S_far (p := ⟨gb335, 1, none⟩) (Kd.S_far (p := ⟨gb335, 0, none⟩) (Kd.S_types HO_321000.out BK335.out (by decide)) (fun _ hk => hk.2) (.int .i64 t325)) (fun _ hk => hk.2) (.int .i64 t326)) (fun _ hk => hk.2) (.int .i64 t327)) (fun _ hk => hk.2) (.int .i64 t328)) (fun _ hk => hk.2) (.int .i64 t329)) (fun _ hk => hk.2) (.int .i64 t330)) (fun _ hk => hk.2) (.string t331)) (fun _ hk => hk.2) (.string t332)) (fun _ hk => hk.2) (.string t333)) (fun _ hk => trivial)⟩, ⟨bF BK318 (nC NB318_335 nN)⟩, ⟨bF BK320 (nC NB320_335 nN)⟩, ⟨by exact lT HB (gC GE318 (gC GE320 (gC GE335 gN)))⟩⟩
      ·rw [if_neg c14] at H
       exact absurd H (by simp)
     ·rw [if_neg c13] at H
      exact absurd H (by simp)
    ·rw [if_neg c12] at H
     have c12b0 : decide (x16_1 < (t321.length : Int)) = false := decide_eq_false c12
     clear c12
     obtain rfl := Option.some.inj H
     have hnb36 := NB320_318.out
     have hnc36 := NB318_320.out
     obtain ⟨_, _⟩ := bC1 BK320
     obtain ⟨Ao38, co38, eo38⟩ := Kd.S_slice HO_321000.out
     subst eo38
     obtain ⟨_, _⟩ := bC1 BK318
     go_wp2
     refine bodyPost_ret (results_cell_row rfl _ _ gb318 60 #[.slice Ao38 x321000_1.length co38] (0, 0) _ rfl (bW BK318) Try.underlying60 rfl (by kernel_rfl)) rfl ?_
     exact ⟨_, ew, by (with_reducible repeat (first | apply Kd.S_alloc | apply Kd.S_drewN | apply Kd.S_drew)); exact Kd.S_mono (Kd.S_far (p := ⟨gb318, 0, none⟩) (Kd.S_types HO_321000.out BK318.out (by decide)) (fun _ hk => hk.2) (.slice Ao38 x321000_1.length co38)) (fun _ hk => trivial), by exact lT HB (gC GE318 (gC GE320 gN))⟩
 ·replace c3 := Bool.eq_false_iff.mpr c3
  subst c3
  rw [if_neg (show ¬ (false = true) by decide)] at H
  obtain rfl := Option.some.inj H
  go_enter Try.func35, Try.ntmps35
  go_wp2_with (first | ((with_reducible refine gate_dst (N := 2) rfl ?_); refine bx 2 #[.slice none 0 0] 60 ?_; intro gb318 hg w40 hbox hb; replace BK318 := ak (hbox); replace GE318 := ak (bz hg (lG HB)); replace HB := lB HB hb; clear hb hbox hg) | ((with_reducible refine gate_callee (f := 21) rfl ?_); refine gl (some 9) Try.func21 #[.slice A0 l0.length c0] ?_; (with_reducible refine (impl_ItemsOk.calls k _ _ l0 false _ ?side1 ?side2 A2.out).mono ?_); (case side1 => exact cG (Kd.C_below HR0.out HB.out)); (case side2 => exact HC0.out); rintro e w41 ⟨rfl, hb⟩; refine ⟨_, rfl, ?_⟩; replace BK318 := bB BK318 hb; replace HB := ak (below_step (lT HB (gC GE318 gN)) hb); (try clear hb); (try clear hk); obtain ⟨_, _⟩ := bC1 BK318))
  refine bodyPost_ret (results_cell_row rfl _ _ gb318 60 #[.slice none 0 0] (0, 0) _ rfl (bW BK318) Try.underlying60 rfl (by kernel_rfl)) rfl ?_
  exact ⟨_, ew, by first | exact Kd.S_nil _ _ _ _ _ | exact Kd.N_nil _ _ _ _ _ | exact Kd.V_nil _ _ _ _ _ | exact Kd.Q_nil _ _ _ _ _ | exact Kd.R_nil _ _ _ _ _, by exact lT HB (gC GE318 gN)⟩
/-! ### laws_mixed: function 36 -/
mutual
def laws_mixed.l0 : Nat → List (S32) → Int → List (S32) → Int → Option ((List (S32)))
 | 0, _, _, _, _ => none
 | k + 1, x0, x1, x5, x6 => if x6 < (x0.length : Int) then (if (x0.length : Int) = 0 then (none) else (if 0 ≤ (Int.tmod (wrap64 (x6 + x1)) (x0.length : Int)) then (if (Int.tmod (wrap64 (x6 + x1)) (x0.length : Int)) < (x0.length : Int) then (if x5.length < 1466015503701 then (laws_mixed.l0 k x0 x1 (x5 ++ [(⟨(rd_T32 x0 (Int.tmod (wrap64 (x6 + x1)) (x0.length : Int))).f0, (⟨(rd_T32 x0 (Int.tmod (wrap64 (x6 + x1)) (x0.length : Int))).f1.f0, (rd_T32 x0 (Int.tmod (wrap64 (x6 + x1)) (x0.length : Int))).f1.f1, (rd_T32 x0 (Int.tmod (wrap64 (x6 + x1)) (x0.length : Int))).f1.f2, (rd_T32 x0 (Int.tmod (wrap64 (x6 + x1)) (x0.length : Int))).f1.f3, (rd_T32 x0 (Int.tmod (wrap64 (x6 + x1)) (x0.length : Int))).f1.f4, (rd_T32 x0 (Int.tmod (wrap64 (x6 + x1)) (x0.length : Int))).f1.f5, (rd_T32 x0 (Int.tmod (wrap64 (x6 + x1)) (x0.length : Int))).f1.f6, (rd_T32 x0 (Int.tmod (wrap64 (x6 + x1)) (x0.length : Int))).f1.f7⟩ : S23)⟩ : S32)]) (wrap64 (x6 + 1))) else (none)) else (none)) else (none))) else (laws_mixed.l1 k x5 0)
def laws_mixed.l1 : Nat → List (S32) → Int → Option ((List (S32)))
 | 0, _, _ => none
 | k + 1, x5, x7 => if (wrap64 (x7 + 1)) < (x5.length : Int) then (if 0 ≤ x7 then (if x7 < (x5.length : Int) then (if 0 ≤ (wrap64 (x7 + 1)) then (laws_mixed.l1 k ((x5.set (x7 : Int).toNat (⟨(rd_T32 x5 (wrap64 (x7 + 1))).f0, (⟨(rd_T32 x5 (wrap64 (x7 + 1))).f1.f0, (rd_T32 x5 (wrap64 (x7 + 1))).f1.f1, (rd_T32 x5 (wrap64 (x7 + 1))).f1.f2, (rd_T32 x5 (wrap64 (x7 + 1))).f1.f3, (rd_T32 x5 (wrap64 (x7 + 1))).f1.f4, (rd_T32 x5 (wrap64 (x7 + 1))).f1.f5, (rd_T32 x5 (wrap64 (x7 + 1))).f1.f6, (rd_T32 x5 (wrap64 (x7 + 1))).f1.f7⟩ : S23)⟩ : S32)).set ((wrap64 (x7 + 1)) : Int).toNat (⟨(rd_T32 x5 x7).f0, (⟨(rd_T32 x5 x7).f1.f0, (rd_T32 x5 x7).f1.f1, (rd_T32 x5 x7).f1.f2, (rd_T32 x5 x7).f1.f3, (rd_T32 x5 x7).f1.f4, (rd_T32 x5 x7).f1.f5, (rd_T32 x5 x7).f1.f6, (rd_T32 x5 x7).f1.f7⟩ : S23)⟩ : S32)) (wrap64 (x7 + 2))) else (none)) else (none)) else (none)) else (some x5)
end
def laws_mixed.f (k : Nat) (l0 : List (S32)) (a1 : Int) : Option ((List (S32))) := laws_mixed.l0 k l0 a1 (([] : List (S32))) 0
theorem laws_mixed.mono_l : ∀ k, (∀ y0 y1 y2 y3, LeO (laws_mixed.l0 k y0 y1 y2 y3) (laws_mixed.l0 (k + 1) y0 y1 y2 y3)) ∧ (∀ y0 y1, LeO (laws_mixed.l1 k y0 y1) (laws_mixed.l1 (k + 1) y0 y1))
 | 0 => ⟨fun _ _ _ _ r h => by simp [laws_mixed.l0] at h, fun _ _ r h => by simp [laws_mixed.l1] at h⟩
 | k + 1 => by
  obtain ⟨ih0, ih1⟩ := laws_mixed.mono_l k
  refine ⟨?_, ?_⟩
  ·intro y0 y1 y2 y3
   unfold laws_mixed.l0
   repeat' first
   | (with_reducible exact ih0 _ _ _ _)
   | (with_reducible exact ih1 _ _)
   | (with_reducible exact LeO.refl _)
   | (with_reducible exact LeO.none _)
   | (with_reducible refine LeO.ite ?_ ?_)
   | (with_reducible refine LeO.bind ?_ (fun _ => ?_))
   | exact ih0 _ _ _ _
   | exact ih1 _ _
   | exact LeO.none _
   | refine LeO.ite ?_ ?_
   | refine LeO.bind ?_ (fun _ => ?_)
  ·intro y0 y1
   unfold laws_mixed.l1
   repeat' first
   | (with_reducible exact ih0 _ _ _ _)
   | (with_reducible exact ih1 _ _)
   | (with_reducible exact LeO.refl _)
   | (with_reducible exact LeO.none _)
   | (with_reducible refine LeO.ite ?_ ?_)
   | (with_reducible refine LeO.bind ?_ (fun _ => ?_))
   | exact ih0 _ _ _ _
   | exact ih1 _ _
   | exact LeO.none _
   | refine LeO.ite ?_ ?_
   | refine LeO.bind ?_ (fun _ => ?_)
theorem laws_mixed.mono : ∀ a0 a1 k, LeO (laws_mixed.f k a0 a1) (laws_mixed.f (k + 1) a0 a1) := by
 intro a0 a1 k
 obtain ⟨ih0, ih1⟩ := laws_mixed.mono_l k
 unfold laws_mixed.f
 repeat' first
   | (with_reducible exact ih0 _ _ _ _)
   | (with_reducible exact ih1 _ _)
   | (with_reducible exact LeO.refl _)
   | (with_reducible exact LeO.none _)
   | (with_reducible refine LeO.ite ?_ ?_)
   | (with_reducible refine LeO.bind ?_ (fun _ => ?_))
   | exact ih0 _ _ _ _
   | exact ih1 _ _
   | exact LeO.none _
   | refine LeO.ite ?_ ?_
   | refine LeO.bind ?_ (fun _ => ?_)
theorem laws_mixed.calls (k : Nat) (A0 : Option Addr) (c0 : Nat) (l0 : List (S32)) (a1 : Int) (r : List (S32)) (w : World) (hr0 : Kd.C k32 w A0 l0.length l0) (hc0 : l0.length ≤ c0) (h : laws_mixed.f k l0 a1 = some r) :
  Calls Try.prog 36 #[.slice A0 l0.length c0, .int .i64 a1] w fun e w' => ∃ v0_ : Value, e = .returned (v0_) ∧ Kd.R k32 32 w' w.heap.size (fun _ => True) v0_ r ∧ Below w.heap.size w w' := by
 have hu32 := Try.underlying32
 have HR0 := Aside0.mk hr0
 have HC0 := Aside0.mk hc0
 clear hr0 hc0
 have HB := ak (Below.refl w.heap.size w)
 have H : (laws_mixed.l0 k l0 a1 (([] : List (S32))) 0) = some r := h
 clear h
 obtain ⟨y346, hy346⟩ : ∃ y_ : List (S32), y_ = (([] : List (S32))) := ⟨_, rfl⟩
 replace H : (laws_mixed.l0 k l0 a1 y346 0) = some r := by first | (rw [hy346]; with_reducible exact H) | (have H2_ := (Option.bind_some _ _).symm.trans H; rw [hy346]; with_reducible exact H2_) | (have H2_ := (Option.bind_some _ _).symm.trans H; with_reducible exact H2_) | with_reducible exact H | (rw [hy346]; exact H) | exact H
 have Ny346 := Aside0.mk hy346
 clear hy346
 have H' := Aside0.mk H
 clear H
 go_enter Try.func36, Try.ntmps36
 go_wp2_with (first | ((with_reducible refine gate_dst (N := 9) rfl ?_); refine Kd.R_lit k32 _ 32 ?hg (N := 9) ?hd (xs := ([] : List (S32))) (inner := []) (ok := fun _ => True) (okp := fun _ => True) ?hr ?hp (fun _ hk => hk) trivial (Below.refl _ _) (Nat.le_refl _) (by simp) ?_; (case hd => rfl); (case hg => rfl); (case hr => first | (go_simp; done) | (go_simp; rfl)); (case hp => exact (Reps.none _ _)); intro v347 w3 ho4 hb hg_ hnew_; clear hg_ hnew_; (first | rw [← Ny346.out] at ho4 | (simp only [Int.reduceToNat] at ho4; rw [← Ny346.out] at ho4)); replace HO348 := ak (Kd.R_lower ho4 (below_size (lG HB))); replace HB := lB HB hb; clear hb ho4))
 go_loopg [5, 6] k (fun kq v5 v6 w' => ∃ (x5_1 : List (S32)) (x6_1 : Int), v6 = .int .i64 x6_1 ∧ Aside0 (laws_mixed.l0 kq l0 a1 x5_1 x6_1 = some r) ∧ Aside0 (kq ≤ k) ∧ Aside0 (Kd.R k32 32 w' w.heap.size (fun _ => True) v5 x5_1) ∧ Aside0 (Below w.heap.size w w'))
 case atStart => exact ⟨_, _, rr, H', ⟨Nat.le_refl _⟩, ⟨by (with_reducible repeat (first | apply Kd.R_alloc | apply Kd.R_drewN | apply Kd.R_drew)); exact HO348.out⟩, ⟨by exact lG HB⟩⟩
 case round =>
  clear H'
  try clear p2
  try clear c3
  obtain ⟨x5_1, x6_1, rfl, HA, HK1, HO_5, HB⟩ := hrel
  cases gk with
  | zero => exact absurd HA.out (by simp [laws_mixed.l0])
  | succ k1 =>
   have H := HA.out
   clear HA
   simp only [laws_mixed.l0] at H
   by_cases c5 : x6_1 < (l0.length : Int)
   ·rw [if_pos c5] at H
    have c5b0 : decide (x6_1 < (l0.length : Int)) = true := decide_eq_true c5
    clear c5
    by_cases c6 : (l0.length : Int) = 0
    ·rw [if_pos c6] at H
     exact absurd H (by simp)
    ·rw [if_neg c6] at H
     have c6b0 : ((l0.length : Int) == 0) = false := beq_eq_false_iff_ne.mpr c6
     have c6b1 : ((l0.length : Int) != 0) = true := bne_iff_ne.mpr c6
     have c6b2 : ¬ (l0 = []) := fun h_ => c6 (by rw [h_]; rfl)
     obtain ⟨ji7, hji7⟩ : ∃ j_ : Int, (Int.tmod (wrap64 (x6_1 + a1)) (l0.length : Int)) = j_ := ⟨_, rfl⟩
     replace H : (if 0 ≤ (ji7) then (if (ji7) < (l0.length : Int) then (if x5_1.length < 1466015503701 then (laws_mixed.l0 k1 l0 a1 (x5_1 ++ [(⟨(rd_T32 l0 (ji7)).f0, (⟨(rd_T32 l0 (ji7)).f1.f0, (rd_T32 l0 (ji7)).f1.f1, (rd_T32 l0 (ji7)).f1.f2, (rd_T32 l0 (ji7)).f1.f3, (rd_T32 l0 (ji7)).f1.f4, (rd_T32 l0 (ji7)).f1.f5, (rd_T32 l0 (ji7)).f1.f6, (rd_T32 l0 (ji7)).f1.f7⟩ : S23)⟩ : S32)]) (wrap64 (x6_1 + 1))) else (none)) else (none)) else (none)) = some r := by first | (rw [hji7] at H; exact H) | (simp only [hji7] at H ⊢; exact H)
     by_cases c8 : 0 ≤ (ji7)
     ·rw [if_pos c8] at H
      have c8b0 : decide (0 ≤ (ji7)) = true := decide_eq_true c8
      clear c8
      by_cases c9 : (ji7) < (l0.length : Int)
      ·rw [if_pos c9] at H
       have c9b0 : decide ((ji7) < (l0.length : Int)) = true := decide_eq_true c9
       clear c9
       by_cases c10 : x5_1.length < 1466015503701
       ·rw [if_pos c10] at H
        have LMc10 := Aside0.mk c10
        clear c10
        obtain ⟨y350, hy350⟩ : ∃ y_ : List (S32), y_ = (x5_1 ++ [(⟨(rd_T32 l0 (ji7)).f0, (⟨(rd_T32 l0 (ji7)).f1.f0, (rd_T32 l0 (ji7)).f1.f1, (rd_T32 l0 (ji7)).f1.f2, (rd_T32 l0 (ji7)).f1.f3, (rd_T32 l0 (ji7)).f1.f4, (rd_T32 l0 (ji7)).f1.f5, (rd_T32 l0 (ji7)).f1.f6, (rd_T32 l0 (ji7)).f1.f7⟩ : S23)⟩ : S32)]) := ⟨_, rfl⟩
        replace H : (laws_mixed.l0 k1 l0 a1 y350 (wrap64 (x6_1 + 1))) = some r := by first | (rw [hy350]; with_reducible exact H) | (have H2_ := (Option.bind_some _ _).symm.trans H; rw [hy350]; with_reducible exact H2_) | (have H2_ := (Option.bind_some _ _).symm.trans H; with_reducible exact H2_) | with_reducible exact H | (rw [hy350]; exact H) | exact H
        have Ny350 := Aside0.mk hy350
        clear hy350
        have H' := Aside0.mk H
        clear H
        have p349 : 0 ≤ ((ji7) : Int) := oda
        have q349 : (ji7) < (l0.length : Int) := oda
        obtain ⟨ad349, e349, hx349_0, hx349_1, hx349_2, hx349_3, hx349_4, hx349_5, hx349_6, hx349_7, hx349_8⟩ := at_T32 HR0.out (ji7) p349 q349
        cases e349
        replace hx349_0 := (HB.out.cell (World.block_lt_of_cell? w _ hx349_0)).trans hx349_0
        replace hx349_1 := (HB.out.cell (World.block_lt_of_cell? w _ hx349_1)).trans hx349_1
        replace hx349_2 := (HB.out.cell (World.block_lt_of_cell? w _ hx349_2)).trans hx349_2
        replace hx349_3 := (HB.out.cell (World.block_lt_of_cell? w _ hx349_3)).trans hx349_3
        replace hx349_4 := (HB.out.cell (World.block_lt_of_cell? w _ hx349_4)).trans hx349_4
        replace hx349_5 := (HB.out.cell (World.block_lt_of_cell? w _ hx349_5)).trans hx349_5
        replace hx349_6 := (HB.out.cell (World.block_lt_of_cell? w _ hx349_6)).trans hx349_6
        replace hx349_7 := (HB.out.cell (World.block_lt_of_cell? w _ hx349_7)).trans hx349_7
        replace hx349_8 := (HB.out.cell (World.block_lt_of_cell? w _ hx349_8)).trans hx349_8
        replace p349 := eq_true p349
        replace q349 := eq_true q349
        go_wp2_with (first | ((with_reducible refine gate_builtin (b := .append) (xs := #[.tmp 16, .tmp 26]) rfl ?_); at_builtin; refine Kd.R_append k32 (w0 := w) w.heap.size rfl (.tmp 16) (.tmp 26) 42 32 (.agg #[(.int .i64 0), (.int .i64 0), (.int .i64 0), (.int .i64 0), (.int .i64 0), (.int .i64 0), (.string ⟨#[]⟩), (.string ⟨#[]⟩), (.string ⟨#[]⟩)]) 96 rfl Try.underlying42 info32 rfl (by decide) (by omega) u5 x5_1 (⟨(rd_T32 l0 (ji7)).f0, (⟨(rd_T32 l0 (ji7)).f1.f0, (rd_T32 l0 (ji7)).f1.f1, (rd_T32 l0 (ji7)).f1.f2, (rd_T32 l0 (ji7)).f1.f3, (rd_T32 l0 (ji7)).f1.f4, (rd_T32 l0 (ji7)).f1.f5, (rd_T32 l0 (ji7)).f1.f6, (rd_T32 l0 (ji7)).f1.f7⟩ : S23)⟩ : S32) [.int .i64 ((rd_T32 l0 (ji7)).f0), .int .i64 ((rd_T32 l0 (ji7)).f1.f0), .int .i64 ((rd_T32 l0 (ji7)).f1.f1), .int .i64 ((rd_T32 l0 (ji7)).f1.f2), .int .i64 ((rd_T32 l0 (ji7)).f1.f3), .int .i64 ((rd_T32 l0 (ji7)).f1.f4), .string ((rd_T32 l0 (ji7)).f1.f5), .string ((rd_T32 l0 (ji7)).f1.f6), .string ((rd_T32 l0 (ji7)).f1.f7)] (fun _ => True) (fun _ => False) rfl rfl ?aP (fun _ hk => hk.elim) ?aF ?aO ?aB ?aS ?aL ?_; (case aP => exact k32_mkM _ _ _ (⟨(rd_T32 l0 (ji7)).f0, (⟨(rd_T32 l0 (ji7)).f1.f0, (rd_T32 l0 (ji7)).f1.f1, (rd_T32 l0 (ji7)).f1.f2, (rd_T32 l0 (ji7)).f1.f3, (rd_T32 l0 (ji7)).f1.f4, (rd_T32 l0 (ji7)).f1.f5, (rd_T32 l0 (ji7)).f1.f6, (rd_T32 l0 (ji7)).f1.f7⟩ : S23)⟩ : S32)); (case aB => exact (lG HB)); (case aF => exact (fun _ _ => trivial)); (case aO => exact (rG HO_5)); (case aS => exact (below_size (lG HB))); (case aL => have := LMc10.out; omega); intro v351 w11 ho hb hg hat; rw [← Ny350.out] at ho; have n0_ := ak (hb); have n1_ := ak (ho); clear HB; clear HO_5; have HB := n0_; have HO352 := n1_; clear n0_ n1_; clear ho hb hg hat))
        go_roundg k1
        case measure => have := HK1.out; omega
        case rel => exact ⟨_, _, rr, H', ⟨by have := HK1.out; omega⟩, ⟨by (with_reducible repeat (first | apply Kd.R_alloc | apply Kd.R_drewN | apply Kd.R_drew)); exact HO352.out⟩, ⟨by exact lG HB⟩⟩
       ·rw [if_neg c10] at H
        exact absurd H (by simp)
      ·rw [if_neg c9] at H
       exact absurd H (by simp)
     ·rw [if_neg c8] at H
      exact absurd H (by simp)
   ·rw [if_neg c5] at H
    have c5b0 : decide (x6_1 < (l0.length : Int)) = false := decide_eq_false c5
    clear c5
    have H' := Aside0.mk H
    clear H
    go_wp2
    go_loopg [7] k1 (fun kq v7 w' => ∃ (x5_2 : List (S32)) (x7_2 : Int), v7 = .int .i64 x7_2 ∧ Aside0 (laws_mixed.l1 kq x5_2 x7_2 = some r) ∧ Aside0 (kq ≤ k1) ∧ Aside0 (Kd.R k32 32 w' w.heap.size (fun _ => True) u5 x5_2) ∧ Aside0 (Below w.heap.size w w'))
    case atStart => exact ⟨_, _, rr, H', ⟨Nat.le_refl _⟩, ⟨by (with_reducible repeat (first | apply Kd.R_alloc | apply Kd.R_drewN | apply Kd.R_drew)); exact HO_5.out⟩, ⟨by exact lG HB⟩⟩
    case round =>
     clear H'
     try clear c1
     try clear p2
     try clear c3
     try clear p3
     try clear q3
     try clear hx3
     try clear c5
     try clear c5b0
     try clear c6
     try clear c6b0
     try clear c6b1
     try clear c6b2
     try clear p6
     try clear c8
     try clear c8b0
     try clear c9
     try clear c9b0
     try clear c10
     try clear hx349_0
     try clear hx349_1
     try clear hx349_2
     try clear hx349_3
     try clear hx349_4
     try clear hx349_5
     try clear hx349_6
     try clear hx349_7
     try clear hx349_8
     try clear p2
     try clear p349
     try clear q349
     obtain ⟨x5_2, x7_2, rfl, HA, HK2, HO_5, HB⟩ := hrel
     cases gk with
     | zero => exact absurd HA.out (by simp [laws_mixed.l1])
     | succ k2 =>
      have H := HA.out
      clear HA
      simp only [laws_mixed.l1] at H
      by_cases c12 : (wrap64 (x7_2 + 1)) < (x5_2.length : Int)
      ·rw [if_pos c12] at H
       have c12b0 : decide ((wrap64 (x7_2 + 1)) < (x5_2.length : Int)) = true := decide_eq_true c12
       clear c12
       by_cases c13 : 0 ≤ x7_2
       ·rw [if_pos c13] at H
        have c13b0 : decide (0 ≤ x7_2) = true := decide_eq_true c13
        clear c13
        by_cases c14 : x7_2 < (x5_2.length : Int)
        ·rw [if_pos c14] at H
         have c14b0 : decide (x7_2 < (x5_2.length : Int)) = true := decide_eq_true c14
         clear c14
         obtain ⟨ji15, hji15⟩ : ∃ j_ : Int, (wrap64 (x7_2 + 1)) = j_ := ⟨_, rfl⟩
         replace H : (if 0 ≤ (ji15) then (laws_mixed.l1 k2 ((x5_2.set (x7_2 : Int).toNat (⟨(rd_T32 x5_2 (ji15)).f0, (⟨(rd_T32 x5_2 (ji15)).f1.f0, (rd_T32 x5_2 (ji15)).f1.f1, (rd_T32 x5_2 (ji15)).f1.f2, (rd_T32 x5_2 (ji15)).f1.f3, (rd_T32 x5_2 (ji15)).f1.f4, (rd_T32 x5_2 (ji15)).f1.f5, (rd_T32 x5_2 (ji15)).f1.f6, (rd_T32 x5_2 (ji15)).f1.f7⟩ : S23)⟩ : S32)).set ((ji15) : Int).toNat (⟨(rd_T32 x5_2 x7_2).f0, (⟨(rd_T32 x5_2 x7_2).f1.f0, (rd_T32 x5_2 x7_2).f1.f1, (rd_T32 x5_2 x7_2).f1.f2, (rd_T32 x5_2 x7_2).f1.f3, (rd_T32 x5_2 x7_2).f1.f4, (rd_T32 x5_2 x7_2).f1.f5, (rd_T32 x5_2 x7_2).f1.f6, (rd_T32 x5_2 x7_2).f1.f7⟩ : S23)⟩ : S32)) (wrap64 (x7_2 + 2))) else (none)) = some r := by first | (rw [hji15] at H; exact H) | (simp only [hji15] at H ⊢; exact H)
         (try rw [hji15] at c12b0)
         have hji15w : (IntKind.i64.wrap (x7_2 + 1)) = ji15 := (i64_w _).trans hji15
         by_cases c16 : 0 ≤ (ji15)
         ·rw [if_pos c16] at H
          have c16b0 : decide (0 ≤ (ji15)) = true := decide_eq_true c16
          clear c16
          obtain ⟨y356, hy356⟩ : ∃ y_ : List (S32), y_ = (x5_2.set (x7_2 : Int).toNat (⟨(rd_T32 x5_2 (ji15)).f0, (⟨(rd_T32 x5_2 (ji15)).f1.f0, (rd_T32 x5_2 (ji15)).f1.f1, (rd_T32 x5_2 (ji15)).f1.f2, (rd_T32 x5_2 (ji15)).f1.f3, (rd_T32 x5_2 (ji15)).f1.f4, (rd_T32 x5_2 (ji15)).f1.f5, (rd_T32 x5_2 (ji15)).f1.f6, (rd_T32 x5_2 (ji15)).f1.f7⟩ : S23)⟩ : S32)) := ⟨_, rfl⟩
          replace H : (laws_mixed.l1 k2 (y356.set ((ji15) : Int).toNat (⟨(rd_T32 x5_2 x7_2).f0, (⟨(rd_T32 x5_2 x7_2).f1.f0, (rd_T32 x5_2 x7_2).f1.f1, (rd_T32 x5_2 x7_2).f1.f2, (rd_T32 x5_2 x7_2).f1.f3, (rd_T32 x5_2 x7_2).f1.f4, (rd_T32 x5_2 x7_2).f1.f5, (rd_T32 x5_2 x7_2).f1.f6, (rd_T32 x5_2 x7_2).f1.f7⟩ : S23)⟩ : S32)) (wrap64 (x7_2 + 2))) = some r := by first | (rw [hy356]; with_reducible exact H) | (have H2_ := (Option.bind_some _ _).symm.trans H; rw [hy356]; with_reducible exact H2_) | (have H2_ := (Option.bind_some _ _).symm.trans H; with_reducible exact H2_) | with_reducible exact H | (rw [hy356]; exact H) | exact H
          have Ny356 := Aside0.mk hy356
          clear hy356
          obtain ⟨y357, hy357⟩ : ∃ y_ : List (S32), y_ = (y356.set ((ji15) : Int).toNat (⟨(rd_T32 x5_2 x7_2).f0, (⟨(rd_T32 x5_2 x7_2).f1.f0, (rd_T32 x5_2 x7_2).f1.f1, (rd_T32 x5_2 x7_2).f1.f2, (rd_T32 x5_2 x7_2).f1.f3, (rd_T32 x5_2 x7_2).f1.f4, (rd_T32 x5_2 x7_2).f1.f5, (rd_T32 x5_2 x7_2).f1.f6, (rd_T32 x5_2 x7_2).f1.f7⟩ : S23)⟩ : S32)) := ⟨_, rfl⟩
          replace H : (laws_mixed.l1 k2 y357 (wrap64 (x7_2 + 2))) = some r := by first | (rw [hy357]; with_reducible exact H) | (have H2_ := (Option.bind_some _ _).symm.trans H; rw [hy357]; with_reducible exact H2_) | (have H2_ := (Option.bind_some _ _).symm.trans H; with_reducible exact H2_) | with_reducible exact H | (rw [hy357]; exact H) | exact H
          have Ny357 := Aside0.mk hy357
          clear hy357
          have H' := Aside0.mk H
          clear H
          obtain ⟨Ao19, co19, eo19⟩ := Kd.R_slice HO_5.out
          subst eo19
          have p353 : 0 ≤ (x7_2 : Int) := oda
          have q353 : x7_2 < (x5_2.length : Int) := oda
          obtain ⟨ad353, e353, hx353_0, hx353_1, hx353_2, hx353_3, hx353_4, hx353_5, hx353_6, hx353_7, hx353_8⟩ := at_T32 (Kd.R_reads' HO_5.out).2.2 x7_2 p353 q353
          cases e353
          replace p353 := eq_true p353
          replace q353 := eq_true q353
          go_wp2_with (first | ((with_reducible refine gate_dst (N := 8) rfl ?_); refine bx 8 #[.int .i64 0, .int .i64 0, .int .i64 0, .int .i64 0, .int .i64 0, .int .i64 0, .string (⟨#[]⟩ : ByteArray), .string (⟨#[]⟩ : ByteArray), .string (⟨#[]⟩ : ByteArray)] 32 ?_; intro gb354 hg w20 hbox hb; replace HO_5 := ak (Kd.R_below (Kd.R_elderB (rG HO_5) gb354 (Nat.le_of_eq hg.symm)) hb); replace BK354 := ak (hbox); replace GE354 := ak (bz hg (lG HB)); replace HB := lB HB hb; clear hb hbox hg; obtain ⟨_, _, _, _, _, _, _, _, _, _, _, _, _, _, _, _, _, _⟩ := bC9 BK354) | ((with_reducible refine gate_store (t := 32) (p := 8) rfl ?_); refine store_event (t := 32) (p := 8) (v := ?vo_w22) (w1 := (((((((((w20.setCell ⟨gb354, 0, none⟩ (.int .i64 ((rd_T32 x5_2 x7_2).f0))).setCell ⟨gb354, 1, none⟩ (.int .i64 ((rd_T32 x5_2 x7_2).f1.f0))).setCell ⟨gb354, 2, none⟩ (.int .i64 ((rd_T32 x5_2 x7_2).f1.f1))).setCell ⟨gb354, 3, none⟩ (.int .i64 ((rd_T32 x5_2 x7_2).f1.f2))).setCell ⟨gb354, 4, none⟩ (.int .i64 ((rd_T32 x5_2 x7_2).f1.f3))).setCell ⟨gb354, 5, none⟩ (.int .i64 ((rd_T32 x5_2 x7_2).f1.f4))).setCell ⟨gb354, 6, none⟩ (.string ((rd_T32 x5_2 x7_2).f1.f5))).setCell ⟨gb354, 7, none⟩ (.string ((rd_T32 x5_2 x7_2).f1.f6))).setCell ⟨gb354, 8, none⟩ (.string ((rd_T32 x5_2 x7_2).f1.f7)))) ?hg ?ho ?hn ?hr ?_; (case ho => rfl); (case hg => rfl); (case hn => rfl); (case hr => first | (go_simp; done) | (go_simp; rfl)); intro w22 hw; have n0_ : Aside0 (Kd.R k32 32 w22 w.heap.size (fun k_ => k_ ≠ gb354) (.slice (some ad353) x5_2.length co19) x5_2) := ⟨(by rw [hw]; exact (by (with_reducible repeat (first | apply Kd.R_alloc | apply Kd.R_drewN | apply Kd.R_drew)); exact Kd.R_mono (Kd.R_far (p := ⟨gb354, 8, none⟩) (Kd.R_far (p := ⟨gb354, 7, none⟩) (Kd.R_far (p := ⟨gb354, 6, none⟩) (Kd.R_far (p := ⟨gb354, 5, none⟩) (Kd.R_far (p := ⟨gb354, 4, none⟩) (Kd.R_far (p := ⟨gb354, 3, none⟩) (Kd.R_far (p := ⟨gb354, 2, none⟩) (Kd.R_far (p := ⟨gb354, 1, none⟩) (Kd.R_far (p := ⟨gb354, 0, none⟩) (Kd.R_mono HO_5.out (fun k_ hk => (⟨hk, hk.2⟩ : _ ∧ k_ ≠ gb354))) (fun _ hk => hk.2) (.int .i64 ((rd_T32 x5_2 x7_2).f0))) (fun _ hk => hk.2) (.int .i64 ((rd_T32 x5_2 x7_2).f1.f0))) (fun _ hk => hk.2) (.int .i64 ((rd_T32 x5_2 x7_2).f1.f1))) (fun _ hk => hk.2) (.int .i64 ((rd_T32 x5_2 x7_2).f1.f2))) (fun _ hk => hk.2) (.int .i64 ((rd_T32 x5_2 x7_2).f1.f3))) (fun _ hk => hk.2) (.int .i64 ((rd_T32 x5_2 x7_2).f1.f4))) (fun _ hk => hk.2) (.string ((rd_T32 x5_2 x7_2).f1.f5))) (fun _ hk => hk.2) (.string ((rd_T32 x5_2 x7_2).f1.f6))) (fun _ hk => hk.2) (.string ((rd_T32 x5_2 x7_2).f1.f7))) (fun _ hk => hk.1.2)))⟩; have n1_ : Aside0 (w22.heap[gb354]? = some (.cells #[.int .i64 ((rd_T32 x5_2 x7_2).f0), .int .i64 ((rd_T32 x5_2 x7_2).f1.f0), .int .i64 ((rd_T32 x5_2 x7_2).f1.f1), .int .i64 ((rd_T32 x5_2 x7_2).f1.f2), .int .i64 ((rd_T32 x5_2 x7_2).f1.f3), .int .i64 ((rd_T32 x5_2 x7_2).f1.f4), .string ((rd_T32 x5_2 x7_2).f1.f5), .string ((rd_T32 x5_2 x7_2).f1.f6), .string ((rd_T32 x5_2 x7_2).f1.f7)] 32 (0, 0))) := ⟨(by rw [hw]; exact (bW BK354))⟩; have n2_ : Aside0 (Below w.heap.size w w22) := ⟨(by rw [hw]; exact (lT HB (gC GE354 gN)))⟩; clear hw; clear HO_5; clear BK354; clear HB; have HO_5 := n0_; have BK354 := n1_; have HB := n2_; clear n0_ n1_ n2_; have p355 : 0 ≤ ((ji15) : Int) := oda; have q355 : (ji15) < (x5_2.length : Int) := oda; obtain ⟨ad355, e355, hx355_0, hx355_1, hx355_2, hx355_3, hx355_4, hx355_5, hx355_6, hx355_7, hx355_8⟩ := at_T32 (Kd.R_reads' HO_5.out).2.2 (ji15) p355 q355; obtain rfl : ad353 = ad355 := (by injection e355); replace p355 := eq_true p355; replace q355 := eq_true q355; have p17 : 0 ≤ (x7_2 : Int) := oda; have q17 : (x7_2 : Int) < ((x5_2.length : Int) : Int) := oda; obtain ⟨go17, co17, eo17, gb17, gl17, cl17, HG17⟩ := Kd.R_form HO_5.out (by omega); (first | cases eo17 | (injection eo17 with ea_ en_ ec_; (first | subst ea_ | (injection ea_ with ea_; subst ea_)); subst ec_; clear en_)); have GB17 := Aside0.mk gb17; have GG17 := Aside0.mk HG17; clear gb17 gl17 HG17; (first | simp only [add_plain] at hx353_0 | skip); (first | simp only [add_plain] at hx353_1 | skip); (first | simp only [add_plain] at hx353_2 | skip); (first | simp only [add_plain] at hx353_3 | skip); (first | simp only [add_plain] at hx353_4 | skip); (first | simp only [add_plain] at hx353_5 | skip); (first | simp only [add_plain] at hx353_6 | skip); (first | simp only [add_plain] at hx353_7 | skip); (first | simp only [add_plain] at hx353_8 | skip); (first | simp only [add_plain] at hx355_0 | skip); (first | simp only [add_plain] at hx355_1 | skip); (first | simp only [add_plain] at hx355_2 | skip); (first | simp only [add_plain] at hx355_3 | skip); (first | simp only [add_plain] at hx355_4 | skip); (first | simp only [add_plain] at hx355_5 | skip); (first | simp only [add_plain] at hx355_6 | skip); (first | simp only [add_plain] at hx355_7 | skip); (first | simp only [add_plain] at hx355_8 | skip); obtain ⟨ce17, hcl17, hM17, hcc17, hfr17⟩ := Kd.R_elem HO_5.out z32 (x7_2 : Int) p17 q17; obtain rfl := k32_openM hM17; have hx17_0 : w22.cell? ⟨go17, (x7_2 : Int).toNat * 9, none⟩ = some (.int .i64 ((rd_T32 x5_2 x7_2).f0)) := hcc17 0 _ rfl; have hx17_1 : w22.cell? ⟨go17, (x7_2 : Int).toNat * 9 + 1, none⟩ = some (.int .i64 ((rd_T32 x5_2 x7_2).f1.f0)) := hcc17 1 _ rfl; have hx17_2 : w22.cell? ⟨go17, (x7_2 : Int).toNat * 9 + 2, none⟩ = some (.int .i64 ((rd_T32 x5_2 x7_2).f1.f1)) := hcc17 2 _ rfl; have hx17_3 : w22.cell? ⟨go17, (x7_2 : Int).toNat * 9 + 3, none⟩ = some (.int .i64 ((rd_T32 x5_2 x7_2).f1.f2)) := hcc17 3 _ rfl; have hx17_4 : w22.cell? ⟨go17, (x7_2 : Int).toNat * 9 + 4, none⟩ = some (.int .i64 ((rd_T32 x5_2 x7_2).f1.f3)) := hcc17 4 _ rfl; have hx17_5 : w22.cell? ⟨go17, (x7_2 : Int).toNat * 9 + 5, none⟩ = some (.int .i64 ((rd_T32 x5_2 x7_2).f1.f4)) := hcc17 5 _ rfl; have hx17_6 : w22.cell? ⟨go17, (x7_2 : Int).toNat * 9 + 6, none⟩ = some (.string ((rd_T32 x5_2 x7_2).f1.f5)) := hcc17 6 _ rfl; have hx17_7 : w22.cell? ⟨go17, (x7_2 : Int).toNat * 9 + 7, none⟩ = some (.string ((rd_T32 x5_2 x7_2).f1.f6)) := hcc17 7 _ rfl; have hx17_8 : w22.cell? ⟨go17, (x7_2 : Int).toNat * 9 + 8, none⟩ = some (.string ((rd_T32 x5_2 x7_2).f1.f7)) := hcc17 8 _ rfl; have hf17_0 : w22.frozen? ⟨go17, (x7_2 : Int).toNat * 9, none⟩ = false := hfr17 0; have hf17_1 : w22.frozen? ⟨go17, (x7_2 : Int).toNat * 9 + 1, none⟩ = false := hfr17 1; have hf17_2 : w22.frozen? ⟨go17, (x7_2 : Int).toNat * 9 + 2, none⟩ = false := hfr17 2; have hf17_3 : w22.frozen? ⟨go17, (x7_2 : Int).toNat * 9 + 3, none⟩ = false := hfr17 3; have hf17_4 : w22.frozen? ⟨go17, (x7_2 : Int).toNat * 9 + 4, none⟩ = false := hfr17 4; have hf17_5 : w22.frozen? ⟨go17, (x7_2 : Int).toNat * 9 + 5, none⟩ = false := hfr17 5; have hf17_6 : w22.frozen? ⟨go17, (x7_2 : Int).toNat * 9 + 6, none⟩ = false := hfr17 6; have hf17_7 : w22.frozen? ⟨go17, (x7_2 : Int).toNat * 9 + 7, none⟩ = false := hfr17 7; have hf17_8 : w22.frozen? ⟨go17, (x7_2 : Int).toNat * 9 + 8, none⟩ = false := hfr17 8; clear hcl17 hcc17 hfr17 hM17; replace p17 := eq_true p17; replace q17 := eq_true q17; have HX23 := ak (show Kd.R k32 32 w22 w.heap.size (fun k_ => k_ ≠ gb354) (.slice (some ⟨go17, 0, none⟩) x5_2.length co19) x5_2 from (rG HO_5)); obtain ⟨ce23, hcl23, hM23, hcc23, hfr23⟩ := Kd.R_elem HX23.out z32 (x7_2 : Int) (oda) (by have h_ : (x7_2 : Int) < ((x5_2.length : Int) : Int) := oda; first | exact h_ | (have e_ := (Kd.R_reads' HO_5.out).1; omega) | simpa using h_); obtain rfl := k32_openM hM23; have HP23 := Kd.R_seg HX23.out (x7_2 : Int) (oda) (by have h_ : (x7_2 : Int) < ((x5_2.length : Int) : Int) := oda; first | exact h_ | (have e_ := (Kd.R_reads' HO_5.out).1; omega) | simpa using h_) (seg := [.int .i64 ((rd_T32 x5_2 (ji15)).f0), .int .i64 ((rd_T32 x5_2 (ji15)).f1.f0), .int .i64 ((rd_T32 x5_2 (ji15)).f1.f1), .int .i64 ((rd_T32 x5_2 (ji15)).f1.f2), .int .i64 ((rd_T32 x5_2 (ji15)).f1.f3), .int .i64 ((rd_T32 x5_2 (ji15)).f1.f4), .string ((rd_T32 x5_2 (ji15)).f1.f5), .string ((rd_T32 x5_2 (ji15)).f1.f6), .string ((rd_T32 x5_2 (ji15)).f1.f7)]) (j := 0) hcl23 hcc23 (show 9 ≤ 9 from by decide) (x' := (⟨(rd_T32 x5_2 (ji15)).f0, (⟨(rd_T32 x5_2 (ji15)).f1.f0, (rd_T32 x5_2 (ji15)).f1.f1, (rd_T32 x5_2 (ji15)).f1.f2, (rd_T32 x5_2 (ji15)).f1.f3, (rd_T32 x5_2 (ji15)).f1.f4, (rd_T32 x5_2 (ji15)).f1.f5, (rd_T32 x5_2 (ji15)).f1.f6, (rd_T32 x5_2 (ji15)).f1.f7⟩ : S23)⟩ : S32)) (k32_mkM _ _ _ (⟨(rd_T32 x5_2 (ji15)).f0, (⟨(rd_T32 x5_2 (ji15)).f1.f0, (rd_T32 x5_2 (ji15)).f1.f1, (rd_T32 x5_2 (ji15)).f1.f2, (rd_T32 x5_2 (ji15)).f1.f3, (rd_T32 x5_2 (ji15)).f1.f4, (rd_T32 x5_2 (ji15)).f1.f5, (rd_T32 x5_2 (ji15)).f1.f6, (rd_T32 x5_2 (ji15)).f1.f7⟩ : S23)⟩ : S32) ) (fun _ hk => hk); have hx23_0 := hcc23 0 _ rfl; (try simp only [show (k32).sz = 9 from rfl, Nat.mul_one, Nat.add_zero] at hx23_0); have hf23_0 := hfr23 0; (try simp only [show (k32).sz = 9 from rfl, Nat.mul_one, Nat.add_zero] at hf23_0); have hx23_1 := hcc23 1 _ rfl; (try simp only [show (k32).sz = 9 from rfl, Nat.mul_one, Nat.add_zero] at hx23_1); have hf23_1 := hfr23 1; (try simp only [show (k32).sz = 9 from rfl, Nat.mul_one, Nat.add_zero] at hf23_1); have hx23_2 := hcc23 2 _ rfl; (try simp only [show (k32).sz = 9 from rfl, Nat.mul_one, Nat.add_zero] at hx23_2); have hf23_2 := hfr23 2; (try simp only [show (k32).sz = 9 from rfl, Nat.mul_one, Nat.add_zero] at hf23_2); have hx23_3 := hcc23 3 _ rfl; (try simp only [show (k32).sz = 9 from rfl, Nat.mul_one, Nat.add_zero] at hx23_3); have hf23_3 := hfr23 3; (try simp only [show (k32).sz = 9 from rfl, Nat.mul_one, Nat.add_zero] at hf23_3); have hx23_4 := hcc23 4 _ rfl; (try simp only [show (k32).sz = 9 from rfl, Nat.mul_one, Nat.add_zero] at hx23_4); have hf23_4 := hfr23 4; (try simp only [show (k32).sz = 9 from rfl, Nat.mul_one, Nat.add_zero] at hf23_4); have hx23_5 := hcc23 5 _ rfl; (try simp only [show (k32).sz = 9 from rfl, Nat.mul_one, Nat.add_zero] at hx23_5); have hf23_5 := hfr23 5; (try simp only [show (k32).sz = 9 from rfl, Nat.mul_one, Nat.add_zero] at hf23_5); have hx23_6 := hcc23 6 _ rfl; (try simp only [show (k32).sz = 9 from rfl, Nat.mul_one, Nat.add_zero] at hx23_6); have hf23_6 := hfr23 6; (try simp only [show (k32).sz = 9 from rfl, Nat.mul_one, Nat.add_zero] at hf23_6); have hx23_7 := hcc23 7 _ rfl; (try simp only [show (k32).sz = 9 from rfl, Nat.mul_one, Nat.add_zero] at hx23_7); have hf23_7 := hfr23 7; (try simp only [show (k32).sz = 9 from rfl, Nat.mul_one, Nat.add_zero] at hf23_7); have hx23_8 := hcc23 8 _ rfl; (try simp only [show (k32).sz = 9 from rfl, Nat.mul_one, Nat.add_zero] at hx23_8); have hf23_8 := hfr23 8; (try simp only [show (k32).sz = 9 from rfl, Nat.mul_one, Nat.add_zero] at hf23_8); clear hcl23 hcc23 hfr23 hM23) | ((with_reducible refine gate_store (t := 32) (p := 46) rfl ?_); refine store_event (t := 32) (p := 46) (v := ?vo_w24) (w1 := (((((((((w22.setCell ⟨go17, (x7_2 : Int).toNat * 9, none⟩ (.int .i64 ((rd_T32 x5_2 (ji15)).f0))).setCell ⟨go17, (x7_2 : Int).toNat * 9 + 1, none⟩ (.int .i64 ((rd_T32 x5_2 (ji15)).f1.f0))).setCell ⟨go17, (x7_2 : Int).toNat * 9 + 2, none⟩ (.int .i64 ((rd_T32 x5_2 (ji15)).f1.f1))).setCell ⟨go17, (x7_2 : Int).toNat * 9 + 3, none⟩ (.int .i64 ((rd_T32 x5_2 (ji15)).f1.f2))).setCell ⟨go17, (x7_2 : Int).toNat * 9 + 4, none⟩ (.int .i64 ((rd_T32 x5_2 (ji15)).f1.f3))).setCell ⟨go17, (x7_2 : Int).toNat * 9 + 5, none⟩ (.int .i64 ((rd_T32 x5_2 (ji15)).f1.f4))).setCell ⟨go17, (x7_2 : Int).toNat * 9 + 6, none⟩ (.string ((rd_T32 x5_2 (ji15)).f1.f5))).setCell ⟨go17, (x7_2 : Int).toNat * 9 + 7, none⟩ (.string ((rd_T32 x5_2 (ji15)).f1.f6))).setCell ⟨go17, (x7_2 : Int).toNat * 9 + 8, none⟩ (.string ((rd_T32 x5_2 (ji15)).f1.f7)))) ?hg ?ho ?hn ?hr ?_; (case ho => rfl); (case hg => rfl); (case hn => rfl); (case hr => first | (go_simp; done) | (go_simp; rfl)); intro w24 hw; have hg : w22.grownBy w24 (some go17) := (by rw [hw]; exact HP23.2); have hp_ : Kd.R k32 32 w24 w.heap.size (fun k_ => k_ ≠ gb354) (.slice (some ⟨go17, 0, none⟩) x5_2.length co19) y356 := (by rw [hw, Ny356.out]; exact HP23.1); clear HP23; replace BK354 := ak (blk_grown (g := gb354) (o := .cells #[.int .i64 ((rd_T32 x5_2 x7_2).f0), .int .i64 ((rd_T32 x5_2 x7_2).f1.f0), .int .i64 ((rd_T32 x5_2 x7_2).f1.f1), .int .i64 ((rd_T32 x5_2 x7_2).f1.f2), .int .i64 ((rd_T32 x5_2 x7_2).f1.f3), .int .i64 ((rd_T32 x5_2 x7_2).f1.f4), .string ((rd_T32 x5_2 x7_2).f1.f5), .string ((rd_T32 x5_2 x7_2).f1.f6), .string ((rd_T32 x5_2 x7_2).f1.f7)] 32 (0, 0)) (bG BK354) hg (Kd.R_away HO_5.out (fun _ hk => hk))); replace HO_5 := ak (hp_); replace HB := ak ((by rw [hw]; exact below_set (below_set (below_set (below_set (below_set (below_set (below_set (below_set (below_set (HB.out) GB17.out) GB17.out) GB17.out) GB17.out) GB17.out) GB17.out) GB17.out) GB17.out) GB17.out : Below w.heap.size w w24)); clear hg hw hp_; obtain ⟨_, _, _, _, _, _, _, _, _, _, _, _, _, _, _, _, _, _⟩ := bC9 BK354; have p18 : 0 ≤ ((ji15) : Int) := oda; have q18 : ((ji15) : Int) < ((x5_2.length : Int) : Int) := oda; obtain ⟨ce18, hcl18, hM18, hcc18, hfr18⟩ := Kd.R_elem HO_5.out z32 ((ji15) : Int) p18 q18; obtain rfl := k32_openM hM18; have hx18_0 : w24.cell? ⟨go17, ((ji15) : Int).toNat * 9, none⟩ = some (.int .i64 ((rd_T32 y356 (ji15)).f0)) := hcc18 0 _ rfl; have hx18_1 : w24.cell? ⟨go17, ((ji15) : Int).toNat * 9 + 1, none⟩ = some (.int .i64 ((rd_T32 y356 (ji15)).f1.f0)) := hcc18 1 _ rfl; have hx18_2 : w24.cell? ⟨go17, ((ji15) : Int).toNat * 9 + 2, none⟩ = some (.int .i64 ((rd_T32 y356 (ji15)).f1.f1)) := hcc18 2 _ rfl; have hx18_3 : w24.cell? ⟨go17, ((ji15) : Int).toNat * 9 + 3, none⟩ = some (.int .i64 ((rd_T32 y356 (ji15)).f1.f2)) := hcc18 3 _ rfl; have hx18_4 : w24.cell? ⟨go17, ((ji15) : Int).toNat * 9 + 4, none⟩ = some (.int .i64 ((rd_T32 y356 (ji15)).f1.f3)) := hcc18 4 _ rfl; have hx18_5 : w24.cell? ⟨go17, ((ji15) : Int).toNat * 9 + 5, none⟩ = some (.int .i64 ((rd_T32 y356 (ji15)).f1.f4)) := hcc18 5 _ rfl; have hx18_6 : w24.cell? ⟨go17, ((ji15) : Int).toNat * 9 + 6, none⟩ = some (.string ((rd_T32 y356 (ji15)).f1.f5)) := hcc18 6 _ rfl; have hx18_7 : w24.cell? ⟨go17, ((ji15) : Int).toNat * 9 + 7, none⟩ = some (.string ((rd_T32 y356 (ji15)).f1.f6)) := hcc18 7 _ rfl; have hx18_8 : w24.cell? ⟨go17, ((ji15) : Int).toNat * 9 + 8, none⟩ = some (.string ((rd_T32 y356 (ji15)).f1.f7)) := hcc18 8 _ rfl; have hf18_0 : w24.frozen? ⟨go17, ((ji15) : Int).toNat * 9, none⟩ = false := hfr18 0; have hf18_1 : w24.frozen? ⟨go17, ((ji15) : Int).toNat * 9 + 1, none⟩ = false := hfr18 1; have hf18_2 : w24.frozen? ⟨go17, ((ji15) : Int).toNat * 9 + 2, none⟩ = false := hfr18 2; have hf18_3 : w24.frozen? ⟨go17, ((ji15) : Int).toNat * 9 + 3, none⟩ = false := hfr18 3; have hf18_4 : w24.frozen? ⟨go17, ((ji15) : Int).toNat * 9 + 4, none⟩ = false := hfr18 4; have hf18_5 : w24.frozen? ⟨go17, ((ji15) : Int).toNat * 9 + 5, none⟩ = false := hfr18 5; have hf18_6 : w24.frozen? ⟨go17, ((ji15) : Int).toNat * 9 + 6, none⟩ = false := hfr18 6; have hf18_7 : w24.frozen? ⟨go17, ((ji15) : Int).toNat * 9 + 7, none⟩ = false := hfr18 7; have hf18_8 : w24.frozen? ⟨go17, ((ji15) : Int).toNat * 9 + 8, none⟩ = false := hfr18 8; clear hcl18 hcc18 hfr18 hM18; replace p18 := eq_true p18; replace q18 := eq_true q18; have HX26 := ak (show Kd.R k32 32 w24 w.heap.size (fun k_ => k_ ≠ gb354) (.slice (some ⟨go17, 0, none⟩) x5_2.length co19) y356 from (rG HO_5)); obtain ⟨ce26, hcl26, hM26, hcc26, hfr26⟩ := Kd.R_elem HX26.out z32 ((ji15) : Int) (oda) (by have h_ : ((ji15) : Int) < ((x5_2.length : Int) : Int) := oda; first | exact h_ | (have e_ := (Kd.R_reads' HO_5.out).1; omega) | simpa using h_); obtain rfl := k32_openM hM26; have HP26 := Kd.R_seg HX26.out ((ji15) : Int) (oda) (by have h_ : ((ji15) : Int) < ((x5_2.length : Int) : Int) := oda; first | exact h_ | (have e_ := (Kd.R_reads' HO_5.out).1; omega) | simpa using h_) (seg := [.int .i64 ((rd_T32 x5_2 x7_2).f0), .int .i64 ((rd_T32 x5_2 x7_2).f1.f0), .int .i64 ((rd_T32 x5_2 x7_2).f1.f1), .int .i64 ((rd_T32 x5_2 x7_2).f1.f2), .int .i64 ((rd_T32 x5_2 x7_2).f1.f3), .int .i64 ((rd_T32 x5_2 x7_2).f1.f4), .string ((rd_T32 x5_2 x7_2).f1.f5), .string ((rd_T32 x5_2 x7_2).f1.f6), .string ((rd_T32 x5_2 x7_2).f1.f7)]) (j := 0) hcl26 hcc26 (show 9 ≤ 9 from by decide) (x' := (⟨(rd_T32 x5_2 x7_2).f0, (⟨(rd_T32 x5_2 x7_2).f1.f0, (rd_T32 x5_2 x7_2).f1.f1, (rd_T32 x5_2 x7_2).f1.f2, (rd_T32 x5_2 x7_2).f1.f3, (rd_T32 x5_2 x7_2).f1.f4, (rd_T32 x5_2 x7_2).f1.f5, (rd_T32 x5_2 x7_2).f1.f6, (rd_T32 x5_2 x7_2).f1.f7⟩ : S23)⟩ : S32)) (k32_mkM _ _ _ (⟨(rd_T32 x5_2 x7_2).f0, (⟨(rd_T32 x5_2 x7_2).f1.f0, (rd_T32 x5_2 x7_2).f1.f1, (rd_T32 x5_2 x7_2).f1.f2, (rd_T32 x5_2 x7_2).f1.f3, (rd_T32 x5_2 x7_2).f1.f4, (rd_T32 x5_2 x7_2).f1.f5, (rd_T32 x5_2 x7_2).f1.f6, (rd_T32 x5_2 x7_2).f1.f7⟩ : S23)⟩ : S32) ) (fun _ hk => hk); have hx26_0 := hcc26 0 _ rfl; (try simp only [show (k32).sz = 9 from rfl, Nat.mul_one, Nat.add_zero] at hx26_0); have hf26_0 := hfr26 0; (try simp only [show (k32).sz = 9 from rfl, Nat.mul_one, Nat.add_zero] at hf26_0); have hx26_1 := hcc26 1 _ rfl; (try simp only [show (k32).sz = 9 from rfl, Nat.mul_one, Nat.add_zero] at hx26_1); have hf26_1 := hfr26 1; (try simp only [show (k32).sz = 9 from rfl, Nat.mul_one, Nat.add_zero] at hf26_1); have hx26_2 := hcc26 2 _ rfl; (try simp only [show (k32).sz = 9 from rfl, Nat.mul_one, Nat.add_zero] at hx26_2); have hf26_2 := hfr26 2; (try simp only [show (k32).sz = 9 from rfl, Nat.mul_one, Nat.add_zero] at hf26_2); have hx26_3 := hcc26 3 _ rfl; (try simp only [show (k32).sz = 9 from rfl, Nat.mul_one, Nat.add_zero] at hx26_3); have hf26_3 := hfr26 3; (try simp only [show (k32).sz = 9 from rfl, Nat.mul_one, Nat.add_zero] at hf26_3); have hx26_4 := hcc26 4 _ rfl; (try simp only [show (k32).sz = 9 from rfl, Nat.mul_one, Nat.add_zero] at hx26_4); have hf26_4 := hfr26 4; (try simp only [show (k32).sz = 9 from rfl, Nat.mul_one, Nat.add_zero] at hf26_4); have hx26_5 := hcc26 5 _ rfl; (try simp only [show (k32).sz = 9 from rfl, Nat.mul_one, Nat.add_zero] at hx26_5); have hf26_5 := hfr26 5; (try simp only [show (k32).sz = 9 from rfl, Nat.mul_one, Nat.add_zero] at hf26_5); have hx26_6 := hcc26 6 _ rfl; (try simp only [show (k32).sz = 9 from rfl, Nat.mul_one, Nat.add_zero] at hx26_6); have hf26_6 := hfr26 6; (try simp only [show (k32).sz = 9 from rfl, Nat.mul_one, Nat.add_zero] at hf26_6); have hx26_7 := hcc26 7 _ rfl; (try simp only [show (k32).sz = 9 from rfl, Nat.mul_one, Nat.add_zero] at hx26_7); have hf26_7 := hfr26 7; (try simp only [show (k32).sz = 9 from rfl, Nat.mul_one, Nat.add_zero] at hf26_7); have hx26_8 := hcc26 8 _ rfl; (try simp only [show (k32).sz = 9 from rfl, Nat.mul_one, Nat.add_zero] at hx26_8); have hf26_8 := hfr26 8; (try simp only [show (k32).sz = 9 from rfl, Nat.mul_one, Nat.add_zero] at hf26_8); clear hcl26 hcc26 hfr26 hM26) | ((with_reducible refine gate_store (t := 32) (p := 51) rfl ?_); refine store_event (t := 32) (p := 51) (v := ?vo_w27) (w1 := (((((((((w24.setCell ⟨go17, ((ji15) : Int).toNat * 9, none⟩ (.int .i64 ((rd_T32 x5_2 x7_2).f0))).setCell ⟨go17, ((ji15) : Int).toNat * 9 + 1, none⟩ (.int .i64 ((rd_T32 x5_2 x7_2).f1.f0))).setCell ⟨go17, ((ji15) : Int).toNat * 9 + 2, none⟩ (.int .i64 ((rd_T32 x5_2 x7_2).f1.f1))).setCell ⟨go17, ((ji15) : Int).toNat * 9 + 3, none⟩ (.int .i64 ((rd_T32 x5_2 x7_2).f1.f2))).setCell ⟨go17, ((ji15) : Int).toNat * 9 + 4, none⟩ (.int .i64 ((rd_T32 x5_2 x7_2).f1.f3))).setCell ⟨go17, ((ji15) : Int).toNat * 9 + 5, none⟩ (.int .i64 ((rd_T32 x5_2 x7_2).f1.f4))).setCell ⟨go17, ((ji15) : Int).toNat * 9 + 6, none⟩ (.string ((rd_T32 x5_2 x7_2).f1.f5))).setCell ⟨go17, ((ji15) : Int).toNat * 9 + 7, none⟩ (.string ((rd_T32 x5_2 x7_2).f1.f6))).setCell ⟨go17, ((ji15) : Int).toNat * 9 + 8, none⟩ (.string ((rd_T32 x5_2 x7_2).f1.f7)))) ?hg ?ho ?hn ?hr ?_; (case ho => rfl); (case hg => rfl); (case hn => rfl); (case hr => first | (go_simp; done) | (go_simp; rfl)); intro w27 hw; have hg : w24.grownBy w27 (some go17) := (by rw [hw]; exact HP26.2); have hp_ : Kd.R k32 32 w27 w.heap.size (fun k_ => k_ ≠ gb354) (.slice (some ⟨go17, 0, none⟩) x5_2.length co19) y357 := (by rw [hw, Ny357.out]; exact HP26.1); clear HP26; replace BK354 := ak (blk_grown (g := gb354) (o := .cells #[.int .i64 ((rd_T32 x5_2 x7_2).f0), .int .i64 ((rd_T32 x5_2 x7_2).f1.f0), .int .i64 ((rd_T32 x5_2 x7_2).f1.f1), .int .i64 ((rd_T32 x5_2 x7_2).f1.f2), .int .i64 ((rd_T32 x5_2 x7_2).f1.f3), .int .i64 ((rd_T32 x5_2 x7_2).f1.f4), .string ((rd_T32 x5_2 x7_2).f1.f5), .string ((rd_T32 x5_2 x7_2).f1.f6), .string ((rd_T32 x5_2 x7_2).f1.f7)] 32 (0, 0)) (bG BK354) hg (Kd.R_away HO_5.out (fun _ hk => hk))); replace HO_5 := ak (hp_); replace HB := ak ((by rw [hw]; exact below_set (below_set (below_set (below_set (below_set (below_set (below_set (below_set (below_set (HB.out) GB17.out) GB17.out) GB17.out) GB17.out) GB17.out) GB17.out) GB17.out) GB17.out) GB17.out : Below w.heap.size w w27)); clear hg hw hp_))
          go_roundg k2
          case measure => have := HK1.out; have := HK2.out; omega
          case rel => exact ⟨_, _, rr, H', ⟨by have := HK1.out; have := HK2.out; omega⟩, ⟨by (with_reducible repeat (first | apply Kd.R_alloc | apply Kd.R_drewN | apply Kd.R_drew)); exact Kd.R_mono HO_5.out (fun _ hk => trivial)⟩, ⟨by exact lT HB (gC GE354 gN)⟩⟩
         ·rw [if_neg c16] at H
          exact absurd H (by simp)
        ·rw [if_neg c14] at H
         exact absurd H (by simp)
       ·rw [if_neg c13] at H
        exact absurd H (by simp)
      ·rw [if_neg c12] at H
       have c12b0 : decide ((wrap64 (x7_2 + 1)) < (x5_2.length : Int)) = false := decide_eq_false c12
       clear c12
       obtain rfl := Option.some.inj H
       obtain ⟨Ao28, co28, eo28⟩ := Kd.R_slice HO_5.out
       subst eo28
       go_wp2
       go_ret
       exact ⟨_, ew, by (with_reducible repeat (first | apply Kd.R_alloc | apply Kd.R_drewN | apply Kd.R_drew)); exact HO_5.out, by exact lG HB⟩
-- NOT PRINTED: function 78 (impl_Box)
/-! ### impl_Mail: function 113 -/
def impl_Mail.l0 : Nat → List (S68) → List (S68) → Int → Int → Option (Bool)
 | 0, _, _, _, _ => none
 | k + 1, x0, x1, x12, x13 => if x13 < x12 then (if 0 ≤ x13 then (if x13 < (x0.length : Int) then (if x13 < (x1.length : Int) then (if (!(((rd_T68 x0 x13).f0) == ((rd_T68 x1 x13).f0)) || (!(((rd_T68 x0 x13).f1) == ((rd_T68 x1 x13).f1)) || (!((((rd_T68 x0 x13).f2).toList) == (((rd_T68 x1 x13).f2).toList))))) = true then (some false) else (impl_Mail.l0 k x0 x1 x12 (wrap64 (x13 + 1)))) else (none)) else (none)) else (none)) else (some true)
def impl_Mail.f (k : Nat) (l0 : List (S68)) (l1 : List (S68)) : Option (Bool) := if (l0.length : Int) = (l1.length : Int) then (impl_Mail.l0 k l0 l1 (l0.length : Int) 0) else (some false)
theorem impl_Mail.mono_l : ∀ k, (∀ y0 y1 y2 y3, LeO (impl_Mail.l0 k y0 y1 y2 y3) (impl_Mail.l0 (k + 1) y0 y1 y2 y3))
 | 0 => fun _ _ _ _ r h => by simp [impl_Mail.l0] at h
 | k + 1 => by
  have ih0 := impl_Mail.mono_l k
  ·intro y0 y1 y2 y3
   unfold impl_Mail.l0
   repeat' first
   | (with_reducible exact ih0 _ _ _ _)
   | (with_reducible exact LeO.refl _)
   | (with_reducible exact LeO.none _)
   | (with_reducible refine LeO.ite ?_ ?_)
   | (with_reducible refine LeO.bind ?_ (fun _ => ?_))
   | exact ih0 _ _ _ _
   | exact LeO.none _
   | refine LeO.ite ?_ ?_
   | refine LeO.bind ?_ (fun _ => ?_)
theorem impl_Mail.mono : ∀ a0 a1 k, LeO (impl_Mail.f k a0 a1) (impl_Mail.f (k + 1) a0 a1) := by
 intro a0 a1 k
 have ih0 := impl_Mail.mono_l k
 unfold impl_Mail.f
 repeat' first
   | (with_reducible exact ih0 _ _ _ _)
   | (with_reducible exact LeO.refl _)
   | (with_reducible exact LeO.none _)
   | (with_reducible refine LeO.ite ?_ ?_)
   | (with_reducible refine LeO.bind ?_ (fun _ => ?_))
   | exact ih0 _ _ _ _
   | exact LeO.none _
   | refine LeO.ite ?_ ?_
   | refine LeO.bind ?_ (fun _ => ?_)
theorem impl_Mail.calls (k : Nat) (A0 : Option Addr) (c0 : Nat) (l0 : List (S68)) (A1 : Option Addr) (c1 : Nat) (l1 : List (S68)) (r : Bool) (w : World) (hr0 : Kd.C k68 w A0 l0.length l0) (hc0 : l0.length ≤ c0) (hr1 : Kd.C k68 w A1 l1.length l1) (hc1 : l1.length ≤ c1) (h : impl_Mail.f k l0 l1 = some r) :
  Calls Try.prog 113 #[.slice A0 l0.length c0, .slice A1 l1.length c1] w fun e w' => e = .returned (.bool r) ∧ Drawn0 w w' := by
 have hu68 := Try.underlying68
 have HR0 := Aside0.mk hr0
 have HC0 := Aside0.mk hc0
 clear hr0 hc0
 have HR1 := Aside0.mk hr1
 have HC1 := Aside0.mk hc1
 clear hr1 hc1
 have H : (if (l0.length : Int) = (l1.length : Int) then (impl_Mail.l0 k l0 l1 (l0.length : Int) 0) else (some false)) = some r := h
 clear h
 by_cases c3 : (l0.length : Int) = (l1.length : Int)
 ·rw [if_pos c3] at H
  have c3b0 : ((l0.length : Int) == (l1.length : Int)) = true := beq_iff_eq.mpr c3
  have c3b1 : ((l0.length : Int) != (l1.length : Int)) = false := bne_eq_false_iff_eq.mpr c3
  have c3b2 : (l0.length == l1.length) = true := by first | simpa using c3 | (simp at c3 ⊢; omega)
  clear c3
  have H' := Aside0.mk H
  clear H
  go_enter Try.func113, Try.ntmps113
  go_wp2
  repeat (go_quiet (fail); try go_wp2)
  go_loopg [13] k (fun kq v13 w' => ∃ (x13_1 : Int), v13 = .int .i64 x13_1 ∧ Aside0 (impl_Mail.l0 kq l0 l1 (l0.length : Int) x13_1 = some r) ∧ Aside0 (kq ≤ k) ∧ Drawn0 w w')
  case atStart => exact ⟨_, rr, H', ⟨Nat.le_refl _⟩, by repeat (first | exact Drawn0.refl _ | apply Drawn0.step)⟩
  case round =>
   clear H'
   try clear c1
   try clear p2
   try clear c3
   try clear c3b0
   try clear c3b1
   try clear c3b2
   obtain ⟨x13_1, rfl, HA, HK1, ⟨m1, rfl⟩⟩ := hrel
   cases gk with
   | zero => exact absurd HA.out (by simp [impl_Mail.l0])
   | succ k1 =>
    have H := HA.out
    clear HA
    simp only [impl_Mail.l0] at H
    by_cases c4 : x13_1 < (l0.length : Int)
    ·rw [if_pos c4] at H
     have c4b0 : decide (x13_1 < (l0.length : Int)) = true := decide_eq_true c4
     clear c4
     by_cases c5 : 0 ≤ x13_1
     ·rw [if_pos c5] at H
      have c5b0 : decide (0 ≤ x13_1) = true := decide_eq_true c5
      clear c5
      by_cases c6 : x13_1 < (l0.length : Int)
      ·rw [if_pos c6] at H
       have c6b0 : decide (x13_1 < (l0.length : Int)) = true := decide_eq_true c6
       clear c6
       by_cases c7 : x13_1 < (l1.length : Int)
       ·rw [if_pos c7] at H
        have c7b0 : decide (x13_1 < (l1.length : Int)) = true := decide_eq_true c7
        clear c7
        by_cases c8 : (!(((rd_T68 l0 x13_1).f0) == ((rd_T68 l1 x13_1).f0)) || (!(((rd_T68 l0 x13_1).f1) == ((rd_T68 l1 x13_1).f1)) || (!((((rd_T68 l0 x13_1).f2).toList) == (((rd_T68 l1 x13_1).f2).toList))))) = true
        ·rw [if_pos c8] at H
         have c8b0 : (!(((rd_T68 l0 x13_1).f0) == ((rd_T68 l1 x13_1).f0)) || (!(((rd_T68 l0 x13_1).f1) == ((rd_T68 l1 x13_1).f1)) || (!((((rd_T68 l0 x13_1).f2).toList) == (((rd_T68 l1 x13_1).f2).toList))))) = true := c8
         clear c8
         obtain rfl := Option.some.inj H
         have p358 : 0 ≤ (x13_1 : Int) := oda
         have q358 : x13_1 < (l0.length : Int) := oda
         obtain ⟨ad358, e358, hx358_0, hx358_1, hx358_2⟩ := at_T68 HR0.out x13_1 p358 q358
         cases e358
         replace p358 := eq_true p358
         replace q358 := eq_true q358
         have p359 : 0 ≤ (x13_1 : Int) := oda
         have q359 : x13_1 < (l1.length : Int) := oda
         obtain ⟨ad359, e359, hx359_0, hx359_1, hx359_2⟩ := at_T68 HR1.out x13_1 p359 q359
         cases e359
         replace p359 := eq_true p359
         replace q359 := eq_true q359
         go_wp2
         repeat (go_quiet (fail); try go_wp2)
         go_ret
         exact ⟨by first | rfl | (simp; done) | (simp [*]; done), by repeat (first | exact Drawn0.refl _ | apply Drawn0.step)⟩
        ·rw [if_neg c8] at H
         have c8b0 : (!(((rd_T68 l0 x13_1).f0) == ((rd_T68 l1 x13_1).f0)) || (!(((rd_T68 l0 x13_1).f1) == ((rd_T68 l1 x13_1).f1)) || (!((((rd_T68 l0 x13_1).f2).toList) == (((rd_T68 l1 x13_1).f2).toList))))) = false := by simpa using c8
         clear c8
         have H' := Aside0.mk H
         clear H
         have p358 : 0 ≤ (x13_1 : Int) := oda
         have q358 : x13_1 < (l0.length : Int) := oda
         obtain ⟨ad358, e358, hx358_0, hx358_1, hx358_2⟩ := at_T68 HR0.out x13_1 p358 q358
         cases e358
         replace p358 := eq_true p358
         replace q358 := eq_true q358
         have p359 : 0 ≤ (x13_1 : Int) := oda
         have q359 : x13_1 < (l1.length : Int) := oda
         obtain ⟨ad359, e359, hx359_0, hx359_1, hx359_2⟩ := at_T68 HR1.out x13_1 p359 q359
         cases e359
         replace p359 := eq_true p359
         replace q359 := eq_true q359
         go_wp2
         repeat (go_quiet (fail); try go_wp2)
         go_roundg k1
         case measure => have := HK1.out; omega
         case rel => exact ⟨_, rr, H', ⟨by have := HK1.out; omega⟩, by repeat (first | exact Drawn0.refl _ | apply Drawn0.step)⟩
       ·rw [if_neg c7] at H
        exact absurd H (by simp)
      ·rw [if_neg c6] at H
       exact absurd H (by simp)
     ·rw [if_neg c5] at H
      exact absurd H (by simp)
    ·rw [if_neg c4] at H
     have c4b0 : decide (x13_1 < (l0.length : Int)) = false := decide_eq_false c4
     clear c4
     obtain rfl := Option.some.inj H
     go_wp2
     repeat (go_quiet (fail); try go_wp2)
     go_ret
     exact ⟨by first | rfl | (simp; done) | (simp [*]; done), by repeat (first | exact Drawn0.refl _ | apply Drawn0.step)⟩
 ·rw [if_neg c3] at H
  have c3b0 : ((l0.length : Int) == (l1.length : Int)) = false := beq_eq_false_iff_ne.mpr c3
  have c3b1 : ((l0.length : Int) != (l1.length : Int)) = true := bne_iff_ne.mpr c3
  have c3b2 : (l0.length == l1.length) = false := by first | simpa using c3 | (simp at c3 ⊢; omega)
  obtain rfl := Option.some.inj H
  go_enter Try.func113, Try.ntmps113
  go_wp2
  repeat (go_quiet (fail); try go_wp2)
  go_ret
  exact ⟨by first | rfl | (simp; done) | (simp [*]; done), by repeat (first | exact Drawn0.refl _ | apply Drawn0.step)⟩
/-! ### impl_sameBox: function 79 -/
def impl_sameBox.f (k : Nat) (a0_0 : Int) (a0_1 : ByteArray) (a0_2 : ByteArray) (a0_3 : Int) (l0_4 : List (S68)) (a1_0 : Int) (a1_1 : ByteArray) (a1_2 : ByteArray) (a1_3 : Int) (l1_4 : List (S68)) : Option (Bool) := if a0_0 = a1_0 then (if a0_1.toList = a1_1.toList then (if a0_2.toList = a1_2.toList then (if a0_3 = a1_3 then ((impl_Mail.f k l0_4 l1_4).bind fun t362 => (some t362)) else (some false)) else (some false)) else (some false)) else (some false)
theorem impl_sameBox.mono : ∀ a0 a1 a2 a3 a4 a5 a6 a7 a8 a9 k, LeO (impl_sameBox.f k a0 a1 a2 a3 a4 a5 a6 a7 a8 a9) (impl_sameBox.f (k + 1) a0 a1 a2 a3 a4 a5 a6 a7 a8 a9) := by
 intro a0 a1 a2 a3 a4 a5 a6 a7 a8 a9 k
 unfold impl_sameBox.f
 repeat' first
   | (with_reducible exact impl_Mail.mono _ _ _)
   | (with_reducible exact LeO.refl _)
   | (with_reducible exact LeO.none _)
   | (with_reducible refine LeO.ite ?_ ?_)
   | (with_reducible refine LeO.bind ?_ (fun _ => ?_))
   | exact impl_Mail.mono _ _ _
   | exact LeO.none _
   | refine LeO.ite ?_ ?_
   | refine LeO.bind ?_ (fun _ => ?_)
theorem impl_sameBox.calls (k : Nat) (a0_0 : Int) (a0_1 : ByteArray) (a0_2 : ByteArray) (a0_3 : Int) (A0_4 : Option Addr) (c0_4 : Nat) (l0_4 : List (S68)) (a1_0 : Int) (a1_1 : ByteArray) (a1_2 : ByteArray) (a1_3 : Int) (A1_4 : Option Addr) (c1_4 : Nat) (l1_4 : List (S68)) (r : Bool) (w : World) (hr0_4 : Kd.C k68 w A0_4 l0_4.length l0_4) (hc0_4 : l0_4.length ≤ c0_4) (hr1_4 : Kd.C k68 w A1_4 l1_4.length l1_4) (hc1_4 : l1_4.length ≤ c1_4) (h : impl_sameBox.f k a0_0 a0_1 a0_2 a0_3 l0_4 a1_0 a1_1 a1_2 a1_3 l1_4 = some r) :
  Calls Try.prog 79 #[.agg #[.int .i64 a0_0, .string a0_1, .string a0_2, .int .i64 a0_3, .slice A0_4 l0_4.length c0_4], .agg #[.int .i64 a1_0, .string a1_1, .string a1_2, .int .i64 a1_3, .slice A1_4 l1_4.length c1_4]] w fun e w' => e = .returned (.bool r) ∧ Below w.heap.size w w' := by
 have hu66 := Try.underlying66
 have HR0_4 := Aside0.mk hr0_4
 have HC0_4 := Aside0.mk hc0_4
 clear hr0_4 hc0_4
 have HR1_4 := Aside0.mk hr1_4
 have HC1_4 := Aside0.mk hc1_4
 clear hr1_4 hc1_4
 have HB := ak (Below.refl w.heap.size w)
 have H : (if a0_0 = a1_0 then (if a0_1.toList = a1_1.toList then (if a0_2.toList = a1_2.toList then (if a0_3 = a1_3 then ((impl_Mail.f k l0_4 l1_4).bind fun t362 => (some t362)) else (some false)) else (some false)) else (some false)) else (some false)) = some r := h
 clear h
 by_cases c3 : a0_0 = a1_0
 ·rw [if_pos c3] at H
  have c3b0 : (a0_0 == a1_0) = true := beq_iff_eq.mpr c3
  have c3b1 : (a0_0 != a1_0) = false := bne_eq_false_iff_eq.mpr c3
  clear c3
  by_cases c4 : a0_1.toList = a1_1.toList
  ·rw [if_pos c4] at H
   have c4b0 : (a0_1.toList == a1_1.toList) = true := beq_iff_eq.mpr c4
   have c4b1 : (a0_1.toList != a1_1.toList) = false := bne_eq_false_iff_eq.mpr c4
   clear c4
   by_cases c5 : a0_2.toList = a1_2.toList
   ·rw [if_pos c5] at H
    have c5b0 : (a0_2.toList == a1_2.toList) = true := beq_iff_eq.mpr c5
    have c5b1 : (a0_2.toList != a1_2.toList) = false := bne_eq_false_iff_eq.mpr c5
    clear c5
    by_cases c6 : a0_3 = a1_3
    ·rw [if_pos c6] at H
     have c6b0 : (a0_3 == a1_3) = true := beq_iff_eq.mpr c6
     have c6b1 : (a0_3 != a1_3) = false := bne_eq_false_iff_eq.mpr c6
     clear c6
     obtain ⟨t362, A7, H⟩ := eb H
     try dsimp only at H
     obtain rfl := Option.some.inj H
     go_enter Try.func79, Try.ntmps79
     go_wp2_with (first | ((with_reducible refine gate_dst (N := 2) rfl ?_); refine bx 2 #[.int .i64 a0_0, .string a0_1, .string a0_2, .int .i64 a0_3, .slice A0_4 l0_4.length c0_4] 66 ?_; intro gb360 hg w8 hbox hb; replace BK360 := ak (hbox); replace GE360 := ak (bz hg (lG HB)); replace HB := lB HB hb; clear hb hbox hg) | ((with_reducible refine gate_dst (N := 3) rfl ?_); refine bx 3 #[.int .i64 a1_0, .string a1_1, .string a1_2, .int .i64 a1_3, .slice A1_4 l1_4.length c1_4] 66 ?_; intro gb361 hg w9 hbox hb; replace BK361 := ak (hbox); replace GW361 := ak (bz hg (lT HB (gC GE360 gN))); replace GE361 := ak (bz hg (lT HB (gC GE360 gN))); replace HB := ak (below_step (lT HB (gC GE360 gN)) hb); replace NB360_361 := ak (nl hg (bG BK360)); replace NB361_360 := ak (ng hg (bG BK360)); replace BK360 := bB BK360 hb; clear hb hbox hg; have hnb10 := NB360_361.out; have hnc10 := NB361_360.out; obtain ⟨_, _, _, _, _, _, _, _, _, _⟩ := bC5 BK360; obtain ⟨_, _, _, _, _, _, _, _, _, _⟩ := bC5 BK361) | (go_at_call 113; (with_reducible refine (impl_Mail.calls k _ _ l0_4 _ _ l1_4 t362 _ ?side1 ?side2 ?side3 ?side4 A7.out).mono ?_); (case side1 => exact cG (Kd.C_below HR0_4.out HB.out)); (case side2 => exact HC0_4.out); (case side3 => exact cG (Kd.C_below HR1_4.out HB.out)); (case side4 => exact HC1_4.out); rintro e w' ⟨rfl, ⟨nd, rfl⟩⟩))
     go_ret
     exact ⟨ew, by exact lT HB (gC GE360 (gC GE361 gN))⟩
    ·rw [if_neg c6] at H
     have c6b0 : (a0_3 == a1_3) = false := beq_eq_false_iff_ne.mpr c6
     have c6b1 : (a0_3 != a1_3) = true := bne_iff_ne.mpr c6
     obtain rfl := Option.some.inj H
     go_enter Try.func79, Try.ntmps79
     go_wp2_with (first | ((with_reducible refine gate_dst (N := 2) rfl ?_); refine bx 2 #[.int .i64 a0_0, .string a0_1, .string a0_2, .int .i64 a0_3, .slice A0_4 l0_4.length c0_4] 66 ?_; intro gb360 hg w13 hbox hb; replace BK360 := ak (hbox); replace GE360 := ak (bz hg (lG HB)); replace HB := lB HB hb; clear hb hbox hg) | ((with_reducible refine gate_dst (N := 3) rfl ?_); refine bx 3 #[.int .i64 a1_0, .string a1_1, .string a1_2, .int .i64 a1_3, .slice A1_4 l1_4.length c1_4] 66 ?_; intro gb361 hg w14 hbox hb; replace BK361 := ak (hbox); replace GW361 := ak (bz hg (lT HB (gC GE360 gN))); replace GE361 := ak (bz hg (lT HB (gC GE360 gN))); replace HB := ak (below_step (lT HB (gC GE360 gN)) hb); replace NB360_361 := ak (nl hg (bG BK360)); replace NB361_360 := ak (ng hg (bG BK360)); replace BK360 := bB BK360 hb; clear hb hbox hg; have hnb15 := NB360_361.out; have hnc15 := NB361_360.out; obtain ⟨_, _, _, _, _, _, _, _, _, _⟩ := bC5 BK360; obtain ⟨_, _, _, _, _, _, _, _, _, _⟩ := bC5 BK361))
     go_ret
     exact ⟨ew, by exact lT HB (gC GE360 (gC GE361 gN))⟩
   ·rw [if_neg c5] at H
    have c5b0 : (a0_2.toList == a1_2.toList) = false := beq_eq_false_iff_ne.mpr c5
    have c5b1 : (a0_2.toList != a1_2.toList) = true := bne_iff_ne.mpr c5
    obtain rfl := Option.some.inj H
    go_enter Try.func79, Try.ntmps79
    go_wp2_with (first | ((with_reducible refine gate_dst (N := 2) rfl ?_); refine bx 2 #[.int .i64 a0_0, .string a0_1, .string a0_2, .int .i64 a0_3, .slice A0_4 l0_4.length c0_4] 66 ?_; intro gb360 hg w18 hbox hb; replace BK360 := ak (hbox); replace GE360 := ak (bz hg (lG HB)); replace HB := lB HB hb; clear hb hbox hg) | ((with_reducible refine gate_dst (N := 3) rfl ?_); refine bx 3 #[.int .i64 a1_0, .string a1_1, .string a1_2, .int .i64 a1_3, .slice A1_4 l1_4.length c1_4] 66 ?_; intro gb361 hg w19 hbox hb; replace BK361 := ak (hbox); replace GW361 := ak (bz hg (lT HB (gC GE360 gN))); replace GE361 := ak (bz hg (lT HB (gC GE360 gN))); replace HB := ak (below_step (lT HB (gC GE360 gN)) hb); replace NB360_361 := ak (nl hg (bG BK360)); replace NB361_360 := ak (ng hg (bG BK360)); replace BK360 := bB BK360 hb; clear hb hbox hg; have hnb20 := NB360_361.out; have hnc20 := NB361_360.out; obtain ⟨_, _, _, _, _, _, _, _, _, _⟩ := bC5 BK360; obtain ⟨_, _, _, _, _, _, _, _, _, _⟩ := bC5 BK361))
    go_ret
    exact ⟨ew, by exact lT HB (gC GE360 (gC GE361 gN))⟩
  ·rw [if_neg c4] at H
   have c4b0 : (a0_1.toList == a1_1.toList) = false := beq_eq_false_iff_ne.mpr c4
   have c4b1 : (a0_1.toList != a1_1.toList) = true := bne_iff_ne.mpr c4
   obtain rfl := Option.some.inj H
   go_enter Try.func79, Try.ntmps79
   go_wp2_with (first | ((with_reducible refine gate_dst (N := 2) rfl ?_); refine bx 2 #[.int .i64 a0_0, .string a0_1, .string a0_2, .int .i64 a0_3, .slice A0_4 l0_4.length c0_4] 66 ?_; intro gb360 hg w23 hbox hb; replace BK360 := ak (hbox); replace GE360 := ak (bz hg (lG HB)); replace HB := lB HB hb; clear hb hbox hg) | ((with_reducible refine gate_dst (N := 3) rfl ?_); refine bx 3 #[.int .i64 a1_0, .string a1_1, .string a1_2, .int .i64 a1_3, .slice A1_4 l1_4.length c1_4] 66 ?_; intro gb361 hg w24 hbox hb; replace BK361 := ak (hbox); replace GW361 := ak (bz hg (lT HB (gC GE360 gN))); replace GE361 := ak (bz hg (lT HB (gC GE360 gN))); replace HB := ak (below_step (lT HB (gC GE360 gN)) hb); replace NB360_361 := ak (nl hg (bG BK360)); replace NB361_360 := ak (ng hg (bG BK360)); replace BK360 := bB BK360 hb; clear hb hbox hg; have hnb25 := NB360_361.out; have hnc25 := NB361_360.out; obtain ⟨_, _, _, _, _, _, _, _, _, _⟩ := bC5 BK360; obtain ⟨_, _, _, _, _, _, _, _, _, _⟩ := bC5 BK361))
   go_ret
   exact ⟨ew, by exact lT HB (gC GE360 (gC GE361 gN))⟩
 ·rw [if_neg c3] at H
  have c3b0 : (a0_0 == a1_0) = false := beq_eq_false_iff_ne.mpr c3
  have c3b1 : (a0_0 != a1_0) = true := bne_iff_ne.mpr c3
  obtain rfl := Option.some.inj H
  go_enter Try.func79, Try.ntmps79
  go_wp2_with (first | ((with_reducible refine gate_dst (N := 2) rfl ?_); refine bx 2 #[.int .i64 a0_0, .string a0_1, .string a0_2, .int .i64 a0_3, .slice A0_4 l0_4.length c0_4] 66 ?_; intro gb360 hg w28 hbox hb; replace BK360 := ak (hbox); replace GE360 := ak (bz hg (lG HB)); replace HB := lB HB hb; clear hb hbox hg) | ((with_reducible refine gate_dst (N := 3) rfl ?_); refine bx 3 #[.int .i64 a1_0, .string a1_1, .string a1_2, .int .i64 a1_3, .slice A1_4 l1_4.length c1_4] 66 ?_; intro gb361 hg w29 hbox hb; replace BK361 := ak (hbox); replace GW361 := ak (bz hg (lT HB (gC GE360 gN))); replace GE361 := ak (bz hg (lT HB (gC GE360 gN))); replace HB := ak (below_step (lT HB (gC GE360 gN)) hb); replace NB360_361 := ak (nl hg (bG BK360)); replace NB361_360 := ak (ng hg (bG BK360)); replace BK360 := bB BK360 hb; clear hb hbox hg; have hnb30 := NB360_361.out; have hnc30 := NB361_360.out; obtain ⟨_, _, _, _, _, _, _, _, _, _⟩ := bC5 BK360; obtain ⟨_, _, _, _, _, _, _, _, _, _⟩ := bC5 BK361))
  go_ret
  exact ⟨ew, by exact lT HB (gC GE360 (gC GE361 gN))⟩
end Go.Proofs.Ytagkjeldheiejaa.PFnAnyOrder
