-- printed
import Derived.Test.YtagkjeldheiejaaPFnStatesToldx11
import Derived.Test.YtagkjeldheiejaaPFnStatesToldx20
import Derived.Test.YtagkjeldheiejaaPFnStatesToldx21
import Derived.Test.YtagkjeldheiejaaPFnStatesToldx23
import Derived.Test.YtagkjeldheiejaaPFnStatesToldx24
import Derived.Test.YtagkjeldheiejaaVFnStatesTold1
namespace Go.Proofs.Ytagkjeldheiejaa.PFnStatesTold
open Go.RowKit YtagkjeldheiejaaW.PrintWords YtagkjeldheiejaaW.PrintLast YtagkjeldheiejaaW.PrintMore
set_option linter.unusedVariables false
set_option linter.unusedSimpArgs false
attribute [local go_sem] max2_int min2_int max_two min_two max_three min_three max_four min_four
set_option maxHeartbeats 8000000
set_option maxRecDepth 100000
def laws_FnStatesTold.f (k : Nat) (l0 : List Int) : Option (Bool) := (laws_big.f l0).bind fun t702 => (if t702 = true then (some true) else ((spec_DrawStateOf.f k l0).bind fun t703 => ((spec_DrawSameState.f k l0).bind fun bt706 => ((spec_DrawStateOk.f k l0).bind fun t714 => ((impl_StateOf.f k t703).bind fun t718 => ((impl_ItemsOk.f k t703).bind fun t722 => ((spec_ItemsOk.f k t703).bind fun t723 => (if (t722 == t723) = true then ((spec_StateOf.f k t703).bind fun t724 => ((spec_SameState.f k t718 t724).bind fun t727 => (if t727 = true then ((impl_SameState.f k bt706.1 bt706.2).bind fun t728 => ((spec_SameState.f k bt706.1 bt706.2).bind fun t729 => (if (t728 == t729) = true then ((impl_SameState.f k bt706.1 bt706.1).bind fun t730 => (if t730 = true then ((impl_StateOk.f k t714).bind fun t731 => ((spec_StateOk.f k t714).bind fun t732 => (if (t731 == t732) = true then ((impl_StateOk.f k ([] : List (S66))).bind fun t733 => (if t733 = true then ((impl_ValidAfter.f k t703).bind fun t734 => (some (decide (t734 ≥ 1)))) else (some false))) else (some false)))) else (some false))) else (some false)))) else (some false)))) else (some false)))))))))
theorem laws_FnStatesTold.mono : ∀ a0 k, LeO (laws_FnStatesTold.f k a0) (laws_FnStatesTold.f (k + 1) a0) := by
 intro a0 k
 unfold laws_FnStatesTold.f
 repeat' with_reducible first | exact impl_ItemsOk.mono _ _ | exact impl_SameState.mono _ _ _ | exact impl_StateOf.mono _ _ | exact impl_StateOk.mono _ _ | exact impl_ValidAfter.mono _ _ | exact spec_DrawSameState.mono _ _ | exact spec_DrawStateOf.mono _ _ | exact spec_DrawStateOk.mono _ _ | exact spec_ItemsOk.mono _ _ | exact spec_SameState.mono _ _ _ | exact spec_StateOf.mono _ _ | exact spec_StateOk.mono _ _ | exact LeO.refl _ | exact LeO.none _ | refine LeO.ite ?_ ?_ | refine LeO.bind ?_ (fun _ => ?_)
def laws_FnStatesTold.T7 : Bool × List (List Nat × List Nat) := (true, [([], []), ([0], [0]), ([], []), ([2, 1], [2]), ([1, 3], [1, 3]), ([4, 3], [4]), ([5], [5]), ([5], [5]), ([7, 5, 5], [5, 7]), ([6, 8, 8, 5], [5, 6, 8]), ([5, 9], [5, 9]), ([10, 9], [10]), ([11], [11]), ([11], [11]), ([12, 13, 11, 11], [11, 12, 13]), ([11], [11]), ([11], [11]), ([15, 16, 14, 11], [11, 15, 16]), ([14, 17, 11], [11, 14, 17]), ([11, 18], [11, 18]), ([19, 17], [19]), ([20], [20]), ([20], [20]), ([21, 22, 20, 20], [20, 21, 22]), ([20, 23], [20, 23]), ([24, 23], [24]), ([25], [25]), ([26, 25, 25], [25, 26]), ([25], [25]), ([28, 27, 25], [25, 28]), ([27, 29, 25], [25, 27, 29]), ([25, 30], [25, 30]), ([31, 29], [31]), ([32], [32]), ([33, 32, 32], [32, 33]), ([32, 34], [32, 34]), ([35, 34], [35]), ([36], [36]), ([37, 36, 36], [36, 37]), ([38, 36], [36, 38]), ([36, 39], [36, 39]), ([40, 38, 0, 1, 2, 3, 4, 5, 6, 7, 8, 9, 10, 11, 12, 13, 14, 15, 16, 17, 18, 19, 20, 21, 22, 23, 24, 25, 26, 27, 28, 29, 30, 31, 32, 33, 34, 35, 36, 37, 38, 39, 40], [40])])
def laws_FnStatesTold.B7 : List Nat := [0, 1, 0, 7, 15, 31, 63, 63, 191, 511, 1023, 2047, 4095, 4095, 16383, 4095, 4095, 131071, 262143, 524287, 1048575, 2097151, 2097151, 8388607, 16777215, 33554431, 67108863, 134217727, 67108863, 536870911, 1073741823, 2147483647, 4294967295, 8589934591, 17179869183, 34359738367, 68719476735, 137438953471, 274877906943, 549755813887, 1099511627775, 2199023255551]
theorem laws_FnStatesTold.tab7 : rtab .any (opsOf Try.f9 7) = laws_FnStatesTold.T7 := by kernel_rfl
theorem laws_FnStatesTold.bits7 : waitsOk laws_FnStatesTold.T7.2 laws_FnStatesTold.B7 = true := by kernel_rfl
theorem laws_FnStatesTold.calls (k : Nat) (A0 : Option Addr) (c0 : Nat) (l0 : List Int) (w : World) (hr0 : Kd.C (Kd.int .u8) w A0 l0.length l0) (hc0 : l0.length ≤ c0) (h : laws_FnStatesTold.f k l0 = some true) :
  Calls Try.prog 9 #[.slice A0 l0.length c0] w fun e w' => e = .returned (.bool true) ∧ Below w.heap.size w w' := by
 have hu60 := Try.underlying60
 have HR0 := Aside0.mk hr0
 have HC0 := Aside0.mk hc0
 clear hr0 hc0
 have HB := ak (Below.refl w.heap.size w)
 have H := h
 clear h
 unfold laws_FnStatesTold.f at H
 obtain ⟨t702, A2, H⟩ := eb H
 try dsimp only at H
 by_cases c3 : t702 = true
 ·subst c3
  have H1 : (some true) = some true := rfl
  clear H
  have H := H1
  clear H1
  go_enter Try.func9, Try.ntmps9
  go_wp2_with (first | ((with_reducible refine gate_callee (f := 23) rfl ?_); refine gl (some 9) Try.func23 #[.slice A0 l0.length c0] ?_; (with_reducible refine (laws_big.calls _ _ l0 true _ ?side1 ?side2 A2.out).mono ?_); (case side1 => repeat (first | exact HR0.out | (with_reducible refine Kd.C_alloc ?_ _) | (with_reducible refine Kd.C_drewN ?_ _) | (with_reducible refine Kd.C_drew ?_))); (case side2 => exact HC0.out); rintro e w' ⟨rfl, ⟨nd, rfl⟩⟩; refine ⟨_, rfl, ?_⟩))
  go_ret
  exact ⟨ew, by exact lG HB⟩
 ·replace c3 := Bool.eq_false_iff.mpr c3
  subst c3
  rw [if_neg (show ¬ (false = true) by decide)] at H
  obtain ⟨t703, A4, H⟩ := eb H
  try dsimp only at H
  obtain ⟨⟨t706, t709⟩, A5, H⟩ := eb H
  try dsimp only at H
  obtain ⟨t714, A6, H⟩ := eb H
  try dsimp only at H
  obtain ⟨t718, A7, H⟩ := eb H
  try dsimp only at H
  obtain ⟨t722, A8, H⟩ := eb H
  try dsimp only at H
  obtain ⟨t723, A9, H⟩ := eb H
  try dsimp only at H
  by_cases c10 : (t722 == t723) = true
  ·rw [if_pos c10] at H
   have c10b0 : (t722 == t723) = true := c10
   (try (have c10b1 : decide (t722 = t723) = true := by simpa using c10))
   (try (have c10b2 : (t722 == t723) = true := by simpa using c10))
   clear c10
   obtain ⟨t724, A11, H⟩ := eb H
   try dsimp only at H
   obtain ⟨t727, A12, H⟩ := eb H
   try dsimp only at H
   by_cases c13 : t727 = true
   ·subst c13
    rw [if_pos rfl] at H
    obtain ⟨t728, A14, H⟩ := eb H
    try dsimp only at H
    obtain ⟨t729, A15, H⟩ := eb H
    try dsimp only at H
    by_cases c16 : (t728 == t729) = true
    ·rw [if_pos c16] at H
     have c16b0 : (t728 == t729) = true := c16
     (try (have c16b1 : decide (t728 = t729) = true := by simpa using c16))
     (try (have c16b2 : (t728 == t729) = true := by simpa using c16))
     clear c16
     obtain ⟨t730, A17, H⟩ := eb H
     try dsimp only at H
     by_cases c18 : t730 = true
     ·subst c18
      rw [if_pos rfl] at H
      obtain ⟨t731, A19, H⟩ := eb H
      try dsimp only at H
      obtain ⟨t732, A20, H⟩ := eb H
      try dsimp only at H
      by_cases c21 : (t731 == t732) = true
      ·rw [if_pos c21] at H
       have c21b0 : (t731 == t732) = true := c21
       (try (have c21b1 : decide (t731 = t732) = true := by simpa using c21))
       (try (have c21b2 : (t731 == t732) = true := by simpa using c21))
       clear c21
       obtain ⟨t733, A22, H⟩ := eb H
       try dsimp only at H
       by_cases c23 : t733 = true
       ·subst c23
        rw [if_pos rfl] at H
        obtain ⟨t734, A24, H⟩ := eb H
        try dsimp only at H
        have HRES := Option.some.inj H
        go_enter Try.func9, Try.ntmps9
        try go_wp2_with (first | ((with_reducible refine gate_callee (f := 23) rfl ?_); refine gl (some 9) Try.func23 #[.slice A0 l0.length c0] ?_; (with_reducible refine (laws_big.calls _ _ l0 false _ ?side1 ?side2 A2.out).mono ?_); (case side1 => repeat (first | exact HR0.out | (with_reducible refine Kd.C_alloc ?_ _) | (with_reducible refine Kd.C_drewN ?_ _) | (with_reducible refine Kd.C_drew ?_))); (case side2 => exact HC0.out); rintro e w' ⟨rfl, ⟨nd, rfl⟩⟩; refine ⟨_, rfl, ?_⟩) | ((with_reducible refine gate_callee (f := 47) rfl ?_); refine gl (some 11) Try.func47 #[.slice A0 l0.length c0] ?_; (with_reducible refine (spec_DrawStateOf.calls k _ _ l0 t703 _ ?side1 ?side2 A4.out).mono ?_); (case side1 => repeat (first | exact HR0.out | (with_reducible refine Kd.C_alloc ?_ _) | (with_reducible refine Kd.C_drewN ?_ _) | (with_reducible refine Kd.C_drew ?_))); (case side2 => exact HC0.out); rintro e w25 ⟨v704, rfl, ho0, hb⟩; refine ⟨_, rfl, ?_⟩; replace HO705 := ak (Kd.R_lower ho0 (below_size (lG HB))); replace HB := lB HB hb; (try clear hb); (try clear hk); (try clear ho0)) | ((with_reducible refine gate_callee (f := 48) rfl ?_); refine gl (some 14) Try.func48 #[.slice A0 l0.length c0] ?_; (with_reducible refine (spec_DrawSameState.calls k _ _ l0 t706 t709 _ ?side1 ?side2 A5.out).mono ?_); (case side1 => exact cG (Kd.C_below HR0.out HB.out)); (case side2 => exact HC0.out); rintro e w26 ⟨v707, v710, rfl, ho0, ho1, hb⟩; refine ⟨_, rfl, ?_⟩; replace HO705 := rB HO705 hb; replace HO708 := ak (Kd.S_lower ho0 (below_size (lG HB))); replace HO711 := ak (Kd.S_lower ho1 (below_size (lG HB))); replace HB := lB HB hb; (try clear hb); (try clear hk); (try clear ho0); (try clear ho1)) | ((with_reducible refine gate_dst (N := 4) rfl ?_); refine bx 4 #[.slice none 0 0] 60 ?_; intro gb712 hg w27 hbox hb; replace HO705 := rB HO705 hb; replace HO708 := sB HO708 hb; replace HO711 := sB HO711 hb; replace BK712 := ak (hbox); replace GE712 := ak (bz hg (lG HB)); replace HB := lB HB hb; clear hb hbox hg) | ((with_reducible refine gate_dst (N := 5) rfl ?_); refine bx 5 #[.slice none 0 0] 60 ?_; intro gb713 hg w28 hbox hb; replace HO705 := rB HO705 hb; replace HO708 := sB HO708 hb; replace HO711 := sB HO711 hb; replace BK713 := ak (hbox); replace GW713 := ak (bz hg (lT HB (gC GE712 gN))); replace GE713 := ak (bz hg (lT HB (gC GE712 gN))); replace HB := ak (below_step (lT HB (gC GE712 gN)) hb); replace NB712_713 := ak (nl hg (bG BK712)); replace NB713_712 := ak (ng hg (bG BK712)); replace BK712 := bB BK712 hb; clear hb hbox hg; obtain ⟨Ao29, co29, eo29⟩ := Kd.S_slice HO708.out; subst eo29; have hnb30 := NB712_713.out; have hnc30 := NB713_712.out; obtain ⟨_, _⟩ := bC1 BK712; obtain ⟨Ao32, co32, eo32⟩ := Kd.S_slice HO711.out; subst eo32; obtain ⟨_, _⟩ := bC1 BK713) | ((with_reducible refine gate_callee (f := 49) rfl ?_); refine gl (some 18) Try.func49 #[.slice A0 l0.length c0] ?_; (with_reducible refine (spec_DrawStateOk.calls k _ _ l0 t714 _ ?side1 ?side2 A6.out).mono ?_); (case side1 => exact Kd.C_below HR0.out (lT HB (gC GE712 (gC GE713 gN)))); (case side2 => exact HC0.out); rintro e w34 ⟨v715, rfl, ho0, hb⟩; refine ⟨_, rfl, ?_⟩; replace HO705 := ak (Kd.R_below (by (with_reducible repeat (first | apply Kd.R_alloc | apply Kd.R_drewN | apply Kd.R_drew)); exact (Kd.R_mono (Kd.R_mono (Kd.R_far (p := ⟨gb713, 0, none⟩) (Kd.R_far (p := ⟨gb712, 0, none⟩) (Kd.R_types (Kd.R_types HO705.out BK712.out (by decide)) BK713.out (by decide)) (fun _ hk => hk.1.2) (.slice Ao29 t706.length co29)) (fun _ hk => hk.2) (.slice Ao32 t709.length co32)) (fun _ h_ => h_.1)) (fun _ h_ => h_.1))) hb); replace HO716 := ak (Kd.S_lower (Kd.S_new' (Kd.S_new' ho0 (Kd.S_lt (by (with_reducible repeat (first | apply Kd.S_alloc | apply Kd.S_drewN | apply Kd.S_drew)); exact (Kd.S_mono (Kd.S_mono (Kd.S_far (p := ⟨gb713, 0, none⟩) (Kd.S_far (p := ⟨gb712, 0, none⟩) (Kd.S_types (Kd.S_types HO708.out BK712.out (by decide)) BK713.out (by decide)) (fun _ hk => hk.1.2) (.slice Ao29 t706.length co29)) (fun _ hk => hk.2) (.slice Ao32 t709.length co32)) (fun _ h_ => h_.1)) (fun _ h_ => h_.1))))) (Kd.S_lt (by (with_reducible repeat (first | apply Kd.S_alloc | apply Kd.S_drewN | apply Kd.S_drew)); exact (Kd.S_mono (Kd.S_mono (Kd.S_far (p := ⟨gb713, 0, none⟩) (Kd.S_far (p := ⟨gb712, 0, none⟩) (Kd.S_types (Kd.S_types HO711.out BK712.out (by decide)) BK713.out (by decide)) (fun _ hk => hk.1.2) (.slice Ao29 t706.length co29)) (fun _ hk => hk.2) (.slice Ao32 t709.length co32)) (fun _ h_ => h_.1)) (fun _ h_ => h_.1))))) (below_size (lT HB (gC GE712 (gC GE713 gN))))); replace HO708 := ak (Kd.S_elder' (by (with_reducible repeat (first | apply Kd.S_alloc | apply Kd.S_drewN | apply Kd.S_drew)); exact (Kd.S_mono (Kd.S_mono (Kd.S_far (p := ⟨gb713, 0, none⟩) (Kd.S_far (p := ⟨gb712, 0, none⟩) (Kd.S_types (Kd.S_types HO708.out BK712.out (by decide)) BK713.out (by decide)) (fun _ hk => hk.1.2) (.slice Ao29 t706.length co29)) (fun _ hk => hk.2) (.slice Ao32 t709.length co32)) (fun _ h_ => h_.1)) (fun _ h_ => h_.1))) (Kd.S_base ho0) hb); replace HO711 := ak (Kd.S_elder' (by (with_reducible repeat (first | apply Kd.S_alloc | apply Kd.S_drewN | apply Kd.S_drew)); exact (Kd.S_mono (Kd.S_mono (Kd.S_far (p := ⟨gb713, 0, none⟩) (Kd.S_far (p := ⟨gb712, 0, none⟩) (Kd.S_types (Kd.S_types HO711.out BK712.out (by decide)) BK713.out (by decide)) (fun _ hk => hk.1.2) (.slice Ao29 t706.length co29)) (fun _ hk => hk.2) (.slice Ao32 t709.length co32)) (fun _ h_ => h_.1)) (fun _ h_ => h_.1))) (Kd.S_base ho0) hb); replace BK712 := ak (blk_below (g := gb712) (o := .cells #[.slice Ao29 t706.length co29] 60 (0, 0)) (bF BK712 (nC NB712_713 nN)) hb); replace BK713 := ak (blk_below (g := gb713) (o := .cells #[.slice Ao32 t709.length co32] 60 (0, 0)) (bF BK713 (nC NB713_712 nN)) hb); replace HB := ak (below_step (lT HB (gC GE712 (gC GE713 gN))) hb); (try clear hb); (try clear hk); (try clear ho0)) | ((with_reducible refine gate_dst (N := 6) rfl ?_); refine bx 6 #[.slice none 0 0] 60 ?_; intro gb717 hg w35 hbox hb; replace HO705 := rB HO705 hb; replace HO708 := sB HO708 hb; replace HO711 := sB HO711 hb; replace HO716 := sB HO716 hb; replace BK717 := ak (hbox); replace GW717 := ak (bz hg (lT HB (gC GE712 (gC GE713 gN)))); replace GE717 := ak (bz hg (lT HB (gC GE712 (gC GE713 gN)))); replace HB := ak (below_step (lT HB (gC GE712 (gC GE713 gN))) hb); replace NB712_717 := ak (nl hg (bG BK712)); replace NB717_712 := ak (ng hg (bG BK712)); replace BK712 := bB BK712 hb; replace NB713_717 := ak (nl hg (bG BK713)); replace NB717_713 := ak (ng hg (bG BK713)); replace BK713 := bB BK713 hb; clear hb hbox hg; obtain ⟨Ao36, co36, eo36⟩ := Kd.S_slice HO716.out; subst eo36; have hnb37 := NB717_712.out; have hnc37 := NB712_717.out; have hnb38 := NB717_713.out; have hnc38 := NB713_717.out; obtain ⟨_, _⟩ := bC1 BK717; obtain ⟨Ao40, co40, eo40⟩ := Kd.R_slice HO705.out; subst eo40) | ((with_reducible refine gate_callee (f := 35) rfl ?_); refine gl (some 20) Try.func35 #[.slice Ao40 t703.length co40] ?_; (with_reducible refine (impl_StateOf.calls k _ _ t703 t718 _ ?side1 ?side2 A7.out).mono ?_); (case side1 => exact (Kd.R_reads' (rT HO705 BK717 (by decide))).2.2); (case side2 => exact (Kd.R_reads' HO705.out).2.1); rintro e w41 ⟨v719, rfl, ho0, hb⟩; refine ⟨_, rfl, ?_⟩; replace HO705 := ak (Kd.R_below (rT HO705 BK717 (by decide)) hb); replace HO720 := ak (Kd.S_lower (Kd.S_new' (Kd.S_new' (Kd.S_new' ho0 (Kd.S_lt (by (with_reducible repeat (first | apply Kd.S_alloc | apply Kd.S_drewN | apply Kd.S_drew)); exact (Kd.S_mono (Kd.S_far (p := ⟨gb717, 0, none⟩) (Kd.S_types HO708.out BK717.out (by decide)) (fun _ hk => hk.2) (.slice Ao36 t714.length co36)) (fun _ h_ => h_.1))))) (Kd.S_lt (by (with_reducible repeat (first | apply Kd.S_alloc | apply Kd.S_drewN | apply Kd.S_drew)); exact (Kd.S_mono (Kd.S_far (p := ⟨gb717, 0, none⟩) (Kd.S_types HO711.out BK717.out (by decide)) (fun _ hk => hk.2) (.slice Ao36 t714.length co36)) (fun _ h_ => h_.1))))) (Kd.S_lt (by (with_reducible repeat (first | apply Kd.S_alloc | apply Kd.S_drewN | apply Kd.S_drew)); exact (Kd.S_mono (Kd.S_far (p := ⟨gb717, 0, none⟩) (Kd.S_types HO716.out BK717.out (by decide)) (fun _ hk => hk.2) (.slice Ao36 t714.length co36)) (fun _ h_ => h_.1))))) (below_size (lT HB (gC GE712 (gC GE713 (gC GE717 gN)))))); replace HO708 := ak (Kd.S_elder' (by (with_reducible repeat (first | apply Kd.S_alloc | apply Kd.S_drewN | apply Kd.S_drew)); exact (Kd.S_mono (Kd.S_far (p := ⟨gb717, 0, none⟩) (Kd.S_types HO708.out BK717.out (by decide)) (fun _ hk => hk.2) (.slice Ao36 t714.length co36)) (fun _ h_ => h_.1))) (Kd.S_base ho0) hb); replace HO711 := ak (Kd.S_elder' (by (with_reducible repeat (first | apply Kd.S_alloc | apply Kd.S_drewN | apply Kd.S_drew)); exact (Kd.S_mono (Kd.S_far (p := ⟨gb717, 0, none⟩) (Kd.S_types HO711.out BK717.out (by decide)) (fun _ hk => hk.2) (.slice Ao36 t714.length co36)) (fun _ h_ => h_.1))) (Kd.S_base ho0) hb); replace HO716 := ak (Kd.S_elder' (by (with_reducible repeat (first | apply Kd.S_alloc | apply Kd.S_drewN | apply Kd.S_drew)); exact (Kd.S_mono (Kd.S_far (p := ⟨gb717, 0, none⟩) (Kd.S_types HO716.out BK717.out (by decide)) (fun _ hk => hk.2) (.slice Ao36 t714.length co36)) (fun _ h_ => h_.1))) (Kd.S_base ho0) hb); replace BK712 := ak (blk_below (bT BK712 (nC NB712_717 nN)) hb); replace BK713 := ak (blk_below (bT BK713 (nC NB713_717 nN)) hb); replace BK717 := ak (blk_below (g := gb717) (o := .cells #[.slice Ao36 t714.length co36] 60 (0, 0)) (bW BK717) hb); replace HB := ak (below_step (lT HB (gC GE712 (gC GE713 (gC GE717 gN)))) hb); (try clear hb); (try clear hk); (try clear ho0)) | ((with_reducible refine gate_dst (N := 7) rfl ?_); refine bx 7 #[.slice none 0 0] 60 ?_; intro gb721 hg w42 hbox hb; replace HO705 := rB HO705 hb; replace HO708 := sB HO708 hb; replace HO711 := sB HO711 hb; replace HO716 := sB HO716 hb; replace HO720 := sB HO720 hb; replace BK721 := ak (hbox); replace GW721 := ak (bz hg (lT HB (gC GE712 (gC GE713 (gC GE717 gN))))); replace GE721 := ak (bz hg (lT HB (gC GE712 (gC GE713 (gC GE717 gN))))); replace HB := ak (below_step (lT HB (gC GE712 (gC GE713 (gC GE717 gN)))) hb); replace NB712_721 := ak (nl hg (bG BK712)); replace NB721_712 := ak (ng hg (bG BK712)); replace BK712 := bB BK712 hb; replace NB713_721 := ak (nl hg (bG BK713)); replace NB721_713 := ak (ng hg (bG BK713)); replace BK713 := bB BK713 hb; replace NB717_721 := ak (nl hg (bG BK717)); replace NB721_717 := ak (ng hg (bG BK717)); replace BK717 := bB BK717 hb; clear hb hbox hg; obtain ⟨Ao43, co43, eo43⟩ := Kd.S_slice HO720.out; subst eo43; have hnb44 := NB721_712.out; have hnc44 := NB712_721.out; have hnb45 := NB721_713.out; have hnc45 := NB713_721.out; have hnb46 := NB721_717.out; have hnc46 := NB717_721.out; obtain ⟨_, _⟩ := bC1 BK721))
        obtain ⟨w48, eW_⟩ : ∃ w_, w_ = (w42.setCell ⟨gb721, 0, none⟩ (.slice Ao43 t718.length co43)) := ⟨_, rfl⟩
        have n0_ : Aside0 (Kd.R k32 32 w48 w.heap.size (fun _ => True) (.slice Ao40 t703.length co40) t703) := by rw [eW_]; exact ⟨by exact Kd.R_mono (rT HO705 BK721 (by decide)) (fun _ hk => trivial)⟩
        have n1_ : Aside0 (Kd.S k66 66 w48 w.heap.size (fun k_ => some k_ ≠ (.slice Ao32 t709.length co32 : Value).ownBlock ∧ some k_ ≠ (.slice Ao36 t714.length co36 : Value).ownBlock ∧ some k_ ≠ (.slice Ao43 t718.length co43 : Value).ownBlock) (.slice Ao29 t706.length co29) t706) := by rw [eW_]; exact ⟨by (with_reducible repeat (first | apply Kd.S_alloc | apply Kd.S_drewN | apply Kd.S_drew)); exact Kd.S_mono (Kd.S_far (p := ⟨gb721, 0, none⟩) (Kd.S_types HO708.out BK721.out (by decide)) (fun _ hk => hk.2) (.slice Ao43 t718.length co43)) (fun _ hk => ⟨hk.1.1.1, ⟨hk.1.1.2, hk.1.2⟩⟩)⟩
        have n2_ : Aside0 (Kd.S k66 66 w48 w.heap.size (fun k_ => some k_ ≠ (.slice Ao29 t706.length co29 : Value).ownBlock ∧ some k_ ≠ (.slice Ao36 t714.length co36 : Value).ownBlock ∧ some k_ ≠ (.slice Ao43 t718.length co43 : Value).ownBlock) (.slice Ao32 t709.length co32) t709) := by rw [eW_]; exact ⟨by (with_reducible repeat (first | apply Kd.S_alloc | apply Kd.S_drewN | apply Kd.S_drew)); exact Kd.S_mono (Kd.S_far (p := ⟨gb721, 0, none⟩) (Kd.S_types HO711.out BK721.out (by decide)) (fun _ hk => hk.2) (.slice Ao43 t718.length co43)) (fun _ hk => ⟨hk.1.1.1, ⟨hk.1.1.2, hk.1.2⟩⟩)⟩
        have n3_ : Aside0 (Kd.S k66 66 w48 w.heap.size (fun k_ => some k_ ≠ (.slice Ao29 t706.length co29 : Value).ownBlock ∧ some k_ ≠ (.slice Ao32 t709.length co32 : Value).ownBlock ∧ some k_ ≠ (.slice Ao43 t718.length co43 : Value).ownBlock) (.slice Ao36 t714.length co36) t714) := by rw [eW_]; exact ⟨by (with_reducible repeat (first | apply Kd.S_alloc | apply Kd.S_drewN | apply Kd.S_drew)); exact Kd.S_mono (Kd.S_far (p := ⟨gb721, 0, none⟩) (Kd.S_types HO716.out BK721.out (by decide)) (fun _ hk => hk.2) (.slice Ao43 t718.length co43)) (fun _ hk => ⟨hk.1.1.1.2, ⟨hk.1.1.2, hk.1.2⟩⟩)⟩
        have n4_ : Aside0 (Kd.S k66 66 w48 w.heap.size (fun k_ => some k_ ≠ (.slice Ao29 t706.length co29 : Value).ownBlock ∧ some k_ ≠ (.slice Ao32 t709.length co32 : Value).ownBlock ∧ some k_ ≠ (.slice Ao36 t714.length co36 : Value).ownBlock) (.slice Ao43 t718.length co43) t718) := by rw [eW_]; exact ⟨by (with_reducible repeat (first | apply Kd.S_alloc | apply Kd.S_drewN | apply Kd.S_drew)); exact Kd.S_mono (Kd.S_far (p := ⟨gb721, 0, none⟩) (Kd.S_types HO720.out BK721.out (by decide)) (fun _ hk => hk.2) (.slice Ao43 t718.length co43)) (fun _ hk => ⟨hk.1.1.1.2, ⟨hk.1.1.2, hk.1.2⟩⟩)⟩
        have n5_ : Aside0 (w48.heap[gb712]? = some (.cells #[.slice Ao29 t706.length co29] 60 (0, 0))) := by rw [eW_]; exact ⟨bF BK712 (nC NB712_721 nN)⟩
        have n6_ : Aside0 (w48.heap[gb713]? = some (.cells #[.slice Ao32 t709.length co32] 60 (0, 0))) := by rw [eW_]; exact ⟨bF BK713 (nC NB713_721 nN)⟩
        have n7_ : Aside0 (w48.heap[gb717]? = some (.cells #[.slice Ao36 t714.length co36] 60 (0, 0))) := by rw [eW_]; exact ⟨bF BK717 (nC NB717_721 nN)⟩
        have n8_ : Aside0 (w48.heap[gb721]? = some (.cells #[.slice Ao43 t718.length co43] 60 (0, 0))) := by rw [eW_]; exact ⟨bW BK721⟩
        have n9_ : Aside0 (Below w.heap.size w w48) := by rw [eW_]; exact ⟨by exact lT HB (gC GE712 (gC GE713 (gC GE717 (gC GE721 gN))))⟩
        (try clear HO705)
        (try clear HO708)
        (try clear HO711)
        (try clear HO716)
        (try clear HO720)
        (try clear BK712)
        (try clear BK713)
        (try clear BK717)
        (try clear BK721)
        (try clear HB)
        rw [← eW_];clear eW_
        have HO705 := n0_
        have HO708 := n1_
        have HO711 := n2_
        have HO716 := n3_
        have HO720 := n4_
        have BK712 := n5_
        have BK713 := n6_
        have BK717 := n7_
        have BK721 := n8_
        have HB := n9_
        clear n0_ n1_ n2_ n3_ n4_ n5_ n6_ n7_ n8_ n9_
        replace HO705 := ak (Kd.R_drew HO705.out)
        replace HO708 := ak (Kd.S_drew HO708.out)
        replace HO711 := ak (Kd.S_drew HO711.out)
        replace HO716 := ak (Kd.S_drew HO716.out)
        replace HO720 := ak (Kd.S_drew HO720.out)
        replace BK712 := ak (blk_drew BK712.out)
        replace BK713 := ak (blk_drew BK713.out)
        replace BK717 := ak (blk_drew BK717.out)
        replace BK721 := ak (blk_drew BK721.out)
        replace HB := ak (below_drew1 HB.out)
        refine start_ (n := 42) (S := fun w' => w'.cell? ⟨gb721, 0, none⟩ = some (.slice Ao43 t718.length co43) ∧ w'.cell? ⟨gb712, 0, none⟩ = some (.slice Ao29 t706.length co29) ∧ w'.cell? ⟨gb713, 0, none⟩ = some (.slice Ao32 t709.length co32) ∧ w'.cell? ⟨gb717, 0, none⟩ = some (.slice Ao36 t714.length co36)) (ds := []) (fb 42 0) (by kernel_rfl) rfl rfl ⟨bc BK721 0, bc BK712 0, bc BK713 0, bc BK717 0⟩ (fun hHeld => ?_); refine with_tabW laws_FnStatesTold.tab7 laws_FnStatesTold.bits7 (fun HT_ HW_ => ?_)
        generalize w48.drew = w49 at HO705 HO708 HO711 HO716 HO720 BK712 BK713 BK717 BK721 HB hHeld ⊢
        refine pu 0 21 (fb 42 1) HT_ ?_
        refine pu 2 23 (fb 42 5) HT_ ?_
        refine on 1 (some 22) (fb 42 7) HT_ (fun K hK => ?_)
        refine gs Try.func21 #[.slice Ao40 t703.length co40] ?_
        with_reducible refine (impl_ItemsOk.calls k _ _ t703 t722 _ ?side1 ?side2 A8.out).mono ?_
        (case side1 => exact cG (Kd.R_reads' HO705.out).2.2)
        (case side2 => exact (Kd.R_reads' HO705.out).2.1)
        rintro e w50 ⟨rfl, hb⟩
        refine ⟨_, rfl, ?_⟩
        replace HO705 := rB HO705 hb
        replace HO708 := sB HO708 hb
        replace HO711 := sB HO711 hb
        replace HO716 := sB HO716 hb
        replace HO720 := sB HO720 hb
        replace BK712 := bB BK712 hb
        replace BK713 := bB BK713 hb
        replace BK717 := bB BK717 hb
        replace BK721 := bB BK721 hb
        replace HB := ak (below_step (lT HB (gC GE712 (gC GE713 (gC GE717 (gC GE721 gN))))) hb)
        (try clear hb)
        (try clear hb2)
        (try clear hk)
        (try clear hi)
        refine hK.out _ _ ⟨bc BK721 0, bc BK712 0, bc BK713 0, bc BK717 0⟩ (fun hHeld => ?_)
        clear hK K
        refine nm ?_
        refine on 3 (some 24) (fb 42 15) HT_ (fun K hK => ?_)
        refine gs Try.func19 #[.slice Ao40 t703.length co40] ?_
        with_reducible refine (spec_ItemsOk.calls k _ _ t703 t723 _ ?side1 ?side2 A9.out).mono ?_
        (case side1 => exact cG (Kd.R_reads' HO705.out).2.2)
        (case side2 => exact (Kd.R_reads' HO705.out).2.1)
        rintro e w51 ⟨rfl, hb⟩
        refine ⟨_, rfl, ?_⟩
        replace HO705 := rB HO705 hb
        replace HO708 := sB HO708 hb
        replace HO711 := sB HO711 hb
        replace HO716 := sB HO716 hb
        replace HO720 := sB HO720 hb
        replace BK712 := bB BK712 hb
        replace BK713 := bB BK713 hb
        replace BK717 := bB BK717 hb
        replace BK721 := bB BK721 hb
        replace HB := ak (below_step (lT HB (gC GE712 (gC GE713 (gC GE717 (gC GE721 gN))))) hb)
        (try clear hb)
        (try clear hb2)
        (try clear hk)
        (try clear hi)
        refine hK.out _ _ ⟨bc BK721 0, bc BK712 0, bc BK713 0, bc BK717 0⟩ (fun hHeld => ?_)
        clear hK K
        refine nm ?_
        refine pu 4 25 (fb 42 31) HT_ ?_
        refine pu 5 26 (fb 42 63) HT_ ?_
        refine pu 7 28 (fb 42 191) HT_ ?_
        refine tk 6 27 (fb 42 255) HT_ HW_ hHeld ?_
        refine on 8 (some 29) (fb 42 511) HT_ (fun K hK => ?_)
        refine gs Try.func38 #[.slice Ao40 t703.length co40] ?_
        with_reducible refine (spec_StateOf.calls k _ _ t703 t724 _ ?side1 ?side2 A11.out).mono ?_
        (case side1 => exact cG (Kd.R_reads' HO705.out).2.2)
        (case side2 => exact (Kd.R_reads' HO705.out).2.1)
        rintro e w52 ⟨v725, rfl, ho0, hb⟩
        refine ⟨_, rfl, ?_⟩
        replace HO705 := rB HO705 hb
        replace HO726 := ak (Kd.S_lower (Kd.S_new' (Kd.S_new' (Kd.S_new' (Kd.S_new' ho0 (Kd.S_lt (sG HO708))) (Kd.S_lt (sG HO711))) (Kd.S_lt (sG HO716))) (Kd.S_lt (sG HO720))) (below_size (lT HB (gC GE712 (gC GE713 (gC GE717 (gC GE721 gN)))))))
        replace HO708 := ak (Kd.S_elder' (sG HO708) (Kd.S_base ho0) hb)
        replace HO711 := ak (Kd.S_elder' (sG HO711) (Kd.S_base ho0) hb)
        replace HO716 := ak (Kd.S_elder' (sG HO716) (Kd.S_base ho0) hb)
        replace HO720 := ak (Kd.S_elder' (sG HO720) (Kd.S_base ho0) hb)
        replace BK712 := bB BK712 hb
        replace BK713 := bB BK713 hb
        replace BK717 := bB BK717 hb
        replace BK721 := bB BK721 hb
        replace HB := ak (below_step (lT HB (gC GE712 (gC GE713 (gC GE717 (gC GE721 gN))))) hb)
        (try clear hb)
        (try clear hb2)
        (try clear hk)
        (try clear hi)
        (try clear ho0)
        obtain ⟨Ao53, co53, eo53⟩ := Kd.S_slice HO726.out
        (first | subst eo53 | (injection eo53 with f1_ f2_ f3_; have f4_ := f1_.symm; have f5_ := f3_.symm; clear f1_ f2_ f3_; subst f4_; subst f5_))
        refine hK.out _ _ ⟨bc BK721 0, bc BK712 0, bc BK713 0, bc BK717 0⟩ (fun hHeld => ?_)
        clear hK K
        refine nm ?_
        refine on 9 (some 30) (fb 42 1023) HT_ (fun K hK => ?_)
        refine gs Try.func50 #[.agg #[.slice Ao43 t718.length co43], .agg #[.slice Ao53 t724.length co53]] ?_
        with_reducible refine (spec_SameState.calls k _ _ t718 _ _ t724 true _ ?side1 ?side2 ?side3 ?side4 A12.out).mono ?_
        (case side1 => repeat (first | exact (Kd.S_reads' HO720.out).2.2 | (with_reducible refine Kd.C_alloc ?_ _) | (with_reducible refine Kd.C_drewN ?_ _) | (with_reducible refine Kd.C_drew ?_)))
        (case side2 => exact (Kd.S_reads' HO720.out).2.1)
        (case side3 => repeat (first | exact (Kd.S_reads' HO726.out).2.2 | (with_reducible refine Kd.C_alloc ?_ _) | (with_reducible refine Kd.C_drewN ?_ _) | (with_reducible refine Kd.C_drew ?_)))
        (case side4 => exact (Kd.S_reads' HO726.out).2.1)
        rintro e w54 ⟨rfl, hb⟩
        refine ⟨_, rfl, ?_⟩
        replace HO705 := rB HO705 hb
        replace HO708 := sB HO708 hb
        replace HO711 := sB HO711 hb
        replace HO716 := sB HO716 hb
        replace HO720 := sB HO720 hb
        replace HO726 := sB HO726 hb
        replace BK712 := bB BK712 hb
        replace BK713 := bB BK713 hb
        replace BK717 := bB BK717 hb
        replace BK721 := bB BK721 hb
        replace HB := ak (below_step (lT HB (gC GE712 (gC GE713 (gC GE717 (gC GE721 gN))))) hb)
        (try clear hb)
        (try clear hb2)
        (try clear hk)
        (try clear hi)
        refine hK.out _ _ ⟨bc BK721 0, bc BK712 0, bc BK713 0, bc BK717 0⟩ (fun hHeld => ?_)
        clear hK K
        refine nm ?_
        refine pu 10 31 (fb 42 2047) HT_ ?_
        refine pu 11 32 (fb 42 4095) HT_ ?_
        refine tk 12 33 (fb 42 8191) HT_ HW_ hHeld ?_
        refine tk 13 34 (fb 42 16383) HT_ HW_ hHeld ?_
        refine tk 15 36 (fb 42 49151) HT_ HW_ hHeld ?_
        refine tk 16 37 (fb 42 114687) HT_ HW_ hHeld ?_
        refine on 14 (some 35) (fb 42 131071) HT_ (fun K hK => ?_)
        refine gs Try.func37 #[.agg #[.slice Ao29 t706.length co29], .agg #[.slice Ao32 t709.length co32]] ?_
        with_reducible refine (impl_SameState.calls k _ _ t706 _ _ t709 t728 _ ?side1 ?side2 ?side3 ?side4 A14.out).mono ?_
        (case side1 => repeat (first | exact (Kd.S_reads' HO708.out).2.2 | (with_reducible refine Kd.C_alloc ?_ _) | (with_reducible refine Kd.C_drewN ?_ _) | (with_reducible refine Kd.C_drew ?_)))
        (case side2 => exact (Kd.S_reads' HO708.out).2.1)
        (case side3 => repeat (first | exact (Kd.S_reads' HO711.out).2.2 | (with_reducible refine Kd.C_alloc ?_ _) | (with_reducible refine Kd.C_drewN ?_ _) | (with_reducible refine Kd.C_drew ?_)))
        (case side4 => exact (Kd.S_reads' HO711.out).2.1)
        rintro e w55 ⟨rfl, hb⟩
        refine ⟨_, rfl, ?_⟩
        replace HO705 := rB HO705 hb
        replace HO708 := sB HO708 hb
        replace HO711 := sB HO711 hb
        replace HO716 := sB HO716 hb
        replace HO720 := sB HO720 hb
        replace HO726 := sB HO726 hb
        replace BK712 := bB BK712 hb
        replace BK713 := bB BK713 hb
        replace BK717 := bB BK717 hb
        replace BK721 := bB BK721 hb
        replace HB := ak (below_step (lT HB (gC GE712 (gC GE713 (gC GE717 (gC GE721 gN))))) hb)
        (try clear hb)
        (try clear hb2)
        (try clear hk)
        (try clear hi)
        refine hK.out _ _ ⟨bc BK721 0, bc BK712 0, bc BK713 0, bc BK717 0⟩ (fun hHeld => ?_)
        clear hK K
        refine nm ?_
        refine on 17 (some 38) (fb 42 262143) HT_ (fun K hK => ?_)
        refine gs Try.func50 #[.agg #[.slice Ao29 t706.length co29], .agg #[.slice Ao32 t709.length co32]] ?_
        with_reducible refine (spec_SameState.calls k _ _ t706 _ _ t709 t729 _ ?side1 ?side2 ?side3 ?side4 A15.out).mono ?_
        (case side1 => repeat (first | exact (Kd.S_reads' HO708.out).2.2 | (with_reducible refine Kd.C_alloc ?_ _) | (with_reducible refine Kd.C_drewN ?_ _) | (with_reducible refine Kd.C_drew ?_)))
        (case side2 => exact (Kd.S_reads' HO708.out).2.1)
        (case side3 => repeat (first | exact (Kd.S_reads' HO711.out).2.2 | (with_reducible refine Kd.C_alloc ?_ _) | (with_reducible refine Kd.C_drewN ?_ _) | (with_reducible refine Kd.C_drew ?_)))
        (case side4 => exact (Kd.S_reads' HO711.out).2.1)
        rintro e w56 ⟨rfl, hb⟩
        refine ⟨_, rfl, ?_⟩
        replace HO705 := rB HO705 hb
        replace HO708 := sB HO708 hb
        replace HO711 := sB HO711 hb
        replace HO716 := sB HO716 hb
        replace HO720 := sB HO720 hb
        replace HO726 := sB HO726 hb
        replace BK712 := bB BK712 hb
        replace BK713 := bB BK713 hb
        replace BK717 := bB BK717 hb
        replace BK721 := bB BK721 hb
        replace HB := ak (below_step (lT HB (gC GE712 (gC GE713 (gC GE717 (gC GE721 gN))))) hb)
        (try clear hb)
        (try clear hb2)
        (try clear hk)
        (try clear hi)
        refine hK.out _ _ ⟨bc BK721 0, bc BK712 0, bc BK713 0, bc BK717 0⟩ (fun hHeld => ?_)
        clear hK K
        refine nm ?_
        refine pu 18 39 (fb 42 524287) HT_ ?_
        refine pu 19 40 (fb 42 1048575) HT_ ?_
        refine pu 20 41 (fb 42 2097151) HT_ ?_
        refine tk 21 42 (fb 42 4194303) HT_ HW_ hHeld ?_
        refine tk 22 43 (fb 42 8388607) HT_ HW_ hHeld ?_
        refine on 23 (some 44) (fb 42 16777215) HT_ (fun K hK => ?_)
        refine gs Try.func37 #[.agg #[.slice Ao29 t706.length co29], .agg #[.slice Ao29 t706.length co29]] ?_
        with_reducible refine (impl_SameState.calls k _ _ t706 _ _ t706 true _ ?side1 ?side2 ?side3 ?side4 A17.out).mono ?_
        (case side1 => repeat (first | exact (Kd.S_reads' HO708.out).2.2 | (with_reducible refine Kd.C_alloc ?_ _) | (with_reducible refine Kd.C_drewN ?_ _) | (with_reducible refine Kd.C_drew ?_)))
        (case side2 => exact (Kd.S_reads' HO708.out).2.1)
        (case side3 => repeat (first | exact (Kd.S_reads' HO708.out).2.2 | (with_reducible refine Kd.C_alloc ?_ _) | (with_reducible refine Kd.C_drewN ?_ _) | (with_reducible refine Kd.C_drew ?_)))
        (case side4 => exact (Kd.S_reads' HO708.out).2.1)
        rintro e w57 ⟨rfl, hb⟩
        refine ⟨_, rfl, ?_⟩
        replace HO705 := rB HO705 hb
        replace HO708 := sB HO708 hb
        replace HO711 := sB HO711 hb
        replace HO716 := sB HO716 hb
        replace HO720 := sB HO720 hb
        replace HO726 := sB HO726 hb
        replace BK712 := bB BK712 hb
        replace BK713 := bB BK713 hb
        replace BK717 := bB BK717 hb
        replace BK721 := bB BK721 hb
        replace HB := ak (below_step (lT HB (gC GE712 (gC GE713 (gC GE717 (gC GE721 gN))))) hb)
        (try clear hb)
        (try clear hb2)
        (try clear hk)
        (try clear hi)
        refine hK.out _ _ ⟨bc BK721 0, bc BK712 0, bc BK713 0, bc BK717 0⟩ (fun hHeld => ?_)
        clear hK K
        refine nm ?_
        refine pu 24 45 (fb 42 33554431) HT_ ?_
        refine pu 25 46 (fb 42 67108863) HT_ ?_
        refine tk 26 47 (fb 42 134217727) HT_ HW_ hHeld ?_
        refine tk 28 49 (fb 42 402653183) HT_ HW_ hHeld ?_
        refine on 27 (some 48) (fb 42 536870911) HT_ (fun K hK => ?_)
        refine gs Try.func51 #[.agg #[.slice Ao36 t714.length co36]] ?_
        with_reducible refine (impl_StateOk.calls k _ _ t714 t731 _ ?side1 ?side2 A19.out).mono ?_
        (case side1 => repeat (first | exact (Kd.S_reads' HO716.out).2.2 | (with_reducible refine Kd.C_alloc ?_ _) | (with_reducible refine Kd.C_drewN ?_ _) | (with_reducible refine Kd.C_drew ?_)))
        (case side2 => exact (Kd.S_reads' HO716.out).2.1)
        rintro e w58 ⟨rfl, hb⟩
        refine ⟨_, rfl, ?_⟩
        replace HO705 := rB HO705 hb
        replace HO708 := sB HO708 hb
        replace HO711 := sB HO711 hb
        replace HO716 := sB HO716 hb
        replace HO720 := sB HO720 hb
        replace HO726 := sB HO726 hb
        replace BK712 := bB BK712 hb
        replace BK713 := bB BK713 hb
        replace BK717 := bB BK717 hb
        replace BK721 := bB BK721 hb
        replace HB := ak (below_step (lT HB (gC GE712 (gC GE713 (gC GE717 (gC GE721 gN))))) hb)
        (try clear hb)
        (try clear hb2)
        (try clear hk)
        (try clear hi)
        refine hK.out _ _ ⟨bc BK721 0, bc BK712 0, bc BK713 0, bc BK717 0⟩ (fun hHeld => ?_)
        clear hK K
        refine nm ?_
        refine on 29 (some 50) (fb 42 1073741823) HT_ (fun K hK => ?_)
        refine gs Try.func52 #[.agg #[.slice Ao36 t714.length co36]] ?_
        with_reducible refine (spec_StateOk.calls k _ _ t714 t732 _ ?side1 ?side2 A20.out).mono ?_
        (case side1 => repeat (first | exact (Kd.S_reads' HO716.out).2.2 | (with_reducible refine Kd.C_alloc ?_ _) | (with_reducible refine Kd.C_drewN ?_ _) | (with_reducible refine Kd.C_drew ?_)))
        (case side2 => exact (Kd.S_reads' HO716.out).2.1)
        rintro e w59 ⟨rfl, hb⟩
        refine ⟨_, rfl, ?_⟩
        replace HO705 := rB HO705 hb
        replace HO708 := sB HO708 hb
        replace HO711 := sB HO711 hb
        replace HO716 := sB HO716 hb
        replace HO720 := sB HO720 hb
        replace HO726 := sB HO726 hb
        replace BK712 := bB BK712 hb
        replace BK713 := bB BK713 hb
        replace BK717 := bB BK717 hb
        replace BK721 := bB BK721 hb
        replace HB := ak (below_step (lT HB (gC GE712 (gC GE713 (gC GE717 (gC GE721 gN))))) hb)
        (try clear hb)
        (try clear hb2)
        (try clear hk)
        (try clear hi)
        refine hK.out _ _ ⟨bc BK721 0, bc BK712 0, bc BK713 0, bc BK717 0⟩ (fun hHeld => ?_)
        clear hK K
        refine nm ?_
        refine pu 30 51 (fb 42 2147483647) HT_ ?_
        refine pu 31 52 (fb 42 4294967295) HT_ ?_
        refine pu 32 53 (fb 42 8589934591) HT_ ?_
        refine pu 33 54 (fb 42 17179869183) HT_ ?_
        refine on 34 (some 55) (fb 42 34359738367) HT_ (fun K hK => ?_)
        refine gs Try.func51 #[.agg #[.slice none 0 0]] ?_
        refine (impl_StateOk.calls k _ _ ([] : List (S66)) true _ ?side1 ?side2 A22.out).mono ?_
        (case side1 => exact Kd.C_nil _ _)
        (case side2 => exact Nat.le_refl _)
        rintro e w60 ⟨rfl, hb⟩
        refine ⟨_, rfl, ?_⟩
        replace HO705 := rB HO705 hb
        replace HO708 := sB HO708 hb
        replace HO711 := sB HO711 hb
        replace HO716 := sB HO716 hb
        replace HO720 := sB HO720 hb
        replace HO726 := sB HO726 hb
        replace BK712 := bB BK712 hb
        replace BK713 := bB BK713 hb
        replace BK717 := bB BK717 hb
        replace BK721 := bB BK721 hb
        replace HB := ak (below_step (lT HB (gC GE712 (gC GE713 (gC GE717 (gC GE721 gN))))) hb)
        (try clear hb)
        (try clear hb2)
        (try clear hk)
        (try clear hi)
        refine hK.out _ _ ⟨bc BK721 0, bc BK712 0, bc BK713 0, bc BK717 0⟩ (fun hHeld => ?_)
        clear hK K
        refine nm ?_
        refine pu 35 56 (fb 42 68719476735) HT_ ?_
        refine pu 36 57 (fb 42 137438953471) HT_ ?_
        refine pu 37 58 (fb 42 274877906943) HT_ ?_
        refine on 38 (some 59) (fb 42 549755813887) HT_ (fun K hK => ?_)
        refine gs Try.func45 #[.slice Ao40 t703.length co40] ?_
        with_reducible refine (impl_ValidAfter.calls k _ _ t703 t734 _ ?side1 ?side2 A24.out).mono ?_
        (case side1 => exact cG (Kd.R_reads' HO705.out).2.2)
        (case side2 => exact (Kd.R_reads' HO705.out).2.1)
        rintro e w61 ⟨rfl, hb⟩
        refine ⟨_, rfl, ?_⟩
        replace HO705 := rB HO705 hb
        replace HO708 := sB HO708 hb
        replace HO711 := sB HO711 hb
        replace HO716 := sB HO716 hb
        replace HO720 := sB HO720 hb
        replace HO726 := sB HO726 hb
        replace BK712 := bB BK712 hb
        replace BK713 := bB BK713 hb
        replace BK717 := bB BK717 hb
        replace BK721 := bB BK721 hb
        replace HB := ak (below_step (lT HB (gC GE712 (gC GE713 (gC GE717 (gC GE721 gN))))) hb)
        (try clear hb)
        (try clear hb2)
        (try clear hk)
        (try clear hi)
        refine hK.out _ _ ⟨bc BK721 0, bc BK712 0, bc BK713 0, bc BK717 0⟩ (fun hHeld => ?_)
        clear hK K
        refine nm ?_
        refine pu 39 60 (fb 42 1099511627775) HT_ ?_
        refine pu 40 61 (fb 42 2199023255551) HT_ ?_
        refine pu 41 2 (fb 42 4398046511103) HT_ ?_
        refine done_ (done_of HT_.out (by kernel_rfl)) ?_
        try go_wp2
        go_ret
        exact ⟨ew, by exact lT HB (gC GE712 (gC GE713 (gC GE717 (gC GE721 gN))))⟩
       ·replace c23 := Bool.eq_false_iff.mpr c23
        subst c23
        have H1 : (some false) = some true := by rw [if_neg (show ¬ (false = true) by decide)] at H; exact H
        exact absurd H1 (by simp)
      ·rw [if_neg c21] at H
       have c21b0 : (t731 == t732) = false := by simpa using c21
       (try (have c21b1 : decide (t731 = t732) = false := by simpa using c21))
       (try (have c21b2 : (t731 == t732) = false := by simpa using c21))
       (try (have c21b3 : ¬ (t731 = t732) := by simpa using c21))
       clear c21
       exact absurd H (by simp)
     ·replace c18 := Bool.eq_false_iff.mpr c18
      subst c18
      have H1 : (some false) = some true := by rw [if_neg (show ¬ (false = true) by decide)] at H; exact H
      exact absurd H1 (by simp)
    ·rw [if_neg c16] at H
     have c16b0 : (t728 == t729) = false := by simpa using c16
     (try (have c16b1 : decide (t728 = t729) = false := by simpa using c16))
     (try (have c16b2 : (t728 == t729) = false := by simpa using c16))
     (try (have c16b3 : ¬ (t728 = t729) := by simpa using c16))
     clear c16
     exact absurd H (by simp)
   ·replace c13 := Bool.eq_false_iff.mpr c13
    subst c13
    have H1 : (some false) = some true := by rw [if_neg (show ¬ (false = true) by decide)] at H; exact H
    exact absurd H1 (by simp)
  ·rw [if_neg c10] at H
   have c10b0 : (t722 == t723) = false := by simpa using c10
   (try (have c10b1 : decide (t722 = t723) = false := by simpa using c10))
   (try (have c10b2 : (t722 == t723) = false := by simpa using c10))
   (try (have c10b3 : ¬ (t722 = t723) := by simpa using c10))
   clear c10
   exact absurd H (by simp)
/-- THE ONE PURE STATEMENT of laws_FnStatesTold: yours. -/
def laws_FnStatesTold.Pure : Prop := ∀ (l0 : List Int), l0.length ≤ maxLen → l0.length * 1 ≤ 140737488351232 → (∀ x ∈ l0, (Lit.int .u8 x).wf = true) → ∃ k, laws_FnStatesTold.f k l0 = some true
theorem laws_FnStatesTold.walk (P : laws_FnStatesTold.Pure) (a0 : Option Addr) (len0 cap0 : Nat) (z0 : List Int) (w : World) (w0 : (a0 = none ∧ len0 = 0 ∧ cap0 = 0 ∧ z0 = []) ∨ ∃ x, a0 = some x ∧ len0 ≤ cap0 ∧ cap0 ≤ maxLen ∧ z0.length = cap0 ∧ (∀ i, i < z0.length → w.cell? (x.add i) = some (.int .u8 (z0.getD i 0))) ∧ ∀ n ∈ z0, (Lit.int .u8 n).wf = true) (y0 : len0 * 1 ≤ 140737488351232) :
  Calls Try.prog 9 #[.slice a0 len0 cap0] w fun e w' => e = .returned (.bool true) ∧ Below w.heap.size w w' := by
 obtain ⟨l0, rfl, hr0, hm0, hw0, hc0⟩ := ReadsInt.ofRowC w0
 obtain ⟨k, h⟩ := P l0 hm0 y0 hw0
 refine (laws_FnStatesTold.calls k _ _ l0 w (Kd.C_of_reads (d := (0 : Int)) (h1 := fun _ => rfl) hr0) hc0 h).mono ?_
 rintro e w' ⟨rfl, hd⟩
 exact ⟨rfl, hd⟩
end Go.Proofs.Ytagkjeldheiejaa.PFnStatesTold
