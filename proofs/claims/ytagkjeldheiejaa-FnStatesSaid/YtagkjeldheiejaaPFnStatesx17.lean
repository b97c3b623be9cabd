-- Written by a program of mine (a turned copy of the kit's print): functions as plain Lean, their contracts.
import Derived.Test.YtagkjeldheiejaaPFnStatesx16
import Derived.Test.YtagkjeldheiejaaVFnStates1
namespace Go.Proofs.Ytagkjeldheiejaa.PFnStates
open Go.RowKit Go.Proofs.YtagkjeldheiejaaW.PrintWords Go.Proofs.YtagkjeldheiejaaW.PrintLast Go.Proofs.YtagkjeldheiejaaW.PrintMore
attribute [local go_sem] max2_int min2_int max_two min_two max_three min_three max_four min_four   -- for this text's walks alone
set_option maxHeartbeats 8000000
set_option maxRecDepth 100000
set_option linter.unusedVariables false
set_option linter.unusedSimpArgs false
/-! ### spec_DrawBoxOf: function 39 -/
def spec_DrawBoxOf.f (k : Nat) (l0 : List Int) : Option ((List (S66)) × ByteArray × ByteArray) := (spec_l01New.f k l0).bind fun bt485 => ((spec_l01Pick.f bt485.1 bt485.2.1 bt485.2.2 (([(⟨#[97, 110, 110]⟩ : ByteArray), (⟨#[98, 111, 98]⟩ : ByteArray), (⟨#[110, 111, 110, 101]⟩ : ByteArray)] : List ByteArray))).bind fun bt492 => ((spec_l01Pick.f bt485.1 bt492.2.1 bt492.2.2 (([(⟨#[105, 110, 98, 111, 120]⟩ : ByteArray), (⟨#[119, 111, 114, 107]⟩ : ByteArray), (⟨#[110, 111, 110, 101]⟩ : ByteArray)] : List ByteArray))).bind fun bt498 => ((spec_l07Items.f k bt485.1 bt498.2.1 bt498.2.2).bind fun bt501 => ((spec_StateOf.f k bt501.1).bind fun t506 => (some (t506, bt492.1, bt498.1))))))
theorem spec_DrawBoxOf.mono : ∀ a0 k, LeO (spec_DrawBoxOf.f k a0) (spec_DrawBoxOf.f (k + 1) a0) := by
 intro a0 k
 unfold spec_DrawBoxOf.f
 repeat' with_reducible first | exact spec_StateOf.mono _ _ | exact spec_l01New.mono _ _ | exact spec_l07Items.mono _ _ _ _ | exact LeO.refl _ | exact LeO.none _ | refine LeO.ite ?_ ?_ | refine LeO.bind ?_ (fun _ => ?_)
theorem spec_DrawBoxOf.calls (k : Nat) (A0 : Option Addr) (c0 : Nat) (l0 : List Int) (r1 : List (S66)) (r2 : ByteArray) (r3 : ByteArray) (w : World) (hr0 : Kd.C (Kd.int .u8) w A0 l0.length l0) (hc0 : l0.length ≤ c0) (h : spec_DrawBoxOf.f k l0 = some (r1, r2, r3)) :
  Calls Try.prog 39 #[.slice A0 l0.length c0] w fun e w' => ∃ v0_ : Value, e = .returned (.tuple #[.agg #[v0_], .string r2, .string r3]) ∧ Kd.S k66 66 w' w.heap.size (fun _ => True) v0_ r1 ∧ Below w.heap.size w w' := by
 have hu60 := Try.underlying60
 have HR0 := Aside0.mk hr0
 have HC0 := Aside0.mk hc0
 clear hr0 hc0
 have HB := ak (Below.refl w.heap.size w)
 have H := h
 clear h
 unfold spec_DrawBoxOf.f at H
 obtain ⟨⟨t485, t486, t487⟩, A2, H⟩ := eb H
 try dsimp only at H
 obtain ⟨y489, hy489⟩ : ∃ y_ : List ByteArray, y_ = (([(⟨#[97, 110, 110]⟩ : ByteArray), (⟨#[98, 111, 98]⟩ : ByteArray), (⟨#[110, 111, 110, 101]⟩ : ByteArray)] : List ByteArray)) := ⟨_, rfl⟩
 replace H : ((spec_l01Pick.f t485 t486 t487 y489).bind fun bt492 => ((spec_l01Pick.f t485 bt492.2.1 bt492.2.2 (([(⟨#[105, 110, 98, 111, 120]⟩ : ByteArray), (⟨#[119, 111, 114, 107]⟩ : ByteArray), (⟨#[110, 111, 110, 101]⟩ : ByteArray)] : List ByteArray))).bind fun bt498 => ((spec_l07Items.f k t485 bt498.2.1 bt498.2.2).bind fun bt501 => ((spec_StateOf.f k bt501.1).bind fun t506 => (some (t506, bt492.1, bt498.1)))))) = some (r1, r2, r3) := by first | (rw [hy489]; with_reducible exact H) | (have H2_ := (Option.bind_some _ _).symm.trans H; rw [hy489]; with_reducible exact H2_) | (have H2_ := (Option.bind_some _ _).symm.trans H; with_reducible exact H2_) | with_reducible exact H | (rw [hy489]; exact H) | exact H
 have Ny489 := Aside0.mk hy489
 clear hy489
 obtain ⟨⟨t492, t493, t494⟩, A3, H⟩ := eb H
 try dsimp only at H
 obtain ⟨y495, hy495⟩ : ∃ y_ : List ByteArray, y_ = (([(⟨#[105, 110, 98, 111, 120]⟩ : ByteArray), (⟨#[119, 111, 114, 107]⟩ : ByteArray), (⟨#[110, 111, 110, 101]⟩ : ByteArray)] : List ByteArray)) := ⟨_, rfl⟩
 replace H : ((spec_l01Pick.f t485 t493 t494 y495).bind fun bt498 => ((spec_l07Items.f k t485 bt498.2.1 bt498.2.2).bind fun bt501 => ((spec_StateOf.f k bt501.1).bind fun t506 => (some (t506, t492, bt498.1))))) = some (r1, r2, r3) := by first | (rw [hy495]; with_reducible exact H) | (have H2_ := (Option.bind_some _ _).symm.trans H; rw [hy495]; with_reducible exact H2_) | (have H2_ := (Option.bind_some _ _).symm.trans H; with_reducible exact H2_) | with_reducible exact H | (rw [hy495]; exact H) | exact H
 have Ny495 := Aside0.mk hy495
 clear hy495
 obtain ⟨⟨t498, t499, t500⟩, A4, H⟩ := eb H
 try dsimp only at H
 obtain ⟨⟨t501, t504, t505⟩, A5, H⟩ := eb H
 try dsimp only at H
 obtain ⟨t506, A6, H⟩ := eb H
 try dsimp only at H
 simp only [Option.some.injEq, Prod.mk.injEq] at H
 obtain ⟨rfl, rfl, rfl⟩ := H
 go_enter Try.func39, Try.ntmps39
 go_wp2_with (first | ((with_reducible refine gate_dst (N := 2) rfl ?_); refine bx 2 #[.slice none 0 0] 60 ?_; intro gb484 hg w7 hbox hb; replace BK484 := ak (hbox); replace GE484 := ak (bz hg (lG HB)); replace HB := lB HB hb; clear hb hbox hg) | ((with_reducible refine gate_callee (f := 67) rfl ?_); refine gl (some 9) Try.func67 #[.slice A0 l0.length c0] ?_; (with_reducible refine (spec_l01New.calls k _ _ l0 t485 t486 t487 w _ ?side1 ?side2 ?side3 A2.out).mono ?_); (case side1 => exact lT HB (gC GE484 gN)); (case side2 => exact HR0.out); (case side3 => exact HC0.out); rintro e w8 ⟨g488, rfl, hi, hb, hb2⟩; refine ⟨_, rfl, ?_⟩; replace HB := ak (hb); replace HI488 := ak (hi); replace NB488_484 := ak (IsS134.ne_blk hi (blk_below (bG BK484) hb2) (by decide)); replace NB484_488 := ak (Ne.symm (IsS134.ne_blk hi (blk_below (bG BK484) hb2) (by decide))); replace BK484 := ak (blk_below (bG BK484) hb2); (try clear hb); (try clear hb2); (try clear hk); (try clear hi)) | ((with_reducible refine gate_dst (N := 11) rfl ?_); refine Kd.R_lit Kd.string _ 9 ?hg (N := 11) ?hd (xs := ([(⟨#[97, 110, 110]⟩ : ByteArray), (⟨#[98, 111, 98]⟩ : ByteArray), (⟨#[110, 111, 110, 101]⟩ : ByteArray)] : List ByteArray)) (inner := [.string (⟨#[97, 110, 110]⟩ : ByteArray), .string (⟨#[98, 111, 98]⟩ : ByteArray), .string (⟨#[110, 111, 110, 101]⟩ : ByteArray)]) (ok := fun _ => True) (okp := fun _ => True) ?hr ?hp (fun _ hk => hk) trivial (Below.refl _ _) (Nat.le_refl _) (by simp) ?_; (case hd => rfl); (case hg => rfl); (case hr => first | (go_simp; done) | (go_simp; rfl)); (case hp => exact hpR); intro v490 w9 ho10 hb hg_ hnew_; clear hg_ hnew_; (first | rw [← Ny489.out] at ho10 | (simp only [Int.reduceToNat] at ho10; rw [← Ny489.out] at ho10)); replace HO491 := ak (Kd.R_lower ho10 (below_size (lT HB (gC GE484 gN)))); replace BK484 := bB BK484 hb; replace HB := ak (below_step (lT HB (gC GE484 gN)) hb); replace HI488 := ak (IsS134.below (IsS134.T_ HI488 (nC NB488_484 nN)) hb); clear hb ho10; obtain ⟨Ao11, co11, eo11⟩ := Kd.R_slice HO491.out; subst eo11) | ((with_reducible refine gate_callee (f := 71) rfl ?_); refine gl (some 12) Try.func71 #[.pointer (some ⟨g488, 0, none⟩), .slice Ao11 y489.length co11] ?_; (with_reducible refine (spec_l01Pick.calls g488 t485 t486 t487 _ _ y489 t492 t493 t494 w _ ?side1 ?side2 ?side3 ?side4 ?side5 A3.out).mono ?_); (case side1 => exact IsS134.T_ HI488 (nC NB488_484 nN)); (case side2 => exact lT HB (gC GE484 gN)); (case side3 => exact cG (Kd.R_reads' HO491.out).2.2); (case side4 => exact (Kd.R_reads' HO491.out).2.1); (case side5 => exact far_slice (IsS134.own_ne HI488.out HO491.out (by decide))); rintro e w12 ⟨rfl, hi, hb, hk⟩; refine ⟨_, rfl, ?_⟩; replace BK484 := kB hk (bG BK484) NB484_488; replace HO491 := IsS134.kR hk (show IsS134 w _ g488 t485 t486 t487 from IsS134.T_ HI488 (nC NB488_484 nN)) (rG HO491); replace HB := ak (hb); replace HI488 := ak (hi); (try clear hb); (try clear hb2); (try clear hk); (try clear hi)) | ((with_reducible refine gate_dst (N := 14) rfl ?_); refine Kd.R_lit Kd.string _ 9 ?hg (N := 14) ?hd (xs := ([(⟨#[105, 110, 98, 111, 120]⟩ : ByteArray), (⟨#[119, 111, 114, 107]⟩ : ByteArray), (⟨#[110, 111, 110, 101]⟩ : ByteArray)] : List ByteArray)) (inner := [.string (⟨#[105, 110, 98, 111, 120]⟩ : ByteArray), .string (⟨#[119, 111, 114, 107]⟩ : ByteArray), .string (⟨#[110, 111, 110, 101]⟩ : ByteArray)]) (ok := fun _ => True) (okp := fun _ => True) ?hr ?hp (fun _ hk => hk) trivial (Below.refl _ _) (Nat.le_refl _) (by simp) ?_; (case hd => rfl); (case hg => rfl); (case hr => first | (go_simp; done) | (go_simp; rfl)); (case hp => exact hpR); intro v496 w13 ho14 hb hg_ hnew_; clear hg_ hnew_; (first | rw [← Ny495.out] at ho14 | (simp only [Int.reduceToNat] at ho14; rw [← Ny495.out] at ho14)); replace HO497 := ak (Kd.R_lower (Kd.R_new' ho14 (Kd.R_lt (rG HO491))) (below_size (lT HB (gC GE484 gN)))); replace HO491 := ak (Kd.R_elder' (rG HO491) (Kd.R_base ho14) hb); replace BK484 := bB BK484 hb; replace HB := ak (below_step (lT HB (gC GE484 gN)) hb); replace HI488 := ak (IsS134.below (IsS134.T_ HI488 (nC NB488_484 nN)) hb); clear hb ho14; obtain ⟨Ao15, co15, eo15⟩ := Kd.R_slice HO497.out; subst eo15) | ((with_reducible refine gate_callee (f := 71) rfl ?_); refine gl (some 15) Try.func71 #[.pointer (some ⟨g488, 0, none⟩), .slice Ao15 y495.length co15] ?_; (with_reducible refine (spec_l01Pick.calls g488 t485 t493 t494 _ _ y495 t498 t499 t500 w _ ?side1 ?side2 ?side3 ?side4 ?side5 A4.out).mono ?_); (case side1 => exact IsS134.T_ HI488 (nC NB488_484 nN)); (case side2 => exact lT HB (gC GE484 gN)); (case side3 => exact cG (Kd.R_reads' HO497.out).2.2); (case side4 => exact (Kd.R_reads' HO497.out).2.1); (case side5 => exact far_slice (IsS134.own_ne HI488.out HO497.out (by decide))); rintro e w16 ⟨rfl, hi, hb, hk⟩; refine ⟨_, rfl, ?_⟩; replace BK484 := kB hk (bG BK484) NB484_488; replace HO491 := IsS134.kR hk (show IsS134 w _ g488 t485 t493 t494 from IsS134.T_ HI488 (nC NB488_484 nN)) (rG HO491); replace HO497 := IsS134.kR hk (show IsS134 w _ g488 t485 t493 t494 from IsS134.T_ HI488 (nC NB488_484 nN)) (rG HO497); replace HB := ak (hb); replace HI488 := ak (hi); (try clear hb); (try clear hb2); (try clear hk); (try clear hi)) | ((with_reducible refine gate_callee (f := 72) rfl ?_); refine gl (some 17) Try.func72 #[.pointer (some ⟨g488, 0, none⟩)] ?_; (with_reducible refine (spec_l07Items.calls k g488 t485 t499 t500 t501 t504 t505 w _ ?side1 ?side2 A5.out).mono ?_); (case side1 => exact IsS134.T_ HI488 (nC NB488_484 nN)); (case side2 => exact lT HB (gC GE484 gN)); rintro e w17 ⟨v502, rfl, ho0, hi, hb, hk⟩; refine ⟨_, rfl, ?_⟩; replace BK484 := kB hk (bG BK484) NB484_488; replace HO491 := IsS134.kR hk (show IsS134 w _ g488 t485 t499 t500 from IsS134.T_ HI488 (nC NB488_484 nN)) (rG HO491); replace HO497 := IsS134.kR hk (show IsS134 w _ g488 t485 t499 t500 from IsS134.T_ HI488 (nC NB488_484 nN)) (rG HO497); replace HO503 := ak (Kd.R_lower ho0 (below_size (lT HB (gC GE484 gN)))); replace HB := ak (hb); replace HI488 := ak (hi); (try clear hb); (try clear hb2); (try clear hk); (try clear hi); (try clear ho0); obtain ⟨Ao18, co18, eo18⟩ := Kd.R_slice HO503.out; subst eo18) | ((with_reducible refine gate_callee (f := 38) rfl ?_); refine gl (some 18) Try.func38 #[.slice Ao18 t501.length co18] ?_; (with_reducible refine (spec_StateOf.calls k _ _ t501 t506 _ ?side1 ?side2 A6.out).mono ?_); (case side1 => exact cG (Kd.R_reads' HO503.out).2.2); (case side2 => exact (Kd.R_reads' HO503.out).2.1); rintro e w19 ⟨v507, rfl, ho0, hb⟩; refine ⟨_, rfl, ?_⟩; replace HO491 := rB HO491 hb; replace HO497 := rB HO497 hb; replace HO503 := rB HO503 hb; replace HO508 := ak (Kd.S_lower ho0 (below_size (lT HB (gC GE484 gN)))); replace BK484 := bB BK484 hb; replace HB := ak (below_step (lT HB (gC GE484 gN)) hb); replace HI488 := ak (IsS134.below (IsS134.T_ HI488 (nC NB488_484 nN)) hb); (try clear hb); (try clear hb2); (try clear hk); (try clear hi); (try clear ho0); obtain ⟨Ao20, co20, eo20⟩ := Kd.S_slice HO508.out; subst eo20; have hnb21 := NB484_488.out; have hnc21 := NB488_484.out; obtain ⟨_, _⟩ := bC1 BK484))
 refine bodyPost_ret (results_ctt rfl _ _ gb484 60 #[.slice Ao20 t506.length co20] (0, 0) _ rfl (bW BK484) Try.underlying60 rfl (by kernel_rfl)) rfl ?_
 exact ⟨_, ew, by (with_reducible repeat (first | apply Kd.S_alloc | apply Kd.S_drewN | apply Kd.S_drew)); exact Kd.S_mono (Kd.S_far (p := ⟨gb484, 0, none⟩) (Kd.S_types HO508.out BK484.out (by decide)) (fun _ hk => hk.2) (.slice Ao20 t506.length co20)) (fun _ hk => trivial), lT HB (gC GE484 gN)⟩
/-! ### impl_Mail: function 114 -/
def impl_Mail.f (l0 : List (S68)) : Option ((List (S68))) := (some (([] : List (S68)) : List (S68))).bind fun y509 => (if y509.length + l0.length < 4398046511104 then (some (y509 ++ l0)) else (none))
theorem impl_Mail.calls (A0 : Option Addr) (c0 : Nat) (l0 : List (S68)) (r : List (S68)) (w : World) (hr0 : Kd.C k68 w A0 l0.length l0) (hc0 : l0.length ≤ c0) (h : impl_Mail.f l0 = some r) :
  Calls Try.prog 114 #[.slice A0 l0.length c0] w fun e w' => ∃ v0_ : Value, e = .returned (v0_) ∧ Kd.R k68 68 w' w.heap.size (fun _ => True) v0_ r ∧ Below w.heap.size w w' := by
 cases A0 with
 | none =>
  skip;{
 have hl_ : l0 = [] := by
  cases l0 with
  | nil => rfl
  | cons x_ t_ => (obtain ⟨ad_, h0_, _⟩ := hr0.2.2 (by simp); cases h0_)
 subst hl_
 have hr_ : [] = r := by simpa [impl_Mail.f] using h
 subst hr_
 have hnil_ := fun W_ : World => Lib.run_eql_slice_nil (P := Try.prog) W_ 64 68 none 0 c0 0 0 Try.underlying64
 go_enter Try.func114, Try.ntmps114
 go_wp2
 go_ret
 exact ⟨.slice none 0 0, rfl, Kd.R_nil _ _ _ _ _, Below.refl _ _⟩
 }
 | some a0_ =>
 have hnil_ := fun W_ : World => Lib.run_eql_slice_nil (P := Try.prog) W_ 64 68 (some a0_) l0.length c0 0 0 Try.underlying64
 have HR0 := Aside0.mk hr0
 have HC0 := Aside0.mk hc0
 clear hr0 hc0
 have HB := ak (Below.refl w.heap.size w)
 have H := h
 clear h
 unfold impl_Mail.f at H
 obtain ⟨y509, hy509⟩ : ∃ y_ : List (S68), y_ = (([] : List (S68))) := ⟨_, rfl⟩
 replace H : (if y509.length + l0.length < 4398046511104 then (some (y509 ++ l0)) else (none)) = some r := by first | (rw [hy509]; with_reducible exact H) | (have H2_ := (Option.bind_some _ _).symm.trans H; rw [hy509]; with_reducible exact H2_) | (have H2_ := (Option.bind_some _ _).symm.trans H; with_reducible exact H2_) | with_reducible exact H | (rw [hy509]; exact H) | exact H
 have Ny509 := Aside0.mk hy509
 clear hy509
 by_cases c2 : y509.length + l0.length < 4398046511104
 {
 rw [if_pos c2] at H
 have LMc2 := Aside0.mk c2
 clear c2
 obtain ⟨y512, hy512⟩ : ∃ y_ : List (S68), y_ = (y509 ++ l0) := ⟨_, rfl⟩
 replace H : (some y512) = some r := by first | (rw [hy512]; with_reducible exact H) | (have H2_ := (Option.bind_some _ _).symm.trans H; rw [hy512]; with_reducible exact H2_) | (have H2_ := (Option.bind_some _ _).symm.trans H; with_reducible exact H2_) | with_reducible exact H | (rw [hy512]; exact H) | exact H
 have Ny512 := Aside0.mk hy512
 clear hy512
 obtain rfl := Option.some.inj H
 go_enter Try.func114, Try.ntmps114
 go_wp2_with (first | ((with_reducible refine gate_dst (N := 5) rfl ?_); refine Kd.R_lit k68 _ 68 ?hg (N := 5) ?hd (xs := ([] : List (S68))) (inner := []) (ok := fun _ => True) (okp := fun _ => True) ?hr ?hp (fun _ hk => hk) trivial (Below.refl _ _) (Nat.le_refl _) (by simp) ?_; (case hd => rfl); (case hg => rfl); (case hr => first | (go_simp; done) | (go_simp; rfl)); (case hp => exact (Reps.none _ _)); intro v510 w3 ho4 hb hg_ hnew_; clear hg_ hnew_; (first | rw [← Ny509.out] at ho4 | (simp only [Int.reduceToNat] at ho4; rw [← Ny509.out] at ho4)); replace HO511 := ak (Kd.R_lower ho4 (below_size (lG HB))); replace HB := lB HB hb; clear hb ho4) | ((with_reducible refine gate_builtin (b := .append) (xs := #[.tmp 5, .tmp 6]) rfl ?_); at_builtin; refine Kd.R_append_rows k68 (w0 := w) w.heap.size rfl (.tmp 5) (.tmp 6) 64 68 (.agg #[(.int .i64 0), (.int .i64 0), (.string ⟨#[]⟩)]) 32 rfl Try.underlying64 info68 rfl (by decide) (by omega) v510 y509 l0 _ _ _ (fun _ => True) (fun _ => False) rfl rfl ?aO ?aR (fun _ _ h => h) (fun _ h => h.elim) ?aF ?aB ?aS ?aL ?_; (case aR => exact cG (Kd.C_below HR0.out HB.out)); (case aB => exact (lG HB)); (case aF => exact (fun _ _ => trivial)); (case aO => exact (rG HO511)); (case aS => exact (below_size (lG HB))); (case aL => have := LMc2.out; omega); intro v513 w5 ho hb hg hat; rw [← Ny512.out] at ho; have n0_ := ak (hb); have n1_ := ak (ho); clear HB; clear HO511; have HB := n0_; have HO514 := n1_; clear n0_ n1_; clear ho hb hg hat))
 go_ret
 exact ⟨_, ew, by (with_reducible repeat (first | apply Kd.R_alloc | apply Kd.R_drewN | apply Kd.R_drew)); exact HO514.out, by exact lG HB⟩
 }
 {rw [if_neg c2] at H;exact absurd H (by simp)}
/-! ### impl_cloneBox: function 85 -/
def impl_cloneBox.f (a0_0 : Int) (a0_1 : ByteArray) (a0_2 : ByteArray) (a0_3 : Int) (l0_4 : List (S68)) : Option (Int × ByteArray × ByteArray × Int × (List (S68))) := (impl_Mail.f l0_4).bind fun t517 => (some (a0_0, a0_1, a0_2, a0_3, t517))
theorem impl_cloneBox.calls (a0_0 : Int) (a0_1 : ByteArray) (a0_2 : ByteArray) (a0_3 : Int) (A0_4 : Option Addr) (c0_4 : Nat) (l0_4 : List (S68)) (r1 : Int) (r2 : ByteArray) (r3 : ByteArray) (r4 : Int) (r5 : List (S68)) (w : World) (hr0_4 : Kd.C k68 w A0_4 l0_4.length l0_4) (hc0_4 : l0_4.length ≤ c0_4) (h : impl_cloneBox.f a0_0 a0_1 a0_2 a0_3 l0_4 = some (r1, r2, r3, r4, r5)) :
  Calls Try.prog 85 #[.agg #[.int .i64 a0_0, .string a0_1, .string a0_2, .int .i64 a0_3, .slice A0_4 l0_4.length c0_4]] w fun e w' => ∃ v4_ : Value, e = .returned (.agg #[.int .i64 r1, .string r2, .string r3, .int .i64 r4, v4_]) ∧ Kd.R k68 68 w' w.heap.size (fun _ => True) v4_ r5 ∧ Below w.heap.size w w' := by
 have hu66 := Try.underlying66
 have HR0_4 := Aside0.mk hr0_4
 have HC0_4 := Aside0.mk hc0_4
 clear hr0_4 hc0_4
 have HB := ak (Below.refl w.heap.size w)
 have H := h
 clear h
 unfold impl_cloneBox.f at H
 obtain ⟨t517, A2, H⟩ := eb H
 try dsimp only at H
 simp only [Option.some.injEq, Prod.mk.injEq] at H
 obtain ⟨rfl, rfl, rfl, rfl, rfl⟩ := H
 go_enter Try.func85, Try.ntmps85
 go_wp2_with (first | ((with_reducible refine gate_dst (N := 1) rfl ?_); refine bx 1 #[.int .i64 a0_0, .string a0_1, .string a0_2, .int .i64 a0_3, .slice A0_4 l0_4.length c0_4] 66 ?_; intro gb515 hg w3 hbox hb; replace BK515 := ak (hbox); replace GE515 := ak (bz hg (lG HB)); replace HB := lB HB hb; clear hb hbox hg) | ((with_reducible refine gate_dst (N := 2) rfl ?_); refine bx 2 #[.int .i64 0, .string (⟨#[]⟩ : ByteArray), .string (⟨#[]⟩ : ByteArray), .int .i64 0, .slice none 0 0] 66 ?_; intro gb516 hg w4 hbox hb; replace BK516 := ak (hbox); replace GW516 := ak (bz hg (lT HB (gC GE515 gN))); replace GE516 := ak (bz hg (lT HB (gC GE515 gN))); replace HB := ak (below_step (lT HB (gC GE515 gN)) hb); replace NB515_516 := ak (nl hg (bG BK515)); replace NB516_515 := ak (ng hg (bG BK515)); replace BK515 := bB BK515 hb; clear hb hbox hg; have hnb5 := NB515_516.out; have hnc5 := NB516_515.out; obtain ⟨_, _, _, _, _, _, _, _, _, _⟩ := bC5 BK515) | ((with_reducible refine gate_callee (f := 114) rfl ?_); refine gl (some 5) Try.func114 #[.slice A0_4 l0_4.length c0_4] ?_; (with_reducible refine (impl_Mail.calls _ _ l0_4 t517 _ ?side1 ?side2 A2.out).mono ?_); (case side1 => exact cG (Kd.C_below HR0_4.out HB.out)); (case side2 => exact HC0_4.out); rintro e w7 ⟨v518, rfl, ho0, hb⟩; refine ⟨_, rfl, ?_⟩; replace HO519 := ak (Kd.R_lower ho0 (below_size (lT HB (gC GE515 (gC GE516 gN))))); replace BK515 := bB BK515 hb; replace BK516 := bB BK516 hb; replace HB := ak (below_step (lT HB (gC GE515 (gC GE516 gN))) hb); (try clear hb); (try clear hk); (try clear ho0); obtain ⟨Ao8, co8, eo8⟩ := Kd.R_slice HO519.out; subst eo8; obtain ⟨_, _, _, _, _, _, _, _, _, _⟩ := bC5 BK515; obtain ⟨_, _, _, _, _, _, _, _, _, _⟩ := bC5 BK516))
 refine bodyPost_ret (results_cell_row rfl _ _ gb516 66 #[.int .i64 a0_0, .string a0_1, .string a0_2, .int .i64 a0_3, .slice Ao8 t517.length co8] (0, 0) _ rfl (bF BK516 (nC NB516_515 nN)) Try.underlying66 rfl (by kernel_rfl)) rfl ?_
 exact ⟨_, ew, by exact Kd.R_mono (rT2 HO519 BK515 BK516 (by decide) (by decide)) (fun _ hk => trivial), by exact lT HB (gC GE515 (gC GE516 gN))⟩
/-! ### impl_BoxOf: function 40 -/
def impl_BoxOf.l0 : Nat → ByteArray → ByteArray → List (S66) → Int → Int → Option (Int × ByteArray × ByteArray × Int × (List (S68)) × Bool)
 | 0, _, _, _, _, _ => none
 | k + 1, a, b, c, d, e => if e < d then (if 0 ≤ e then (if e < (c.length : Int) then (if ((rd_T66 c e).f1).toList = a.toList then (if ((rd_T66 c e).f2).toList = b.toList then ((impl_cloneBox.f ((rd_T66 c e).f0) ((rd_T66 c e).f1) ((rd_T66 c e).f2) ((rd_T66 c e).f3) ((rd_T66 c e).f4)).bind fun bt524 => (some (bt524.1, bt524.2.1, bt524.2.2.1, bt524.2.2.2.1, bt524.2.2.2.2, true))) else (impl_BoxOf.l0 k a b c d (wrap64 (e + 1)))) else (impl_BoxOf.l0 k a b c d (wrap64 (e + 1)))) else (none)) else (none)) else (some (0, (⟨#[]⟩ : ByteArray), (⟨#[]⟩ : ByteArray), 0, ([] : List (S68)), false))
def impl_BoxOf.f (k : Nat) (l0_0 : List (S66)) (a1 : ByteArray) (a2 : ByteArray) : Option (Int × ByteArray × ByteArray × Int × (List (S68)) × Bool) := impl_BoxOf.l0 k a1 a2 l0_0 (l0_0.length : Int) 0
theorem impl_BoxOf.mono_l : ∀ k, (∀ y0 y1 y2 y3 y4, LeO (impl_BoxOf.l0 k y0 y1 y2 y3 y4) (impl_BoxOf.l0 (k + 1) y0 y1 y2 y3 y4))
 | 0 => fun _ _ _ _ _ r h => by simp [impl_BoxOf.l0] at h
 | k + 1 => by
  have ih0 := impl_BoxOf.mono_l k
  ·intro y0 y1 y2 y3 y4
   unfold impl_BoxOf.l0
   repeat' with_reducible first | exact ih0 _ _ _ _ _ | exact LeO.refl _ | exact LeO.none _ | refine LeO.ite ?_ ?_ | refine LeO.bind ?_ (fun _ => ?_)
theorem impl_BoxOf.mono : ∀ a0 a1 a2 k, LeO (impl_BoxOf.f k a0 a1 a2) (impl_BoxOf.f (k + 1) a0 a1 a2) := by
 intro a0 a1 a2 k
 have ih0 := impl_BoxOf.mono_l k
 unfold impl_BoxOf.f
 repeat' with_reducible first | exact ih0 _ _ _ _ _ | exact LeO.refl _ | exact LeO.none _ | refine LeO.ite ?_ ?_ | refine LeO.bind ?_ (fun _ => ?_)
theorem impl_BoxOf.calls (k : Nat) (A0_0 : Option Addr) (c0_0 : Nat) (l0_0 : List (S66)) (a1 : ByteArray) (a2 : ByteArray) (r1 : Int) (r2 : ByteArray) (r3 : ByteArray) (r4 : Int) (r5 : List (S68)) (r6 : Bool) (w : World) (hr0_0 : Kd.C k66 w A0_0 l0_0.length l0_0) (hc0_0 : l0_0.length ≤ c0_0) (h : impl_BoxOf.f k l0_0 a1 a2 = some (r1, r2, r3, r4, r5, r6)) :
  Calls Try.prog 40 #[.agg #[.slice A0_0 l0_0.length c0_0], .string a1, .string a2] w fun e w' => ∃ v4_ : Value, e = .returned (.tuple #[.agg #[.int .i64 r1, .string r2, .string r3, .int .i64 r4, v4_], .bool r6]) ∧ Kd.R k68 68 w' w.heap.size (fun _ => True) v4_ r5 ∧ Below w.heap.size w w' := by
 have hu60 := Try.underlying60
 have hu66 := Try.underlying66
 have HR0_0 := Aside0.mk hr0_0
 have HC0_0 := Aside0.mk hc0_0
 clear hr0_0 hc0_0
 have HB := ak (Below.refl w.heap.size w)
 have H := h
 clear h
 unfold impl_BoxOf.f at H
 have H' := Aside0.mk H
 clear H
 go_enter Try.func40, Try.ntmps40
 go_wp2_with (first | ((with_reducible refine gate_dst (N := 3) rfl ?_); refine bx 3 #[.slice A0_0 l0_0.length c0_0] 60 ?_; intro gb520 hg w4 hbox hb; replace BK520 := ak (hbox); replace GE520 := ak (bz hg (lG HB)); replace HB := lB HB hb; clear hb hbox hg) | ((with_reducible refine gate_dst (N := 6) rfl ?_); refine bx 6 #[.int .i64 0, .string (⟨#[]⟩ : ByteArray), .string (⟨#[]⟩ : ByteArray), .int .i64 0, .slice none 0 0] 66 ?_; intro gb521 hg w5 hbox hb; replace BK521 := ak (hbox); replace GW521 := ak (bz hg (lT HB (gC GE520 gN))); replace GE521 := ak (bz hg (lT HB (gC GE520 gN))); replace HB := ak (below_step (lT HB (gC GE520 gN)) hb); replace NB520_521 := ak (nl hg (bG BK520)); replace NB521_520 := ak (ng hg (bG BK520)); replace BK520 := bB BK520 hb; clear hb hbox hg; have hnb6 := NB520_521.out; have hnc6 := NB521_520.out; obtain ⟨hcz7_0, hfz7_0⟩ := bC1 BK520))
 go_loopg [13] k (fun kq v13 w' => ∃ (x13_1 : Int) (x522000_1 : Int) (x522001_1 : ByteArray) (x522002_1 : ByteArray) (x522003_1 : Int), v13 = .int .i64 x13_1 ∧ Aside0 (impl_BoxOf.l0 kq a1 a2 l0_0 (l0_0.length : Int) x13_1 = some (r1, r2, r3, r4, r5, r6)) ∧ Aside0 (kq ≤ k) ∧ Aside0 (w'.heap[gb520]? = some (.cells #[(.slice A0_0 l0_0.length c0_0)] 60 (0, 0))) ∧ Aside0 (w'.heap[gb521]? = some (.cells #[.int .i64 x522000_1, .string x522001_1, .string x522002_1, .int .i64 x522003_1, (.slice none 0 0)] 66 (0, 0))) ∧ Aside0 (Below w.heap.size w w'))
 case atStart => exact ⟨_, (0), ((⟨#[]⟩ : ByteArray)), ((⟨#[]⟩ : ByteArray)), (0), rr, H', ⟨Nat.le_refl _⟩, ⟨bG BK520⟩, ⟨bG BK521⟩, ⟨by exact lT HB (gC GE520 (gC GE521 gN))⟩⟩
 case round =>
  skip;{
 clear H'
 try clear hcz7_0 hfz7_0
 obtain ⟨x13_1, x522000_1, x522001_1, x522002_1, x522003_1, rfl, HA, HK1, BK520, BK521, HB⟩ := hrel
 cases gk with
 | zero => exact absurd HA.out (by simp [impl_BoxOf.l0])
 | succ k1 =>
  skip;{
 have H := HA.out
 clear HA
 simp only [impl_BoxOf.l0] at H
 by_cases c8 : x13_1 < (l0_0.length : Int)
 {
 rw [if_pos c8] at H
 have c8b0 := decide_eq_true c8
 clear c8
 by_cases c9 : 0 ≤ x13_1
 {
 rw [if_pos c9] at H
 have c9b0 := decide_eq_true c9
 clear c9
 by_cases c10 : x13_1 < (l0_0.length : Int)
 {
 rw [if_pos c10] at H
 have c10b0 := decide_eq_true c10
 clear c10
 by_cases c11 : ((rd_T66 l0_0 x13_1).f1).toList = a1.toList
 {
 rw [if_pos c11] at H
 have c11b0 := beq_iff_eq.mpr c11
 have c11b1 := bne_eq_false_iff_eq.mpr c11
 clear c11
 by_cases c12 : ((rd_T66 l0_0 x13_1).f2).toList = a2.toList
 {
 rw [if_pos c12] at H
 have c12b0 := beq_iff_eq.mpr c12
 have c12b1 := bne_eq_false_iff_eq.mpr c12
 clear c12
 obtain ⟨⟨t524, t525, t526, t527, t528⟩, A13, H⟩ := eb H
 try dsimp only at H
 simp only [Option.some.injEq, Prod.mk.injEq] at H
 obtain ⟨rfl, rfl, rfl, rfl, rfl, rfl⟩ := H
 have p522 : 0 ≤ (x13_1 : Int) := oda
 have q522 : x13_1 < (l0_0.length : Int) := oda
 obtain ⟨ad522, A522_4, c522_4, e522, hx522_0, hx522_1, hx522_2, hx522_3, hx522_4, hl522_4, hi522_4⟩ := at_T66 HR0_0.out x13_1 p522 q522
 cases e522
 replace hx522_0 := clB HB hx522_0
 replace hx522_1 := clB HB hx522_1
 replace hx522_2 := clB HB hx522_2
 replace hx522_3 := clB HB hx522_3
 replace hx522_4 := clB HB hx522_4
 have HR522_4 := Aside0.mk hi522_4
 have HC522_4 := Aside0.mk hl522_4
 clear hi522_4 hl522_4
 replace p522 := eq_true p522
 replace q522 := eq_true q522
 go_wp2_with (first | ((with_reducible refine gate_dst (N := 9) rfl ?_); refine bx 9 #[.int .i64 0, .string (⟨#[]⟩ : ByteArray), .string (⟨#[]⟩ : ByteArray), .int .i64 0, .slice none 0 0] 66 ?_; intro gb523 hg w14 hbox hb; replace BK523 := ak (hbox); replace GW523 := ak (bz hg (lT HB (gC GE520 (gC GE521 gN)))); replace GE523 := ak (bz hg (lT HB (gC GE520 (gC GE521 gN)))); replace HB := ak (below_step (lT HB (gC GE520 (gC GE521 gN))) hb); replace NB520_523 := ak (nl hg (bG BK520)); replace NB523_520 := ak (ng hg (bG BK520)); replace BK520 := bB BK520 hb; replace NB521_523 := ak (nl hg (bG BK521)); replace NB523_521 := ak (ng hg (bG BK521)); replace BK521 := bB BK521 hb; clear hb hbox hg; have hnb15 := NB523_520.out; have hnc15 := NB520_523.out; have hnb16 := NB523_521.out; have hnc16 := NB521_523.out; obtain ⟨_, _, _, _, _, _, _, _, _, _⟩ := bC5 BK523) | ((with_reducible refine gate_callee (f := 85) rfl ?_); refine gl (some 28) Try.func85 #[.agg #[.int .i64 ((rd_T66 l0_0 x13_1).f0), .string ((rd_T66 l0_0 x13_1).f1), .string ((rd_T66 l0_0 x13_1).f2), .int .i64 ((rd_T66 l0_0 x13_1).f3), .slice A522_4 ((rd_T66 l0_0 x13_1).f4).length c522_4]] ?_; (with_reducible refine (impl_cloneBox.calls ((rd_T66 l0_0 x13_1).f0) ((rd_T66 l0_0 x13_1).f1) ((rd_T66 l0_0 x13_1).f2) ((rd_T66 l0_0 x13_1).f3) _ _ ((rd_T66 l0_0 x13_1).f4) t524 t525 t526 t527 t528 _ ?side1 ?side2 A13.out).mono ?_); (case side1 => exact Kd.C_below HR522_4.out (lT HB (gC GE520 (gC GE521 (gC GE523 gN))))); (case side2 => exact HC522_4.out); rintro e w18 ⟨v529, rfl, ho0, hb⟩; refine ⟨_, rfl, ?_⟩; replace HO530 := ak (Kd.R_lower ho0 (below_size (lT HB (gC GE520 (gC GE521 (gC GE523 gN)))))); replace BK520 := ak (blk_below (bT BK520 (nC NB520_523 nN)) hb); replace BK521 := ak (blk_below (bT BK521 (nC NB521_523 nN)) hb); replace BK523 := ak (blk_below (g := gb523) (o := .cells #[.int .i64 ((rd_T66 l0_0 x13_1).f0), .string ((rd_T66 l0_0 x13_1).f1), .string ((rd_T66 l0_0 x13_1).f2), .int .i64 ((rd_T66 l0_0 x13_1).f3), .slice A522_4 ((rd_T66 l0_0 x13_1).f4).length c522_4] 66 (0, 0)) (bW BK523) hb); replace HB := ak (below_step (lT HB (gC GE520 (gC GE521 (gC GE523 gN)))) hb); (try clear hb); (try clear hk); (try clear ho0); have hnb19 := NB521_520.out; have hnc19 := NB520_521.out; obtain ⟨_, _, _, _, _, _, _, _, _, _⟩ := bC5 BK521; obtain ⟨Ao21, co21, eo21⟩ := Kd.R_slice HO530.out; subst eo21))
 refine bodyPost_ret (results_ct rfl _ _ gb521 66 #[.int .i64 t524, .string t525, .string t526, .int .i64 t527, .slice Ao21 t528.length co21] (0, 0) _ rfl (bW BK521) Try.underlying66 rfl (by kernel_rfl)) rfl ?_
 exact ⟨_, ew, by exact Kd.R_mono (rT HO530 BK521 (by decide)) (fun _ hk => trivial), by exact lT HB (gC GE520 (gC GE521 (gC GE523 gN)))⟩
 }
 {
 rw [if_neg c12] at H
 have c12b0 := beq_eq_false_iff_ne.mpr c12
 have c12b1 := bne_iff_ne.mpr c12
 have H' := Aside0.mk H
 clear H
 have p522 : 0 ≤ (x13_1 : Int) := oda
 have q522 : x13_1 < (l0_0.length : Int) := oda
 obtain ⟨ad522, A522_4, c522_4, e522, hx522_0, hx522_1, hx522_2, hx522_3, hx522_4, hl522_4, hi522_4⟩ := at_T66 HR0_0.out x13_1 p522 q522
 cases e522
 replace hx522_0 := clB HB hx522_0
 replace hx522_1 := clB HB hx522_1
 replace hx522_2 := clB HB hx522_2
 replace hx522_3 := clB HB hx522_3
 replace hx522_4 := clB HB hx522_4
 have HR522_4 := Aside0.mk hi522_4
 have HC522_4 := Aside0.mk hl522_4
 clear hi522_4 hl522_4
 replace p522 := eq_true p522
 replace q522 := eq_true q522
 go_wp2_with ((with_reducible refine gate_dst (N := 9) rfl ?_); refine bx 9 #[.int .i64 0, .string (⟨#[]⟩ : ByteArray), .string (⟨#[]⟩ : ByteArray), .int .i64 0, .slice none 0 0] 66 ?_; intro gb523 hg w22 hbox hb; replace BK523 := ak (hbox); replace GW523 := ak (bz hg (lT HB (gC GE520 (gC GE521 gN)))); replace GE523 := ak (bz hg (lT HB (gC GE520 (gC GE521 gN)))); replace HB := ak (below_step (lT HB (gC GE520 (gC GE521 gN))) hb); replace NB520_523 := ak (nl hg (bG BK520)); replace NB523_520 := ak (ng hg (bG BK520)); replace BK520 := bB BK520 hb; replace NB521_523 := ak (nl hg (bG BK521)); replace NB523_521 := ak (ng hg (bG BK521)); replace BK521 := bB BK521 hb; clear hb hbox hg; have hnb23 := NB523_520.out; have hnc23 := NB520_523.out; have hnb24 := NB523_521.out; have hnc24 := NB521_523.out; obtain ⟨_, _, _, _, _, _, _, _, _, _⟩ := bC5 BK523)
 go_roundg k1
 case measure => have := HK1.out; omega
 case rel => exact ⟨_, (x522000_1), (x522001_1), (x522002_1), (x522003_1), rr, H', ⟨by have := HK1.out; omega⟩, ⟨bF BK520 (nC NB520_523 nN)⟩, ⟨bF BK521 (nC NB521_523 nN)⟩, ⟨by exact lT HB (gC GE520 (gC GE521 (gC GE523 gN)))⟩⟩
 }
 }
 {
 rw [if_neg c11] at H
 have c11b0 := beq_eq_false_iff_ne.mpr c11
 have c11b1 := bne_iff_ne.mpr c11
 have H' := Aside0.mk H
 clear H
 have p522 : 0 ≤ (x13_1 : Int) := oda
 have q522 : x13_1 < (l0_0.length : Int) := oda
 obtain ⟨ad522, A522_4, c522_4, e522, hx522_0, hx522_1, hx522_2, hx522_3, hx522_4, hl522_4, hi522_4⟩ := at_T66 HR0_0.out x13_1 p522 q522
 cases e522
 replace hx522_0 := clB HB hx522_0
 replace hx522_1 := clB HB hx522_1
 replace hx522_2 := clB HB hx522_2
 replace hx522_3 := clB HB hx522_3
 replace hx522_4 := clB HB hx522_4
 have HR522_4 := Aside0.mk hi522_4
 have HC522_4 := Aside0.mk hl522_4
 clear hi522_4 hl522_4
 replace p522 := eq_true p522
 replace q522 := eq_true q522
 go_wp2_with ((with_reducible refine gate_dst (N := 9) rfl ?_); refine bx 9 #[.int .i64 0, .string (⟨#[]⟩ : ByteArray), .string (⟨#[]⟩ : ByteArray), .int .i64 0, .slice none 0 0] 66 ?_; intro gb523 hg w26 hbox hb; replace BK523 := ak (hbox); replace GW523 := ak (bz hg (lT HB (gC GE520 (gC GE521 gN)))); replace GE523 := ak (bz hg (lT HB (gC GE520 (gC GE521 gN)))); replace HB := ak (below_step (lT HB (gC GE520 (gC GE521 gN))) hb); replace NB520_523 := ak (nl hg (bG BK520)); replace NB523_520 := ak (ng hg (bG BK520)); replace BK520 := bB BK520 hb; replace NB521_523 := ak (nl hg (bG BK521)); replace NB523_521 := ak (ng hg (bG BK521)); replace BK521 := bB BK521 hb; clear hb hbox hg; have hnb27 := NB523_520.out; have hnc27 := NB520_523.out; have hnb28 := NB523_521.out; have hnc28 := NB521_523.out; obtain ⟨_, _, _, _, _, _, _, _, _, _⟩ := bC5 BK523)
 go_roundg k1
 case measure => have := HK1.out; omega
 case rel => exact ⟨_, (x522000_1), (x522001_1), (x522002_1), (x522003_1), rr, H', ⟨by have := HK1.out; omega⟩, ⟨bF BK520 (nC NB520_523 nN)⟩, ⟨bF BK521 (nC NB521_523 nN)⟩, ⟨by exact lT HB (gC GE520 (gC GE521 (gC GE523 gN)))⟩⟩
 }
 }
 {rw [if_neg c10] at H;exact absurd H (by simp)}
 }
 {rw [if_neg c9] at H;exact absurd H (by simp)}
 }
 {
 rw [if_neg c8] at H
 have c8b0 := decide_eq_false c8
 clear c8
 simp only [Option.some.injEq, Prod.mk.injEq] at H
 obtain ⟨rfl, rfl, rfl, rfl, rfl, rfl⟩ := H
 have hnb30 := NB521_520.out
 have hnc30 := NB520_521.out
 obtain ⟨_, _, _, _, _, _, _, _, _, _⟩ := bC5 BK521
 go_wp2
 refine bodyPost_ret (results_ct rfl _ _ gb521 66 #[.int .i64 0, .string (⟨#[]⟩ : ByteArray), .string (⟨#[]⟩ : ByteArray), .int .i64 0, .slice none 0 0] (0, 0) _ rfl (bW BK521) Try.underlying66 rfl (by kernel_rfl)) rfl ?_
 exact ⟨_, ew, nil_, by exact lT HB (gC GE520 (gC GE521 gN))⟩
 }
 }
 }
/-! ### spec_l07Box: function 86 -/
def spec_l07Box.f (a0_0 : Int) (a0_1 : ByteArray) (a0_2 : ByteArray) (a0_3 : Int) (l0_4 : List (S68)) : Option (Int × ByteArray × ByteArray × Int × (List (S68))) := (some (([] : List (S68)) : List (S68))).bind fun y533 => (if y533.length + l0_4.length < 4398046511104 then (some (a0_0, a0_1, a0_2, a0_3, (y533 ++ l0_4))) else (none))
theorem spec_l07Box.calls (a0_0 : Int) (a0_1 : ByteArray) (a0_2 : ByteArray) (a0_3 : Int) (A0_4 : Option Addr) (c0_4 : Nat) (l0_4 : List (S68)) (r1 : Int) (r2 : ByteArray) (r3 : ByteArray) (r4 : Int) (r5 : List (S68)) (w : World) (hr0_4 : Kd.C k68 w A0_4 l0_4.length l0_4) (hc0_4 : l0_4.length ≤ c0_4) (h : spec_l07Box.f a0_0 a0_1 a0_2 a0_3 l0_4 = some (r1, r2, r3, r4, r5)) :
  Calls Try.prog 86 #[.agg #[.int .i64 a0_0, .string a0_1, .string a0_2, .int .i64 a0_3, .slice A0_4 l0_4.length c0_4]] w fun e w' => ∃ v4_ : Value, e = .returned (.agg #[.int .i64 r1, .string r2, .string r3, .int .i64 r4, v4_]) ∧ Kd.R k68 68 w' w.heap.size (fun _ => True) v4_ r5 ∧ Below w.heap.size w w' := by
 have hu66 := Try.underlying66
 have HR0_4 := Aside0.mk hr0_4
 have HC0_4 := Aside0.mk hc0_4
 clear hr0_4 hc0_4
 have HB := ak (Below.refl w.heap.size w)
 have H := h
 clear h
 unfold spec_l07Box.f at H
 obtain ⟨y533, hy533⟩ : ∃ y_ : List (S68), y_ = (([] : List (S68))) := ⟨_, rfl⟩
 replace H : (if y533.length + l0_4.length < 4398046511104 then (some (a0_0, a0_1, a0_2, a0_3, (y533 ++ l0_4))) else (none)) = some (r1, r2, r3, r4, r5) := by first | (rw [hy533]; with_reducible exact H) | (have H2_ := (Option.bind_some _ _).symm.trans H; rw [hy533]; with_reducible exact H2_) | (have H2_ := (Option.bind_some _ _).symm.trans H; with_reducible exact H2_) | with_reducible exact H | (rw [hy533]; exact H) | exact H
 have Ny533 := Aside0.mk hy533
 clear hy533
 by_cases c2 : y533.length + l0_4.length < 4398046511104
 {
 rw [if_pos c2] at H
 have LMc2 := Aside0.mk c2
 clear c2
 obtain ⟨y536, hy536⟩ : ∃ y_ : List (S68), y_ = (y533 ++ l0_4) := ⟨_, rfl⟩
 replace H : (some (a0_0, a0_1, a0_2, a0_3, y536)) = some (r1, r2, r3, r4, r5) := by first | (rw [hy536]; with_reducible exact H) | (have H2_ := (Option.bind_some _ _).symm.trans H; rw [hy536]; with_reducible exact H2_) | (have H2_ := (Option.bind_some _ _).symm.trans H; with_reducible exact H2_) | with_reducible exact H | (rw [hy536]; exact H) | exact H
 have Ny536 := Aside0.mk hy536
 clear hy536
 simp only [Option.some.injEq, Prod.mk.injEq] at H
 obtain ⟨rfl, rfl, rfl, rfl, rfl⟩ := H
 go_enter Try.func86, Try.ntmps86
 go_wp2_with (first | ((with_reducible refine gate_dst (N := 1) rfl ?_); refine bx 1 #[.int .i64 a0_0, .string a0_1, .string a0_2, .int .i64 a0_3, .slice A0_4 l0_4.length c0_4] 66 ?_; intro gb531 hg w3 hbox hb; replace BK531 := ak (hbox); replace GE531 := ak (bz hg (lG HB)); replace HB := lB HB hb; clear hb hbox hg) | ((with_reducible refine gate_dst (N := 2) rfl ?_); refine bx 2 #[.int .i64 0, .string (⟨#[]⟩ : ByteArray), .string (⟨#[]⟩ : ByteArray), .int .i64 0, .slice none 0 0] 66 ?_; intro gb532 hg w4 hbox hb; replace BK532 := ak (hbox); replace GW532 := ak (bz hg (lT HB (gC GE531 gN))); replace GE532 := ak (bz hg (lT HB (gC GE531 gN))); replace HB := ak (below_step (lT HB (gC GE531 gN)) hb); replace NB531_532 := ak (nl hg (bG BK531)); replace NB532_531 := ak (ng hg (bG BK531)); replace BK531 := bB BK531 hb; clear hb hbox hg) | ((with_reducible refine gate_dst (N := 3) rfl ?_); refine Kd.R_lit k68 _ 68 ?hg (N := 3) ?hd (xs := ([] : List (S68))) (inner := []) (ok := fun _ => True) (okp := fun _ => True) ?hr ?hp (fun _ hk => hk) trivial (Below.refl _ _) (Nat.le_refl _) (by simp) ?_; (case hd => rfl); (case hg => rfl); (case hr => first | (go_simp; done) | (go_simp; rfl)); (case hp => exact (Reps.none _ _)); intro v534 w5 ho6 hb hg_ hnew_; clear hg_ hnew_; (first | rw [← Ny533.out] at ho6 | (simp only [Int.reduceToNat] at ho6; rw [← Ny533.out] at ho6)); replace HO535 := ak (Kd.R_lower ho6 (below_size (lT HB (gC GE531 (gC GE532 gN))))); replace BK531 := bB BK531 hb; replace BK532 := bB BK532 hb; replace HB := ak (below_step (lT HB (gC GE531 (gC GE532 gN))) hb); clear hb ho6; have hnb7 := NB531_532.out; have hnc7 := NB532_531.out; obtain ⟨_, _, _, _, _, _, _, _, _, _⟩ := bC5 BK531) | ((with_reducible refine gate_builtin (b := .append) (xs := #[.tmp 3, .tmp 5]) rfl ?_); at_builtin; refine Kd.R_append_rows k68 (w0 := w) w.heap.size rfl (.tmp 3) (.tmp 5) 64 68 (.agg #[(.int .i64 0), (.int .i64 0), (.string ⟨#[]⟩)]) 32 rfl Try.underlying64 info68 rfl (by decide) (by omega) v534 y533 l0_4 _ _ _ (fun _ => True) (fun _ => False) rfl rfl ?aO ?aR (fun _ _ h => h) (fun _ h => h.elim) ?aF ?aB ?aS ?aL ?_; (case aR => exact cG (Kd.C_below HR0_4.out HB.out)); (case aB => exact (lT HB (gC GE531 (gC GE532 gN)))); (case aF => exact (fun _ _ => trivial)); (case aO => exact (rG HO535)); (case aS => exact (below_size (lT HB (gC GE531 (gC GE532 gN))))); (case aL => have := LMc2.out; omega); intro v537 w9 ho hb hg hat; rw [← Ny536.out] at ho; have n0_ := ak (blk_grown (g := gb531) (o := .cells #[.int .i64 a0_0, .string a0_1, .string a0_2, .int .i64 a0_3, .slice A0_4 l0_4.length c0_4] 66 (0, 0)) (bG BK531) hg (Kd.R_ne HO535.out BK531.out (by decide))); have n1_ := ak (blk_grown (g := gb532) (o := .cells #[.int .i64 0, .string (⟨#[]⟩ : ByteArray), .string (⟨#[]⟩ : ByteArray), .int .i64 0, .slice none 0 0] 66 (0, 0)) (bG BK532) hg (Kd.R_ne HO535.out BK532.out (by decide))); have n2_ := ak (hb); have n3_ := ak (ho); clear BK531; clear BK532; clear HB; clear HO535; have BK531 := n0_; have BK532 := n1_; have HB := n2_; have HO538 := n3_; clear n0_ n1_ n2_ n3_; clear ho hb hg hat; obtain ⟨Ao10, co10, eo10⟩ := Kd.R_slice HO538.out; subst eo10; obtain ⟨_, _, _, _, _, _, _, _, _, _⟩ := bC5 BK531; obtain ⟨_, _, _, _, _, _, _, _, _, _⟩ := bC5 BK532))
 refine bodyPost_ret (results_cell_row rfl _ _ gb532 66 #[.int .i64 a0_0, .string a0_1, .string a0_2, .int .i64 a0_3, .slice Ao10 y536.length co10] (0, 0) _ rfl (bF BK532 (nC NB532_531 nN)) Try.underlying66 rfl (by kernel_rfl)) rfl ?_
 exact ⟨_, ew, by exact Kd.R_mono (rT2 HO538 BK531 BK532 (by decide) (by decide)) (fun _ hk => trivial), by exact lT HB (gC GE531 (gC GE532 gN))⟩
 }
 {rw [if_neg c2] at H;exact absurd H (by simp)}
/-! ### spec_BoxOf: function 41 -/
def spec_BoxOf.l0 : Nat → ByteArray → ByteArray → Int → List (S66) → Option (Int × ByteArray × ByteArray × Int × (List (S68)) × Bool)
 | 0, _, _, _, _ => none
 | k + 1, a, b, c, d => if c < (d.length : Int) then (if 0 ≤ c then (if ((rd_T66 d c).f1).toList = a.toList then (if ((rd_T66 d c).f2).toList = b.toList then ((spec_l07Box.f ((rd_T66 d c).f0) ((rd_T66 d c).f1) ((rd_T66 d c).f2) ((rd_T66 d c).f3) ((rd_T66 d c).f4)).bind fun bt544 => (some (bt544.1, bt544.2.1, bt544.2.2.1, bt544.2.2.2.1, bt544.2.2.2.2, true))) else (spec_BoxOf.l0 k a b (wrap64 (c + 1)) d)) else (spec_BoxOf.l0 k a b (wrap64 (c + 1)) d)) else (none)) else (some (0, (⟨#[]⟩ : ByteArray), (⟨#[]⟩ : ByteArray), 0, ([] : List (S68)), false))
def spec_BoxOf.f (k : Nat) (l0_0 : List (S66)) (a1 : ByteArray) (a2 : ByteArray) : Option (Int × ByteArray × ByteArray × Int × (List (S68)) × Bool) := spec_BoxOf.l0 k a1 a2 0 l0_0
theorem spec_BoxOf.mono_l : ∀ k, (∀ y0 y1 y2 y3, LeO (spec_BoxOf.l0 k y0 y1 y2 y3) (spec_BoxOf.l0 (k + 1) y0 y1 y2 y3))
 | 0 => fun _ _ _ _ r h => by simp [spec_BoxOf.l0] at h
 | k + 1 => by
  have ih0 := spec_BoxOf.mono_l k
  ·intro y0 y1 y2 y3
   unfold spec_BoxOf.l0
   repeat' with_reducible first | exact ih0 _ _ _ _ | exact LeO.refl _ | exact LeO.none _ | refine LeO.ite ?_ ?_ | refine LeO.bind ?_ (fun _ => ?_)
theorem spec_BoxOf.mono : ∀ a0 a1 a2 k, LeO (spec_BoxOf.f k a0 a1 a2) (spec_BoxOf.f (k + 1) a0 a1 a2) := by
 intro a0 a1 a2 k
 have ih0 := spec_BoxOf.mono_l k
 unfold spec_BoxOf.f
 repeat' with_reducible first | exact ih0 _ _ _ _ | exact LeO.refl _ | exact LeO.none _ | refine LeO.ite ?_ ?_ | refine LeO.bind ?_ (fun _ => ?_)
theorem spec_BoxOf.calls (k : Nat) (A0_0 : Option Addr) (c0_0 : Nat) (l0_0 : List (S66)) (a1 : ByteArray) (a2 : ByteArray) (r1 : Int) (r2 : ByteArray) (r3 : ByteArray) (r4 : Int) (r5 : List (S68)) (r6 : Bool) (w : World) (hr0_0 : Kd.C k66 w A0_0 l0_0.length l0_0) (hc0_0 : l0_0.length ≤ c0_0) (h : spec_BoxOf.f k l0_0 a1 a2 = some (r1, r2, r3, r4, r5, r6)) :
  Calls Try.prog 41 #[.agg #[.slice A0_0 l0_0.length c0_0], .string a1, .string a2] w fun e w' => ∃ v4_ : Value, e = .returned (.tuple #[.agg #[.int .i64 r1, .string r2, .string r3, .int .i64 r4, v4_], .bool r6]) ∧ Kd.R k68 68 w' w.heap.size (fun _ => True) v4_ r5 ∧ Below w.heap.size w w' := by
 have hu60 := Try.underlying60
 have hu66 := Try.underlying66
 have HR0_0 := Aside0.mk hr0_0
 have HC0_0 := Aside0.mk hc0_0
 clear hr0_0 hc0_0
 have HB := ak (Below.refl w.heap.size w)
 have H := h
 clear h
 unfold spec_BoxOf.f at H
 have H' := Aside0.mk H
 clear H
 go_enter Try.func41, Try.ntmps41
 go_wp2_with (first | ((with_reducible refine gate_dst (N := 3) rfl ?_); refine bx 3 #[.slice A0_0 l0_0.length c0_0] 60 ?_; intro gb539 hg w4 hbox hb; replace BK539 := ak (hbox); replace GE539 := ak (bz hg (lG HB)); replace HB := lB HB hb; clear hb hbox hg) | ((with_reducible refine gate_dst (N := 6) rfl ?_); refine bx 6 #[.int .i64 0, .string (⟨#[]⟩ : ByteArray), .string (⟨#[]⟩ : ByteArray), .int .i64 0, .slice none 0 0] 66 ?_; intro gb540 hg w5 hbox hb; replace BK540 := ak (hbox); replace GW540 := ak (bz hg (lT HB (gC GE539 gN))); replace GE540 := ak (bz hg (lT HB (gC GE539 gN))); replace HB := ak (below_step (lT HB (gC GE539 gN)) hb); replace NB539_540 := ak (nl hg (bG BK539)); replace NB540_539 := ak (ng hg (bG BK539)); replace BK539 := bB BK539 hb; clear hb hbox hg))
 go_loopg [8] k (fun kq v8 w' => ∃ (x8_1 : Int) (x541000_1 : Int) (x541001_1 : ByteArray) (x541002_1 : ByteArray) (x541003_1 : Int), v8 = .int .i64 x8_1 ∧ Aside0 (spec_BoxOf.l0 kq a1 a2 x8_1 l0_0 = some (r1, r2, r3, r4, r5, r6)) ∧ Aside0 (kq ≤ k) ∧ Aside0 (w'.heap[gb539]? = some (.cells #[(.slice A0_0 l0_0.length c0_0)] 60 (0, 0))) ∧ Aside0 (w'.heap[gb540]? = some (.cells #[.int .i64 x541000_1, .string x541001_1, .string x541002_1, .int .i64 x541003_1, (.slice none 0 0)] 66 (0, 0))) ∧ Aside0 (Below w.heap.size w w'))
 case atStart => exact ⟨_, (0), ((⟨#[]⟩ : ByteArray)), ((⟨#[]⟩ : ByteArray)), (0), rr, H', ⟨Nat.le_refl _⟩, ⟨bG BK539⟩, ⟨bG BK540⟩, ⟨by exact lT HB (gC GE539 (gC GE540 gN))⟩⟩
 case round =>
  skip;{
 clear H'
 obtain ⟨x8_1, x541000_1, x541001_1, x541002_1, x541003_1, rfl, HA, HK1, BK539, BK540, HB⟩ := hrel
 cases gk with
 | zero => exact absurd HA.out (by simp [spec_BoxOf.l0])
 | succ k1 =>
  skip;{
 have H := HA.out
 clear HA
 simp only [spec_BoxOf.l0] at H
 by_cases c6 : x8_1 < (l0_0.length : Int)
 {
 rw [if_pos c6] at H
 have c6b0 := decide_eq_true c6
 clear c6
 by_cases c7 : 0 ≤ x8_1
 {
 rw [if_pos c7] at H
 have c7b0 := decide_eq_true c7
 clear c7
 by_cases c8 : ((rd_T66 l0_0 x8_1).f1).toList = a1.toList
 {
 rw [if_pos c8] at H
 have c8b0 := beq_iff_eq.mpr c8
 have c8b1 := bne_eq_false_iff_eq.mpr c8
 clear c8
 by_cases c9 : ((rd_T66 l0_0 x8_1).f2).toList = a2.toList
 {
 rw [if_pos c9] at H
 have c9b0 := beq_iff_eq.mpr c9
 have c9b1 := bne_eq_false_iff_eq.mpr c9
 clear c9
 obtain ⟨⟨t544, t545, t546, t547, t548⟩, A10, H⟩ := eb H
 try dsimp only at H
 simp only [Option.some.injEq, Prod.mk.injEq] at H
 obtain ⟨rfl, rfl, rfl, rfl, rfl, rfl⟩ := H
 have hnb11 := NB539_540.out
 have hnc11 := NB540_539.out
 obtain ⟨_, _⟩ := bC1 BK539
 have p541 : 0 ≤ (x8_1 : Int) := oda
 have q541 : x8_1 < (l0_0.length : Int) := oda
 obtain ⟨ad541, A541_4, c541_4, e541, hx541_0, hx541_1, hx541_2, hx541_3, hx541_4, hl541_4, hi541_4⟩ := at_T66 HR0_0.out x8_1 p541 q541
 cases e541
 replace hx541_0 := clB HB hx541_0
 replace hx541_1 := clB HB hx541_1
 replace hx541_2 := clB HB hx541_2
 replace hx541_3 := clB HB hx541_3
 replace hx541_4 := clB HB hx541_4
 have HR541_4 := Aside0.mk hi541_4
 have HC541_4 := Aside0.mk hl541_4
 clear hi541_4 hl541_4
 replace p541 := eq_true p541
 replace q541 := eq_true q541
 have p542 : 0 ≤ (x8_1 : Int) := oda
 have q542 : x8_1 < (l0_0.length : Int) := oda
 obtain ⟨ad542, A542_4, c542_4, e542, hx542_0, hx542_1, hx542_2, hx542_3, hx542_4, hl542_4, hi542_4⟩ := at_T66 HR0_0.out x8_1 p542 q542
 obtain rfl : ad541 = ad542 := (by injection e542)
 replace hx542_0 := clB HB hx542_0
 replace hx542_1 := clB HB hx542_1
 replace hx542_2 := clB HB hx542_2
 replace hx542_3 := clB HB hx542_3
 replace hx542_4 := clB HB hx542_4
 have HR542_4 := Aside0.mk hi542_4
 have HC542_4 := Aside0.mk hl542_4
 clear hi542_4 hl542_4
 replace p542 := eq_true p542
 replace q542 := eq_true q542
 have ea_ := Option.some.inj (hx541_4.symm.trans hx542_4)
 injection ea_ with ea_ en_ ec_
 subst ea_
 subst ec_
 clear en_
 have p543 : 0 ≤ (x8_1 : Int) := oda
 have q543 : x8_1 < (l0_0.length : Int) := oda
 obtain ⟨ad543, A543_4, c543_4, e543, hx543_0, hx543_1, hx543_2, hx543_3, hx543_4, hl543_4, hi543_4⟩ := at_T66 HR0_0.out x8_1 p543 q543
 obtain rfl : ad541 = ad543 := (by injection e543)
 replace hx543_0 := clB HB hx543_0
 replace hx543_1 := clB HB hx543_1
 replace hx543_2 := clB HB hx543_2
 replace hx543_3 := clB HB hx543_3
 replace hx543_4 := clB HB hx543_4
 have HR543_4 := Aside0.mk hi543_4
 have HC543_4 := Aside0.mk hl543_4
 clear hi543_4 hl543_4
 replace p543 := eq_true p543
 replace q543 := eq_true q543
 have ea_ := Option.some.inj (hx541_4.symm.trans hx543_4)
 injection ea_ with ea_ en_ ec_
 subst ea_
 subst ec_
 clear en_
 go_wp2_with ((with_reducible refine gate_callee (f := 86) rfl ?_); refine gl (some 39) Try.func86 #[.agg #[.int .i64 ((rd_T66 l0_0 x8_1).f0), .string ((rd_T66 l0_0 x8_1).f1), .string ((rd_T66 l0_0 x8_1).f2), .int .i64 ((rd_T66 l0_0 x8_1).f3), .slice A541_4 ((rd_T66 l0_0 x8_1).f4).length c541_4]] ?_; (with_reducible refine (spec_l07Box.calls ((rd_T66 l0_0 x8_1).f0) ((rd_T66 l0_0 x8_1).f1) ((rd_T66 l0_0 x8_1).f2) ((rd_T66 l0_0 x8_1).f3) _ _ ((rd_T66 l0_0 x8_1).f4) t544 t545 t546 t547 t548 _ ?side1 ?side2 A10.out).mono ?_); (case side1 => exact cG (Kd.C_below HR543_4.out HB.out)); (case side2 => exact HC543_4.out); rintro e w13 ⟨v549, rfl, ho0, hb⟩; refine ⟨_, rfl, ?_⟩; replace HO550 := ak (Kd.R_lower ho0 (below_size (lT HB (gC GE539 (gC GE540 gN))))); replace BK539 := bB BK539 hb; replace BK540 := bB BK540 hb; replace HB := ak (below_step (lT HB (gC GE539 (gC GE540 gN))) hb); (try clear hb); (try clear hk); (try clear ho0); obtain ⟨_, _, _, _, _, _, _, _, _, _⟩ := bC5 BK540; obtain ⟨Ao15, co15, eo15⟩ := Kd.R_slice HO550.out; subst eo15)
 refine bodyPost_ret (results_ct rfl _ _ gb540 66 #[.int .i64 t544, .string t545, .string t546, .int .i64 t547, .slice Ao15 t548.length co15] (0, 0) _ rfl (bW BK540) Try.underlying66 rfl (by kernel_rfl)) rfl ?_
 exact ⟨_, ew, by exact Kd.R_mono (rT HO550 BK540 (by decide)) (fun _ hk => trivial), by exact lT HB (gC GE539 (gC GE540 gN))⟩
 }
 {
 rw [if_neg c9] at H
 have c9b0 := beq_eq_false_iff_ne.mpr c9
 have c9b1 := bne_iff_ne.mpr c9
 have H' := Aside0.mk H
 clear H
 have hnb16 := NB539_540.out
 have hnc16 := NB540_539.out
 obtain ⟨_, _⟩ := bC1 BK539
 have p541 : 0 ≤ (x8_1 : Int) := oda
 have q541 : x8_1 < (l0_0.length : Int) := oda
 obtain ⟨ad541, A541_4, c541_4, e541, hx541_0, hx541_1, hx541_2, hx541_3, hx541_4, hl541_4, hi541_4⟩ := at_T66 HR0_0.out x8_1 p541 q541
 cases e541
 replace hx541_0 := clB HB hx541_0
 replace hx541_1 := clB HB hx541_1
 replace hx541_2 := clB HB hx541_2
 replace hx541_3 := clB HB hx541_3
 replace hx541_4 := clB HB hx541_4
 have HR541_4 := Aside0.mk hi541_4
 have HC541_4 := Aside0.mk hl541_4
 clear hi541_4 hl541_4
 replace p541 := eq_true p541
 replace q541 := eq_true q541
 have p542 : 0 ≤ (x8_1 : Int) := oda
 have q542 : x8_1 < (l0_0.length : Int) := oda
 obtain ⟨ad542, A542_4, c542_4, e542, hx542_0, hx542_1, hx542_2, hx542_3, hx542_4, hl542_4, hi542_4⟩ := at_T66 HR0_0.out x8_1 p542 q542
 obtain rfl : ad541 = ad542 := (by injection e542)
 replace hx542_0 := clB HB hx542_0
 replace hx542_1 := clB HB hx542_1
 replace hx542_2 := clB HB hx542_2
 replace hx542_3 := clB HB hx542_3
 replace hx542_4 := clB HB hx542_4
 have HR542_4 := Aside0.mk hi542_4
 have HC542_4 := Aside0.mk hl542_4
 clear hi542_4 hl542_4
 replace p542 := eq_true p542
 replace q542 := eq_true q542
 have ea_ := Option.some.inj (hx541_4.symm.trans hx542_4)
 injection ea_ with ea_ en_ ec_
 subst ea_
 subst ec_
 clear en_
 go_wp2
 go_roundg k1
 case measure => have := HK1.out; omega
 case rel => exact ⟨_, (x541000_1), (x541001_1), (x541002_1), (x541003_1), rr, H', ⟨by have := HK1.out; omega⟩, ⟨bG BK539⟩, ⟨bG BK540⟩, ⟨by exact lT HB (gC GE539 (gC GE540 gN))⟩⟩
 }
 }
 {
 rw [if_neg c8] at H
 have c8b0 := beq_eq_false_iff_ne.mpr c8
 have c8b1 := bne_iff_ne.mpr c8
 have H' := Aside0.mk H
 clear H
 have hnb18 := NB539_540.out
 have hnc18 := NB540_539.out
 obtain ⟨_, _⟩ := bC1 BK539
 have p541 : 0 ≤ (x8_1 : Int) := oda
 have q541 : x8_1 < (l0_0.length : Int) := oda
 obtain ⟨ad541, A541_4, c541_4, e541, hx541_0, hx541_1, hx541_2, hx541_3, hx541_4, hl541_4, hi541_4⟩ := at_T66 HR0_0.out x8_1 p541 q541
 cases e541
 replace hx541_0 := clB HB hx541_0
 replace hx541_1 := clB HB hx541_1
 replace hx541_2 := clB HB hx541_2
 replace hx541_3 := clB HB hx541_3
 replace hx541_4 := clB HB hx541_4
 have HR541_4 := Aside0.mk hi541_4
 have HC541_4 := Aside0.mk hl541_4
 clear hi541_4 hl541_4
 replace p541 := eq_true p541
 replace q541 := eq_true q541
 go_wp2
 go_roundg k1
 case measure => have := HK1.out; omega
 case rel => exact ⟨_, (x541000_1), (x541001_1), (x541002_1), (x541003_1), rr, H', ⟨by have := HK1.out; omega⟩, ⟨bG BK539⟩, ⟨bG BK540⟩, ⟨by exact lT HB (gC GE539 (gC GE540 gN))⟩⟩
 }
 }
 {rw [if_neg c7] at H;exact absurd H (by simp)}
 }
 {
 rw [if_neg c6] at H
 have c6b0 := decide_eq_false c6
 clear c6
 simp only [Option.some.injEq, Prod.mk.injEq] at H
 obtain ⟨rfl, rfl, rfl, rfl, rfl, rfl⟩ := H
 have hnb20 := NB539_540.out
 have hnc20 := NB540_539.out
 obtain ⟨_, _⟩ := bC1 BK539
 obtain ⟨_, _, _, _, _, _, _, _, _, _⟩ := bC5 BK540
 go_wp2
 refine bodyPost_ret (results_ct rfl _ _ gb540 66 #[.int .i64 0, .string (⟨#[]⟩ : ByteArray), .string (⟨#[]⟩ : ByteArray), .int .i64 0, .slice none 0 0] (0, 0) _ rfl (bW BK540) Try.underlying66 rfl (by kernel_rfl)) rfl ?_
 exact ⟨_, ew, nil_, by exact lT HB (gC GE539 (gC GE540 gN))⟩
 }
 }
 }
/-! ### laws_sameTexts: function 42 -/
def laws_sameTexts.l0 : Nat → List ByteArray → List ByteArray → Int → Option (Bool)
 | 0, _, _, _ => none
 | k + 1, a, b, c => if c < (a.length : Int) then (if 0 ≤ c then (if c < (b.length : Int) then (if (rdOf ByteArray.empty a c).toList = (rdOf ByteArray.empty b c).toList then (laws_sameTexts.l0 k a b (wrap64 (c + 1))) else (some false)) else (none)) else (none)) else (some true)
def laws_sameTexts.f (k : Nat) (l0 : List ByteArray) (l1 : List ByteArray) : Option (Bool) := if (l0.length : Int) = (l1.length : Int) then (laws_sameTexts.l0 k l0 l1 0) else (some false)
theorem laws_sameTexts.mono_l : ∀ k, (∀ y0 y1 y2, LeO (laws_sameTexts.l0 k y0 y1 y2) (laws_sameTexts.l0 (k + 1) y0 y1 y2))
 | 0 => fun _ _ _ r h => by simp [laws_sameTexts.l0] at h
 | k + 1 => by
  have ih0 := laws_sameTexts.mono_l k
  ·intro y0 y1 y2
   unfold laws_sameTexts.l0
   repeat' with_reducible first | exact ih0 _ _ _ | exact LeO.refl _ | exact LeO.none _ | refine LeO.ite ?_ ?_ | refine LeO.bind ?_ (fun _ => ?_)
theorem laws_sameTexts.mono : ∀ a0 a1 k, LeO (laws_sameTexts.f k a0 a1) (laws_sameTexts.f (k + 1) a0 a1) := by
 intro a0 a1 k
 have ih0 := laws_sameTexts.mono_l k
 unfold laws_sameTexts.f
 repeat' with_reducible first | exact ih0 _ _ _ | exact LeO.refl _ | exact LeO.none _ | refine LeO.ite ?_ ?_ | refine LeO.bind ?_ (fun _ => ?_)
theorem laws_sameTexts.calls (k : Nat) (A0 : Option Addr) (c0 : Nat) (l0 : List ByteArray) (A1 : Option Addr) (c1 : Nat) (l1 : List ByteArray) (r : Bool) (w : World) (hr0 : Kd.C Kd.string w A0 l0.length l0) (hc0 : l0.length ≤ c0) (hr1 : Kd.C Kd.string w A1 l1.length l1) (hc1 : l1.length ≤ c1) (h : laws_sameTexts.f k l0 l1 = some r) :
  Calls Try.prog 42 #[.slice A0 l0.length c0, .slice A1 l1.length c1] w fun e w' => e = .returned (.bool r) ∧ Drawn0 w w' := by
 have HR0 := Aside0.mk hr0
 have HC0 := Aside0.mk hc0
 clear hr0 hc0
 have HR1 := Aside0.mk hr1
 have HC1 := Aside0.mk hc1
 clear hr1 hc1
 have H := h
 clear h
 unfold laws_sameTexts.f at H
 by_cases c3 : (l0.length : Int) = (l1.length : Int)
 {
 rw [if_pos c3] at H
 have c3b0 := beq_iff_eq.mpr c3
 have c3b1 := bne_eq_false_iff_eq.mpr c3
 have c3b2 : (l0.length == l1.length) = true := by first | simpa using c3 | (simp at c3 ⊢; omega)
 clear c3
 have H' := Aside0.mk H
 clear H
 go_enter Try.func42, Try.ntmps42
 go_wp2
 repeat (go_quiet (fail); try go_wp2)
 go_loopg [5] k (fun kq v5 w' => ∃ (x5_1 : Int), v5 = .int .i64 x5_1 ∧ Aside0 (laws_sameTexts.l0 kq l0 l1 x5_1 = some r) ∧ Aside0 (kq ≤ k) ∧ Drawn0 w w')
 case atStart => exact ⟨_, rr, H', ⟨Nat.le_refl _⟩, by repeat (first | exact Drawn0.refl _ | apply Drawn0.step)⟩
 case round =>
  skip;{
 clear H'
 try clear c1 c3 c3b0 c3b1 c3b2
 obtain ⟨x5_1, rfl, HA, HK1, ⟨m1, rfl⟩⟩ := hrel
 cases gk with
 | zero => exact absurd HA.out (by simp [laws_sameTexts.l0])
 | succ k1 =>
  skip;{
 have H := HA.out
 clear HA
 simp only [laws_sameTexts.l0] at H
 by_cases c4 : x5_1 < (l0.length : Int)
 {
 rw [if_pos c4] at H
 have c4b0 := decide_eq_true c4
 clear c4
 by_cases c5 : 0 ≤ x5_1
 {
 rw [if_pos c5] at H
 have c5b0 := decide_eq_true c5
 clear c5
 by_cases c6 : x5_1 < (l1.length : Int)
 {
 rw [if_pos c6] at H
 have c6b0 := decide_eq_true c6
 clear c6
 by_cases c7 : (rdOf ByteArray.empty l0 x5_1).toList = (rdOf ByteArray.empty l1 x5_1).toList
 {
 rw [if_pos c7] at H
 have c7b0 := beq_iff_eq.mpr c7
 have c7b1 := bne_eq_false_iff_eq.mpr c7
 clear c7
 have H' := Aside0.mk H
 clear H
 have p551 : 0 ≤ (x5_1 : Int) := oda
 have q551 : x5_1 < (l0.length : Int) := oda
 obtain ⟨ad551, e551, hx551_0⟩ := Kd.at_string HR0.out x5_1 p551 q551
 cases e551
 replace p551 := eq_true p551
 replace q551 := eq_true q551
 have p552 : 0 ≤ (x5_1 : Int) := oda
 have q552 : x5_1 < (l1.length : Int) := oda
 obtain ⟨ad552, e552, hx552_0⟩ := Kd.at_string HR1.out x5_1 p552 q552
 cases e552
 replace p552 := eq_true p552
 replace q552 := eq_true q552
 go_wp2
 repeat (go_quiet (fail); try go_wp2)
 go_roundg k1
 case measure => have := HK1.out; omega
 case rel => exact ⟨_, rr, H', ⟨by have := HK1.out; omega⟩, by repeat (first | exact Drawn0.refl _ | apply Drawn0.step)⟩
 }
 {
 rw [if_neg c7] at H
 have c7b0 := beq_eq_false_iff_ne.mpr c7
 have c7b1 := bne_iff_ne.mpr c7
 obtain rfl := Option.some.inj H
 have p551 : 0 ≤ (x5_1 : Int) := oda
 have q551 : x5_1 < (l0.length : Int) := oda
 obtain ⟨ad551, e551, hx551_0⟩ := Kd.at_string HR0.out x5_1 p551 q551
 cases e551
 replace p551 := eq_true p551
 replace q551 := eq_true q551
 have p552 : 0 ≤ (x5_1 : Int) := oda
 have q552 : x5_1 < (l1.length : Int) := oda
 obtain ⟨ad552, e552, hx552_0⟩ := Kd.at_string HR1.out x5_1 p552 q552
 cases e552
 replace p552 := eq_true p552
 replace q552 := eq_true q552
 go_wp2
 repeat (go_quiet (fail); try go_wp2)
 go_ret
 exact ⟨by first | rfl | (simp; done) | (simp [*]; done), by repeat (first | exact Drawn0.refl _ | apply Drawn0.step)⟩
 }
 }
 {rw [if_neg c6] at H;exact absurd H (by simp)}
 }
 {rw [if_neg c5] at H;exact absurd H (by simp)}
 }
 {
 rw [if_neg c4] at H
 have c4b0 := decide_eq_false c4
 clear c4
 obtain rfl := Option.some.inj H
 go_wp2
 repeat (go_quiet (fail); try go_wp2)
 go_ret
 exact ⟨by first | rfl | (simp; done) | (simp [*]; done), by repeat (first | exact Drawn0.refl _ | apply Drawn0.step)⟩
 }
 }
 }
 }
 {
 rw [if_neg c3] at H
 have c3b0 := beq_eq_false_iff_ne.mpr c3
 have c3b1 := bne_iff_ne.mpr c3
 have c3b2 : (l0.length == l1.length) = false := by first | simpa using c3 | (simp at c3 ⊢; omega)
 obtain rfl := Option.some.inj H
 go_enter Try.func42, Try.ntmps42
 go_wp2
 repeat (go_quiet (fail); try go_wp2)
 go_ret
 exact ⟨by first | rfl | (simp; done) | (simp [*]; done), by repeat (first | exact Drawn0.refl _ | apply Drawn0.step)⟩
 }
end Go.Proofs.Ytagkjeldheiejaa.PFnStates
