-- printed
import Derived.Test.YtagkjeldheiejaaPFnStatesToldx16
import Derived.Test.YtagkjeldheiejaaPFnStatesToldx18
import Derived.Test.YtagkjeldheiejaaVFnStatesTold1
namespace Go.Proofs.Ytagkjeldheiejaa.PFnStatesTold
open Go.RowKit YtagkjeldheiejaaW.PrintWords YtagkjeldheiejaaW.PrintLast YtagkjeldheiejaaW.PrintMore
set_option linter.unusedVariables false
set_option linter.unusedSimpArgs false
attribute [local go_sem] max2_int min2_int max_two min_two max_three min_three max_four min_four
set_option maxHeartbeats 8000000
set_option maxRecDepth 100000
def spec_l07State.f (k : Nat) (s0_0 : List Int) (s0_1 : Int) (s0_2 : Int) : Option ((List (S66)) × Int × Int) := (spec_l01Below.f s0_0 s0_1 s0_2 8).bind fun bt594 => ((spec_l01Below.f s0_0 bt594.2.1 bt594.2.2 60).bind fun bt597 => ((spec_l07Items.f k s0_0 bt597.2.1 bt597.2.2).bind fun bt600 => ((spec_StateOf.f k bt600.1).bind fun t605 => (if (t605.length : Int) > 0 then (if (t605.length : Int) = 0 then (none) else (if bt594.1 = 0 then (if 0 ≤ (Int.tmod bt597.1 (t605.length : Int)) then (if (Int.tmod bt597.1 (t605.length : Int)) < (t605.length : Int) then (some ((t605.set ((Int.tmod bt597.1 (t605.length : Int)) : Int).toNat (⟨Int.tmod bt597.1 5, (rd_T66 t605 (Int.tmod bt597.1 (t605.length : Int))).f1, (rd_T66 t605 (Int.tmod bt597.1 (t605.length : Int))).f2, (rd_T66 t605 (Int.tmod bt597.1 (t605.length : Int))).f3, (rd_T66 t605 (Int.tmod bt597.1 (t605.length : Int))).f4⟩ : S66)), bt600.2.1, bt600.2.2)) else (none)) else (none)) else (if bt594.1 = 1 then (if 0 ≤ (Int.tmod bt597.1 (t605.length : Int)) then (if (Int.tmod bt597.1 (t605.length : Int)) < (t605.length : Int) then (some ((t605.set ((Int.tmod bt597.1 (t605.length : Int)) : Int).toNat (⟨(rd_T66 t605 (Int.tmod bt597.1 (t605.length : Int))).f0, (rd_T66 t605 (Int.tmod bt597.1 (t605.length : Int))).f1, (rd_T66 t605 (Int.tmod bt597.1 (t605.length : Int))).f2, Int.tmod bt597.1 4, (rd_T66 t605 (Int.tmod bt597.1 (t605.length : Int))).f4⟩ : S66)), bt600.2.1, bt600.2.2)) else (none)) else (none)) else (if bt594.1 = 2 then ((some (([(⟨#[]⟩ : ByteArray), (⟨#[97, 110, 110]⟩ : ByteArray)] : List ByteArray) : List ByteArray)).bind fun y611 => (if 0 ≤ (Int.tmod bt597.1 2) then (if (Int.tmod bt597.1 2) < (y611.length : Int) then (if 0 ≤ (Int.tmod bt597.1 (t605.length : Int)) then (if (Int.tmod bt597.1 (t605.length : Int)) < (t605.length : Int) then (some ((t605.set ((Int.tmod bt597.1 (t605.length : Int)) : Int).toNat (⟨(rd_T66 t605 (Int.tmod bt597.1 (t605.length : Int))).f0, rdOf ByteArray.empty y611 (Int.tmod bt597.1 2), (rd_T66 t605 (Int.tmod bt597.1 (t605.length : Int))).f2, (rd_T66 t605 (Int.tmod bt597.1 (t605.length : Int))).f3, (rd_T66 t605 (Int.tmod bt597.1 (t605.length : Int))).f4⟩ : S66)), bt600.2.1, bt600.2.2)) else (none)) else (none)) else (none)) else (none))) else (if bt594.1 = 3 then (if 0 ≤ (Int.tmod bt597.1 (t605.length : Int)) then (if (Int.tmod bt597.1 (t605.length : Int)) < (t605.length : Int) then (if ((rd_T66 t605 (Int.tmod bt597.1 (t605.length : Int))).f4).length < 4398046511104 then (some ((t605.set ((Int.tmod bt597.1 (t605.length : Int)) : Int).toNat (⟨(rd_T66 t605 (Int.tmod bt597.1 (t605.length : Int))).f0, (rd_T66 t605 (Int.tmod bt597.1 (t605.length : Int))).f1, (rd_T66 t605 (Int.tmod bt597.1 (t605.length : Int))).f2, (rd_T66 t605 (Int.tmod bt597.1 (t605.length : Int))).f3, (((rd_T66 t605 (Int.tmod bt597.1 (t605.length : Int))).f4) ++ [(⟨Int.tmod bt597.1 7, Int.tmod bt597.1 9, (⟨#[]⟩ : ByteArray)⟩ : S68)])⟩ : S66)), bt600.2.1, bt600.2.2)) else (none)) else (none)) else (none)) else (some (t605, bt600.2.1, bt600.2.2))))))) else (some (t605, bt600.2.1, bt600.2.2))))))
theorem spec_l07State.mono : ∀ a0 a1 a2 k, LeO (spec_l07State.f k a0 a1 a2) (spec_l07State.f (k + 1) a0 a1 a2) := by
 intro a0 a1 a2 k
 unfold spec_l07State.f
 repeat' with_reducible first | exact spec_StateOf.mono _ _ | exact spec_l07Items.mono _ _ _ _ | exact LeO.refl _ | exact LeO.none _ | refine LeO.ite ?_ ?_ | refine LeO.bind ?_ (fun _ => ?_)
def spec_l07State.T12 : Bool × List (List Nat × List Nat) := (true, [([], []), ([0], [0]), ([], []), ([], []), ([], []), ([4], [4]), ([3, 5], [3, 5]), ([6], [6]), ([1, 2, 0, 1, 2, 3, 4, 5, 6, 7], [1, 2]), ([8, 0, 1, 2, 3, 4, 5, 6, 7], [8]), ([9, 7, 0, 1, 2, 3, 4, 5, 6, 7], [7, 9])])
def spec_l07State.B12 : List Nat := [0, 1, 0, 0, 0, 16, 56, 120, 255, 511, 1023]
theorem spec_l07State.tab12 : rtab .any (opsOf Try.f89 12) = spec_l07State.T12 := by kernel_rfl
theorem spec_l07State.bits12 : waitsOk spec_l07State.T12.2 spec_l07State.B12 = true := by kernel_rfl
def spec_l07State.T14 : Bool × List (List Nat × List Nat) := (true, [([], []), ([0], [0]), ([], []), ([], []), ([3], [3]), ([], []), ([4, 5], [4, 5]), ([6], [6]), ([7], [7]), ([], []), ([9], [9]), ([], []), ([11], [11]), ([10, 12], [10, 12]), ([13], [13]), ([8, 14], [8, 14]), ([1, 2, 0, 1, 2, 3, 4, 5, 6, 7, 8, 9, 10, 11, 12, 13, 14, 15], [1, 2]), ([16, 0, 1, 2, 3, 4, 5, 6, 7, 8, 9, 10, 11, 12, 13, 14, 15], [16]), ([17, 15, 15, 0, 1, 2, 3, 4, 5, 6, 7, 8, 9, 10, 11, 12, 13, 14, 15], [15, 17])])
def spec_l07State.B14 : List Nat := [0, 1, 0, 0, 8, 0, 56, 120, 248, 0, 512, 0, 2048, 7680, 15872, 32760, 65535, 131071, 262143]
theorem spec_l07State.tab14 : rtab .any (opsOf Try.f89 14) = spec_l07State.T14 := by kernel_rfl
theorem spec_l07State.bits14 : waitsOk spec_l07State.T14.2 spec_l07State.B14 = true := by kernel_rfl
theorem spec_l07State.calls (k : Nat) (g : Nat) (s0_0 : List Int) (s0_1 : Int) (s0_2 : Int) (r1 : List (S66)) (r2 : Int) (r3 : Int) (w0 w : World) (hI : IsS134 w0 w g s0_0 s0_1 s0_2) (hB : Below w0.heap.size w0 w) (h : spec_l07State.f k s0_0 s0_1 s0_2 = some (r1, r2, r3)) :
  Calls Try.prog 89 #[.pointer (some ⟨g, 0, none⟩)] w fun e w' => ∃ v0_ : Value, e = .returned (.agg #[v0_]) ∧ Kd.S k66 66 w' w.heap.size (fun _ => True) v0_ r1 ∧ IsS134 w0 w' g s0_0 r2 r3 ∧ Below w0.heap.size w0 w' ∧ KeepBut w w' g none := by
 have hu60 := Try.underlying60
 have hu68 := Try.underlying68
 have HI0 := Aside0.mk hI
 have HK := ak (KeepBut.refl w g none)
 have HL := Aside0.mk hB.size
 clear hI
 have HW0 := Aside0.mk hB.size
 have HB := Aside0.mk hB
 clear hB
 have H := h
 clear h
 unfold spec_l07State.f at H
 obtain ⟨⟨t594, t595, t596⟩, A2, H⟩ := eb H
 try dsimp only at H
 have HS_ := Aside0.mk H
 clear H
 go_enter Try.func89, Try.ntmps89
 go_wp2_with (first | ((with_reducible refine gate_dst (N := 2) rfl ?_); refine bx 2 #[.slice none 0 0] 60 ?_; intro gb593 hg w111 hbox hb; replace HB := ak (below_step (lT HB gN) hb); replace BK593 := ak (hbox); replace GW593 := gW hg (kT HK gN); replace GE593 := gE HW0 GW593; replace HK := ak (KeepBut.trans (kT HK gN) (KeepBut.of_below hb g none) (.inl rfl)); replace NB0_593 := nS hg (IsS134.lt (IsS134.T_ HI0 nN)); replace NB593_0 := mS hg (IsS134.lt (IsS134.T_ HI0 nN)); replace HI0 := ak (IsS134.below (IsS134.T_ HI0 nN) hb); clear hb hbox hg) | ((with_reducible refine gate_callee (f := 69) rfl ?_); refine gl (some 8) Try.func69 #[.pointer (some ⟨g, 0, none⟩), .int .i64 8] ?_; (with_reducible refine (spec_l01Below.calls g s0_0 s0_1 s0_2 8 _ _ _ w0 _ ?side1 ?side2 A2.out).mono ?_); (case side1 => exact IsS134.T_ HI0 (nC NB0_593 nN)); (case side2 => exact lT HB (gC GE593 gN)); rintro e w112 ⟨rfl, hi, hb, hk⟩; refine ⟨_, rfl, ?_⟩; replace BK593 := kB hk (bG BK593) NB593_0; replace HK := ak (KeepBut.trans (kT HK (gC GW593 gN)) hk (.inl rfl)); replace HB := ak (hb); replace HI0 := ak (hi); (try clear hb); (try clear hk); (try clear hi); refine Stop.out ?_))
 have H := HS_.out
 clear HS_
 obtain ⟨⟨t597, t598, t599⟩, A3, H⟩ := eb H
 try dsimp only at H
 have HS_ := Aside0.mk H
 clear H
 refine ⟨?_⟩
 go_wp2_with ((with_reducible refine gate_callee (f := 69) rfl ?_); refine gl (some 10) Try.func69 #[.pointer (some ⟨g, 0, none⟩), .int .i64 60] ?_; (with_reducible refine (spec_l01Below.calls g s0_0 t595 t596 60 _ _ _ w0 _ ?side1 ?side2 A3.out).mono ?_); (case side1 => exact IsS134.T_ HI0 (nC NB0_593 nN)); (case side2 => exact lT HB (gC GE593 gN)); rintro e w113 ⟨rfl, hi, hb, hk⟩; refine ⟨_, rfl, ?_⟩; replace BK593 := kB hk (bG BK593) NB593_0; replace HK := ak (KeepBut.trans (kT HK (gC GW593 gN)) hk (.inl rfl)); replace HB := ak (hb); replace HI0 := ak (hi); (try clear hb); (try clear hk); (try clear hi); refine Stop.out ?_)
 have H := HS_.out
 clear HS_
 obtain ⟨⟨t600, t603, t604⟩, A4, H⟩ := eb H
 try dsimp only at H
 have HS_ := Aside0.mk H
 clear H
 refine ⟨?_⟩
 go_wp2_with ((with_reducible refine gate_callee (f := 72) rfl ?_); refine gl (some 12) Try.func72 #[.pointer (some ⟨g, 0, none⟩)] ?_; (with_reducible refine (spec_l07Items.calls k g s0_0 t598 t599 _ _ _ w0 _ ?side1 ?side2 A4.out).mono ?_); (case side1 => exact IsS134.T_ HI0 (nC NB0_593 nN)); (case side2 => exact lT HB (gC GE593 gN)); rintro e w114 ⟨v601, rfl, ho0, hi, hb, hk⟩; refine ⟨_, rfl, ?_⟩; replace BK593 := kB hk (bG BK593) NB593_0; replace HO602 := ak (Kd.R_lower ho0 (keep_size (w := w) (g := g) (row := none) (kT HK (gC GW593 gN)))); replace HK := ak (KeepBut.trans (kT HK (gC GW593 gN)) hk (.inl rfl)); replace HB := ak (hb); replace HI0 := ak (hi); (try clear hb); (try clear hk); (try clear hi); (try clear ho0); obtain ⟨Ao115, co115, eo115⟩ := Kd.R_slice HO602.out; subst eo115; refine Stop.out ?_)
 have H := HS_.out
 clear HS_
 obtain ⟨t605, A5, H⟩ := eb H
 try dsimp only at H
 have HS_ := Aside0.mk H
 clear H
 refine ⟨?_⟩
 go_wp2_with ((with_reducible refine gate_callee (f := 38) rfl ?_); refine gl (some 13) Try.func38 #[.slice Ao115 t600.length co115] ?_; (with_reducible refine (spec_StateOf.calls k _ _ t600 _ _ ?side1 ?side2 A5.out).mono ?_); (case side1 => exact cG (Kd.R_reads' HO602.out).2.2); (case side2 => exact (Kd.R_reads' HO602.out).2.1); rintro e w116 ⟨v606, rfl, ho0, hb⟩; refine ⟨_, rfl, ?_⟩; replace HO602 := rB HO602 hb; replace HO607 := ak (Kd.S_lower ho0 (keep_size (w := w) (g := g) (row := none) (kT HK (gC GW593 gN)))); replace BK593 := bB BK593 hb; replace HK := ak (KeepBut.trans (kT HK (gC GW593 gN)) (KeepBut.of_below hb g none) (.inl rfl)); replace HB := ak (below_step (lT HB (gC GE593 gN)) hb); replace HI0 := ak (IsS134.below (IsS134.T_ HI0 (nC NB0_593 nN)) hb); (try clear hb); (try clear hk); (try clear hi); (try clear ho0); refine Stop.out ?_)
 have H := HS_.out
 clear HS_
 by_cases c6 : (t605.length : Int) > 0
 {
 rw [if_pos c6] at H
 have c6b0 : decide (0 < (t605.length : Int)) = true := decide_eq_true c6
 have c6b1 : decide (0 < t605.length) = true := decide_eq_true (by omega)
 clear c6
 by_cases c7 : (t605.length : Int) = 0
 {rw [if_pos c7] at H;exact absurd H (by simp)}
 {
 rw [if_neg c7] at H
 have c7b0 := beq_eq_false_iff_ne.mpr c7
 have c7b1 := bne_iff_ne.mpr c7
 have c7b2 : ¬ (t605 = []) := fun h_ => c7 (by rw [h_]; rfl)
 by_cases c8 : t594 = 0
 {
 rw [if_pos c8] at H
 have c8b0 := beq_iff_eq.mpr c8
 have c8b1 := bne_eq_false_iff_eq.mpr c8
 clear c8
 obtain ⟨ji9, hji9⟩ : ∃ j_ : Int, (Int.tmod t597 (t605.length : Int)) = j_ := ⟨_, rfl⟩
 replace H : (if 0 ≤ (ji9) then (if (ji9) < (t605.length : Int) then (some ((t605.set ((ji9) : Int).toNat (⟨Int.tmod t597 5, (rd_T66 t605 (ji9)).f1, (rd_T66 t605 (ji9)).f2, (rd_T66 t605 (ji9)).f3, (rd_T66 t605 (ji9)).f4⟩ : S66)), t603, t604)) else (none)) else (none)) = some (r1, r2, r3) := by first | (rw [hji9] at H; exact H) | (simp only [hji9] at H ⊢; exact H)
 (try rw [hji9] at A2)
 (try rw [hji9] at A3)
 (try rw [hji9] at A4)
 (try rw [hji9] at A5)
 by_cases c10 : 0 ≤ (ji9)
 {
 rw [if_pos c10] at H
 have c10b0 := decide_eq_true c10
 clear c10
 by_cases c11 : (ji9) < (t605.length : Int)
 {
 rw [if_pos c11] at H
 have c11b0 := decide_eq_true c11
 clear c11
 obtain ⟨y609, hy609⟩ : ∃ y_ : List (S66), y_ = (t605.set ((ji9) : Int).toNat (⟨Int.tmod t597 5, (rd_T66 t605 (ji9)).f1, (rd_T66 t605 (ji9)).f2, (rd_T66 t605 (ji9)).f3, (rd_T66 t605 (ji9)).f4⟩ : S66)) := ⟨_, rfl⟩
 replace H : (some (y609, t603, t604)) = some (r1, r2, r3) := by first | (rw [hy609]; with_reducible exact H) | (have H2_ := (Option.bind_some _ _).symm.trans H; rw [hy609]; with_reducible exact H2_) | (have H2_ := (Option.bind_some _ _).symm.trans H; with_reducible exact H2_) | with_reducible exact H | (rw [hy609]; exact H) | exact H
 have Ny609 := Aside0.mk hy609
 clear hy609
 simp only [Option.some.injEq, Prod.mk.injEq] at H
 obtain ⟨rfl, rfl, rfl⟩ := H
 refine ⟨?_⟩
 go_wp2_with (first | ((with_reducible refine gate_dst (N := 5) rfl ?_); refine bx 5 #[.slice none 0 0] 60 ?_; intro gb608 hg w19 hbox hb; replace HO602 := rB HO602 hb; replace HO607 := sB HO607 hb; replace HB := ak (below_step (lT HB (gC GE593 gN)) hb); replace BK608 := ak (hbox); replace GW608 := gW hg (kT HK (gC GW593 gN)); replace GE608 := gE HW0 GW608; replace HK := ak (KeepBut.trans (kT HK (gC GW593 gN)) (KeepBut.of_below hb g none) (.inl rfl)); replace NB593_608 := ak (nl hg (bG BK593)); replace NB608_593 := ak (ng hg (bG BK593)); replace BK593 := bB BK593 hb; replace NB0_608 := nS hg (IsS134.lt (IsS134.T_ HI0 (nC NB0_593 nN))); replace NB608_0 := mS hg (IsS134.lt (IsS134.T_ HI0 (nC NB0_593 nN))); replace HI0 := ak (IsS134.below (IsS134.T_ HI0 (nC NB0_593 nN)) hb); clear hb hbox hg; obtain ⟨Ao20, co20, eo20⟩ := Kd.S_slice HO607.out; subst eo20; have hnb21 := NB608_593.out; have hnc21 := NB593_608.out; have hnb22 := NB608_0.out; have hnc22 := NB0_608.out; obtain ⟨_, _⟩ := bC1 BK608) | ((with_reducible refine gate_store (t := 60) (p := 5) rfl ?_); refine store_event (t := 60) (p := 5) (v := ?vo_w24) (w1 := (w19.setCell ⟨gb608, 0, none⟩ (.slice Ao20 t605.length co20))) ?hg ?ho ?hn ?hr ?_; (case ho => rfl); (case hg => rfl); (case hn => rfl); (case hr => first | (go_simp; done) | (go_simp; rfl)); intro w24 hw; have n0_ : Aside0 (Kd.R k32 32 w24 w.heap.size (fun _ => True) (.slice Ao115 t600.length co115) t600) := ⟨(by rw [hw]; exact (by exact Kd.R_mono (rT HO602 BK608 (by decide)) (fun _ hk => trivial)))⟩; have n1_ : Aside0 (Kd.S k66 66 w24 w.heap.size (fun _ => True) (.slice Ao20 t605.length co20) t605) := ⟨(by rw [hw]; exact (by (with_reducible repeat (first | apply Kd.S_alloc | apply Kd.S_drewN | apply Kd.S_drew)); exact Kd.S_mono (Kd.S_far (p := ⟨gb608, 0, none⟩) (Kd.S_types HO607.out BK608.out (by decide)) (fun _ hk => hk.2) (.slice Ao20 t605.length co20)) (fun _ hk => trivial)))⟩; have n2_ : Aside0 (w24.heap[gb593]? = some (.cells #[.slice none 0 0] 60 (0, 0))) := ⟨(by rw [hw]; exact (bT BK593 (nC NB593_608 nN)))⟩; have n3_ : Aside0 (w24.heap[gb608]? = some (.cells #[.slice Ao20 t605.length co20] 60 (0, 0))) := ⟨(by rw [hw]; exact (bW BK608))⟩; have n4_ : Aside0 (IsS134 w0 w24 g s0_0 t603 t604) := ⟨(by rw [hw]; exact (IsS134.T_ HI0 (nC NB0_593 (nC NB0_608 nN))))⟩; have n5_ : Aside0 (KeepBut w w24 g none) := ⟨(by rw [hw]; exact (kT HK (gC GW593 (gC GW608 gN))))⟩; have n6_ : Aside0 (Below w0.heap.size w0 w24) := ⟨(by rw [hw]; exact (lT HB (gC GE593 (gC GE608 gN))))⟩; clear hw; clear HO602; clear HO607; clear BK593; clear BK608; clear HI0; clear HK; clear HB; have HO602 := n0_; have HO607 := n1_; have BK593 := n2_; have BK608 := n3_; have HI0 := n4_; have HK := n5_; have HB := n6_; clear n0_ n1_ n2_ n3_ n4_ n5_ n6_; obtain ⟨_, _⟩ := bC1 BK608; have p12 : 0 ≤ ((ji9) : Int) := oda; have q12 : ((ji9) : Int) < ((t605.length : Int) : Int) := oda; obtain ⟨go12, co12, eo12, gb12, gl12, cl12, HG12⟩ := Kd.S_form HO607.out (by omega); (first | cases eo12 | (injection eo12 with ea_ en_ ec_; (first | subst ea_ | (injection ea_ with ea_; subst ea_)); subst ec_; clear en_)); have GB12 := Aside0.mk gb12; have GG12 := Aside0.mk HG12; clear gb12 gl12 HG12; obtain ⟨_, ce12, hcl12, hM12, hcc12, hfr12, _, _⟩ := Kd.S_elem HO607.out z66 ((ji9) : Int) p12 q12; obtain ⟨ve12_4, rfl, ge12_4⟩ := k66_openM hM12; have hx12_0 : w24.cell? ⟨go12, ((ji9) : Int).toNat * 5, none⟩ = some (.int .i64 ((rd_T66 t605 (ji9)).f0)) := hcc12 0 _ rfl; have hx12_1 : w24.cell? ⟨go12, ((ji9) : Int).toNat * 5 + 1, none⟩ = some (.string ((rd_T66 t605 (ji9)).f1)) := hcc12 1 _ rfl; have hx12_2 : w24.cell? ⟨go12, ((ji9) : Int).toNat * 5 + 2, none⟩ = some (.string ((rd_T66 t605 (ji9)).f2)) := hcc12 2 _ rfl; have hx12_3 : w24.cell? ⟨go12, ((ji9) : Int).toNat * 5 + 3, none⟩ = some (.int .i64 ((rd_T66 t605 (ji9)).f3)) := hcc12 3 _ rfl; have hx12_4 : w24.cell? ⟨go12, ((ji9) : Int).toNat * 5 + 4, none⟩ = some (ve12_4) := hcc12 4 _ rfl; have hf12_0 : w24.frozen? ⟨go12, ((ji9) : Int).toNat * 5, none⟩ = false := hfr12 0; have hf12_1 : w24.frozen? ⟨go12, ((ji9) : Int).toNat * 5 + 1, none⟩ = false := hfr12 1; have hf12_2 : w24.frozen? ⟨go12, ((ji9) : Int).toNat * 5 + 2, none⟩ = false := hfr12 2; have hf12_3 : w24.frozen? ⟨go12, ((ji9) : Int).toNat * 5 + 3, none⟩ = false := hfr12 3; have hf12_4 : w24.frozen? ⟨go12, ((ji9) : Int).toNat * 5 + 4, none⟩ = false := hfr12 4; clear hcl12 hcc12 hfr12 hM12; replace p12 := eq_true p12; replace q12 := eq_true q12; have HX26 := ak (show Kd.S k66 66 w24 w.heap.size (fun k_ => ((fun _ => True)) k_ ∧ ¬ ((fun _ => False)) k_) (.slice (some ⟨go12, 0, none⟩) t605.length co20) t605 from (by (with_reducible repeat (first | apply Kd.S_alloc | apply Kd.S_drewN | apply Kd.S_drew)); exact Kd.S_mono HO607.out (fun k_ hk => ⟨trivial, fun e_ => e_⟩))); obtain ⟨oki26, ce26, hcl26, hM26, hcc26, hfr26, hoki26, hH26⟩ := Kd.S_elem HX26.out z66 ((ji9) : Int) (oda) (by have h_ : ((ji9) : Int) < ((t605.length : Int) : Int) := oda; first | exact h_ | (have e_ := (Kd.S_reads' HO607.out).1; omega) | simpa using h_); obtain ⟨ve26_4, rfl, ge26_4⟩ := k66_openM hM26; have HP26 := Kd.S_seg hH26 (oda) (by have h_ : ((ji9) : Int) < ((t605.length : Int) : Int) := oda; first | exact h_ | (have e_ := (Kd.S_reads' HO607.out).1; omega) | simpa using h_) (seg := [.int .i64 (Int.tmod t597 5)]) (j := 0) (show 1 ≤ 5 from by decide) (x' := (⟨Int.tmod t597 5, (rd_T66 t605 (ji9)).f1, (rd_T66 t605 (ji9)).f2, (rd_T66 t605 (ji9)).f3, (rd_T66 t605 (ji9)).f4⟩ : S66)) (k66_mkM _ _ _ (⟨Int.tmod t597 5, (rd_T66 t605 (ji9)).f1, (rd_T66 t605 (ji9)).f2, (rd_T66 t605 (ji9)).f3, (rd_T66 t605 (ji9)).f4⟩ : S66) (Kd.R_mono ge26_4 (fun _ h_ => Or.inl h_))) (fun _ hk => hk) (fun k_ hk_ => hk_.elim); have hx26_0 := hcc26 0 _ rfl; (try simp only [show (k66).sz = 5 from rfl, Nat.mul_one, Nat.add_zero] at hx26_0); have hf26_0 := hfr26 0; (try simp only [show (k66).sz = 5 from rfl, Nat.mul_one, Nat.add_zero] at hf26_0); clear hcl26 hcc26 hfr26 hM26 hoki26 hH26) | ((with_reducible refine gate_store (t := 3) (p := 32) rfl ?_); refine store_event (t := 3) (p := 32) (v := ?vo_w27) (w1 := (w24.setCell ⟨go12, ((ji9) : Int).toNat * 5, none⟩ (.int .i64 (Int.tmod t597 5)))) ?hg ?ho ?hn ?hr ?_; (case ho => rfl); (case hg => rfl); (case hn => rfl); (case hr => first | (go_simp; done) | (go_simp; rfl)); intro w27 hw; have hg : w24.grownBy w27 (some go12) := (by rw [hw]; exact HP26.2); have hp_ : Kd.S k66 66 w27 w.heap.size (fun _ => True) (.slice (some ⟨go12, 0, none⟩) t605.length co20) y609 := (by rw [hw, Ny609.out]; exact HP26.1); clear HP26; replace HI0 := ak (IsS134.grown (IsS134.T_ HI0 (nC NB0_593 (nC NB0_608 nN))) hg (IsS134.own_neS HI0.out HO607.out (by decide))); replace BK593 := ak (blk_grown (g := gb593) (o := .cells #[.slice none 0 0] 60 (0, 0)) (bG BK593) hg (Kd.S_ne HO607.out BK593.out (by decide))); replace HO602 := ak (Kd.R_over' (v := (.slice (some ⟨go12, 0, none⟩) t605.length co20)) (rG HO602) (Kd.S_typed HO607.out) (by decide) hg); replace BK608 := ak (blk_grown (g := gb608) (o := .cells #[.slice (some ⟨go12, 0, none⟩) t605.length co20] 60 (0, 0)) (bG BK608) hg (Kd.S_ne HO607.out BK608.out (by decide))); replace HB := ak ((by rw [hw]; exact below_set (HB.out) (Nat.le_trans HL.out GB12.out) : Below w0.heap.size w0 w27)); replace HK := ak (KeepBut.trans (kT HK (gC GW593 (gC GW608 gN))) (KeepBut.of_grown hg g) (Kd.S_base2 HO607.out)); replace HO607 := ak (hp_); clear hg hw hp_; obtain ⟨_, _⟩ := bC1 BK608; have hnb29 := NB593_0.out; have hnc29 := NB0_593.out; obtain ⟨_, _⟩ := bC1 BK593))
 refine bodyPost_ret (results_cell_row rfl _ _ gb593 60 #[.slice (some ⟨go12, 0, none⟩) t605.length co20] (0, 0) _ rfl (bW BK593) Try.underlying60 rfl (by kernel_rfl)) rfl ?_
 exact ⟨_, by first | rfl | (simp [errW_none, errW_some] <;> rfl) | (simp only [← hji9]; first | rfl | (simp [errW_none, errW_some] <;> rfl)) | (simp [*, errW_none, errW_some] <;> rfl), by (with_reducible repeat (first | apply Kd.S_alloc | apply Kd.S_drewN | apply Kd.S_drew)); exact Kd.S_mono (Kd.S_far (p := ⟨gb593, 0, none⟩) (Kd.S_types HO607.out BK593.out (by decide)) (fun _ hk => hk.2) (.slice (some ⟨go12, 0, none⟩) t605.length co20)) (fun _ hk => trivial), IsS134.T_ HI0 (nC NB0_593 (nC NB0_608 nN)), lT HB (gC GE593 (gC GE608 gN)), kT HK (gC GW593 (gC GW608 gN))⟩
 }
 {rw [if_neg c11] at H;exact absurd H (by simp)}
 }
 {rw [if_neg c10] at H;exact absurd H (by simp)}
 }
 {
 rw [if_neg c8] at H
 have c8b0 := beq_eq_false_iff_ne.mpr c8
 have c8b1 := bne_iff_ne.mpr c8
 by_cases c31 : t594 = 1
 {
 rw [if_pos c31] at H
 have c31b0 := beq_iff_eq.mpr c31
 have c31b1 := bne_eq_false_iff_eq.mpr c31
 clear c31
 obtain ⟨ji32, hji32⟩ : ∃ j_ : Int, (Int.tmod t597 (t605.length : Int)) = j_ := ⟨_, rfl⟩
 replace H : (if 0 ≤ (ji32) then (if (ji32) < (t605.length : Int) then (some ((t605.set ((ji32) : Int).toNat (⟨(rd_T66 t605 (ji32)).f0, (rd_T66 t605 (ji32)).f1, (rd_T66 t605 (ji32)).f2, Int.tmod t597 4, (rd_T66 t605 (ji32)).f4⟩ : S66)), t603, t604)) else (none)) else (none)) = some (r1, r2, r3) := by first | (rw [hji32] at H; exact H) | (simp only [hji32] at H ⊢; exact H)
 (try rw [hji32] at A2)
 (try rw [hji32] at A3)
 (try rw [hji32] at A4)
 (try rw [hji32] at A5)
 by_cases c33 : 0 ≤ (ji32)
 {
 rw [if_pos c33] at H
 have c33b0 := decide_eq_true c33
 clear c33
 by_cases c34 : (ji32) < (t605.length : Int)
 {
 rw [if_pos c34] at H
 have c34b0 := decide_eq_true c34
 clear c34
 obtain ⟨y610, hy610⟩ : ∃ y_ : List (S66), y_ = (t605.set ((ji32) : Int).toNat (⟨(rd_T66 t605 (ji32)).f0, (rd_T66 t605 (ji32)).f1, (rd_T66 t605 (ji32)).f2, Int.tmod t597 4, (rd_T66 t605 (ji32)).f4⟩ : S66)) := ⟨_, rfl⟩
 replace H : (some (y610, t603, t604)) = some (r1, r2, r3) := by first | (rw [hy610]; with_reducible exact H) | (have H2_ := (Option.bind_some _ _).symm.trans H; rw [hy610]; with_reducible exact H2_) | (have H2_ := (Option.bind_some _ _).symm.trans H; with_reducible exact H2_) | with_reducible exact H | (rw [hy610]; exact H) | exact H
 have Ny610 := Aside0.mk hy610
 clear hy610
 simp only [Option.some.injEq, Prod.mk.injEq] at H
 obtain ⟨rfl, rfl, rfl⟩ := H
 refine ⟨?_⟩
 go_wp2_with (first | ((with_reducible refine gate_dst (N := 5) rfl ?_); refine bx 5 #[.slice none 0 0] 60 ?_; intro gb608 hg w42 hbox hb; replace HO602 := rB HO602 hb; replace HO607 := sB HO607 hb; replace HB := ak (below_step (lT HB (gC GE593 gN)) hb); replace BK608 := ak (hbox); replace GW608 := gW hg (kT HK (gC GW593 gN)); replace GE608 := gE HW0 GW608; replace HK := ak (KeepBut.trans (kT HK (gC GW593 gN)) (KeepBut.of_below hb g none) (.inl rfl)); replace NB593_608 := ak (nl hg (bG BK593)); replace NB608_593 := ak (ng hg (bG BK593)); replace BK593 := bB BK593 hb; replace NB0_608 := nS hg (IsS134.lt (IsS134.T_ HI0 (nC NB0_593 nN))); replace NB608_0 := mS hg (IsS134.lt (IsS134.T_ HI0 (nC NB0_593 nN))); replace HI0 := ak (IsS134.below (IsS134.T_ HI0 (nC NB0_593 nN)) hb); clear hb hbox hg; obtain ⟨Ao43, co43, eo43⟩ := Kd.S_slice HO607.out; subst eo43; have hnb44 := NB608_593.out; have hnc44 := NB593_608.out; have hnb45 := NB608_0.out; have hnc45 := NB0_608.out; obtain ⟨_, _⟩ := bC1 BK608) | ((with_reducible refine gate_store (t := 60) (p := 5) rfl ?_); refine store_event (t := 60) (p := 5) (v := ?vo_w47) (w1 := (w42.setCell ⟨gb608, 0, none⟩ (.slice Ao43 t605.length co43))) ?hg ?ho ?hn ?hr ?_; (case ho => rfl); (case hg => rfl); (case hn => rfl); (case hr => first | (go_simp; done) | (go_simp; rfl)); intro w47 hw; have n0_ : Aside0 (Kd.R k32 32 w47 w.heap.size (fun _ => True) (.slice Ao115 t600.length co115) t600) := ⟨(by rw [hw]; exact (by exact Kd.R_mono (rT HO602 BK608 (by decide)) (fun _ hk => trivial)))⟩; have n1_ : Aside0 (Kd.S k66 66 w47 w.heap.size (fun _ => True) (.slice Ao43 t605.length co43) t605) := ⟨(by rw [hw]; exact (by (with_reducible repeat (first | apply Kd.S_alloc | apply Kd.S_drewN | apply Kd.S_drew)); exact Kd.S_mono (Kd.S_far (p := ⟨gb608, 0, none⟩) (Kd.S_types HO607.out BK608.out (by decide)) (fun _ hk => hk.2) (.slice Ao43 t605.length co43)) (fun _ hk => trivial)))⟩; have n2_ : Aside0 (w47.heap[gb593]? = some (.cells #[.slice none 0 0] 60 (0, 0))) := ⟨(by rw [hw]; exact (bT BK593 (nC NB593_608 nN)))⟩; have n3_ : Aside0 (w47.heap[gb608]? = some (.cells #[.slice Ao43 t605.length co43] 60 (0, 0))) := ⟨(by rw [hw]; exact (bW BK608))⟩; have n4_ : Aside0 (IsS134 w0 w47 g s0_0 t603 t604) := ⟨(by rw [hw]; exact (IsS134.T_ HI0 (nC NB0_593 (nC NB0_608 nN))))⟩; have n5_ : Aside0 (KeepBut w w47 g none) := ⟨(by rw [hw]; exact (kT HK (gC GW593 (gC GW608 gN))))⟩; have n6_ : Aside0 (Below w0.heap.size w0 w47) := ⟨(by rw [hw]; exact (lT HB (gC GE593 (gC GE608 gN))))⟩; clear hw; clear HO602; clear HO607; clear BK593; clear BK608; clear HI0; clear HK; clear HB; have HO602 := n0_; have HO607 := n1_; have BK593 := n2_; have BK608 := n3_; have HI0 := n4_; have HK := n5_; have HB := n6_; clear n0_ n1_ n2_ n3_ n4_ n5_ n6_; obtain ⟨_, _⟩ := bC1 BK608; have p35 : 0 ≤ ((ji32) : Int) := oda; have q35 : ((ji32) : Int) < ((t605.length : Int) : Int) := oda; obtain ⟨go35, co35, eo35, gb35, gl35, cl35, HG35⟩ := Kd.S_form HO607.out (by omega); (first | cases eo35 | (injection eo35 with ea_ en_ ec_; (first | subst ea_ | (injection ea_ with ea_; subst ea_)); subst ec_; clear en_)); have GB35 := Aside0.mk gb35; have GG35 := Aside0.mk HG35; clear gb35 gl35 HG35; obtain ⟨_, ce35, hcl35, hM35, hcc35, hfr35, _, _⟩ := Kd.S_elem HO607.out z66 ((ji32) : Int) p35 q35; obtain ⟨ve35_4, rfl, ge35_4⟩ := k66_openM hM35; have hx35_0 : w47.cell? ⟨go35, ((ji32) : Int).toNat * 5, none⟩ = some (.int .i64 ((rd_T66 t605 (ji32)).f0)) := hcc35 0 _ rfl; have hx35_1 : w47.cell? ⟨go35, ((ji32) : Int).toNat * 5 + 1, none⟩ = some (.string ((rd_T66 t605 (ji32)).f1)) := hcc35 1 _ rfl; have hx35_2 : w47.cell? ⟨go35, ((ji32) : Int).toNat * 5 + 2, none⟩ = some (.string ((rd_T66 t605 (ji32)).f2)) := hcc35 2 _ rfl; have hx35_3 : w47.cell? ⟨go35, ((ji32) : Int).toNat * 5 + 3, none⟩ = some (.int .i64 ((rd_T66 t605 (ji32)).f3)) := hcc35 3 _ rfl; have hx35_4 : w47.cell? ⟨go35, ((ji32) : Int).toNat * 5 + 4, none⟩ = some (ve35_4) := hcc35 4 _ rfl; have hf35_0 : w47.frozen? ⟨go35, ((ji32) : Int).toNat * 5, none⟩ = false := hfr35 0; have hf35_1 : w47.frozen? ⟨go35, ((ji32) : Int).toNat * 5 + 1, none⟩ = false := hfr35 1; have hf35_2 : w47.frozen? ⟨go35, ((ji32) : Int).toNat * 5 + 2, none⟩ = false := hfr35 2; have hf35_3 : w47.frozen? ⟨go35, ((ji32) : Int).toNat * 5 + 3, none⟩ = false := hfr35 3; have hf35_4 : w47.frozen? ⟨go35, ((ji32) : Int).toNat * 5 + 4, none⟩ = false := hfr35 4; clear hcl35 hcc35 hfr35 hM35; replace p35 := eq_true p35; replace q35 := eq_true q35; have HX49 := ak (show Kd.S k66 66 w47 w.heap.size (fun k_ => ((fun _ => True)) k_ ∧ ¬ ((fun _ => False)) k_) (.slice (some ⟨go35, 0, none⟩) t605.length co43) t605 from (by (with_reducible repeat (first | apply Kd.S_alloc | apply Kd.S_drewN | apply Kd.S_drew)); exact Kd.S_mono HO607.out (fun k_ hk => ⟨trivial, fun e_ => e_⟩))); obtain ⟨oki49, ce49, hcl49, hM49, hcc49, hfr49, hoki49, hH49⟩ := Kd.S_elem HX49.out z66 ((ji32) : Int) (oda) (by have h_ : ((ji32) : Int) < ((t605.length : Int) : Int) := oda; first | exact h_ | (have e_ := (Kd.S_reads' HO607.out).1; omega) | simpa using h_); obtain ⟨ve49_4, rfl, ge49_4⟩ := k66_openM hM49; have HP49 := Kd.S_seg hH49 (oda) (by have h_ : ((ji32) : Int) < ((t605.length : Int) : Int) := oda; first | exact h_ | (have e_ := (Kd.S_reads' HO607.out).1; omega) | simpa using h_) (seg := [.int .i64 (Int.tmod t597 4)]) (j := 3) (show 4 ≤ 5 from by decide) (x' := (⟨(rd_T66 t605 (ji32)).f0, (rd_T66 t605 (ji32)).f1, (rd_T66 t605 (ji32)).f2, Int.tmod t597 4, (rd_T66 t605 (ji32)).f4⟩ : S66)) (k66_mkM _ _ _ (⟨(rd_T66 t605 (ji32)).f0, (rd_T66 t605 (ji32)).f1, (rd_T66 t605 (ji32)).f2, Int.tmod t597 4, (rd_T66 t605 (ji32)).f4⟩ : S66) (Kd.R_mono ge49_4 (fun _ h_ => Or.inl h_))) (fun _ hk => hk) (fun k_ hk_ => hk_.elim); have hx49_3 := hcc49 3 _ rfl; (try simp only [show (k66).sz = 5 from rfl, Nat.mul_one, Nat.add_zero] at hx49_3); have hf49_3 := hfr49 3; (try simp only [show (k66).sz = 5 from rfl, Nat.mul_one, Nat.add_zero] at hf49_3); clear hcl49 hcc49 hfr49 hM49 hoki49 hH49) | ((with_reducible refine gate_store (t := 3) (p := 41) rfl ?_); refine store_event (t := 3) (p := 41) (v := ?vo_w50) (w1 := (w47.setCell ⟨go35, ((ji32) : Int).toNat * 5 + 3, none⟩ (.int .i64 (Int.tmod t597 4)))) ?hg ?ho ?hn ?hr ?_; (case ho => rfl); (case hg => rfl); (case hn => rfl); (case hr => first | (go_simp; done) | (go_simp; rfl)); intro w50 hw; have hg : w47.grownBy w50 (some go35) := (by rw [hw]; exact HP49.2); have hp_ : Kd.S k66 66 w50 w.heap.size (fun _ => True) (.slice (some ⟨go35, 0, none⟩) t605.length co43) y610 := (by rw [hw, Ny610.out]; exact HP49.1); clear HP49; replace HI0 := ak (IsS134.grown (IsS134.T_ HI0 (nC NB0_593 (nC NB0_608 nN))) hg (IsS134.own_neS HI0.out HO607.out (by decide))); replace BK593 := ak (blk_grown (g := gb593) (o := .cells #[.slice none 0 0] 60 (0, 0)) (bG BK593) hg (Kd.S_ne HO607.out BK593.out (by decide))); replace HO602 := ak (Kd.R_over' (v := (.slice (some ⟨go35, 0, none⟩) t605.length co43)) (rG HO602) (Kd.S_typed HO607.out) (by decide) hg); replace BK608 := ak (blk_grown (g := gb608) (o := .cells #[.slice (some ⟨go35, 0, none⟩) t605.length co43] 60 (0, 0)) (bG BK608) hg (Kd.S_ne HO607.out BK608.out (by decide))); replace HB := ak ((by rw [hw]; exact below_set (HB.out) (Nat.le_trans HL.out GB35.out) : Below w0.heap.size w0 w50)); replace HK := ak (KeepBut.trans (kT HK (gC GW593 (gC GW608 gN))) (KeepBut.of_grown hg g) (Kd.S_base2 HO607.out)); replace HO607 := ak (hp_); clear hg hw hp_; obtain ⟨_, _⟩ := bC1 BK608; have hnb52 := NB593_0.out; have hnc52 := NB0_593.out; obtain ⟨_, _⟩ := bC1 BK593))
 refine bodyPost_ret (results_cell_row rfl _ _ gb593 60 #[.slice (some ⟨go35, 0, none⟩) t605.length co43] (0, 0) _ rfl (bW BK593) Try.underlying60 rfl (by kernel_rfl)) rfl ?_
 exact ⟨_, by first | rfl | (simp [errW_none, errW_some] <;> rfl) | (simp only [← hji32]; first | rfl | (simp [errW_none, errW_some] <;> rfl)) | (simp [*, errW_none, errW_some] <;> rfl), by (with_reducible repeat (first | apply Kd.S_alloc | apply Kd.S_drewN | apply Kd.S_drew)); exact Kd.S_mono (Kd.S_far (p := ⟨gb593, 0, none⟩) (Kd.S_types HO607.out BK593.out (by decide)) (fun _ hk => hk.2) (.slice (some ⟨go35, 0, none⟩) t605.length co43)) (fun _ hk => trivial), IsS134.T_ HI0 (nC NB0_593 (nC NB0_608 nN)), lT HB (gC GE593 (gC GE608 gN)), kT HK (gC GW593 (gC GW608 gN))⟩
 }
 {rw [if_neg c34] at H;exact absurd H (by simp)}
 }
 {rw [if_neg c33] at H;exact absurd H (by simp)}
 }
 {
 rw [if_neg c31] at H
 have c31b0 := beq_eq_false_iff_ne.mpr c31
 have c31b1 := bne_iff_ne.mpr c31
 by_cases c54 : t594 = 2
 {
 rw [if_pos c54] at H
 have c54b0 := beq_iff_eq.mpr c54
 have c54b1 := bne_eq_false_iff_eq.mpr c54
 clear c54
 obtain ⟨y611, hy611⟩ : ∃ y_ : List ByteArray, y_ = (([(⟨#[]⟩ : ByteArray), (⟨#[97, 110, 110]⟩ : ByteArray)] : List ByteArray)) := ⟨_, rfl⟩
 replace H : (if 0 ≤ (Int.tmod t597 2) then (if (Int.tmod t597 2) < (y611.length : Int) then (if 0 ≤ (Int.tmod t597 (t605.length : Int)) then (if (Int.tmod t597 (t605.length : Int)) < (t605.length : Int) then (some ((t605.set ((Int.tmod t597 (t605.length : Int)) : Int).toNat (⟨(rd_T66 t605 (Int.tmod t597 (t605.length : Int))).f0, rdOf ByteArray.empty y611 (Int.tmod t597 2), (rd_T66 t605 (Int.tmod t597 (t605.length : Int))).f2, (rd_T66 t605 (Int.tmod t597 (t605.length : Int))).f3, (rd_T66 t605 (Int.tmod t597 (t605.length : Int))).f4⟩ : S66)), t603, t604)) else (none)) else (none)) else (none)) else (none)) = some (r1, r2, r3) := by first | (rw [hy611]; with_reducible exact H) | (have H2_ := (Option.bind_some _ _).symm.trans H; rw [hy611]; with_reducible exact H2_) | (have H2_ := (Option.bind_some _ _).symm.trans H; with_reducible exact H2_) | with_reducible exact H | (rw [hy611]; exact H) | exact H
 have Ny611 := Aside0.mk hy611
 clear hy611
 obtain ⟨ji55, hji55⟩ : ∃ j_ : Int, (Int.tmod t597 2) = j_ := ⟨_, rfl⟩
 replace H : (if 0 ≤ (ji55) then (if (ji55) < (y611.length : Int) then (if 0 ≤ (Int.tmod t597 (t605.length : Int)) then (if (Int.tmod t597 (t605.length : Int)) < (t605.length : Int) then (some ((t605.set ((Int.tmod t597 (t605.length : Int)) : Int).toNat (⟨(rd_T66 t605 (Int.tmod t597 (t605.length : Int))).f0, rdOf ByteArray.empty y611 (ji55), (rd_T66 t605 (Int.tmod t597 (t605.length : Int))).f2, (rd_T66 t605 (Int.tmod t597 (t605.length : Int))).f3, (rd_T66 t605 (Int.tmod t597 (t605.length : Int))).f4⟩ : S66)), t603, t604)) else (none)) else (none)) else (none)) else (none)) = some (r1, r2, r3) := by first | (rw [hji55] at H; exact H) | (simp only [hji55] at H ⊢; exact H)
 (try rw [hji55] at A2)
 (try rw [hji55] at A3)
 (try rw [hji55] at A4)
 (try rw [hji55] at A5)
 by_cases c56 : 0 ≤ (ji55)
 {
 rw [if_pos c56] at H
 have c56b0 := decide_eq_true c56
 clear c56
 by_cases c57 : (ji55) < (y611.length : Int)
 {
 rw [if_pos c57] at H
 have c57b0 := decide_eq_true c57
 clear c57
 obtain ⟨ji58, hji58⟩ : ∃ j_ : Int, (Int.tmod t597 (t605.length : Int)) = j_ := ⟨_, rfl⟩
 replace H : (if 0 ≤ (ji58) then (if (ji58) < (t605.length : Int) then (some ((t605.set ((ji58) : Int).toNat (⟨(rd_T66 t605 (ji58)).f0, rdOf ByteArray.empty y611 (ji55), (rd_T66 t605 (ji58)).f2, (rd_T66 t605 (ji58)).f3, (rd_T66 t605 (ji58)).f4⟩ : S66)), t603, t604)) else (none)) else (none)) = some (r1, r2, r3) := by first | (rw [hji58] at H; exact H) | (simp only [hji58] at H ⊢; exact H)
 (try rw [hji58] at A2)
 (try rw [hji58] at A3)
 (try rw [hji58] at A4)
 (try rw [hji58] at A5)
 by_cases c59 : 0 ≤ (ji58)
 {
 rw [if_pos c59] at H
 have c59b0 := decide_eq_true c59
 clear c59
 by_cases c60 : (ji58) < (t605.length : Int)
 {
 rw [if_pos c60] at H
 have c60b0 := decide_eq_true c60
 clear c60
 obtain ⟨y615, hy615⟩ : ∃ y_ : List (S66), y_ = (t605.set ((ji58) : Int).toNat (⟨(rd_T66 t605 (ji58)).f0, rdOf ByteArray.empty y611 (ji55), (rd_T66 t605 (ji58)).f2, (rd_T66 t605 (ji58)).f3, (rd_T66 t605 (ji58)).f4⟩ : S66)) := ⟨_, rfl⟩
 replace H : (some (y615, t603, t604)) = some (r1, r2, r3) := by first | (rw [hy615]; with_reducible exact H) | (have H2_ := (Option.bind_some _ _).symm.trans H; rw [hy615]; with_reducible exact H2_) | (have H2_ := (Option.bind_some _ _).symm.trans H; with_reducible exact H2_) | with_reducible exact H | (rw [hy615]; exact H) | exact H
 have Ny615 := Aside0.mk hy615
 clear hy615
 simp only [Option.some.injEq, Prod.mk.injEq] at H
 obtain ⟨rfl, rfl, rfl⟩ := H
 refine ⟨?_⟩
 try go_wp2_with ((with_reducible refine gate_dst (N := 5) rfl ?_); refine bx 5 #[.slice none 0 0] 60 ?_; intro gb608 hg w68 hbox hb; replace HO602 := rB HO602 hb; replace HO607 := sB HO607 hb; replace HB := ak (below_step (lT HB (gC GE593 gN)) hb); replace BK608 := ak (hbox); replace GW608 := gW hg (kT HK (gC GW593 gN)); replace GE608 := gE HW0 GW608; replace HK := ak (KeepBut.trans (kT HK (gC GW593 gN)) (KeepBut.of_below hb g none) (.inl rfl)); replace NB593_608 := ak (nl hg (bG BK593)); replace NB608_593 := ak (ng hg (bG BK593)); replace BK593 := bB BK593 hb; replace NB0_608 := nS hg (IsS134.lt (IsS134.T_ HI0 (nC NB0_593 nN))); replace NB608_0 := mS hg (IsS134.lt (IsS134.T_ HI0 (nC NB0_593 nN))); replace HI0 := ak (IsS134.below (IsS134.T_ HI0 (nC NB0_593 nN)) hb); clear hb hbox hg; obtain ⟨Ao69, co69, eo69⟩ := Kd.S_slice HO607.out; subst eo69; have hnb70 := NB608_593.out; have hnc70 := NB593_608.out; have hnb71 := NB608_0.out; have hnc71 := NB0_608.out; obtain ⟨_, _⟩ := bC1 BK608)
 have pi614 : (0 ≤ ((ji55) : Int)) = True := eq_true (oda)
 have qi614 : ((ji55) < (y611.length : Int)) = True := eq_true (oda)
 obtain ⟨w73, eW_⟩ : ∃ w_, w_ = (w68.setCell ⟨gb608, 0, none⟩ (.slice Ao69 t605.length co69)) := ⟨_, rfl⟩
 have n0_ : Aside0 (Kd.R k32 32 w73 w.heap.size (fun _ => True) (.slice Ao115 t600.length co115) t600) := by rw [eW_]; exact ⟨by exact Kd.R_mono (rT HO602 BK608 (by decide)) (fun _ hk => trivial)⟩
 have n1_ : Aside0 (Kd.S k66 66 w73 w.heap.size (fun _ => True) (.slice Ao69 t605.length co69) t605) := by rw [eW_]; exact ⟨by (with_reducible repeat (first | apply Kd.S_alloc | apply Kd.S_drewN | apply Kd.S_drew)); exact Kd.S_mono (Kd.S_far (p := ⟨gb608, 0, none⟩) (Kd.S_types HO607.out BK608.out (by decide)) (fun _ hk => hk.2) (.slice Ao69 t605.length co69)) (fun _ hk => trivial)⟩
 have n2_ : Aside0 (w73.heap[gb593]? = some (.cells #[.slice none 0 0] 60 (0, 0))) := by rw [eW_]; exact ⟨bF BK593 (nC NB593_608 nN)⟩
 have n3_ : Aside0 (w73.heap[gb608]? = some (.cells #[.slice Ao69 t605.length co69] 60 (0, 0))) := by rw [eW_]; exact ⟨bW BK608⟩
 have n4_ : Aside0 (IsS134 w0 w73 g s0_0 t603 t604) := by rw [eW_]; exact ⟨IsS134.T_ HI0 (nC NB0_593 (nC NB0_608 nN))⟩
 have n5_ : Aside0 (KeepBut w w73 g none) := by rw [eW_]; exact ⟨kT HK (gC GW593 (gC GW608 gN))⟩
 have n6_ : Aside0 (Below w0.heap.size w0 w73) := by rw [eW_]; exact ⟨lT HB (gC GE593 (gC GE608 gN))⟩
 try clear HO602 HO607 BK593 BK608 HI0 HK HB
 rw [← eW_];clear eW_
 have HO602 := n0_
 have HO607 := n1_
 have BK593 := n2_
 have BK608 := n3_
 have HI0 := n4_
 have HK := n5_
 have HB := n6_
 clear n0_ n1_ n2_ n3_ n4_ n5_ n6_
 replace HO602 := ak (Kd.R_drew HO602.out)
 replace HO607 := ak (Kd.S_drew HO607.out)
 replace BK593 := ak (blk_drew BK593.out)
 replace BK608 := ak (blk_drew BK608.out)
 replace HI0 := ak (IsS134.drew HI0.out)
 replace HK := ak (keep_drew HK.out)
 replace HB := ak (below_drew1 HB.out)
 refine start_ (n := 11) (S := fun w' => w'.cell? ⟨gb608, 0, none⟩ = some (.slice Ao69 t605.length co69)) (ds := [10]) (fb 11 0) (by kernel_rfl) rfl rfl (bc BK608 0) (fun hHeld => ?_); refine with_tabW spec_l07State.tab12 spec_l07State.bits12 (fun HT_ HW_ => ?_)
 generalize w73.drew = w74 at HO602 HO607 BK593 BK608 HI0 HK HB hHeld ⊢
 refine pu 0 44 (fb 11 1) HT_ ?_
 refine pu 2 46 (fb 11 5) HT_ ?_
 refine pu 4 48 (fb 11 21) HT_ ?_
 refine pu 5 49 (fb 11 53) HT_ ?_
 refine take_ (i := 1) (N := some 45) (v := ?_) (a' := ?_) #[t_,t_,t_,f_,t_,t_,f_,f_,f_,f_,f_] rfl rfl (take_ofW HT_.out HW_.out (by kernel_rfl)) (fun _ _ _ h => h) (Or.inl ⟨by rfl, ?_⟩) hHeld ?_ ?_
 rotate_left
 {
 intro w' s0
 go_simp
 with_reducible rfl
 }
 rotate_left
 {
 simp only [Act.put, List.setIfInBounds_toArray, List.set_cons_zero, List.set_cons_succ, i64_w, i32_w]
 rfl
 }
 refine on 3 (some 47) (fb 11 63) HT_ (fun K hK => ?_)
 refine Kd.R_lit_step Kd.string _ 9 ?hg (N := 47) ?hd (xs := ([(⟨#[]⟩ : ByteArray), (⟨#[97, 110, 110]⟩ : ByteArray)] : List ByteArray)) (inner := [.string (⟨#[]⟩ : ByteArray), .string (⟨#[97, 110, 110]⟩ : ByteArray)]) (ok := fun _ => True) (okp := fun _ => True) ?hr ?hp (fun _ hk => hk) trivial (Below.refl _ _) (Nat.le_refl _) (by simp) ?_; (case hd => rfl); (case hg => rfl); (case hr => first | (go_simp; done) | (go_simp; rfl)); (case hp => exact hpR)
 intro v612 w75 ho76 hb hg_ hnew_
 clear hg_ hnew_
 (first | rw [← Ny611.out] at ho76 | (simp only [Int.reduceToNat] at ho76; rw [← Ny611.out] at ho76))
 replace HO602 := rB HO602 hb
 replace HO607 := sB HO607 hb
 replace HO613 := ak (Kd.R_lower ho76 (keep_size (w := w) (g := g) (row := none) (kT HK (gC GW593 (gC GW608 gN)))))
 replace BK593 := bB BK593 hb
 replace BK608 := bB BK608 hb
 replace HK := ak (KeepBut.trans (kT HK (gC GW593 (gC GW608 gN))) (KeepBut.of_below hb g none) (.inl rfl))
 replace HB := ak (below_step (lT HB (gC GE593 (gC GE608 gN))) hb)
 replace HI0 := ak (IsS134.below (IsS134.T_ HI0 (nC NB0_593 (nC NB0_608 nN))) hb)
 clear hb ho76
 obtain ⟨Ao77, co77, eo77⟩ := Kd.R_slice HO613.out
 subst eo77
 obtain ⟨ado77, fo77, _⟩ := Kd.at_string (Kd.R_reads' HO613.out).2.2 0 (by decide) (by rw [Ny611.out]; simp)
 cases fo77
 have p61 : 0 ≤ ((ji58) : Int) := oda
 have q61 : ((ji58) : Int) < ((t605.length : Int) : Int) := oda
 obtain ⟨go61, co61, eo61, gb61, gl61, cl61, HG61⟩ := Kd.S_form HO607.out (by omega)
 (first | cases eo61 | (injection eo61 with ea_ en_ ec_; (first | subst ea_ | (injection ea_ with ea_; subst ea_)); subst ec_; clear en_))
 have GB61 := Aside0.mk gb61
 have GG61 := Aside0.mk HG61
 clear gb61 gl61 HG61
 obtain ⟨_, ce61, hcl61, hM61, hcc61, hfr61, _, _⟩ := Kd.S_elem HO607.out z66 ((ji58) : Int) p61 q61
 obtain ⟨ve61_4, rfl, ge61_4⟩ := k66_openM hM61
 have hx61_0 : World.cell? _ ⟨go61, ((ji58) : Int).toNat * 5, none⟩ = some (.int .i64 ((rd_T66 t605 (ji58)).f0)) := hcc61 0 _ rfl
 have hx61_1 : World.cell? _ ⟨go61, ((ji58) : Int).toNat * 5 + 1, none⟩ = some (.string ((rd_T66 t605 (ji58)).f1)) := hcc61 1 _ rfl
 have hx61_2 : World.cell? _ ⟨go61, ((ji58) : Int).toNat * 5 + 2, none⟩ = some (.string ((rd_T66 t605 (ji58)).f2)) := hcc61 2 _ rfl
 have hx61_3 : World.cell? _ ⟨go61, ((ji58) : Int).toNat * 5 + 3, none⟩ = some (.int .i64 ((rd_T66 t605 (ji58)).f3)) := hcc61 3 _ rfl
 have hx61_4 : World.cell? _ ⟨go61, ((ji58) : Int).toNat * 5 + 4, none⟩ = some (ve61_4) := hcc61 4 _ rfl
 have hf61_0 : World.frozen? _ ⟨go61, ((ji58) : Int).toNat * 5, none⟩ = false := hfr61 0
 have hf61_1 : World.frozen? _ ⟨go61, ((ji58) : Int).toNat * 5 + 1, none⟩ = false := hfr61 1
 have hf61_2 : World.frozen? _ ⟨go61, ((ji58) : Int).toNat * 5 + 2, none⟩ = false := hfr61 2
 have hf61_3 : World.frozen? _ ⟨go61, ((ji58) : Int).toNat * 5 + 3, none⟩ = false := hfr61 3
 have hf61_4 : World.frozen? _ ⟨go61, ((ji58) : Int).toNat * 5 + 4, none⟩ = false := hfr61 4
 clear hcl61 hcc61 hfr61 hM61
 replace p61 := eq_true p61
 replace q61 := eq_true q61
 have HN0_go61 := ak (show g ≠ go61 from by have h_ := IsS134.own_neS HI0.out HO607.out (by decide); intro e_; exact h_ (by rw [e_]; rfl))
 have HX78 := ak (show Kd.S k66 66 _ w.heap.size (fun k_ => ((fun _ => True)) k_ ∧ ¬ (fun _ => False) k_) (.slice (some ⟨go61, 0, none⟩) t605.length co69) t605 from (by exact Kd.S_mono HO607.out (fun k_ hk => ⟨trivial, fun e_ => e_⟩)))
 obtain ⟨oki78, ce78, hcl78, hM78, hcc78, hfr78, hoki78, hH78⟩ := Kd.S_elem HX78.out z66 ((ji58) : Int) (oda) (by have h_ : ((ji58) : Int) < ((t605.length : Int) : Int) := oda; first | exact h_ | (have e_ := (Kd.S_reads' HO607.out).1; omega) | simpa using h_)
 obtain ⟨ve78_4, rfl, ge78_4⟩ := k66_openM hM78
 have HP78 := (Kd.S_seg hH78 (oda) (by have h_ : ((ji58) : Int) < ((t605.length : Int) : Int) := oda; first | exact h_ | (have e_ := (Kd.S_reads' HO607.out).1; omega) | simpa using h_) (seg := [.string (rdOf ByteArray.empty y611 (ji55))]) (j := 1) (show 2 ≤ 5 from by decide) (x' := (⟨(rd_T66 t605 (ji58)).f0, rdOf ByteArray.empty y611 (ji55), (rd_T66 t605 (ji58)).f2, (rd_T66 t605 (ji58)).f3, (rd_T66 t605 (ji58)).f4⟩ : S66)) (k66_mkM _ _ _ (⟨(rd_T66 t605 (ji58)).f0, rdOf ByteArray.empty y611 (ji55), (rd_T66 t605 (ji58)).f2, (rd_T66 t605 (ji58)).f3, (rd_T66 t605 (ji58)).f4⟩ : S66) ge78_4) (fun _ hk => Or.inl hk) (fun _ hk => hk.elim)).1
 rw [← Ny615.out] at HP78
 have HQ78 := Aside0.mk HP78
 clear hcl78 hcc78 hfr78 hM78 HP78
 refine hK.out _ _ (bc BK608 0) (fun hHeld => ?_)
 clear hK K
 refine nm ?_
 refine pu 6 50 (fb 11 127) HT_ ?_
 refine on 7 (some 51) (fb 11 255) HT_ (fun K hK => ?_)
 (have p614 : 0 ≤ ((ji55) : Int) := oda; have q614 : (ji55) < (y611.length : Int) := oda; obtain ⟨ad614, e614, hx614_0⟩ := Kd.at_string (Kd.R_reads' HO613.out).2.2 (ji55) p614 q614; obtain rfl : ado77 = ad614 := (by injection e614))
 refine value_ (w1 := ?_) (v := ?_) (by rfl) rfl ?_ ?_
 rotate_left 2
 {
 go_simp
 constructor
 {
 rfl
 }
 {
 rfl
 }
 }
 clear hx614_0
 refine hK.out _ _ (bc BK608 0) (fun hHeld => ?_)
 clear hK K
 refine nm ?_
 refine pu 8 52 (fb 11 511) HT_ ?_
 refine pu 9 53 (fb 11 1023) HT_ ?_
 refine last_ (i := 10) (N := none) #[t_,t_,t_,t_,t_,t_,t_,t_,t_,t_,t_] rfl rfl (one_of HT_.out (by kernel_rfl)) (by decide) (fun K hK => ?_)
 refine skip_ (w1 := ?_) (by rfl) rfl ?_ ?_
 rotate_left
 {
 go_simp
 rfl
 }
 refine hK.out _ _ ?_
 clear hK K
 refine done_ (done_of HT_.out (by kernel_rfl)) ?_
 obtain ⟨w79, eW_⟩ : ∃ w_, w_ = (w75.setCell ⟨go61, ((ji58) : Int).toNat * 5 + 1, none⟩ (.string (rdOf ByteArray.empty y611 (ji55)))) := ⟨_, rfl⟩
 have n0_ : Aside0 (Kd.R k32 32 w79 w.heap.size (fun _ => True) (.slice Ao115 t600.length co115) t600) := by rw [eW_]; exact ⟨by (with_reducible repeat (first | apply Kd.R_alloc | apply Kd.R_drewN | apply Kd.R_drew)); exact Kd.R_mono (Kd.R_far (p := ⟨go61, ((ji58) : Int).toNat * 5 + 1, none⟩) (Kd.R_types HO602.out GG61.out (by decide)) (fun _ hk => hk.2) (.string (rdOf ByteArray.empty y611 (ji55)))) (fun _ hk => trivial)⟩
 have n1_ : Aside0 (Kd.S k66 66 w79 w.heap.size (fun _ => True) (.slice (some ⟨go61, 0, none⟩) t605.length co69) y615) := by rw [eW_]; exact ⟨by exact HQ78.out⟩
 have n2_ : Aside0 (Kd.R Kd.string 9 w79 w.heap.size (fun _ => True) (.slice (some ado77) y611.length co77) y611) := by rw [eW_]; exact ⟨by (with_reducible repeat (first | apply Kd.R_alloc | apply Kd.R_drewN | apply Kd.R_drew)); exact Kd.R_mono (Kd.R_far (p := ⟨go61, ((ji58) : Int).toNat * 5 + 1, none⟩) (Kd.R_types HO613.out GG61.out (by decide)) (fun _ hk => hk.2) (.string (rdOf ByteArray.empty y611 (ji55)))) (fun _ hk => trivial)⟩
 have n3_ : Aside0 (w79.heap[gb593]? = some (.cells #[.slice none 0 0] 60 (0, 0))) := by rw [eW_]; exact ⟨by (with_reducible repeat (first | refine blk_drewN ?_ _ | refine blk_drew ?_ | refine blk_alloc ?_ _)); refine blk_far ?_ (by have h_ := Kd.S_ne HO607.out BK593.out (by decide); intro e_; exact h_ (by rw [e_]; rfl)) _; (with_reducible repeat (first | refine blk_drewN ?_ _ | refine blk_drew ?_ | refine blk_alloc ?_ _)); exact BK593.out⟩
 have n4_ : Aside0 (w79.heap[gb608]? = some (.cells #[.slice (some ⟨go61, 0, none⟩) t605.length co69] 60 (0, 0))) := by rw [eW_]; exact ⟨by (with_reducible repeat (first | refine blk_drewN ?_ _ | refine blk_drew ?_ | refine blk_alloc ?_ _)); refine blk_far ?_ (by have h_ := Kd.S_ne HO607.out BK608.out (by decide); intro e_; exact h_ (by rw [e_]; rfl)) _; (with_reducible repeat (first | refine blk_drewN ?_ _ | refine blk_drew ?_ | refine blk_alloc ?_ _)); exact BK608.out⟩
 have n5_ : Aside0 (IsS134 w0 w79 g s0_0 t603 t604) := by rw [eW_]; exact ⟨by repeat (first | (with_reducible first | exact HI0.out | apply IsS134.alloc | apply IsS134.drewN | apply IsS134.drew | apply IsS134.set_1 | apply IsS134.set_2 | refine IsS134.far ?_ HN0_go61.out _ | refine IsS134.far ?_ NB0_593.out _ | refine IsS134.far ?_ NB0_608.out _) | exact HI0.out)⟩
 have n6_ : Aside0 (KeepBut w w79 g none) := by rw [eW_]; exact ⟨by repeat (first | (with_reducible first | exact HK.out | apply KeepBut.set_ | apply keep_drewN | apply keep_drew | apply keep_alloc | refine keep_far ?_ GB61.out _ | refine keep_far ?_ GW593.out _ | refine keep_far ?_ GW608.out _) | exact HK.out)⟩
 have n7_ : Aside0 (Below w0.heap.size w0 w79) := by rw [eW_]; exact ⟨by repeat (first | (with_reducible first | exact HB.out | apply below_alloc | apply pw_below_drewN | apply below_drew1 | refine below_set ?_ (Nat.le_trans HL.out GB61.out) | refine below_set ?_ (IsS134.ge HI0.out) | refine below_set ?_ GE593.out | refine below_set ?_ GE608.out) | exact HB.out)⟩
 try clear HO602 HO607 HO613 BK593 BK608 HI0 HK HB
 rw [← eW_];clear eW_
 have HO602 := n0_
 have HO607 := n1_
 have HO613 := n2_
 have BK593 := n3_
 have BK608 := n4_
 have HI0 := n5_
 have HK := n6_
 have HB := n7_
 clear n0_ n1_ n2_ n3_ n4_ n5_ n6_ n7_
 obtain ⟨_, _⟩ := bC1 BK608
 have hnb81 := NB593_0.out
 have hnc81 := NB0_593.out
 obtain ⟨_, _⟩ := bC1 BK593
 try go_wp2
 refine bodyPost_ret (results_cell_row rfl _ _ gb593 60 #[.slice (some ⟨go61, 0, none⟩) t605.length co69] (0, 0) _ rfl (bW BK593) Try.underlying60 rfl (by kernel_rfl)) rfl ?_
 exact ⟨_, by first | rfl | (simp [errW_none, errW_some] <;> rfl) | (simp only [← hji55, ← hji58]; first | rfl | (simp [errW_none, errW_some] <;> rfl)) | (simp [*, errW_none, errW_some] <;> rfl), by (with_reducible repeat (first | apply Kd.S_alloc | apply Kd.S_drewN | apply Kd.S_drew)); exact Kd.S_mono (Kd.S_far (p := ⟨gb593, 0, none⟩) (Kd.S_types HO607.out BK593.out (by decide)) (fun _ hk => hk.2) (.slice (some ⟨go61, 0, none⟩) t605.length co69)) (fun _ hk => trivial), IsS134.T_ HI0 (nC NB0_593 (nC NB0_608 nN)), lT HB (gC GE593 (gC GE608 gN)), kT HK (gC GW593 (gC GW608 gN))⟩
 }
 {rw [if_neg c60] at H;exact absurd H (by simp)}
 }
 {rw [if_neg c59] at H;exact absurd H (by simp)}
 }
 {rw [if_neg c57] at H;exact absurd H (by simp)}
 }
 {rw [if_neg c56] at H;exact absurd H (by simp)}
 }
 {
 rw [if_neg c54] at H
 have c54b0 := beq_eq_false_iff_ne.mpr c54
 have c54b1 := bne_iff_ne.mpr c54
 by_cases c83 : t594 = 3
 {
 rw [if_pos c83] at H
 have c83b0 := beq_iff_eq.mpr c83
 have c83b1 := bne_eq_false_iff_eq.mpr c83
 clear c83
 obtain ⟨ji84, hji84⟩ : ∃ j_ : Int, (Int.tmod t597 (t605.length : Int)) = j_ := ⟨_, rfl⟩
 replace H : (if 0 ≤ (ji84) then (if (ji84) < (t605.length : Int) then (if ((rd_T66 t605 (ji84)).f4).length < 4398046511104 then (some ((t605.set ((ji84) : Int).toNat (⟨(rd_T66 t605 (ji84)).f0, (rd_T66 t605 (ji84)).f1, (rd_T66 t605 (ji84)).f2, (rd_T66 t605 (ji84)).f3, (((rd_T66 t605 (ji84)).f4) ++ [(⟨Int.tmod t597 7, Int.tmod t597 9, (⟨#[]⟩ : ByteArray)⟩ : S68)])⟩ : S66)), t603, t604)) else (none)) else (none)) else (none)) = some (r1, r2, r3) := by first | (rw [hji84] at H; exact H) | (simp only [hji84] at H ⊢; exact H)
 (try rw [hji84] at A2)
 (try rw [hji84] at A3)
 (try rw [hji84] at A4)
 (try rw [hji84] at A5)
 by_cases c85 : 0 ≤ (ji84)
 {
 rw [if_pos c85] at H
 have c85b0 := decide_eq_true c85
 clear c85
 by_cases c86 : (ji84) < (t605.length : Int)
 {
 rw [if_pos c86] at H
 have c86b0 := decide_eq_true c86
 clear c86
 by_cases c87 : ((rd_T66 t605 (ji84)).f4).length < 4398046511104
 {
 rw [if_pos c87] at H
 have LMc87 := Aside0.mk c87
 clear c87
 obtain ⟨y617, hy617⟩ : ∃ y_ : List (S68), y_ = (((rd_T66 t605 (ji84)).f4) ++ [(⟨Int.tmod t597 7, Int.tmod t597 9, (⟨#[]⟩ : ByteArray)⟩ : S68)]) := ⟨_, rfl⟩
 replace H : (some ((t605.set ((ji84) : Int).toNat (⟨(rd_T66 t605 (ji84)).f0, (rd_T66 t605 (ji84)).f1, (rd_T66 t605 (ji84)).f2, (rd_T66 t605 (ji84)).f3, y617⟩ : S66)), t603, t604)) = some (r1, r2, r3) := by first | (rw [hy617]; with_reducible exact H) | (have H2_ := (Option.bind_some _ _).symm.trans H; rw [hy617]; with_reducible exact H2_) | (have H2_ := (Option.bind_some _ _).symm.trans H; with_reducible exact H2_) | with_reducible exact H | (rw [hy617]; exact H) | exact H
 have Ny617 := Aside0.mk hy617
 clear hy617
 obtain ⟨y620, hy620⟩ : ∃ y_ : List (S66), y_ = (t605.set ((ji84) : Int).toNat (⟨(rd_T66 t605 (ji84)).f0, (rd_T66 t605 (ji84)).f1, (rd_T66 t605 (ji84)).f2, (rd_T66 t605 (ji84)).f3, y617⟩ : S66)) := ⟨_, rfl⟩
 replace H : (some (y620, t603, t604)) = some (r1, r2, r3) := by first | (rw [hy620]; with_reducible exact H) | (have H2_ := (Option.bind_some _ _).symm.trans H; rw [hy620]; with_reducible exact H2_) | (have H2_ := (Option.bind_some _ _).symm.trans H; with_reducible exact H2_) | with_reducible exact H | (rw [hy620]; exact H) | exact H
 have Ny620 := Aside0.mk hy620
 clear hy620
 simp only [Option.some.injEq, Prod.mk.injEq] at H
 obtain ⟨rfl, rfl, rfl⟩ := H
 refine ⟨?_⟩
 try go_wp2_with ((with_reducible refine gate_dst (N := 5) rfl ?_); refine bx 5 #[.slice none 0 0] 60 ?_; intro gb608 hg w95 hbox hb; replace HO602 := rB HO602 hb; replace HO607 := sB HO607 hb; replace HB := ak (below_step (lT HB (gC GE593 gN)) hb); replace BK608 := ak (hbox); replace GW608 := gW hg (kT HK (gC GW593 gN)); replace GE608 := gE HW0 GW608; replace HK := ak (KeepBut.trans (kT HK (gC GW593 gN)) (KeepBut.of_below hb g none) (.inl rfl)); replace NB593_608 := ak (nl hg (bG BK593)); replace NB608_593 := ak (ng hg (bG BK593)); replace BK593 := bB BK593 hb; replace NB0_608 := nS hg (IsS134.lt (IsS134.T_ HI0 (nC NB0_593 nN))); replace NB608_0 := mS hg (IsS134.lt (IsS134.T_ HI0 (nC NB0_593 nN))); replace HI0 := ak (IsS134.below (IsS134.T_ HI0 (nC NB0_593 nN)) hb); clear hb hbox hg; obtain ⟨Ao96, co96, eo96⟩ := Kd.S_slice HO607.out; subst eo96; have hnb97 := NB608_593.out; have hnc97 := NB593_608.out; have hnb98 := NB608_0.out; have hnc98 := NB0_608.out; obtain ⟨_, _⟩ := bC1 BK608)
 obtain ⟨w100, eW_⟩ : ∃ w_, w_ = (w95.setCell ⟨gb608, 0, none⟩ (.slice Ao96 t605.length co96)) := ⟨_, rfl⟩
 have n0_ : Aside0 (Kd.R k32 32 w100 w.heap.size (fun _ => True) (.slice Ao115 t600.length co115) t600) := by rw [eW_]; exact ⟨by exact Kd.R_mono (rT HO602 BK608 (by decide)) (fun _ hk => trivial)⟩
 have n1_ : Aside0 (Kd.S k66 66 w100 w.heap.size (fun _ => True) (.slice Ao96 t605.length co96) t605) := by rw [eW_]; exact ⟨by (with_reducible repeat (first | apply Kd.S_alloc | apply Kd.S_drewN | apply Kd.S_drew)); exact Kd.S_mono (Kd.S_far (p := ⟨gb608, 0, none⟩) (Kd.S_types HO607.out BK608.out (by decide)) (fun _ hk => hk.2) (.slice Ao96 t605.length co96)) (fun _ hk => trivial)⟩
 have n2_ : Aside0 (w100.heap[gb593]? = some (.cells #[.slice none 0 0] 60 (0, 0))) := by rw [eW_]; exact ⟨bF BK593 (nC NB593_608 nN)⟩
 have n3_ : Aside0 (w100.heap[gb608]? = some (.cells #[.slice Ao96 t605.length co96] 60 (0, 0))) := by rw [eW_]; exact ⟨bW BK608⟩
 have n4_ : Aside0 (IsS134 w0 w100 g s0_0 t603 t604) := by rw [eW_]; exact ⟨IsS134.T_ HI0 (nC NB0_593 (nC NB0_608 nN))⟩
 have n5_ : Aside0 (KeepBut w w100 g none) := by rw [eW_]; exact ⟨kT HK (gC GW593 (gC GW608 gN))⟩
 have n6_ : Aside0 (Below w0.heap.size w0 w100) := by rw [eW_]; exact ⟨lT HB (gC GE593 (gC GE608 gN))⟩
 try clear HO602 HO607 BK593 BK608 HI0 HK HB
 rw [← eW_];clear eW_
 have HO602 := n0_
 have HO607 := n1_
 have BK593 := n2_
 have BK608 := n3_
 have HI0 := n4_
 have HK := n5_
 have HB := n6_
 clear n0_ n1_ n2_ n3_ n4_ n5_ n6_
 replace HO602 := ak (Kd.R_drew HO602.out)
 replace HO607 := ak (Kd.S_drew HO607.out)
 replace BK593 := ak (blk_drew BK593.out)
 replace BK608 := ak (blk_drew BK608.out)
 replace HI0 := ak (IsS134.drew HI0.out)
 replace HK := ak (keep_drew HK.out)
 replace HB := ak (below_drew1 HB.out)
 have p616 : 0 ≤ ((ji84) : Int) := oda
 have q616 : (ji84) < (t605.length : Int) := oda
 obtain ⟨ad616, A616_4, c616_4, e616, hx616_0, hx616_1, hx616_2, hx616_3, hx616_4, hl616_4, hi616_4⟩ := at_T66 (Kd.S_reads' HO607.out).2.2 (ji84) p616 q616
 cases e616
 obtain ⟨ce616, hce616, hMe616, hcc616⟩ := Kd.S_get HO607.out z66 (ji84) p616 (by first | exact q616 | exact oda | (have e_ := (Kd.S_reads' HO607.out).1; omega))
 obtain ⟨ve616_4, rfl, ge616_4⟩ := k66_openM hMe616
 have hv616_4 := hcc616 4 _ rfl
 rw [add_field _ _ 4 (by omega)] at hv616_4
 replace hv616_4 := Option.some.inj (hv616_4.symm.trans hx616_4)
 rw [hv616_4] at ge616_4
 have HL616_4 := ak (show Kd.R k68 68 _ _ _ _ ((rd_T66 t605 (ji84)).f4) from ge616_4)
 clear hv616_4 ge616_4
 have HX616_4 := Aside0.mk hx616_4
 clear hcc616 hce616
 have HR616_4 := Aside0.mk hi616_4
 have HC616_4 := Aside0.mk hl616_4
 clear hi616_4 hl616_4
 replace p616 := eq_true p616
 replace q616 := eq_true q616
 obtain ⟨go102, co102, eo102, gb102, gl102, cl102, HG102⟩ := Kd.S_form HO607.out (by have h_ : ((ji84) : Int) < ((t605.length : Int) : Int) := oda; have h2_ : 0 ≤ ((ji84) : Int) := (oda); omega)
 (first | cases eo102 | (injection eo102 with ea_ en_ ec_; (first | subst ea_ | (injection ea_ with ea_; subst ea_)); subst ec_; clear en_))
 have GB102 := Aside0.mk gb102
 have GG102 := Aside0.mk HG102
 clear gb102 gl102 HG102
 (first | simp only [add_plain] at hx616_0 | skip)
 (first | simp only [add_plain] at hx616_1 | skip)
 (first | simp only [add_plain] at hx616_2 | skip)
 (first | simp only [add_plain] at hx616_3 | skip)
 (first | simp only [add_plain] at hx616_4 | skip)
 obtain ⟨oki102, ce102, hcl102, hM102, hcc102, _, _, hH102⟩ := Kd.S_elem HO607.out z66 ((ji84) : Int) (oda) (by have h_ : ((ji84) : Int) < ((t605.length : Int) : Int) := oda; first | exact h_ | (have e_ := (Kd.S_reads' HO607.out).1; omega) | simpa using h_)
 obtain ⟨ve102_4, rfl, ge102_4⟩ := k66_openM hM102
 have hv102 := hcc102 4 _ rfl
 have hX102 := HX616_4.out
 (try simp only [add_plain] at hX102)
 (try simp only [Nat.add_zero] at hv102)
 replace hv102 := Option.some.inj (hv102.symm.trans hX102)
 subst hv102
 clear hX102 hcc102 hcl102
 have UU102 := ak (show Kd.R k68 68 _ w.heap.size oki102 (.slice A616_4 ((rd_T66 t605 (ji84)).f4).length c616_4) ((rd_T66 t605 (ji84)).f4) from ge102_4)
 have HH102 := Aside0.mk hH102
 have HN102 := ak (Kd.S_reads' HO607.out).1
 clear hH102 ge102_4
 refine start_ (n := 19) (S := fun w' => w'.cell? ⟨gb608, 0, none⟩ = some (.slice (some ⟨go102, 0, none⟩) t605.length co96) ∧ w'.cell? ⟨go102, ((ji84) : Int).toNat * 5, none⟩ = some (.int .i64 ((rd_T66 t605 (ji84)).f0)) ∧ w'.cell? ⟨go102, ((ji84) : Int).toNat * 5 + 1, none⟩ = some (.string ((rd_T66 t605 (ji84)).f1)) ∧ w'.cell? ⟨go102, ((ji84) : Int).toNat * 5 + 2, none⟩ = some (.string ((rd_T66 t605 (ji84)).f2)) ∧ w'.cell? ⟨go102, ((ji84) : Int).toNat * 5 + 3, none⟩ = some (.int .i64 ((rd_T66 t605 (ji84)).f3)) ∧ w'.cell? ⟨go102, ((ji84) : Int).toNat * 5 + 4, none⟩ = some (.slice A616_4 ((rd_T66 t605 (ji84)).f4).length c616_4)) (ds := [18]) (fb 19 0) (by kernel_rfl) rfl rfl ⟨bc BK608 0, hx616_0, hx616_1, hx616_2, hx616_3, hx616_4⟩ (fun hHeld => ?_); refine with_tabW spec_l07State.tab14 spec_l07State.bits14 (fun HT_ HW_ => ?_)
 generalize w100.drew = w101 at HO602 HO607 BK593 BK608 HI0 HK HB GG102 HH102 HL616_4 HR616_4 HX616_4 UU102 hx616_0 hx616_1 hx616_2 hx616_3 hx616_4 hHeld ⊢
 refine pu 0 56 (fb 19 1) HT_ ?_
 refine pu 2 58 (fb 19 5) HT_ ?_
 refine pu 3 59 (fb 19 13) HT_ ?_
 refine pu 5 61 (fb 19 45) HT_ ?_
 refine pu 9 65 (fb 19 557) HT_ ?_
 refine pu 10 66 (fb 19 1581) HT_ ?_
 refine pu 11 67 (fb 19 3629) HT_ ?_
 refine pu 12 68 (fb 19 7725) HT_ ?_
 refine pu 13 69 (fb 19 15917) HT_ ?_
 refine tk 1 57 (fb 19 15919) HT_ HW_ hHeld ?_
 refine tk 4 60 (fb 19 15935) HT_ HW_ hHeld ?_
 refine pu 6 62 (fb 19 15999) HT_ ?_
 refine pu 7 63 (fb 19 16127) HT_ ?_
 refine tk 8 64 (fb 19 16383) HT_ HW_ hHeld ?_
 refine on 14 (some 70) (fb 19 32767) HT_ (fun K hK => ?_)
 refine value_ (w1 := ?_) (v := ?_) (by rfl) rfl ?_ ?_
 rotate_left 2
 {
 go_simp
 constructor
 {
 rfl
 }
 {
 rfl
 }
 }
 refine hK.out _ _ ⟨(blk_cell (blk_alloc BK608.out _) 0).trans rfl, (World.cell?_alloc_lt _ _ _ (World.block_lt_of_cell? _ _ (hHeld.2.1))).trans (hHeld.2.1), (World.cell?_alloc_lt _ _ _ (World.block_lt_of_cell? _ _ (hHeld.2.2.1))).trans (hHeld.2.2.1), (World.cell?_alloc_lt _ _ _ (World.block_lt_of_cell? _ _ (hHeld.2.2.2.1))).trans (hHeld.2.2.2.1), (World.cell?_alloc_lt _ _ _ (World.block_lt_of_cell? _ _ (hHeld.2.2.2.2.1))).trans (hHeld.2.2.2.2.1), (World.cell?_alloc_lt _ _ _ (World.block_lt_of_cell? _ _ (hHeld.2.2.2.2.2))).trans (hHeld.2.2.2.2.2)⟩ (fun hHeld => ?_)
 clear hK K
 refine nm ?_
 refine on 15 (some 71) (fb 19 65535) HT_ (fun K hK => ?_)
 refine Kd.R_append_step k68 w.heap.size (by rfl) (.tmp 64) (.tmp 70) 64 68 (.agg #[(.int .i64 0), (.int .i64 0), (.string ⟨#[]⟩)]) 32 rfl Try.underlying64 info68 rfl (by decide) (by omega) (.slice A616_4 ((rd_T66 t605 (ji84)).f4).length c616_4) ((rd_T66 t605 (ji84)).f4) (⟨Int.tmod t597 7, Int.tmod t597 9, (⟨#[]⟩ : ByteArray)⟩ : S68) [.int .i64 (Int.tmod t597 7), .int .i64 (Int.tmod t597 9), .string (⟨#[]⟩ : ByteArray)] (fun k_ => oki102 k_ ∨ ((fun _ => True)) k_ ∧ w101.heap.size ≤ k_) (fun _ => False) rfl rfl ?aP (fun _ hk => hk.elim) ?aF ?aO (Below.refl _ _) ?aS ?aL ?_
 (case aP => exact k68_mkM _ _ _ (⟨Int.tmod t597 7, Int.tmod t597 9, (⟨#[]⟩ : ByteArray)⟩ : S68))
 (case aF => exact (fun k_ hk => .inr ⟨trivial, hk⟩))
 (case aO => exact (by (with_reducible repeat (first | apply Kd.R_alloc | apply Kd.R_drewN | apply Kd.R_drew)); exact Kd.R_mono UU102.out (fun _ hk => .inl hk)))
 (case aS => exact (keep_size (w := w) (g := g) (row := none) (kT HK (gC GW593 (gC GW608 gN)))))
 (case aL => have := LMc87.out; omega)
 intro v618 w103 ho hb hg hat
 (first | have HS1_ := cell_grown hg (hHeld.2.1) (by first | (rw [add_block]; exact (fun e_ => ((HL616_4.out.1 _ e_.symm).2) rfl)) | (show some (Addr.add _ _).block ≠ _; rw [add_block]; exact (fun e_ => ((HL616_4.out.1 _ e_.symm).2) rfl)) | exact (fun e_ => ((HL616_4.out.1 _ e_.symm).2) rfl)) | have HS1_ := cell_grown hg (cell_unalloc (hHeld.2.1) (by first | (rw [add_block]; exact Kd.S_lt HO607.out _ rfl) | (show (Addr.add _ _).block < _; rw [add_block]; exact Kd.S_lt HO607.out _ rfl) | exact Kd.S_lt HO607.out _ rfl)) (by first | (rw [add_block]; exact (fun e_ => ((HL616_4.out.1 _ e_.symm).2) rfl)) | (show some (Addr.add _ _).block ≠ _; rw [add_block]; exact (fun e_ => ((HL616_4.out.1 _ e_.symm).2) rfl)) | exact (fun e_ => ((HL616_4.out.1 _ e_.symm).2) rfl)))
 (first | have HS2_ := cell_grown hg (hHeld.2.2.1) (by first | (rw [add_block]; exact (fun e_ => ((HL616_4.out.1 _ e_.symm).2) rfl)) | (show some (Addr.add _ _).block ≠ _; rw [add_block]; exact (fun e_ => ((HL616_4.out.1 _ e_.symm).2) rfl)) | exact (fun e_ => ((HL616_4.out.1 _ e_.symm).2) rfl)) | have HS2_ := cell_grown hg (cell_unalloc (hHeld.2.2.1) (by first | (rw [add_block]; exact Kd.S_lt HO607.out _ rfl) | (show (Addr.add _ _).block < _; rw [add_block]; exact Kd.S_lt HO607.out _ rfl) | exact Kd.S_lt HO607.out _ rfl)) (by first | (rw [add_block]; exact (fun e_ => ((HL616_4.out.1 _ e_.symm).2) rfl)) | (show some (Addr.add _ _).block ≠ _; rw [add_block]; exact (fun e_ => ((HL616_4.out.1 _ e_.symm).2) rfl)) | exact (fun e_ => ((HL616_4.out.1 _ e_.symm).2) rfl)))
 (first | have HS3_ := cell_grown hg (hHeld.2.2.2.1) (by first | (rw [add_block]; exact (fun e_ => ((HL616_4.out.1 _ e_.symm).2) rfl)) | (show some (Addr.add _ _).block ≠ _; rw [add_block]; exact (fun e_ => ((HL616_4.out.1 _ e_.symm).2) rfl)) | exact (fun e_ => ((HL616_4.out.1 _ e_.symm).2) rfl)) | have HS3_ := cell_grown hg (cell_unalloc (hHeld.2.2.2.1) (by first | (rw [add_block]; exact Kd.S_lt HO607.out _ rfl) | (show (Addr.add _ _).block < _; rw [add_block]; exact Kd.S_lt HO607.out _ rfl) | exact Kd.S_lt HO607.out _ rfl)) (by first | (rw [add_block]; exact (fun e_ => ((HL616_4.out.1 _ e_.symm).2) rfl)) | (show some (Addr.add _ _).block ≠ _; rw [add_block]; exact (fun e_ => ((HL616_4.out.1 _ e_.symm).2) rfl)) | exact (fun e_ => ((HL616_4.out.1 _ e_.symm).2) rfl)))
 (first | have HS4_ := cell_grown hg (hHeld.2.2.2.2.1) (by first | (rw [add_block]; exact (fun e_ => ((HL616_4.out.1 _ e_.symm).2) rfl)) | (show some (Addr.add _ _).block ≠ _; rw [add_block]; exact (fun e_ => ((HL616_4.out.1 _ e_.symm).2) rfl)) | exact (fun e_ => ((HL616_4.out.1 _ e_.symm).2) rfl)) | have HS4_ := cell_grown hg (cell_unalloc (hHeld.2.2.2.2.1) (by first | (rw [add_block]; exact Kd.S_lt HO607.out _ rfl) | (show (Addr.add _ _).block < _; rw [add_block]; exact Kd.S_lt HO607.out _ rfl) | exact Kd.S_lt HO607.out _ rfl)) (by first | (rw [add_block]; exact (fun e_ => ((HL616_4.out.1 _ e_.symm).2) rfl)) | (show some (Addr.add _ _).block ≠ _; rw [add_block]; exact (fun e_ => ((HL616_4.out.1 _ e_.symm).2) rfl)) | exact (fun e_ => ((HL616_4.out.1 _ e_.symm).2) rfl)))
 (first | have HS5_ := cell_grown hg (hHeld.2.2.2.2.2) (by first | (rw [add_block]; exact (fun e_ => ((HL616_4.out.1 _ e_.symm).2) rfl)) | (show some (Addr.add _ _).block ≠ _; rw [add_block]; exact (fun e_ => ((HL616_4.out.1 _ e_.symm).2) rfl)) | exact (fun e_ => ((HL616_4.out.1 _ e_.symm).2) rfl)) | have HS5_ := cell_grown hg (cell_unalloc (hHeld.2.2.2.2.2) (by first | (rw [add_block]; exact Kd.S_lt HO607.out _ rfl) | (show (Addr.add _ _).block < _; rw [add_block]; exact Kd.S_lt HO607.out _ rfl) | exact Kd.S_lt HO607.out _ rfl)) (by first | (rw [add_block]; exact (fun e_ => ((HL616_4.out.1 _ e_.symm).2) rfl)) | (show some (Addr.add _ _).block ≠ _; rw [add_block]; exact (fun e_ => ((HL616_4.out.1 _ e_.symm).2) rfl)) | exact (fun e_ => ((HL616_4.out.1 _ e_.symm).2) rfl)))
 rw [← Ny617.out] at ho
 have n0_ := ak (IsS134.grown (IsS134.T_ HI0 (nC NB0_593 (nC NB0_608 nN))) hg (IsS134.own_ne HI0.out HL616_4.out (by decide)))
 have n1_ := ak (blk_grown (g := gb593) (o := .cells #[.slice none 0 0] 60 (0, 0)) (bG BK593) hg (Kd.R_ne HL616_4.out BK593.out (by decide)))
 have n2_ := ak (Kd.R_over' (v := (.slice A616_4 ((rd_T66 t605 (ji84)).f4).length c616_4)) (rG HO602) (Kd.R_typed HL616_4.out) (by decide) hg)
 have n3_ := ak (blk_grown (g := gb608) (o := .cells #[.slice (some ⟨go102, 0, none⟩) t605.length co96] 60 (0, 0)) (bG BK608) hg (Kd.R_ne HL616_4.out BK608.out (by decide)))
 have n4_ := ak (below_weaken (lT HB (gC GE593 (gC GE608 gN))) HL.out hb)
 have n5_ := ak (KeepBut.trans (kT HK (gC GW593 (gC GW608 gN))) (KeepBut.of_grown hg g) (Kd.R_base2 HL616_4.out))
 have n6_ := ak (Kd.H_grown (Kd.H_widen (by repeat (first | exact HH102.out | refine Kd.H_alloc ?_ _ | refine Kd.H_drewN ?_ _ | refine Kd.H_drew ?_))) hg (fun k_ e_ => .inl (UU102.out.1 k_ e_)))
 have n7_ := ak (ho)
 clear HI0
 clear BK593
 clear HO602
 clear BK608
 clear HB
 clear HK
 clear HH102
 clear HO607
 clear UU102
 clear HL616_4
 have HI0 := n0_
 have BK593 := n1_
 have HO602 := n2_
 have BK608 := n3_
 have HB := n4_
 have HK := n5_
 have HH102 := n6_
 have HO619 := n7_
 clear n0_ n1_ n2_ n3_ n4_ n5_ n6_ n7_
 clear ho hb hg hat
 have p88 : 0 ≤ ((ji84) : Int) := oda
 have q88 : ((ji84) : Int) < ((t605.length : Int) : Int) := oda
 replace p88 := eq_true p88
 replace q88 := eq_true q88
 obtain ⟨Ao106, co106, eo106⟩ := Kd.R_slice HO619.out
 (first | subst eo106 | (injection eo106 with f1_ f2_ f3_; have f4_ := f1_.symm; have f5_ := f3_.symm; clear f1_ f2_ f3_; subst f4_; subst f5_))
 obtain ⟨_, _, hraw104, _, _, hcc104, _⟩ := Kd.H_raw HH102.out (oda) (by have h_ : ((ji84) : Int) < ((t605.length : Int) : Int) := oda; first | exact h_ | (have e_ := (HN102.out); omega) | simpa using h_)
 obtain ⟨_, hfr104⟩ := Kd.H_at HH102.out (oda) (by have h_ : ((ji84) : Int) < ((t605.length : Int) : Int) := oda; first | exact h_ | (have e_ := (HN102.out); omega) | simpa using h_)
 have hx104_0 := hcc104 4 _ rfl
 have hf104_0 := hfr104 4
 (try rw [show (k66).sz = 5 from rfl] at hx104_0)
 (try rw [show (k66).sz = 5 from rfl] at hf104_0)
 have HP104 := Kd.S_seg0 HH102.out (oda) (by have h_ : ((ji84) : Int) < ((t605.length : Int) : Int) := oda; first | exact h_ | (have e_ := (HN102.out); omega) | simpa using h_) (seg := [.slice Ao106 y617.length co106]) (j := 4) (show 5 ≤ 5 from by decide) (x' := (⟨(rd_T66 t605 (ji84)).f0, (rd_T66 t605 (ji84)).f1, (rd_T66 t605 (ji84)).f2, (rd_T66 t605 (ji84)).f3, y617⟩ : S66)) (k66_mkM _ _ _ (⟨(rd_T66 t605 (ji84)).f0, (rd_T66 t605 (ji84)).f1, (rd_T66 t605 (ji84)).f2, (rd_T66 t605 (ji84)).f3, y617⟩ : S66) HO619.out) (fun _ hk => hk)
 clear hcc104 hfr104
 have HN0_go102 := ak (show g ≠ go102 from by have h_ := IsS134.own_ne HI0.out hraw104 (by decide); intro e_; exact h_ (by rw [e_]; rfl))
 have HNB593_go102 := ak (show gb593 ≠ go102 from by have h_ := Kd.R_ne hraw104 BK593.out (by decide); intro e_; exact h_ (by rw [e_]; rfl))
 have HNB608_go102 := ak (show gb608 ≠ go102 from by have h_ := Kd.R_ne hraw104 BK608.out (by decide); intro e_; exact h_ (by rw [e_]; rfl))
 have HS104 := HP104.1
 rw [← Ny620.out] at HS104
 have HQ104 := Aside0.mk HS104
 obtain ⟨_, hgg104⟩ := Kd.R_typed hraw104 go102 rfl
 have GG104_ := Aside0.mk hgg104
 clear HP104 HS104 hgg104
 refine hK.out _ _ ⟨bc BK608 0, HS1_, HS2_, HS3_, HS4_, HS5_⟩ (fun hHeld => ?_)
 clear hK K
 refine nm ?_
 refine pu 16 72 (fb 19 131071) HT_ ?_
 refine pu 17 73 (fb 19 262143) HT_ ?_
 refine last_ (i := 18) (N := none) #[t_,t_,t_,t_,t_,t_,t_,t_,t_,t_,t_,t_,t_,t_,t_,t_,t_,t_,t_] rfl rfl (one_of HT_.out (by kernel_rfl)) (by decide) (fun K hK => ?_)
 refine skip_ (w1 := ?_) (by rfl) rfl ?_ ?_
 rotate_left
 {
 go_simp
 rfl
 }
 refine hK.out _ _ ?_
 clear hK K
 refine done_ (done_of HT_.out (by kernel_rfl)) ?_
 obtain ⟨w107, eW_⟩ : ∃ w_, w_ = (w103.setCell ⟨go102, ((ji84) : Int).toNat * 5 + 4, none⟩ (.slice Ao106 y617.length co106)) := ⟨_, rfl⟩
 have n0_ : Aside0 (Kd.R k32 32 w107 w.heap.size (fun _ => True) (.slice Ao115 t600.length co115) t600) := by rw [eW_]; exact ⟨by (with_reducible repeat (first | apply Kd.R_alloc | apply Kd.R_drewN | apply Kd.R_drew)); exact Kd.R_mono (Kd.R_far (p := ⟨go102, ((ji84) : Int).toNat * 5 + 4, none⟩) (Kd.R_types HO602.out GG104_.out (by decide)) (fun _ hk => hk.2) (.slice Ao106 y617.length co106)) (fun _ hk => trivial)⟩
 have n1_ : Aside0 (Kd.S k66 66 w107 w.heap.size (fun _ => True) (.slice (some ⟨go102, 0, none⟩) t605.length co96) y620) := by rw [eW_]; exact ⟨by exact HQ104.out⟩
 have n2_ : Aside0 (w107.heap[gb593]? = some (.cells #[.slice none 0 0] 60 (0, 0))) := by rw [eW_]; exact ⟨by (with_reducible repeat (first | refine blk_drewN ?_ _ | refine blk_drew ?_ | refine blk_alloc ?_ _)); refine blk_far ?_ HNB593_go102.out _; (with_reducible repeat (first | refine blk_drewN ?_ _ | refine blk_drew ?_ | refine blk_alloc ?_ _)); exact BK593.out⟩
 have n3_ : Aside0 (w107.heap[gb608]? = some (.cells #[.slice (some ⟨go102, 0, none⟩) t605.length co96] 60 (0, 0))) := by rw [eW_]; exact ⟨by (with_reducible repeat (first | refine blk_drewN ?_ _ | refine blk_drew ?_ | refine blk_alloc ?_ _)); refine blk_far ?_ HNB608_go102.out _; (with_reducible repeat (first | refine blk_drewN ?_ _ | refine blk_drew ?_ | refine blk_alloc ?_ _)); exact BK608.out⟩
 have n4_ : Aside0 (IsS134 w0 w107 g s0_0 t603 t604) := by rw [eW_]; exact ⟨by repeat (first | (with_reducible first | exact HI0.out | apply IsS134.alloc | apply IsS134.drewN | apply IsS134.drew | apply IsS134.set_1 | apply IsS134.set_2 | refine IsS134.far ?_ HN0_go102.out _ | refine IsS134.far ?_ NB0_593.out _ | refine IsS134.far ?_ NB0_608.out _) | exact HI0.out)⟩
 have n5_ : Aside0 (KeepBut w w107 g none) := by rw [eW_]; exact ⟨by repeat (first | (with_reducible first | exact HK.out | apply KeepBut.set_ | apply keep_drewN | apply keep_drew | apply keep_alloc | refine keep_far ?_ GB102.out _ | refine keep_far ?_ GW593.out _ | refine keep_far ?_ GW608.out _) | exact HK.out)⟩
 have n6_ : Aside0 (Below w0.heap.size w0 w107) := by rw [eW_]; exact ⟨by repeat (first | (with_reducible first | exact HB.out | apply below_alloc | apply pw_below_drewN | apply below_drew1 | refine below_set ?_ (Nat.le_trans HL.out GB102.out) | refine below_set ?_ (IsS134.ge HI0.out) | refine below_set ?_ GE593.out | refine below_set ?_ GE608.out) | exact HB.out)⟩
 try clear HO602 HO607 BK593 BK608 HI0 HK HB
 rw [← eW_];clear eW_
 have HO602 := n0_
 have HO607 := n1_
 have BK593 := n2_
 have BK608 := n3_
 have HI0 := n4_
 have HK := n5_
 have HB := n6_
 clear n0_ n1_ n2_ n3_ n4_ n5_ n6_
 obtain ⟨_, _⟩ := bC1 BK608
 have hnb109 := NB593_0.out
 have hnc109 := NB0_593.out
 obtain ⟨_, _⟩ := bC1 BK593
 try go_wp2
 refine bodyPost_ret (results_cell_row rfl _ _ gb593 60 #[.slice (some ⟨go102, 0, none⟩) t605.length co96] (0, 0) _ rfl (bW BK593) Try.underlying60 rfl (by kernel_rfl)) rfl ?_
 exact ⟨_, by first | rfl | (simp [errW_none, errW_some] <;> rfl) | (simp only [← hji84]; first | rfl | (simp [errW_none, errW_some] <;> rfl)) | (simp [*, errW_none, errW_some] <;> rfl), by (with_reducible repeat (first | apply Kd.S_alloc | apply Kd.S_drewN | apply Kd.S_drew)); exact Kd.S_mono (Kd.S_far (p := ⟨gb593, 0, none⟩) (Kd.S_types HO607.out BK593.out (by decide)) (fun _ hk => hk.2) (.slice (some ⟨go102, 0, none⟩) t605.length co96)) (fun _ hk => trivial), IsS134.T_ HI0 (nC NB0_593 (nC NB0_608 nN)), lT HB (gC GE593 (gC GE608 gN)), kT HK (gC GW593 (gC GW608 gN))⟩
 }
 {rw [if_neg c87] at H;exact absurd H (by simp)}
 }
 {rw [if_neg c86] at H;exact absurd H (by simp)}
 }
 {rw [if_neg c85] at H;exact absurd H (by simp)}
 }
 {
 rw [if_neg c83] at H
 have c83b0 := beq_eq_false_iff_ne.mpr c83
 have c83b1 := bne_iff_ne.mpr c83
 simp only [Option.some.injEq, Prod.mk.injEq] at H
 obtain ⟨rfl, rfl, rfl⟩ := H
 refine ⟨?_⟩
 go_wp2_with ((with_reducible refine gate_dst (N := 5) rfl ?_); refine bx 5 #[.slice none 0 0] 60 ?_; intro gb608 hg w117 hbox hb; replace HO602 := rB HO602 hb; replace HO607 := sB HO607 hb; replace HB := ak (below_step (lT HB (gC GE593 gN)) hb); replace BK608 := ak (hbox); replace GW608 := gW hg (kT HK (gC GW593 gN)); replace GE608 := gE HW0 GW608; replace HK := ak (KeepBut.trans (kT HK (gC GW593 gN)) (KeepBut.of_below hb g none) (.inl rfl)); replace NB593_608 := ak (nl hg (bG BK593)); replace NB608_593 := ak (ng hg (bG BK593)); replace BK593 := bB BK593 hb; replace NB0_608 := nS hg (IsS134.lt (IsS134.T_ HI0 (nC NB0_593 nN))); replace NB608_0 := mS hg (IsS134.lt (IsS134.T_ HI0 (nC NB0_593 nN))); replace HI0 := ak (IsS134.below (IsS134.T_ HI0 (nC NB0_593 nN)) hb); clear hb hbox hg; obtain ⟨Ao118, co118, eo118⟩ := Kd.S_slice HO607.out; subst eo118; have hnb119 := NB608_593.out; have hnc119 := NB593_608.out; have hnb120 := NB608_0.out; have hnc120 := NB0_608.out; obtain ⟨_, _⟩ := bC1 BK608; have hnb122 := NB593_0.out; have hnc122 := NB0_593.out; obtain ⟨_, _⟩ := bC1 BK593)
 refine bodyPost_ret (results_cell_row rfl _ _ gb593 60 #[.slice Ao118 t605.length co118] (0, 0) _ rfl (bF BK593 (nC NB593_608 nN)) Try.underlying60 rfl (by kernel_rfl)) rfl ?_
 exact ⟨_, ew, by (with_reducible repeat (first | apply Kd.S_alloc | apply Kd.S_drewN | apply Kd.S_drew)); exact Kd.S_mono (Kd.S_far (p := ⟨gb593, 0, none⟩) (Kd.S_far (p := ⟨gb608, 0, none⟩) (Kd.S_types (Kd.S_types HO607.out BK608.out (by decide)) BK593.out (by decide)) (fun _ hk => hk.1.2) (.slice Ao118 t605.length co118)) (fun _ hk => hk.2) (.slice Ao118 t605.length co118)) (fun _ hk => trivial), IsS134.T_ HI0 (nC NB0_593 (nC NB0_608 nN)), lT HB (gC GE593 (gC GE608 gN)), kT HK (gC GW593 (gC GW608 gN))⟩
 }
 }
 }
 }
 }
 }
 {
 rw [if_neg c6] at H
 have c6b0 : decide (0 < (t605.length : Int)) = false := decide_eq_false c6
 have c6b1 : decide (0 < t605.length) = false := decide_eq_false (by omega)
 clear c6
 simp only [Option.some.injEq, Prod.mk.injEq] at H
 obtain ⟨rfl, rfl, rfl⟩ := H
 refine ⟨?_⟩
 go_wp2_with ((with_reducible refine gate_dst (N := 5) rfl ?_); refine bx 5 #[.slice none 0 0] 60 ?_; intro gb608 hg w130 hbox hb; replace HO602 := rB HO602 hb; replace HO607 := sB HO607 hb; replace HB := ak (below_step (lT HB (gC GE593 gN)) hb); replace BK608 := ak (hbox); replace GW608 := gW hg (kT HK (gC GW593 gN)); replace GE608 := gE HW0 GW608; replace HK := ak (KeepBut.trans (kT HK (gC GW593 gN)) (KeepBut.of_below hb g none) (.inl rfl)); replace NB593_608 := ak (nl hg (bG BK593)); replace NB608_593 := ak (ng hg (bG BK593)); replace BK593 := bB BK593 hb; replace NB0_608 := nS hg (IsS134.lt (IsS134.T_ HI0 (nC NB0_593 nN))); replace NB608_0 := mS hg (IsS134.lt (IsS134.T_ HI0 (nC NB0_593 nN))); replace HI0 := ak (IsS134.below (IsS134.T_ HI0 (nC NB0_593 nN)) hb); clear hb hbox hg; obtain ⟨Ao131, co131, eo131⟩ := Kd.S_slice HO607.out; subst eo131; have hnb132 := NB608_593.out; have hnc132 := NB593_608.out; have hnb133 := NB608_0.out; have hnc133 := NB0_608.out; obtain ⟨_, _⟩ := bC1 BK608; have hnb135 := NB593_0.out; have hnc135 := NB0_593.out; obtain ⟨_, _⟩ := bC1 BK593)
 refine bodyPost_ret (results_cell_row rfl _ _ gb593 60 #[.slice Ao131 t605.length co131] (0, 0) _ rfl (bF BK593 (nC NB593_608 nN)) Try.underlying60 rfl (by kernel_rfl)) rfl ?_
 exact ⟨_, ew, by (with_reducible repeat (first | apply Kd.S_alloc | apply Kd.S_drewN | apply Kd.S_drew)); exact Kd.S_mono (Kd.S_far (p := ⟨gb593, 0, none⟩) (Kd.S_far (p := ⟨gb608, 0, none⟩) (Kd.S_types (Kd.S_types HO607.out BK608.out (by decide)) BK593.out (by decide)) (fun _ hk => hk.1.2) (.slice Ao131 t605.length co131)) (fun _ hk => hk.2) (.slice Ao131 t605.length co131)) (fun _ hk => trivial), IsS134.T_ HI0 (nC NB0_593 (nC NB0_608 nN)), lT HB (gC GE593 (gC GE608 gN)), kT HK (gC GW593 (gC GW608 gN))⟩
 }
end Go.Proofs.Ytagkjeldheiejaa.PFnStatesTold
