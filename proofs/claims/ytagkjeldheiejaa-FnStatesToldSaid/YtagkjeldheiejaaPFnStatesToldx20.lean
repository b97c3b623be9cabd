-- printed
import Derived.Test.YtagkjeldheiejaaPFnStatesToldx19
import Derived.Test.YtagkjeldheiejaaVFnStatesTold1
namespace Go.Proofs.Ytagkjeldheiejaa.PFnStatesTold
open Go.RowKit YtagkjeldheiejaaW.PrintWords YtagkjeldheiejaaW.PrintLast YtagkjeldheiejaaW.PrintMore
set_option linter.unusedVariables false
set_option linter.unusedSimpArgs false
attribute [local go_sem] max2_int min2_int max_two min_two max_three min_three max_four min_four
set_option maxHeartbeats 8000000
set_option maxRecDepth 100000
def spec_DrawSameState.f (k : Nat) (l0 : List Int) : Option ((List (S66)) × (List (S66))) := (spec_l01New.f k l0).bind fun bt623 => ((spec_l07Items.f k bt623.1 bt623.2.1 bt623.2.2).bind fun bt627 => ((spec_StateOf.f k bt627.1).bind fun t632 => ((spec_l01Once.f bt623.1 bt627.2.1 bt627.2.2 2).bind fun bt636 => (if bt636.1 = true then ((spec_StateOf.f k bt627.1).bind fun t639 => (some (t632, t639))) else ((spec_l07State.f k bt623.1 bt636.2.1 bt636.2.2).bind fun bt642 => (some (t632, bt642.1)))))))
theorem spec_DrawSameState.mono : ∀ a0 k, LeO (spec_DrawSameState.f k a0) (spec_DrawSameState.f (k + 1) a0) := by
 intro a0 k
 unfold spec_DrawSameState.f
 repeat' with_reducible first | exact spec_StateOf.mono _ _ | exact spec_l01New.mono _ _ | exact spec_l07Items.mono _ _ _ _ | exact spec_l07State.mono _ _ _ _ | exact LeO.refl _ | exact LeO.none _ | refine LeO.ite ?_ ?_ | refine LeO.bind ?_ (fun _ => ?_)
theorem spec_DrawSameState.calls (k : Nat) (A0 : Option Addr) (c0 : Nat) (l0 : List Int) (r1 : List (S66)) (r2 : List (S66)) (w : World) (hr0 : Kd.C (Kd.int .u8) w A0 l0.length l0) (hc0 : l0.length ≤ c0) (h : spec_DrawSameState.f k l0 = some (r1, r2)) :
  Calls Try.prog 48 #[.slice A0 l0.length c0] w fun e w' => ∃ v0_ v1_ : Value, e = .returned (.tuple #[.agg #[v0_], .agg #[v1_]]) ∧ Kd.S k66 66 w' w.heap.size (fun k_ => some k_ ≠ (v1_ : Value).ownBlock) v0_ r1 ∧ Kd.S k66 66 w' w.heap.size (fun k_ => some k_ ≠ (v0_ : Value).ownBlock) v1_ r2 ∧ Below w.heap.size w w' := by
 have hu60 := Try.underlying60
 have HR0 := Aside0.mk hr0
 have HC0 := Aside0.mk hc0
 clear hr0 hc0
 have HB := ak (Below.refl w.heap.size w)
 have H := h
 clear h
 unfold spec_DrawSameState.f at H
 obtain ⟨⟨t623, t624, t625⟩, A2, H⟩ := eb H
 try dsimp only at H
 have HS_ := Aside0.mk H
 clear H
 go_enter Try.func48, Try.ntmps48
 go_wp2_with (first | ((with_reducible refine gate_dst (N := 2) rfl ?_); refine bx 2 #[.slice none 0 0] 60 ?_; intro gb621 hg w8 hbox hb; replace BK621 := ak (hbox); replace GE621 := ak (bz hg (lG HB)); replace HB := lB HB hb; clear hb hbox hg) | ((with_reducible refine gate_dst (N := 3) rfl ?_); refine bx 3 #[.slice none 0 0] 60 ?_; intro gb622 hg w9 hbox hb; replace BK622 := ak (hbox); replace GW622 := ak (bz hg (lT HB (gC GE621 gN))); replace GE622 := ak (bz hg (lT HB (gC GE621 gN))); replace HB := ak (below_step (lT HB (gC GE621 gN)) hb); replace NB621_622 := ak (nl hg (bG BK621)); replace NB622_621 := ak (ng hg (bG BK621)); replace BK621 := bB BK621 hb; clear hb hbox hg) | ((with_reducible refine gate_callee (f := 67) rfl ?_); refine gl (some 8) Try.func67 #[.slice A0 l0.length c0] ?_; (with_reducible refine (spec_l01New.calls k _ _ l0 _ _ _ w _ ?side1 ?side2 ?side3 A2.out).mono ?_); (case side1 => exact lT HB (gC GE621 (gC GE622 gN))); (case side2 => exact HR0.out); (case side3 => exact HC0.out); rintro e w10 ⟨g626, rfl, hi, hb, hb2⟩; refine ⟨_, rfl, ?_⟩; replace HB := ak (hb); replace HI626 := ak (hi); replace NB626_621 := ak (IsS134.ne_blk hi (blk_below (bG BK621) hb2) (by decide)); replace NB621_626 := ak (Ne.symm (IsS134.ne_blk hi (blk_below (bG BK621) hb2) (by decide))); replace BK621 := ak (blk_below (bG BK621) hb2); replace NB626_622 := ak (IsS134.ne_blk hi (blk_below (bG BK622) hb2) (by decide)); replace NB622_626 := ak (Ne.symm (IsS134.ne_blk hi (blk_below (bG BK622) hb2) (by decide))); replace BK622 := ak (blk_below (bG BK622) hb2); (try clear hb); (try clear hb2); (try clear hk); (try clear hi); refine Stop.out ?_))
 have H := HS_.out
 clear HS_
 obtain ⟨⟨t627, t630, t631⟩, A3, H⟩ := eb H
 try dsimp only at H
 have HS_ := Aside0.mk H
 clear H
 refine ⟨?_⟩
 go_wp2_with ((with_reducible refine gate_callee (f := 72) rfl ?_); refine gl (some 10) Try.func72 #[.pointer (some ⟨g626, 0, none⟩)] ?_; (with_reducible refine (spec_l07Items.calls k g626 t623 t624 t625 _ _ _ w _ ?side1 ?side2 A3.out).mono ?_); (case side1 => exact IsS134.T_ HI626 (nC NB626_621 (nC NB626_622 nN))); (case side2 => exact lT HB (gC GE621 (gC GE622 gN))); rintro e w11 ⟨v628, rfl, ho0, hi, hb, hk⟩; refine ⟨_, rfl, ?_⟩; replace BK621 := kB hk (bG BK621) NB621_626; replace BK622 := kB hk (bG BK622) NB622_626; replace HO629 := ak (Kd.R_lower ho0 (below_size (lT HB (gC GE621 (gC GE622 gN))))); replace HB := ak (hb); replace HI626 := ak (hi); (try clear hb); (try clear hb2); (try clear hk); (try clear hi); (try clear ho0); obtain ⟨Ao12, co12, eo12⟩ := Kd.R_slice HO629.out; subst eo12; refine Stop.out ?_)
 have H := HS_.out
 clear HS_
 obtain ⟨t632, A4, H⟩ := eb H
 try dsimp only at H
 have HS_ := Aside0.mk H
 clear H
 refine ⟨?_⟩
 go_wp2_with ((with_reducible refine gate_callee (f := 38) rfl ?_); refine gl (some 12) Try.func38 #[.slice Ao12 t627.length co12] ?_; (with_reducible refine (spec_StateOf.calls k _ _ t627 _ _ ?side1 ?side2 A4.out).mono ?_); (case side1 => exact cG (Kd.R_reads' HO629.out).2.2); (case side2 => exact (Kd.R_reads' HO629.out).2.1); rintro e w13 ⟨v633, rfl, ho0, hb⟩; refine ⟨_, rfl, ?_⟩; replace HO629 := rB HO629 hb; replace HO634 := ak (Kd.S_lower ho0 (below_size (lT HB (gC GE621 (gC GE622 gN))))); replace BK621 := bB BK621 hb; replace BK622 := bB BK622 hb; replace HB := ak (below_step (lT HB (gC GE621 (gC GE622 gN))) hb); replace HI626 := ak (IsS134.below (IsS134.T_ HI626 (nC NB626_621 (nC NB626_622 nN))) hb); (try clear hb); (try clear hb2); (try clear hk); (try clear hi); (try clear ho0); refine Stop.out ?_)
 have H := HS_.out
 clear HS_
 obtain ⟨⟨t636, t637, t638⟩, A5, H⟩ := eb H
 try dsimp only at H
 have HS_ := Aside0.mk H
 clear H
 refine ⟨?_⟩
 go_wp2_with (first | ((with_reducible refine gate_dst (N := 6) rfl ?_); refine bx 6 #[.slice none 0 0] 60 ?_; intro gb635 hg w14 hbox hb; replace HO629 := rB HO629 hb; replace HO634 := sB HO634 hb; replace BK635 := ak (hbox); replace GW635 := ak (bz hg (lT HB (gC GE621 (gC GE622 gN)))); replace GE635 := ak (bz hg (lT HB (gC GE621 (gC GE622 gN)))); replace HB := ak (below_step (lT HB (gC GE621 (gC GE622 gN))) hb); replace NB621_635 := ak (nl hg (bG BK621)); replace NB635_621 := ak (ng hg (bG BK621)); replace BK621 := bB BK621 hb; replace NB622_635 := ak (nl hg (bG BK622)); replace NB635_622 := ak (ng hg (bG BK622)); replace BK622 := bB BK622 hb; replace NB626_635 := ak ((by rw [hg]; exact Nat.ne_of_lt (IsS134.lt (show IsS134 w _ g626 t623 t630 t631 from IsS134.T_ HI626 (nC NB626_621 (nC NB626_622 nN)))) : g626 ≠ gb635)); replace NB635_626 := ak ((by rw [hg]; exact Nat.ne_of_gt (IsS134.lt (show IsS134 w _ g626 t623 t630 t631 from IsS134.T_ HI626 (nC NB626_621 (nC NB626_622 nN)))) : gb635 ≠ g626)); replace HI626 := ak (IsS134.below (IsS134.T_ HI626 (nC NB626_621 (nC NB626_622 nN))) hb); clear hb hbox hg; obtain ⟨Ao15, co15, eo15⟩ := Kd.S_slice HO634.out; subst eo15; have hnb16 := NB635_621.out; have hnc16 := NB621_635.out; have hnb17 := NB635_622.out; have hnc17 := NB622_635.out; have hnb18 := NB635_626.out; have hnc18 := NB626_635.out; obtain ⟨_, _⟩ := bC1 BK635) | ((with_reducible refine gate_callee (f := 88) rfl ?_); refine gl (some 14) Try.func88 #[.pointer (some ⟨g626, 0, none⟩), .int .i64 2] ?_; (with_reducible refine (spec_l01Once.calls g626 t623 t630 t631 2 _ _ _ w _ ?side1 ?side2 A5.out).mono ?_); (case side1 => exact IsS134.T_ HI626 (nC NB626_621 (nC NB626_622 (nC NB626_635 nN)))); (case side2 => exact lT HB (gC GE621 (gC GE622 (gC GE635 gN)))); rintro e w20 ⟨rfl, hi, hb, hk⟩; refine ⟨_, rfl, ?_⟩; replace BK621 := kB hk (bT BK621 (nC NB621_635 nN)) NB621_626; replace BK622 := kB hk (bT BK622 (nC NB622_635 nN)) NB622_626; replace HO629 := IsS134.kR hk (show IsS134 w _ g626 t623 t630 t631 from IsS134.T_ HI626 (nC NB626_621 (nC NB626_622 (nC NB626_635 nN)))) (rT HO629 BK635 (by decide)); replace HO634 := ak (Kd.S_mono (Kd.S_keep (IsS134.apartS (show IsS134 w _ g626 t623 t630 t631 from IsS134.T_ HI626 (nC NB626_621 (nC NB626_622 (nC NB626_635 nN)))) (by (with_reducible repeat (first | apply Kd.S_alloc | apply Kd.S_drewN | apply Kd.S_drew)); exact (Kd.S_mono (Kd.S_far (p := ⟨gb635, 0, none⟩) (Kd.S_types HO634.out BK635.out (by decide)) (fun _ hk => hk.2) (.slice Ao15 t632.length co15)) (fun _ h_ => h_.1))) (by decide)) hk (fun _ h => h.2)) (fun _ h => h.1)); replace BK635 := ak (KeepBut.blk hk (g' := gb635) (o := .cells #[.slice Ao15 t632.length co15] 60 (0, 0)) (bW BK635) NB635_626.out (by simp)); replace HB := ak (hb); replace HI626 := ak (hi); (try clear hb); (try clear hb2); (try clear hk); (try clear hi); refine Stop.out ?_))
 have H := HS_.out
 clear HS_
 by_cases c6 : t636 = true
 {
 subst c6
 rw [if_pos rfl] at H
 obtain ⟨t639, A7, H⟩ := eb H
 try dsimp only at H
 simp only [Option.some.injEq, Prod.mk.injEq] at H
 obtain ⟨rfl, rfl⟩ := H
 refine ⟨?_⟩
 try go_wp2
 replace HO629 := ak (Kd.R_drew HO629.out)
 replace HO634 := ak (Kd.S_drew HO634.out)
 replace BK621 := ak (blk_drew BK621.out)
 replace BK622 := ak (blk_drew BK622.out)
 replace BK635 := ak (blk_drew BK635.out)
 replace HI626 := ak (IsS134.drew HI626.out)
 replace HB := ak (below_drew1 HB.out)
 refine start_ (n := 5) (S := fun w' => w'.cell? ⟨gb635, 0, none⟩ = some (.slice Ao15 t632.length co15)) (ds := []) (fb 5 0) (by kernel_rfl) rfl rfl (bc BK635 0) (fun hHeld => ?_)
 generalize w20.drew = w21 at HO629 HO634 BK621 BK622 BK635 HI626 HB hHeld ⊢
 refine pure_ (i := 1) (N := some 16) (v := ?_) (a' := ?_) #[f_,t_,f_,f_,f_] rfl rfl (by kernel_rfl) (fun _ _ _ h => h) (Or.inl ⟨by rfl, ?_⟩) ?_ ?_
 rotate_left
 {
 intro w'
 go_simp
 with_reducible rfl
 }
 rotate_left
 {
 simp only [Act.put, List.setIfInBounds_toArray, List.set_cons_zero, List.set_cons_succ, i64_w, i32_w]
 rfl
 }
 refine take_ (i := 0) (N := some 15) (v := ?_) (a' := ?_) #[t_,t_,f_,f_,f_] rfl rfl (by kernel_rfl) (fun _ _ _ h => h) (Or.inl ⟨by rfl, ?_⟩) hHeld ?_ ?_
 rotate_left
 {
 intro w' s0
 go_simp
 with_reducible rfl
 }
 rotate_left
 {
 simp only [Act.put, List.setIfInBounds_toArray, List.set_cons_zero, List.set_cons_succ, i64_w, i32_w]
 rfl
 }
 refine one_ (i := 2) (N := some 17) #[t_,t_,t_,f_,f_] rfl rfl (by kernel_rfl) (by decide) (fun K hK => ?_)
 refine gs Try.func38 #[.slice Ao12 t627.length co12] ?_
 with_reducible refine (spec_StateOf.calls k _ _ t627 t639 _ ?side1 ?side2 A7.out).mono ?_
 (case side1 => exact cG (Kd.R_reads' HO629.out).2.2)
 (case side2 => exact (Kd.R_reads' HO629.out).2.1)
 rintro e w22 ⟨v640, rfl, ho0, hb⟩
 refine ⟨_, rfl, ?_⟩
 replace HO629 := rB HO629 hb
 replace HO641 := ak (Kd.S_lower (Kd.S_new' ho0 (Kd.S_lt (sG HO634))) (below_size (lT HB (gC GE621 (gC GE622 (gC GE635 gN))))))
 replace HO634 := ak (Kd.S_elder' (sG HO634) (Kd.S_base ho0) hb)
 replace BK621 := bB BK621 hb
 replace BK622 := bB BK622 hb
 replace BK635 := bB BK635 hb
 replace HB := ak (below_step (lT HB (gC GE621 (gC GE622 (gC GE635 gN)))) hb)
 replace HI626 := ak (IsS134.below (IsS134.T_ HI626 (nC NB626_621 (nC NB626_622 (nC NB626_635 nN)))) hb)
 try clear hb hb2 hk hi ho0
 obtain ⟨Ao24, co24, eo24⟩ := Kd.S_slice HO641.out
 (first | subst eo24 | (injection eo24 with f1_ f2_ f3_; have f4_ := f1_.symm; have f5_ := f3_.symm; clear f1_ f2_ f3_; subst f4_; subst f5_))
 refine hK.out _ _ (bc BK635 0) (fun hHeld => ?_)
 clear hK K
 refine nm ?_
 refine one_ (i := 3) (N := none) #[t_,t_,t_,t_,f_] rfl rfl (by kernel_rfl) (by decide) (fun K hK => ?_)
 have hs23 : w22.cell? ⟨gb621, 0, none⟩ = some (.slice none 0 0) := bc BK621 0
 have hfs23 := blk_frozen BK621.out 0
 have hns23_1 := NB622_621.out
 have hns23_2 := NB635_621.out
 have hms23_1 := NB621_622.out
 have hms23_2 := NB621_635.out
 refine skip_ (w1 := ?_) (by rfl) rfl ?_ ?_
 rotate_left
 {
 go_simp
 rfl
 }
 refine hK.out _ _ (((cell_far (p := ⟨gb621, _, none⟩) NB635_621.out _).trans (hHeld))) (fun hHeld => ?_)
 clear hK K
 refine one_ (i := 4) (N := none) #[t_,t_,t_,t_,t_] rfl rfl (by kernel_rfl) (by decide) (fun K hK => ?_)
 have hs25 : w22.cell? ⟨gb622, 0, none⟩ = some (.slice none 0 0) := bc BK622 0
 have hfs25 := blk_frozen BK622.out 0
 have hns25_0 := NB621_622.out
 have hns25_2 := NB635_622.out
 have hms25_0 := NB622_621.out
 have hms25_2 := NB622_635.out
 refine skip_ (w1 := ?_) (by rfl) rfl ?_ ?_
 rotate_left
 {
 go_simp
 rfl
 }
 refine hK.out _ _ (((cell_far (p := ⟨gb622, _, none⟩) NB635_622.out _).trans (hHeld))) (fun hHeld => ?_)
 clear hK K
 refine done_ (by kernel_rfl) ?_
 try go_wp2
 refine bodyPost_ret (results_cc rfl _ _ gb621 gb622 60 60 #[.slice Ao15 t632.length co15] #[.slice Ao24 t639.length co24] (0, 0) (0, 0) _ _ rfl (bF BK621 (nC NB621_622 nN)) Try.underlying60 rfl (by kernel_rfl) rfl (bF BK622 (nC NB622_621 nN)) Try.underlying60 rfl (by kernel_rfl)) rfl ?_
 exact ⟨_, _, ew, by (with_reducible repeat (first | apply Kd.S_alloc | apply Kd.S_drewN | apply Kd.S_drew)); exact Kd.S_mono (Kd.S_far (p := ⟨gb622, 0, none⟩) (Kd.S_far (p := ⟨gb621, 0, none⟩) (Kd.S_types (Kd.S_types HO634.out BK621.out (by decide)) BK622.out (by decide)) (fun _ hk => hk.1.2) (.slice Ao15 t632.length co15)) (fun _ hk => hk.2) (.slice Ao24 t639.length co24)) (fun _ hk => hk.1.1.2), by (with_reducible repeat (first | apply Kd.S_alloc | apply Kd.S_drewN | apply Kd.S_drew)); exact Kd.S_mono (Kd.S_far (p := ⟨gb622, 0, none⟩) (Kd.S_far (p := ⟨gb621, 0, none⟩) (Kd.S_types (Kd.S_types HO641.out BK621.out (by decide)) BK622.out (by decide)) (fun _ hk => hk.1.2) (.slice Ao15 t632.length co15)) (fun _ hk => hk.2) (.slice Ao24 t639.length co24)) (fun _ hk => hk.1.1.2), lT HB (gC GE621 (gC GE622 (gC GE635 gN)))⟩
 }
 {
 replace c6 := Bool.eq_false_iff.mpr c6
 subst c6
 rw [if_neg (show ¬ (false = true) by decide)] at H
 obtain ⟨⟨t642, t645, t646⟩, A26, H⟩ := eb H
 try dsimp only at H
 simp only [Option.some.injEq, Prod.mk.injEq] at H
 obtain ⟨rfl, rfl⟩ := H
 refine ⟨?_⟩
 try go_wp2
 replace HO629 := ak (Kd.R_drew HO629.out)
 replace HO634 := ak (Kd.S_drew HO634.out)
 replace BK621 := ak (blk_drew BK621.out)
 replace BK622 := ak (blk_drew BK622.out)
 replace BK635 := ak (blk_drew BK635.out)
 replace HI626 := ak (IsS134.drew HI626.out)
 replace HB := ak (below_drew1 HB.out)
 refine start_ (n := 5) (S := fun w' => w'.cell? ⟨gb635, 0, none⟩ = some (.slice Ao15 t632.length co15)) (ds := []) (fb 5 0) (by kernel_rfl) rfl rfl (bc BK635 0) (fun hHeld => ?_)
 generalize w20.drew = w40 at HO629 HO634 BK621 BK622 BK635 HI626 HB hHeld ⊢
 refine pure_ (i := 1) (N := some 19) (v := ?_) (a' := ?_) #[f_,t_,f_,f_,f_] rfl rfl (by kernel_rfl) (fun _ _ _ h => h) (Or.inl ⟨by rfl, ?_⟩) ?_ ?_
 rotate_left
 {
 intro w'
 go_simp
 with_reducible rfl
 }
 rotate_left
 {
 simp only [Act.put, List.setIfInBounds_toArray, List.set_cons_zero, List.set_cons_succ, i64_w, i32_w]
 rfl
 }
 refine take_ (i := 0) (N := some 18) (v := ?_) (a' := ?_) #[t_,t_,f_,f_,f_] rfl rfl (by kernel_rfl) (fun _ _ _ h => h) (Or.inl ⟨by rfl, ?_⟩) hHeld ?_ ?_
 rotate_left
 {
 intro w' s0
 go_simp
 with_reducible rfl
 }
 rotate_left
 {
 simp only [Act.put, List.setIfInBounds_toArray, List.set_cons_zero, List.set_cons_succ, i64_w, i32_w]
 rfl
 }
 refine one_ (i := 2) (N := some 20) #[t_,t_,t_,f_,f_] rfl rfl (by kernel_rfl) (by decide) (fun K hK => ?_)
 refine gs Try.func89 #[.pointer (some ⟨g626, 0, none⟩)] ?_
 with_reducible refine (spec_l07State.calls k g626 t623 t637 t638 t642 t645 t646 w _ ?side1 ?side2 A26.out).mono ?_
 (case side1 => exact IsS134.T_ HI626 (nC NB626_621 (nC NB626_622 (nC NB626_635 nN))))
 (case side2 => exact lT HB (gC GE621 (gC GE622 (gC GE635 gN))))
 rintro e w41 ⟨v643, rfl, ho0, hi, hb, hk⟩
 refine ⟨_, rfl, ?_⟩
 replace BK621 := kB hk (bG BK621) NB621_626
 replace BK622 := kB hk (bG BK622) NB622_626
 replace HO629 := IsS134.kR hk (show IsS134 w _ g626 t623 t637 t638 from IsS134.T_ HI626 (nC NB626_621 (nC NB626_622 (nC NB626_635 nN)))) (rG HO629)
 replace BK635 := kB hk (bG BK635) NB635_626
 replace HO644 := ak (Kd.S_lower (Kd.S_new' ho0 (Kd.S_lt (sG HO634))) (below_size (lT HB (gC GE621 (gC GE622 (gC GE635 gN))))))
 replace HO634 := ak (Kd.S_mono (Kd.S_told (Kd.S_oldK (IsS134.apartS (show IsS134 w _ g626 t623 t637 t638 from IsS134.T_ HI626 (nC NB626_621 (nC NB626_622 (nC NB626_635 nN)))) (sG HO634) (by decide)) hk) (Kd.S_base ho0)) (fun _ h_ => h_.1))
 replace HB := ak (hb)
 replace HI626 := ak (hi)
 try clear hb hb2 hk hi ho0
 obtain ⟨Ao43, co43, eo43⟩ := Kd.S_slice HO644.out
 (first | subst eo43 | (injection eo43 with f1_ f2_ f3_; have f4_ := f1_.symm; have f5_ := f3_.symm; clear f1_ f2_ f3_; subst f4_; subst f5_))
 refine hK.out _ _ (bc BK635 0) (fun hHeld => ?_)
 clear hK K
 refine nm ?_
 refine one_ (i := 3) (N := none) #[t_,t_,t_,t_,f_] rfl rfl (by kernel_rfl) (by decide) (fun K hK => ?_)
 have hs42 : w41.cell? ⟨gb621, 0, none⟩ = some (.slice none 0 0) := bc BK621 0
 have hfs42 := blk_frozen BK621.out 0
 have hns42_1 := NB622_621.out
 have hns42_2 := NB635_621.out
 have hms42_1 := NB621_622.out
 have hms42_2 := NB621_635.out
 refine skip_ (w1 := ?_) (by rfl) rfl ?_ ?_
 rotate_left
 {
 go_simp
 rfl
 }
 refine hK.out _ _ (((cell_far (p := ⟨gb621, _, none⟩) NB635_621.out _).trans (hHeld))) (fun hHeld => ?_)
 clear hK K
 refine one_ (i := 4) (N := none) #[t_,t_,t_,t_,t_] rfl rfl (by kernel_rfl) (by decide) (fun K hK => ?_)
 have hs44 : w41.cell? ⟨gb622, 0, none⟩ = some (.slice none 0 0) := bc BK622 0
 have hfs44 := blk_frozen BK622.out 0
 have hns44_0 := NB621_622.out
 have hns44_2 := NB635_622.out
 have hms44_0 := NB622_621.out
 have hms44_2 := NB622_635.out
 refine skip_ (w1 := ?_) (by rfl) rfl ?_ ?_
 rotate_left
 {
 go_simp
 rfl
 }
 refine hK.out _ _ (((cell_far (p := ⟨gb622, _, none⟩) NB635_622.out _).trans (hHeld))) (fun hHeld => ?_)
 clear hK K
 refine done_ (by kernel_rfl) ?_
 try go_wp2
 refine bodyPost_ret (results_cc rfl _ _ gb621 gb622 60 60 #[.slice Ao15 t632.length co15] #[.slice Ao43 t642.length co43] (0, 0) (0, 0) _ _ rfl (bF BK621 (nC NB621_622 nN)) Try.underlying60 rfl (by kernel_rfl) rfl (bF BK622 (nC NB622_621 nN)) Try.underlying60 rfl (by kernel_rfl)) rfl ?_
 exact ⟨_, _, ew, by (with_reducible repeat (first | apply Kd.S_alloc | apply Kd.S_drewN | apply Kd.S_drew)); exact Kd.S_mono (Kd.S_far (p := ⟨gb622, 0, none⟩) (Kd.S_far (p := ⟨gb621, 0, none⟩) (Kd.S_types (Kd.S_types HO634.out BK621.out (by decide)) BK622.out (by decide)) (fun _ hk => hk.1.2) (.slice Ao15 t632.length co15)) (fun _ hk => hk.2) (.slice Ao43 t642.length co43)) (fun _ hk => hk.1.1.2), by (with_reducible repeat (first | apply Kd.S_alloc | apply Kd.S_drewN | apply Kd.S_drew)); exact Kd.S_mono (Kd.S_far (p := ⟨gb622, 0, none⟩) (Kd.S_far (p := ⟨gb621, 0, none⟩) (Kd.S_types (Kd.S_types HO644.out BK621.out (by decide)) BK622.out (by decide)) (fun _ hk => hk.1.2) (.slice Ao15 t632.length co15)) (fun _ hk => hk.2) (.slice Ao43 t642.length co43)) (fun _ hk => hk.1.1.2), lT HB (gC GE621 (gC GE622 (gC GE635 gN)))⟩
 }
def spec_DrawStateOk.f (k : Nat) (l0 : List Int) : Option ((List (S66))) := (spec_l01New.f k l0).bind fun bt648 => ((spec_l07State.f k bt648.1 bt648.2.1 bt648.2.2).bind fun bt652 => (some bt652.1))
theorem spec_DrawStateOk.mono : ∀ a0 k, LeO (spec_DrawStateOk.f k a0) (spec_DrawStateOk.f (k + 1) a0) := by
 intro a0 k
 unfold spec_DrawStateOk.f
 repeat' with_reducible first | exact spec_l01New.mono _ _ | exact spec_l07State.mono _ _ _ _ | exact LeO.refl _ | exact LeO.none _ | refine LeO.ite ?_ ?_ | refine LeO.bind ?_ (fun _ => ?_)
theorem spec_DrawStateOk.calls (k : Nat) (A0 : Option Addr) (c0 : Nat) (l0 : List Int) (r : List (S66)) (w : World) (hr0 : Kd.C (Kd.int .u8) w A0 l0.length l0) (hc0 : l0.length ≤ c0) (h : spec_DrawStateOk.f k l0 = some r) :
  Calls Try.prog 49 #[.slice A0 l0.length c0] w fun e w' => ∃ v0_ : Value, e = .returned (.agg #[v0_]) ∧ Kd.S k66 66 w' w.heap.size (fun _ => True) v0_ r ∧ Below w.heap.size w w' := by
 have hu60 := Try.underlying60
 have HR0 := Aside0.mk hr0
 have HC0 := Aside0.mk hc0
 clear hr0 hc0
 have HB := ak (Below.refl w.heap.size w)
 have H := h
 clear h
 unfold spec_DrawStateOk.f at H
 obtain ⟨⟨t648, t649, t650⟩, A2, H⟩ := eb H
 try dsimp only at H
 obtain ⟨⟨t652, t655, t656⟩, A3, H⟩ := eb H
 try dsimp only at H
 obtain rfl := Option.some.inj H
 go_enter Try.func49, Try.ntmps49
 go_wp2_with (first | ((with_reducible refine gate_dst (N := 2) rfl ?_); refine bx 2 #[.slice none 0 0] 60 ?_; intro gb647 hg w4 hbox hb; replace BK647 := ak (hbox); replace GE647 := ak (bz hg (lG HB)); replace HB := lB HB hb; clear hb hbox hg) | ((with_reducible refine gate_callee (f := 67) rfl ?_); refine gl (some 4) Try.func67 #[.slice A0 l0.length c0] ?_; (with_reducible refine (spec_l01New.calls k _ _ l0 t648 t649 t650 w _ ?side1 ?side2 ?side3 A2.out).mono ?_); (case side1 => exact lT HB (gC GE647 gN)); (case side2 => exact HR0.out); (case side3 => exact HC0.out); rintro e w5 ⟨g651, rfl, hi, hb, hb2⟩; refine ⟨_, rfl, ?_⟩; replace HB := ak (hb); replace HI651 := ak (hi); replace NB651_647 := ak (IsS134.ne_blk hi (blk_below (bG BK647) hb2) (by decide)); replace NB647_651 := ak (Ne.symm (IsS134.ne_blk hi (blk_below (bG BK647) hb2) (by decide))); replace BK647 := ak (blk_below (bG BK647) hb2); (try clear hb); (try clear hb2); (try clear hk); (try clear hi)) | ((with_reducible refine gate_callee (f := 89) rfl ?_); refine gl (some 5) Try.func89 #[.pointer (some ⟨g651, 0, none⟩)] ?_; (with_reducible refine (spec_l07State.calls k g651 t648 t649 t650 t652 t655 t656 w _ ?side1 ?side2 A3.out).mono ?_); (case side1 => exact IsS134.T_ HI651 (nC NB651_647 nN)); (case side2 => exact lT HB (gC GE647 gN)); rintro e w6 ⟨v653, rfl, ho0, hi, hb, hk⟩; refine ⟨_, rfl, ?_⟩; replace BK647 := kB hk (bG BK647) NB647_651; replace HO654 := ak (Kd.S_lower ho0 (below_size (lT HB (gC GE647 gN)))); replace HB := ak (hb); replace HI651 := ak (hi); (try clear hb); (try clear hb2); (try clear hk); (try clear hi); (try clear ho0); obtain ⟨Ao7, co7, eo7⟩ := Kd.S_slice HO654.out; subst eo7; have hnb8 := NB647_651.out; have hnc8 := NB651_647.out; obtain ⟨_, _⟩ := bC1 BK647))
 refine bodyPost_ret (results_cell_row rfl _ _ gb647 60 #[.slice Ao7 t652.length co7] (0, 0) _ rfl (bW BK647) Try.underlying60 rfl (by kernel_rfl)) rfl ?_
 exact ⟨_, ew, by (with_reducible repeat (first | apply Kd.S_alloc | apply Kd.S_drewN | apply Kd.S_drew)); exact Kd.S_mono (Kd.S_far (p := ⟨gb647, 0, none⟩) (Kd.S_types HO654.out BK647.out (by decide)) (fun _ hk => hk.2) (.slice Ao7 t652.length co7)) (fun _ hk => trivial), lT HB (gC GE647 gN)⟩
end Go.Proofs.Ytagkjeldheiejaa.PFnStatesTold
