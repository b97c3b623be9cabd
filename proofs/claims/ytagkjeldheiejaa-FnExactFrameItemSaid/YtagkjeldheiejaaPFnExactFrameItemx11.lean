-- Written for this claim by a program of mine (a turned copy of the kit's print): functions as plain Lean, and their contracts. Lean checks it.
import Derived.Test.YtagkjeldheiejaaPFnExactFrameItemx0
import Derived.Test.YtagkjeldheiejaaPFnExactFrameItemx2
import Derived.Test.YtagkjeldheiejaaPFnExactFrameItemx8
import Derived.Test.YtagkjeldheiejaaPFnExactFrameItemx10
import Derived.Test.YtagkjeldheiejaaVFnExactFrameItem1
namespace Go.Proofs.Ytagkjeldheiejaa.PFnExactFrameItem
open Go.RowKit Go.Proofs.YtagkjeldheiejaaW.PrintWords Go.Proofs.YtagkjeldheiejaaW.PrintLast Go.Proofs.YtagkjeldheiejaaW.PrintMore
attribute [local go_sem] max2_int min2_int max_two min_two max_three min_three max_four min_four   -- for this text's walks alone
set_option linter.unusedVariables false
set_option linter.unusedSimpArgs false

/-! ### laws_eqRec: function 12 -/
def laws_eqRec.f (a0_0 : Int) (a0_1 : Int) (a0_2 : Int) (a0_3 : Int) (a0_4 : Int) (a0_5 : ByteArray) (a0_6 : ByteArray) (a0_7 : ByteArray) (a1_0 : Int) (a1_1 : Int) (a1_2 : Int) (a1_3 : Int) (a1_4 : Int) (a1_5 : ByteArray) (a1_6 : ByteArray) (a1_7 : ByteArray) : Option (Bool) := if a0_0 = a1_0 then (if a0_1 = a1_1 then (if a0_2 = a1_2 then (if a0_3 = a1_3 then (if a0_4 = a1_4 then (if a0_5.toList = a1_5.toList then (if a0_6.toList = a1_6.toList then (if a0_7.toList = a1_7.toList then (some true) else (some false)) else (some false)) else (some false)) else (some false)) else (some false)) else (some false)) else (some false)) else (some false)
set_option maxHeartbeats 8000000 in
set_option maxRecDepth 100000 in
theorem laws_eqRec.calls (a0_0 : Int) (a0_1 : Int) (a0_2 : Int) (a0_3 : Int) (a0_4 : Int) (a0_5 : ByteArray) (a0_6 : ByteArray) (a0_7 : ByteArray) (a1_0 : Int) (a1_1 : Int) (a1_2 : Int) (a1_3 : Int) (a1_4 : Int) (a1_5 : ByteArray) (a1_6 : ByteArray) (a1_7 : ByteArray) (r : Bool) (w : World) (h : laws_eqRec.f a0_0 a0_1 a0_2 a0_3 a0_4 a0_5 a0_6 a0_7 a1_0 a1_1 a1_2 a1_3 a1_4 a1_5 a1_6 a1_7 = some r) :
  Calls Try.prog 12 #[.agg #[.int .i64 a0_0, .int .i64 a0_1, .int .i64 a0_2, .int .i64 a0_3, .int .i64 a0_4, .string a0_5, .string a0_6, .string a0_7], .agg #[.int .i64 a1_0, .int .i64 a1_1, .int .i64 a1_2, .int .i64 a1_3, .int .i64 a1_4, .string a1_5, .string a1_6, .string a1_7]] w fun e w' => e = .returned (.bool r) ∧ Below w.heap.size w w' := by
 have hu23 := Try.underlying23
 have HB := ak (Below.refl w.heap.size w)
 have H : (if a0_0 = a1_0 then (if a0_1 = a1_1 then (if a0_2 = a1_2 then (if a0_3 = a1_3 then (if a0_4 = a1_4 then (if a0_5.toList = a1_5.toList then (if a0_6.toList = a1_6.toList then (if a0_7.toList = a1_7.toList then (some true) else (some false)) else (some false)) else (some false)) else (some false)) else (some false)) else (some false)) else (some false)) else (some false)) = some r := h
 clear h
 by_cases c3 : a0_0 = a1_0
 ·rw [if_pos c3] at H
  have c3b0 : (a0_0 == a1_0) = true := beq_iff_eq.mpr c3
  have c3b1 : (a0_0 != a1_0) = false := bne_eq_false_iff_eq.mpr c3
  clear c3
  by_cases c4 : a0_1 = a1_1
  ·rw [if_pos c4] at H
   have c4b0 : (a0_1 == a1_1) = true := beq_iff_eq.mpr c4
   have c4b1 : (a0_1 != a1_1) = false := bne_eq_false_iff_eq.mpr c4
   clear c4
   by_cases c5 : a0_2 = a1_2
   ·rw [if_pos c5] at H
    have c5b0 : (a0_2 == a1_2) = true := beq_iff_eq.mpr c5
    have c5b1 : (a0_2 != a1_2) = false := bne_eq_false_iff_eq.mpr c5
    clear c5
    by_cases c6 : a0_3 = a1_3
    ·rw [if_pos c6] at H
     have c6b0 : (a0_3 == a1_3) = true := beq_iff_eq.mpr c6
     have c6b1 : (a0_3 != a1_3) = false := bne_eq_false_iff_eq.mpr c6
     clear c6
     by_cases c7 : a0_4 = a1_4
     ·rw [if_pos c7] at H
      have c7b0 : (a0_4 == a1_4) = true := beq_iff_eq.mpr c7
      have c7b1 : (a0_4 != a1_4) = false := bne_eq_false_iff_eq.mpr c7
      clear c7
      by_cases c8 : a0_5.toList = a1_5.toList
      ·rw [if_pos c8] at H
       have c8b0 : (a0_5.toList == a1_5.toList) = true := beq_iff_eq.mpr c8
       have c8b1 : (a0_5.toList != a1_5.toList) = false := bne_eq_false_iff_eq.mpr c8
       clear c8
       by_cases c9 : a0_6.toList = a1_6.toList
       ·rw [if_pos c9] at H
        have c9b0 : (a0_6.toList == a1_6.toList) = true := beq_iff_eq.mpr c9
        have c9b1 : (a0_6.toList != a1_6.toList) = false := bne_eq_false_iff_eq.mpr c9
        clear c9
        by_cases c10 : a0_7.toList = a1_7.toList
        ·rw [if_pos c10] at H
         have c10b0 : (a0_7.toList == a1_7.toList) = true := beq_iff_eq.mpr c10
         have c10b1 : (a0_7.toList != a1_7.toList) = false := bne_eq_false_iff_eq.mpr c10
         clear c10
         obtain rfl := Option.some.inj H
         go_enter Try.func12, Try.ntmps12
         go_wp2_with (first | ((with_reducible refine gate_dst (N := 2) rfl ?_); refine bx 2 #[.int .i64 a0_0, .int .i64 a0_1, .int .i64 a0_2, .int .i64 a0_3, .int .i64 a0_4, .string a0_5, .string a0_6, .string a0_7] 23 ?_; intro gb241 hg w11 hbox hb; replace BK241 := ak (hbox); replace GW241 := ak (bz hg (lG HB)); replace GE241 := ak (bz hg (lG HB)); replace HB := lB HB hb; clear hb hbox hg) | ((with_reducible refine gate_dst (N := 3) rfl ?_); refine bx 3 #[.int .i64 a1_0, .int .i64 a1_1, .int .i64 a1_2, .int .i64 a1_3, .int .i64 a1_4, .string a1_5, .string a1_6, .string a1_7] 23 ?_; intro gb242 hg w12 hbox hb; replace BK242 := ak (hbox); replace GW242 := ak (bz hg (lT HB (gC GE241 gN))); replace GE242 := ak (bz hg (lT HB (gC GE241 gN))); replace HB := ak (below_step (lT HB (gC GE241 gN)) hb); replace NB241_242 := ak (nl hg (bG BK241)); replace NB242_241 := ak (ng hg (bG BK241)); replace BK241 := bB BK241 hb; clear hb hbox hg; have hnb13 := NB241_242.out; have hnc13 := NB242_241.out; obtain ⟨hcz14_0, hcz14_1, hcz14_2, hcz14_3, hcz14_4, hcz14_5, hcz14_6, hcz14_7, hfz14_0, hfz14_1, hfz14_2, hfz14_3, hfz14_4, hfz14_5, hfz14_6, hfz14_7⟩ := bC8 BK241; obtain ⟨hcz15_0, hcz15_1, hcz15_2, hcz15_3, hcz15_4, hcz15_5, hcz15_6, hcz15_7, hfz15_0, hfz15_1, hfz15_2, hfz15_3, hfz15_4, hfz15_5, hfz15_6, hfz15_7⟩ := bC8 BK242))
         go_ret
         exact ⟨ew, by exact lT HB (gC GE241 (gC GE242 gN))⟩
        ·rw [if_neg c10] at H
         have c10b0 : (a0_7.toList == a1_7.toList) = false := beq_eq_false_iff_ne.mpr c10
         have c10b1 : (a0_7.toList != a1_7.toList) = true := bne_iff_ne.mpr c10
         obtain rfl := Option.some.inj H
         go_enter Try.func12, Try.ntmps12
         go_wp2_with (first | ((with_reducible refine gate_dst (N := 2) rfl ?_); refine bx 2 #[.int .i64 a0_0, .int .i64 a0_1, .int .i64 a0_2, .int .i64 a0_3, .int .i64 a0_4, .string a0_5, .string a0_6, .string a0_7] 23 ?_; intro gb241 hg w16 hbox hb; replace BK241 := ak (hbox); replace GW241 := ak (bz hg (lG HB)); replace GE241 := ak (bz hg (lG HB)); replace HB := lB HB hb; clear hb hbox hg) | ((with_reducible refine gate_dst (N := 3) rfl ?_); refine bx 3 #[.int .i64 a1_0, .int .i64 a1_1, .int .i64 a1_2, .int .i64 a1_3, .int .i64 a1_4, .string a1_5, .string a1_6, .string a1_7] 23 ?_; intro gb242 hg w17 hbox hb; replace BK242 := ak (hbox); replace GW242 := ak (bz hg (lT HB (gC GE241 gN))); replace GE242 := ak (bz hg (lT HB (gC GE241 gN))); replace HB := ak (below_step (lT HB (gC GE241 gN)) hb); replace NB241_242 := ak (nl hg (bG BK241)); replace NB242_241 := ak (ng hg (bG BK241)); replace BK241 := bB BK241 hb; clear hb hbox hg; have hnb18 := NB241_242.out; have hnc18 := NB242_241.out; obtain ⟨hcz19_0, hcz19_1, hcz19_2, hcz19_3, hcz19_4, hcz19_5, hcz19_6, hcz19_7, hfz19_0, hfz19_1, hfz19_2, hfz19_3, hfz19_4, hfz19_5, hfz19_6, hfz19_7⟩ := bC8 BK241; obtain ⟨hcz20_0, hcz20_1, hcz20_2, hcz20_3, hcz20_4, hcz20_5, hcz20_6, hcz20_7, hfz20_0, hfz20_1, hfz20_2, hfz20_3, hfz20_4, hfz20_5, hfz20_6, hfz20_7⟩ := bC8 BK242))
         go_ret
         exact ⟨ew, by exact lT HB (gC GE241 (gC GE242 gN))⟩
       ·rw [if_neg c9] at H
        have c9b0 : (a0_6.toList == a1_6.toList) = false := beq_eq_false_iff_ne.mpr c9
        have c9b1 : (a0_6.toList != a1_6.toList) = true := bne_iff_ne.mpr c9
        obtain rfl := Option.some.inj H
        go_enter Try.func12, Try.ntmps12
        go_wp2_with (first | ((with_reducible refine gate_dst (N := 2) rfl ?_); refine bx 2 #[.int .i64 a0_0, .int .i64 a0_1, .int .i64 a0_2, .int .i64 a0_3, .int .i64 a0_4, .string a0_5, .string a0_6, .string a0_7] 23 ?_; intro gb241 hg w21 hbox hb; replace BK241 := ak (hbox); replace GW241 := ak (bz hg (lG HB)); replace GE241 := ak (bz hg (lG HB)); replace HB := lB HB hb; clear hb hbox hg) | ((with_reducible refine gate_dst (N := 3) rfl ?_); refine bx 3 #[.int .i64 a1_0, .int .i64 a1_1, .int .i64 a1_2, .int .i64 a1_3, .int .i64 a1_4, .string a1_5, .string a1_6, .string a1_7] 23 ?_; intro gb242 hg w22 hbox hb; replace BK242 := ak (hbox); replace GW242 := ak (bz hg (lT HB (gC GE241 gN))); replace GE242 := ak (bz hg (lT HB (gC GE241 gN))); replace HB := ak (below_step (lT HB (gC GE241 gN)) hb); replace NB241_242 := ak (nl hg (bG BK241)); replace NB242_241 := ak (ng hg (bG BK241)); replace BK241 := bB BK241 hb; clear hb hbox hg; have hnb23 := NB241_242.out; have hnc23 := NB242_241.out; obtain ⟨hcz24_0, hcz24_1, hcz24_2, hcz24_3, hcz24_4, hcz24_5, hcz24_6, hcz24_7, hfz24_0, hfz24_1, hfz24_2, hfz24_3, hfz24_4, hfz24_5, hfz24_6, hfz24_7⟩ := bC8 BK241; obtain ⟨hcz25_0, hcz25_1, hcz25_2, hcz25_3, hcz25_4, hcz25_5, hcz25_6, hcz25_7, hfz25_0, hfz25_1, hfz25_2, hfz25_3, hfz25_4, hfz25_5, hfz25_6, hfz25_7⟩ := bC8 BK242))
        go_ret
        exact ⟨ew, by exact lT HB (gC GE241 (gC GE242 gN))⟩
      ·rw [if_neg c8] at H
       have c8b0 : (a0_5.toList == a1_5.toList) = false := beq_eq_false_iff_ne.mpr c8
       have c8b1 : (a0_5.toList != a1_5.toList) = true := bne_iff_ne.mpr c8
       obtain rfl := Option.some.inj H
       go_enter Try.func12, Try.ntmps12
       go_wp2_with (first | ((with_reducible refine gate_dst (N := 2) rfl ?_); refine bx 2 #[.int .i64 a0_0, .int .i64 a0_1, .int .i64 a0_2, .int .i64 a0_3, .int .i64 a0_4, .string a0_5, .string a0_6, .string a0_7] 23 ?_; intro gb241 hg w26 hbox hb; replace BK241 := ak (hbox); replace GW241 := ak (bz hg (lG HB)); replace GE241 := ak (bz hg (lG HB)); replace HB := lB HB hb; clear hb hbox hg) | ((with_reducible refine gate_dst (N := 3) rfl ?_); refine bx 3 #[.int .i64 a1_0, .int .i64 a1_1, .int .i64 a1_2, .int .i64 a1_3, .int .i64 a1_4, .string a1_5, .string a1_6, .string a1_7] 23 ?_; intro gb242 hg w27 hbox hb; replace BK242 := ak (hbox); replace GW242 := ak (bz hg (lT HB (gC GE241 gN))); replace GE242 := ak (bz hg (lT HB (gC GE241 gN))); replace HB := ak (below_step (lT HB (gC GE241 gN)) hb); replace NB241_242 := ak (nl hg (bG BK241)); replace NB242_241 := ak (ng hg (bG BK241)); replace BK241 := bB BK241 hb; clear hb hbox hg; have hnb28 := NB241_242.out; have hnc28 := NB242_241.out; obtain ⟨hcz29_0, hcz29_1, hcz29_2, hcz29_3, hcz29_4, hcz29_5, hcz29_6, hcz29_7, hfz29_0, hfz29_1, hfz29_2, hfz29_3, hfz29_4, hfz29_5, hfz29_6, hfz29_7⟩ := bC8 BK241; obtain ⟨hcz30_0, hcz30_1, hcz30_2, hcz30_3, hcz30_4, hcz30_5, hcz30_6, hcz30_7, hfz30_0, hfz30_1, hfz30_2, hfz30_3, hfz30_4, hfz30_5, hfz30_6, hfz30_7⟩ := bC8 BK242))
       go_ret
       exact ⟨ew, by exact lT HB (gC GE241 (gC GE242 gN))⟩
     ·rw [if_neg c7] at H
      have c7b0 : (a0_4 == a1_4) = false := beq_eq_false_iff_ne.mpr c7
      have c7b1 : (a0_4 != a1_4) = true := bne_iff_ne.mpr c7
      obtain rfl := Option.some.inj H
      go_enter Try.func12, Try.ntmps12
      go_wp2_with (first | ((with_reducible refine gate_dst (N := 2) rfl ?_); refine bx 2 #[.int .i64 a0_0, .int .i64 a0_1, .int .i64 a0_2, .int .i64 a0_3, .int .i64 a0_4, .string a0_5, .string a0_6, .string a0_7] 23 ?_; intro gb241 hg w31 hbox hb; replace BK241 := ak (hbox); replace GW241 := ak (bz hg (lG HB)); replace GE241 := ak (bz hg (lG HB)); replace HB := lB HB hb; clear hb hbox hg) | ((with_reducible refine gate_dst (N := 3) rfl ?_); refine bx 3 #[.int .i64 a1_0, .int .i64 a1_1, .int .i64 a1_2, .int .i64 a1_3, .int .i64 a1_4, .string a1_5, .string a1_6, .string a1_7] 23 ?_; intro gb242 hg w32 hbox hb; replace BK242 := ak (hbox); replace GW242 := ak (bz hg (lT HB (gC GE241 gN))); replace GE242 := ak (bz hg (lT HB (gC GE241 gN))); replace HB := ak (below_step (lT HB (gC GE241 gN)) hb); replace NB241_242 := ak (nl hg (bG BK241)); replace NB242_241 := ak (ng hg (bG BK241)); replace BK241 := bB BK241 hb; clear hb hbox hg; have hnb33 := NB241_242.out; have hnc33 := NB242_241.out; obtain ⟨hcz34_0, hcz34_1, hcz34_2, hcz34_3, hcz34_4, hcz34_5, hcz34_6, hcz34_7, hfz34_0, hfz34_1, hfz34_2, hfz34_3, hfz34_4, hfz34_5, hfz34_6, hfz34_7⟩ := bC8 BK241; obtain ⟨hcz35_0, hcz35_1, hcz35_2, hcz35_3, hcz35_4, hcz35_5, hcz35_6, hcz35_7, hfz35_0, hfz35_1, hfz35_2, hfz35_3, hfz35_4, hfz35_5, hfz35_6, hfz35_7⟩ := bC8 BK242))
      go_ret
      exact ⟨ew, by exact lT HB (gC GE241 (gC GE242 gN))⟩
    ·rw [if_neg c6] at H
     have c6b0 : (a0_3 == a1_3) = false := beq_eq_false_iff_ne.mpr c6
     have c6b1 : (a0_3 != a1_3) = true := bne_iff_ne.mpr c6
     obtain rfl := Option.some.inj H
     go_enter Try.func12, Try.ntmps12
     go_wp2_with (first | ((with_reducible refine gate_dst (N := 2) rfl ?_); refine bx 2 #[.int .i64 a0_0, .int .i64 a0_1, .int .i64 a0_2, .int .i64 a0_3, .int .i64 a0_4, .string a0_5, .string a0_6, .string a0_7] 23 ?_; intro gb241 hg w36 hbox hb; replace BK241 := ak (hbox); replace GW241 := ak (bz hg (lG HB)); replace GE241 := ak (bz hg (lG HB)); replace HB := lB HB hb; clear hb hbox hg) | ((with_reducible refine gate_dst (N := 3) rfl ?_); refine bx 3 #[.int .i64 a1_0, .int .i64 a1_1, .int .i64 a1_2, .int .i64 a1_3, .int .i64 a1_4, .string a1_5, .string a1_6, .string a1_7] 23 ?_; intro gb242 hg w37 hbox hb; replace BK242 := ak (hbox); replace GW242 := ak (bz hg (lT HB (gC GE241 gN))); replace GE242 := ak (bz hg (lT HB (gC GE241 gN))); replace HB := ak (below_step (lT HB (gC GE241 gN)) hb); replace NB241_242 := ak (nl hg (bG BK241)); replace NB242_241 := ak (ng hg (bG BK241)); replace BK241 := bB BK241 hb; clear hb hbox hg; have hnb38 := NB241_242.out; have hnc38 := NB242_241.out; obtain ⟨hcz39_0, hcz39_1, hcz39_2, hcz39_3, hcz39_4, hcz39_5, hcz39_6, hcz39_7, hfz39_0, hfz39_1, hfz39_2, hfz39_3, hfz39_4, hfz39_5, hfz39_6, hfz39_7⟩ := bC8 BK241; obtain ⟨hcz40_0, hcz40_1, hcz40_2, hcz40_3, hcz40_4, hcz40_5, hcz40_6, hcz40_7, hfz40_0, hfz40_1, hfz40_2, hfz40_3, hfz40_4, hfz40_5, hfz40_6, hfz40_7⟩ := bC8 BK242))
     go_ret
     exact ⟨ew, by exact lT HB (gC GE241 (gC GE242 gN))⟩
   ·rw [if_neg c5] at H
    have c5b0 : (a0_2 == a1_2) = false := beq_eq_false_iff_ne.mpr c5
    have c5b1 : (a0_2 != a1_2) = true := bne_iff_ne.mpr c5
    obtain rfl := Option.some.inj H
    go_enter Try.func12, Try.ntmps12
    go_wp2_with (first | ((with_reducible refine gate_dst (N := 2) rfl ?_); refine bx 2 #[.int .i64 a0_0, .int .i64 a0_1, .int .i64 a0_2, .int .i64 a0_3, .int .i64 a0_4, .string a0_5, .string a0_6, .string a0_7] 23 ?_; intro gb241 hg w41 hbox hb; replace BK241 := ak (hbox); replace GW241 := ak (bz hg (lG HB)); replace GE241 := ak (bz hg (lG HB)); replace HB := lB HB hb; clear hb hbox hg) | ((with_reducible refine gate_dst (N := 3) rfl ?_); refine bx 3 #[.int .i64 a1_0, .int .i64 a1_1, .int .i64 a1_2, .int .i64 a1_3, .int .i64 a1_4, .string a1_5, .string a1_6, .string a1_7] 23 ?_; intro gb242 hg w42 hbox hb; replace BK242 := ak (hbox); replace GW242 := ak (bz hg (lT HB (gC GE241 gN))); replace GE242 := ak (bz hg (lT HB (gC GE241 gN))); replace HB := ak (below_step (lT HB (gC GE241 gN)) hb); replace NB241_242 := ak (nl hg (bG BK241)); replace NB242_241 := ak (ng hg (bG BK241)); replace BK241 := bB BK241 hb; clear hb hbox hg; have hnb43 := NB241_242.out; have hnc43 := NB242_241.out; obtain ⟨hcz44_0, hcz44_1, hcz44_2, hcz44_3, hcz44_4, hcz44_5, hcz44_6, hcz44_7, hfz44_0, hfz44_1, hfz44_2, hfz44_3, hfz44_4, hfz44_5, hfz44_6, hfz44_7⟩ := bC8 BK241; obtain ⟨hcz45_0, hcz45_1, hcz45_2, hcz45_3, hcz45_4, hcz45_5, hcz45_6, hcz45_7, hfz45_0, hfz45_1, hfz45_2, hfz45_3, hfz45_4, hfz45_5, hfz45_6, hfz45_7⟩ := bC8 BK242))
    go_ret
    exact ⟨ew, by exact lT HB (gC GE241 (gC GE242 gN))⟩
  ·rw [if_neg c4] at H
   have c4b0 : (a0_1 == a1_1) = false := beq_eq_false_iff_ne.mpr c4
   have c4b1 : (a0_1 != a1_1) = true := bne_iff_ne.mpr c4
   obtain rfl := Option.some.inj H
   go_enter Try.func12, Try.ntmps12
   go_wp2_with (first | ((with_reducible refine gate_dst (N := 2) rfl ?_); refine bx 2 #[.int .i64 a0_0, .int .i64 a0_1, .int .i64 a0_2, .int .i64 a0_3, .int .i64 a0_4, .string a0_5, .string a0_6, .string a0_7] 23 ?_; intro gb241 hg w46 hbox hb; replace BK241 := ak (hbox); replace GW241 := ak (bz hg (lG HB)); replace GE241 := ak (bz hg (lG HB)); replace HB := lB HB hb; clear hb hbox hg) | ((with_reducible refine gate_dst (N := 3) rfl ?_); refine bx 3 #[.int .i64 a1_0, .int .i64 a1_1, .int .i64 a1_2, .int .i64 a1_3, .int .i64 a1_4, .string a1_5, .string a1_6, .string a1_7] 23 ?_; intro gb242 hg w47 hbox hb; replace BK242 := ak (hbox); replace GW242 := ak (bz hg (lT HB (gC GE241 gN))); replace GE242 := ak (bz hg (lT HB (gC GE241 gN))); replace HB := ak (below_step (lT HB (gC GE241 gN)) hb); replace NB241_242 := ak (nl hg (bG BK241)); replace NB242_241 := ak (ng hg (bG BK241)); replace BK241 := bB BK241 hb; clear hb hbox hg; have hnb48 := NB241_242.out; have hnc48 := NB242_241.out; obtain ⟨hcz49_0, hcz49_1, hcz49_2, hcz49_3, hcz49_4, hcz49_5, hcz49_6, hcz49_7, hfz49_0, hfz49_1, hfz49_2, hfz49_3, hfz49_4, hfz49_5, hfz49_6, hfz49_7⟩ := bC8 BK241; obtain ⟨hcz50_0, hcz50_1, hcz50_2, hcz50_3, hcz50_4, hcz50_5, hcz50_6, hcz50_7, hfz50_0, hfz50_1, hfz50_2, hfz50_3, hfz50_4, hfz50_5, hfz50_6, hfz50_7⟩ := bC8 BK242))
   go_ret
   exact ⟨ew, by exact lT HB (gC GE241 (gC GE242 gN))⟩
 ·rw [if_neg c3] at H
  have c3b0 : (a0_0 == a1_0) = false := beq_eq_false_iff_ne.mpr c3
  have c3b1 : (a0_0 != a1_0) = true := bne_iff_ne.mpr c3
  obtain rfl := Option.some.inj H
  go_enter Try.func12, Try.ntmps12
  go_wp2_with (first | ((with_reducible refine gate_dst (N := 2) rfl ?_); refine bx 2 #[.int .i64 a0_0, .int .i64 a0_1, .int .i64 a0_2, .int .i64 a0_3, .int .i64 a0_4, .string a0_5, .string a0_6, .string a0_7] 23 ?_; intro gb241 hg w51 hbox hb; replace BK241 := ak (hbox); replace GW241 := ak (bz hg (lG HB)); replace GE241 := ak (bz hg (lG HB)); replace HB := lB HB hb; clear hb hbox hg) | ((with_reducible refine gate_dst (N := 3) rfl ?_); refine bx 3 #[.int .i64 a1_0, .int .i64 a1_1, .int .i64 a1_2, .int .i64 a1_3, .int .i64 a1_4, .string a1_5, .string a1_6, .string a1_7] 23 ?_; intro gb242 hg w52 hbox hb; replace BK242 := ak (hbox); replace GW242 := ak (bz hg (lT HB (gC GE241 gN))); replace GE242 := ak (bz hg (lT HB (gC GE241 gN))); replace HB := ak (below_step (lT HB (gC GE241 gN)) hb); replace NB241_242 := ak (nl hg (bG BK241)); replace NB242_241 := ak (ng hg (bG BK241)); replace BK241 := bB BK241 hb; clear hb hbox hg; have hnb53 := NB241_242.out; have hnc53 := NB242_241.out; obtain ⟨hcz54_0, hcz54_1, hcz54_2, hcz54_3, hcz54_4, hcz54_5, hcz54_6, hcz54_7, hfz54_0, hfz54_1, hfz54_2, hfz54_3, hfz54_4, hfz54_5, hfz54_6, hfz54_7⟩ := bC8 BK241; obtain ⟨hcz55_0, hcz55_1, hcz55_2, hcz55_3, hcz55_4, hcz55_5, hcz55_6, hcz55_7, hfz55_0, hfz55_1, hfz55_2, hfz55_3, hfz55_4, hfz55_5, hfz55_6, hfz55_7⟩ := bC8 BK242))
  go_ret
  exact ⟨ew, by exact lT HB (gC GE241 (gC GE242 gN))⟩

/-! ### laws_eqItem: function 17 -/
def laws_eqItem.f (a0_0 : Int) (a0_1 : Int) (a0_2 : Int) (a0_3 : Int) (a0_4 : Int) (a0_5 : Int) (a0_6 : ByteArray) (a0_7 : ByteArray) (a0_8 : ByteArray) (a1_0 : Int) (a1_1 : Int) (a1_2 : Int) (a1_3 : Int) (a1_4 : Int) (a1_5 : Int) (a1_6 : ByteArray) (a1_7 : ByteArray) (a1_8 : ByteArray) : Option (Bool) := if a0_0 = a1_0 then ((laws_eqRec.f a0_1 a0_2 a0_3 a0_4 a0_5 a0_6 a0_7 a0_8 a1_1 a1_2 a1_3 a1_4 a1_5 a1_6 a1_7 a1_8).bind fun t245 => (if t245 = true then (some true) else (some false))) else (some false)
set_option maxHeartbeats 8000000 in
set_option maxRecDepth 100000 in
theorem laws_eqItem.calls (a0_0 : Int) (a0_1 : Int) (a0_2 : Int) (a0_3 : Int) (a0_4 : Int) (a0_5 : Int) (a0_6 : ByteArray) (a0_7 : ByteArray) (a0_8 : ByteArray) (a1_0 : Int) (a1_1 : Int) (a1_2 : Int) (a1_3 : Int) (a1_4 : Int) (a1_5 : Int) (a1_6 : ByteArray) (a1_7 : ByteArray) (a1_8 : ByteArray) (r : Bool) (w : World) (h : laws_eqItem.f a0_0 a0_1 a0_2 a0_3 a0_4 a0_5 a0_6 a0_7 a0_8 a1_0 a1_1 a1_2 a1_3 a1_4 a1_5 a1_6 a1_7 a1_8 = some r) :
  Calls Try.prog 17 #[.agg #[.int .i64 a0_0, .int .i64 a0_1, .int .i64 a0_2, .int .i64 a0_3, .int .i64 a0_4, .int .i64 a0_5, .string a0_6, .string a0_7, .string a0_8], .agg #[.int .i64 a1_0, .int .i64 a1_1, .int .i64 a1_2, .int .i64 a1_3, .int .i64 a1_4, .int .i64 a1_5, .string a1_6, .string a1_7, .string a1_8]] w fun e w' => e = .returned (.bool r) ∧ Below w.heap.size w w' := by
 have hu32 := Try.underlying32
 have hu23 := Try.underlying23
 have HB := ak (Below.refl w.heap.size w)
 have H : (if a0_0 = a1_0 then ((laws_eqRec.f a0_1 a0_2 a0_3 a0_4 a0_5 a0_6 a0_7 a0_8 a1_1 a1_2 a1_3 a1_4 a1_5 a1_6 a1_7 a1_8).bind fun t245 => (if t245 = true then (some true) else (some false))) else (some false)) = some r := h
 clear h
 by_cases c3 : a0_0 = a1_0
 ·rw [if_pos c3] at H
  have c3b0 : (a0_0 == a1_0) = true := beq_iff_eq.mpr c3
  have c3b1 : (a0_0 != a1_0) = false := bne_eq_false_iff_eq.mpr c3
  clear c3
  replace H := Option.bind_eq_some_iff.mp H
  obtain ⟨t245, A40, H⟩ := H
  replace H : (if t245 = true then (some true) else (some false)) = some r := H
  have A4 := Aside0.mk A40
  clear A40
  by_cases c5 : t245 = true
  ·subst c5
   have H1 : (some true) = some r := by rw [if_pos rfl] at H; exact H
   clear H
   have H := H1
   clear H1
   obtain rfl := Option.some.inj H
   go_enter Try.func17, Try.ntmps17
   go_wp2_with (first | ((with_reducible refine gate_dst (N := 2) rfl ?_); refine bx 2 #[.int .i64 a0_0, .int .i64 a0_1, .int .i64 a0_2, .int .i64 a0_3, .int .i64 a0_4, .int .i64 a0_5, .string a0_6, .string a0_7, .string a0_8] 32 ?_; intro gb243 hg w6 hbox hb; replace BK243 := ak (hbox); replace GW243 := ak (bz hg (lG HB)); replace GE243 := ak (bz hg (lG HB)); replace HB := lB HB hb; clear hb hbox hg) | ((with_reducible refine gate_dst (N := 3) rfl ?_); refine bx 3 #[.int .i64 a1_0, .int .i64 a1_1, .int .i64 a1_2, .int .i64 a1_3, .int .i64 a1_4, .int .i64 a1_5, .string a1_6, .string a1_7, .string a1_8] 32 ?_; intro gb244 hg w7 hbox hb; replace BK244 := ak (hbox); replace GW244 := ak (bz hg (lT HB (gC GE243 gN))); replace GE244 := ak (bz hg (lT HB (gC GE243 gN))); replace HB := ak (below_step (lT HB (gC GE243 gN)) hb); replace NB243_244 := ak (nl hg (bG BK243)); replace NB244_243 := ak (ng hg (bG BK243)); replace BK243 := bB BK243 hb; clear hb hbox hg; have hnb8 := NB243_244.out; have hnc8 := NB244_243.out; obtain ⟨hcz9_0, hcz9_1, hcz9_2, hcz9_3, hcz9_4, hcz9_5, hcz9_6, hcz9_7, hcz9_8, hfz9_0, hfz9_1, hfz9_2, hfz9_3, hfz9_4, hfz9_5, hfz9_6, hfz9_7, hfz9_8⟩ := bC9 BK243; obtain ⟨hcz10_0, hcz10_1, hcz10_2, hcz10_3, hcz10_4, hcz10_5, hcz10_6, hcz10_7, hcz10_8, hfz10_0, hfz10_1, hfz10_2, hfz10_3, hfz10_4, hfz10_5, hfz10_6, hfz10_7, hfz10_8⟩ := bC9 BK244) | ((with_reducible refine gate_callee (f := 12) rfl ?_); refine gl (some 14) Try.func12 #[.agg #[.int .i64 a0_1, .int .i64 a0_2, .int .i64 a0_3, .int .i64 a0_4, .int .i64 a0_5, .string a0_6, .string a0_7, .string a0_8], .agg #[.int .i64 a1_1, .int .i64 a1_2, .int .i64 a1_3, .int .i64 a1_4, .int .i64 a1_5, .string a1_6, .string a1_7, .string a1_8]] ?_; (with_reducible refine (laws_eqRec.calls a0_1 a0_2 a0_3 a0_4 a0_5 a0_6 a0_7 a0_8 a1_1 a1_2 a1_3 a1_4 a1_5 a1_6 a1_7 a1_8 true _ A4.out).mono ?_); rintro e w11 ⟨rfl, hb⟩; refine ⟨_, rfl, ?_⟩; replace BK243 := bB BK243 hb; replace BK244 := bB BK244 hb; replace HB := ak (below_step (lT HB (gC GE243 (gC GE244 gN))) hb); (try clear hb); (try clear hk)))
   go_ret
   exact ⟨ew, by exact lT HB (gC GE243 (gC GE244 gN))⟩
  ·replace c5 := Bool.eq_false_iff.mpr c5
   subst c5
   have H1 : (some false) = some r := by rw [if_neg (show ¬ (false = true) by decide)] at H; exact H
   clear H
   have H := H1
   clear H1
   obtain rfl := Option.some.inj H
   go_enter Try.func17, Try.ntmps17
   go_wp2_with (first | ((with_reducible refine gate_dst (N := 2) rfl ?_); refine bx 2 #[.int .i64 a0_0, .int .i64 a0_1, .int .i64 a0_2, .int .i64 a0_3, .int .i64 a0_4, .int .i64 a0_5, .string a0_6, .string a0_7, .string a0_8] 32 ?_; intro gb243 hg w12 hbox hb; replace BK243 := ak (hbox); replace GW243 := ak (bz hg (lG HB)); replace GE243 := ak (bz hg (lG HB)); replace HB := lB HB hb; clear hb hbox hg) | ((with_reducible refine gate_dst (N := 3) rfl ?_); refine bx 3 #[.int .i64 a1_0, .int .i64 a1_1, .int .i64 a1_2, .int .i64 a1_3, .int .i64 a1_4, .int .i64 a1_5, .string a1_6, .string a1_7, .string a1_8] 32 ?_; intro gb244 hg w13 hbox hb; replace BK244 := ak (hbox); replace GW244 := ak (bz hg (lT HB (gC GE243 gN))); replace GE244 := ak (bz hg (lT HB (gC GE243 gN))); replace HB := ak (below_step (lT HB (gC GE243 gN)) hb); replace NB243_244 := ak (nl hg (bG BK243)); replace NB244_243 := ak (ng hg (bG BK243)); replace BK243 := bB BK243 hb; clear hb hbox hg; have hnb14 := NB243_244.out; have hnc14 := NB244_243.out; obtain ⟨hcz15_0, hcz15_1, hcz15_2, hcz15_3, hcz15_4, hcz15_5, hcz15_6, hcz15_7, hcz15_8, hfz15_0, hfz15_1, hfz15_2, hfz15_3, hfz15_4, hfz15_5, hfz15_6, hfz15_7, hfz15_8⟩ := bC9 BK243; obtain ⟨hcz16_0, hcz16_1, hcz16_2, hcz16_3, hcz16_4, hcz16_5, hcz16_6, hcz16_7, hcz16_8, hfz16_0, hfz16_1, hfz16_2, hfz16_3, hfz16_4, hfz16_5, hfz16_6, hfz16_7, hfz16_8⟩ := bC9 BK244) | ((with_reducible refine gate_callee (f := 12) rfl ?_); refine gl (some 14) Try.func12 #[.agg #[.int .i64 a0_1, .int .i64 a0_2, .int .i64 a0_3, .int .i64 a0_4, .int .i64 a0_5, .string a0_6, .string a0_7, .string a0_8], .agg #[.int .i64 a1_1, .int .i64 a1_2, .int .i64 a1_3, .int .i64 a1_4, .int .i64 a1_5, .string a1_6, .string a1_7, .string a1_8]] ?_; (with_reducible refine (laws_eqRec.calls a0_1 a0_2 a0_3 a0_4 a0_5 a0_6 a0_7 a0_8 a1_1 a1_2 a1_3 a1_4 a1_5 a1_6 a1_7 a1_8 false _ A4.out).mono ?_); rintro e w17 ⟨rfl, hb⟩; refine ⟨_, rfl, ?_⟩; replace BK243 := bB BK243 hb; replace BK244 := bB BK244 hb; replace HB := ak (below_step (lT HB (gC GE243 (gC GE244 gN))) hb); (try clear hb); (try clear hk)))
   go_ret
   exact ⟨ew, by exact lT HB (gC GE243 (gC GE244 gN))⟩
 ·rw [if_neg c3] at H
  have c3b0 : (a0_0 == a1_0) = false := beq_eq_false_iff_ne.mpr c3
  have c3b1 : (a0_0 != a1_0) = true := bne_iff_ne.mpr c3
  obtain rfl := Option.some.inj H
  go_enter Try.func17, Try.ntmps17
  go_wp2_with (first | ((with_reducible refine gate_dst (N := 2) rfl ?_); refine bx 2 #[.int .i64 a0_0, .int .i64 a0_1, .int .i64 a0_2, .int .i64 a0_3, .int .i64 a0_4, .int .i64 a0_5, .string a0_6, .string a0_7, .string a0_8] 32 ?_; intro gb243 hg w18 hbox hb; replace BK243 := ak (hbox); replace GW243 := ak (bz hg (lG HB)); replace GE243 := ak (bz hg (lG HB)); replace HB := lB HB hb; clear hb hbox hg) | ((with_reducible refine gate_dst (N := 3) rfl ?_); refine bx 3 #[.int .i64 a1_0, .int .i64 a1_1, .int .i64 a1_2, .int .i64 a1_3, .int .i64 a1_4, .int .i64 a1_5, .string a1_6, .string a1_7, .string a1_8] 32 ?_; intro gb244 hg w19 hbox hb; replace BK244 := ak (hbox); replace GW244 := ak (bz hg (lT HB (gC GE243 gN))); replace GE244 := ak (bz hg (lT HB (gC GE243 gN))); replace HB := ak (below_step (lT HB (gC GE243 gN)) hb); replace NB243_244 := ak (nl hg (bG BK243)); replace NB244_243 := ak (ng hg (bG BK243)); replace BK243 := bB BK243 hb; clear hb hbox hg; have hnb20 := NB243_244.out; have hnc20 := NB244_243.out; obtain ⟨hcz21_0, hcz21_1, hcz21_2, hcz21_3, hcz21_4, hcz21_5, hcz21_6, hcz21_7, hcz21_8, hfz21_0, hfz21_1, hfz21_2, hfz21_3, hfz21_4, hfz21_5, hfz21_6, hfz21_7, hfz21_8⟩ := bC9 BK243; obtain ⟨hcz22_0, hcz22_1, hcz22_2, hcz22_3, hcz22_4, hcz22_5, hcz22_6, hcz22_7, hcz22_8, hfz22_0, hfz22_1, hfz22_2, hfz22_3, hfz22_4, hfz22_5, hfz22_6, hfz22_7, hfz22_8⟩ := bC9 BK244))
  go_ret
  exact ⟨ew, by exact lT HB (gC GE243 (gC GE244 gN))⟩

/-! ### laws_FnExactFrameItem: function 4 -/
def laws_FnExactFrameItem.f (k : Nat) (a0_0 : Int) (a0_1 : Int) (a0_2 : ByteArray) : Option (Bool) := (laws_szFrame.f a0_0 a0_1 a0_2 1048576).bind fun t247 => (if t247 < 0 then (some true) else ((laws_toFrame.f a0_0 a0_1 a0_2).bind fun bt248 => ((spec_FrameItem.f k bt248.1 bt248.2.1 bt248.2.2).bind fun bt251 => ((laws_toFrame.f a0_0 a0_1 a0_2).bind fun bt262 => ((impl_FrameItem.f k bt262.1 bt262.2.1 bt262.2.2).bind fun bt265 => ((laws_eqItem.f bt265.1 bt265.2.1 bt265.2.2.1 bt265.2.2.2.1 bt265.2.2.2.2.1 bt265.2.2.2.2.2.1 bt265.2.2.2.2.2.2.1 bt265.2.2.2.2.2.2.2.1 bt265.2.2.2.2.2.2.2.2.1 bt251.1 bt251.2.1 bt251.2.2.1 bt251.2.2.2.1 bt251.2.2.2.2.1 bt251.2.2.2.2.2.1 bt251.2.2.2.2.2.2.1 bt251.2.2.2.2.2.2.2.1 bt251.2.2.2.2.2.2.2.2.1).bind fun t276 => (if t276 = true then (if (bt265.2.2.2.2.2.2.2.2.2 != bt251.2.2.2.2.2.2.2.2.2) = true then (some false) else (some true)) else (some false))))))))
theorem laws_FnExactFrameItem.mono : ∀ a0 a1 a2 k, LeO (laws_FnExactFrameItem.f k a0 a1 a2) (laws_FnExactFrameItem.f (k + 1) a0 a1 a2) := by
 intro a0 a1 a2 k
 unfold laws_FnExactFrameItem.f
 repeat' first
   | (with_reducible exact impl_FrameItem.mono _ _ _ _)
   | (with_reducible exact spec_FrameItem.mono _ _ _ _)
   | (with_reducible exact LeO.refl _)
   | (with_reducible exact LeO.none _)
   | (with_reducible refine LeO.ite ?_ ?_)
   | (with_reducible refine LeO.bind ?_ (fun _ => ?_))
   | exact impl_FrameItem.mono _ _ _ _
   | exact spec_FrameItem.mono _ _ _ _
   | exact LeO.none _
   | refine LeO.ite ?_ ?_
   | refine LeO.bind ?_ (fun _ => ?_)
set_option maxHeartbeats 8000000 in
set_option maxRecDepth 100000 in
theorem laws_FnExactFrameItem.calls (k : Nat) (a0_0 : Int) (a0_1 : Int) (a0_2 : ByteArray) (r : Bool) (w : World) (h : laws_FnExactFrameItem.f k a0_0 a0_1 a0_2 = some r) :
  Calls Try.prog 4 #[.agg #[.int .i64 a0_0, .int .i64 a0_1, .string a0_2]] w fun e w' => e = .returned (.bool r) ∧ Below w.heap.size w w' := by
 have hu29 := Try.underlying29
 have hu32 := Try.underlying32
 have HB := ak (Below.refl w.heap.size w)
 have H : ((laws_szFrame.f a0_0 a0_1 a0_2 1048576).bind fun t247 => (if t247 < 0 then (some true) else ((laws_toFrame.f a0_0 a0_1 a0_2).bind fun bt248 => ((spec_FrameItem.f k bt248.1 bt248.2.1 bt248.2.2).bind fun bt251 => ((laws_toFrame.f a0_0 a0_1 a0_2).bind fun bt262 => ((impl_FrameItem.f k bt262.1 bt262.2.1 bt262.2.2).bind fun bt265 => ((laws_eqItem.f bt265.1 bt265.2.1 bt265.2.2.1 bt265.2.2.2.1 bt265.2.2.2.2.1 bt265.2.2.2.2.2.1 bt265.2.2.2.2.2.2.1 bt265.2.2.2.2.2.2.2.1 bt265.2.2.2.2.2.2.2.2.1 bt251.1 bt251.2.1 bt251.2.2.1 bt251.2.2.2.1 bt251.2.2.2.2.1 bt251.2.2.2.2.2.1 bt251.2.2.2.2.2.2.1 bt251.2.2.2.2.2.2.2.1 bt251.2.2.2.2.2.2.2.2.1).bind fun t276 => (if t276 = true then (if (bt265.2.2.2.2.2.2.2.2.2 != bt251.2.2.2.2.2.2.2.2.2) = true then (some false) else (some true)) else (some false))))))))) = some r := h
 clear h
 replace H := Option.bind_eq_some_iff.mp H
 obtain ⟨t247, A20, H⟩ := H
 replace H : (if t247 < 0 then (some true) else ((laws_toFrame.f a0_0 a0_1 a0_2).bind fun bt248 => ((spec_FrameItem.f k bt248.1 bt248.2.1 bt248.2.2).bind fun bt251 => ((laws_toFrame.f a0_0 a0_1 a0_2).bind fun bt262 => ((impl_FrameItem.f k bt262.1 bt262.2.1 bt262.2.2).bind fun bt265 => ((laws_eqItem.f bt265.1 bt265.2.1 bt265.2.2.1 bt265.2.2.2.1 bt265.2.2.2.2.1 bt265.2.2.2.2.2.1 bt265.2.2.2.2.2.2.1 bt265.2.2.2.2.2.2.2.1 bt265.2.2.2.2.2.2.2.2.1 bt251.1 bt251.2.1 bt251.2.2.1 bt251.2.2.2.1 bt251.2.2.2.2.1 bt251.2.2.2.2.2.1 bt251.2.2.2.2.2.2.1 bt251.2.2.2.2.2.2.2.1 bt251.2.2.2.2.2.2.2.2.1).bind fun t276 => (if t276 = true then (if (bt265.2.2.2.2.2.2.2.2.2 != bt251.2.2.2.2.2.2.2.2.2) = true then (some false) else (some true)) else (some false)))))))) = some r := H
 have A2 := Aside0.mk A20
 clear A20
 by_cases c3 : t247 < 0
 ·rw [if_pos c3] at H
  have c3b0 : decide (t247 < 0) = true := decide_eq_true c3
  clear c3
  obtain rfl := Option.some.inj H
  go_enter Try.func4, Try.ntmps4
  go_wp2_with (first | ((with_reducible refine gate_dst (N := 1) rfl ?_); refine bx 1 #[.int .i64 a0_0, .int .i64 a0_1, .string a0_2] 29 ?_; intro gb246 hg w4 hbox hb; replace BK246 := ak (hbox); replace GW246 := ak (bz hg (lG HB)); replace GE246 := ak (bz hg (lG HB)); replace HB := lB HB hb; clear hb hbox hg; obtain ⟨hcz5_0, hcz5_1, hcz5_2, hfz5_0, hfz5_1, hfz5_2⟩ := bC3 BK246) | ((with_reducible refine gate_callee (f := 13) rfl ?_); refine gl (some 10) Try.func13 #[.agg #[.int .i64 a0_0, .int .i64 a0_1, .string a0_2], .int .i64 1048576] ?_; (with_reducible refine (laws_szFrame.calls a0_0 a0_1 a0_2 1048576 t247 _ A2.out).mono ?_); rintro e w6 ⟨rfl, hb⟩; refine ⟨_, rfl, ?_⟩; replace BK246 := bB BK246 hb; replace HB := ak (below_step (lT HB (gC GE246 gN)) hb); (try clear hb); (try clear hk)))
  go_ret
  exact ⟨ew, by exact lT HB (gC GE246 gN)⟩
 ·rw [if_neg c3] at H
  have c3b0 : decide (t247 < 0) = false := decide_eq_false c3
  clear c3
  replace H := Option.bind_eq_some_iff.mp H
  obtain ⟨⟨t248, t249, t250⟩, A70, H⟩ := H
  replace H : ((spec_FrameItem.f k t248 t249 t250).bind fun bt251 => ((laws_toFrame.f a0_0 a0_1 a0_2).bind fun bt262 => ((impl_FrameItem.f k bt262.1 bt262.2.1 bt262.2.2).bind fun bt265 => ((laws_eqItem.f bt265.1 bt265.2.1 bt265.2.2.1 bt265.2.2.2.1 bt265.2.2.2.2.1 bt265.2.2.2.2.2.1 bt265.2.2.2.2.2.2.1 bt265.2.2.2.2.2.2.2.1 bt265.2.2.2.2.2.2.2.2.1 bt251.1 bt251.2.1 bt251.2.2.1 bt251.2.2.2.1 bt251.2.2.2.2.1 bt251.2.2.2.2.2.1 bt251.2.2.2.2.2.2.1 bt251.2.2.2.2.2.2.2.1 bt251.2.2.2.2.2.2.2.2.1).bind fun t276 => (if t276 = true then (if (bt265.2.2.2.2.2.2.2.2.2 != bt251.2.2.2.2.2.2.2.2.2) = true then (some false) else (some true)) else (some false)))))) = some r := H
  have A7 := Aside0.mk A70
  clear A70
  replace H := Option.bind_eq_some_iff.mp H
  obtain ⟨⟨t251, t252, t253, t254, t255, t256, t257, t258, t259, t260⟩, A80, H⟩ := H
  replace H : ((laws_toFrame.f a0_0 a0_1 a0_2).bind fun bt262 => ((impl_FrameItem.f k bt262.1 bt262.2.1 bt262.2.2).bind fun bt265 => ((laws_eqItem.f bt265.1 bt265.2.1 bt265.2.2.1 bt265.2.2.2.1 bt265.2.2.2.2.1 bt265.2.2.2.2.2.1 bt265.2.2.2.2.2.2.1 bt265.2.2.2.2.2.2.2.1 bt265.2.2.2.2.2.2.2.2.1 t251 t252 t253 t254 t255 t256 t257 t258 t259).bind fun t276 => (if t276 = true then (if (bt265.2.2.2.2.2.2.2.2.2 != t260) = true then (some false) else (some true)) else (some false))))) = some r := H
  have A8 := Aside0.mk A80
  clear A80
  replace H := Option.bind_eq_some_iff.mp H
  obtain ⟨⟨t262, t263, t264⟩, A90, H⟩ := H
  replace H : ((impl_FrameItem.f k t262 t263 t264).bind fun bt265 => ((laws_eqItem.f bt265.1 bt265.2.1 bt265.2.2.1 bt265.2.2.2.1 bt265.2.2.2.2.1 bt265.2.2.2.2.2.1 bt265.2.2.2.2.2.2.1 bt265.2.2.2.2.2.2.2.1 bt265.2.2.2.2.2.2.2.2.1 t251 t252 t253 t254 t255 t256 t257 t258 t259).bind fun t276 => (if t276 = true then (if (bt265.2.2.2.2.2.2.2.2.2 != t260) = true then (some false) else (some true)) else (some false)))) = some r := H
  have A9 := Aside0.mk A90
  clear A90
  replace H := Option.bind_eq_some_iff.mp H
  obtain ⟨⟨t265, t266, t267, t268, t269, t270, t271, t272, t273, t274⟩, A100, H⟩ := H
  replace H : ((laws_eqItem.f t265 t266 t267 t268 t269 t270 t271 t272 t273 t251 t252 t253 t254 t255 t256 t257 t258 t259).bind fun t276 => (if t276 = true then (if (t274 != t260) = true then (some false) else (some true)) else (some false))) = some r := H
  have A10 := Aside0.mk A100
  clear A100
  replace H := Option.bind_eq_some_iff.mp H
  obtain ⟨t276, A110, H⟩ := H
  replace H : (if t276 = true then (if (t274 != t260) = true then (some false) else (some true)) else (some false)) = some r := H
  have A11 := Aside0.mk A110
  clear A110
  by_cases c12 : t276 = true
  ·subst c12
   have H1 : (if (t274 != t260) = true then (some false) else (some true)) = some r := by rw [if_pos rfl] at H; exact H
   clear H
   have H := H1
   clear H1
   by_cases c13 : (t274 != t260) = true
   ·rw [if_pos c13] at H
    have c13b0 : (t274 != t260) = true := c13
    (try (have c13b1 : decide (t274 = t260) = false := by simpa using c13))
    (try (have c13b2 : (t274 == t260) = false := by simpa using c13))
    (try (have c13b3 : ¬ (t274 = t260) := by simpa using c13))
    clear c13
    obtain rfl := Option.some.inj H
    go_enter Try.func4, Try.ntmps4
    go_wp2_with (first | ((with_reducible refine gate_dst (N := 1) rfl ?_); refine bx 1 #[.int .i64 a0_0, .int .i64 a0_1, .string a0_2] 29 ?_; intro gb246 hg w14 hbox hb; replace BK246 := ak (hbox); replace GW246 := ak (bz hg (lG HB)); replace GE246 := ak (bz hg (lG HB)); replace HB := lB HB hb; clear hb hbox hg; obtain ⟨hcz15_0, hcz15_1, hcz15_2, hfz15_0, hfz15_1, hfz15_2⟩ := bC3 BK246) | ((with_reducible refine gate_callee (f := 13) rfl ?_); refine gl (some 10) Try.func13 #[.agg #[.int .i64 a0_0, .int .i64 a0_1, .string a0_2], .int .i64 1048576] ?_; (with_reducible refine (laws_szFrame.calls a0_0 a0_1 a0_2 1048576 t247 _ A2.out).mono ?_); rintro e w16 ⟨rfl, hb⟩; refine ⟨_, rfl, ?_⟩; replace BK246 := bB BK246 hb; replace HB := ak (below_step (lT HB (gC GE246 gN)) hb); (try clear hb); (try clear hk); obtain ⟨hcz17_0, hcz17_1, hcz17_2, hfz17_0, hfz17_1, hfz17_2⟩ := bC3 BK246) | ((with_reducible refine gate_callee (f := 15) rfl ?_); refine gl (some 15) Try.func15 #[.agg #[.int .i64 a0_0, .int .i64 a0_1, .string a0_2]] ?_; (with_reducible refine (laws_toFrame.calls a0_0 a0_1 a0_2 t248 t249 t250 _ A7.out).mono ?_); rintro e w18 ⟨rfl, hb⟩; refine ⟨_, rfl, ?_⟩; replace BK246 := bB BK246 hb; replace HB := ak (below_step (lT HB (gC GE246 gN)) hb); (try clear hb); (try clear hk)) | ((with_reducible refine gate_callee (f := 14) rfl ?_); refine gl (some 16) Try.func14 #[.agg #[.int .i64 t248, .int .i64 t249, .string t250]] ?_; (with_reducible refine (spec_FrameItem.calls k t248 t249 t250 t251 t252 t253 t254 t255 t256 t257 t258 t259 t260 _ A8.out).mono ?_); rintro e w19 ⟨rfl, hb⟩; refine ⟨_, rfl, ?_⟩; replace BK246 := bB BK246 hb; replace HB := ak (below_step (lT HB (gC GE246 gN)) hb); (try clear hb); (try clear hk)) | ((with_reducible refine gate_dst (N := 4) rfl ?_); refine bx 4 #[.int .i64 0, .int .i64 0, .int .i64 0, .int .i64 0, .int .i64 0, .int .i64 0, .string (⟨#[]⟩ : ByteArray), .string (⟨#[]⟩ : ByteArray), .string (⟨#[]⟩ : ByteArray)] 32 ?_; intro gb261 hg w20 hbox hb; replace BK261 := ak (hbox); replace GW261 := ak (bz hg (lT HB (gC GE246 gN))); replace GE261 := ak (bz hg (lT HB (gC GE246 gN))); replace HB := ak (below_step (lT HB (gC GE246 gN)) hb); replace NB246_261 := ak (nl hg (bG BK246)); replace NB261_246 := ak (ng hg (bG BK246)); replace BK246 := bB BK246 hb; clear hb hbox hg; have hnb21 := NB261_246.out; have hnc21 := NB246_261.out; obtain ⟨hcz22_0, hcz22_1, hcz22_2, hcz22_3, hcz22_4, hcz22_5, hcz22_6, hcz22_7, hcz22_8, hfz22_0, hfz22_1, hfz22_2, hfz22_3, hfz22_4, hfz22_5, hfz22_6, hfz22_7, hfz22_8⟩ := bC9 BK261; obtain ⟨hcz23_0, hcz23_1, hcz23_2, hfz23_0, hfz23_1, hfz23_2⟩ := bC3 BK246) | ((with_reducible refine gate_callee (f := 15) rfl ?_); refine gl (some 21) Try.func15 #[.agg #[.int .i64 a0_0, .int .i64 a0_1, .string a0_2]] ?_; (with_reducible refine (laws_toFrame.calls a0_0 a0_1 a0_2 t262 t263 t264 _ A9.out).mono ?_); rintro e w24 ⟨rfl, hb⟩; refine ⟨_, rfl, ?_⟩; replace BK246 := ak (blk_below (bT BK246 (nC NB246_261 nN)) hb); replace BK261 := ak (blk_below (g := gb261) (o := .cells #[.int .i64 t251, .int .i64 t252, .int .i64 t253, .int .i64 t254, .int .i64 t255, .int .i64 t256, .string t257, .string t258, .string t259] 32 (0, 0)) (bW BK261) hb); replace HB := ak (below_step (lT HB (gC GE246 (gC GE261 gN))) hb); (try clear hb); (try clear hk)) | ((with_reducible refine gate_callee (f := 16) rfl ?_); refine gl (some 22) Try.func16 #[.agg #[.int .i64 t262, .int .i64 t263, .string t264]] ?_; (with_reducible refine (impl_FrameItem.calls k t262 t263 t264 t265 t266 t267 t268 t269 t270 t271 t272 t273 t274 _ A10.out).mono ?_); rintro e w25 ⟨rfl, hb⟩; refine ⟨_, rfl, ?_⟩; replace BK246 := bB BK246 hb; replace BK261 := bB BK261 hb; replace HB := ak (below_step (lT HB (gC GE246 (gC GE261 gN))) hb); (try clear hb); (try clear hk)) | ((with_reducible refine gate_dst (N := 6) rfl ?_); refine bx 6 #[.int .i64 0, .int .i64 0, .int .i64 0, .int .i64 0, .int .i64 0, .int .i64 0, .string (⟨#[]⟩ : ByteArray), .string (⟨#[]⟩ : ByteArray), .string (⟨#[]⟩ : ByteArray)] 32 ?_; intro gb275 hg w26 hbox hb; replace BK275 := ak (hbox); replace GW275 := ak (bz hg (lT HB (gC GE246 (gC GE261 gN)))); replace GE275 := ak (bz hg (lT HB (gC GE246 (gC GE261 gN)))); replace HB := ak (below_step (lT HB (gC GE246 (gC GE261 gN))) hb); replace NB246_275 := ak (nl hg (bG BK246)); replace NB275_246 := ak (ng hg (bG BK246)); replace BK246 := bB BK246 hb; replace NB261_275 := ak (nl hg (bG BK261)); replace NB275_261 := ak (ng hg (bG BK261)); replace BK261 := bB BK261 hb; clear hb hbox hg; have hnb27 := NB275_246.out; have hnc27 := NB246_275.out; have hnb28 := NB275_261.out; have hnc28 := NB261_275.out; obtain ⟨hcz29_0, hcz29_1, hcz29_2, hcz29_3, hcz29_4, hcz29_5, hcz29_6, hcz29_7, hcz29_8, hfz29_0, hfz29_1, hfz29_2, hfz29_3, hfz29_4, hfz29_5, hfz29_6, hfz29_7, hfz29_8⟩ := bC9 BK275; obtain ⟨hcz30_0, hcz30_1, hcz30_2, hcz30_3, hcz30_4, hcz30_5, hcz30_6, hcz30_7, hcz30_8, hfz30_0, hfz30_1, hfz30_2, hfz30_3, hfz30_4, hfz30_5, hfz30_6, hfz30_7, hfz30_8⟩ := bC9 BK261) | ((with_reducible refine gate_callee (f := 17) rfl ?_); refine gl (some 27) Try.func17 #[.agg #[.int .i64 t265, .int .i64 t266, .int .i64 t267, .int .i64 t268, .int .i64 t269, .int .i64 t270, .string t271, .string t272, .string t273], .agg #[.int .i64 t251, .int .i64 t252, .int .i64 t253, .int .i64 t254, .int .i64 t255, .int .i64 t256, .string t257, .string t258, .string t259]] ?_; (with_reducible refine (laws_eqItem.calls t265 t266 t267 t268 t269 t270 t271 t272 t273 t251 t252 t253 t254 t255 t256 t257 t258 t259 true _ A11.out).mono ?_); rintro e w31 ⟨rfl, hb⟩; refine ⟨_, rfl, ?_⟩; replace BK246 := ak (blk_below (bT BK246 (nC NB246_275 nN)) hb); replace BK261 := ak (blk_below (bT BK261 (nC NB261_275 nN)) hb); replace BK275 := ak (blk_below (g := gb275) (o := .cells #[.int .i64 t265, .int .i64 t266, .int .i64 t267, .int .i64 t268, .int .i64 t269, .int .i64 t270, .string t271, .string t272, .string t273] 32 (0, 0)) (bW BK275) hb); replace HB := ak (below_step (lT HB (gC GE246 (gC GE261 (gC GE275 gN)))) hb); (try clear hb); (try clear hk)))
    go_ret
    exact ⟨ew, by exact lT HB (gC GE246 (gC GE261 (gC GE275 gN)))⟩
   ·rw [if_neg c13] at H
    have c13b0 : (t274 != t260) = false := by simpa using c13
    (try (have c13b1 : decide (t274 = t260) = true := by simpa using c13))
    (try (have c13b2 : (t274 == t260) = true := by simpa using c13))
    clear c13
    obtain rfl := Option.some.inj H
    go_enter Try.func4, Try.ntmps4
    go_wp2_with (first | ((with_reducible refine gate_dst (N := 1) rfl ?_); refine bx 1 #[.int .i64 a0_0, .int .i64 a0_1, .string a0_2] 29 ?_; intro gb246 hg w32 hbox hb; replace BK246 := ak (hbox); replace GW246 := ak (bz hg (lG HB)); replace GE246 := ak (bz hg (lG HB)); replace HB := lB HB hb; clear hb hbox hg; obtain ⟨hcz33_0, hcz33_1, hcz33_2, hfz33_0, hfz33_1, hfz33_2⟩ := bC3 BK246) | ((with_reducible refine gate_callee (f := 13) rfl ?_); refine gl (some 10) Try.func13 #[.agg #[.int .i64 a0_0, .int .i64 a0_1, .string a0_2], .int .i64 1048576] ?_; (with_reducible refine (laws_szFrame.calls a0_0 a0_1 a0_2 1048576 t247 _ A2.out).mono ?_); rintro e w34 ⟨rfl, hb⟩; refine ⟨_, rfl, ?_⟩; replace BK246 := bB BK246 hb; replace HB := ak (below_step (lT HB (gC GE246 gN)) hb); (try clear hb); (try clear hk); obtain ⟨hcz35_0, hcz35_1, hcz35_2, hfz35_0, hfz35_1, hfz35_2⟩ := bC3 BK246) | ((with_reducible refine gate_callee (f := 15) rfl ?_); refine gl (some 15) Try.func15 #[.agg #[.int .i64 a0_0, .int .i64 a0_1, .string a0_2]] ?_; (with_reducible refine (laws_toFrame.calls a0_0 a0_1 a0_2 t248 t249 t250 _ A7.out).mono ?_); rintro e w36 ⟨rfl, hb⟩; refine ⟨_, rfl, ?_⟩; replace BK246 := bB BK246 hb; replace HB := ak (below_step (lT HB (gC GE246 gN)) hb); (try clear hb); (try clear hk)) | ((with_reducible refine gate_callee (f := 14) rfl ?_); refine gl (some 16) Try.func14 #[.agg #[.int .i64 t248, .int .i64 t249, .string t250]] ?_; (with_reducible refine (spec_FrameItem.calls k t248 t249 t250 t251 t252 t253 t254 t255 t256 t257 t258 t259 t260 _ A8.out).mono ?_); rintro e w37 ⟨rfl, hb⟩; refine ⟨_, rfl, ?_⟩; replace BK246 := bB BK246 hb; replace HB := ak (below_step (lT HB (gC GE246 gN)) hb); (try clear hb); (try clear hk)) | ((with_reducible refine gate_dst (N := 4) rfl ?_); refine bx 4 #[.int .i64 0, .int .i64 0, .int .i64 0, .int .i64 0, .int .i64 0, .int .i64 0, .string (⟨#[]⟩ : ByteArray), .string (⟨#[]⟩ : ByteArray), .string (⟨#[]⟩ : ByteArray)] 32 ?_; intro gb261 hg w38 hbox hb; replace BK261 := ak (hbox); replace GW261 := ak (bz hg (lT HB (gC GE246 gN))); replace GE261 := ak (bz hg (lT HB (gC GE246 gN))); replace HB := ak (below_step (lT HB (gC GE246 gN)) hb); replace NB246_261 := ak (nl hg (bG BK246)); replace NB261_246 := ak (ng hg (bG BK246)); replace BK246 := bB BK246 hb; clear hb hbox hg; have hnb39 := NB261_246.out; have hnc39 := NB246_261.out; obtain ⟨hcz40_0, hcz40_1, hcz40_2, hcz40_3, hcz40_4, hcz40_5, hcz40_6, hcz40_7, hcz40_8, hfz40_0, hfz40_1, hfz40_2, hfz40_3, hfz40_4, hfz40_5, hfz40_6, hfz40_7, hfz40_8⟩ := bC9 BK261; obtain ⟨hcz41_0, hcz41_1, hcz41_2, hfz41_0, hfz41_1, hfz41_2⟩ := bC3 BK246) | ((with_reducible refine gate_callee (f := 15) rfl ?_); refine gl (some 21) Try.func15 #[.agg #[.int .i64 a0_0, .int .i64 a0_1, .string a0_2]] ?_; (with_reducible refine (laws_toFrame.calls a0_0 a0_1 a0_2 t262 t263 t264 _ A9.out).mono ?_); rintro e w42 ⟨rfl, hb⟩; refine ⟨_, rfl, ?_⟩; replace BK246 := ak (blk_below (bT BK246 (nC NB246_261 nN)) hb); replace BK261 := ak (blk_below (g := gb261) (o := .cells #[.int .i64 t251, .int .i64 t252, .int .i64 t253, .int .i64 t254, .int .i64 t255, .int .i64 t256, .string t257, .string t258, .string t259] 32 (0, 0)) (bW BK261) hb); replace HB := ak (below_step (lT HB (gC GE246 (gC GE261 gN))) hb); (try clear hb); (try clear hk)) | ((with_reducible refine gate_callee (f := 16) rfl ?_); refine gl (some 22) Try.func16 #[.agg #[.int .i64 t262, .int .i64 t263, .string t264]] ?_; (with_reducible refine (impl_FrameItem.calls k t262 t263 t264 t265 t266 t267 t268 t269 t270 t271 t272 t273 t274 _ A10.out).mono ?_); rintro e w43 ⟨rfl, hb⟩; refine ⟨_, rfl, ?_⟩; replace BK246 := bB BK246 hb; replace BK261 := bB BK261 hb; replace HB := ak (below_step (lT HB (gC GE246 (gC GE261 gN))) hb); (try clear hb); (try clear hk)) | ((with_reducible refine gate_dst (N := 6) rfl ?_); refine bx 6 #[.int .i64 0, .int .i64 0, .int .i64 0, .int .i64 0, .int .i64 0, .int .i64 0, .string (⟨#[]⟩ : ByteArray), .string (⟨#[]⟩ : ByteArray), .string (⟨#[]⟩ : ByteArray)] 32 ?_; intro gb275 hg w44 hbox hb; replace BK275 := ak (hbox); replace GW275 := ak (bz hg (lT HB (gC GE246 (gC GE261 gN)))); replace GE275 := ak (bz hg (lT HB (gC GE246 (gC GE261 gN)))); replace HB := ak (below_step (lT HB (gC GE246 (gC GE261 gN))) hb); replace NB246_275 := ak (nl hg (bG BK246)); replace NB275_246 := ak (ng hg (bG BK246)); replace BK246 := bB BK246 hb; replace NB261_275 := ak (nl hg (bG BK261)); replace NB275_261 := ak (ng hg (bG BK261)); replace BK261 := bB BK261 hb; clear hb hbox hg; have hnb45 := NB275_246.out; have hnc45 := NB246_275.out; have hnb46 := NB275_261.out; have hnc46 := NB261_275.out; obtain ⟨hcz47_0, hcz47_1, hcz47_2, hcz47_3, hcz47_4, hcz47_5, hcz47_6, hcz47_7, hcz47_8, hfz47_0, hfz47_1, hfz47_2, hfz47_3, hfz47_4, hfz47_5, hfz47_6, hfz47_7, hfz47_8⟩ := bC9 BK275; obtain ⟨hcz48_0, hcz48_1, hcz48_2, hcz48_3, hcz48_4, hcz48_5, hcz48_6, hcz48_7, hcz48_8, hfz48_0, hfz48_1, hfz48_2, hfz48_3, hfz48_4, hfz48_5, hfz48_6, hfz48_7, hfz48_8⟩ := bC9 BK261) | ((with_reducible refine gate_callee (f := 17) rfl ?_); refine gl (some 27) Try.func17 #[.agg #[.int .i64 t265, .int .i64 t266, .int .i64 t267, .int .i64 t268, .int .i64 t269, .int .i64 t270, .string t271, .string t272, .string t273], .agg #[.int .i64 t251, .int .i64 t252, .int .i64 t253, .int .i64 t254, .int .i64 t255, .int .i64 t256, .string t257, .string t258, .string t259]] ?_; (with_reducible refine (laws_eqItem.calls t265 t266 t267 t268 t269 t270 t271 t272 t273 t251 t252 t253 t254 t255 t256 t257 t258 t259 true _ A11.out).mono ?_); rintro e w49 ⟨rfl, hb⟩; refine ⟨_, rfl, ?_⟩; replace BK246 := ak (blk_below (bT BK246 (nC NB246_275 nN)) hb); replace BK261 := ak (blk_below (bT BK261 (nC NB261_275 nN)) hb); replace BK275 := ak (blk_below (g := gb275) (o := .cells #[.int .i64 t265, .int .i64 t266, .int .i64 t267, .int .i64 t268, .int .i64 t269, .int .i64 t270, .string t271, .string t272, .string t273] 32 (0, 0)) (bW BK275) hb); replace HB := ak (below_step (lT HB (gC GE246 (gC GE261 (gC GE275 gN)))) hb); (try clear hb); (try clear hk)))
    go_ret
    exact ⟨ew, by exact lT HB (gC GE246 (gC GE261 (gC GE275 gN)))⟩
  ·replace c12 := Bool.eq_false_iff.mpr c12
   subst c12
   have H1 : (some false) = some r := by rw [if_neg (show ¬ (false = true) by decide)] at H; exact H
   clear H
   have H := H1
   clear H1
   obtain rfl := Option.some.inj H
   go_enter Try.func4, Try.ntmps4
   go_wp2_with (first | ((with_reducible refine gate_dst (N := 1) rfl ?_); refine bx 1 #[.int .i64 a0_0, .int .i64 a0_1, .string a0_2] 29 ?_; intro gb246 hg w50 hbox hb; replace BK246 := ak (hbox); replace GW246 := ak (bz hg (lG HB)); replace GE246 := ak (bz hg (lG HB)); replace HB := lB HB hb; clear hb hbox hg; obtain ⟨hcz51_0, hcz51_1, hcz51_2, hfz51_0, hfz51_1, hfz51_2⟩ := bC3 BK246) | ((with_reducible refine gate_callee (f := 13) rfl ?_); refine gl (some 10) Try.func13 #[.agg #[.int .i64 a0_0, .int .i64 a0_1, .string a0_2], .int .i64 1048576] ?_; (with_reducible refine (laws_szFrame.calls a0_0 a0_1 a0_2 1048576 t247 _ A2.out).mono ?_); rintro e w52 ⟨rfl, hb⟩; refine ⟨_, rfl, ?_⟩; replace BK246 := bB BK246 hb; replace HB := ak (below_step (lT HB (gC GE246 gN)) hb); (try clear hb); (try clear hk); obtain ⟨hcz53_0, hcz53_1, hcz53_2, hfz53_0, hfz53_1, hfz53_2⟩ := bC3 BK246) | ((with_reducible refine gate_callee (f := 15) rfl ?_); refine gl (some 15) Try.func15 #[.agg #[.int .i64 a0_0, .int .i64 a0_1, .string a0_2]] ?_; (with_reducible refine (laws_toFrame.calls a0_0 a0_1 a0_2 t248 t249 t250 _ A7.out).mono ?_); rintro e w54 ⟨rfl, hb⟩; refine ⟨_, rfl, ?_⟩; replace BK246 := bB BK246 hb; replace HB := ak (below_step (lT HB (gC GE246 gN)) hb); (try clear hb); (try clear hk)) | ((with_reducible refine gate_callee (f := 14) rfl ?_); refine gl (some 16) Try.func14 #[.agg #[.int .i64 t248, .int .i64 t249, .string t250]] ?_; (with_reducible refine (spec_FrameItem.calls k t248 t249 t250 t251 t252 t253 t254 t255 t256 t257 t258 t259 t260 _ A8.out).mono ?_); rintro e w55 ⟨rfl, hb⟩; refine ⟨_, rfl, ?_⟩; replace BK246 := bB BK246 hb; replace HB := ak (below_step (lT HB (gC GE246 gN)) hb); (try clear hb); (try clear hk)) | ((with_reducible refine gate_dst (N := 4) rfl ?_); refine bx 4 #[.int .i64 0, .int .i64 0, .int .i64 0, .int .i64 0, .int .i64 0, .int .i64 0, .string (⟨#[]⟩ : ByteArray), .string (⟨#[]⟩ : ByteArray), .string (⟨#[]⟩ : ByteArray)] 32 ?_; intro gb261 hg w56 hbox hb; replace BK261 := ak (hbox); replace GW261 := ak (bz hg (lT HB (gC GE246 gN))); replace GE261 := ak (bz hg (lT HB (gC GE246 gN))); replace HB := ak (below_step (lT HB (gC GE246 gN)) hb); replace NB246_261 := ak (nl hg (bG BK246)); replace NB261_246 := ak (ng hg (bG BK246)); replace BK246 := bB BK246 hb; clear hb hbox hg; have hnb57 := NB261_246.out; have hnc57 := NB246_261.out; obtain ⟨hcz58_0, hcz58_1, hcz58_2, hcz58_3, hcz58_4, hcz58_5, hcz58_6, hcz58_7, hcz58_8, hfz58_0, hfz58_1, hfz58_2, hfz58_3, hfz58_4, hfz58_5, hfz58_6, hfz58_7, hfz58_8⟩ := bC9 BK261; obtain ⟨hcz59_0, hcz59_1, hcz59_2, hfz59_0, hfz59_1, hfz59_2⟩ := bC3 BK246) | ((with_reducible refine gate_callee (f := 15) rfl ?_); refine gl (some 21) Try.func15 #[.agg #[.int .i64 a0_0, .int .i64 a0_1, .string a0_2]] ?_; (with_reducible refine (laws_toFrame.calls a0_0 a0_1 a0_2 t262 t263 t264 _ A9.out).mono ?_); rintro e w60 ⟨rfl, hb⟩; refine ⟨_, rfl, ?_⟩; replace BK246 := ak (blk_below (bT BK246 (nC NB246_261 nN)) hb); replace BK261 := ak (blk_below (g := gb261) (o := .cells #[.int .i64 t251, .int .i64 t252, .int .i64 t253, .int .i64 t254, .int .i64 t255, .int .i64 t256, .string t257, .string t258, .string t259] 32 (0, 0)) (bW BK261) hb); replace HB := ak (below_step (lT HB (gC GE246 (gC GE261 gN))) hb); (try clear hb); (try clear hk)) | ((with_reducible refine gate_callee (f := 16) rfl ?_); refine gl (some 22) Try.func16 #[.agg #[.int .i64 t262, .int .i64 t263, .string t264]] ?_; (with_reducible refine (impl_FrameItem.calls k t262 t263 t264 t265 t266 t267 t268 t269 t270 t271 t272 t273 t274 _ A10.out).mono ?_); rintro e w61 ⟨rfl, hb⟩; refine ⟨_, rfl, ?_⟩; replace BK246 := bB BK246 hb; replace BK261 := bB BK261 hb; replace HB := ak (below_step (lT HB (gC GE246 (gC GE261 gN))) hb); (try clear hb); (try clear hk)) | ((with_reducible refine gate_dst (N := 6) rfl ?_); refine bx 6 #[.int .i64 0, .int .i64 0, .int .i64 0, .int .i64 0, .int .i64 0, .int .i64 0, .string (⟨#[]⟩ : ByteArray), .string (⟨#[]⟩ : ByteArray), .string (⟨#[]⟩ : ByteArray)] 32 ?_; intro gb275 hg w62 hbox hb; replace BK275 := ak (hbox); replace GW275 := ak (bz hg (lT HB (gC GE246 (gC GE261 gN)))); replace GE275 := ak (bz hg (lT HB (gC GE246 (gC GE261 gN)))); replace HB := ak (below_step (lT HB (gC GE246 (gC GE261 gN))) hb); replace NB246_275 := ak (nl hg (bG BK246)); replace NB275_246 := ak (ng hg (bG BK246)); replace BK246 := bB BK246 hb; replace NB261_275 := ak (nl hg (bG BK261)); replace NB275_261 := ak (ng hg (bG BK261)); replace BK261 := bB BK261 hb; clear hb hbox hg; have hnb63 := NB275_246.out; have hnc63 := NB246_275.out; have hnb64 := NB275_261.out; have hnc64 := NB261_275.out; obtain ⟨hcz65_0, hcz65_1, hcz65_2, hcz65_3, hcz65_4, hcz65_5, hcz65_6, hcz65_7, hcz65_8, hfz65_0, hfz65_1, hfz65_2, hfz65_3, hfz65_4, hfz65_5, hfz65_6, hfz65_7, hfz65_8⟩ := bC9 BK275; obtain ⟨hcz66_0, hcz66_1, hcz66_2, hcz66_3, hcz66_4, hcz66_5, hcz66_6, hcz66_7, hcz66_8, hfz66_0, hfz66_1, hfz66_2, hfz66_3, hfz66_4, hfz66_5, hfz66_6, hfz66_7, hfz66_8⟩ := bC9 BK261) | ((with_reducible refine gate_callee (f := 17) rfl ?_); refine gl (some 27) Try.func17 #[.agg #[.int .i64 t265, .int .i64 t266, .int .i64 t267, .int .i64 t268, .int .i64 t269, .int .i64 t270, .string t271, .string t272, .string t273], .agg #[.int .i64 t251, .int .i64 t252, .int .i64 t253, .int .i64 t254, .int .i64 t255, .int .i64 t256, .string t257, .string t258, .string t259]] ?_; (with_reducible refine (laws_eqItem.calls t265 t266 t267 t268 t269 t270 t271 t272 t273 t251 t252 t253 t254 t255 t256 t257 t258 t259 false _ A11.out).mono ?_); rintro e w67 ⟨rfl, hb⟩; refine ⟨_, rfl, ?_⟩; replace BK246 := ak (blk_below (bT BK246 (nC NB246_275 nN)) hb); replace BK261 := ak (blk_below (bT BK261 (nC NB261_275 nN)) hb); replace BK275 := ak (blk_below (g := gb275) (o := .cells #[.int .i64 t265, .int .i64 t266, .int .i64 t267, .int .i64 t268, .int .i64 t269, .int .i64 t270, .string t271, .string t272, .string t273] 32 (0, 0)) (bW BK275) hb); replace HB := ak (below_step (lT HB (gC GE246 (gC GE261 (gC GE275 gN)))) hb); (try clear hb); (try clear hk)))
   go_ret
   exact ⟨ew, by exact lT HB (gC GE246 (gC GE261 (gC GE275 gN)))⟩

end Go.Proofs.Ytagkjeldheiejaa.PFnExactFrameItem
