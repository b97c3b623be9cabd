-- Written for this claim by a program of mine (a turned copy of the kit's print): functions as plain Lean, and their contracts. Lean checks it.
import Derived.Test.YtjpngldnkgofaaaPFnDisksToldx14
namespace Go.Proofs.Ytjpngldnkgofaaa.PFnDisksTold
open Go.RowKit Go.Proofs.YtjpngldnkgofaaaW.PrintWords Go.Proofs.YtjpngldnkgofaaaW.PrintLast Go.Proofs.YtjpngldnkgofaaaW.PrintMore
attribute [local go_sem] max2_int min2_int max_two min_two max_three min_three max_four min_four   -- for this text's walks alone
set_option linter.unusedVariables false
set_option linter.unusedSimpArgs false
set_option maxHeartbeats 8000000 in
set_option maxRecDepth 100000 in
theorem laws_FnDisksTold.leaf0 (k : Nat) (A0 : Option Addr) (c0 : Nat) (l0 : List Int) (w : World) (HR0 : Aside0 (Kd.C (Kd.int IntKind.u8) w A0 (List.length l0) l0)) (HC0 : Aside0 (List.length l0 ≤ c0)) (HB : Aside0 (Below (Array.size (World.heap w)) w w)) (A2 : Aside0 (laws_big.f l0 = some true)) (H : some true = some true) : Calls Try.prog 7 #[Value.slice A0 (List.length l0) c0] w fun e w' => e = Ending.returned (Value.bool true) ∧ Below (Array.size (World.heap w)) w w' := by
 have hu27 := Try.underlying27
 go_enter Try.func7, Try.ntmps7
 go_wp2_with (first | ((with_reducible refine gate_callee (f := 9) rfl ?_); refine gl (some 22) Try.func9 #[.slice A0 l0.length c0] ?_; (with_reducible refine (laws_big.calls _ _ l0 true _ ?side1 ?side2 A2.out).mono ?_); (case side1 => repeat (first | exact HR0.out | (with_reducible refine Kd.C_alloc ?_ _) | (with_reducible refine Kd.C_drewN ?_ _) | (with_reducible refine Kd.C_drew ?_))); (case side2 => exact HC0.out); rintro e w' ⟨rfl, ⟨nd, rfl⟩⟩; refine ⟨_, rfl, ?_⟩))
 go_ret
 exact ⟨ew, by exact lG HB⟩
set_option maxHeartbeats 8000000 in
set_option maxRecDepth 100000 in
theorem laws_FnDisksTold.leaf1 (k : Nat) (A0 : Option Addr) (c0 : Nat) (l0 : List Int) (w : World) (HR0 : Aside0 (Kd.C (Kd.int IntKind.u8) w A0 (List.length l0) l0)) (HC0 : Aside0 (List.length l0 ≤ c0)) (HB : Aside0 (Below (Array.size (World.heap w)) w w)) (A2 : Aside0 (laws_big.f l0 = some false)) (t442 : List ByteArray) (t445 : List S63) (A4 : Aside0 (spec_DrawDiskOk.f k l0 = some (t442, t445))) (t449 : List ByteArray) (t452 : List S63) (t455 : Int) (A5 : Aside0 (spec_DrawReadSector.f k l0 = some (t449, t452, t455))) (t457 : ByteArray) (t458 : Bool) (A6 : Aside0 (impl_ReadSector.f k t449 t452 t455 = some (t457, t458))) (t459 : ByteArray) (t460 : Bool) (A7 : Aside0 (spec_ReadSector.f k t449 t452 t455 = some (t459, t460))) (t461 : List ByteArray) (t464 : List S63) (t467 t468 : Int) (A8 : Aside0 (spec_DrawSectorText.f k l0 = some (t461, t464, t467, t468))) (t470 : ByteArray) (t471 : Bool) (A9 : Aside0 (impl_SectorText.f k t461 t464 t467 t468 = some (t470, t471))) (t472 : ByteArray) (t473 : Bool) (A10 : Aside0 (spec_SectorText.f k t461 t464 t467 t468 = some (t472, t473))) (t474 : List ByteArray) (t477 : List S63) (t482 : List ByteArray) (t485 : List S63) (t490 : Bool) (A13 : Aside0 (impl_DiskOk.f t442 t445 = some t490)) (t491 : Bool) (A14 : Aside0 (spec_DiskOk.f k t442 t445 = some t491)) (c15b0 : (t490 == t491) = true) (c15b1 : decide (t490 = t491) = true) (c15b2 : (t490 == t491) = true) (c16b0 : (t458 == t460) = true) (c16b1 : decide (t458 = t460) = true) (c16b2 : (t458 == t460) = true) (c17b0 : (ByteArray.toList t457 == ByteArray.toList t459) = true) (c17b1 : (ByteArray.toList t457 != ByteArray.toList t459) = false) (c18b0 : (t471 == t473) = true) (c18b1 : decide (t471 = t473) = true) (c18b2 : (t471 == t473) = true) (c19b0 : (ByteArray.toList t470 == ByteArray.toList t472) = true) (c19b1 : (ByteArray.toList t470 != ByteArray.toList t472) = false) (t492 : List ByteArray) (t495 : List S63) (A20 : Aside0 (impl_FlushDisk.f k t442 t445 = some (t492, t495))) (t498 : List ByteArray) (t501 : List S63) (A21 : Aside0 (spec_FlushDisk.f k t442 t445 = some (t498, t501))) (A22 : Aside0 (laws_sameDisk.f k t492 t495 t498 t501 = some true)) (A11 : Aside0 (impl_DiskNew.f k 3 = some (t474, t477, true))) (A12 : Aside0 (impl_DiskNew.f k 0 = some (t482, t485, true))) (H : some false = some false) : Calls Try.prog 7 #[Value.slice A0 (List.length l0) c0] w fun e w' => e = Ending.returned (Value.bool false) ∧ Below (Array.size (World.heap w)) w w' := by
 have hu27 := Try.underlying27
 go_enter Try.func7, Try.ntmps7
 try go_wp2_with (first | ((with_reducible refine gate_callee (f := 9) rfl ?_); refine gl (some 22) Try.func9 #[.slice A0 l0.length c0] ?_; (with_reducible refine (laws_big.calls _ _ l0 false _ ?side1 ?side2 A2.out).mono ?_); (case side1 => repeat (first | exact HR0.out | (with_reducible refine Kd.C_alloc ?_ _) | (with_reducible refine Kd.C_drewN ?_ _) | (with_reducible refine Kd.C_drew ?_))); (case side2 => exact HC0.out); rintro e w' ⟨rfl, ⟨nd, rfl⟩⟩; refine ⟨_, rfl, ?_⟩) | ((with_reducible refine gate_callee (f := 29) rfl ?_); refine gl (some 24) Try.func29 #[.slice A0 l0.length c0] ?_; (with_reducible refine (spec_DrawDiskOk.calls k _ _ l0 t442 t445 _ ?side1 ?side2 A4.out).mono ?_); (case side1 => repeat (first | exact HR0.out | (with_reducible refine Kd.C_alloc ?_ _) | (with_reducible refine Kd.C_drewN ?_ _) | (with_reducible refine Kd.C_drew ?_))); (case side2 => exact HC0.out); rintro e w26 ⟨v443, v446, rfl, ho0, ho1, hb⟩; refine ⟨_, rfl, ?_⟩; replace HO444 := ak (Kd.R_lower ho0 (below_size (lG HB))); replace HO447 := ak (Kd.R_lower ho1 (below_size (lG HB))); replace HB := lB HB hb; (try clear hb); (try clear hk); (try clear ho0); (try clear ho1)) | ((with_reducible refine gate_dst (N := 3) rfl ?_); (try (refine gate_guard (by rfl) ?_; dsimp only)); refine bx 3 #[.slice none 0 0, .slice none 0 0] 27 ?_; intro gb448 hg w27 hbox hb; replace HO444 := rB HO444 hb; replace HO447 := rB HO447 hb; replace BK448 := ak (hbox); replace GW448 := ak (bz hg (lG HB)); replace GE448 := ak (bz hg (lG HB)); replace HB := lB HB hb; clear hb hbox hg; obtain ⟨Ao28, co28, eo28⟩ := Kd.R_slice HO444.out; subst eo28; obtain ⟨hcz29_0, hcz29_1, hfz29_0, hfz29_1⟩ := bC2 BK448; obtain ⟨Ao30, co30, eo30⟩ := Kd.R_slice HO447.out; subst eo30) | ((with_reducible refine gate_callee (f := 30) rfl ?_); refine gl (some 27) Try.func30 #[.slice A0 l0.length c0] ?_; (with_reducible refine (spec_DrawReadSector.calls k _ _ l0 t449 t452 t455 _ ?side1 ?side2 A5.out).mono ?_); (case side1 => exact Kd.C_below HR0.out (lT HB (gC GE448 gN))); (case side2 => exact HC0.out); rintro e w31 ⟨v450, v453, rfl, ho0, ho1, hb⟩; refine ⟨_, rfl, ?_⟩; replace HO451 := ak (Kd.R_lower (Kd.R_new' ho0 (Kd.R_lt (rT HO444 BK448 (by decide)))) (below_size (lT HB (gC GE448 gN)))); replace HO444 := ak (Kd.R_elder' (rT HO444 BK448 (by decide)) (Kd.R_base ho0) hb); replace HO454 := ak (Kd.R_lower (Kd.R_new' ho1 (Kd.R_lt (rT HO447 BK448 (by decide)))) (below_size (lT HB (gC GE448 gN)))); replace HO447 := ak (Kd.R_elder' (rT HO447 BK448 (by decide)) (Kd.R_base ho1) hb); replace BK448 := ak (blk_below (g := gb448) (o := .cells #[.slice Ao28 t442.length co28, .slice Ao30 t445.length co30] 27 (0, 0)) (bW BK448) hb); replace HB := ak (below_step (lT HB (gC GE448 gN)) hb); (try clear hb); (try clear hk); (try clear ho0); (try clear ho1)) | ((with_reducible refine gate_dst (N := 4) rfl ?_); (try (refine gate_guard (by rfl) ?_; dsimp only)); refine bx 4 #[.slice none 0 0, .slice none 0 0] 27 ?_; intro gb456 hg w32 hbox hb; replace HO444 := rB HO444 hb; replace HO447 := rB HO447 hb; replace HO451 := rB HO451 hb; replace HO454 := rB HO454 hb; replace BK456 := ak (hbox); replace GW456 := ak (bz hg (lT HB (gC GE448 gN))); replace GE456 := ak (bz hg (lT HB (gC GE448 gN))); replace HB := ak (below_step (lT HB (gC GE448 gN)) hb); replace NB448_456 := ak (nl hg (bG BK448)); replace NB456_448 := ak (ng hg (bG BK448)); replace BK448 := bB BK448 hb; clear hb hbox hg; obtain ⟨Ao33, co33, eo33⟩ := Kd.R_slice HO451.out; subst eo33; have hnb34 := NB456_448.out; have hnc34 := NB448_456.out; obtain ⟨hcz35_0, hcz35_1, hfz35_0, hfz35_1⟩ := bC2 BK456; obtain ⟨Ao36, co36, eo36⟩ := Kd.R_slice HO454.out; subst eo36) | ((with_reducible refine gate_callee (f := 15) rfl ?_); refine gl (some 33) Try.func15 #[.agg #[.slice Ao33 t449.length co33, .slice Ao36 t452.length co36], .int .i64 t455] ?_; (with_reducible refine (impl_ReadSector.calls k _ _ t449 _ _ t452 t455 t457 t458 _ ?side1 ?side2 ?side3 ?side4 A6.out).mono ?_); (case side1 => exact (Kd.R_reads' (rT HO451 BK456 (by decide))).2.2); (case side2 => exact (Kd.R_reads' HO451.out).2.1); (case side3 => exact (Kd.R_reads' (rT HO454 BK456 (by decide))).2.2); (case side4 => exact (Kd.R_reads' HO454.out).2.1); rintro e w37 ⟨rfl, hb⟩; refine ⟨_, rfl, ?_⟩; replace HO444 := ak (Kd.R_below (rT HO444 BK456 (by decide)) hb); replace HO447 := ak (Kd.R_below (rT HO447 BK456 (by decide)) hb); replace HO451 := ak (Kd.R_below (rT HO451 BK456 (by decide)) hb); replace HO454 := ak (Kd.R_below (rT HO454 BK456 (by decide)) hb); replace BK448 := ak (blk_below (bT BK448 (nC NB448_456 nN)) hb); replace BK456 := ak (blk_below (g := gb456) (o := .cells #[.slice Ao33 t449.length co33, .slice Ao36 t452.length co36] 27 (0, 0)) (bW BK456) hb); replace HB := ak (below_step (lT HB (gC GE448 (gC GE456 gN))) hb); (try clear hb); (try clear hk); obtain ⟨hcz38_0, hcz38_1, hfz38_0, hfz38_1⟩ := bC2 BK456) | ((with_reducible refine gate_callee (f := 14) rfl ?_); refine gl (some 39) Try.func14 #[.agg #[.slice Ao33 t449.length co33, .slice Ao36 t452.length co36], .int .i64 t455] ?_; (with_reducible refine (spec_ReadSector.calls k _ _ t449 _ _ t452 t455 t459 t460 _ ?side1 ?side2 ?side3 ?side4 A7.out).mono ?_); (case side1 => exact cG (Kd.R_reads' HO451.out).2.2); (case side2 => exact (Kd.R_reads' HO451.out).2.1); (case side3 => exact cG (Kd.R_reads' HO454.out).2.2); (case side4 => exact (Kd.R_reads' HO454.out).2.1); rintro e w39 ⟨rfl, hb⟩; refine ⟨_, rfl, ?_⟩; replace HO444 := rB HO444 hb; replace HO447 := rB HO447 hb; replace HO451 := rB HO451 hb; replace HO454 := rB HO454 hb; replace BK448 := bB BK448 hb; replace BK456 := bB BK456 hb; replace HB := ak (below_step (lT HB (gC GE448 (gC GE456 gN))) hb); (try clear hb); (try clear hk)) | ((with_reducible refine gate_callee (f := 31) rfl ?_); refine gl (some 44) Try.func31 #[.slice A0 l0.length c0] ?_; (with_reducible refine (spec_DrawSectorText.calls k _ _ l0 t461 t464 t467 t468 _ ?side1 ?side2 A8.out).mono ?_); (case side1 => exact cG (Kd.C_below HR0.out HB.out)); (case side2 => exact HC0.out); rintro e w40 ⟨v462, v465, rfl, ho0, ho1, hb⟩; refine ⟨_, rfl, ?_⟩; replace HO463 := ak (Kd.R_lower (Kd.R_new' (Kd.R_new' ho0 (Kd.R_lt (rG HO444))) (Kd.R_lt (rG HO451))) (below_size (lT HB (gC GE448 (gC GE456 gN))))); replace HO444 := ak (Kd.R_elder' (rG HO444) (Kd.R_base ho0) hb); replace HO451 := ak (Kd.R_elder' (rG HO451) (Kd.R_base ho0) hb); replace HO466 := ak (Kd.R_lower (Kd.R_new' (Kd.R_new' ho1 (Kd.R_lt (rG HO447))) (Kd.R_lt (rG HO454))) (below_size (lT HB (gC GE448 (gC GE456 gN))))); replace HO447 := ak (Kd.R_elder' (rG HO447) (Kd.R_base ho1) hb); replace HO454 := ak (Kd.R_elder' (rG HO454) (Kd.R_base ho1) hb); replace BK448 := bB BK448 hb; replace BK456 := bB BK456 hb; replace HB := ak (below_step (lT HB (gC GE448 (gC GE456 gN))) hb); (try clear hb); (try clear hk); (try clear ho0); (try clear ho1)) | ((with_reducible refine gate_dst (N := 10) rfl ?_); (try (refine gate_guard (by rfl) ?_; dsimp only)); refine bx 10 #[.slice none 0 0, .slice none 0 0] 27 ?_; intro gb469 hg w41 hbox hb; replace HO444 := rB HO444 hb; replace HO447 := rB HO447 hb; replace HO451 := rB HO451 hb; replace HO454 := rB HO454 hb; replace HO463 := rB HO463 hb; replace HO466 := rB HO466 hb; replace BK469 := ak (hbox); replace GW469 := ak (bz hg (lT HB (gC GE448 (gC GE456 gN)))); replace GE469 := ak (bz hg (lT HB (gC GE448 (gC GE456 gN)))); replace HB := ak (below_step (lT HB (gC GE448 (gC GE456 gN))) hb); replace NB448_469 := ak (nl hg (bG BK448)); replace NB469_448 := ak (ng hg (bG BK448)); replace BK448 := bB BK448 hb; replace NB456_469 := ak (nl hg (bG BK456)); replace NB469_456 := ak (ng hg (bG BK456)); replace BK456 := bB BK456 hb; clear hb hbox hg; obtain ⟨Ao42, co42, eo42⟩ := Kd.R_slice HO463.out; subst eo42; have hnb43 := NB469_448.out; have hnc43 := NB448_469.out; have hnb44 := NB469_456.out; have hnc44 := NB456_469.out; obtain ⟨hcz45_0, hcz45_1, hfz45_0, hfz45_1⟩ := bC2 BK469; obtain ⟨Ao46, co46, eo46⟩ := Kd.R_slice HO466.out; subst eo46) | ((with_reducible refine gate_callee (f := 32) rfl ?_); refine gl (some 52) Try.func32 #[.agg #[.slice Ao42 t461.length co42, .slice Ao46 t464.length co46], .int .i64 t467, .int .i64 t468] ?_; (with_reducible refine (impl_SectorText.calls k _ _ t461 _ _ t464 t467 t468 t470 t471 _ ?side1 ?side2 ?side3 ?side4 A9.out).mono ?_); (case side1 => exact (Kd.R_reads' (rT HO463 BK469 (by decide))).2.2); (case side2 => exact (Kd.R_reads' HO463.out).2.1); (case side3 => exact (Kd.R_reads' (rT HO466 BK469 (by decide))).2.2); (case side4 => exact (Kd.R_reads' HO466.out).2.1); rintro e w47 ⟨rfl, hb⟩; refine ⟨_, rfl, ?_⟩; replace HO444 := ak (Kd.R_below (rT HO444 BK469 (by decide)) hb); replace HO447 := ak (Kd.R_below (rT HO447 BK469 (by decide)) hb); replace HO451 := ak (Kd.R_below (rT HO451 BK469 (by decide)) hb); replace HO454 := ak (Kd.R_below (rT HO454 BK469 (by decide)) hb); replace HO463 := ak (Kd.R_below (rT HO463 BK469 (by decide)) hb); replace HO466 := ak (Kd.R_below (rT HO466 BK469 (by decide)) hb); replace BK448 := ak (blk_below (bT BK448 (nC NB448_469 nN)) hb); replace BK456 := ak (blk_below (bT BK456 (nC NB456_469 nN)) hb); replace BK469 := ak (blk_below (g := gb469) (o := .cells #[.slice Ao42 t461.length co42, .slice Ao46 t464.length co46] 27 (0, 0)) (bW BK469) hb); replace HB := ak (below_step (lT HB (gC GE448 (gC GE456 (gC GE469 gN)))) hb); (try clear hb); (try clear hk); obtain ⟨hcz48_0, hcz48_1, hfz48_0, hfz48_1⟩ := bC2 BK469) | ((with_reducible refine gate_callee (f := 33) rfl ?_); refine gl (some 59) Try.func33 #[.agg #[.slice Ao42 t461.length co42, .slice Ao46 t464.length co46], .int .i64 t467, .int .i64 t468] ?_; (with_reducible refine (spec_SectorText.calls k _ _ t461 _ _ t464 t467 t468 t472 t473 _ ?side1 ?side2 ?side3 ?side4 A10.out).mono ?_); (case side1 => exact cG (Kd.R_reads' HO463.out).2.2); (case side2 => exact (Kd.R_reads' HO463.out).2.1); (case side3 => exact cG (Kd.R_reads' HO466.out).2.2); (case side4 => exact (Kd.R_reads' HO466.out).2.1); rintro e w49 ⟨rfl, hb⟩; refine ⟨_, rfl, ?_⟩; replace HO444 := rB HO444 hb; replace HO447 := rB HO447 hb; replace HO451 := rB HO451 hb; replace HO454 := rB HO454 hb; replace HO463 := rB HO463 hb; replace HO466 := rB HO466 hb; replace BK448 := bB BK448 hb; replace BK456 := bB BK456 hb; replace BK469 := bB BK469 hb; replace HB := ak (below_step (lT HB (gC GE448 (gC GE456 (gC GE469 gN)))) hb); (try clear hb); (try clear hk)) | ((with_reducible refine gate_callee (f := 34) rfl ?_); refine gl (some 63) Try.func34 #[.int .i64 3] ?_; (with_reducible refine (impl_DiskNew.calls k 3 t474 t477 true _ A11.out).mono ?_); rintro e w50 ⟨v475, v478, rfl, ho0, ho1, hb⟩; refine ⟨_, rfl, ?_⟩; replace HO476 := ak (Kd.R_lower (Kd.R_new' (Kd.R_new' (Kd.R_new' ho0 (Kd.R_lt (rG HO444))) (Kd.R_lt (rG HO451))) (Kd.R_lt (rG HO463))) (below_size (lT HB (gC GE448 (gC GE456 (gC GE469 gN)))))); replace HO444 := ak (Kd.R_elder' (rG HO444) (Kd.R_base ho0) hb); replace HO451 := ak (Kd.R_elder' (rG HO451) (Kd.R_base ho0) hb); replace HO463 := ak (Kd.R_elder' (rG HO463) (Kd.R_base ho0) hb); replace HO479 := ak (Kd.R_lower (Kd.R_new' (Kd.R_new' (Kd.R_new' ho1 (Kd.R_lt (rG HO447))) (Kd.R_lt (rG HO454))) (Kd.R_lt (rG HO466))) (below_size (lT HB (gC GE448 (gC GE456 (gC GE469 gN)))))); replace HO447 := ak (Kd.R_elder' (rG HO447) (Kd.R_base ho1) hb); replace HO454 := ak (Kd.R_elder' (rG HO454) (Kd.R_base ho1) hb); replace HO466 := ak (Kd.R_elder' (rG HO466) (Kd.R_base ho1) hb); replace BK448 := bB BK448 hb; replace BK456 := bB BK456 hb; replace BK469 := bB BK469 hb; replace HB := ak (below_step (lT HB (gC GE448 (gC GE456 (gC GE469 gN)))) hb); (try clear hb); (try clear hk); (try clear ho0); (try clear ho1)) | ((with_reducible refine gate_dst (N := 17) rfl ?_); (try (refine gate_guard (by rfl) ?_; dsimp only)); refine bx 17 #[.slice none 0 0, .slice none 0 0] 27 ?_; intro gb481 hg w51 hbox hb; replace HO444 := rB HO444 hb; replace HO447 := rB HO447 hb; replace HO451 := rB HO451 hb; replace HO454 := rB HO454 hb; replace HO463 := rB HO463 hb; replace HO466 := rB HO466 hb; replace HO476 := rB HO476 hb; replace HO479 := rB HO479 hb; replace BK481 := ak (hbox); replace GW481 := ak (bz hg (lT HB (gC GE448 (gC GE456 (gC GE469 gN))))); replace GE481 := ak (bz hg (lT HB (gC GE448 (gC GE456 (gC GE469 gN))))); replace HB := ak (below_step (lT HB (gC GE448 (gC GE456 (gC GE469 gN)))) hb); replace NB448_481 := ak (nl hg (bG BK448)); replace NB481_448 := ak (ng hg (bG BK448)); replace BK448 := bB BK448 hb; replace NB456_481 := ak (nl hg (bG BK456)); replace NB481_456 := ak (ng hg (bG BK456)); replace BK456 := bB BK456 hb; replace NB469_481 := ak (nl hg (bG BK469)); replace NB481_469 := ak (ng hg (bG BK469)); replace BK469 := bB BK469 hb; clear hb hbox hg; obtain ⟨Ao52, co52, eo52⟩ := Kd.R_slice HO476.out; subst eo52; have hnb53 := NB481_448.out; have hnc53 := NB448_481.out; have hnb54 := NB481_456.out; have hnc54 := NB456_481.out; have hnb55 := NB481_469.out; have hnc55 := NB469_481.out; obtain ⟨hcz56_0, hcz56_1, hfz56_0, hfz56_1⟩ := bC2 BK481; obtain ⟨Ao57, co57, eo57⟩ := Kd.R_slice HO479.out; subst eo57) | ((with_reducible refine gate_callee (f := 34) rfl ?_); refine gl (some 67) Try.func34 #[.int .i64 0] ?_; (with_reducible refine (impl_DiskNew.calls k 0 t482 t485 true _ A12.out).mono ?_); rintro e w58 ⟨v483, v486, rfl, ho0, ho1, hb⟩; refine ⟨_, rfl, ?_⟩; replace HO484 := ak (Kd.R_lower (Kd.R_new' (Kd.R_new' (Kd.R_new' (Kd.R_new' ho0 (Kd.R_lt (rT HO444 BK481 (by decide)))) (Kd.R_lt (rT HO451 BK481 (by decide)))) (Kd.R_lt (rT HO463 BK481 (by decide)))) (Kd.R_lt (rT HO476 BK481 (by decide)))) (below_size (lT HB (gC GE448 (gC GE456 (gC GE469 (gC GE481 gN))))))); replace HO444 := ak (Kd.R_elder' (rT HO444 BK481 (by decide)) (Kd.R_base ho0) hb); replace HO451 := ak (Kd.R_elder' (rT HO451 BK481 (by decide)) (Kd.R_base ho0) hb); replace HO463 := ak (Kd.R_elder' (rT HO463 BK481 (by decide)) (Kd.R_base ho0) hb); replace HO476 := ak (Kd.R_elder' (rT HO476 BK481 (by decide)) (Kd.R_base ho0) hb); replace HO487 := ak (Kd.R_lower (Kd.R_new' (Kd.R_new' (Kd.R_new' (Kd.R_new' ho1 (Kd.R_lt (rT HO447 BK481 (by decide)))) (Kd.R_lt (rT HO454 BK481 (by decide)))) (Kd.R_lt (rT HO466 BK481 (by decide)))) (Kd.R_lt (rT HO479 BK481 (by decide)))) (below_size (lT HB (gC GE448 (gC GE456 (gC GE469 (gC GE481 gN))))))); replace HO447 := ak (Kd.R_elder' (rT HO447 BK481 (by decide)) (Kd.R_base ho1) hb); replace HO454 := ak (Kd.R_elder' (rT HO454 BK481 (by decide)) (Kd.R_base ho1) hb); replace HO466 := ak (Kd.R_elder' (rT HO466 BK481 (by decide)) (Kd.R_base ho1) hb); replace HO479 := ak (Kd.R_elder' (rT HO479 BK481 (by decide)) (Kd.R_base ho1) hb); replace BK448 := ak (blk_below (bT BK448 (nC NB448_481 nN)) hb); replace BK456 := ak (blk_below (bT BK456 (nC NB456_481 nN)) hb); replace BK469 := ak (blk_below (bT BK469 (nC NB469_481 nN)) hb); replace BK481 := ak (blk_below (g := gb481) (o := .cells #[.slice Ao52 t474.length co52, .slice Ao57 t477.length co57] 27 (0, 0)) (bW BK481) hb); replace HB := ak (below_step (lT HB (gC GE448 (gC GE456 (gC GE469 (gC GE481 gN))))) hb); (try clear hb); (try clear hk); (try clear ho0); (try clear ho1)) | ((with_reducible refine gate_dst (N := 19) rfl ?_); (try (refine gate_guard (by rfl) ?_; dsimp only)); refine bx 19 #[.slice none 0 0, .slice none 0 0] 27 ?_; intro gb489 hg w59 hbox hb; replace HO444 := rB HO444 hb; replace HO447 := rB HO447 hb; replace HO451 := rB HO451 hb; replace HO454 := rB HO454 hb; replace HO463 := rB HO463 hb; replace HO466 := rB HO466 hb; replace HO476 := rB HO476 hb; replace HO479 := rB HO479 hb; replace HO484 := rB HO484 hb; replace HO487 := rB HO487 hb; replace BK489 := ak (hbox); replace GW489 := ak (bz hg (lT HB (gC GE448 (gC GE456 (gC GE469 (gC GE481 gN)))))); replace GE489 := ak (bz hg (lT HB (gC GE448 (gC GE456 (gC GE469 (gC GE481 gN)))))); replace HB := ak (below_step (lT HB (gC GE448 (gC GE456 (gC GE469 (gC GE481 gN))))) hb); replace NB448_489 := ak (nl hg (bG BK448)); replace NB489_448 := ak (ng hg (bG BK448)); replace BK448 := bB BK448 hb; replace NB456_489 := ak (nl hg (bG BK456)); replace NB489_456 := ak (ng hg (bG BK456)); replace BK456 := bB BK456 hb; replace NB469_489 := ak (nl hg (bG BK469)); replace NB489_469 := ak (ng hg (bG BK469)); replace BK469 := bB BK469 hb; replace NB481_489 := ak (nl hg (bG BK481)); replace NB489_481 := ak (ng hg (bG BK481)); replace BK481 := bB BK481 hb; clear hb hbox hg; obtain ⟨Ao60, co60, eo60⟩ := Kd.R_slice HO484.out; subst eo60; have hnb61 := NB489_448.out; have hnc61 := NB448_489.out; have hnb62 := NB489_456.out; have hnc62 := NB456_489.out; have hnb63 := NB489_469.out; have hnc63 := NB469_489.out; have hnb64 := NB489_481.out; have hnc64 := NB481_489.out; obtain ⟨hcz65_0, hcz65_1, hfz65_0, hfz65_1⟩ := bC2 BK489; obtain ⟨Ao66, co66, eo66⟩ := Kd.R_slice HO487.out; subst eo66))
 have n0_ : Aside0 (Kd.R Kd.string 9 ((w59.setCell ⟨gb489, 0, none⟩ (.slice Ao60 t482.length co60)).setCell ⟨gb489, 1, none⟩ (.slice Ao66 t485.length co66)) w.heap.size (fun k_ => some k_ ≠ (.slice Ao33 t449.length co33 : Value).ownBlock ∧ some k_ ≠ (.slice Ao42 t461.length co42 : Value).ownBlock ∧ some k_ ≠ (.slice Ao52 t474.length co52 : Value).ownBlock ∧ some k_ ≠ (.slice Ao60 t482.length co60 : Value).ownBlock) (.slice Ao28 t442.length co28) t442) := ⟨by (with_reducible repeat (first | apply Kd.R_alloc | apply Kd.R_drewN | apply Kd.R_drew)); exact Kd.R_mono (Kd.R_far (p := ⟨gb489, 1, none⟩) (Kd.R_far (p := ⟨gb489, 0, none⟩) (Kd.R_types HO444.out BK489.out (by decide)) (fun _ hk => hk.2) (.slice Ao60 t482.length co60)) (fun _ hk => hk.2) (.slice Ao66 t485.length co66)) (fun _ hk => ⟨hk.1.1.1.1.2, ⟨hk.1.1.1.2, ⟨hk.1.1.2, hk.1.2⟩⟩⟩)⟩
 have n1_ : Aside0 (Kd.R k63 63 ((w59.setCell ⟨gb489, 0, none⟩ (.slice Ao60 t482.length co60)).setCell ⟨gb489, 1, none⟩ (.slice Ao66 t485.length co66)) w.heap.size (fun k_ => some k_ ≠ (.slice Ao36 t452.length co36 : Value).ownBlock ∧ some k_ ≠ (.slice Ao46 t464.length co46 : Value).ownBlock ∧ some k_ ≠ (.slice Ao57 t477.length co57 : Value).ownBlock ∧ some k_ ≠ (.slice Ao66 t485.length co66 : Value).ownBlock) (.slice Ao30 t445.length co30) t445) := ⟨by (with_reducible repeat (first | apply Kd.R_alloc | apply Kd.R_drewN | apply Kd.R_drew)); exact Kd.R_mono (Kd.R_far (p := ⟨gb489, 1, none⟩) (Kd.R_far (p := ⟨gb489, 0, none⟩) (Kd.R_types HO447.out BK489.out (by decide)) (fun _ hk => hk.2) (.slice Ao60 t482.length co60)) (fun _ hk => hk.2) (.slice Ao66 t485.length co66)) (fun _ hk => ⟨hk.1.1.1.1.2, ⟨hk.1.1.1.2, ⟨hk.1.1.2, hk.1.2⟩⟩⟩)⟩
 have n2_ : Aside0 (Kd.R Kd.string 9 ((w59.setCell ⟨gb489, 0, none⟩ (.slice Ao60 t482.length co60)).setCell ⟨gb489, 1, none⟩ (.slice Ao66 t485.length co66)) w.heap.size (fun k_ => some k_ ≠ (.slice Ao28 t442.length co28 : Value).ownBlock ∧ some k_ ≠ (.slice Ao42 t461.length co42 : Value).ownBlock ∧ some k_ ≠ (.slice Ao52 t474.length co52 : Value).ownBlock ∧ some k_ ≠ (.slice Ao60 t482.length co60 : Value).ownBlock) (.slice Ao33 t449.length co33) t449) := ⟨by (with_reducible repeat (first | apply Kd.R_alloc | apply Kd.R_drewN | apply Kd.R_drew)); exact Kd.R_mono (Kd.R_far (p := ⟨gb489, 1, none⟩) (Kd.R_far (p := ⟨gb489, 0, none⟩) (Kd.R_types HO451.out BK489.out (by decide)) (fun _ hk => hk.2) (.slice Ao60 t482.length co60)) (fun _ hk => hk.2) (.slice Ao66 t485.length co66)) (fun _ hk => ⟨hk.1.1.1.1.2, ⟨hk.1.1.1.2, ⟨hk.1.1.2, hk.1.2⟩⟩⟩)⟩
 have n3_ : Aside0 (Kd.R k63 63 ((w59.setCell ⟨gb489, 0, none⟩ (.slice Ao60 t482.length co60)).setCell ⟨gb489, 1, none⟩ (.slice Ao66 t485.length co66)) w.heap.size (fun k_ => some k_ ≠ (.slice Ao30 t445.length co30 : Value).ownBlock ∧ some k_ ≠ (.slice Ao46 t464.length co46 : Value).ownBlock ∧ some k_ ≠ (.slice Ao57 t477.length co57 : Value).ownBlock ∧ some k_ ≠ (.slice Ao66 t485.length co66 : Value).ownBlock) (.slice Ao36 t452.length co36) t452) := ⟨by (with_reducible repeat (first | apply Kd.R_alloc | apply Kd.R_drewN | apply Kd.R_drew)); exact Kd.R_mono (Kd.R_far (p := ⟨gb489, 1, none⟩) (Kd.R_far (p := ⟨gb489, 0, none⟩) (Kd.R_types HO454.out BK489.out (by decide)) (fun _ hk => hk.2) (.slice Ao60 t482.length co60)) (fun _ hk => hk.2) (.slice Ao66 t485.length co66)) (fun _ hk => ⟨hk.1.1.1.1.2, ⟨hk.1.1.1.2, ⟨hk.1.1.2, hk.1.2⟩⟩⟩)⟩
 have n4_ : Aside0 (Kd.R Kd.string 9 ((w59.setCell ⟨gb489, 0, none⟩ (.slice Ao60 t482.length co60)).setCell ⟨gb489, 1, none⟩ (.slice Ao66 t485.length co66)) w.heap.size (fun k_ => some k_ ≠ (.slice Ao28 t442.length co28 : Value).ownBlock ∧ some k_ ≠ (.slice Ao33 t449.length co33 : Value).ownBlock ∧ some k_ ≠ (.slice Ao52 t474.length co52 : Value).ownBlock ∧ some k_ ≠ (.slice Ao60 t482.length co60 : Value).ownBlock) (.slice Ao42 t461.length co42) t461) := ⟨by (with_reducible repeat (first | apply Kd.R_alloc | apply Kd.R_drewN | apply Kd.R_drew)); exact Kd.R_mono (Kd.R_far (p := ⟨gb489, 1, none⟩) (Kd.R_far (p := ⟨gb489, 0, none⟩) (Kd.R_types HO463.out BK489.out (by decide)) (fun _ hk => hk.2) (.slice Ao60 t482.length co60)) (fun _ hk => hk.2) (.slice Ao66 t485.length co66)) (fun _ hk => ⟨hk.1.1.1.1.2, ⟨hk.1.1.1.2, ⟨hk.1.1.2, hk.1.2⟩⟩⟩)⟩
 have n5_ : Aside0 (Kd.R k63 63 ((w59.setCell ⟨gb489, 0, none⟩ (.slice Ao60 t482.length co60)).setCell ⟨gb489, 1, none⟩ (.slice Ao66 t485.length co66)) w.heap.size (fun k_ => some k_ ≠ (.slice Ao30 t445.length co30 : Value).ownBlock ∧ some k_ ≠ (.slice Ao36 t452.length co36 : Value).ownBlock ∧ some k_ ≠ (.slice Ao57 t477.length co57 : Value).ownBlock ∧ some k_ ≠ (.slice Ao66 t485.length co66 : Value).ownBlock) (.slice Ao46 t464.length co46) t464) := ⟨by (with_reducible repeat (first | apply Kd.R_alloc | apply Kd.R_drewN | apply Kd.R_drew)); exact Kd.R_mono (Kd.R_far (p := ⟨gb489, 1, none⟩) (Kd.R_far (p := ⟨gb489, 0, none⟩) (Kd.R_types HO466.out BK489.out (by decide)) (fun _ hk => hk.2) (.slice Ao60 t482.length co60)) (fun _ hk => hk.2) (.slice Ao66 t485.length co66)) (fun _ hk => ⟨hk.1.1.1.1.2, ⟨hk.1.1.1.2, ⟨hk.1.1.2, hk.1.2⟩⟩⟩)⟩
 have n6_ : Aside0 (Kd.R Kd.string 9 ((w59.setCell ⟨gb489, 0, none⟩ (.slice Ao60 t482.length co60)).setCell ⟨gb489, 1, none⟩ (.slice Ao66 t485.length co66)) w.heap.size (fun k_ => some k_ ≠ (.slice Ao28 t442.length co28 : Value).ownBlock ∧ some k_ ≠ (.slice Ao33 t449.length co33 : Value).ownBlock ∧ some k_ ≠ (.slice Ao42 t461.length co42 : Value).ownBlock ∧ some k_ ≠ (.slice Ao60 t482.length co60 : Value).ownBlock) (.slice Ao52 t474.length co52) t474) := ⟨by (with_reducible repeat (first | apply Kd.R_alloc | apply Kd.R_drewN | apply Kd.R_drew)); exact Kd.R_mono (Kd.R_far (p := ⟨gb489, 1, none⟩) (Kd.R_far (p := ⟨gb489, 0, none⟩) (Kd.R_types HO476.out BK489.out (by decide)) (fun _ hk => hk.2) (.slice Ao60 t482.length co60)) (fun _ hk => hk.2) (.slice Ao66 t485.length co66)) (fun _ hk => ⟨hk.1.1.1.1.2, ⟨hk.1.1.1.2, ⟨hk.1.1.2, hk.1.2⟩⟩⟩)⟩
 have n7_ : Aside0 (Kd.R k63 63 ((w59.setCell ⟨gb489, 0, none⟩ (.slice Ao60 t482.length co60)).setCell ⟨gb489, 1, none⟩ (.slice Ao66 t485.length co66)) w.heap.size (fun k_ => some k_ ≠ (.slice Ao30 t445.length co30 : Value).ownBlock ∧ some k_ ≠ (.slice Ao36 t452.length co36 : Value).ownBlock ∧ some k_ ≠ (.slice Ao46 t464.length co46 : Value).ownBlock ∧ some k_ ≠ (.slice Ao66 t485.length co66 : Value).ownBlock) (.slice Ao57 t477.length co57) t477) := ⟨by (with_reducible repeat (first | apply Kd.R_alloc | apply Kd.R_drewN | apply Kd.R_drew)); exact Kd.R_mono (Kd.R_far (p := ⟨gb489, 1, none⟩) (Kd.R_far (p := ⟨gb489, 0, none⟩) (Kd.R_types HO479.out BK489.out (by decide)) (fun _ hk => hk.2) (.slice Ao60 t482.length co60)) (fun _ hk => hk.2) (.slice Ao66 t485.length co66)) (fun _ hk => ⟨hk.1.1.1.1.2, ⟨hk.1.1.1.2, ⟨hk.1.1.2, hk.1.2⟩⟩⟩)⟩
 have n8_ : Aside0 (Kd.R Kd.string 9 ((w59.setCell ⟨gb489, 0, none⟩ (.slice Ao60 t482.length co60)).setCell ⟨gb489, 1, none⟩ (.slice Ao66 t485.length co66)) w.heap.size (fun k_ => some k_ ≠ (.slice Ao28 t442.length co28 : Value).ownBlock ∧ some k_ ≠ (.slice Ao33 t449.length co33 : Value).ownBlock ∧ some k_ ≠ (.slice Ao42 t461.length co42 : Value).ownBlock ∧ some k_ ≠ (.slice Ao52 t474.length co52 : Value).ownBlock) (.slice Ao60 t482.length co60) t482) := ⟨by (with_reducible repeat (first | apply Kd.R_alloc | apply Kd.R_drewN | apply Kd.R_drew)); exact Kd.R_mono (Kd.R_far (p := ⟨gb489, 1, none⟩) (Kd.R_far (p := ⟨gb489, 0, none⟩) (Kd.R_types HO484.out BK489.out (by decide)) (fun _ hk => hk.2) (.slice Ao60 t482.length co60)) (fun _ hk => hk.2) (.slice Ao66 t485.length co66)) (fun _ hk => ⟨hk.1.1.1.1.2, ⟨hk.1.1.1.2, ⟨hk.1.1.2, hk.1.2⟩⟩⟩)⟩
 have n9_ : Aside0 (Kd.R k63 63 ((w59.setCell ⟨gb489, 0, none⟩ (.slice Ao60 t482.length co60)).setCell ⟨gb489, 1, none⟩ (.slice Ao66 t485.length co66)) w.heap.size (fun k_ => some k_ ≠ (.slice Ao30 t445.length co30 : Value).ownBlock ∧ some k_ ≠ (.slice Ao36 t452.length co36 : Value).ownBlock ∧ some k_ ≠ (.slice Ao46 t464.length co46 : Value).ownBlock ∧ some k_ ≠ (.slice Ao57 t477.length co57 : Value).ownBlock) (.slice Ao66 t485.length co66) t485) := ⟨by (with_reducible repeat (first | apply Kd.R_alloc | apply Kd.R_drewN | apply Kd.R_drew)); exact Kd.R_mono (Kd.R_far (p := ⟨gb489, 1, none⟩) (Kd.R_far (p := ⟨gb489, 0, none⟩) (Kd.R_types HO487.out BK489.out (by decide)) (fun _ hk => hk.2) (.slice Ao60 t482.length co60)) (fun _ hk => hk.2) (.slice Ao66 t485.length co66)) (fun _ hk => ⟨hk.1.1.1.1.2, ⟨hk.1.1.1.2, ⟨hk.1.1.2, hk.1.2⟩⟩⟩)⟩
 have n10_ : Aside0 (((w59.setCell ⟨gb489, 0, none⟩ (.slice Ao60 t482.length co60)).setCell ⟨gb489, 1, none⟩ (.slice Ao66 t485.length co66)).heap[gb448]? = some (.cells #[.slice Ao28 t442.length co28, .slice Ao30 t445.length co30] 27 (0, 0))) := ⟨by (with_reducible repeat (first | refine blk_drewN ?_ _ | refine blk_drew ?_ | refine blk_alloc ?_ _)); refine blk_far ?_ NB448_489.out _; (with_reducible repeat (first | refine blk_drewN ?_ _ | refine blk_drew ?_ | refine blk_alloc ?_ _)); refine blk_far ?_ NB448_489.out _; (with_reducible repeat (first | refine blk_drewN ?_ _ | refine blk_drew ?_ | refine blk_alloc ?_ _)); exact BK448.out⟩
 have n11_ : Aside0 (((w59.setCell ⟨gb489, 0, none⟩ (.slice Ao60 t482.length co60)).setCell ⟨gb489, 1, none⟩ (.slice Ao66 t485.length co66)).heap[gb456]? = some (.cells #[.slice Ao33 t449.length co33, .slice Ao36 t452.length co36] 27 (0, 0))) := ⟨by (with_reducible repeat (first | refine blk_drewN ?_ _ | refine blk_drew ?_ | refine blk_alloc ?_ _)); refine blk_far ?_ NB456_489.out _; (with_reducible repeat (first | refine blk_drewN ?_ _ | refine blk_drew ?_ | refine blk_alloc ?_ _)); refine blk_far ?_ NB456_489.out _; (with_reducible repeat (first | refine blk_drewN ?_ _ | refine blk_drew ?_ | refine blk_alloc ?_ _)); exact BK456.out⟩
 have n12_ : Aside0 (((w59.setCell ⟨gb489, 0, none⟩ (.slice Ao60 t482.length co60)).setCell ⟨gb489, 1, none⟩ (.slice Ao66 t485.length co66)).heap[gb469]? = some (.cells #[.slice Ao42 t461.length co42, .slice Ao46 t464.length co46] 27 (0, 0))) := ⟨by (with_reducible repeat (first | refine blk_drewN ?_ _ | refine blk_drew ?_ | refine blk_alloc ?_ _)); refine blk_far ?_ NB469_489.out _; (with_reducible repeat (first | refine blk_drewN ?_ _ | refine blk_drew ?_ | refine blk_alloc ?_ _)); refine blk_far ?_ NB469_489.out _; (with_reducible repeat (first | refine blk_drewN ?_ _ | refine blk_drew ?_ | refine blk_alloc ?_ _)); exact BK469.out⟩
 have n13_ : Aside0 (((w59.setCell ⟨gb489, 0, none⟩ (.slice Ao60 t482.length co60)).setCell ⟨gb489, 1, none⟩ (.slice Ao66 t485.length co66)).heap[gb481]? = some (.cells #[.slice Ao52 t474.length co52, .slice Ao57 t477.length co57] 27 (0, 0))) := ⟨by (with_reducible repeat (first | refine blk_drewN ?_ _ | refine blk_drew ?_ | refine blk_alloc ?_ _)); refine blk_far ?_ NB481_489.out _; (with_reducible repeat (first | refine blk_drewN ?_ _ | refine blk_drew ?_ | refine blk_alloc ?_ _)); refine blk_far ?_ NB481_489.out _; (with_reducible repeat (first | refine blk_drewN ?_ _ | refine blk_drew ?_ | refine blk_alloc ?_ _)); exact BK481.out⟩
 have n14_ : Aside0 (((w59.setCell ⟨gb489, 0, none⟩ (.slice Ao60 t482.length co60)).setCell ⟨gb489, 1, none⟩ (.slice Ao66 t485.length co66)).heap[gb489]? = some (.cells #[.slice Ao60 t482.length co60, .slice Ao66 t485.length co66] 27 (0, 0))) := ⟨bW BK489⟩
 have n15_ : Aside0 (Below w.heap.size w ((w59.setCell ⟨gb489, 0, none⟩ (.slice Ao60 t482.length co60)).setCell ⟨gb489, 1, none⟩ (.slice Ao66 t485.length co66))) := ⟨by exact lT HB (gC GE448 (gC GE456 (gC GE469 (gC GE481 (gC GE489 gN)))))⟩
 (try clear HO444)
 (try clear HO447)
 (try clear HO451)
 (try clear HO454)
 (try clear HO463)
 (try clear HO466)
 (try clear HO476)
 (try clear HO479)
 (try clear HO484)
 (try clear HO487)
 (try clear BK448)
 (try clear BK456)
 (try clear BK469)
 (try clear BK481)
 (try clear BK489)
 (try clear HB)
 generalize ((w59.setCell ⟨gb489, 0, none⟩ (.slice Ao60 t482.length co60)).setCell ⟨gb489, 1, none⟩ (.slice Ao66 t485.length co66)) = w67 at n0_ n1_ n2_ n3_ n4_ n5_ n6_ n7_ n8_ n9_ n10_ n11_ n12_ n13_ n14_ n15_ ⊢
 have HO444 := n0_
 have HO447 := n1_
 have HO451 := n2_
 have HO454 := n3_
 have HO463 := n4_
 have HO466 := n5_
 have HO476 := n6_
 have HO479 := n7_
 have HO484 := n8_
 have HO487 := n9_
 have BK448 := n10_
 have BK456 := n11_
 have BK469 := n12_
 have BK481 := n13_
 have BK489 := n14_
 have HB := n15_
 clear n0_ n1_ n2_ n3_ n4_ n5_ n6_ n7_ n8_ n9_ n10_ n11_ n12_ n13_ n14_ n15_
 replace HO444 := ak (Kd.R_drew HO444.out)
 replace HO447 := ak (Kd.R_drew HO447.out)
 replace HO451 := ak (Kd.R_drew HO451.out)
 replace HO454 := ak (Kd.R_drew HO454.out)
 replace HO463 := ak (Kd.R_drew HO463.out)
 replace HO466 := ak (Kd.R_drew HO466.out)
 replace HO476 := ak (Kd.R_drew HO476.out)
 replace HO479 := ak (Kd.R_drew HO479.out)
 replace HO484 := ak (Kd.R_drew HO484.out)
 replace HO487 := ak (Kd.R_drew HO487.out)
 replace BK448 := ak (blk_drew BK448.out)
 replace BK456 := ak (blk_drew BK456.out)
 replace BK469 := ak (blk_drew BK469.out)
 replace BK481 := ak (blk_drew BK481.out)
 replace BK489 := ak (blk_drew BK489.out)
 replace HB := ak (below_drew1 HB.out)
 refine start_ (n := 46) (S := fun w' => w'.cell? ⟨gb448, 0, none⟩ = some (.slice Ao28 t442.length co28) ∧ w'.cell? ⟨gb448, 1, none⟩ = some (.slice Ao30 t445.length co30)) (ds := []) #[f_,f_,f_,f_,f_,f_,f_,f_,f_,f_,f_,f_,f_,f_,f_,f_,f_,f_,f_,f_,f_,f_,f_,f_,f_,f_,f_,f_,f_,f_,f_,f_,f_,f_,f_,f_,f_,f_,f_,f_,f_,f_,f_,f_,f_,f_] (by kernel_rfl) rfl rfl ⟨bc BK448 0, bc BK448 1⟩ (fun hHeld => ?_); refine with_tabW laws_FnDisksTold.tab12 laws_FnDisksTold.bits12 (fun HT_ HW_ => ?_)
 generalize w67.drew = w68 at HO444 HO447 HO451 HO454 HO463 HO466 HO476 HO479 HO484 HO487 BK448 BK456 BK469 BK481 BK489 HB hHeld ⊢
 refine tk 0 70 (fb 46 1) HT_ HW_ hHeld ?_
 refine tk 2 72 (fb 46 5) HT_ HW_ hHeld ?_
 refine on 1 (some 71) (fb 46 7) HT_ (fun K hK => ?_)
 refine goes_ Try.func16 (by kernel_rfl) rfl #[.agg #[.slice Ao28 t442.length co28, .slice Ao30 t445.length co30]] (by rfl) rfl rfl (by (try simp only [List.map_toArray, List.map_cons, List.map_nil]); first | done | rfl | (simp only [List.length_drop, List.length_take]; rfl)) ?_
 with_reducible refine (impl_DiskOk.calls _ _ t442 _ _ t445 t490 _ ?side1 ?side2 ?side3 ?side4 A13.out).mono ?_
 (case side1 => exact cG (Kd.R_reads' HO444.out).2.2)
 (case side2 => exact (Kd.R_reads' HO444.out).2.1)
 (case side3 => exact cG (Kd.R_reads' HO447.out).2.2)
 (case side4 => exact (Kd.R_reads' HO447.out).2.1)
 rintro e w69 ⟨rfl, hb⟩
 refine ⟨_, rfl, ?_⟩
 replace HO444 := rB HO444 hb
 replace HO447 := rB HO447 hb
 replace HO451 := rB HO451 hb
 replace HO454 := rB HO454 hb
 replace HO463 := rB HO463 hb
 replace HO466 := rB HO466 hb
 replace HO476 := rB HO476 hb
 replace HO479 := rB HO479 hb
 replace HO484 := rB HO484 hb
 replace HO487 := rB HO487 hb
 replace BK448 := bB BK448 hb
 replace BK456 := bB BK456 hb
 replace BK469 := bB BK469 hb
 replace BK481 := bB BK481 hb
 replace BK489 := bB BK489 hb
 replace HB := ak (below_step (lT HB (gC GE448 (gC GE456 (gC GE469 (gC GE481 (gC GE489 gN)))))) hb)
 (try clear hb)
 (try clear hb2)
 (try clear hk)
 (try clear hi)
 refine hK.out _ _ ⟨bc BK448 0, bc BK448 1⟩ (fun hHeld => ?_)
 clear hK K
 refine nm ?_
 refine on 3 (some 73) (fb 46 15) HT_ (fun K hK => ?_)
 refine goes_ Try.func35 (by kernel_rfl) rfl #[.agg #[.slice Ao28 t442.length co28, .slice Ao30 t445.length co30]] (by rfl) rfl rfl (by (try simp only [List.map_toArray, List.map_cons, List.map_nil]); first | done | rfl | (simp only [List.length_drop, List.length_take]; rfl)) ?_
 with_reducible refine (spec_DiskOk.calls k _ _ t442 _ _ t445 t491 _ ?side1 ?side2 ?side3 ?side4 A14.out).mono ?_
 (case side1 => exact cG (Kd.R_reads' HO444.out).2.2)
 (case side2 => exact (Kd.R_reads' HO444.out).2.1)
 (case side3 => exact cG (Kd.R_reads' HO447.out).2.2)
 (case side4 => exact (Kd.R_reads' HO447.out).2.1)
 rintro e w70 ⟨rfl, hb⟩
 refine ⟨_, rfl, ?_⟩
 replace HO444 := rB HO444 hb
 replace HO447 := rB HO447 hb
 replace HO451 := rB HO451 hb
 replace HO454 := rB HO454 hb
 replace HO463 := rB HO463 hb
 replace HO466 := rB HO466 hb
 replace HO476 := rB HO476 hb
 replace HO479 := rB HO479 hb
 replace HO484 := rB HO484 hb
 replace HO487 := rB HO487 hb
 replace BK448 := bB BK448 hb
 replace BK456 := bB BK456 hb
 replace BK469 := bB BK469 hb
 replace BK481 := bB BK481 hb
 replace BK489 := bB BK489 hb
 replace HB := ak (below_step (lT HB (gC GE448 (gC GE456 (gC GE469 (gC GE481 (gC GE489 gN)))))) hb)
 (try clear hb)
 (try clear hb2)
 (try clear hk)
 (try clear hi)
 refine hK.out _ _ ⟨bc BK448 0, bc BK448 1⟩ (fun hHeld => ?_)
 clear hK K
 refine nm ?_
 refine pu 4 74 (fb 46 31) HT_ ?_
 refine pu 5 75 (fb 46 63) HT_ ?_
 refine pu 6 76 (fb 46 127) HT_ ?_
 refine pu 7 77 (fb 46 255) HT_ ?_
 refine pu 8 78 (fb 46 511) HT_ ?_
 refine pu 9 79 (fb 46 1023) HT_ ?_
 refine pu 10 80 (fb 46 2047) HT_ ?_
 refine pu 11 81 (fb 46 4095) HT_ ?_
 refine pu 12 82 (fb 46 8191) HT_ ?_
 refine pu 13 83 (fb 46 16383) HT_ ?_
 refine pu 14 84 (fb 46 32767) HT_ ?_
 refine pu 15 85 (fb 46 65535) HT_ ?_
 refine pu 16 86 (fb 46 131071) HT_ ?_
 refine pu 17 87 (fb 46 262143) HT_ ?_
 refine pu 18 88 (fb 46 524287) HT_ ?_
 refine pu 19 89 (fb 46 1048575) HT_ ?_
 refine pu 20 90 (fb 46 2097151) HT_ ?_
 refine pu 21 91 (fb 46 4194303) HT_ ?_
 refine pu 22 92 (fb 46 8388607) HT_ ?_
 refine pu 23 93 (fb 46 16777215) HT_ ?_
 refine pu 24 94 (fb 46 33554431) HT_ ?_
 refine pu 25 95 (fb 46 67108863) HT_ ?_
 refine tk 26 96 (fb 46 134217727) HT_ HW_ hHeld ?_
 refine tk 28 98 (fb 46 402653183) HT_ HW_ hHeld ?_
 refine on 27 (some 97) (fb 46 536870911) HT_ (fun K hK => ?_)
 refine goes_ Try.func13 (by kernel_rfl) rfl #[.agg #[.slice Ao28 t442.length co28, .slice Ao30 t445.length co30]] (by rfl) rfl rfl (by (try simp only [List.map_toArray, List.map_cons, List.map_nil]); first | done | rfl | (simp only [List.length_drop, List.length_take]; rfl)) ?_
 with_reducible refine (impl_FlushDisk.calls k _ _ t442 _ _ t445 t492 t495 _ ?side1 ?side2 ?side3 ?side4 A20.out).mono ?_
 (case side1 => exact cG (Kd.R_reads' HO444.out).2.2)
 (case side2 => exact (Kd.R_reads' HO444.out).2.1)
 (case side3 => exact cG (Kd.R_reads' HO447.out).2.2)
 (case side4 => exact (Kd.R_reads' HO447.out).2.1)
 rintro e w71 ⟨v493, v496, rfl, ho0, ho1, hb⟩
 refine ⟨_, rfl, ?_⟩
 replace HO494 := ak (Kd.R_lower (Kd.R_new' (Kd.R_new' (Kd.R_new' (Kd.R_new' (Kd.R_new' ho0 (Kd.R_lt (rG HO444))) (Kd.R_lt (rG HO451))) (Kd.R_lt (rG HO463))) (Kd.R_lt (rG HO476))) (Kd.R_lt (rG HO484))) (below_size (lT HB (gC GE448 (gC GE456 (gC GE469 (gC GE481 (gC GE489 gN))))))))
 replace HO444 := ak (Kd.R_elder' (rG HO444) (Kd.R_base ho0) hb)
 replace HO451 := ak (Kd.R_elder' (rG HO451) (Kd.R_base ho0) hb)
 replace HO463 := ak (Kd.R_elder' (rG HO463) (Kd.R_base ho0) hb)
 replace HO476 := ak (Kd.R_elder' (rG HO476) (Kd.R_base ho0) hb)
 replace HO484 := ak (Kd.R_elder' (rG HO484) (Kd.R_base ho0) hb)
 replace HO497 := ak (Kd.R_lower (Kd.R_new' (Kd.R_new' (Kd.R_new' (Kd.R_new' (Kd.R_new' ho1 (Kd.R_lt (rG HO447))) (Kd.R_lt (rG HO454))) (Kd.R_lt (rG HO466))) (Kd.R_lt (rG HO479))) (Kd.R_lt (rG HO487))) (below_size (lT HB (gC GE448 (gC GE456 (gC GE469 (gC GE481 (gC GE489 gN))))))))
 replace HO447 := ak (Kd.R_elder' (rG HO447) (Kd.R_base ho1) hb)
 replace HO454 := ak (Kd.R_elder' (rG HO454) (Kd.R_base ho1) hb)
 replace HO466 := ak (Kd.R_elder' (rG HO466) (Kd.R_base ho1) hb)
 replace HO479 := ak (Kd.R_elder' (rG HO479) (Kd.R_base ho1) hb)
 replace HO487 := ak (Kd.R_elder' (rG HO487) (Kd.R_base ho1) hb)
 replace BK448 := bB BK448 hb
 replace BK456 := bB BK456 hb
 replace BK469 := bB BK469 hb
 replace BK481 := bB BK481 hb
 replace BK489 := bB BK489 hb
 replace HB := ak (below_step (lT HB (gC GE448 (gC GE456 (gC GE469 (gC GE481 (gC GE489 gN)))))) hb)
 (try clear hb)
 (try clear hb2)
 (try clear hk)
 (try clear hi)
 (try clear ho0)
 (try clear ho1)
 refine hK.out _ _ ⟨bc BK448 0, bc BK448 1⟩ (fun hHeld => ?_)
 clear hK K
 refine nm ?_
 refine on 29 (some 99) (fb 46 1073741823) HT_ (fun K hK => ?_)
 refine goes_ Try.func36 (by kernel_rfl) rfl #[.agg #[.slice Ao28 t442.length co28, .slice Ao30 t445.length co30]] (by rfl) rfl rfl (by (try simp only [List.map_toArray, List.map_cons, List.map_nil]); first | done | rfl | (simp only [List.length_drop, List.length_take]; rfl)) ?_
 with_reducible refine (spec_FlushDisk.calls k _ _ t442 _ _ t445 t498 t501 _ ?side1 ?side2 ?side3 ?side4 A21.out).mono ?_
 (case side1 => exact cG (Kd.R_reads' HO444.out).2.2)
 (case side2 => exact (Kd.R_reads' HO444.out).2.1)
 (case side3 => exact cG (Kd.R_reads' HO447.out).2.2)
 (case side4 => exact (Kd.R_reads' HO447.out).2.1)
 rintro e w72 ⟨v499, v502, rfl, ho0, ho1, hb⟩
 refine ⟨_, rfl, ?_⟩
 replace HO500 := ak (Kd.R_lower (Kd.R_new' (Kd.R_new' (Kd.R_new' (Kd.R_new' (Kd.R_new' (Kd.R_new' ho0 (Kd.R_lt (rG HO444))) (Kd.R_lt (rG HO451))) (Kd.R_lt (rG HO463))) (Kd.R_lt (rG HO476))) (Kd.R_lt (rG HO484))) (Kd.R_lt (rG HO494))) (below_size (lT HB (gC GE448 (gC GE456 (gC GE469 (gC GE481 (gC GE489 gN))))))))
 replace HO444 := ak (Kd.R_elder' (rG HO444) (Kd.R_base ho0) hb)
 replace HO451 := ak (Kd.R_elder' (rG HO451) (Kd.R_base ho0) hb)
 replace HO463 := ak (Kd.R_elder' (rG HO463) (Kd.R_base ho0) hb)
 replace HO476 := ak (Kd.R_elder' (rG HO476) (Kd.R_base ho0) hb)
 replace HO484 := ak (Kd.R_elder' (rG HO484) (Kd.R_base ho0) hb)
 replace HO494 := ak (Kd.R_elder' (rG HO494) (Kd.R_base ho0) hb)
 replace HO503 := ak (Kd.R_lower (Kd.R_new' (Kd.R_new' (Kd.R_new' (Kd.R_new' (Kd.R_new' (Kd.R_new' ho1 (Kd.R_lt (rG HO447))) (Kd.R_lt (rG HO454))) (Kd.R_lt (rG HO466))) (Kd.R_lt (rG HO479))) (Kd.R_lt (rG HO487))) (Kd.R_lt (rG HO497))) (below_size (lT HB (gC GE448 (gC GE456 (gC GE469 (gC GE481 (gC GE489 gN))))))))
 replace HO447 := ak (Kd.R_elder' (rG HO447) (Kd.R_base ho1) hb)
 replace HO454 := ak (Kd.R_elder' (rG HO454) (Kd.R_base ho1) hb)
 replace HO466 := ak (Kd.R_elder' (rG HO466) (Kd.R_base ho1) hb)
 replace HO479 := ak (Kd.R_elder' (rG HO479) (Kd.R_base ho1) hb)
 replace HO487 := ak (Kd.R_elder' (rG HO487) (Kd.R_base ho1) hb)
 replace HO497 := ak (Kd.R_elder' (rG HO497) (Kd.R_base ho1) hb)
 replace BK448 := bB BK448 hb
 replace BK456 := bB BK456 hb
 replace BK469 := bB BK469 hb
 replace BK481 := bB BK481 hb
 replace BK489 := bB BK489 hb
 replace HB := ak (below_step (lT HB (gC GE448 (gC GE456 (gC GE469 (gC GE481 (gC GE489 gN)))))) hb)
 (try clear hb)
 (try clear hb2)
 (try clear hk)
 (try clear hi)
 (try clear ho0)
 (try clear ho1)
 obtain ⟨Ao73, co73, eo73⟩ := Kd.R_slice HO494.out
 (first | subst eo73 | (injection eo73 with f1_ f2_ f3_; have f4_ := f1_.symm; have f5_ := f3_.symm; clear f1_ f2_ f3_; subst f4_; subst f5_))
 obtain ⟨Ao74, co74, eo74⟩ := Kd.R_slice HO497.out
 (first | subst eo74 | (injection eo74 with f1_ f2_ f3_; have f4_ := f1_.symm; have f5_ := f3_.symm; clear f1_ f2_ f3_; subst f4_; subst f5_))
 obtain ⟨Ao75, co75, eo75⟩ := Kd.R_slice HO500.out
 (first | subst eo75 | (injection eo75 with f1_ f2_ f3_; have f4_ := f1_.symm; have f5_ := f3_.symm; clear f1_ f2_ f3_; subst f4_; subst f5_))
 obtain ⟨Ao76, co76, eo76⟩ := Kd.R_slice HO503.out
 (first | subst eo76 | (injection eo76 with f1_ f2_ f3_; have f4_ := f1_.symm; have f5_ := f3_.symm; clear f1_ f2_ f3_; subst f4_; subst f5_))
 refine hK.out _ _ ⟨bc BK448 0, bc BK448 1⟩ (fun hHeld => ?_)
 clear hK K
 refine nm ?_
 refine on 30 (some 100) (fb 46 2147483647) HT_ (fun K hK => ?_)
 refine goes_ Try.func20 (by kernel_rfl) rfl #[.agg #[.slice Ao73 t492.length co73, .slice Ao74 t495.length co74], .agg #[.slice Ao75 t498.length co75, .slice Ao76 t501.length co76]] (by rfl) rfl rfl (by (try simp only [List.map_toArray, List.map_cons, List.map_nil]); first | done | rfl | (simp only [List.length_drop, List.length_take]; rfl)) ?_
 with_reducible refine (laws_sameDisk.calls k _ _ t492 _ _ t495 _ _ t498 _ _ t501 true _ ?side1 ?side2 ?side3 ?side4 ?side5 ?side6 ?side7 ?side8 A22.out).mono ?_
 (case side1 => exact cG (Kd.R_reads' HO494.out).2.2)
 (case side2 => exact (Kd.R_reads' HO494.out).2.1)
 (case side3 => exact cG (Kd.R_reads' HO497.out).2.2)
 (case side4 => exact (Kd.R_reads' HO497.out).2.1)
 (case side5 => exact cG (Kd.R_reads' HO500.out).2.2)
 (case side6 => exact (Kd.R_reads' HO500.out).2.1)
 (case side7 => exact cG (Kd.R_reads' HO503.out).2.2)
 (case side8 => exact (Kd.R_reads' HO503.out).2.1)
 rintro e w77 ⟨rfl, hb⟩
 refine ⟨_, rfl, ?_⟩
 replace HO444 := rB HO444 hb
 replace HO447 := rB HO447 hb
 replace HO451 := rB HO451 hb
 replace HO454 := rB HO454 hb
 replace HO463 := rB HO463 hb
 replace HO466 := rB HO466 hb
 replace HO476 := rB HO476 hb
 replace HO479 := rB HO479 hb
 replace HO484 := rB HO484 hb
 replace HO487 := rB HO487 hb
 replace HO494 := rB HO494 hb
 replace HO497 := rB HO497 hb
 replace HO500 := rB HO500 hb
 replace HO503 := rB HO503 hb
 replace BK448 := bB BK448 hb
 replace BK456 := bB BK456 hb
 replace BK469 := bB BK469 hb
 replace BK481 := bB BK481 hb
 replace BK489 := bB BK489 hb
 replace HB := ak (below_step (lT HB (gC GE448 (gC GE456 (gC GE469 (gC GE481 (gC GE489 gN)))))) hb)
 (try clear hb)
 (try clear hb2)
 (try clear hk)
 (try clear hi)
 refine hK.out _ _ ⟨bc BK448 0, bc BK448 1⟩ (fun hHeld => ?_)
 clear hK K
 refine nm ?_
 refine pu 31 101 (fb 46 4294967295) HT_ ?_
 refine pu 32 102 (fb 46 8589934591) HT_ ?_
 refine pu 33 103 (fb 46 17179869183) HT_ ?_
 refine pu 34 104 (fb 46 34359738367) HT_ ?_
 refine pu 35 105 (fb 46 68719476735) HT_ ?_
 refine pu 36 106 (fb 46 137438953471) HT_ ?_
 refine pu 37 107 (fb 46 274877906943) HT_ ?_
 refine pu 38 108 (fb 46 549755813887) HT_ ?_
 refine pu 39 109 (fb 46 1099511627775) HT_ ?_
 refine pn 40 110 (fb 46 2199023255551) HT_ ?_
 refine pn 41 111 (fb 46 4398046511103) HT_ ?_
 refine pn 42 112 (fb 46 8796093022207) HT_ ?_
 refine pn 43 113 (fb 46 17592186044415) HT_ ?_
 refine pu 44 114 (fb 46 35184372088831) HT_ ?_
 refine pu 45 2 (fb 46 70368744177663) HT_ ?_
 refine done_ (done_of HT_.out (by kernel_rfl)) ?_
 try go_wp2
 go_ret
 exact ⟨ew, by exact lT HB (gC GE448 (gC GE456 (gC GE469 (gC GE481 (gC GE489 gN)))))⟩
set_option maxHeartbeats 8000000 in
set_option maxRecDepth 100000 in
theorem laws_FnDisksTold.leaf2 (k : Nat) (A0 : Option Addr) (c0 : Nat) (l0 : List Int) (w : World) (HR0 : Aside0 (Kd.C (Kd.int IntKind.u8) w A0 (List.length l0) l0)) (HC0 : Aside0 (List.length l0 ≤ c0)) (HB : Aside0 (Below (Array.size (World.heap w)) w w)) (A2 : Aside0 (laws_big.f l0 = some false)) (t442 : List ByteArray) (t445 : List S63) (A4 : Aside0 (spec_DrawDiskOk.f k l0 = some (t442, t445))) (t449 : List ByteArray) (t452 : List S63) (t455 : Int) (A5 : Aside0 (spec_DrawReadSector.f k l0 = some (t449, t452, t455))) (t457 : ByteArray) (t458 : Bool) (A6 : Aside0 (impl_ReadSector.f k t449 t452 t455 = some (t457, t458))) (t459 : ByteArray) (t460 : Bool) (A7 : Aside0 (spec_ReadSector.f k t449 t452 t455 = some (t459, t460))) (t461 : List ByteArray) (t464 : List S63) (t467 t468 : Int) (A8 : Aside0 (spec_DrawSectorText.f k l0 = some (t461, t464, t467, t468))) (t470 : ByteArray) (t471 : Bool) (A9 : Aside0 (impl_SectorText.f k t461 t464 t467 t468 = some (t470, t471))) (t472 : ByteArray) (t473 : Bool) (A10 : Aside0 (spec_SectorText.f k t461 t464 t467 t468 = some (t472, t473))) (t474 : List ByteArray) (t477 : List S63) (t482 : List ByteArray) (t485 : List S63) (t490 : Bool) (A13 : Aside0 (impl_DiskOk.f t442 t445 = some t490)) (t491 : Bool) (A14 : Aside0 (spec_DiskOk.f k t442 t445 = some t491)) (c15b0 : (t490 == t491) = true) (c15b1 : decide (t490 = t491) = true) (c15b2 : (t490 == t491) = true) (c16b0 : (t458 == t460) = true) (c16b1 : decide (t458 = t460) = true) (c16b2 : (t458 == t460) = true) (c17b0 : (ByteArray.toList t457 == ByteArray.toList t459) = true) (c17b1 : (ByteArray.toList t457 != ByteArray.toList t459) = false) (c18b0 : (t471 == t473) = true) (c18b1 : decide (t471 = t473) = true) (c18b2 : (t471 == t473) = true) (c19b0 : (ByteArray.toList t470 == ByteArray.toList t472) = true) (c19b1 : (ByteArray.toList t470 != ByteArray.toList t472) = false) (t492 : List ByteArray) (t495 : List S63) (A20 : Aside0 (impl_FlushDisk.f k t442 t445 = some (t492, t495))) (t498 : List ByteArray) (t501 : List S63) (A21 : Aside0 (spec_FlushDisk.f k t442 t445 = some (t498, t501))) (A22 : Aside0 (laws_sameDisk.f k t492 t495 t498 t501 = some true)) (A11 : Aside0 (impl_DiskNew.f k 3 = some (t474, t477, true))) (A12 : Aside0 (impl_DiskNew.f k 0 = some (t482, t485, false))) (H : some ((↑(List.length t474) : Int) == 3) = some ((↑(List.length t474) : Int) == 3)) : Calls Try.prog 7 #[Value.slice A0 (List.length l0) c0] w fun e w' => e = Ending.returned (Value.bool ((↑(List.length t474) : Int) == 3)) ∧ Below (Array.size (World.heap w)) w w' := by
 have hu27 := Try.underlying27
 go_enter Try.func7, Try.ntmps7
 try go_wp2_with (first | ((with_reducible refine gate_callee (f := 9) rfl ?_); refine gl (some 22) Try.func9 #[.slice A0 l0.length c0] ?_; (with_reducible refine (laws_big.calls _ _ l0 false _ ?side1 ?side2 A2.out).mono ?_); (case side1 => repeat (first | exact HR0.out | (with_reducible refine Kd.C_alloc ?_ _) | (with_reducible refine Kd.C_drewN ?_ _) | (with_reducible refine Kd.C_drew ?_))); (case side2 => exact HC0.out); rintro e w' ⟨rfl, ⟨nd, rfl⟩⟩; refine ⟨_, rfl, ?_⟩) | ((with_reducible refine gate_callee (f := 29) rfl ?_); refine gl (some 24) Try.func29 #[.slice A0 l0.length c0] ?_; (with_reducible refine (spec_DrawDiskOk.calls k _ _ l0 t442 t445 _ ?side1 ?side2 A4.out).mono ?_); (case side1 => repeat (first | exact HR0.out | (with_reducible refine Kd.C_alloc ?_ _) | (with_reducible refine Kd.C_drewN ?_ _) | (with_reducible refine Kd.C_drew ?_))); (case side2 => exact HC0.out); rintro e w78 ⟨v443, v446, rfl, ho0, ho1, hb⟩; refine ⟨_, rfl, ?_⟩; replace HO444 := ak (Kd.R_lower ho0 (below_size (lG HB))); replace HO447 := ak (Kd.R_lower ho1 (below_size (lG HB))); replace HB := lB HB hb; (try clear hb); (try clear hk); (try clear ho0); (try clear ho1)) | ((with_reducible refine gate_dst (N := 3) rfl ?_); (try (refine gate_guard (by rfl) ?_; dsimp only)); refine bx 3 #[.slice none 0 0, .slice none 0 0] 27 ?_; intro gb448 hg w79 hbox hb; replace HO444 := rB HO444 hb; replace HO447 := rB HO447 hb; replace BK448 := ak (hbox); replace GW448 := ak (bz hg (lG HB)); replace GE448 := ak (bz hg (lG HB)); replace HB := lB HB hb; clear hb hbox hg; obtain ⟨Ao80, co80, eo80⟩ := Kd.R_slice HO444.out; subst eo80; obtain ⟨hcz81_0, hcz81_1, hfz81_0, hfz81_1⟩ := bC2 BK448; obtain ⟨Ao82, co82, eo82⟩ := Kd.R_slice HO447.out; subst eo82) | ((with_reducible refine gate_callee (f := 30) rfl ?_); refine gl (some 27) Try.func30 #[.slice A0 l0.length c0] ?_; (with_reducible refine (spec_DrawReadSector.calls k _ _ l0 t449 t452 t455 _ ?side1 ?side2 A5.out).mono ?_); (case side1 => exact Kd.C_below HR0.out (lT HB (gC GE448 gN))); (case side2 => exact HC0.out); rintro e w83 ⟨v450, v453, rfl, ho0, ho1, hb⟩; refine ⟨_, rfl, ?_⟩; replace HO451 := ak (Kd.R_lower (Kd.R_new' ho0 (Kd.R_lt (rT HO444 BK448 (by decide)))) (below_size (lT HB (gC GE448 gN)))); replace HO444 := ak (Kd.R_elder' (rT HO444 BK448 (by decide)) (Kd.R_base ho0) hb); replace HO454 := ak (Kd.R_lower (Kd.R_new' ho1 (Kd.R_lt (rT HO447 BK448 (by decide)))) (below_size (lT HB (gC GE448 gN)))); replace HO447 := ak (Kd.R_elder' (rT HO447 BK448 (by decide)) (Kd.R_base ho1) hb); replace BK448 := ak (blk_below (g := gb448) (o := .cells #[.slice Ao80 t442.length co80, .slice Ao82 t445.length co82] 27 (0, 0)) (bW BK448) hb); replace HB := ak (below_step (lT HB (gC GE448 gN)) hb); (try clear hb); (try clear hk); (try clear ho0); (try clear ho1)) | ((with_reducible refine gate_dst (N := 4) rfl ?_); (try (refine gate_guard (by rfl) ?_; dsimp only)); refine bx 4 #[.slice none 0 0, .slice none 0 0] 27 ?_; intro gb456 hg w84 hbox hb; replace HO444 := rB HO444 hb; replace HO447 := rB HO447 hb; replace HO451 := rB HO451 hb; replace HO454 := rB HO454 hb; replace BK456 := ak (hbox); replace GW456 := ak (bz hg (lT HB (gC GE448 gN))); replace GE456 := ak (bz hg (lT HB (gC GE448 gN))); replace HB := ak (below_step (lT HB (gC GE448 gN)) hb); replace NB448_456 := ak (nl hg (bG BK448)); replace NB456_448 := ak (ng hg (bG BK448)); replace BK448 := bB BK448 hb; clear hb hbox hg; obtain ⟨Ao85, co85, eo85⟩ := Kd.R_slice HO451.out; subst eo85; have hnb86 := NB456_448.out; have hnc86 := NB448_456.out; obtain ⟨hcz87_0, hcz87_1, hfz87_0, hfz87_1⟩ := bC2 BK456; obtain ⟨Ao88, co88, eo88⟩ := Kd.R_slice HO454.out; subst eo88) | ((with_reducible refine gate_callee (f := 15) rfl ?_); refine gl (some 33) Try.func15 #[.agg #[.slice Ao85 t449.length co85, .slice Ao88 t452.length co88], .int .i64 t455] ?_; (with_reducible refine (impl_ReadSector.calls k _ _ t449 _ _ t452 t455 t457 t458 _ ?side1 ?side2 ?side3 ?side4 A6.out).mono ?_); (case side1 => exact (Kd.R_reads' (rT HO451 BK456 (by decide))).2.2); (case side2 => exact (Kd.R_reads' HO451.out).2.1); (case side3 => exact (Kd.R_reads' (rT HO454 BK456 (by decide))).2.2); (case side4 => exact (Kd.R_reads' HO454.out).2.1); rintro e w89 ⟨rfl, hb⟩; refine ⟨_, rfl, ?_⟩; replace HO444 := ak (Kd.R_below (rT HO444 BK456 (by decide)) hb); replace HO447 := ak (Kd.R_below (rT HO447 BK456 (by decide)) hb); replace HO451 := ak (Kd.R_below (rT HO451 BK456 (by decide)) hb); replace HO454 := ak (Kd.R_below (rT HO454 BK456 (by decide)) hb); replace BK448 := ak (blk_below (bT BK448 (nC NB448_456 nN)) hb); replace BK456 := ak (blk_below (g := gb456) (o := .cells #[.slice Ao85 t449.length co85, .slice Ao88 t452.length co88] 27 (0, 0)) (bW BK456) hb); replace HB := ak (below_step (lT HB (gC GE448 (gC GE456 gN))) hb); (try clear hb); (try clear hk); obtain ⟨hcz90_0, hcz90_1, hfz90_0, hfz90_1⟩ := bC2 BK456) | ((with_reducible refine gate_callee (f := 14) rfl ?_); refine gl (some 39) Try.func14 #[.agg #[.slice Ao85 t449.length co85, .slice Ao88 t452.length co88], .int .i64 t455] ?_; (with_reducible refine (spec_ReadSector.calls k _ _ t449 _ _ t452 t455 t459 t460 _ ?side1 ?side2 ?side3 ?side4 A7.out).mono ?_); (case side1 => exact cG (Kd.R_reads' HO451.out).2.2); (case side2 => exact (Kd.R_reads' HO451.out).2.1); (case side3 => exact cG (Kd.R_reads' HO454.out).2.2); (case side4 => exact (Kd.R_reads' HO454.out).2.1); rintro e w91 ⟨rfl, hb⟩; refine ⟨_, rfl, ?_⟩; replace HO444 := rB HO444 hb; replace HO447 := rB HO447 hb; replace HO451 := rB HO451 hb; replace HO454 := rB HO454 hb; replace BK448 := bB BK448 hb; replace BK456 := bB BK456 hb; replace HB := ak (below_step (lT HB (gC GE448 (gC GE456 gN))) hb); (try clear hb); (try clear hk)) | ((with_reducible refine gate_callee (f := 31) rfl ?_); refine gl (some 44) Try.func31 #[.slice A0 l0.length c0] ?_; (with_reducible refine (spec_DrawSectorText.calls k _ _ l0 t461 t464 t467 t468 _ ?side1 ?side2 A8.out).mono ?_); (case side1 => exact cG (Kd.C_below HR0.out HB.out)); (case side2 => exact HC0.out); rintro e w92 ⟨v462, v465, rfl, ho0, ho1, hb⟩; refine ⟨_, rfl, ?_⟩; replace HO463 := ak (Kd.R_lower (Kd.R_new' (Kd.R_new' ho0 (Kd.R_lt (rG HO444))) (Kd.R_lt (rG HO451))) (below_size (lT HB (gC GE448 (gC GE456 gN))))); replace HO444 := ak (Kd.R_elder' (rG HO444) (Kd.R_base ho0) hb); replace HO451 := ak (Kd.R_elder' (rG HO451) (Kd.R_base ho0) hb); replace HO466 := ak (Kd.R_lower (Kd.R_new' (Kd.R_new' ho1 (Kd.R_lt (rG HO447))) (Kd.R_lt (rG HO454))) (below_size (lT HB (gC GE448 (gC GE456 gN))))); replace HO447 := ak (Kd.R_elder' (rG HO447) (Kd.R_base ho1) hb); replace HO454 := ak (Kd.R_elder' (rG HO454) (Kd.R_base ho1) hb); replace BK448 := bB BK448 hb; replace BK456 := bB BK456 hb; replace HB := ak (below_step (lT HB (gC GE448 (gC GE456 gN))) hb); (try clear hb); (try clear hk); (try clear ho0); (try clear ho1)) | ((with_reducible refine gate_dst (N := 10) rfl ?_); (try (refine gate_guard (by rfl) ?_; dsimp only)); refine bx 10 #[.slice none 0 0, .slice none 0 0] 27 ?_; intro gb469 hg w93 hbox hb; replace HO444 := rB HO444 hb; replace HO447 := rB HO447 hb; replace HO451 := rB HO451 hb; replace HO454 := rB HO454 hb; replace HO463 := rB HO463 hb; replace HO466 := rB HO466 hb; replace BK469 := ak (hbox); replace GW469 := ak (bz hg (lT HB (gC GE448 (gC GE456 gN)))); replace GE469 := ak (bz hg (lT HB (gC GE448 (gC GE456 gN)))); replace HB := ak (below_step (lT HB (gC GE448 (gC GE456 gN))) hb); replace NB448_469 := ak (nl hg (bG BK448)); replace NB469_448 := ak (ng hg (bG BK448)); replace BK448 := bB BK448 hb; replace NB456_469 := ak (nl hg (bG BK456)); replace NB469_456 := ak (ng hg (bG BK456)); replace BK456 := bB BK456 hb; clear hb hbox hg; obtain ⟨Ao94, co94, eo94⟩ := Kd.R_slice HO463.out; subst eo94; have hnb95 := NB469_448.out; have hnc95 := NB448_469.out; have hnb96 := NB469_456.out; have hnc96 := NB456_469.out; obtain ⟨hcz97_0, hcz97_1, hfz97_0, hfz97_1⟩ := bC2 BK469; obtain ⟨Ao98, co98, eo98⟩ := Kd.R_slice HO466.out; subst eo98) | ((with_reducible refine gate_callee (f := 32) rfl ?_); refine gl (some 52) Try.func32 #[.agg #[.slice Ao94 t461.length co94, .slice Ao98 t464.length co98], .int .i64 t467, .int .i64 t468] ?_; (with_reducible refine (impl_SectorText.calls k _ _ t461 _ _ t464 t467 t468 t470 t471 _ ?side1 ?side2 ?side3 ?side4 A9.out).mono ?_); (case side1 => exact (Kd.R_reads' (rT HO463 BK469 (by decide))).2.2); (case side2 => exact (Kd.R_reads' HO463.out).2.1); (case side3 => exact (Kd.R_reads' (rT HO466 BK469 (by decide))).2.2); (case side4 => exact (Kd.R_reads' HO466.out).2.1); rintro e w99 ⟨rfl, hb⟩; refine ⟨_, rfl, ?_⟩; replace HO444 := ak (Kd.R_below (rT HO444 BK469 (by decide)) hb); replace HO447 := ak (Kd.R_below (rT HO447 BK469 (by decide)) hb); replace HO451 := ak (Kd.R_below (rT HO451 BK469 (by decide)) hb); replace HO454 := ak (Kd.R_below (rT HO454 BK469 (by decide)) hb); replace HO463 := ak (Kd.R_below (rT HO463 BK469 (by decide)) hb); replace HO466 := ak (Kd.R_below (rT HO466 BK469 (by decide)) hb); replace BK448 := ak (blk_below (bT BK448 (nC NB448_469 nN)) hb); replace BK456 := ak (blk_below (bT BK456 (nC NB456_469 nN)) hb); replace BK469 := ak (blk_below (g := gb469) (o := .cells #[.slice Ao94 t461.length co94, .slice Ao98 t464.length co98] 27 (0, 0)) (bW BK469) hb); replace HB := ak (below_step (lT HB (gC GE448 (gC GE456 (gC GE469 gN)))) hb); (try clear hb); (try clear hk); obtain ⟨hcz100_0, hcz100_1, hfz100_0, hfz100_1⟩ := bC2 BK469) | ((with_reducible refine gate_callee (f := 33) rfl ?_); refine gl (some 59) Try.func33 #[.agg #[.slice Ao94 t461.length co94, .slice Ao98 t464.length co98], .int .i64 t467, .int .i64 t468] ?_; (with_reducible refine (spec_SectorText.calls k _ _ t461 _ _ t464 t467 t468 t472 t473 _ ?side1 ?side2 ?side3 ?side4 A10.out).mono ?_); (case side1 => exact cG (Kd.R_reads' HO463.out).2.2); (case side2 => exact (Kd.R_reads' HO463.out).2.1); (case side3 => exact cG (Kd.R_reads' HO466.out).2.2); (case side4 => exact (Kd.R_reads' HO466.out).2.1); rintro e w101 ⟨rfl, hb⟩; refine ⟨_, rfl, ?_⟩; replace HO444 := rB HO444 hb; replace HO447 := rB HO447 hb; replace HO451 := rB HO451 hb; replace HO454 := rB HO454 hb; replace HO463 := rB HO463 hb; replace HO466 := rB HO466 hb; replace BK448 := bB BK448 hb; replace BK456 := bB BK456 hb; replace BK469 := bB BK469 hb; replace HB := ak (below_step (lT HB (gC GE448 (gC GE456 (gC GE469 gN)))) hb); (try clear hb); (try clear hk)) | ((with_reducible refine gate_callee (f := 34) rfl ?_); refine gl (some 63) Try.func34 #[.int .i64 3] ?_; (with_reducible refine (impl_DiskNew.calls k 3 t474 t477 true _ A11.out).mono ?_); rintro e w102 ⟨v475, v478, rfl, ho0, ho1, hb⟩; refine ⟨_, rfl, ?_⟩; replace HO476 := ak (Kd.R_lower (Kd.R_new' (Kd.R_new' (Kd.R_new' ho0 (Kd.R_lt (rG HO444))) (Kd.R_lt (rG HO451))) (Kd.R_lt (rG HO463))) (below_size (lT HB (gC GE448 (gC GE456 (gC GE469 gN)))))); replace HO444 := ak (Kd.R_elder' (rG HO444) (Kd.R_base ho0) hb); replace HO451 := ak (Kd.R_elder' (rG HO451) (Kd.R_base ho0) hb); replace HO463 := ak (Kd.R_elder' (rG HO463) (Kd.R_base ho0) hb); replace HO479 := ak (Kd.R_lower (Kd.R_new' (Kd.R_new' (Kd.R_new' ho1 (Kd.R_lt (rG HO447))) (Kd.R_lt (rG HO454))) (Kd.R_lt (rG HO466))) (below_size (lT HB (gC GE448 (gC GE456 (gC GE469 gN)))))); replace HO447 := ak (Kd.R_elder' (rG HO447) (Kd.R_base ho1) hb); replace HO454 := ak (Kd.R_elder' (rG HO454) (Kd.R_base ho1) hb); replace HO466 := ak (Kd.R_elder' (rG HO466) (Kd.R_base ho1) hb); replace BK448 := bB BK448 hb; replace BK456 := bB BK456 hb; replace BK469 := bB BK469 hb; replace HB := ak (below_step (lT HB (gC GE448 (gC GE456 (gC GE469 gN)))) hb); (try clear hb); (try clear hk); (try clear ho0); (try clear ho1)) | ((with_reducible refine gate_dst (N := 17) rfl ?_); (try (refine gate_guard (by rfl) ?_; dsimp only)); refine bx 17 #[.slice none 0 0, .slice none 0 0] 27 ?_; intro gb481 hg w103 hbox hb; replace HO444 := rB HO444 hb; replace HO447 := rB HO447 hb; replace HO451 := rB HO451 hb; replace HO454 := rB HO454 hb; replace HO463 := rB HO463 hb; replace HO466 := rB HO466 hb; replace HO476 := rB HO476 hb; replace HO479 := rB HO479 hb; replace BK481 := ak (hbox); replace GW481 := ak (bz hg (lT HB (gC GE448 (gC GE456 (gC GE469 gN))))); replace GE481 := ak (bz hg (lT HB (gC GE448 (gC GE456 (gC GE469 gN))))); replace HB := ak (below_step (lT HB (gC GE448 (gC GE456 (gC GE469 gN)))) hb); replace NB448_481 := ak (nl hg (bG BK448)); replace NB481_448 := ak (ng hg (bG BK448)); replace BK448 := bB BK448 hb; replace NB456_481 := ak (nl hg (bG BK456)); replace NB481_456 := ak (ng hg (bG BK456)); replace BK456 := bB BK456 hb; replace NB469_481 := ak (nl hg (bG BK469)); replace NB481_469 := ak (ng hg (bG BK469)); replace BK469 := bB BK469 hb; clear hb hbox hg; obtain ⟨Ao104, co104, eo104⟩ := Kd.R_slice HO476.out; subst eo104; have hnb105 := NB481_448.out; have hnc105 := NB448_481.out; have hnb106 := NB481_456.out; have hnc106 := NB456_481.out; have hnb107 := NB481_469.out; have hnc107 := NB469_481.out; obtain ⟨hcz108_0, hcz108_1, hfz108_0, hfz108_1⟩ := bC2 BK481; obtain ⟨Ao109, co109, eo109⟩ := Kd.R_slice HO479.out; subst eo109) | ((with_reducible refine gate_callee (f := 34) rfl ?_); refine gl (some 67) Try.func34 #[.int .i64 0] ?_; (with_reducible refine (impl_DiskNew.calls k 0 t482 t485 false _ A12.out).mono ?_); rintro e w110 ⟨v483, v486, rfl, ho0, ho1, hb⟩; refine ⟨_, rfl, ?_⟩; replace HO484 := ak (Kd.R_lower (Kd.R_new' (Kd.R_new' (Kd.R_new' (Kd.R_new' ho0 (Kd.R_lt (rT HO444 BK481 (by decide)))) (Kd.R_lt (rT HO451 BK481 (by decide)))) (Kd.R_lt (rT HO463 BK481 (by decide)))) (Kd.R_lt (rT HO476 BK481 (by decide)))) (below_size (lT HB (gC GE448 (gC GE456 (gC GE469 (gC GE481 gN))))))); replace HO444 := ak (Kd.R_elder' (rT HO444 BK481 (by decide)) (Kd.R_base ho0) hb); replace HO451 := ak (Kd.R_elder' (rT HO451 BK481 (by decide)) (Kd.R_base ho0) hb); replace HO463 := ak (Kd.R_elder' (rT HO463 BK481 (by decide)) (Kd.R_base ho0) hb); replace HO476 := ak (Kd.R_elder' (rT HO476 BK481 (by decide)) (Kd.R_base ho0) hb); replace HO487 := ak (Kd.R_lower (Kd.R_new' (Kd.R_new' (Kd.R_new' (Kd.R_new' ho1 (Kd.R_lt (rT HO447 BK481 (by decide)))) (Kd.R_lt (rT HO454 BK481 (by decide)))) (Kd.R_lt (rT HO466 BK481 (by decide)))) (Kd.R_lt (rT HO479 BK481 (by decide)))) (below_size (lT HB (gC GE448 (gC GE456 (gC GE469 (gC GE481 gN))))))); replace HO447 := ak (Kd.R_elder' (rT HO447 BK481 (by decide)) (Kd.R_base ho1) hb); replace HO454 := ak (Kd.R_elder' (rT HO454 BK481 (by decide)) (Kd.R_base ho1) hb); replace HO466 := ak (Kd.R_elder' (rT HO466 BK481 (by decide)) (Kd.R_base ho1) hb); replace HO479 := ak (Kd.R_elder' (rT HO479 BK481 (by decide)) (Kd.R_base ho1) hb); replace BK448 := ak (blk_below (bT BK448 (nC NB448_481 nN)) hb); replace BK456 := ak (blk_below (bT BK456 (nC NB456_481 nN)) hb); replace BK469 := ak (blk_below (bT BK469 (nC NB469_481 nN)) hb); replace BK481 := ak (blk_below (g := gb481) (o := .cells #[.slice Ao104 t474.length co104, .slice Ao109 t477.length co109] 27 (0, 0)) (bW BK481) hb); replace HB := ak (below_step (lT HB (gC GE448 (gC GE456 (gC GE469 (gC GE481 gN))))) hb); (try clear hb); (try clear hk); (try clear ho0); (try clear ho1)) | ((with_reducible refine gate_dst (N := 19) rfl ?_); (try (refine gate_guard (by rfl) ?_; dsimp only)); refine bx 19 #[.slice none 0 0, .slice none 0 0] 27 ?_; intro gb489 hg w111 hbox hb; replace HO444 := rB HO444 hb; replace HO447 := rB HO447 hb; replace HO451 := rB HO451 hb; replace HO454 := rB HO454 hb; replace HO463 := rB HO463 hb; replace HO466 := rB HO466 hb; replace HO476 := rB HO476 hb; replace HO479 := rB HO479 hb; replace HO484 := rB HO484 hb; replace HO487 := rB HO487 hb; replace BK489 := ak (hbox); replace GW489 := ak (bz hg (lT HB (gC GE448 (gC GE456 (gC GE469 (gC GE481 gN)))))); replace GE489 := ak (bz hg (lT HB (gC GE448 (gC GE456 (gC GE469 (gC GE481 gN)))))); replace HB := ak (below_step (lT HB (gC GE448 (gC GE456 (gC GE469 (gC GE481 gN))))) hb); replace NB448_489 := ak (nl hg (bG BK448)); replace NB489_448 := ak (ng hg (bG BK448)); replace BK448 := bB BK448 hb; replace NB456_489 := ak (nl hg (bG BK456)); replace NB489_456 := ak (ng hg (bG BK456)); replace BK456 := bB BK456 hb; replace NB469_489 := ak (nl hg (bG BK469)); replace NB489_469 := ak (ng hg (bG BK469)); replace BK469 := bB BK469 hb; replace NB481_489 := ak (nl hg (bG BK481)); replace NB489_481 := ak (ng hg (bG BK481)); replace BK481 := bB BK481 hb; clear hb hbox hg; obtain ⟨Ao112, co112, eo112⟩ := Kd.R_slice HO484.out; subst eo112; have hnb113 := NB489_448.out; have hnc113 := NB448_489.out; have hnb114 := NB489_456.out; have hnc114 := NB456_489.out; have hnb115 := NB489_469.out; have hnc115 := NB469_489.out; have hnb116 := NB489_481.out; have hnc116 := NB481_489.out; obtain ⟨hcz117_0, hcz117_1, hfz117_0, hfz117_1⟩ := bC2 BK489; obtain ⟨Ao118, co118, eo118⟩ := Kd.R_slice HO487.out; subst eo118))
 have n0_ : Aside0 (Kd.R Kd.string 9 ((w111.setCell ⟨gb489, 0, none⟩ (.slice Ao112 t482.length co112)).setCell ⟨gb489, 1, none⟩ (.slice Ao118 t485.length co118)) w.heap.size (fun k_ => some k_ ≠ (.slice Ao85 t449.length co85 : Value).ownBlock ∧ some k_ ≠ (.slice Ao94 t461.length co94 : Value).ownBlock ∧ some k_ ≠ (.slice Ao104 t474.length co104 : Value).ownBlock ∧ some k_ ≠ (.slice Ao112 t482.length co112 : Value).ownBlock) (.slice Ao80 t442.length co80) t442) := ⟨by (with_reducible repeat (first | apply Kd.R_alloc | apply Kd.R_drewN | apply Kd.R_drew)); exact Kd.R_mono (Kd.R_far (p := ⟨gb489, 1, none⟩) (Kd.R_far (p := ⟨gb489, 0, none⟩) (Kd.R_types HO444.out BK489.out (by decide)) (fun _ hk => hk.2) (.slice Ao112 t482.length co112)) (fun _ hk => hk.2) (.slice Ao118 t485.length co118)) (fun _ hk => ⟨hk.1.1.1.1.2, ⟨hk.1.1.1.2, ⟨hk.1.1.2, hk.1.2⟩⟩⟩)⟩
 have n1_ : Aside0 (Kd.R k63 63 ((w111.setCell ⟨gb489, 0, none⟩ (.slice Ao112 t482.length co112)).setCell ⟨gb489, 1, none⟩ (.slice Ao118 t485.length co118)) w.heap.size (fun k_ => some k_ ≠ (.slice Ao88 t452.length co88 : Value).ownBlock ∧ some k_ ≠ (.slice Ao98 t464.length co98 : Value).ownBlock ∧ some k_ ≠ (.slice Ao109 t477.length co109 : Value).ownBlock ∧ some k_ ≠ (.slice Ao118 t485.length co118 : Value).ownBlock) (.slice Ao82 t445.length co82) t445) := ⟨by (with_reducible repeat (first | apply Kd.R_alloc | apply Kd.R_drewN | apply Kd.R_drew)); exact Kd.R_mono (Kd.R_far (p := ⟨gb489, 1, none⟩) (Kd.R_far (p := ⟨gb489, 0, none⟩) (Kd.R_types HO447.out BK489.out (by decide)) (fun _ hk => hk.2) (.slice Ao112 t482.length co112)) (fun _ hk => hk.2) (.slice Ao118 t485.length co118)) (fun _ hk => ⟨hk.1.1.1.1.2, ⟨hk.1.1.1.2, ⟨hk.1.1.2, hk.1.2⟩⟩⟩)⟩
 have n2_ : Aside0 (Kd.R Kd.string 9 ((w111.setCell ⟨gb489, 0, none⟩ (.slice Ao112 t482.length co112)).setCell ⟨gb489, 1, none⟩ (.slice Ao118 t485.length co118)) w.heap.size (fun k_ => some k_ ≠ (.slice Ao80 t442.length co80 : Value).ownBlock ∧ some k_ ≠ (.slice Ao94 t461.length co94 : Value).ownBlock ∧ some k_ ≠ (.slice Ao104 t474.length co104 : Value).ownBlock ∧ some k_ ≠ (.slice Ao112 t482.length co112 : Value).ownBlock) (.slice Ao85 t449.length co85) t449) := ⟨by (with_reducible repeat (first | apply Kd.R_alloc | apply Kd.R_drewN | apply Kd.R_drew)); exact Kd.R_mono (Kd.R_far (p := ⟨gb489, 1, none⟩) (Kd.R_far (p := ⟨gb489, 0, none⟩) (Kd.R_types HO451.out BK489.out (by decide)) (fun _ hk => hk.2) (.slice Ao112 t482.length co112)) (fun _ hk => hk.2) (.slice Ao118 t485.length co118)) (fun _ hk => ⟨hk.1.1.1.1.2, ⟨hk.1.1.1.2, ⟨hk.1.1.2, hk.1.2⟩⟩⟩)⟩
 have n3_ : Aside0 (Kd.R k63 63 ((w111.setCell ⟨gb489, 0, none⟩ (.slice Ao112 t482.length co112)).setCell ⟨gb489, 1, none⟩ (.slice Ao118 t485.length co118)) w.heap.size (fun k_ => some k_ ≠ (.slice Ao82 t445.length co82 : Value).ownBlock ∧ some k_ ≠ (.slice Ao98 t464.length co98 : Value).ownBlock ∧ some k_ ≠ (.slice Ao109 t477.length co109 : Value).ownBlock ∧ some k_ ≠ (.slice Ao118 t485.length co118 : Value).ownBlock) (.slice Ao88 t452.length co88) t452) := ⟨by (with_reducible repeat (first | apply Kd.R_alloc | apply Kd.R_drewN | apply Kd.R_drew)); exact Kd.R_mono (Kd.R_far (p := ⟨gb489, 1, none⟩) (Kd.R_far (p := ⟨gb489, 0, none⟩) (Kd.R_types HO454.out BK489.out (by decide)) (fun _ hk => hk.2) (.slice Ao112 t482.length co112)) (fun _ hk => hk.2) (.slice Ao118 t485.length co118)) (fun _ hk => ⟨hk.1.1.1.1.2, ⟨hk.1.1.1.2, ⟨hk.1.1.2, hk.1.2⟩⟩⟩)⟩
 have n4_ : Aside0 (Kd.R Kd.string 9 ((w111.setCell ⟨gb489, 0, none⟩ (.slice Ao112 t482.length co112)).setCell ⟨gb489, 1, none⟩ (.slice Ao118 t485.length co118)) w.heap.size (fun k_ => some k_ ≠ (.slice Ao80 t442.length co80 : Value).ownBlock ∧ some k_ ≠ (.slice Ao85 t449.length co85 : Value).ownBlock ∧ some k_ ≠ (.slice Ao104 t474.length co104 : Value).ownBlock ∧ some k_ ≠ (.slice Ao112 t482.length co112 : Value).ownBlock) (.slice Ao94 t461.length co94) t461) := ⟨by (with_reducible repeat (first | apply Kd.R_alloc | apply Kd.R_drewN | apply Kd.R_drew)); exact Kd.R_mono (Kd.R_far (p := ⟨gb489, 1, none⟩) (Kd.R_far (p := ⟨gb489, 0, none⟩) (Kd.R_types HO463.out BK489.out (by decide)) (fun _ hk => hk.2) (.slice Ao112 t482.length co112)) (fun _ hk => hk.2) (.slice Ao118 t485.length co118)) (fun _ hk => ⟨hk.1.1.1.1.2, ⟨hk.1.1.1.2, ⟨hk.1.1.2, hk.1.2⟩⟩⟩)⟩
 have n5_ : Aside0 (Kd.R k63 63 ((w111.setCell ⟨gb489, 0, none⟩ (.slice Ao112 t482.length co112)).setCell ⟨gb489, 1, none⟩ (.slice Ao118 t485.length co118)) w.heap.size (fun k_ => some k_ ≠ (.slice Ao82 t445.length co82 : Value).ownBlock ∧ some k_ ≠ (.slice Ao88 t452.length co88 : Value).ownBlock ∧ some k_ ≠ (.slice Ao109 t477.length co109 : Value).ownBlock ∧ some k_ ≠ (.slice Ao118 t485.length co118 : Value).ownBlock) (.slice Ao98 t464.length co98) t464) := ⟨by (with_reducible repeat (first | apply Kd.R_alloc | apply Kd.R_drewN | apply Kd.R_drew)); exact Kd.R_mono (Kd.R_far (p := ⟨gb489, 1, none⟩) (Kd.R_far (p := ⟨gb489, 0, none⟩) (Kd.R_types HO466.out BK489.out (by decide)) (fun _ hk => hk.2) (.slice Ao112 t482.length co112)) (fun _ hk => hk.2) (.slice Ao118 t485.length co118)) (fun _ hk => ⟨hk.1.1.1.1.2, ⟨hk.1.1.1.2, ⟨hk.1.1.2, hk.1.2⟩⟩⟩)⟩
 have n6_ : Aside0 (Kd.R Kd.string 9 ((w111.setCell ⟨gb489, 0, none⟩ (.slice Ao112 t482.length co112)).setCell ⟨gb489, 1, none⟩ (.slice Ao118 t485.length co118)) w.heap.size (fun k_ => some k_ ≠ (.slice Ao80 t442.length co80 : Value).ownBlock ∧ some k_ ≠ (.slice Ao85 t449.length co85 : Value).ownBlock ∧ some k_ ≠ (.slice Ao94 t461.length co94 : Value).ownBlock ∧ some k_ ≠ (.slice Ao112 t482.length co112 : Value).ownBlock) (.slice Ao104 t474.length co104) t474) := ⟨by (with_reducible repeat (first | apply Kd.R_alloc | apply Kd.R_drewN | apply Kd.R_drew)); exact Kd.R_mono (Kd.R_far (p := ⟨gb489, 1, none⟩) (Kd.R_far (p := ⟨gb489, 0, none⟩) (Kd.R_types HO476.out BK489.out (by decide)) (fun _ hk => hk.2) (.slice Ao112 t482.length co112)) (fun _ hk => hk.2) (.slice Ao118 t485.length co118)) (fun _ hk => ⟨hk.1.1.1.1.2, ⟨hk.1.1.1.2, ⟨hk.1.1.2, hk.1.2⟩⟩⟩)⟩
 have n7_ : Aside0 (Kd.R k63 63 ((w111.setCell ⟨gb489, 0, none⟩ (.slice Ao112 t482.length co112)).setCell ⟨gb489, 1, none⟩ (.slice Ao118 t485.length co118)) w.heap.size (fun k_ => some k_ ≠ (.slice Ao82 t445.length co82 : Value).ownBlock ∧ some k_ ≠ (.slice Ao88 t452.length co88 : Value).ownBlock ∧ some k_ ≠ (.slice Ao98 t464.length co98 : Value).ownBlock ∧ some k_ ≠ (.slice Ao118 t485.length co118 : Value).ownBlock) (.slice Ao109 t477.length co109) t477) := ⟨by (with_reducible repeat (first | apply Kd.R_alloc | apply Kd.R_drewN | apply Kd.R_drew)); exact Kd.R_mono (Kd.R_far (p := ⟨gb489, 1, none⟩) (Kd.R_far (p := ⟨gb489, 0, none⟩) (Kd.R_types HO479.out BK489.out (by decide)) (fun _ hk => hk.2) (.slice Ao112 t482.length co112)) (fun _ hk => hk.2) (.slice Ao118 t485.length co118)) (fun _ hk => ⟨hk.1.1.1.1.2, ⟨hk.1.1.1.2, ⟨hk.1.1.2, hk.1.2⟩⟩⟩)⟩
 have n8_ : Aside0 (Kd.R Kd.string 9 ((w111.setCell ⟨gb489, 0, none⟩ (.slice Ao112 t482.length co112)).setCell ⟨gb489, 1, none⟩ (.slice Ao118 t485.length co118)) w.heap.size (fun k_ => some k_ ≠ (.slice Ao80 t442.length co80 : Value).ownBlock ∧ some k_ ≠ (.slice Ao85 t449.length co85 : Value).ownBlock ∧ some k_ ≠ (.slice Ao94 t461.length co94 : Value).ownBlock ∧ some k_ ≠ (.slice Ao104 t474.length co104 : Value).ownBlock) (.slice Ao112 t482.length co112) t482) := ⟨by (with_reducible repeat (first | apply Kd.R_alloc | apply Kd.R_drewN | apply Kd.R_drew)); exact Kd.R_mono (Kd.R_far (p := ⟨gb489, 1, none⟩) (Kd.R_far (p := ⟨gb489, 0, none⟩) (Kd.R_types HO484.out BK489.out (by decide)) (fun _ hk => hk.2) (.slice Ao112 t482.length co112)) (fun _ hk => hk.2) (.slice Ao118 t485.length co118)) (fun _ hk => ⟨hk.1.1.1.1.2, ⟨hk.1.1.1.2, ⟨hk.1.1.2, hk.1.2⟩⟩⟩)⟩
 have n9_ : Aside0 (Kd.R k63 63 ((w111.setCell ⟨gb489, 0, none⟩ (.slice Ao112 t482.length co112)).setCell ⟨gb489, 1, none⟩ (.slice Ao118 t485.length co118)) w.heap.size (fun k_ => some k_ ≠ (.slice Ao82 t445.length co82 : Value).ownBlock ∧ some k_ ≠ (.slice Ao88 t452.length co88 : Value).ownBlock ∧ some k_ ≠ (.slice Ao98 t464.length co98 : Value).ownBlock ∧ some k_ ≠ (.slice Ao109 t477.length co109 : Value).ownBlock) (.slice Ao118 t485.length co118) t485) := ⟨by (with_reducible repeat (first | apply Kd.R_alloc | apply Kd.R_drewN | apply Kd.R_drew)); exact Kd.R_mono (Kd.R_far (p := ⟨gb489, 1, none⟩) (Kd.R_far (p := ⟨gb489, 0, none⟩) (Kd.R_types HO487.out BK489.out (by decide)) (fun _ hk => hk.2) (.slice Ao112 t482.length co112)) (fun _ hk => hk.2) (.slice Ao118 t485.length co118)) (fun _ hk => ⟨hk.1.1.1.1.2, ⟨hk.1.1.1.2, ⟨hk.1.1.2, hk.1.2⟩⟩⟩)⟩
 have n10_ : Aside0 (((w111.setCell ⟨gb489, 0, none⟩ (.slice Ao112 t482.length co112)).setCell ⟨gb489, 1, none⟩ (.slice Ao118 t485.length co118)).heap[gb448]? = some (.cells #[.slice Ao80 t442.length co80, .slice Ao82 t445.length co82] 27 (0, 0))) := ⟨by (with_reducible repeat (first | refine blk_drewN ?_ _ | refine blk_drew ?_ | refine blk_alloc ?_ _)); refine blk_far ?_ NB448_489.out _; (with_reducible repeat (first | refine blk_drewN ?_ _ | refine blk_drew ?_ | refine blk_alloc ?_ _)); refine blk_far ?_ NB448_489.out _; (with_reducible repeat (first | refine blk_drewN ?_ _ | refine blk_drew ?_ | refine blk_alloc ?_ _)); exact BK448.out⟩
 have n11_ : Aside0 (((w111.setCell ⟨gb489, 0, none⟩ (.slice Ao112 t482.length co112)).setCell ⟨gb489, 1, none⟩ (.slice Ao118 t485.length co118)).heap[gb456]? = some (.cells #[.slice Ao85 t449.length co85, .slice Ao88 t452.length co88] 27 (0, 0))) := ⟨by (with_reducible repeat (first | refine blk_drewN ?_ _ | refine blk_drew ?_ | refine blk_alloc ?_ _)); refine blk_far ?_ NB456_489.out _; (with_reducible repeat (first | refine blk_drewN ?_ _ | refine blk_drew ?_ | refine blk_alloc ?_ _)); refine blk_far ?_ NB456_489.out _; (with_reducible repeat (first | refine blk_drewN ?_ _ | refine blk_drew ?_ | refine blk_alloc ?_ _)); exact BK456.out⟩
 have n12_ : Aside0 (((w111.setCell ⟨gb489, 0, none⟩ (.slice Ao112 t482.length co112)).setCell ⟨gb489, 1, none⟩ (.slice Ao118 t485.length co118)).heap[gb469]? = some (.cells #[.slice Ao94 t461.length co94, .slice Ao98 t464.length co98] 27 (0, 0))) := ⟨by (with_reducible repeat (first | refine blk_drewN ?_ _ | refine blk_drew ?_ | refine blk_alloc ?_ _)); refine blk_far ?_ NB469_489.out _; (with_reducible repeat (first | refine blk_drewN ?_ _ | refine blk_drew ?_ | refine blk_alloc ?_ _)); refine blk_far ?_ NB469_489.out _; (with_reducible repeat (first | refine blk_drewN ?_ _ | refine blk_drew ?_ | refine blk_alloc ?_ _)); exact BK469.out⟩
 have n13_ : Aside0 (((w111.setCell ⟨gb489, 0, none⟩ (.slice Ao112 t482.length co112)).setCell ⟨gb489, 1, none⟩ (.slice Ao118 t485.length co118)).heap[gb481]? = some (.cells #[.slice Ao104 t474.length co104, .slice Ao109 t477.length co109] 27 (0, 0))) := ⟨by (with_reducible repeat (first | refine blk_drewN ?_ _ | refine blk_drew ?_ | refine blk_alloc ?_ _)); refine blk_far ?_ NB481_489.out _; (with_reducible repeat (first | refine blk_drewN ?_ _ | refine blk_drew ?_ | refine blk_alloc ?_ _)); refine blk_far ?_ NB481_489.out _; (with_reducible repeat (first | refine blk_drewN ?_ _ | refine blk_drew ?_ | refine blk_alloc ?_ _)); exact BK481.out⟩
 have n14_ : Aside0 (((w111.setCell ⟨gb489, 0, none⟩ (.slice Ao112 t482.length co112)).setCell ⟨gb489, 1, none⟩ (.slice Ao118 t485.length co118)).heap[gb489]? = some (.cells #[.slice Ao112 t482.length co112, .slice Ao118 t485.length co118] 27 (0, 0))) := ⟨bW BK489⟩
 have n15_ : Aside0 (Below w.heap.size w ((w111.setCell ⟨gb489, 0, none⟩ (.slice Ao112 t482.length co112)).setCell ⟨gb489, 1, none⟩ (.slice Ao118 t485.length co118))) := ⟨by exact lT HB (gC GE448 (gC GE456 (gC GE469 (gC GE481 (gC GE489 gN)))))⟩
 (try clear HO444)
 (try clear HO447)
 (try clear HO451)
 (try clear HO454)
 (try clear HO463)
 (try clear HO466)
 (try clear HO476)
 (try clear HO479)
 (try clear HO484)
 (try clear HO487)
 (try clear BK448)
 (try clear BK456)
 (try clear BK469)
 (try clear BK481)
 (try clear BK489)
 (try clear HB)
 generalize ((w111.setCell ⟨gb489, 0, none⟩ (.slice Ao112 t482.length co112)).setCell ⟨gb489, 1, none⟩ (.slice Ao118 t485.length co118)) = w119 at n0_ n1_ n2_ n3_ n4_ n5_ n6_ n7_ n8_ n9_ n10_ n11_ n12_ n13_ n14_ n15_ ⊢
 have HO444 := n0_
 have HO447 := n1_
 have HO451 := n2_
 have HO454 := n3_
 have HO463 := n4_
 have HO466 := n5_
 have HO476 := n6_
 have HO479 := n7_
 have HO484 := n8_
 have HO487 := n9_
 have BK448 := n10_
 have BK456 := n11_
 have BK469 := n12_
 have BK481 := n13_
 have BK489 := n14_
 have HB := n15_
 clear n0_ n1_ n2_ n3_ n4_ n5_ n6_ n7_ n8_ n9_ n10_ n11_ n12_ n13_ n14_ n15_
 replace HO444 := ak (Kd.R_drew HO444.out)
 replace HO447 := ak (Kd.R_drew HO447.out)
 replace HO451 := ak (Kd.R_drew HO451.out)
 replace HO454 := ak (Kd.R_drew HO454.out)
 replace HO463 := ak (Kd.R_drew HO463.out)
 replace HO466 := ak (Kd.R_drew HO466.out)
 replace HO476 := ak (Kd.R_drew HO476.out)
 replace HO479 := ak (Kd.R_drew HO479.out)
 replace HO484 := ak (Kd.R_drew HO484.out)
 replace HO487 := ak (Kd.R_drew HO487.out)
 replace BK448 := ak (blk_drew BK448.out)
 replace BK456 := ak (blk_drew BK456.out)
 replace BK469 := ak (blk_drew BK469.out)
 replace BK481 := ak (blk_drew BK481.out)
 replace BK489 := ak (blk_drew BK489.out)
 replace HB := ak (below_drew1 HB.out)
 refine start_ (n := 46) (S := fun w' => w'.cell? ⟨gb448, 0, none⟩ = some (.slice Ao80 t442.length co80) ∧ w'.cell? ⟨gb448, 1, none⟩ = some (.slice Ao82 t445.length co82) ∧ w'.cell? ⟨gb481, 0, none⟩ = some (.slice Ao104 t474.length co104) ∧ w'.cell? ⟨gb481, 1, none⟩ = some (.slice Ao109 t477.length co109)) (ds := []) #[f_,f_,f_,f_,f_,f_,f_,f_,f_,f_,f_,f_,f_,f_,f_,f_,f_,f_,f_,f_,f_,f_,f_,f_,f_,f_,f_,f_,f_,f_,f_,f_,f_,f_,f_,f_,f_,f_,f_,f_,f_,f_,f_,f_,f_,f_] (by kernel_rfl) rfl rfl ⟨bc BK448 0, bc BK448 1, bc BK481 0, bc BK481 1⟩ (fun hHeld => ?_); refine with_tabW laws_FnDisksTold.tab12 laws_FnDisksTold.bits12 (fun HT_ HW_ => ?_)
 generalize w119.drew = w120 at HO444 HO447 HO451 HO454 HO463 HO466 HO476 HO479 HO484 HO487 BK448 BK456 BK469 BK481 BK489 HB hHeld ⊢
 refine tk 0 70 (fb 46 1) HT_ HW_ hHeld ?_
 refine tk 2 72 (fb 46 5) HT_ HW_ hHeld ?_
 refine on 1 (some 71) (fb 46 7) HT_ (fun K hK => ?_)
 refine goes_ Try.func16 (by kernel_rfl) rfl #[.agg #[.slice Ao80 t442.length co80, .slice Ao82 t445.length co82]] (by rfl) rfl rfl (by (try simp only [List.map_toArray, List.map_cons, List.map_nil]); first | done | rfl | (simp only [List.length_drop, List.length_take]; rfl)) ?_
 with_reducible refine (impl_DiskOk.calls _ _ t442 _ _ t445 t490 _ ?side1 ?side2 ?side3 ?side4 A13.out).mono ?_
 (case side1 => exact cG (Kd.R_reads' HO444.out).2.2)
 (case side2 => exact (Kd.R_reads' HO444.out).2.1)
 (case side3 => exact cG (Kd.R_reads' HO447.out).2.2)
 (case side4 => exact (Kd.R_reads' HO447.out).2.1)
 rintro e w121 ⟨rfl, hb⟩
 refine ⟨_, rfl, ?_⟩
 replace HO444 := rB HO444 hb
 replace HO447 := rB HO447 hb
 replace HO451 := rB HO451 hb
 replace HO454 := rB HO454 hb
 replace HO463 := rB HO463 hb
 replace HO466 := rB HO466 hb
 replace HO476 := rB HO476 hb
 replace HO479 := rB HO479 hb
 replace HO484 := rB HO484 hb
 replace HO487 := rB HO487 hb
 replace BK448 := bB BK448 hb
 replace BK456 := bB BK456 hb
 replace BK469 := bB BK469 hb
 replace BK481 := bB BK481 hb
 replace BK489 := bB BK489 hb
 replace HB := ak (below_step (lT HB (gC GE448 (gC GE456 (gC GE469 (gC GE481 (gC GE489 gN)))))) hb)
 (try clear hb)
 (try clear hb2)
 (try clear hk)
 (try clear hi)
 refine hK.out _ _ ⟨bc BK448 0, bc BK448 1, bc BK481 0, bc BK481 1⟩ (fun hHeld => ?_)
 clear hK K
 refine nm ?_
 refine on 3 (some 73) (fb 46 15) HT_ (fun K hK => ?_)
 refine goes_ Try.func35 (by kernel_rfl) rfl #[.agg #[.slice Ao80 t442.length co80, .slice Ao82 t445.length co82]] (by rfl) rfl rfl (by (try simp only [List.map_toArray, List.map_cons, List.map_nil]); first | done | rfl | (simp only [List.length_drop, List.length_take]; rfl)) ?_
 with_reducible refine (spec_DiskOk.calls k _ _ t442 _ _ t445 t491 _ ?side1 ?side2 ?side3 ?side4 A14.out).mono ?_
 (case side1 => exact cG (Kd.R_reads' HO444.out).2.2)
 (case side2 => exact (Kd.R_reads' HO444.out).2.1)
 (case side3 => exact cG (Kd.R_reads' HO447.out).2.2)
 (case side4 => exact (Kd.R_reads' HO447.out).2.1)
 rintro e w122 ⟨rfl, hb⟩
 refine ⟨_, rfl, ?_⟩
 replace HO444 := rB HO444 hb
 replace HO447 := rB HO447 hb
 replace HO451 := rB HO451 hb
 replace HO454 := rB HO454 hb
 replace HO463 := rB HO463 hb
 replace HO466 := rB HO466 hb
 replace HO476 := rB HO476 hb
 replace HO479 := rB HO479 hb
 replace HO484 := rB HO484 hb
 replace HO487 := rB HO487 hb
 replace BK448 := bB BK448 hb
 replace BK456 := bB BK456 hb
 replace BK469 := bB BK469 hb
 replace BK481 := bB BK481 hb
 replace BK489 := bB BK489 hb
 replace HB := ak (below_step (lT HB (gC GE448 (gC GE456 (gC GE469 (gC GE481 (gC GE489 gN)))))) hb)
 (try clear hb)
 (try clear hb2)
 (try clear hk)
 (try clear hi)
 refine hK.out _ _ ⟨bc BK448 0, bc BK448 1, bc BK481 0, bc BK481 1⟩ (fun hHeld => ?_)
 clear hK K
 refine nm ?_
 refine pu 4 74 (fb 46 31) HT_ ?_
 refine pu 5 75 (fb 46 63) HT_ ?_
 refine pu 6 76 (fb 46 127) HT_ ?_
 refine pu 7 77 (fb 46 255) HT_ ?_
 refine pu 8 78 (fb 46 511) HT_ ?_
 refine pu 9 79 (fb 46 1023) HT_ ?_
 refine pu 10 80 (fb 46 2047) HT_ ?_
 refine pu 11 81 (fb 46 4095) HT_ ?_
 refine pu 12 82 (fb 46 8191) HT_ ?_
 refine pu 13 83 (fb 46 16383) HT_ ?_
 refine pu 14 84 (fb 46 32767) HT_ ?_
 refine pu 15 85 (fb 46 65535) HT_ ?_
 refine pu 16 86 (fb 46 131071) HT_ ?_
 refine pu 17 87 (fb 46 262143) HT_ ?_
 refine pu 18 88 (fb 46 524287) HT_ ?_
 refine pu 19 89 (fb 46 1048575) HT_ ?_
 refine pu 20 90 (fb 46 2097151) HT_ ?_
 refine pu 21 91 (fb 46 4194303) HT_ ?_
 refine pu 22 92 (fb 46 8388607) HT_ ?_
 refine pu 23 93 (fb 46 16777215) HT_ ?_
 refine pu 24 94 (fb 46 33554431) HT_ ?_
 refine pu 25 95 (fb 46 67108863) HT_ ?_
 refine tk 26 96 (fb 46 134217727) HT_ HW_ hHeld ?_
 refine tk 28 98 (fb 46 402653183) HT_ HW_ hHeld ?_
 refine on 27 (some 97) (fb 46 536870911) HT_ (fun K hK => ?_)
 refine goes_ Try.func13 (by kernel_rfl) rfl #[.agg #[.slice Ao80 t442.length co80, .slice Ao82 t445.length co82]] (by rfl) rfl rfl (by (try simp only [List.map_toArray, List.map_cons, List.map_nil]); first | done | rfl | (simp only [List.length_drop, List.length_take]; rfl)) ?_
 with_reducible refine (impl_FlushDisk.calls k _ _ t442 _ _ t445 t492 t495 _ ?side1 ?side2 ?side3 ?side4 A20.out).mono ?_
 (case side1 => exact cG (Kd.R_reads' HO444.out).2.2)
 (case side2 => exact (Kd.R_reads' HO444.out).2.1)
 (case side3 => exact cG (Kd.R_reads' HO447.out).2.2)
 (case side4 => exact (Kd.R_reads' HO447.out).2.1)
 rintro e w123 ⟨v493, v496, rfl, ho0, ho1, hb⟩
 refine ⟨_, rfl, ?_⟩
 replace HO494 := ak (Kd.R_lower (Kd.R_new' (Kd.R_new' (Kd.R_new' (Kd.R_new' (Kd.R_new' ho0 (Kd.R_lt (rG HO444))) (Kd.R_lt (rG HO451))) (Kd.R_lt (rG HO463))) (Kd.R_lt (rG HO476))) (Kd.R_lt (rG HO484))) (below_size (lT HB (gC GE448 (gC GE456 (gC GE469 (gC GE481 (gC GE489 gN))))))))
 replace HO444 := ak (Kd.R_elder' (rG HO444) (Kd.R_base ho0) hb)
 replace HO451 := ak (Kd.R_elder' (rG HO451) (Kd.R_base ho0) hb)
 replace HO463 := ak (Kd.R_elder' (rG HO463) (Kd.R_base ho0) hb)
 replace HO476 := ak (Kd.R_elder' (rG HO476) (Kd.R_base ho0) hb)
 replace HO484 := ak (Kd.R_elder' (rG HO484) (Kd.R_base ho0) hb)
 replace HO497 := ak (Kd.R_lower (Kd.R_new' (Kd.R_new' (Kd.R_new' (Kd.R_new' (Kd.R_new' ho1 (Kd.R_lt (rG HO447))) (Kd.R_lt (rG HO454))) (Kd.R_lt (rG HO466))) (Kd.R_lt (rG HO479))) (Kd.R_lt (rG HO487))) (below_size (lT HB (gC GE448 (gC GE456 (gC GE469 (gC GE481 (gC GE489 gN))))))))
 replace HO447 := ak (Kd.R_elder' (rG HO447) (Kd.R_base ho1) hb)
 replace HO454 := ak (Kd.R_elder' (rG HO454) (Kd.R_base ho1) hb)
 replace HO466 := ak (Kd.R_elder' (rG HO466) (Kd.R_base ho1) hb)
 replace HO479 := ak (Kd.R_elder' (rG HO479) (Kd.R_base ho1) hb)
 replace HO487 := ak (Kd.R_elder' (rG HO487) (Kd.R_base ho1) hb)
 replace BK448 := bB BK448 hb
 replace BK456 := bB BK456 hb
 replace BK469 := bB BK469 hb
 replace BK481 := bB BK481 hb
 replace BK489 := bB BK489 hb
 replace HB := ak (below_step (lT HB (gC GE448 (gC GE456 (gC GE469 (gC GE481 (gC GE489 gN)))))) hb)
 (try clear hb)
 (try clear hb2)
 (try clear hk)
 (try clear hi)
 (try clear ho0)
 (try clear ho1)
 refine hK.out _ _ ⟨bc BK448 0, bc BK448 1, bc BK481 0, bc BK481 1⟩ (fun hHeld => ?_)
 clear hK K
 refine nm ?_
 refine on 29 (some 99) (fb 46 1073741823) HT_ (fun K hK => ?_)
 refine goes_ Try.func36 (by kernel_rfl) rfl #[.agg #[.slice Ao80 t442.length co80, .slice Ao82 t445.length co82]] (by rfl) rfl rfl (by (try simp only [List.map_toArray, List.map_cons, List.map_nil]); first | done | rfl | (simp only [List.length_drop, List.length_take]; rfl)) ?_
 with_reducible refine (spec_FlushDisk.calls k _ _ t442 _ _ t445 t498 t501 _ ?side1 ?side2 ?side3 ?side4 A21.out).mono ?_
 (case side1 => exact cG (Kd.R_reads' HO444.out).2.2)
 (case side2 => exact (Kd.R_reads' HO444.out).2.1)
 (case side3 => exact cG (Kd.R_reads' HO447.out).2.2)
 (case side4 => exact (Kd.R_reads' HO447.out).2.1)
 rintro e w124 ⟨v499, v502, rfl, ho0, ho1, hb⟩
 refine ⟨_, rfl, ?_⟩
 replace HO500 := ak (Kd.R_lower (Kd.R_new' (Kd.R_new' (Kd.R_new' (Kd.R_new' (Kd.R_new' (Kd.R_new' ho0 (Kd.R_lt (rG HO444))) (Kd.R_lt (rG HO451))) (Kd.R_lt (rG HO463))) (Kd.R_lt (rG HO476))) (Kd.R_lt (rG HO484))) (Kd.R_lt (rG HO494))) (below_size (lT HB (gC GE448 (gC GE456 (gC GE469 (gC GE481 (gC GE489 gN))))))))
 replace HO444 := ak (Kd.R_elder' (rG HO444) (Kd.R_base ho0) hb)
 replace HO451 := ak (Kd.R_elder' (rG HO451) (Kd.R_base ho0) hb)
 replace HO463 := ak (Kd.R_elder' (rG HO463) (Kd.R_base ho0) hb)
 replace HO476 := ak (Kd.R_elder' (rG HO476) (Kd.R_base ho0) hb)
 replace HO484 := ak (Kd.R_elder' (rG HO484) (Kd.R_base ho0) hb)
 replace HO494 := ak (Kd.R_elder' (rG HO494) (Kd.R_base ho0) hb)
 replace HO503 := ak (Kd.R_lower (Kd.R_new' (Kd.R_new' (Kd.R_new' (Kd.R_new' (Kd.R_new' (Kd.R_new' ho1 (Kd.R_lt (rG HO447))) (Kd.R_lt (rG HO454))) (Kd.R_lt (rG HO466))) (Kd.R_lt (rG HO479))) (Kd.R_lt (rG HO487))) (Kd.R_lt (rG HO497))) (below_size (lT HB (gC GE448 (gC GE456 (gC GE469 (gC GE481 (gC GE489 gN))))))))
 replace HO447 := ak (Kd.R_elder' (rG HO447) (Kd.R_base ho1) hb)
 replace HO454 := ak (Kd.R_elder' (rG HO454) (Kd.R_base ho1) hb)
 replace HO466 := ak (Kd.R_elder' (rG HO466) (Kd.R_base ho1) hb)
 replace HO479 := ak (Kd.R_elder' (rG HO479) (Kd.R_base ho1) hb)
 replace HO487 := ak (Kd.R_elder' (rG HO487) (Kd.R_base ho1) hb)
 replace HO497 := ak (Kd.R_elder' (rG HO497) (Kd.R_base ho1) hb)
 replace BK448 := bB BK448 hb
 replace BK456 := bB BK456 hb
 replace BK469 := bB BK469 hb
 replace BK481 := bB BK481 hb
 replace BK489 := bB BK489 hb
 replace HB := ak (below_step (lT HB (gC GE448 (gC GE456 (gC GE469 (gC GE481 (gC GE489 gN)))))) hb)
 (try clear hb)
 (try clear hb2)
 (try clear hk)
 (try clear hi)
 (try clear ho0)
 (try clear ho1)
 obtain ⟨Ao125, co125, eo125⟩ := Kd.R_slice HO494.out
 (first | subst eo125 | (injection eo125 with f1_ f2_ f3_; have f4_ := f1_.symm; have f5_ := f3_.symm; clear f1_ f2_ f3_; subst f4_; subst f5_))
 obtain ⟨Ao126, co126, eo126⟩ := Kd.R_slice HO497.out
 (first | subst eo126 | (injection eo126 with f1_ f2_ f3_; have f4_ := f1_.symm; have f5_ := f3_.symm; clear f1_ f2_ f3_; subst f4_; subst f5_))
 obtain ⟨Ao127, co127, eo127⟩ := Kd.R_slice HO500.out
 (first | subst eo127 | (injection eo127 with f1_ f2_ f3_; have f4_ := f1_.symm; have f5_ := f3_.symm; clear f1_ f2_ f3_; subst f4_; subst f5_))
 obtain ⟨Ao128, co128, eo128⟩ := Kd.R_slice HO503.out
 (first | subst eo128 | (injection eo128 with f1_ f2_ f3_; have f4_ := f1_.symm; have f5_ := f3_.symm; clear f1_ f2_ f3_; subst f4_; subst f5_))
 refine hK.out _ _ ⟨bc BK448 0, bc BK448 1, bc BK481 0, bc BK481 1⟩ (fun hHeld => ?_)
 clear hK K
 refine nm ?_
 refine on 30 (some 100) (fb 46 2147483647) HT_ (fun K hK => ?_)
 refine goes_ Try.func20 (by kernel_rfl) rfl #[.agg #[.slice Ao125 t492.length co125, .slice Ao126 t495.length co126], .agg #[.slice Ao127 t498.length co127, .slice Ao128 t501.length co128]] (by rfl) rfl rfl (by (try simp only [List.map_toArray, List.map_cons, List.map_nil]); first | done | rfl | (simp only [List.length_drop, List.length_take]; rfl)) ?_
 with_reducible refine (laws_sameDisk.calls k _ _ t492 _ _ t495 _ _ t498 _ _ t501 true _ ?side1 ?side2 ?side3 ?side4 ?side5 ?side6 ?side7 ?side8 A22.out).mono ?_
 (case side1 => exact cG (Kd.R_reads' HO494.out).2.2)
 (case side2 => exact (Kd.R_reads' HO494.out).2.1)
 (case side3 => exact cG (Kd.R_reads' HO497.out).2.2)
 (case side4 => exact (Kd.R_reads' HO497.out).2.1)
 (case side5 => exact cG (Kd.R_reads' HO500.out).2.2)
 (case side6 => exact (Kd.R_reads' HO500.out).2.1)
 (case side7 => exact cG (Kd.R_reads' HO503.out).2.2)
 (case side8 => exact (Kd.R_reads' HO503.out).2.1)
 rintro e w129 ⟨rfl, hb⟩
 refine ⟨_, rfl, ?_⟩
 replace HO444 := rB HO444 hb
 replace HO447 := rB HO447 hb
 replace HO451 := rB HO451 hb
 replace HO454 := rB HO454 hb
 replace HO463 := rB HO463 hb
 replace HO466 := rB HO466 hb
 replace HO476 := rB HO476 hb
 replace HO479 := rB HO479 hb
 replace HO484 := rB HO484 hb
 replace HO487 := rB HO487 hb
 replace HO494 := rB HO494 hb
 replace HO497 := rB HO497 hb
 replace HO500 := rB HO500 hb
 replace HO503 := rB HO503 hb
 replace BK448 := bB BK448 hb
 replace BK456 := bB BK456 hb
 replace BK469 := bB BK469 hb
 replace BK481 := bB BK481 hb
 replace BK489 := bB BK489 hb
 replace HB := ak (below_step (lT HB (gC GE448 (gC GE456 (gC GE469 (gC GE481 (gC GE489 gN)))))) hb)
 (try clear hb)
 (try clear hb2)
 (try clear hk)
 (try clear hi)
 refine hK.out _ _ ⟨bc BK448 0, bc BK448 1, bc BK481 0, bc BK481 1⟩ (fun hHeld => ?_)
 clear hK K
 refine nm ?_
 refine pu 31 101 (fb 46 4294967295) HT_ ?_
 refine pu 32 102 (fb 46 8589934591) HT_ ?_
 refine pu 33 103 (fb 46 17179869183) HT_ ?_
 refine pu 34 104 (fb 46 34359738367) HT_ ?_
 refine pu 35 105 (fb 46 68719476735) HT_ ?_
 refine pu 36 106 (fb 46 137438953471) HT_ ?_
 refine pu 37 107 (fb 46 274877906943) HT_ ?_
 refine pu 38 108 (fb 46 549755813887) HT_ ?_
 refine pu 39 109 (fb 46 1099511627775) HT_ ?_
 refine pu 40 110 (fb 46 2199023255551) HT_ ?_
 refine tk 41 111 (fb 46 4398046511103) HT_ HW_ hHeld ?_
 refine pu 42 112 (fb 46 8796093022207) HT_ ?_
 refine pu 43 113 (fb 46 17592186044415) HT_ ?_
 refine pu 44 114 (fb 46 35184372088831) HT_ ?_
 refine pu 45 2 (fb 46 70368744177663) HT_ ?_
 refine done_ (done_of HT_.out (by kernel_rfl)) ?_
 try go_wp2
 go_ret
 exact ⟨ew, by exact lT HB (gC GE448 (gC GE456 (gC GE469 (gC GE481 (gC GE489 gN)))))⟩
set_option maxHeartbeats 8000000 in
set_option maxRecDepth 100000 in
theorem laws_FnDisksTold.leaf3 (k : Nat) (A0 : Option Addr) (c0 : Nat) (l0 : List Int) (w : World) (HR0 : Aside0 (Kd.C (Kd.int IntKind.u8) w A0 (List.length l0) l0)) (HC0 : Aside0 (List.length l0 ≤ c0)) (HB : Aside0 (Below (Array.size (World.heap w)) w w)) (A2 : Aside0 (laws_big.f l0 = some false)) (t442 : List ByteArray) (t445 : List S63) (A4 : Aside0 (spec_DrawDiskOk.f k l0 = some (t442, t445))) (t449 : List ByteArray) (t452 : List S63) (t455 : Int) (A5 : Aside0 (spec_DrawReadSector.f k l0 = some (t449, t452, t455))) (t457 : ByteArray) (t458 : Bool) (A6 : Aside0 (impl_ReadSector.f k t449 t452 t455 = some (t457, t458))) (t459 : ByteArray) (t460 : Bool) (A7 : Aside0 (spec_ReadSector.f k t449 t452 t455 = some (t459, t460))) (t461 : List ByteArray) (t464 : List S63) (t467 t468 : Int) (A8 : Aside0 (spec_DrawSectorText.f k l0 = some (t461, t464, t467, t468))) (t470 : ByteArray) (t471 : Bool) (A9 : Aside0 (impl_SectorText.f k t461 t464 t467 t468 = some (t470, t471))) (t472 : ByteArray) (t473 : Bool) (A10 : Aside0 (spec_SectorText.f k t461 t464 t467 t468 = some (t472, t473))) (t474 : List ByteArray) (t477 : List S63) (t482 : List ByteArray) (t485 : List S63) (t488 : Bool) (A12 : Aside0 (impl_DiskNew.f k 0 = some (t482, t485, t488))) (t490 : Bool) (A13 : Aside0 (impl_DiskOk.f t442 t445 = some t490)) (t491 : Bool) (A14 : Aside0 (spec_DiskOk.f k t442 t445 = some t491)) (c15b0 : (t490 == t491) = true) (c15b1 : decide (t490 = t491) = true) (c15b2 : (t490 == t491) = true) (c16b0 : (t458 == t460) = true) (c16b1 : decide (t458 = t460) = true) (c16b2 : (t458 == t460) = true) (c17b0 : (ByteArray.toList t457 == ByteArray.toList t459) = true) (c17b1 : (ByteArray.toList t457 != ByteArray.toList t459) = false) (c18b0 : (t471 == t473) = true) (c18b1 : decide (t471 = t473) = true) (c18b2 : (t471 == t473) = true) (c19b0 : (ByteArray.toList t470 == ByteArray.toList t472) = true) (c19b1 : (ByteArray.toList t470 != ByteArray.toList t472) = false) (t492 : List ByteArray) (t495 : List S63) (A20 : Aside0 (impl_FlushDisk.f k t442 t445 = some (t492, t495))) (t498 : List ByteArray) (t501 : List S63) (A21 : Aside0 (spec_FlushDisk.f k t442 t445 = some (t498, t501))) (A22 : Aside0 (laws_sameDisk.f k t492 t495 t498 t501 = some true)) (A11 : Aside0 (impl_DiskNew.f k 3 = some (t474, t477, false))) (H : some false = some false) : Calls Try.prog 7 #[Value.slice A0 (List.length l0) c0] w fun e w' => e = Ending.returned (Value.bool false) ∧ Below (Array.size (World.heap w)) w w' := by
 have hu27 := Try.underlying27
 go_enter Try.func7, Try.ntmps7
 try go_wp2_with (first | ((with_reducible refine gate_callee (f := 9) rfl ?_); refine gl (some 22) Try.func9 #[.slice A0 l0.length c0] ?_; (with_reducible refine (laws_big.calls _ _ l0 false _ ?side1 ?side2 A2.out).mono ?_); (case side1 => repeat (first | exact HR0.out | (with_reducible refine Kd.C_alloc ?_ _) | (with_reducible refine Kd.C_drewN ?_ _) | (with_reducible refine Kd.C_drew ?_))); (case side2 => exact HC0.out); rintro e w' ⟨rfl, ⟨nd, rfl⟩⟩; refine ⟨_, rfl, ?_⟩) | ((with_reducible refine gate_callee (f := 29) rfl ?_); refine gl (some 24) Try.func29 #[.slice A0 l0.length c0] ?_; (with_reducible refine (spec_DrawDiskOk.calls k _ _ l0 t442 t445 _ ?side1 ?side2 A4.out).mono ?_); (case side1 => repeat (first | exact HR0.out | (with_reducible refine Kd.C_alloc ?_ _) | (with_reducible refine Kd.C_drewN ?_ _) | (with_reducible refine Kd.C_drew ?_))); (case side2 => exact HC0.out); rintro e w130 ⟨v443, v446, rfl, ho0, ho1, hb⟩; refine ⟨_, rfl, ?_⟩; replace HO444 := ak (Kd.R_lower ho0 (below_size (lG HB))); replace HO447 := ak (Kd.R_lower ho1 (below_size (lG HB))); replace HB := lB HB hb; (try clear hb); (try clear hk); (try clear ho0); (try clear ho1)) | ((with_reducible refine gate_dst (N := 3) rfl ?_); (try (refine gate_guard (by rfl) ?_; dsimp only)); refine bx 3 #[.slice none 0 0, .slice none 0 0] 27 ?_; intro gb448 hg w131 hbox hb; replace HO444 := rB HO444 hb; replace HO447 := rB HO447 hb; replace BK448 := ak (hbox); replace GW448 := ak (bz hg (lG HB)); replace GE448 := ak (bz hg (lG HB)); replace HB := lB HB hb; clear hb hbox hg; obtain ⟨Ao132, co132, eo132⟩ := Kd.R_slice HO444.out; subst eo132; obtain ⟨hcz133_0, hcz133_1, hfz133_0, hfz133_1⟩ := bC2 BK448; obtain ⟨Ao134, co134, eo134⟩ := Kd.R_slice HO447.out; subst eo134) | ((with_reducible refine gate_callee (f := 30) rfl ?_); refine gl (some 27) Try.func30 #[.slice A0 l0.length c0] ?_; (with_reducible refine (spec_DrawReadSector.calls k _ _ l0 t449 t452 t455 _ ?side1 ?side2 A5.out).mono ?_); (case side1 => exact Kd.C_below HR0.out (lT HB (gC GE448 gN))); (case side2 => exact HC0.out); rintro e w135 ⟨v450, v453, rfl, ho0, ho1, hb⟩; refine ⟨_, rfl, ?_⟩; replace HO451 := ak (Kd.R_lower (Kd.R_new' ho0 (Kd.R_lt (rT HO444 BK448 (by decide)))) (below_size (lT HB (gC GE448 gN)))); replace HO444 := ak (Kd.R_elder' (rT HO444 BK448 (by decide)) (Kd.R_base ho0) hb); replace HO454 := ak (Kd.R_lower (Kd.R_new' ho1 (Kd.R_lt (rT HO447 BK448 (by decide)))) (below_size (lT HB (gC GE448 gN)))); replace HO447 := ak (Kd.R_elder' (rT HO447 BK448 (by decide)) (Kd.R_base ho1) hb); replace BK448 := ak (blk_below (g := gb448) (o := .cells #[.slice Ao132 t442.length co132, .slice Ao134 t445.length co134] 27 (0, 0)) (bW BK448) hb); replace HB := ak (below_step (lT HB (gC GE448 gN)) hb); (try clear hb); (try clear hk); (try clear ho0); (try clear ho1)) | ((with_reducible refine gate_dst (N := 4) rfl ?_); (try (refine gate_guard (by rfl) ?_; dsimp only)); refine bx 4 #[.slice none 0 0, .slice none 0 0] 27 ?_; intro gb456 hg w136 hbox hb; replace HO444 := rB HO444 hb; replace HO447 := rB HO447 hb; replace HO451 := rB HO451 hb; replace HO454 := rB HO454 hb; replace BK456 := ak (hbox); replace GW456 := ak (bz hg (lT HB (gC GE448 gN))); replace GE456 := ak (bz hg (lT HB (gC GE448 gN))); replace HB := ak (below_step (lT HB (gC GE448 gN)) hb); replace NB448_456 := ak (nl hg (bG BK448)); replace NB456_448 := ak (ng hg (bG BK448)); replace BK448 := bB BK448 hb; clear hb hbox hg; obtain ⟨Ao137, co137, eo137⟩ := Kd.R_slice HO451.out; subst eo137; have hnb138 := NB456_448.out; have hnc138 := NB448_456.out; obtain ⟨hcz139_0, hcz139_1, hfz139_0, hfz139_1⟩ := bC2 BK456; obtain ⟨Ao140, co140, eo140⟩ := Kd.R_slice HO454.out; subst eo140) | ((with_reducible refine gate_callee (f := 15) rfl ?_); refine gl (some 33) Try.func15 #[.agg #[.slice Ao137 t449.length co137, .slice Ao140 t452.length co140], .int .i64 t455] ?_; (with_reducible refine (impl_ReadSector.calls k _ _ t449 _ _ t452 t455 t457 t458 _ ?side1 ?side2 ?side3 ?side4 A6.out).mono ?_); (case side1 => exact (Kd.R_reads' (rT HO451 BK456 (by decide))).2.2); (case side2 => exact (Kd.R_reads' HO451.out).2.1); (case side3 => exact (Kd.R_reads' (rT HO454 BK456 (by decide))).2.2); (case side4 => exact (Kd.R_reads' HO454.out).2.1); rintro e w141 ⟨rfl, hb⟩; refine ⟨_, rfl, ?_⟩; replace HO444 := ak (Kd.R_below (rT HO444 BK456 (by decide)) hb); replace HO447 := ak (Kd.R_below (rT HO447 BK456 (by decide)) hb); replace HO451 := ak (Kd.R_below (rT HO451 BK456 (by decide)) hb); replace HO454 := ak (Kd.R_below (rT HO454 BK456 (by decide)) hb); replace BK448 := ak (blk_below (bT BK448 (nC NB448_456 nN)) hb); replace BK456 := ak (blk_below (g := gb456) (o := .cells #[.slice Ao137 t449.length co137, .slice Ao140 t452.length co140] 27 (0, 0)) (bW BK456) hb); replace HB := ak (below_step (lT HB (gC GE448 (gC GE456 gN))) hb); (try clear hb); (try clear hk); obtain ⟨hcz142_0, hcz142_1, hfz142_0, hfz142_1⟩ := bC2 BK456) | ((with_reducible refine gate_callee (f := 14) rfl ?_); refine gl (some 39) Try.func14 #[.agg #[.slice Ao137 t449.length co137, .slice Ao140 t452.length co140], .int .i64 t455] ?_; (with_reducible refine (spec_ReadSector.calls k _ _ t449 _ _ t452 t455 t459 t460 _ ?side1 ?side2 ?side3 ?side4 A7.out).mono ?_); (case side1 => exact cG (Kd.R_reads' HO451.out).2.2); (case side2 => exact (Kd.R_reads' HO451.out).2.1); (case side3 => exact cG (Kd.R_reads' HO454.out).2.2); (case side4 => exact (Kd.R_reads' HO454.out).2.1); rintro e w143 ⟨rfl, hb⟩; refine ⟨_, rfl, ?_⟩; replace HO444 := rB HO444 hb; replace HO447 := rB HO447 hb; replace HO451 := rB HO451 hb; replace HO454 := rB HO454 hb; replace BK448 := bB BK448 hb; replace BK456 := bB BK456 hb; replace HB := ak (below_step (lT HB (gC GE448 (gC GE456 gN))) hb); (try clear hb); (try clear hk)) | ((with_reducible refine gate_callee (f := 31) rfl ?_); refine gl (some 44) Try.func31 #[.slice A0 l0.length c0] ?_; (with_reducible refine (spec_DrawSectorText.calls k _ _ l0 t461 t464 t467 t468 _ ?side1 ?side2 A8.out).mono ?_); (case side1 => exact cG (Kd.C_below HR0.out HB.out)); (case side2 => exact HC0.out); rintro e w144 ⟨v462, v465, rfl, ho0, ho1, hb⟩; refine ⟨_, rfl, ?_⟩; replace HO463 := ak (Kd.R_lower (Kd.R_new' (Kd.R_new' ho0 (Kd.R_lt (rG HO444))) (Kd.R_lt (rG HO451))) (below_size (lT HB (gC GE448 (gC GE456 gN))))); replace HO444 := ak (Kd.R_elder' (rG HO444) (Kd.R_base ho0) hb); replace HO451 := ak (Kd.R_elder' (rG HO451) (Kd.R_base ho0) hb); replace HO466 := ak (Kd.R_lower (Kd.R_new' (Kd.R_new' ho1 (Kd.R_lt (rG HO447))) (Kd.R_lt (rG HO454))) (below_size (lT HB (gC GE448 (gC GE456 gN))))); replace HO447 := ak (Kd.R_elder' (rG HO447) (Kd.R_base ho1) hb); replace HO454 := ak (Kd.R_elder' (rG HO454) (Kd.R_base ho1) hb); replace BK448 := bB BK448 hb; replace BK456 := bB BK456 hb; replace HB := ak (below_step (lT HB (gC GE448 (gC GE456 gN))) hb); (try clear hb); (try clear hk); (try clear ho0); (try clear ho1)) | ((with_reducible refine gate_dst (N := 10) rfl ?_); (try (refine gate_guard (by rfl) ?_; dsimp only)); refine bx 10 #[.slice none 0 0, .slice none 0 0] 27 ?_; intro gb469 hg w145 hbox hb; replace HO444 := rB HO444 hb; replace HO447 := rB HO447 hb; replace HO451 := rB HO451 hb; replace HO454 := rB HO454 hb; replace HO463 := rB HO463 hb; replace HO466 := rB HO466 hb; replace BK469 := ak (hbox); replace GW469 := ak (bz hg (lT HB (gC GE448 (gC GE456 gN)))); replace GE469 := ak (bz hg (lT HB (gC GE448 (gC GE456 gN)))); replace HB := ak (below_step (lT HB (gC GE448 (gC GE456 gN))) hb); replace NB448_469 := ak (nl hg (bG BK448)); replace NB469_448 := ak (ng hg (bG BK448)); replace BK448 := bB BK448 hb; replace NB456_469 := ak (nl hg (bG BK456)); replace NB469_456 := ak (ng hg (bG BK456)); replace BK456 := bB BK456 hb; clear hb hbox hg; obtain ⟨Ao146, co146, eo146⟩ := Kd.R_slice HO463.out; subst eo146; have hnb147 := NB469_448.out; have hnc147 := NB448_469.out; have hnb148 := NB469_456.out; have hnc148 := NB456_469.out; obtain ⟨hcz149_0, hcz149_1, hfz149_0, hfz149_1⟩ := bC2 BK469; obtain ⟨Ao150, co150, eo150⟩ := Kd.R_slice HO466.out; subst eo150) | ((with_reducible refine gate_callee (f := 32) rfl ?_); refine gl (some 52) Try.func32 #[.agg #[.slice Ao146 t461.length co146, .slice Ao150 t464.length co150], .int .i64 t467, .int .i64 t468] ?_; (with_reducible refine (impl_SectorText.calls k _ _ t461 _ _ t464 t467 t468 t470 t471 _ ?side1 ?side2 ?side3 ?side4 A9.out).mono ?_); (case side1 => exact (Kd.R_reads' (rT HO463 BK469 (by decide))).2.2); (case side2 => exact (Kd.R_reads' HO463.out).2.1); (case side3 => exact (Kd.R_reads' (rT HO466 BK469 (by decide))).2.2); (case side4 => exact (Kd.R_reads' HO466.out).2.1); rintro e w151 ⟨rfl, hb⟩; refine ⟨_, rfl, ?_⟩; replace HO444 := ak (Kd.R_below (rT HO444 BK469 (by decide)) hb); replace HO447 := ak (Kd.R_below (rT HO447 BK469 (by decide)) hb); replace HO451 := ak (Kd.R_below (rT HO451 BK469 (by decide)) hb); replace HO454 := ak (Kd.R_below (rT HO454 BK469 (by decide)) hb); replace HO463 := ak (Kd.R_below (rT HO463 BK469 (by decide)) hb); replace HO466 := ak (Kd.R_below (rT HO466 BK469 (by decide)) hb); replace BK448 := ak (blk_below (bT BK448 (nC NB448_469 nN)) hb); replace BK456 := ak (blk_below (bT BK456 (nC NB456_469 nN)) hb); replace BK469 := ak (blk_below (g := gb469) (o := .cells #[.slice Ao146 t461.length co146, .slice Ao150 t464.length co150] 27 (0, 0)) (bW BK469) hb); replace HB := ak (below_step (lT HB (gC GE448 (gC GE456 (gC GE469 gN)))) hb); (try clear hb); (try clear hk); obtain ⟨hcz152_0, hcz152_1, hfz152_0, hfz152_1⟩ := bC2 BK469) | ((with_reducible refine gate_callee (f := 33) rfl ?_); refine gl (some 59) Try.func33 #[.agg #[.slice Ao146 t461.length co146, .slice Ao150 t464.length co150], .int .i64 t467, .int .i64 t468] ?_; (with_reducible refine (spec_SectorText.calls k _ _ t461 _ _ t464 t467 t468 t472 t473 _ ?side1 ?side2 ?side3 ?side4 A10.out).mono ?_); (case side1 => exact cG (Kd.R_reads' HO463.out).2.2); (case side2 => exact (Kd.R_reads' HO463.out).2.1); (case side3 => exact cG (Kd.R_reads' HO466.out).2.2); (case side4 => exact (Kd.R_reads' HO466.out).2.1); rintro e w153 ⟨rfl, hb⟩; refine ⟨_, rfl, ?_⟩; replace HO444 := rB HO444 hb; replace HO447 := rB HO447 hb; replace HO451 := rB HO451 hb; replace HO454 := rB HO454 hb; replace HO463 := rB HO463 hb; replace HO466 := rB HO466 hb; replace BK448 := bB BK448 hb; replace BK456 := bB BK456 hb; replace BK469 := bB BK469 hb; replace HB := ak (below_step (lT HB (gC GE448 (gC GE456 (gC GE469 gN)))) hb); (try clear hb); (try clear hk)) | ((with_reducible refine gate_callee (f := 34) rfl ?_); refine gl (some 63) Try.func34 #[.int .i64 3] ?_; (with_reducible refine (impl_DiskNew.calls k 3 t474 t477 false _ A11.out).mono ?_); rintro e w154 ⟨v475, v478, rfl, ho0, ho1, hb⟩; refine ⟨_, rfl, ?_⟩; replace HO476 := ak (Kd.R_lower (Kd.R_new' (Kd.R_new' (Kd.R_new' ho0 (Kd.R_lt (rG HO444))) (Kd.R_lt (rG HO451))) (Kd.R_lt (rG HO463))) (below_size (lT HB (gC GE448 (gC GE456 (gC GE469 gN)))))); replace HO444 := ak (Kd.R_elder' (rG HO444) (Kd.R_base ho0) hb); replace HO451 := ak (Kd.R_elder' (rG HO451) (Kd.R_base ho0) hb); replace HO463 := ak (Kd.R_elder' (rG HO463) (Kd.R_base ho0) hb); replace HO479 := ak (Kd.R_lower (Kd.R_new' (Kd.R_new' (Kd.R_new' ho1 (Kd.R_lt (rG HO447))) (Kd.R_lt (rG HO454))) (Kd.R_lt (rG HO466))) (below_size (lT HB (gC GE448 (gC GE456 (gC GE469 gN)))))); replace HO447 := ak (Kd.R_elder' (rG HO447) (Kd.R_base ho1) hb); replace HO454 := ak (Kd.R_elder' (rG HO454) (Kd.R_base ho1) hb); replace HO466 := ak (Kd.R_elder' (rG HO466) (Kd.R_base ho1) hb); replace BK448 := bB BK448 hb; replace BK456 := bB BK456 hb; replace BK469 := bB BK469 hb; replace HB := ak (below_step (lT HB (gC GE448 (gC GE456 (gC GE469 gN)))) hb); (try clear hb); (try clear hk); (try clear ho0); (try clear ho1)) | ((with_reducible refine gate_dst (N := 17) rfl ?_); (try (refine gate_guard (by rfl) ?_; dsimp only)); refine bx 17 #[.slice none 0 0, .slice none 0 0] 27 ?_; intro gb481 hg w155 hbox hb; replace HO444 := rB HO444 hb; replace HO447 := rB HO447 hb; replace HO451 := rB HO451 hb; replace HO454 := rB HO454 hb; replace HO463 := rB HO463 hb; replace HO466 := rB HO466 hb; replace HO476 := rB HO476 hb; replace HO479 := rB HO479 hb; replace BK481 := ak (hbox); replace GW481 := ak (bz hg (lT HB (gC GE448 (gC GE456 (gC GE469 gN))))); replace GE481 := ak (bz hg (lT HB (gC GE448 (gC GE456 (gC GE469 gN))))); replace HB := ak (below_step (lT HB (gC GE448 (gC GE456 (gC GE469 gN)))) hb); replace NB448_481 := ak (nl hg (bG BK448)); replace NB481_448 := ak (ng hg (bG BK448)); replace BK448 := bB BK448 hb; replace NB456_481 := ak (nl hg (bG BK456)); replace NB481_456 := ak (ng hg (bG BK456)); replace BK456 := bB BK456 hb; replace NB469_481 := ak (nl hg (bG BK469)); replace NB481_469 := ak (ng hg (bG BK469)); replace BK469 := bB BK469 hb; clear hb hbox hg; obtain ⟨Ao156, co156, eo156⟩ := Kd.R_slice HO476.out; subst eo156; have hnb157 := NB481_448.out; have hnc157 := NB448_481.out; have hnb158 := NB481_456.out; have hnc158 := NB456_481.out; have hnb159 := NB481_469.out; have hnc159 := NB469_481.out; obtain ⟨hcz160_0, hcz160_1, hfz160_0, hfz160_1⟩ := bC2 BK481; obtain ⟨Ao161, co161, eo161⟩ := Kd.R_slice HO479.out; subst eo161) | ((with_reducible refine gate_callee (f := 34) rfl ?_); refine gl (some 67) Try.func34 #[.int .i64 0] ?_; (with_reducible refine (impl_DiskNew.calls k 0 t482 t485 t488 _ A12.out).mono ?_); rintro e w162 ⟨v483, v486, rfl, ho0, ho1, hb⟩; refine ⟨_, rfl, ?_⟩; replace HO484 := ak (Kd.R_lower (Kd.R_new' (Kd.R_new' (Kd.R_new' (Kd.R_new' ho0 (Kd.R_lt (rT HO444 BK481 (by decide)))) (Kd.R_lt (rT HO451 BK481 (by decide)))) (Kd.R_lt (rT HO463 BK481 (by decide)))) (Kd.R_lt (rT HO476 BK481 (by decide)))) (below_size (lT HB (gC GE448 (gC GE456 (gC GE469 (gC GE481 gN))))))); replace HO444 := ak (Kd.R_elder' (rT HO444 BK481 (by decide)) (Kd.R_base ho0) hb); replace HO451 := ak (Kd.R_elder' (rT HO451 BK481 (by decide)) (Kd.R_base ho0) hb); replace HO463 := ak (Kd.R_elder' (rT HO463 BK481 (by decide)) (Kd.R_base ho0) hb); replace HO476 := ak (Kd.R_elder' (rT HO476 BK481 (by decide)) (Kd.R_base ho0) hb); replace HO487 := ak (Kd.R_lower (Kd.R_new' (Kd.R_new' (Kd.R_new' (Kd.R_new' ho1 (Kd.R_lt (rT HO447 BK481 (by decide)))) (Kd.R_lt (rT HO454 BK481 (by decide)))) (Kd.R_lt (rT HO466 BK481 (by decide)))) (Kd.R_lt (rT HO479 BK481 (by decide)))) (below_size (lT HB (gC GE448 (gC GE456 (gC GE469 (gC GE481 gN))))))); replace HO447 := ak (Kd.R_elder' (rT HO447 BK481 (by decide)) (Kd.R_base ho1) hb); replace HO454 := ak (Kd.R_elder' (rT HO454 BK481 (by decide)) (Kd.R_base ho1) hb); replace HO466 := ak (Kd.R_elder' (rT HO466 BK481 (by decide)) (Kd.R_base ho1) hb); replace HO479 := ak (Kd.R_elder' (rT HO479 BK481 (by decide)) (Kd.R_base ho1) hb); replace BK448 := ak (blk_below (bT BK448 (nC NB448_481 nN)) hb); replace BK456 := ak (blk_below (bT BK456 (nC NB456_481 nN)) hb); replace BK469 := ak (blk_below (bT BK469 (nC NB469_481 nN)) hb); replace BK481 := ak (blk_below (g := gb481) (o := .cells #[.slice Ao156 t474.length co156, .slice Ao161 t477.length co161] 27 (0, 0)) (bW BK481) hb); replace HB := ak (below_step (lT HB (gC GE448 (gC GE456 (gC GE469 (gC GE481 gN))))) hb); (try clear hb); (try clear hk); (try clear ho0); (try clear ho1)) | ((with_reducible refine gate_dst (N := 19) rfl ?_); (try (refine gate_guard (by rfl) ?_; dsimp only)); refine bx 19 #[.slice none 0 0, .slice none 0 0] 27 ?_; intro gb489 hg w163 hbox hb; replace HO444 := rB HO444 hb; replace HO447 := rB HO447 hb; replace HO451 := rB HO451 hb; replace HO454 := rB HO454 hb; replace HO463 := rB HO463 hb; replace HO466 := rB HO466 hb; replace HO476 := rB HO476 hb; replace HO479 := rB HO479 hb; replace HO484 := rB HO484 hb; replace HO487 := rB HO487 hb; replace BK489 := ak (hbox); replace GW489 := ak (bz hg (lT HB (gC GE448 (gC GE456 (gC GE469 (gC GE481 gN)))))); replace GE489 := ak (bz hg (lT HB (gC GE448 (gC GE456 (gC GE469 (gC GE481 gN)))))); replace HB := ak (below_step (lT HB (gC GE448 (gC GE456 (gC GE469 (gC GE481 gN))))) hb); replace NB448_489 := ak (nl hg (bG BK448)); replace NB489_448 := ak (ng hg (bG BK448)); replace BK448 := bB BK448 hb; replace NB456_489 := ak (nl hg (bG BK456)); replace NB489_456 := ak (ng hg (bG BK456)); replace BK456 := bB BK456 hb; replace NB469_489 := ak (nl hg (bG BK469)); replace NB489_469 := ak (ng hg (bG BK469)); replace BK469 := bB BK469 hb; replace NB481_489 := ak (nl hg (bG BK481)); replace NB489_481 := ak (ng hg (bG BK481)); replace BK481 := bB BK481 hb; clear hb hbox hg; obtain ⟨Ao164, co164, eo164⟩ := Kd.R_slice HO484.out; subst eo164; have hnb165 := NB489_448.out; have hnc165 := NB448_489.out; have hnb166 := NB489_456.out; have hnc166 := NB456_489.out; have hnb167 := NB489_469.out; have hnc167 := NB469_489.out; have hnb168 := NB489_481.out; have hnc168 := NB481_489.out; obtain ⟨hcz169_0, hcz169_1, hfz169_0, hfz169_1⟩ := bC2 BK489; obtain ⟨Ao170, co170, eo170⟩ := Kd.R_slice HO487.out; subst eo170))
 have n0_ : Aside0 (Kd.R Kd.string 9 ((w163.setCell ⟨gb489, 0, none⟩ (.slice Ao164 t482.length co164)).setCell ⟨gb489, 1, none⟩ (.slice Ao170 t485.length co170)) w.heap.size (fun k_ => some k_ ≠ (.slice Ao137 t449.length co137 : Value).ownBlock ∧ some k_ ≠ (.slice Ao146 t461.length co146 : Value).ownBlock ∧ some k_ ≠ (.slice Ao156 t474.length co156 : Value).ownBlock ∧ some k_ ≠ (.slice Ao164 t482.length co164 : Value).ownBlock) (.slice Ao132 t442.length co132) t442) := ⟨by (with_reducible repeat (first | apply Kd.R_alloc | apply Kd.R_drewN | apply Kd.R_drew)); exact Kd.R_mono (Kd.R_far (p := ⟨gb489, 1, none⟩) (Kd.R_far (p := ⟨gb489, 0, none⟩) (Kd.R_types HO444.out BK489.out (by decide)) (fun _ hk => hk.2) (.slice Ao164 t482.length co164)) (fun _ hk => hk.2) (.slice Ao170 t485.length co170)) (fun _ hk => ⟨hk.1.1.1.1.2, ⟨hk.1.1.1.2, ⟨hk.1.1.2, hk.1.2⟩⟩⟩)⟩
 have n1_ : Aside0 (Kd.R k63 63 ((w163.setCell ⟨gb489, 0, none⟩ (.slice Ao164 t482.length co164)).setCell ⟨gb489, 1, none⟩ (.slice Ao170 t485.length co170)) w.heap.size (fun k_ => some k_ ≠ (.slice Ao140 t452.length co140 : Value).ownBlock ∧ some k_ ≠ (.slice Ao150 t464.length co150 : Value).ownBlock ∧ some k_ ≠ (.slice Ao161 t477.length co161 : Value).ownBlock ∧ some k_ ≠ (.slice Ao170 t485.length co170 : Value).ownBlock) (.slice Ao134 t445.length co134) t445) := ⟨by (with_reducible repeat (first | apply Kd.R_alloc | apply Kd.R_drewN | apply Kd.R_drew)); exact Kd.R_mono (Kd.R_far (p := ⟨gb489, 1, none⟩) (Kd.R_far (p := ⟨gb489, 0, none⟩) (Kd.R_types HO447.out BK489.out (by decide)) (fun _ hk => hk.2) (.slice Ao164 t482.length co164)) (fun _ hk => hk.2) (.slice Ao170 t485.length co170)) (fun _ hk => ⟨hk.1.1.1.1.2, ⟨hk.1.1.1.2, ⟨hk.1.1.2, hk.1.2⟩⟩⟩)⟩
 have n2_ : Aside0 (Kd.R Kd.string 9 ((w163.setCell ⟨gb489, 0, none⟩ (.slice Ao164 t482.length co164)).setCell ⟨gb489, 1, none⟩ (.slice Ao170 t485.length co170)) w.heap.size (fun k_ => some k_ ≠ (.slice Ao132 t442.length co132 : Value).ownBlock ∧ some k_ ≠ (.slice Ao146 t461.length co146 : Value).ownBlock ∧ some k_ ≠ (.slice Ao156 t474.length co156 : Value).ownBlock ∧ some k_ ≠ (.slice Ao164 t482.length co164 : Value).ownBlock) (.slice Ao137 t449.length co137) t449) := ⟨by (with_reducible repeat (first | apply Kd.R_alloc | apply Kd.R_drewN | apply Kd.R_drew)); exact Kd.R_mono (Kd.R_far (p := ⟨gb489, 1, none⟩) (Kd.R_far (p := ⟨gb489, 0, none⟩) (Kd.R_types HO451.out BK489.out (by decide)) (fun _ hk => hk.2) (.slice Ao164 t482.length co164)) (fun _ hk => hk.2) (.slice Ao170 t485.length co170)) (fun _ hk => ⟨hk.1.1.1.1.2, ⟨hk.1.1.1.2, ⟨hk.1.1.2, hk.1.2⟩⟩⟩)⟩
 have n3_ : Aside0 (Kd.R k63 63 ((w163.setCell ⟨gb489, 0, none⟩ (.slice Ao164 t482.length co164)).setCell ⟨gb489, 1, none⟩ (.slice Ao170 t485.length co170)) w.heap.size (fun k_ => some k_ ≠ (.slice Ao134 t445.length co134 : Value).ownBlock ∧ some k_ ≠ (.slice Ao150 t464.length co150 : Value).ownBlock ∧ some k_ ≠ (.slice Ao161 t477.length co161 : Value).ownBlock ∧ some k_ ≠ (.slice Ao170 t485.length co170 : Value).ownBlock) (.slice Ao140 t452.length co140) t452) := ⟨by (with_reducible repeat (first | apply Kd.R_alloc | apply Kd.R_drewN | apply Kd.R_drew)); exact Kd.R_mono (Kd.R_far (p := ⟨gb489, 1, none⟩) (Kd.R_far (p := ⟨gb489, 0, none⟩) (Kd.R_types HO454.out BK489.out (by decide)) (fun _ hk => hk.2) (.slice Ao164 t482.length co164)) (fun _ hk => hk.2) (.slice Ao170 t485.length co170)) (fun _ hk => ⟨hk.1.1.1.1.2, ⟨hk.1.1.1.2, ⟨hk.1.1.2, hk.1.2⟩⟩⟩)⟩
 have n4_ : Aside0 (Kd.R Kd.string 9 ((w163.setCell ⟨gb489, 0, none⟩ (.slice Ao164 t482.length co164)).setCell ⟨gb489, 1, none⟩ (.slice Ao170 t485.length co170)) w.heap.size (fun k_ => some k_ ≠ (.slice Ao132 t442.length co132 : Value).ownBlock ∧ some k_ ≠ (.slice Ao137 t449.length co137 : Value).ownBlock ∧ some k_ ≠ (.slice Ao156 t474.length co156 : Value).ownBlock ∧ some k_ ≠ (.slice Ao164 t482.length co164 : Value).ownBlock) (.slice Ao146 t461.length co146) t461) := ⟨by (with_reducible repeat (first | apply Kd.R_alloc | apply Kd.R_drewN | apply Kd.R_drew)); exact Kd.R_mono (Kd.R_far (p := ⟨gb489, 1, none⟩) (Kd.R_far (p := ⟨gb489, 0, none⟩) (Kd.R_types HO463.out BK489.out (by decide)) (fun _ hk => hk.2) (.slice Ao164 t482.length co164)) (fun _ hk => hk.2) (.slice Ao170 t485.length co170)) (fun _ hk => ⟨hk.1.1.1.1.2, ⟨hk.1.1.1.2, ⟨hk.1.1.2, hk.1.2⟩⟩⟩)⟩
 have n5_ : Aside0 (Kd.R k63 63 ((w163.setCell ⟨gb489, 0, none⟩ (.slice Ao164 t482.length co164)).setCell ⟨gb489, 1, none⟩ (.slice Ao170 t485.length co170)) w.heap.size (fun k_ => some k_ ≠ (.slice Ao134 t445.length co134 : Value).ownBlock ∧ some k_ ≠ (.slice Ao140 t452.length co140 : Value).ownBlock ∧ some k_ ≠ (.slice Ao161 t477.length co161 : Value).ownBlock ∧ some k_ ≠ (.slice Ao170 t485.length co170 : Value).ownBlock) (.slice Ao150 t464.length co150) t464) := ⟨by (with_reducible repeat (first | apply Kd.R_alloc | apply Kd.R_drewN | apply Kd.R_drew)); exact Kd.R_mono (Kd.R_far (p := ⟨gb489, 1, none⟩) (Kd.R_far (p := ⟨gb489, 0, none⟩) (Kd.R_types HO466.out BK489.out (by decide)) (fun _ hk => hk.2) (.slice Ao164 t482.length co164)) (fun _ hk => hk.2) (.slice Ao170 t485.length co170)) (fun _ hk => ⟨hk.1.1.1.1.2, ⟨hk.1.1.1.2, ⟨hk.1.1.2, hk.1.2⟩⟩⟩)⟩
 have n6_ : Aside0 (Kd.R Kd.string 9 ((w163.setCell ⟨gb489, 0, none⟩ (.slice Ao164 t482.length co164)).setCell ⟨gb489, 1, none⟩ (.slice Ao170 t485.length co170)) w.heap.size (fun k_ => some k_ ≠ (.slice Ao132 t442.length co132 : Value).ownBlock ∧ some k_ ≠ (.slice Ao137 t449.length co137 : Value).ownBlock ∧ some k_ ≠ (.slice Ao146 t461.length co146 : Value).ownBlock ∧ some k_ ≠ (.slice Ao164 t482.length co164 : Value).ownBlock) (.slice Ao156 t474.length co156) t474) := ⟨by (with_reducible repeat (first | apply Kd.R_alloc | apply Kd.R_drewN | apply Kd.R_drew)); exact Kd.R_mono (Kd.R_far (p := ⟨gb489, 1, none⟩) (Kd.R_far (p := ⟨gb489, 0, none⟩) (Kd.R_types HO476.out BK489.out (by decide)) (fun _ hk => hk.2) (.slice Ao164 t482.length co164)) (fun _ hk => hk.2) (.slice Ao170 t485.length co170)) (fun _ hk => ⟨hk.1.1.1.1.2, ⟨hk.1.1.1.2, ⟨hk.1.1.2, hk.1.2⟩⟩⟩)⟩
 have n7_ : Aside0 (Kd.R k63 63 ((w163.setCell ⟨gb489, 0, none⟩ (.slice Ao164 t482.length co164)).setCell ⟨gb489, 1, none⟩ (.slice Ao170 t485.length co170)) w.heap.size (fun k_ => some k_ ≠ (.slice Ao134 t445.length co134 : Value).ownBlock ∧ some k_ ≠ (.slice Ao140 t452.length co140 : Value).ownBlock ∧ some k_ ≠ (.slice Ao150 t464.length co150 : Value).ownBlock ∧ some k_ ≠ (.slice Ao170 t485.length co170 : Value).ownBlock) (.slice Ao161 t477.length co161) t477) := ⟨by (with_reducible repeat (first | apply Kd.R_alloc | apply Kd.R_drewN | apply Kd.R_drew)); exact Kd.R_mono (Kd.R_far (p := ⟨gb489, 1, none⟩) (Kd.R_far (p := ⟨gb489, 0, none⟩) (Kd.R_types HO479.out BK489.out (by decide)) (fun _ hk => hk.2) (.slice Ao164 t482.length co164)) (fun _ hk => hk.2) (.slice Ao170 t485.length co170)) (fun _ hk => ⟨hk.1.1.1.1.2, ⟨hk.1.1.1.2, ⟨hk.1.1.2, hk.1.2⟩⟩⟩)⟩
 have n8_ : Aside0 (Kd.R Kd.string 9 ((w163.setCell ⟨gb489, 0, none⟩ (.slice Ao164 t482.length co164)).setCell ⟨gb489, 1, none⟩ (.slice Ao170 t485.length co170)) w.heap.size (fun k_ => some k_ ≠ (.slice Ao132 t442.length co132 : Value).ownBlock ∧ some k_ ≠ (.slice Ao137 t449.length co137 : Value).ownBlock ∧ some k_ ≠ (.slice Ao146 t461.length co146 : Value).ownBlock ∧ some k_ ≠ (.slice Ao156 t474.length co156 : Value).ownBlock) (.slice Ao164 t482.length co164) t482) := ⟨by (with_reducible repeat (first | apply Kd.R_alloc | apply Kd.R_drewN | apply Kd.R_drew)); exact Kd.R_mono (Kd.R_far (p := ⟨gb489, 1, none⟩) (Kd.R_far (p := ⟨gb489, 0, none⟩) (Kd.R_types HO484.out BK489.out (by decide)) (fun _ hk => hk.2) (.slice Ao164 t482.length co164)) (fun _ hk => hk.2) (.slice Ao170 t485.length co170)) (fun _ hk => ⟨hk.1.1.1.1.2, ⟨hk.1.1.1.2, ⟨hk.1.1.2, hk.1.2⟩⟩⟩)⟩
 have n9_ : Aside0 (Kd.R k63 63 ((w163.setCell ⟨gb489, 0, none⟩ (.slice Ao164 t482.length co164)).setCell ⟨gb489, 1, none⟩ (.slice Ao170 t485.length co170)) w.heap.size (fun k_ => some k_ ≠ (.slice Ao134 t445.length co134 : Value).ownBlock ∧ some k_ ≠ (.slice Ao140 t452.length co140 : Value).ownBlock ∧ some k_ ≠ (.slice Ao150 t464.length co150 : Value).ownBlock ∧ some k_ ≠ (.slice Ao161 t477.length co161 : Value).ownBlock) (.slice Ao170 t485.length co170) t485) := ⟨by (with_reducible repeat (first | apply Kd.R_alloc | apply Kd.R_drewN | apply Kd.R_drew)); exact Kd.R_mono (Kd.R_far (p := ⟨gb489, 1, none⟩) (Kd.R_far (p := ⟨gb489, 0, none⟩) (Kd.R_types HO487.out BK489.out (by decide)) (fun _ hk => hk.2) (.slice Ao164 t482.length co164)) (fun _ hk => hk.2) (.slice Ao170 t485.length co170)) (fun _ hk => ⟨hk.1.1.1.1.2, ⟨hk.1.1.1.2, ⟨hk.1.1.2, hk.1.2⟩⟩⟩)⟩
 have n10_ : Aside0 (((w163.setCell ⟨gb489, 0, none⟩ (.slice Ao164 t482.length co164)).setCell ⟨gb489, 1, none⟩ (.slice Ao170 t485.length co170)).heap[gb448]? = some (.cells #[.slice Ao132 t442.length co132, .slice Ao134 t445.length co134] 27 (0, 0))) := ⟨by (with_reducible repeat (first | refine blk_drewN ?_ _ | refine blk_drew ?_ | refine blk_alloc ?_ _)); refine blk_far ?_ NB448_489.out _; (with_reducible repeat (first | refine blk_drewN ?_ _ | refine blk_drew ?_ | refine blk_alloc ?_ _)); refine blk_far ?_ NB448_489.out _; (with_reducible repeat (first | refine blk_drewN ?_ _ | refine blk_drew ?_ | refine blk_alloc ?_ _)); exact BK448.out⟩
 have n11_ : Aside0 (((w163.setCell ⟨gb489, 0, none⟩ (.slice Ao164 t482.length co164)).setCell ⟨gb489, 1, none⟩ (.slice Ao170 t485.length co170)).heap[gb456]? = some (.cells #[.slice Ao137 t449.length co137, .slice Ao140 t452.length co140] 27 (0, 0))) := ⟨by (with_reducible repeat (first | refine blk_drewN ?_ _ | refine blk_drew ?_ | refine blk_alloc ?_ _)); refine blk_far ?_ NB456_489.out _; (with_reducible repeat (first | refine blk_drewN ?_ _ | refine blk_drew ?_ | refine blk_alloc ?_ _)); refine blk_far ?_ NB456_489.out _; (with_reducible repeat (first | refine blk_drewN ?_ _ | refine blk_drew ?_ | refine blk_alloc ?_ _)); exact BK456.out⟩
 have n12_ : Aside0 (((w163.setCell ⟨gb489, 0, none⟩ (.slice Ao164 t482.length co164)).setCell ⟨gb489, 1, none⟩ (.slice Ao170 t485.length co170)).heap[gb469]? = some (.cells #[.slice Ao146 t461.length co146, .slice Ao150 t464.length co150] 27 (0, 0))) := ⟨by (with_reducible repeat (first | refine blk_drewN ?_ _ | refine blk_drew ?_ | refine blk_alloc ?_ _)); refine blk_far ?_ NB469_489.out _; (with_reducible repeat (first | refine blk_drewN ?_ _ | refine blk_drew ?_ | refine blk_alloc ?_ _)); refine blk_far ?_ NB469_489.out _; (with_reducible repeat (first | refine blk_drewN ?_ _ | refine blk_drew ?_ | refine blk_alloc ?_ _)); exact BK469.out⟩
 have n13_ : Aside0 (((w163.setCell ⟨gb489, 0, none⟩ (.slice Ao164 t482.length co164)).setCell ⟨gb489, 1, none⟩ (.slice Ao170 t485.length co170)).heap[gb481]? = some (.cells #[.slice Ao156 t474.length co156, .slice Ao161 t477.length co161] 27 (0, 0))) := ⟨by (with_reducible repeat (first | refine blk_drewN ?_ _ | refine blk_drew ?_ | refine blk_alloc ?_ _)); refine blk_far ?_ NB481_489.out _; (with_reducible repeat (first | refine blk_drewN ?_ _ | refine blk_drew ?_ | refine blk_alloc ?_ _)); refine blk_far ?_ NB481_489.out _; (with_reducible repeat (first | refine blk_drewN ?_ _ | refine blk_drew ?_ | refine blk_alloc ?_ _)); exact BK481.out⟩
 have n14_ : Aside0 (((w163.setCell ⟨gb489, 0, none⟩ (.slice Ao164 t482.length co164)).setCell ⟨gb489, 1, none⟩ (.slice Ao170 t485.length co170)).heap[gb489]? = some (.cells #[.slice Ao164 t482.length co164, .slice Ao170 t485.length co170] 27 (0, 0))) := ⟨bW BK489⟩
 have n15_ : Aside0 (Below w.heap.size w ((w163.setCell ⟨gb489, 0, none⟩ (.slice Ao164 t482.length co164)).setCell ⟨gb489, 1, none⟩ (.slice Ao170 t485.length co170))) := ⟨by exact lT HB (gC GE448 (gC GE456 (gC GE469 (gC GE481 (gC GE489 gN)))))⟩
 (try clear HO444)
 (try clear HO447)
 (try clear HO451)
 (try clear HO454)
 (try clear HO463)
 (try clear HO466)
 (try clear HO476)
 (try clear HO479)
 (try clear HO484)
 (try clear HO487)
 (try clear BK448)
 (try clear BK456)
 (try clear BK469)
 (try clear BK481)
 (try clear BK489)
 (try clear HB)
 generalize ((w163.setCell ⟨gb489, 0, none⟩ (.slice Ao164 t482.length co164)).setCell ⟨gb489, 1, none⟩ (.slice Ao170 t485.length co170)) = w171 at n0_ n1_ n2_ n3_ n4_ n5_ n6_ n7_ n8_ n9_ n10_ n11_ n12_ n13_ n14_ n15_ ⊢
 have HO444 := n0_
 have HO447 := n1_
 have HO451 := n2_
 have HO454 := n3_
 have HO463 := n4_
 have HO466 := n5_
 have HO476 := n6_
 have HO479 := n7_
 have HO484 := n8_
 have HO487 := n9_
 have BK448 := n10_
 have BK456 := n11_
 have BK469 := n12_
 have BK481 := n13_
 have BK489 := n14_
 have HB := n15_
 clear n0_ n1_ n2_ n3_ n4_ n5_ n6_ n7_ n8_ n9_ n10_ n11_ n12_ n13_ n14_ n15_
 replace HO444 := ak (Kd.R_drew HO444.out)
 replace HO447 := ak (Kd.R_drew HO447.out)
 replace HO451 := ak (Kd.R_drew HO451.out)
 replace HO454 := ak (Kd.R_drew HO454.out)
 replace HO463 := ak (Kd.R_drew HO463.out)
 replace HO466 := ak (Kd.R_drew HO466.out)
 replace HO476 := ak (Kd.R_drew HO476.out)
 replace HO479 := ak (Kd.R_drew HO479.out)
 replace HO484 := ak (Kd.R_drew HO484.out)
 replace HO487 := ak (Kd.R_drew HO487.out)
 replace BK448 := ak (blk_drew BK448.out)
 replace BK456 := ak (blk_drew BK456.out)
 replace BK469 := ak (blk_drew BK469.out)
 replace BK481 := ak (blk_drew BK481.out)
 replace BK489 := ak (blk_drew BK489.out)
 replace HB := ak (below_drew1 HB.out)
 refine start_ (n := 46) (S := fun w' => w'.cell? ⟨gb448, 0, none⟩ = some (.slice Ao132 t442.length co132) ∧ w'.cell? ⟨gb448, 1, none⟩ = some (.slice Ao134 t445.length co134)) (ds := []) #[f_,f_,f_,f_,f_,f_,f_,f_,f_,f_,f_,f_,f_,f_,f_,f_,f_,f_,f_,f_,f_,f_,f_,f_,f_,f_,f_,f_,f_,f_,f_,f_,f_,f_,f_,f_,f_,f_,f_,f_,f_,f_,f_,f_,f_,f_] (by kernel_rfl) rfl rfl ⟨bc BK448 0, bc BK448 1⟩ (fun hHeld => ?_); refine with_tabW laws_FnDisksTold.tab12 laws_FnDisksTold.bits12 (fun HT_ HW_ => ?_)
 generalize w171.drew = w172 at HO444 HO447 HO451 HO454 HO463 HO466 HO476 HO479 HO484 HO487 BK448 BK456 BK469 BK481 BK489 HB hHeld ⊢
 refine tk 0 70 (fb 46 1) HT_ HW_ hHeld ?_
 refine tk 2 72 (fb 46 5) HT_ HW_ hHeld ?_
 refine on 1 (some 71) (fb 46 7) HT_ (fun K hK => ?_)
 refine goes_ Try.func16 (by kernel_rfl) rfl #[.agg #[.slice Ao132 t442.length co132, .slice Ao134 t445.length co134]] (by rfl) rfl rfl (by (try simp only [List.map_toArray, List.map_cons, List.map_nil]); first | done | rfl | (simp only [List.length_drop, List.length_take]; rfl)) ?_
 with_reducible refine (impl_DiskOk.calls _ _ t442 _ _ t445 t490 _ ?side1 ?side2 ?side3 ?side4 A13.out).mono ?_
 (case side1 => exact cG (Kd.R_reads' HO444.out).2.2)
 (case side2 => exact (Kd.R_reads' HO444.out).2.1)
 (case side3 => exact cG (Kd.R_reads' HO447.out).2.2)
 (case side4 => exact (Kd.R_reads' HO447.out).2.1)
 rintro e w173 ⟨rfl, hb⟩
 refine ⟨_, rfl, ?_⟩
 replace HO444 := rB HO444 hb
 replace HO447 := rB HO447 hb
 replace HO451 := rB HO451 hb
 replace HO454 := rB HO454 hb
 replace HO463 := rB HO463 hb
 replace HO466 := rB HO466 hb
 replace HO476 := rB HO476 hb
 replace HO479 := rB HO479 hb
 replace HO484 := rB HO484 hb
 replace HO487 := rB HO487 hb
 replace BK448 := bB BK448 hb
 replace BK456 := bB BK456 hb
 replace BK469 := bB BK469 hb
 replace BK481 := bB BK481 hb
 replace BK489 := bB BK489 hb
 replace HB := ak (below_step (lT HB (gC GE448 (gC GE456 (gC GE469 (gC GE481 (gC GE489 gN)))))) hb)
 (try clear hb)
 (try clear hb2)
 (try clear hk)
 (try clear hi)
 refine hK.out _ _ ⟨bc BK448 0, bc BK448 1⟩ (fun hHeld => ?_)
 clear hK K
 refine nm ?_
 refine on 3 (some 73) (fb 46 15) HT_ (fun K hK => ?_)
 refine goes_ Try.func35 (by kernel_rfl) rfl #[.agg #[.slice Ao132 t442.length co132, .slice Ao134 t445.length co134]] (by rfl) rfl rfl (by (try simp only [List.map_toArray, List.map_cons, List.map_nil]); first | done | rfl | (simp only [List.length_drop, List.length_take]; rfl)) ?_
 with_reducible refine (spec_DiskOk.calls k _ _ t442 _ _ t445 t491 _ ?side1 ?side2 ?side3 ?side4 A14.out).mono ?_
 (case side1 => exact cG (Kd.R_reads' HO444.out).2.2)
 (case side2 => exact (Kd.R_reads' HO444.out).2.1)
 (case side3 => exact cG (Kd.R_reads' HO447.out).2.2)
 (case side4 => exact (Kd.R_reads' HO447.out).2.1)
 rintro e w174 ⟨rfl, hb⟩
 refine ⟨_, rfl, ?_⟩
 replace HO444 := rB HO444 hb
 replace HO447 := rB HO447 hb
 replace HO451 := rB HO451 hb
 replace HO454 := rB HO454 hb
 replace HO463 := rB HO463 hb
 replace HO466 := rB HO466 hb
 replace HO476 := rB HO476 hb
 replace HO479 := rB HO479 hb
 replace HO484 := rB HO484 hb
 replace HO487 := rB HO487 hb
 replace BK448 := bB BK448 hb
 replace BK456 := bB BK456 hb
 replace BK469 := bB BK469 hb
 replace BK481 := bB BK481 hb
 replace BK489 := bB BK489 hb
 replace HB := ak (below_step (lT HB (gC GE448 (gC GE456 (gC GE469 (gC GE481 (gC GE489 gN)))))) hb)
 (try clear hb)
 (try clear hb2)
 (try clear hk)
 (try clear hi)
 refine hK.out _ _ ⟨bc BK448 0, bc BK448 1⟩ (fun hHeld => ?_)
 clear hK K
 refine nm ?_
 refine pu 4 74 (fb 46 31) HT_ ?_
 refine pu 5 75 (fb 46 63) HT_ ?_
 refine pu 6 76 (fb 46 127) HT_ ?_
 refine pu 7 77 (fb 46 255) HT_ ?_
 refine pu 8 78 (fb 46 511) HT_ ?_
 refine pu 9 79 (fb 46 1023) HT_ ?_
 refine pu 10 80 (fb 46 2047) HT_ ?_
 refine pu 11 81 (fb 46 4095) HT_ ?_
 refine pu 12 82 (fb 46 8191) HT_ ?_
 refine pu 13 83 (fb 46 16383) HT_ ?_
 refine pu 14 84 (fb 46 32767) HT_ ?_
 refine pu 15 85 (fb 46 65535) HT_ ?_
 refine pu 16 86 (fb 46 131071) HT_ ?_
 refine pu 17 87 (fb 46 262143) HT_ ?_
 refine pu 18 88 (fb 46 524287) HT_ ?_
 refine pu 19 89 (fb 46 1048575) HT_ ?_
 refine pu 20 90 (fb 46 2097151) HT_ ?_
 refine pu 21 91 (fb 46 4194303) HT_ ?_
 refine pu 22 92 (fb 46 8388607) HT_ ?_
 refine pu 23 93 (fb 46 16777215) HT_ ?_
 refine pu 24 94 (fb 46 33554431) HT_ ?_
 refine pu 25 95 (fb 46 67108863) HT_ ?_
 refine tk 26 96 (fb 46 134217727) HT_ HW_ hHeld ?_
 refine tk 28 98 (fb 46 402653183) HT_ HW_ hHeld ?_
 refine on 27 (some 97) (fb 46 536870911) HT_ (fun K hK => ?_)
 refine goes_ Try.func13 (by kernel_rfl) rfl #[.agg #[.slice Ao132 t442.length co132, .slice Ao134 t445.length co134]] (by rfl) rfl rfl (by (try simp only [List.map_toArray, List.map_cons, List.map_nil]); first | done | rfl | (simp only [List.length_drop, List.length_take]; rfl)) ?_
 with_reducible refine (impl_FlushDisk.calls k _ _ t442 _ _ t445 t492 t495 _ ?side1 ?side2 ?side3 ?side4 A20.out).mono ?_
 (case side1 => exact cG (Kd.R_reads' HO444.out).2.2)
 (case side2 => exact (Kd.R_reads' HO444.out).2.1)
 (case side3 => exact cG (Kd.R_reads' HO447.out).2.2)
 (case side4 => exact (Kd.R_reads' HO447.out).2.1)
 rintro e w175 ⟨v493, v496, rfl, ho0, ho1, hb⟩
 refine ⟨_, rfl, ?_⟩
 replace HO494 := ak (Kd.R_lower (Kd.R_new' (Kd.R_new' (Kd.R_new' (Kd.R_new' (Kd.R_new' ho0 (Kd.R_lt (rG HO444))) (Kd.R_lt (rG HO451))) (Kd.R_lt (rG HO463))) (Kd.R_lt (rG HO476))) (Kd.R_lt (rG HO484))) (below_size (lT HB (gC GE448 (gC GE456 (gC GE469 (gC GE481 (gC GE489 gN))))))))
 replace HO444 := ak (Kd.R_elder' (rG HO444) (Kd.R_base ho0) hb)
 replace HO451 := ak (Kd.R_elder' (rG HO451) (Kd.R_base ho0) hb)
 replace HO463 := ak (Kd.R_elder' (rG HO463) (Kd.R_base ho0) hb)
 replace HO476 := ak (Kd.R_elder' (rG HO476) (Kd.R_base ho0) hb)
 replace HO484 := ak (Kd.R_elder' (rG HO484) (Kd.R_base ho0) hb)
 replace HO497 := ak (Kd.R_lower (Kd.R_new' (Kd.R_new' (Kd.R_new' (Kd.R_new' (Kd.R_new' ho1 (Kd.R_lt (rG HO447))) (Kd.R_lt (rG HO454))) (Kd.R_lt (rG HO466))) (Kd.R_lt (rG HO479))) (Kd.R_lt (rG HO487))) (below_size (lT HB (gC GE448 (gC GE456 (gC GE469 (gC GE481 (gC GE489 gN))))))))
 replace HO447 := ak (Kd.R_elder' (rG HO447) (Kd.R_base ho1) hb)
 replace HO454 := ak (Kd.R_elder' (rG HO454) (Kd.R_base ho1) hb)
 replace HO466 := ak (Kd.R_elder' (rG HO466) (Kd.R_base ho1) hb)
 replace HO479 := ak (Kd.R_elder' (rG HO479) (Kd.R_base ho1) hb)
 replace HO487 := ak (Kd.R_elder' (rG HO487) (Kd.R_base ho1) hb)
 replace BK448 := bB BK448 hb
 replace BK456 := bB BK456 hb
 replace BK469 := bB BK469 hb
 replace BK481 := bB BK481 hb
 replace BK489 := bB BK489 hb
 replace HB := ak (below_step (lT HB (gC GE448 (gC GE456 (gC GE469 (gC GE481 (gC GE489 gN)))))) hb)
 (try clear hb)
 (try clear hb2)
 (try clear hk)
 (try clear hi)
 (try clear ho0)
 (try clear ho1)
 refine hK.out _ _ ⟨bc BK448 0, bc BK448 1⟩ (fun hHeld => ?_)
 clear hK K
 refine nm ?_
 refine on 29 (some 99) (fb 46 1073741823) HT_ (fun K hK => ?_)
 refine goes_ Try.func36 (by kernel_rfl) rfl #[.agg #[.slice Ao132 t442.length co132, .slice Ao134 t445.length co134]] (by rfl) rfl rfl (by (try simp only [List.map_toArray, List.map_cons, List.map_nil]); first | done | rfl | (simp only [List.length_drop, List.length_take]; rfl)) ?_
 with_reducible refine (spec_FlushDisk.calls k _ _ t442 _ _ t445 t498 t501 _ ?side1 ?side2 ?side3 ?side4 A21.out).mono ?_
 (case side1 => exact cG (Kd.R_reads' HO444.out).2.2)
 (case side2 => exact (Kd.R_reads' HO444.out).2.1)
 (case side3 => exact cG (Kd.R_reads' HO447.out).2.2)
 (case side4 => exact (Kd.R_reads' HO447.out).2.1)
 rintro e w176 ⟨v499, v502, rfl, ho0, ho1, hb⟩
 refine ⟨_, rfl, ?_⟩
 replace HO500 := ak (Kd.R_lower (Kd.R_new' (Kd.R_new' (Kd.R_new' (Kd.R_new' (Kd.R_new' (Kd.R_new' ho0 (Kd.R_lt (rG HO444))) (Kd.R_lt (rG HO451))) (Kd.R_lt (rG HO463))) (Kd.R_lt (rG HO476))) (Kd.R_lt (rG HO484))) (Kd.R_lt (rG HO494))) (below_size (lT HB (gC GE448 (gC GE456 (gC GE469 (gC GE481 (gC GE489 gN))))))))
 replace HO444 := ak (Kd.R_elder' (rG HO444) (Kd.R_base ho0) hb)
 replace HO451 := ak (Kd.R_elder' (rG HO451) (Kd.R_base ho0) hb)
 replace HO463 := ak (Kd.R_elder' (rG HO463) (Kd.R_base ho0) hb)
 replace HO476 := ak (Kd.R_elder' (rG HO476) (Kd.R_base ho0) hb)
 replace HO484 := ak (Kd.R_elder' (rG HO484) (Kd.R_base ho0) hb)
 replace HO494 := ak (Kd.R_elder' (rG HO494) (Kd.R_base ho0) hb)
 replace HO503 := ak (Kd.R_lower (Kd.R_new' (Kd.R_new' (Kd.R_new' (Kd.R_new' (Kd.R_new' (Kd.R_new' ho1 (Kd.R_lt (rG HO447))) (Kd.R_lt (rG HO454))) (Kd.R_lt (rG HO466))) (Kd.R_lt (rG HO479))) (Kd.R_lt (rG HO487))) (Kd.R_lt (rG HO497))) (below_size (lT HB (gC GE448 (gC GE456 (gC GE469 (gC GE481 (gC GE489 gN))))))))
 replace HO447 := ak (Kd.R_elder' (rG HO447) (Kd.R_base ho1) hb)
 replace HO454 := ak (Kd.R_elder' (rG HO454) (Kd.R_base ho1) hb)
 replace HO466 := ak (Kd.R_elder' (rG HO466) (Kd.R_base ho1) hb)
 replace HO479 := ak (Kd.R_elder' (rG HO479) (Kd.R_base ho1) hb)
 replace HO487 := ak (Kd.R_elder' (rG HO487) (Kd.R_base ho1) hb)
 replace HO497 := ak (Kd.R_elder' (rG HO497) (Kd.R_base ho1) hb)
 replace BK448 := bB BK448 hb
 replace BK456 := bB BK456 hb
 replace BK469 := bB BK469 hb
 replace BK481 := bB BK481 hb
 replace BK489 := bB BK489 hb
 replace HB := ak (below_step (lT HB (gC GE448 (gC GE456 (gC GE469 (gC GE481 (gC GE489 gN)))))) hb)
 (try clear hb)
 (try clear hb2)
 (try clear hk)
 (try clear hi)
 (try clear ho0)
 (try clear ho1)
 obtain ⟨Ao177, co177, eo177⟩ := Kd.R_slice HO494.out
 (first | subst eo177 | (injection eo177 with f1_ f2_ f3_; have f4_ := f1_.symm; have f5_ := f3_.symm; clear f1_ f2_ f3_; subst f4_; subst f5_))
 obtain ⟨Ao178, co178, eo178⟩ := Kd.R_slice HO497.out
 (first | subst eo178 | (injection eo178 with f1_ f2_ f3_; have f4_ := f1_.symm; have f5_ := f3_.symm; clear f1_ f2_ f3_; subst f4_; subst f5_))
 obtain ⟨Ao179, co179, eo179⟩ := Kd.R_slice HO500.out
 (first | subst eo179 | (injection eo179 with f1_ f2_ f3_; have f4_ := f1_.symm; have f5_ := f3_.symm; clear f1_ f2_ f3_; subst f4_; subst f5_))
 obtain ⟨Ao180, co180, eo180⟩ := Kd.R_slice HO503.out
 (first | subst eo180 | (injection eo180 with f1_ f2_ f3_; have f4_ := f1_.symm; have f5_ := f3_.symm; clear f1_ f2_ f3_; subst f4_; subst f5_))
 refine hK.out _ _ ⟨bc BK448 0, bc BK448 1⟩ (fun hHeld => ?_)
 clear hK K
 refine nm ?_
 refine on 30 (some 100) (fb 46 2147483647) HT_ (fun K hK => ?_)
 refine goes_ Try.func20 (by kernel_rfl) rfl #[.agg #[.slice Ao177 t492.length co177, .slice Ao178 t495.length co178], .agg #[.slice Ao179 t498.length co179, .slice Ao180 t501.length co180]] (by rfl) rfl rfl (by (try simp only [List.map_toArray, List.map_cons, List.map_nil]); first | done | rfl | (simp only [List.length_drop, List.length_take]; rfl)) ?_
 with_reducible refine (laws_sameDisk.calls k _ _ t492 _ _ t495 _ _ t498 _ _ t501 true _ ?side1 ?side2 ?side3 ?side4 ?side5 ?side6 ?side7 ?side8 A22.out).mono ?_
 (case side1 => exact cG (Kd.R_reads' HO494.out).2.2)
 (case side2 => exact (Kd.R_reads' HO494.out).2.1)
 (case side3 => exact cG (Kd.R_reads' HO497.out).2.2)
 (case side4 => exact (Kd.R_reads' HO497.out).2.1)
 (case side5 => exact cG (Kd.R_reads' HO500.out).2.2)
 (case side6 => exact (Kd.R_reads' HO500.out).2.1)
 (case side7 => exact cG (Kd.R_reads' HO503.out).2.2)
 (case side8 => exact (Kd.R_reads' HO503.out).2.1)
 rintro e w181 ⟨rfl, hb⟩
 refine ⟨_, rfl, ?_⟩
 replace HO444 := rB HO444 hb
 replace HO447 := rB HO447 hb
 replace HO451 := rB HO451 hb
 replace HO454 := rB HO454 hb
 replace HO463 := rB HO463 hb
 replace HO466 := rB HO466 hb
 replace HO476 := rB HO476 hb
 replace HO479 := rB HO479 hb
 replace HO484 := rB HO484 hb
 replace HO487 := rB HO487 hb
 replace HO494 := rB HO494 hb
 replace HO497 := rB HO497 hb
 replace HO500 := rB HO500 hb
 replace HO503 := rB HO503 hb
 replace BK448 := bB BK448 hb
 replace BK456 := bB BK456 hb
 replace BK469 := bB BK469 hb
 replace BK481 := bB BK481 hb
 replace BK489 := bB BK489 hb
 replace HB := ak (below_step (lT HB (gC GE448 (gC GE456 (gC GE469 (gC GE481 (gC GE489 gN)))))) hb)
 (try clear hb)
 (try clear hb2)
 (try clear hk)
 (try clear hi)
 refine hK.out _ _ ⟨bc BK448 0, bc BK448 1⟩ (fun hHeld => ?_)
 clear hK K
 refine nm ?_
 refine pu 31 101 (fb 46 4294967295) HT_ ?_
 refine pu 32 102 (fb 46 8589934591) HT_ ?_
 refine pu 33 103 (fb 46 17179869183) HT_ ?_
 refine pu 34 104 (fb 46 34359738367) HT_ ?_
 refine pu 35 105 (fb 46 68719476735) HT_ ?_
 refine pn 36 106 (fb 46 137438953471) HT_ ?_
 refine pn 37 107 (fb 46 274877906943) HT_ ?_
 refine pu 38 108 (fb 46 549755813887) HT_ ?_
 refine pu 39 109 (fb 46 1099511627775) HT_ ?_
 refine pn 40 110 (fb 46 2199023255551) HT_ ?_
 refine pn 41 111 (fb 46 4398046511103) HT_ ?_
 refine pn 42 112 (fb 46 8796093022207) HT_ ?_
 refine pn 43 113 (fb 46 17592186044415) HT_ ?_
 refine pu 44 114 (fb 46 35184372088831) HT_ ?_
 refine pu 45 2 (fb 46 70368744177663) HT_ ?_
 refine done_ (done_of HT_.out (by kernel_rfl)) ?_
 try go_wp2
 go_ret
 exact ⟨ew, by exact lT HB (gC GE448 (gC GE456 (gC GE469 (gC GE481 (gC GE489 gN)))))⟩
set_option maxHeartbeats 8000000 in
set_option maxRecDepth 100000 in
theorem laws_FnDisksTold.leaf4 (k : Nat) (A0 : Option Addr) (c0 : Nat) (l0 : List Int) (w : World) (HR0 : Aside0 (Kd.C (Kd.int IntKind.u8) w A0 (List.length l0) l0)) (HC0 : Aside0 (List.length l0 ≤ c0)) (HB : Aside0 (Below (Array.size (World.heap w)) w w)) (A2 : Aside0 (laws_big.f l0 = some false)) (t442 : List ByteArray) (t445 : List S63) (A4 : Aside0 (spec_DrawDiskOk.f k l0 = some (t442, t445))) (t449 : List ByteArray) (t452 : List S63) (t455 : Int) (A5 : Aside0 (spec_DrawReadSector.f k l0 = some (t449, t452, t455))) (t457 : ByteArray) (t458 : Bool) (A6 : Aside0 (impl_ReadSector.f k t449 t452 t455 = some (t457, t458))) (t459 : ByteArray) (t460 : Bool) (A7 : Aside0 (spec_ReadSector.f k t449 t452 t455 = some (t459, t460))) (t461 : List ByteArray) (t464 : List S63) (t467 t468 : Int) (A8 : Aside0 (spec_DrawSectorText.f k l0 = some (t461, t464, t467, t468))) (t470 : ByteArray) (t471 : Bool) (A9 : Aside0 (impl_SectorText.f k t461 t464 t467 t468 = some (t470, t471))) (t472 : ByteArray) (t473 : Bool) (A10 : Aside0 (spec_SectorText.f k t461 t464 t467 t468 = some (t472, t473))) (t474 : List ByteArray) (t477 : List S63) (t480 : Bool) (A11 : Aside0 (impl_DiskNew.f k 3 = some (t474, t477, t480))) (t482 : List ByteArray) (t485 : List S63) (t488 : Bool) (A12 : Aside0 (impl_DiskNew.f k 0 = some (t482, t485, t488))) (t490 : Bool) (A13 : Aside0 (impl_DiskOk.f t442 t445 = some t490)) (t491 : Bool) (A14 : Aside0 (spec_DiskOk.f k t442 t445 = some t491)) (c15b0 : (t490 == t491) = true) (c15b1 : decide (t490 = t491) = true) (c15b2 : (t490 == t491) = true) (c16b0 : (t458 == t460) = true) (c16b1 : decide (t458 = t460) = true) (c16b2 : (t458 == t460) = true) (c17b0 : (ByteArray.toList t457 == ByteArray.toList t459) = true) (c17b1 : (ByteArray.toList t457 != ByteArray.toList t459) = false) (c18b0 : (t471 == t473) = true) (c18b1 : decide (t471 = t473) = true) (c18b2 : (t471 == t473) = true) (c19b0 : (ByteArray.toList t470 == ByteArray.toList t472) = true) (c19b1 : (ByteArray.toList t470 != ByteArray.toList t472) = false) (t492 : List ByteArray) (t495 : List S63) (A20 : Aside0 (impl_FlushDisk.f k t442 t445 = some (t492, t495))) (t498 : List ByteArray) (t501 : List S63) (A21 : Aside0 (spec_FlushDisk.f k t442 t445 = some (t498, t501))) (A22 : Aside0 (laws_sameDisk.f k t492 t495 t498 t501 = some false)) (H : some false = some false) : Calls Try.prog 7 #[Value.slice A0 (List.length l0) c0] w fun e w' => e = Ending.returned (Value.bool false) ∧ Below (Array.size (World.heap w)) w w' := by
 have hu27 := Try.underlying27
 go_enter Try.func7, Try.ntmps7
 try go_wp2_with (first | ((with_reducible refine gate_callee (f := 9) rfl ?_); refine gl (some 22) Try.func9 #[.slice A0 l0.length c0] ?_; (with_reducible refine (laws_big.calls _ _ l0 false _ ?side1 ?side2 A2.out).mono ?_); (case side1 => repeat (first | exact HR0.out | (with_reducible refine Kd.C_alloc ?_ _) | (with_reducible refine Kd.C_drewN ?_ _) | (with_reducible refine Kd.C_drew ?_))); (case side2 => exact HC0.out); rintro e w' ⟨rfl, ⟨nd, rfl⟩⟩; refine ⟨_, rfl, ?_⟩) | ((with_reducible refine gate_callee (f := 29) rfl ?_); refine gl (some 24) Try.func29 #[.slice A0 l0.length c0] ?_; (with_reducible refine (spec_DrawDiskOk.calls k _ _ l0 t442 t445 _ ?side1 ?side2 A4.out).mono ?_); (case side1 => repeat (first | exact HR0.out | (with_reducible refine Kd.C_alloc ?_ _) | (with_reducible refine Kd.C_drewN ?_ _) | (with_reducible refine Kd.C_drew ?_))); (case side2 => exact HC0.out); rintro e w182 ⟨v443, v446, rfl, ho0, ho1, hb⟩; refine ⟨_, rfl, ?_⟩; replace HO444 := ak (Kd.R_lower ho0 (below_size (lG HB))); replace HO447 := ak (Kd.R_lower ho1 (below_size (lG HB))); replace HB := lB HB hb; (try clear hb); (try clear hk); (try clear ho0); (try clear ho1)) | ((with_reducible refine gate_dst (N := 3) rfl ?_); (try (refine gate_guard (by rfl) ?_; dsimp only)); refine bx 3 #[.slice none 0 0, .slice none 0 0] 27 ?_; intro gb448 hg w183 hbox hb; replace HO444 := rB HO444 hb; replace HO447 := rB HO447 hb; replace BK448 := ak (hbox); replace GW448 := ak (bz hg (lG HB)); replace GE448 := ak (bz hg (lG HB)); replace HB := lB HB hb; clear hb hbox hg; obtain ⟨Ao184, co184, eo184⟩ := Kd.R_slice HO444.out; subst eo184; obtain ⟨hcz185_0, hcz185_1, hfz185_0, hfz185_1⟩ := bC2 BK448; obtain ⟨Ao186, co186, eo186⟩ := Kd.R_slice HO447.out; subst eo186) | ((with_reducible refine gate_callee (f := 30) rfl ?_); refine gl (some 27) Try.func30 #[.slice A0 l0.length c0] ?_; (with_reducible refine (spec_DrawReadSector.calls k _ _ l0 t449 t452 t455 _ ?side1 ?side2 A5.out).mono ?_); (case side1 => exact Kd.C_below HR0.out (lT HB (gC GE448 gN))); (case side2 => exact HC0.out); rintro e w187 ⟨v450, v453, rfl, ho0, ho1, hb⟩; refine ⟨_, rfl, ?_⟩; replace HO451 := ak (Kd.R_lower (Kd.R_new' ho0 (Kd.R_lt (rT HO444 BK448 (by decide)))) (below_size (lT HB (gC GE448 gN)))); replace HO444 := ak (Kd.R_elder' (rT HO444 BK448 (by decide)) (Kd.R_base ho0) hb); replace HO454 := ak (Kd.R_lower (Kd.R_new' ho1 (Kd.R_lt (rT HO447 BK448 (by decide)))) (below_size (lT HB (gC GE448 gN)))); replace HO447 := ak (Kd.R_elder' (rT HO447 BK448 (by decide)) (Kd.R_base ho1) hb); replace BK448 := ak (blk_below (g := gb448) (o := .cells #[.slice Ao184 t442.length co184, .slice Ao186 t445.length co186] 27 (0, 0)) (bW BK448) hb); replace HB := ak (below_step (lT HB (gC GE448 gN)) hb); (try clear hb); (try clear hk); (try clear ho0); (try clear ho1)) | ((with_reducible refine gate_dst (N := 4) rfl ?_); (try (refine gate_guard (by rfl) ?_; dsimp only)); refine bx 4 #[.slice none 0 0, .slice none 0 0] 27 ?_; intro gb456 hg w188 hbox hb; replace HO444 := rB HO444 hb; replace HO447 := rB HO447 hb; replace HO451 := rB HO451 hb; replace HO454 := rB HO454 hb; replace BK456 := ak (hbox); replace GW456 := ak (bz hg (lT HB (gC GE448 gN))); replace GE456 := ak (bz hg (lT HB (gC GE448 gN))); replace HB := ak (below_step (lT HB (gC GE448 gN)) hb); replace NB448_456 := ak (nl hg (bG BK448)); replace NB456_448 := ak (ng hg (bG BK448)); replace BK448 := bB BK448 hb; clear hb hbox hg; obtain ⟨Ao189, co189, eo189⟩ := Kd.R_slice HO451.out; subst eo189; have hnb190 := NB456_448.out; have hnc190 := NB448_456.out; obtain ⟨hcz191_0, hcz191_1, hfz191_0, hfz191_1⟩ := bC2 BK456; obtain ⟨Ao192, co192, eo192⟩ := Kd.R_slice HO454.out; subst eo192) | ((with_reducible refine gate_callee (f := 15) rfl ?_); refine gl (some 33) Try.func15 #[.agg #[.slice Ao189 t449.length co189, .slice Ao192 t452.length co192], .int .i64 t455] ?_; (with_reducible refine (impl_ReadSector.calls k _ _ t449 _ _ t452 t455 t457 t458 _ ?side1 ?side2 ?side3 ?side4 A6.out).mono ?_); (case side1 => exact (Kd.R_reads' (rT HO451 BK456 (by decide))).2.2); (case side2 => exact (Kd.R_reads' HO451.out).2.1); (case side3 => exact (Kd.R_reads' (rT HO454 BK456 (by decide))).2.2); (case side4 => exact (Kd.R_reads' HO454.out).2.1); rintro e w193 ⟨rfl, hb⟩; refine ⟨_, rfl, ?_⟩; replace HO444 := ak (Kd.R_below (rT HO444 BK456 (by decide)) hb); replace HO447 := ak (Kd.R_below (rT HO447 BK456 (by decide)) hb); replace HO451 := ak (Kd.R_below (rT HO451 BK456 (by decide)) hb); replace HO454 := ak (Kd.R_below (rT HO454 BK456 (by decide)) hb); replace BK448 := ak (blk_below (bT BK448 (nC NB448_456 nN)) hb); replace BK456 := ak (blk_below (g := gb456) (o := .cells #[.slice Ao189 t449.length co189, .slice Ao192 t452.length co192] 27 (0, 0)) (bW BK456) hb); replace HB := ak (below_step (lT HB (gC GE448 (gC GE456 gN))) hb); (try clear hb); (try clear hk); obtain ⟨hcz194_0, hcz194_1, hfz194_0, hfz194_1⟩ := bC2 BK456) | ((with_reducible refine gate_callee (f := 14) rfl ?_); refine gl (some 39) Try.func14 #[.agg #[.slice Ao189 t449.length co189, .slice Ao192 t452.length co192], .int .i64 t455] ?_; (with_reducible refine (spec_ReadSector.calls k _ _ t449 _ _ t452 t455 t459 t460 _ ?side1 ?side2 ?side3 ?side4 A7.out).mono ?_); (case side1 => exact cG (Kd.R_reads' HO451.out).2.2); (case side2 => exact (Kd.R_reads' HO451.out).2.1); (case side3 => exact cG (Kd.R_reads' HO454.out).2.2); (case side4 => exact (Kd.R_reads' HO454.out).2.1); rintro e w195 ⟨rfl, hb⟩; refine ⟨_, rfl, ?_⟩; replace HO444 := rB HO444 hb; replace HO447 := rB HO447 hb; replace HO451 := rB HO451 hb; replace HO454 := rB HO454 hb; replace BK448 := bB BK448 hb; replace BK456 := bB BK456 hb; replace HB := ak (below_step (lT HB (gC GE448 (gC GE456 gN))) hb); (try clear hb); (try clear hk)) | ((with_reducible refine gate_callee (f := 31) rfl ?_); refine gl (some 44) Try.func31 #[.slice A0 l0.length c0] ?_; (with_reducible refine (spec_DrawSectorText.calls k _ _ l0 t461 t464 t467 t468 _ ?side1 ?side2 A8.out).mono ?_); (case side1 => exact cG (Kd.C_below HR0.out HB.out)); (case side2 => exact HC0.out); rintro e w196 ⟨v462, v465, rfl, ho0, ho1, hb⟩; refine ⟨_, rfl, ?_⟩; replace HO463 := ak (Kd.R_lower (Kd.R_new' (Kd.R_new' ho0 (Kd.R_lt (rG HO444))) (Kd.R_lt (rG HO451))) (below_size (lT HB (gC GE448 (gC GE456 gN))))); replace HO444 := ak (Kd.R_elder' (rG HO444) (Kd.R_base ho0) hb); replace HO451 := ak (Kd.R_elder' (rG HO451) (Kd.R_base ho0) hb); replace HO466 := ak (Kd.R_lower (Kd.R_new' (Kd.R_new' ho1 (Kd.R_lt (rG HO447))) (Kd.R_lt (rG HO454))) (below_size (lT HB (gC GE448 (gC GE456 gN))))); replace HO447 := ak (Kd.R_elder' (rG HO447) (Kd.R_base ho1) hb); replace HO454 := ak (Kd.R_elder' (rG HO454) (Kd.R_base ho1) hb); replace BK448 := bB BK448 hb; replace BK456 := bB BK456 hb; replace HB := ak (below_step (lT HB (gC GE448 (gC GE456 gN))) hb); (try clear hb); (try clear hk); (try clear ho0); (try clear ho1)) | ((with_reducible refine gate_dst (N := 10) rfl ?_); (try (refine gate_guard (by rfl) ?_; dsimp only)); refine bx 10 #[.slice none 0 0, .slice none 0 0] 27 ?_; intro gb469 hg w197 hbox hb; replace HO444 := rB HO444 hb; replace HO447 := rB HO447 hb; replace HO451 := rB HO451 hb; replace HO454 := rB HO454 hb; replace HO463 := rB HO463 hb; replace HO466 := rB HO466 hb; replace BK469 := ak (hbox); replace GW469 := ak (bz hg (lT HB (gC GE448 (gC GE456 gN)))); replace GE469 := ak (bz hg (lT HB (gC GE448 (gC GE456 gN)))); replace HB := ak (below_step (lT HB (gC GE448 (gC GE456 gN))) hb); replace NB448_469 := ak (nl hg (bG BK448)); replace NB469_448 := ak (ng hg (bG BK448)); replace BK448 := bB BK448 hb; replace NB456_469 := ak (nl hg (bG BK456)); replace NB469_456 := ak (ng hg (bG BK456)); replace BK456 := bB BK456 hb; clear hb hbox hg; obtain ⟨Ao198, co198, eo198⟩ := Kd.R_slice HO463.out; subst eo198; have hnb199 := NB469_448.out; have hnc199 := NB448_469.out; have hnb200 := NB469_456.out; have hnc200 := NB456_469.out; obtain ⟨hcz201_0, hcz201_1, hfz201_0, hfz201_1⟩ := bC2 BK469; obtain ⟨Ao202, co202, eo202⟩ := Kd.R_slice HO466.out; subst eo202) | ((with_reducible refine gate_callee (f := 32) rfl ?_); refine gl (some 52) Try.func32 #[.agg #[.slice Ao198 t461.length co198, .slice Ao202 t464.length co202], .int .i64 t467, .int .i64 t468] ?_; (with_reducible refine (impl_SectorText.calls k _ _ t461 _ _ t464 t467 t468 t470 t471 _ ?side1 ?side2 ?side3 ?side4 A9.out).mono ?_); (case side1 => exact (Kd.R_reads' (rT HO463 BK469 (by decide))).2.2); (case side2 => exact (Kd.R_reads' HO463.out).2.1); (case side3 => exact (Kd.R_reads' (rT HO466 BK469 (by decide))).2.2); (case side4 => exact (Kd.R_reads' HO466.out).2.1); rintro e w203 ⟨rfl, hb⟩; refine ⟨_, rfl, ?_⟩; replace HO444 := ak (Kd.R_below (rT HO444 BK469 (by decide)) hb); replace HO447 := ak (Kd.R_below (rT HO447 BK469 (by decide)) hb); replace HO451 := ak (Kd.R_below (rT HO451 BK469 (by decide)) hb); replace HO454 := ak (Kd.R_below (rT HO454 BK469 (by decide)) hb); replace HO463 := ak (Kd.R_below (rT HO463 BK469 (by decide)) hb); replace HO466 := ak (Kd.R_below (rT HO466 BK469 (by decide)) hb); replace BK448 := ak (blk_below (bT BK448 (nC NB448_469 nN)) hb); replace BK456 := ak (blk_below (bT BK456 (nC NB456_469 nN)) hb); replace BK469 := ak (blk_below (g := gb469) (o := .cells #[.slice Ao198 t461.length co198, .slice Ao202 t464.length co202] 27 (0, 0)) (bW BK469) hb); replace HB := ak (below_step (lT HB (gC GE448 (gC GE456 (gC GE469 gN)))) hb); (try clear hb); (try clear hk); obtain ⟨hcz204_0, hcz204_1, hfz204_0, hfz204_1⟩ := bC2 BK469) | ((with_reducible refine gate_callee (f := 33) rfl ?_); refine gl (some 59) Try.func33 #[.agg #[.slice Ao198 t461.length co198, .slice Ao202 t464.length co202], .int .i64 t467, .int .i64 t468] ?_; (with_reducible refine (spec_SectorText.calls k _ _ t461 _ _ t464 t467 t468 t472 t473 _ ?side1 ?side2 ?side3 ?side4 A10.out).mono ?_); (case side1 => exact cG (Kd.R_reads' HO463.out).2.2); (case side2 => exact (Kd.R_reads' HO463.out).2.1); (case side3 => exact cG (Kd.R_reads' HO466.out).2.2); (case side4 => exact (Kd.R_reads' HO466.out).2.1); rintro e w205 ⟨rfl, hb⟩; refine ⟨_, rfl, ?_⟩; replace HO444 := rB HO444 hb; replace HO447 := rB HO447 hb; replace HO451 := rB HO451 hb; replace HO454 := rB HO454 hb; replace HO463 := rB HO463 hb; replace HO466 := rB HO466 hb; replace BK448 := bB BK448 hb; replace BK456 := bB BK456 hb; replace BK469 := bB BK469 hb; replace HB := ak (below_step (lT HB (gC GE448 (gC GE456 (gC GE469 gN)))) hb); (try clear hb); (try clear hk)) | ((with_reducible refine gate_callee (f := 34) rfl ?_); refine gl (some 63) Try.func34 #[.int .i64 3] ?_; (with_reducible refine (impl_DiskNew.calls k 3 t474 t477 t480 _ A11.out).mono ?_); rintro e w206 ⟨v475, v478, rfl, ho0, ho1, hb⟩; refine ⟨_, rfl, ?_⟩; replace HO476 := ak (Kd.R_lower (Kd.R_new' (Kd.R_new' (Kd.R_new' ho0 (Kd.R_lt (rG HO444))) (Kd.R_lt (rG HO451))) (Kd.R_lt (rG HO463))) (below_size (lT HB (gC GE448 (gC GE456 (gC GE469 gN)))))); replace HO444 := ak (Kd.R_elder' (rG HO444) (Kd.R_base ho0) hb); replace HO451 := ak (Kd.R_elder' (rG HO451) (Kd.R_base ho0) hb); replace HO463 := ak (Kd.R_elder' (rG HO463) (Kd.R_base ho0) hb); replace HO479 := ak (Kd.R_lower (Kd.R_new' (Kd.R_new' (Kd.R_new' ho1 (Kd.R_lt (rG HO447))) (Kd.R_lt (rG HO454))) (Kd.R_lt (rG HO466))) (below_size (lT HB (gC GE448 (gC GE456 (gC GE469 gN)))))); replace HO447 := ak (Kd.R_elder' (rG HO447) (Kd.R_base ho1) hb); replace HO454 := ak (Kd.R_elder' (rG HO454) (Kd.R_base ho1) hb); replace HO466 := ak (Kd.R_elder' (rG HO466) (Kd.R_base ho1) hb); replace BK448 := bB BK448 hb; replace BK456 := bB BK456 hb; replace BK469 := bB BK469 hb; replace HB := ak (below_step (lT HB (gC GE448 (gC GE456 (gC GE469 gN)))) hb); (try clear hb); (try clear hk); (try clear ho0); (try clear ho1)) | ((with_reducible refine gate_dst (N := 17) rfl ?_); (try (refine gate_guard (by rfl) ?_; dsimp only)); refine bx 17 #[.slice none 0 0, .slice none 0 0] 27 ?_; intro gb481 hg w207 hbox hb; replace HO444 := rB HO444 hb; replace HO447 := rB HO447 hb; replace HO451 := rB HO451 hb; replace HO454 := rB HO454 hb; replace HO463 := rB HO463 hb; replace HO466 := rB HO466 hb; replace HO476 := rB HO476 hb; replace HO479 := rB HO479 hb; replace BK481 := ak (hbox); replace GW481 := ak (bz hg (lT HB (gC GE448 (gC GE456 (gC GE469 gN))))); replace GE481 := ak (bz hg (lT HB (gC GE448 (gC GE456 (gC GE469 gN))))); replace HB := ak (below_step (lT HB (gC GE448 (gC GE456 (gC GE469 gN)))) hb); replace NB448_481 := ak (nl hg (bG BK448)); replace NB481_448 := ak (ng hg (bG BK448)); replace BK448 := bB BK448 hb; replace NB456_481 := ak (nl hg (bG BK456)); replace NB481_456 := ak (ng hg (bG BK456)); replace BK456 := bB BK456 hb; replace NB469_481 := ak (nl hg (bG BK469)); replace NB481_469 := ak (ng hg (bG BK469)); replace BK469 := bB BK469 hb; clear hb hbox hg; obtain ⟨Ao208, co208, eo208⟩ := Kd.R_slice HO476.out; subst eo208; have hnb209 := NB481_448.out; have hnc209 := NB448_481.out; have hnb210 := NB481_456.out; have hnc210 := NB456_481.out; have hnb211 := NB481_469.out; have hnc211 := NB469_481.out; obtain ⟨hcz212_0, hcz212_1, hfz212_0, hfz212_1⟩ := bC2 BK481; obtain ⟨Ao213, co213, eo213⟩ := Kd.R_slice HO479.out; subst eo213) | ((with_reducible refine gate_callee (f := 34) rfl ?_); refine gl (some 67) Try.func34 #[.int .i64 0] ?_; (with_reducible refine (impl_DiskNew.calls k 0 t482 t485 t488 _ A12.out).mono ?_); rintro e w214 ⟨v483, v486, rfl, ho0, ho1, hb⟩; refine ⟨_, rfl, ?_⟩; replace HO484 := ak (Kd.R_lower (Kd.R_new' (Kd.R_new' (Kd.R_new' (Kd.R_new' ho0 (Kd.R_lt (rT HO444 BK481 (by decide)))) (Kd.R_lt (rT HO451 BK481 (by decide)))) (Kd.R_lt (rT HO463 BK481 (by decide)))) (Kd.R_lt (rT HO476 BK481 (by decide)))) (below_size (lT HB (gC GE448 (gC GE456 (gC GE469 (gC GE481 gN))))))); replace HO444 := ak (Kd.R_elder' (rT HO444 BK481 (by decide)) (Kd.R_base ho0) hb); replace HO451 := ak (Kd.R_elder' (rT HO451 BK481 (by decide)) (Kd.R_base ho0) hb); replace HO463 := ak (Kd.R_elder' (rT HO463 BK481 (by decide)) (Kd.R_base ho0) hb); replace HO476 := ak (Kd.R_elder' (rT HO476 BK481 (by decide)) (Kd.R_base ho0) hb); replace HO487 := ak (Kd.R_lower (Kd.R_new' (Kd.R_new' (Kd.R_new' (Kd.R_new' ho1 (Kd.R_lt (rT HO447 BK481 (by decide)))) (Kd.R_lt (rT HO454 BK481 (by decide)))) (Kd.R_lt (rT HO466 BK481 (by decide)))) (Kd.R_lt (rT HO479 BK481 (by decide)))) (below_size (lT HB (gC GE448 (gC GE456 (gC GE469 (gC GE481 gN))))))); replace HO447 := ak (Kd.R_elder' (rT HO447 BK481 (by decide)) (Kd.R_base ho1) hb); replace HO454 := ak (Kd.R_elder' (rT HO454 BK481 (by decide)) (Kd.R_base ho1) hb); replace HO466 := ak (Kd.R_elder' (rT HO466 BK481 (by decide)) (Kd.R_base ho1) hb); replace HO479 := ak (Kd.R_elder' (rT HO479 BK481 (by decide)) (Kd.R_base ho1) hb); replace BK448 := ak (blk_below (bT BK448 (nC NB448_481 nN)) hb); replace BK456 := ak (blk_below (bT BK456 (nC NB456_481 nN)) hb); replace BK469 := ak (blk_below (bT BK469 (nC NB469_481 nN)) hb); replace BK481 := ak (blk_below (g := gb481) (o := .cells #[.slice Ao208 t474.length co208, .slice Ao213 t477.length co213] 27 (0, 0)) (bW BK481) hb); replace HB := ak (below_step (lT HB (gC GE448 (gC GE456 (gC GE469 (gC GE481 gN))))) hb); (try clear hb); (try clear hk); (try clear ho0); (try clear ho1)) | ((with_reducible refine gate_dst (N := 19) rfl ?_); (try (refine gate_guard (by rfl) ?_; dsimp only)); refine bx 19 #[.slice none 0 0, .slice none 0 0] 27 ?_; intro gb489 hg w215 hbox hb; replace HO444 := rB HO444 hb; replace HO447 := rB HO447 hb; replace HO451 := rB HO451 hb; replace HO454 := rB HO454 hb; replace HO463 := rB HO463 hb; replace HO466 := rB HO466 hb; replace HO476 := rB HO476 hb; replace HO479 := rB HO479 hb; replace HO484 := rB HO484 hb; replace HO487 := rB HO487 hb; replace BK489 := ak (hbox); replace GW489 := ak (bz hg (lT HB (gC GE448 (gC GE456 (gC GE469 (gC GE481 gN)))))); replace GE489 := ak (bz hg (lT HB (gC GE448 (gC GE456 (gC GE469 (gC GE481 gN)))))); replace HB := ak (below_step (lT HB (gC GE448 (gC GE456 (gC GE469 (gC GE481 gN))))) hb); replace NB448_489 := ak (nl hg (bG BK448)); replace NB489_448 := ak (ng hg (bG BK448)); replace BK448 := bB BK448 hb; replace NB456_489 := ak (nl hg (bG BK456)); replace NB489_456 := ak (ng hg (bG BK456)); replace BK456 := bB BK456 hb; replace NB469_489 := ak (nl hg (bG BK469)); replace NB489_469 := ak (ng hg (bG BK469)); replace BK469 := bB BK469 hb; replace NB481_489 := ak (nl hg (bG BK481)); replace NB489_481 := ak (ng hg (bG BK481)); replace BK481 := bB BK481 hb; clear hb hbox hg; obtain ⟨Ao216, co216, eo216⟩ := Kd.R_slice HO484.out; subst eo216; have hnb217 := NB489_448.out; have hnc217 := NB448_489.out; have hnb218 := NB489_456.out; have hnc218 := NB456_489.out; have hnb219 := NB489_469.out; have hnc219 := NB469_489.out; have hnb220 := NB489_481.out; have hnc220 := NB481_489.out; obtain ⟨hcz221_0, hcz221_1, hfz221_0, hfz221_1⟩ := bC2 BK489; obtain ⟨Ao222, co222, eo222⟩ := Kd.R_slice HO487.out; subst eo222))
 have n0_ : Aside0 (Kd.R Kd.string 9 ((w215.setCell ⟨gb489, 0, none⟩ (.slice Ao216 t482.length co216)).setCell ⟨gb489, 1, none⟩ (.slice Ao222 t485.length co222)) w.heap.size (fun k_ => some k_ ≠ (.slice Ao189 t449.length co189 : Value).ownBlock ∧ some k_ ≠ (.slice Ao198 t461.length co198 : Value).ownBlock ∧ some k_ ≠ (.slice Ao208 t474.length co208 : Value).ownBlock ∧ some k_ ≠ (.slice Ao216 t482.length co216 : Value).ownBlock) (.slice Ao184 t442.length co184) t442) := ⟨by (with_reducible repeat (first | apply Kd.R_alloc | apply Kd.R_drewN | apply Kd.R_drew)); exact Kd.R_mono (Kd.R_far (p := ⟨gb489, 1, none⟩) (Kd.R_far (p := ⟨gb489, 0, none⟩) (Kd.R_types HO444.out BK489.out (by decide)) (fun _ hk => hk.2) (.slice Ao216 t482.length co216)) (fun _ hk => hk.2) (.slice Ao222 t485.length co222)) (fun _ hk => ⟨hk.1.1.1.1.2, ⟨hk.1.1.1.2, ⟨hk.1.1.2, hk.1.2⟩⟩⟩)⟩
 have n1_ : Aside0 (Kd.R k63 63 ((w215.setCell ⟨gb489, 0, none⟩ (.slice Ao216 t482.length co216)).setCell ⟨gb489, 1, none⟩ (.slice Ao222 t485.length co222)) w.heap.size (fun k_ => some k_ ≠ (.slice Ao192 t452.length co192 : Value).ownBlock ∧ some k_ ≠ (.slice Ao202 t464.length co202 : Value).ownBlock ∧ some k_ ≠ (.slice Ao213 t477.length co213 : Value).ownBlock ∧ some k_ ≠ (.slice Ao222 t485.length co222 : Value).ownBlock) (.slice Ao186 t445.length co186) t445) := ⟨by (with_reducible repeat (first | apply Kd.R_alloc | apply Kd.R_drewN | apply Kd.R_drew)); exact Kd.R_mono (Kd.R_far (p := ⟨gb489, 1, none⟩) (Kd.R_far (p := ⟨gb489, 0, none⟩) (Kd.R_types HO447.out BK489.out (by decide)) (fun _ hk => hk.2) (.slice Ao216 t482.length co216)) (fun _ hk => hk.2) (.slice Ao222 t485.length co222)) (fun _ hk => ⟨hk.1.1.1.1.2, ⟨hk.1.1.1.2, ⟨hk.1.1.2, hk.1.2⟩⟩⟩)⟩
 have n2_ : Aside0 (Kd.R Kd.string 9 ((w215.setCell ⟨gb489, 0, none⟩ (.slice Ao216 t482.length co216)).setCell ⟨gb489, 1, none⟩ (.slice Ao222 t485.length co222)) w.heap.size (fun k_ => some k_ ≠ (.slice Ao184 t442.length co184 : Value).ownBlock ∧ some k_ ≠ (.slice Ao198 t461.length co198 : Value).ownBlock ∧ some k_ ≠ (.slice Ao208 t474.length co208 : Value).ownBlock ∧ some k_ ≠ (.slice Ao216 t482.length co216 : Value).ownBlock) (.slice Ao189 t449.length co189) t449) := ⟨by (with_reducible repeat (first | apply Kd.R_alloc | apply Kd.R_drewN | apply Kd.R_drew)); exact Kd.R_mono (Kd.R_far (p := ⟨gb489, 1, none⟩) (Kd.R_far (p := ⟨gb489, 0, none⟩) (Kd.R_types HO451.out BK489.out (by decide)) (fun _ hk => hk.2) (.slice Ao216 t482.length co216)) (fun _ hk => hk.2) (.slice Ao222 t485.length co222)) (fun _ hk => ⟨hk.1.1.1.1.2, ⟨hk.1.1.1.2, ⟨hk.1.1.2, hk.1.2⟩⟩⟩)⟩
 have n3_ : Aside0 (Kd.R k63 63 ((w215.setCell ⟨gb489, 0, none⟩ (.slice Ao216 t482.length co216)).setCell ⟨gb489, 1, none⟩ (.slice Ao222 t485.length co222)) w.heap.size (fun k_ => some k_ ≠ (.slice Ao186 t445.length co186 : Value).ownBlock ∧ some k_ ≠ (.slice Ao202 t464.length co202 : Value).ownBlock ∧ some k_ ≠ (.slice Ao213 t477.length co213 : Value).ownBlock ∧ some k_ ≠ (.slice Ao222 t485.length co222 : Value).ownBlock) (.slice Ao192 t452.length co192) t452) := ⟨by (with_reducible repeat (first | apply Kd.R_alloc | apply Kd.R_drewN | apply Kd.R_drew)); exact Kd.R_mono (Kd.R_far (p := ⟨gb489, 1, none⟩) (Kd.R_far (p := ⟨gb489, 0, none⟩) (Kd.R_types HO454.out BK489.out (by decide)) (fun _ hk => hk.2) (.slice Ao216 t482.length co216)) (fun _ hk => hk.2) (.slice Ao222 t485.length co222)) (fun _ hk => ⟨hk.1.1.1.1.2, ⟨hk.1.1.1.2, ⟨hk.1.1.2, hk.1.2⟩⟩⟩)⟩
 have n4_ : Aside0 (Kd.R Kd.string 9 ((w215.setCell ⟨gb489, 0, none⟩ (.slice Ao216 t482.length co216)).setCell ⟨gb489, 1, none⟩ (.slice Ao222 t485.length co222)) w.heap.size (fun k_ => some k_ ≠ (.slice Ao184 t442.length co184 : Value).ownBlock ∧ some k_ ≠ (.slice Ao189 t449.length co189 : Value).ownBlock ∧ some k_ ≠ (.slice Ao208 t474.length co208 : Value).ownBlock ∧ some k_ ≠ (.slice Ao216 t482.length co216 : Value).ownBlock) (.slice Ao198 t461.length co198) t461) := ⟨by (with_reducible repeat (first | apply Kd.R_alloc | apply Kd.R_drewN | apply Kd.R_drew)); exact Kd.R_mono (Kd.R_far (p := ⟨gb489, 1, none⟩) (Kd.R_far (p := ⟨gb489, 0, none⟩) (Kd.R_types HO463.out BK489.out (by decide)) (fun _ hk => hk.2) (.slice Ao216 t482.length co216)) (fun _ hk => hk.2) (.slice Ao222 t485.length co222)) (fun _ hk => ⟨hk.1.1.1.1.2, ⟨hk.1.1.1.2, ⟨hk.1.1.2, hk.1.2⟩⟩⟩)⟩
 have n5_ : Aside0 (Kd.R k63 63 ((w215.setCell ⟨gb489, 0, none⟩ (.slice Ao216 t482.length co216)).setCell ⟨gb489, 1, none⟩ (.slice Ao222 t485.length co222)) w.heap.size (fun k_ => some k_ ≠ (.slice Ao186 t445.length co186 : Value).ownBlock ∧ some k_ ≠ (.slice Ao192 t452.length co192 : Value).ownBlock ∧ some k_ ≠ (.slice Ao213 t477.length co213 : Value).ownBlock ∧ some k_ ≠ (.slice Ao222 t485.length co222 : Value).ownBlock) (.slice Ao202 t464.length co202) t464) := ⟨by (with_reducible repeat (first | apply Kd.R_alloc | apply Kd.R_drewN | apply Kd.R_drew)); exact Kd.R_mono (Kd.R_far (p := ⟨gb489, 1, none⟩) (Kd.R_far (p := ⟨gb489, 0, none⟩) (Kd.R_types HO466.out BK489.out (by decide)) (fun _ hk => hk.2) (.slice Ao216 t482.length co216)) (fun _ hk => hk.2) (.slice Ao222 t485.length co222)) (fun _ hk => ⟨hk.1.1.1.1.2, ⟨hk.1.1.1.2, ⟨hk.1.1.2, hk.1.2⟩⟩⟩)⟩
 have n6_ : Aside0 (Kd.R Kd.string 9 ((w215.setCell ⟨gb489, 0, none⟩ (.slice Ao216 t482.length co216)).setCell ⟨gb489, 1, none⟩ (.slice Ao222 t485.length co222)) w.heap.size (fun k_ => some k_ ≠ (.slice Ao184 t442.length co184 : Value).ownBlock ∧ some k_ ≠ (.slice Ao189 t449.length co189 : Value).ownBlock ∧ some k_ ≠ (.slice Ao198 t461.length co198 : Value).ownBlock ∧ some k_ ≠ (.slice Ao216 t482.length co216 : Value).ownBlock) (.slice Ao208 t474.length co208) t474) := ⟨by (with_reducible repeat (first | apply Kd.R_alloc | apply Kd.R_drewN | apply Kd.R_drew)); exact Kd.R_mono (Kd.R_far (p := ⟨gb489, 1, none⟩) (Kd.R_far (p := ⟨gb489, 0, none⟩) (Kd.R_types HO476.out BK489.out (by decide)) (fun _ hk => hk.2) (.slice Ao216 t482.length co216)) (fun _ hk => hk.2) (.slice Ao222 t485.length co222)) (fun _ hk => ⟨hk.1.1.1.1.2, ⟨hk.1.1.1.2, ⟨hk.1.1.2, hk.1.2⟩⟩⟩)⟩
 have n7_ : Aside0 (Kd.R k63 63 ((w215.setCell ⟨gb489, 0, none⟩ (.slice Ao216 t482.length co216)).setCell ⟨gb489, 1, none⟩ (.slice Ao222 t485.length co222)) w.heap.size (fun k_ => some k_ ≠ (.slice Ao186 t445.length co186 : Value).ownBlock ∧ some k_ ≠ (.slice Ao192 t452.length co192 : Value).ownBlock ∧ some k_ ≠ (.slice Ao202 t464.length co202 : Value).ownBlock ∧ some k_ ≠ (.slice Ao222 t485.length co222 : Value).ownBlock) (.slice Ao213 t477.length co213) t477) := ⟨by (with_reducible repeat (first | apply Kd.R_alloc | apply Kd.R_drewN | apply Kd.R_drew)); exact Kd.R_mono (Kd.R_far (p := ⟨gb489, 1, none⟩) (Kd.R_far (p := ⟨gb489, 0, none⟩) (Kd.R_types HO479.out BK489.out (by decide)) (fun _ hk => hk.2) (.slice Ao216 t482.length co216)) (fun _ hk => hk.2) (.slice Ao222 t485.length co222)) (fun _ hk => ⟨hk.1.1.1.1.2, ⟨hk.1.1.1.2, ⟨hk.1.1.2, hk.1.2⟩⟩⟩)⟩
 have n8_ : Aside0 (Kd.R Kd.string 9 ((w215.setCell ⟨gb489, 0, none⟩ (.slice Ao216 t482.length co216)).setCell ⟨gb489, 1, none⟩ (.slice Ao222 t485.length co222)) w.heap.size (fun k_ => some k_ ≠ (.slice Ao184 t442.length co184 : Value).ownBlock ∧ some k_ ≠ (.slice Ao189 t449.length co189 : Value).ownBlock ∧ some k_ ≠ (.slice Ao198 t461.length co198 : Value).ownBlock ∧ some k_ ≠ (.slice Ao208 t474.length co208 : Value).ownBlock) (.slice Ao216 t482.length co216) t482) := ⟨by (with_reducible repeat (first | apply Kd.R_alloc | apply Kd.R_drewN | apply Kd.R_drew)); exact Kd.R_mono (Kd.R_far (p := ⟨gb489, 1, none⟩) (Kd.R_far (p := ⟨gb489, 0, none⟩) (Kd.R_types HO484.out BK489.out (by decide)) (fun _ hk => hk.2) (.slice Ao216 t482.length co216)) (fun _ hk => hk.2) (.slice Ao222 t485.length co222)) (fun _ hk => ⟨hk.1.1.1.1.2, ⟨hk.1.1.1.2, ⟨hk.1.1.2, hk.1.2⟩⟩⟩)⟩
 have n9_ : Aside0 (Kd.R k63 63 ((w215.setCell ⟨gb489, 0, none⟩ (.slice Ao216 t482.length co216)).setCell ⟨gb489, 1, none⟩ (.slice Ao222 t485.length co222)) w.heap.size (fun k_ => some k_ ≠ (.slice Ao186 t445.length co186 : Value).ownBlock ∧ some k_ ≠ (.slice Ao192 t452.length co192 : Value).ownBlock ∧ some k_ ≠ (.slice Ao202 t464.length co202 : Value).ownBlock ∧ some k_ ≠ (.slice Ao213 t477.length co213 : Value).ownBlock) (.slice Ao222 t485.length co222) t485) := ⟨by (with_reducible repeat (first | apply Kd.R_alloc | apply Kd.R_drewN | apply Kd.R_drew)); exact Kd.R_mono (Kd.R_far (p := ⟨gb489, 1, none⟩) (Kd.R_far (p := ⟨gb489, 0, none⟩) (Kd.R_types HO487.out BK489.out (by decide)) (fun _ hk => hk.2) (.slice Ao216 t482.length co216)) (fun _ hk => hk.2) (.slice Ao222 t485.length co222)) (fun _ hk => ⟨hk.1.1.1.1.2, ⟨hk.1.1.1.2, ⟨hk.1.1.2, hk.1.2⟩⟩⟩)⟩
 have n10_ : Aside0 (((w215.setCell ⟨gb489, 0, none⟩ (.slice Ao216 t482.length co216)).setCell ⟨gb489, 1, none⟩ (.slice Ao222 t485.length co222)).heap[gb448]? = some (.cells #[.slice Ao184 t442.length co184, .slice Ao186 t445.length co186] 27 (0, 0))) := ⟨by (with_reducible repeat (first | refine blk_drewN ?_ _ | refine blk_drew ?_ | refine blk_alloc ?_ _)); refine blk_far ?_ NB448_489.out _; (with_reducible repeat (first | refine blk_drewN ?_ _ | refine blk_drew ?_ | refine blk_alloc ?_ _)); refine blk_far ?_ NB448_489.out _; (with_reducible repeat (first | refine blk_drewN ?_ _ | refine blk_drew ?_ | refine blk_alloc ?_ _)); exact BK448.out⟩
 have n11_ : Aside0 (((w215.setCell ⟨gb489, 0, none⟩ (.slice Ao216 t482.length co216)).setCell ⟨gb489, 1, none⟩ (.slice Ao222 t485.length co222)).heap[gb456]? = some (.cells #[.slice Ao189 t449.length co189, .slice Ao192 t452.length co192] 27 (0, 0))) := ⟨by (with_reducible repeat (first | refine blk_drewN ?_ _ | refine blk_drew ?_ | refine blk_alloc ?_ _)); refine blk_far ?_ NB456_489.out _; (with_reducible repeat (first | refine blk_drewN ?_ _ | refine blk_drew ?_ | refine blk_alloc ?_ _)); refine blk_far ?_ NB456_489.out _; (with_reducible repeat (first | refine blk_drewN ?_ _ | refine blk_drew ?_ | refine blk_alloc ?_ _)); exact BK456.out⟩
 have n12_ : Aside0 (((w215.setCell ⟨gb489, 0, none⟩ (.slice Ao216 t482.length co216)).setCell ⟨gb489, 1, none⟩ (.slice Ao222 t485.length co222)).heap[gb469]? = some (.cells #[.slice Ao198 t461.length co198, .slice Ao202 t464.length co202] 27 (0, 0))) := ⟨by (with_reducible repeat (first | refine blk_drewN ?_ _ | refine blk_drew ?_ | refine blk_alloc ?_ _)); refine blk_far ?_ NB469_489.out _; (with_reducible repeat (first | refine blk_drewN ?_ _ | refine blk_drew ?_ | refine blk_alloc ?_ _)); refine blk_far ?_ NB469_489.out _; (with_reducible repeat (first | refine blk_drewN ?_ _ | refine blk_drew ?_ | refine blk_alloc ?_ _)); exact BK469.out⟩
 have n13_ : Aside0 (((w215.setCell ⟨gb489, 0, none⟩ (.slice Ao216 t482.length co216)).setCell ⟨gb489, 1, none⟩ (.slice Ao222 t485.length co222)).heap[gb481]? = some (.cells #[.slice Ao208 t474.length co208, .slice Ao213 t477.length co213] 27 (0, 0))) := ⟨by (with_reducible repeat (first | refine blk_drewN ?_ _ | refine blk_drew ?_ | refine blk_alloc ?_ _)); refine blk_far ?_ NB481_489.out _; (with_reducible repeat (first | refine blk_drewN ?_ _ | refine blk_drew ?_ | refine blk_alloc ?_ _)); refine blk_far ?_ NB481_489.out _; (with_reducible repeat (first | refine blk_drewN ?_ _ | refine blk_drew ?_ | refine blk_alloc ?_ _)); exact BK481.out⟩
 have n14_ : Aside0 (((w215.setCell ⟨gb489, 0, none⟩ (.slice Ao216 t482.length co216)).setCell ⟨gb489, 1, none⟩ (.slice Ao222 t485.length co222)).heap[gb489]? = some (.cells #[.slice Ao216 t482.length co216, .slice Ao222 t485.length co222] 27 (0, 0))) := ⟨bW BK489⟩
 have n15_ : Aside0 (Below w.heap.size w ((w215.setCell ⟨gb489, 0, none⟩ (.slice Ao216 t482.length co216)).setCell ⟨gb489, 1, none⟩ (.slice Ao222 t485.length co222))) := ⟨by exact lT HB (gC GE448 (gC GE456 (gC GE469 (gC GE481 (gC GE489 gN)))))⟩
 (try clear HO444)
 (try clear HO447)
 (try clear HO451)
 (try clear HO454)
 (try clear HO463)
 (try clear HO466)
 (try clear HO476)
 (try clear HO479)
 (try clear HO484)
 (try clear HO487)
 (try clear BK448)
 (try clear BK456)
 (try clear BK469)
 (try clear BK481)
 (try clear BK489)
 (try clear HB)
 generalize ((w215.setCell ⟨gb489, 0, none⟩ (.slice Ao216 t482.length co216)).setCell ⟨gb489, 1, none⟩ (.slice Ao222 t485.length co222)) = w223 at n0_ n1_ n2_ n3_ n4_ n5_ n6_ n7_ n8_ n9_ n10_ n11_ n12_ n13_ n14_ n15_ ⊢
 have HO444 := n0_
 have HO447 := n1_
 have HO451 := n2_
 have HO454 := n3_
 have HO463 := n4_
 have HO466 := n5_
 have HO476 := n6_
 have HO479 := n7_
 have HO484 := n8_
 have HO487 := n9_
 have BK448 := n10_
 have BK456 := n11_
 have BK469 := n12_
 have BK481 := n13_
 have BK489 := n14_
 have HB := n15_
 clear n0_ n1_ n2_ n3_ n4_ n5_ n6_ n7_ n8_ n9_ n10_ n11_ n12_ n13_ n14_ n15_
 replace HO444 := ak (Kd.R_drew HO444.out)
 replace HO447 := ak (Kd.R_drew HO447.out)
 replace HO451 := ak (Kd.R_drew HO451.out)
 replace HO454 := ak (Kd.R_drew HO454.out)
 replace HO463 := ak (Kd.R_drew HO463.out)
 replace HO466 := ak (Kd.R_drew HO466.out)
 replace HO476 := ak (Kd.R_drew HO476.out)
 replace HO479 := ak (Kd.R_drew HO479.out)
 replace HO484 := ak (Kd.R_drew HO484.out)
 replace HO487 := ak (Kd.R_drew HO487.out)
 replace BK448 := ak (blk_drew BK448.out)
 replace BK456 := ak (blk_drew BK456.out)
 replace BK469 := ak (blk_drew BK469.out)
 replace BK481 := ak (blk_drew BK481.out)
 replace BK489 := ak (blk_drew BK489.out)
 replace HB := ak (below_drew1 HB.out)
 refine start_ (n := 46) (S := fun w' => w'.cell? ⟨gb448, 0, none⟩ = some (.slice Ao184 t442.length co184) ∧ w'.cell? ⟨gb448, 1, none⟩ = some (.slice Ao186 t445.length co186)) (ds := []) #[f_,f_,f_,f_,f_,f_,f_,f_,f_,f_,f_,f_,f_,f_,f_,f_,f_,f_,f_,f_,f_,f_,f_,f_,f_,f_,f_,f_,f_,f_,f_,f_,f_,f_,f_,f_,f_,f_,f_,f_,f_,f_,f_,f_,f_,f_] (by kernel_rfl) rfl rfl ⟨bc BK448 0, bc BK448 1⟩ (fun hHeld => ?_); refine with_tabW laws_FnDisksTold.tab12 laws_FnDisksTold.bits12 (fun HT_ HW_ => ?_)
 generalize w223.drew = w224 at HO444 HO447 HO451 HO454 HO463 HO466 HO476 HO479 HO484 HO487 BK448 BK456 BK469 BK481 BK489 HB hHeld ⊢
 refine tk 0 70 (fb 46 1) HT_ HW_ hHeld ?_
 refine tk 2 72 (fb 46 5) HT_ HW_ hHeld ?_
 refine on 1 (some 71) (fb 46 7) HT_ (fun K hK => ?_)
 refine goes_ Try.func16 (by kernel_rfl) rfl #[.agg #[.slice Ao184 t442.length co184, .slice Ao186 t445.length co186]] (by rfl) rfl rfl (by (try simp only [List.map_toArray, List.map_cons, List.map_nil]); first | done | rfl | (simp only [List.length_drop, List.length_take]; rfl)) ?_
 with_reducible refine (impl_DiskOk.calls _ _ t442 _ _ t445 t490 _ ?side1 ?side2 ?side3 ?side4 A13.out).mono ?_
 (case side1 => exact cG (Kd.R_reads' HO444.out).2.2)
 (case side2 => exact (Kd.R_reads' HO444.out).2.1)
 (case side3 => exact cG (Kd.R_reads' HO447.out).2.2)
 (case side4 => exact (Kd.R_reads' HO447.out).2.1)
 rintro e w225 ⟨rfl, hb⟩
 refine ⟨_, rfl, ?_⟩
 replace HO444 := rB HO444 hb
 replace HO447 := rB HO447 hb
 replace HO451 := rB HO451 hb
 replace HO454 := rB HO454 hb
 replace HO463 := rB HO463 hb
 replace HO466 := rB HO466 hb
 replace HO476 := rB HO476 hb
 replace HO479 := rB HO479 hb
 replace HO484 := rB HO484 hb
 replace HO487 := rB HO487 hb
 replace BK448 := bB BK448 hb
 replace BK456 := bB BK456 hb
 replace BK469 := bB BK469 hb
 replace BK481 := bB BK481 hb
 replace BK489 := bB BK489 hb
 replace HB := ak (below_step (lT HB (gC GE448 (gC GE456 (gC GE469 (gC GE481 (gC GE489 gN)))))) hb)
 (try clear hb)
 (try clear hb2)
 (try clear hk)
 (try clear hi)
 refine hK.out _ _ ⟨bc BK448 0, bc BK448 1⟩ (fun hHeld => ?_)
 clear hK K
 refine nm ?_
 refine on 3 (some 73) (fb 46 15) HT_ (fun K hK => ?_)
 refine goes_ Try.func35 (by kernel_rfl) rfl #[.agg #[.slice Ao184 t442.length co184, .slice Ao186 t445.length co186]] (by rfl) rfl rfl (by (try simp only [List.map_toArray, List.map_cons, List.map_nil]); first | done | rfl | (simp only [List.length_drop, List.length_take]; rfl)) ?_
 with_reducible refine (spec_DiskOk.calls k _ _ t442 _ _ t445 t491 _ ?side1 ?side2 ?side3 ?side4 A14.out).mono ?_
 (case side1 => exact cG (Kd.R_reads' HO444.out).2.2)
 (case side2 => exact (Kd.R_reads' HO444.out).2.1)
 (case side3 => exact cG (Kd.R_reads' HO447.out).2.2)
 (case side4 => exact (Kd.R_reads' HO447.out).2.1)
 rintro e w226 ⟨rfl, hb⟩
 refine ⟨_, rfl, ?_⟩
 replace HO444 := rB HO444 hb
 replace HO447 := rB HO447 hb
 replace HO451 := rB HO451 hb
 replace HO454 := rB HO454 hb
 replace HO463 := rB HO463 hb
 replace HO466 := rB HO466 hb
 replace HO476 := rB HO476 hb
 replace HO479 := rB HO479 hb
 replace HO484 := rB HO484 hb
 replace HO487 := rB HO487 hb
 replace BK448 := bB BK448 hb
 replace BK456 := bB BK456 hb
 replace BK469 := bB BK469 hb
 replace BK481 := bB BK481 hb
 replace BK489 := bB BK489 hb
 replace HB := ak (below_step (lT HB (gC GE448 (gC GE456 (gC GE469 (gC GE481 (gC GE489 gN)))))) hb)
 (try clear hb)
 (try clear hb2)
 (try clear hk)
 (try clear hi)
 refine hK.out _ _ ⟨bc BK448 0, bc BK448 1⟩ (fun hHeld => ?_)
 clear hK K
 refine nm ?_
 refine pu 4 74 (fb 46 31) HT_ ?_
 refine pu 5 75 (fb 46 63) HT_ ?_
 refine pu 6 76 (fb 46 127) HT_ ?_
 refine pu 7 77 (fb 46 255) HT_ ?_
 refine pu 8 78 (fb 46 511) HT_ ?_
 refine pu 9 79 (fb 46 1023) HT_ ?_
 refine pu 10 80 (fb 46 2047) HT_ ?_
 refine pu 11 81 (fb 46 4095) HT_ ?_
 refine pu 12 82 (fb 46 8191) HT_ ?_
 refine pu 13 83 (fb 46 16383) HT_ ?_
 refine pu 14 84 (fb 46 32767) HT_ ?_
 refine pu 15 85 (fb 46 65535) HT_ ?_
 refine pu 16 86 (fb 46 131071) HT_ ?_
 refine pu 17 87 (fb 46 262143) HT_ ?_
 refine pu 18 88 (fb 46 524287) HT_ ?_
 refine pu 19 89 (fb 46 1048575) HT_ ?_
 refine pu 20 90 (fb 46 2097151) HT_ ?_
 refine pu 21 91 (fb 46 4194303) HT_ ?_
 refine pu 22 92 (fb 46 8388607) HT_ ?_
 refine pu 23 93 (fb 46 16777215) HT_ ?_
 refine pu 24 94 (fb 46 33554431) HT_ ?_
 refine pu 25 95 (fb 46 67108863) HT_ ?_
 refine tk 26 96 (fb 46 134217727) HT_ HW_ hHeld ?_
 refine tk 28 98 (fb 46 402653183) HT_ HW_ hHeld ?_
 refine on 27 (some 97) (fb 46 536870911) HT_ (fun K hK => ?_)
 refine goes_ Try.func13 (by kernel_rfl) rfl #[.agg #[.slice Ao184 t442.length co184, .slice Ao186 t445.length co186]] (by rfl) rfl rfl (by (try simp only [List.map_toArray, List.map_cons, List.map_nil]); first | done | rfl | (simp only [List.length_drop, List.length_take]; rfl)) ?_
 with_reducible refine (impl_FlushDisk.calls k _ _ t442 _ _ t445 t492 t495 _ ?side1 ?side2 ?side3 ?side4 A20.out).mono ?_
 (case side1 => exact cG (Kd.R_reads' HO444.out).2.2)
 (case side2 => exact (Kd.R_reads' HO444.out).2.1)
 (case side3 => exact cG (Kd.R_reads' HO447.out).2.2)
 (case side4 => exact (Kd.R_reads' HO447.out).2.1)
 rintro e w227 ⟨v493, v496, rfl, ho0, ho1, hb⟩
 refine ⟨_, rfl, ?_⟩
 replace HO494 := ak (Kd.R_lower (Kd.R_new' (Kd.R_new' (Kd.R_new' (Kd.R_new' (Kd.R_new' ho0 (Kd.R_lt (rG HO444))) (Kd.R_lt (rG HO451))) (Kd.R_lt (rG HO463))) (Kd.R_lt (rG HO476))) (Kd.R_lt (rG HO484))) (below_size (lT HB (gC GE448 (gC GE456 (gC GE469 (gC GE481 (gC GE489 gN))))))))
 replace HO444 := ak (Kd.R_elder' (rG HO444) (Kd.R_base ho0) hb)
 replace HO451 := ak (Kd.R_elder' (rG HO451) (Kd.R_base ho0) hb)
 replace HO463 := ak (Kd.R_elder' (rG HO463) (Kd.R_base ho0) hb)
 replace HO476 := ak (Kd.R_elder' (rG HO476) (Kd.R_base ho0) hb)
 replace HO484 := ak (Kd.R_elder' (rG HO484) (Kd.R_base ho0) hb)
 replace HO497 := ak (Kd.R_lower (Kd.R_new' (Kd.R_new' (Kd.R_new' (Kd.R_new' (Kd.R_new' ho1 (Kd.R_lt (rG HO447))) (Kd.R_lt (rG HO454))) (Kd.R_lt (rG HO466))) (Kd.R_lt (rG HO479))) (Kd.R_lt (rG HO487))) (below_size (lT HB (gC GE448 (gC GE456 (gC GE469 (gC GE481 (gC GE489 gN))))))))
 replace HO447 := ak (Kd.R_elder' (rG HO447) (Kd.R_base ho1) hb)
 replace HO454 := ak (Kd.R_elder' (rG HO454) (Kd.R_base ho1) hb)
 replace HO466 := ak (Kd.R_elder' (rG HO466) (Kd.R_base ho1) hb)
 replace HO479 := ak (Kd.R_elder' (rG HO479) (Kd.R_base ho1) hb)
 replace HO487 := ak (Kd.R_elder' (rG HO487) (Kd.R_base ho1) hb)
 replace BK448 := bB BK448 hb
 replace BK456 := bB BK456 hb
 replace BK469 := bB BK469 hb
 replace BK481 := bB BK481 hb
 replace BK489 := bB BK489 hb
 replace HB := ak (below_step (lT HB (gC GE448 (gC GE456 (gC GE469 (gC GE481 (gC GE489 gN)))))) hb)
 (try clear hb)
 (try clear hb2)
 (try clear hk)
 (try clear hi)
 (try clear ho0)
 (try clear ho1)
 refine hK.out _ _ ⟨bc BK448 0, bc BK448 1⟩ (fun hHeld => ?_)
 clear hK K
 refine nm ?_
 refine on 29 (some 99) (fb 46 1073741823) HT_ (fun K hK => ?_)
 refine goes_ Try.func36 (by kernel_rfl) rfl #[.agg #[.slice Ao184 t442.length co184, .slice Ao186 t445.length co186]] (by rfl) rfl rfl (by (try simp only [List.map_toArray, List.map_cons, List.map_nil]); first | done | rfl | (simp only [List.length_drop, List.length_take]; rfl)) ?_
 with_reducible refine (spec_FlushDisk.calls k _ _ t442 _ _ t445 t498 t501 _ ?side1 ?side2 ?side3 ?side4 A21.out).mono ?_
 (case side1 => exact cG (Kd.R_reads' HO444.out).2.2)
 (case side2 => exact (Kd.R_reads' HO444.out).2.1)
 (case side3 => exact cG (Kd.R_reads' HO447.out).2.2)
 (case side4 => exact (Kd.R_reads' HO447.out).2.1)
 rintro e w228 ⟨v499, v502, rfl, ho0, ho1, hb⟩
 refine ⟨_, rfl, ?_⟩
 replace HO500 := ak (Kd.R_lower (Kd.R_new' (Kd.R_new' (Kd.R_new' (Kd.R_new' (Kd.R_new' (Kd.R_new' ho0 (Kd.R_lt (rG HO444))) (Kd.R_lt (rG HO451))) (Kd.R_lt (rG HO463))) (Kd.R_lt (rG HO476))) (Kd.R_lt (rG HO484))) (Kd.R_lt (rG HO494))) (below_size (lT HB (gC GE448 (gC GE456 (gC GE469 (gC GE481 (gC GE489 gN))))))))
 replace HO444 := ak (Kd.R_elder' (rG HO444) (Kd.R_base ho0) hb)
 replace HO451 := ak (Kd.R_elder' (rG HO451) (Kd.R_base ho0) hb)
 replace HO463 := ak (Kd.R_elder' (rG HO463) (Kd.R_base ho0) hb)
 replace HO476 := ak (Kd.R_elder' (rG HO476) (Kd.R_base ho0) hb)
 replace HO484 := ak (Kd.R_elder' (rG HO484) (Kd.R_base ho0) hb)
 replace HO494 := ak (Kd.R_elder' (rG HO494) (Kd.R_base ho0) hb)
 replace HO503 := ak (Kd.R_lower (Kd.R_new' (Kd.R_new' (Kd.R_new' (Kd.R_new' (Kd.R_new' (Kd.R_new' ho1 (Kd.R_lt (rG HO447))) (Kd.R_lt (rG HO454))) (Kd.R_lt (rG HO466))) (Kd.R_lt (rG HO479))) (Kd.R_lt (rG HO487))) (Kd.R_lt (rG HO497))) (below_size (lT HB (gC GE448 (gC GE456 (gC GE469 (gC GE481 (gC GE489 gN))))))))
 replace HO447 := ak (Kd.R_elder' (rG HO447) (Kd.R_base ho1) hb)
 replace HO454 := ak (Kd.R_elder' (rG HO454) (Kd.R_base ho1) hb)
 replace HO466 := ak (Kd.R_elder' (rG HO466) (Kd.R_base ho1) hb)
 replace HO479 := ak (Kd.R_elder' (rG HO479) (Kd.R_base ho1) hb)
 replace HO487 := ak (Kd.R_elder' (rG HO487) (Kd.R_base ho1) hb)
 replace HO497 := ak (Kd.R_elder' (rG HO497) (Kd.R_base ho1) hb)
 replace BK448 := bB BK448 hb
 replace BK456 := bB BK456 hb
 replace BK469 := bB BK469 hb
 replace BK481 := bB BK481 hb
 replace BK489 := bB BK489 hb
 replace HB := ak (below_step (lT HB (gC GE448 (gC GE456 (gC GE469 (gC GE481 (gC GE489 gN)))))) hb)
 (try clear hb)
 (try clear hb2)
 (try clear hk)
 (try clear hi)
 (try clear ho0)
 (try clear ho1)
 obtain ⟨Ao229, co229, eo229⟩ := Kd.R_slice HO494.out
 (first | subst eo229 | (injection eo229 with f1_ f2_ f3_; have f4_ := f1_.symm; have f5_ := f3_.symm; clear f1_ f2_ f3_; subst f4_; subst f5_))
 obtain ⟨Ao230, co230, eo230⟩ := Kd.R_slice HO497.out
 (first | subst eo230 | (injection eo230 with f1_ f2_ f3_; have f4_ := f1_.symm; have f5_ := f3_.symm; clear f1_ f2_ f3_; subst f4_; subst f5_))
 obtain ⟨Ao231, co231, eo231⟩ := Kd.R_slice HO500.out
 (first | subst eo231 | (injection eo231 with f1_ f2_ f3_; have f4_ := f1_.symm; have f5_ := f3_.symm; clear f1_ f2_ f3_; subst f4_; subst f5_))
 obtain ⟨Ao232, co232, eo232⟩ := Kd.R_slice HO503.out
 (first | subst eo232 | (injection eo232 with f1_ f2_ f3_; have f4_ := f1_.symm; have f5_ := f3_.symm; clear f1_ f2_ f3_; subst f4_; subst f5_))
 refine hK.out _ _ ⟨bc BK448 0, bc BK448 1⟩ (fun hHeld => ?_)
 clear hK K
 refine nm ?_
 refine on 30 (some 100) (fb 46 2147483647) HT_ (fun K hK => ?_)
 refine goes_ Try.func20 (by kernel_rfl) rfl #[.agg #[.slice Ao229 t492.length co229, .slice Ao230 t495.length co230], .agg #[.slice Ao231 t498.length co231, .slice Ao232 t501.length co232]] (by rfl) rfl rfl (by (try simp only [List.map_toArray, List.map_cons, List.map_nil]); first | done | rfl | (simp only [List.length_drop, List.length_take]; rfl)) ?_
 with_reducible refine (laws_sameDisk.calls k _ _ t492 _ _ t495 _ _ t498 _ _ t501 false _ ?side1 ?side2 ?side3 ?side4 ?side5 ?side6 ?side7 ?side8 A22.out).mono ?_
 (case side1 => exact cG (Kd.R_reads' HO494.out).2.2)
 (case side2 => exact (Kd.R_reads' HO494.out).2.1)
 (case side3 => exact cG (Kd.R_reads' HO497.out).2.2)
 (case side4 => exact (Kd.R_reads' HO497.out).2.1)
 (case side5 => exact cG (Kd.R_reads' HO500.out).2.2)
 (case side6 => exact (Kd.R_reads' HO500.out).2.1)
 (case side7 => exact cG (Kd.R_reads' HO503.out).2.2)
 (case side8 => exact (Kd.R_reads' HO503.out).2.1)
 rintro e w233 ⟨rfl, hb⟩
 refine ⟨_, rfl, ?_⟩
 replace HO444 := rB HO444 hb
 replace HO447 := rB HO447 hb
 replace HO451 := rB HO451 hb
 replace HO454 := rB HO454 hb
 replace HO463 := rB HO463 hb
 replace HO466 := rB HO466 hb
 replace HO476 := rB HO476 hb
 replace HO479 := rB HO479 hb
 replace HO484 := rB HO484 hb
 replace HO487 := rB HO487 hb
 replace HO494 := rB HO494 hb
 replace HO497 := rB HO497 hb
 replace HO500 := rB HO500 hb
 replace HO503 := rB HO503 hb
 replace BK448 := bB BK448 hb
 replace BK456 := bB BK456 hb
 replace BK469 := bB BK469 hb
 replace BK481 := bB BK481 hb
 replace BK489 := bB BK489 hb
 replace HB := ak (below_step (lT HB (gC GE448 (gC GE456 (gC GE469 (gC GE481 (gC GE489 gN)))))) hb)
 (try clear hb)
 (try clear hb2)
 (try clear hk)
 (try clear hi)
 refine hK.out _ _ ⟨bc BK448 0, bc BK448 1⟩ (fun hHeld => ?_)
 clear hK K
 refine nm ?_
 refine pu 31 101 (fb 46 4294967295) HT_ ?_
 refine pu 32 102 (fb 46 8589934591) HT_ ?_
 refine pn 33 103 (fb 46 17179869183) HT_ ?_
 refine pu 34 104 (fb 46 34359738367) HT_ ?_
 refine pu 35 105 (fb 46 68719476735) HT_ ?_
 refine pn 36 106 (fb 46 137438953471) HT_ ?_
 refine pn 37 107 (fb 46 274877906943) HT_ ?_
 refine pu 38 108 (fb 46 549755813887) HT_ ?_
 refine pu 39 109 (fb 46 1099511627775) HT_ ?_
 refine pn 40 110 (fb 46 2199023255551) HT_ ?_
 refine pn 41 111 (fb 46 4398046511103) HT_ ?_
 refine pn 42 112 (fb 46 8796093022207) HT_ ?_
 refine pn 43 113 (fb 46 17592186044415) HT_ ?_
 refine pu 44 114 (fb 46 35184372088831) HT_ ?_
 refine pu 45 2 (fb 46 70368744177663) HT_ ?_
 refine done_ (done_of HT_.out (by kernel_rfl)) ?_
 try go_wp2
 go_ret
 exact ⟨ew, by exact lT HB (gC GE448 (gC GE456 (gC GE469 (gC GE481 (gC GE489 gN)))))⟩
set_option maxHeartbeats 8000000 in
set_option maxRecDepth 100000 in
theorem laws_FnDisksTold.leaf5 (k : Nat) (A0 : Option Addr) (c0 : Nat) (l0 : List Int) (w : World) (HR0 : Aside0 (Kd.C (Kd.int IntKind.u8) w A0 (List.length l0) l0)) (HC0 : Aside0 (List.length l0 ≤ c0)) (HB : Aside0 (Below (Array.size (World.heap w)) w w)) (A2 : Aside0 (laws_big.f l0 = some false)) (t442 : List ByteArray) (t445 : List S63) (A4 : Aside0 (spec_DrawDiskOk.f k l0 = some (t442, t445))) (t449 : List ByteArray) (t452 : List S63) (t455 : Int) (A5 : Aside0 (spec_DrawReadSector.f k l0 = some (t449, t452, t455))) (t457 : ByteArray) (t458 : Bool) (A6 : Aside0 (impl_ReadSector.f k t449 t452 t455 = some (t457, t458))) (t459 : ByteArray) (t460 : Bool) (A7 : Aside0 (spec_ReadSector.f k t449 t452 t455 = some (t459, t460))) (t461 : List ByteArray) (t464 : List S63) (t467 t468 : Int) (A8 : Aside0 (spec_DrawSectorText.f k l0 = some (t461, t464, t467, t468))) (t470 : ByteArray) (t471 : Bool) (A9 : Aside0 (impl_SectorText.f k t461 t464 t467 t468 = some (t470, t471))) (t472 : ByteArray) (t473 : Bool) (A10 : Aside0 (spec_SectorText.f k t461 t464 t467 t468 = some (t472, t473))) (t474 : List ByteArray) (t477 : List S63) (t480 : Bool) (A11 : Aside0 (impl_DiskNew.f k 3 = some (t474, t477, t480))) (t482 : List ByteArray) (t485 : List S63) (t488 : Bool) (A12 : Aside0 (impl_DiskNew.f k 0 = some (t482, t485, t488))) (t490 : Bool) (A13 : Aside0 (impl_DiskOk.f t442 t445 = some t490)) (t491 : Bool) (A14 : Aside0 (spec_DiskOk.f k t442 t445 = some t491)) (c15b0 : (t490 == t491) = true) (c15b1 : decide (t490 = t491) = true) (c15b2 : (t490 == t491) = true) (c16b0 : (t458 == t460) = true) (c16b1 : decide (t458 = t460) = true) (c16b2 : (t458 == t460) = true) (c17b0 : (ByteArray.toList t457 == ByteArray.toList t459) = true) (c17b1 : (ByteArray.toList t457 != ByteArray.toList t459) = false) (c18b0 : (t471 == t473) = true) (c18b1 : decide (t471 = t473) = true) (c18b2 : (t471 == t473) = true) (c19 : ¬ByteArray.toList t470 = ByteArray.toList t472) (c19b0 : (ByteArray.toList t470 == ByteArray.toList t472) = false) (c19b1 : (ByteArray.toList t470 != ByteArray.toList t472) = true) (H : some false = some false) : Calls Try.prog 7 #[Value.slice A0 (List.length l0) c0] w fun e w' => e = Ending.returned (Value.bool false) ∧ Below (Array.size (World.heap w)) w w' := by
 have hu27 := Try.underlying27
 go_enter Try.func7, Try.ntmps7
 try go_wp2_with (first | ((with_reducible refine gate_callee (f := 9) rfl ?_); refine gl (some 22) Try.func9 #[.slice A0 l0.length c0] ?_; (with_reducible refine (laws_big.calls _ _ l0 false _ ?side1 ?side2 A2.out).mono ?_); (case side1 => repeat (first | exact HR0.out | (with_reducible refine Kd.C_alloc ?_ _) | (with_reducible refine Kd.C_drewN ?_ _) | (with_reducible refine Kd.C_drew ?_))); (case side2 => exact HC0.out); rintro e w' ⟨rfl, ⟨nd, rfl⟩⟩; refine ⟨_, rfl, ?_⟩) | ((with_reducible refine gate_callee (f := 29) rfl ?_); refine gl (some 24) Try.func29 #[.slice A0 l0.length c0] ?_; (with_reducible refine (spec_DrawDiskOk.calls k _ _ l0 t442 t445 _ ?side1 ?side2 A4.out).mono ?_); (case side1 => repeat (first | exact HR0.out | (with_reducible refine Kd.C_alloc ?_ _) | (with_reducible refine Kd.C_drewN ?_ _) | (with_reducible refine Kd.C_drew ?_))); (case side2 => exact HC0.out); rintro e w234 ⟨v443, v446, rfl, ho0, ho1, hb⟩; refine ⟨_, rfl, ?_⟩; replace HO444 := ak (Kd.R_lower ho0 (below_size (lG HB))); replace HO447 := ak (Kd.R_lower ho1 (below_size (lG HB))); replace HB := lB HB hb; (try clear hb); (try clear hk); (try clear ho0); (try clear ho1)) | ((with_reducible refine gate_dst (N := 3) rfl ?_); (try (refine gate_guard (by rfl) ?_; dsimp only)); refine bx 3 #[.slice none 0 0, .slice none 0 0] 27 ?_; intro gb448 hg w235 hbox hb; replace HO444 := rB HO444 hb; replace HO447 := rB HO447 hb; replace BK448 := ak (hbox); replace GW448 := ak (bz hg (lG HB)); replace GE448 := ak (bz hg (lG HB)); replace HB := lB HB hb; clear hb hbox hg; obtain ⟨Ao236, co236, eo236⟩ := Kd.R_slice HO444.out; subst eo236; obtain ⟨hcz237_0, hcz237_1, hfz237_0, hfz237_1⟩ := bC2 BK448; obtain ⟨Ao238, co238, eo238⟩ := Kd.R_slice HO447.out; subst eo238) | ((with_reducible refine gate_callee (f := 30) rfl ?_); refine gl (some 27) Try.func30 #[.slice A0 l0.length c0] ?_; (with_reducible refine (spec_DrawReadSector.calls k _ _ l0 t449 t452 t455 _ ?side1 ?side2 A5.out).mono ?_); (case side1 => exact Kd.C_below HR0.out (lT HB (gC GE448 gN))); (case side2 => exact HC0.out); rintro e w239 ⟨v450, v453, rfl, ho0, ho1, hb⟩; refine ⟨_, rfl, ?_⟩; replace HO451 := ak (Kd.R_lower (Kd.R_new' ho0 (Kd.R_lt (rT HO444 BK448 (by decide)))) (below_size (lT HB (gC GE448 gN)))); replace HO444 := ak (Kd.R_elder' (rT HO444 BK448 (by decide)) (Kd.R_base ho0) hb); replace HO454 := ak (Kd.R_lower (Kd.R_new' ho1 (Kd.R_lt (rT HO447 BK448 (by decide)))) (below_size (lT HB (gC GE448 gN)))); replace HO447 := ak (Kd.R_elder' (rT HO447 BK448 (by decide)) (Kd.R_base ho1) hb); replace BK448 := ak (blk_below (g := gb448) (o := .cells #[.slice Ao236 t442.length co236, .slice Ao238 t445.length co238] 27 (0, 0)) (bW BK448) hb); replace HB := ak (below_step (lT HB (gC GE448 gN)) hb); (try clear hb); (try clear hk); (try clear ho0); (try clear ho1)) | ((with_reducible refine gate_dst (N := 4) rfl ?_); (try (refine gate_guard (by rfl) ?_; dsimp only)); refine bx 4 #[.slice none 0 0, .slice none 0 0] 27 ?_; intro gb456 hg w240 hbox hb; replace HO444 := rB HO444 hb; replace HO447 := rB HO447 hb; replace HO451 := rB HO451 hb; replace HO454 := rB HO454 hb; replace BK456 := ak (hbox); replace GW456 := ak (bz hg (lT HB (gC GE448 gN))); replace GE456 := ak (bz hg (lT HB (gC GE448 gN))); replace HB := ak (below_step (lT HB (gC GE448 gN)) hb); replace NB448_456 := ak (nl hg (bG BK448)); replace NB456_448 := ak (ng hg (bG BK448)); replace BK448 := bB BK448 hb; clear hb hbox hg; obtain ⟨Ao241, co241, eo241⟩ := Kd.R_slice HO451.out; subst eo241; have hnb242 := NB456_448.out; have hnc242 := NB448_456.out; obtain ⟨hcz243_0, hcz243_1, hfz243_0, hfz243_1⟩ := bC2 BK456; obtain ⟨Ao244, co244, eo244⟩ := Kd.R_slice HO454.out; subst eo244) | ((with_reducible refine gate_callee (f := 15) rfl ?_); refine gl (some 33) Try.func15 #[.agg #[.slice Ao241 t449.length co241, .slice Ao244 t452.length co244], .int .i64 t455] ?_; (with_reducible refine (impl_ReadSector.calls k _ _ t449 _ _ t452 t455 t457 t458 _ ?side1 ?side2 ?side3 ?side4 A6.out).mono ?_); (case side1 => exact (Kd.R_reads' (rT HO451 BK456 (by decide))).2.2); (case side2 => exact (Kd.R_reads' HO451.out).2.1); (case side3 => exact (Kd.R_reads' (rT HO454 BK456 (by decide))).2.2); (case side4 => exact (Kd.R_reads' HO454.out).2.1); rintro e w245 ⟨rfl, hb⟩; refine ⟨_, rfl, ?_⟩; replace HO444 := ak (Kd.R_below (rT HO444 BK456 (by decide)) hb); replace HO447 := ak (Kd.R_below (rT HO447 BK456 (by decide)) hb); replace HO451 := ak (Kd.R_below (rT HO451 BK456 (by decide)) hb); replace HO454 := ak (Kd.R_below (rT HO454 BK456 (by decide)) hb); replace BK448 := ak (blk_below (bT BK448 (nC NB448_456 nN)) hb); replace BK456 := ak (blk_below (g := gb456) (o := .cells #[.slice Ao241 t449.length co241, .slice Ao244 t452.length co244] 27 (0, 0)) (bW BK456) hb); replace HB := ak (below_step (lT HB (gC GE448 (gC GE456 gN))) hb); (try clear hb); (try clear hk); obtain ⟨hcz246_0, hcz246_1, hfz246_0, hfz246_1⟩ := bC2 BK456) | ((with_reducible refine gate_callee (f := 14) rfl ?_); refine gl (some 39) Try.func14 #[.agg #[.slice Ao241 t449.length co241, .slice Ao244 t452.length co244], .int .i64 t455] ?_; (with_reducible refine (spec_ReadSector.calls k _ _ t449 _ _ t452 t455 t459 t460 _ ?side1 ?side2 ?side3 ?side4 A7.out).mono ?_); (case side1 => exact cG (Kd.R_reads' HO451.out).2.2); (case side2 => exact (Kd.R_reads' HO451.out).2.1); (case side3 => exact cG (Kd.R_reads' HO454.out).2.2); (case side4 => exact (Kd.R_reads' HO454.out).2.1); rintro e w247 ⟨rfl, hb⟩; refine ⟨_, rfl, ?_⟩; replace HO444 := rB HO444 hb; replace HO447 := rB HO447 hb; replace HO451 := rB HO451 hb; replace HO454 := rB HO454 hb; replace BK448 := bB BK448 hb; replace BK456 := bB BK456 hb; replace HB := ak (below_step (lT HB (gC GE448 (gC GE456 gN))) hb); (try clear hb); (try clear hk)) | ((with_reducible refine gate_callee (f := 31) rfl ?_); refine gl (some 44) Try.func31 #[.slice A0 l0.length c0] ?_; (with_reducible refine (spec_DrawSectorText.calls k _ _ l0 t461 t464 t467 t468 _ ?side1 ?side2 A8.out).mono ?_); (case side1 => exact cG (Kd.C_below HR0.out HB.out)); (case side2 => exact HC0.out); rintro e w248 ⟨v462, v465, rfl, ho0, ho1, hb⟩; refine ⟨_, rfl, ?_⟩; replace HO463 := ak (Kd.R_lower (Kd.R_new' (Kd.R_new' ho0 (Kd.R_lt (rG HO444))) (Kd.R_lt (rG HO451))) (below_size (lT HB (gC GE448 (gC GE456 gN))))); replace HO444 := ak (Kd.R_elder' (rG HO444) (Kd.R_base ho0) hb); replace HO451 := ak (Kd.R_elder' (rG HO451) (Kd.R_base ho0) hb); replace HO466 := ak (Kd.R_lower (Kd.R_new' (Kd.R_new' ho1 (Kd.R_lt (rG HO447))) (Kd.R_lt (rG HO454))) (below_size (lT HB (gC GE448 (gC GE456 gN))))); replace HO447 := ak (Kd.R_elder' (rG HO447) (Kd.R_base ho1) hb); replace HO454 := ak (Kd.R_elder' (rG HO454) (Kd.R_base ho1) hb); replace BK448 := bB BK448 hb; replace BK456 := bB BK456 hb; replace HB := ak (below_step (lT HB (gC GE448 (gC GE456 gN))) hb); (try clear hb); (try clear hk); (try clear ho0); (try clear ho1)) | ((with_reducible refine gate_dst (N := 10) rfl ?_); (try (refine gate_guard (by rfl) ?_; dsimp only)); refine bx 10 #[.slice none 0 0, .slice none 0 0] 27 ?_; intro gb469 hg w249 hbox hb; replace HO444 := rB HO444 hb; replace HO447 := rB HO447 hb; replace HO451 := rB HO451 hb; replace HO454 := rB HO454 hb; replace HO463 := rB HO463 hb; replace HO466 := rB HO466 hb; replace BK469 := ak (hbox); replace GW469 := ak (bz hg (lT HB (gC GE448 (gC GE456 gN)))); replace GE469 := ak (bz hg (lT HB (gC GE448 (gC GE456 gN)))); replace HB := ak (below_step (lT HB (gC GE448 (gC GE456 gN))) hb); replace NB448_469 := ak (nl hg (bG BK448)); replace NB469_448 := ak (ng hg (bG BK448)); replace BK448 := bB BK448 hb; replace NB456_469 := ak (nl hg (bG BK456)); replace NB469_456 := ak (ng hg (bG BK456)); replace BK456 := bB BK456 hb; clear hb hbox hg; obtain ⟨Ao250, co250, eo250⟩ := Kd.R_slice HO463.out; subst eo250; have hnb251 := NB469_448.out; have hnc251 := NB448_469.out; have hnb252 := NB469_456.out; have hnc252 := NB456_469.out; obtain ⟨hcz253_0, hcz253_1, hfz253_0, hfz253_1⟩ := bC2 BK469; obtain ⟨Ao254, co254, eo254⟩ := Kd.R_slice HO466.out; subst eo254) | ((with_reducible refine gate_callee (f := 32) rfl ?_); refine gl (some 52) Try.func32 #[.agg #[.slice Ao250 t461.length co250, .slice Ao254 t464.length co254], .int .i64 t467, .int .i64 t468] ?_; (with_reducible refine (impl_SectorText.calls k _ _ t461 _ _ t464 t467 t468 t470 t471 _ ?side1 ?side2 ?side3 ?side4 A9.out).mono ?_); (case side1 => exact (Kd.R_reads' (rT HO463 BK469 (by decide))).2.2); (case side2 => exact (Kd.R_reads' HO463.out).2.1); (case side3 => exact (Kd.R_reads' (rT HO466 BK469 (by decide))).2.2); (case side4 => exact (Kd.R_reads' HO466.out).2.1); rintro e w255 ⟨rfl, hb⟩; refine ⟨_, rfl, ?_⟩; replace HO444 := ak (Kd.R_below (rT HO444 BK469 (by decide)) hb); replace HO447 := ak (Kd.R_below (rT HO447 BK469 (by decide)) hb); replace HO451 := ak (Kd.R_below (rT HO451 BK469 (by decide)) hb); replace HO454 := ak (Kd.R_below (rT HO454 BK469 (by decide)) hb); replace HO463 := ak (Kd.R_below (rT HO463 BK469 (by decide)) hb); replace HO466 := ak (Kd.R_below (rT HO466 BK469 (by decide)) hb); replace BK448 := ak (blk_below (bT BK448 (nC NB448_469 nN)) hb); replace BK456 := ak (blk_below (bT BK456 (nC NB456_469 nN)) hb); replace BK469 := ak (blk_below (g := gb469) (o := .cells #[.slice Ao250 t461.length co250, .slice Ao254 t464.length co254] 27 (0, 0)) (bW BK469) hb); replace HB := ak (below_step (lT HB (gC GE448 (gC GE456 (gC GE469 gN)))) hb); (try clear hb); (try clear hk); obtain ⟨hcz256_0, hcz256_1, hfz256_0, hfz256_1⟩ := bC2 BK469) | ((with_reducible refine gate_callee (f := 33) rfl ?_); refine gl (some 59) Try.func33 #[.agg #[.slice Ao250 t461.length co250, .slice Ao254 t464.length co254], .int .i64 t467, .int .i64 t468] ?_; (with_reducible refine (spec_SectorText.calls k _ _ t461 _ _ t464 t467 t468 t472 t473 _ ?side1 ?side2 ?side3 ?side4 A10.out).mono ?_); (case side1 => exact cG (Kd.R_reads' HO463.out).2.2); (case side2 => exact (Kd.R_reads' HO463.out).2.1); (case side3 => exact cG (Kd.R_reads' HO466.out).2.2); (case side4 => exact (Kd.R_reads' HO466.out).2.1); rintro e w257 ⟨rfl, hb⟩; refine ⟨_, rfl, ?_⟩; replace HO444 := rB HO444 hb; replace HO447 := rB HO447 hb; replace HO451 := rB HO451 hb; replace HO454 := rB HO454 hb; replace HO463 := rB HO463 hb; replace HO466 := rB HO466 hb; replace BK448 := bB BK448 hb; replace BK456 := bB BK456 hb; replace BK469 := bB BK469 hb; replace HB := ak (below_step (lT HB (gC GE448 (gC GE456 (gC GE469 gN)))) hb); (try clear hb); (try clear hk)) | ((with_reducible refine gate_callee (f := 34) rfl ?_); refine gl (some 63) Try.func34 #[.int .i64 3] ?_; (with_reducible refine (impl_DiskNew.calls k 3 t474 t477 t480 _ A11.out).mono ?_); rintro e w258 ⟨v475, v478, rfl, ho0, ho1, hb⟩; refine ⟨_, rfl, ?_⟩; replace HO476 := ak (Kd.R_lower (Kd.R_new' (Kd.R_new' (Kd.R_new' ho0 (Kd.R_lt (rG HO444))) (Kd.R_lt (rG HO451))) (Kd.R_lt (rG HO463))) (below_size (lT HB (gC GE448 (gC GE456 (gC GE469 gN)))))); replace HO444 := ak (Kd.R_elder' (rG HO444) (Kd.R_base ho0) hb); replace HO451 := ak (Kd.R_elder' (rG HO451) (Kd.R_base ho0) hb); replace HO463 := ak (Kd.R_elder' (rG HO463) (Kd.R_base ho0) hb); replace HO479 := ak (Kd.R_lower (Kd.R_new' (Kd.R_new' (Kd.R_new' ho1 (Kd.R_lt (rG HO447))) (Kd.R_lt (rG HO454))) (Kd.R_lt (rG HO466))) (below_size (lT HB (gC GE448 (gC GE456 (gC GE469 gN)))))); replace HO447 := ak (Kd.R_elder' (rG HO447) (Kd.R_base ho1) hb); replace HO454 := ak (Kd.R_elder' (rG HO454) (Kd.R_base ho1) hb); replace HO466 := ak (Kd.R_elder' (rG HO466) (Kd.R_base ho1) hb); replace BK448 := bB BK448 hb; replace BK456 := bB BK456 hb; replace BK469 := bB BK469 hb; replace HB := ak (below_step (lT HB (gC GE448 (gC GE456 (gC GE469 gN)))) hb); (try clear hb); (try clear hk); (try clear ho0); (try clear ho1)) | ((with_reducible refine gate_dst (N := 17) rfl ?_); (try (refine gate_guard (by rfl) ?_; dsimp only)); refine bx 17 #[.slice none 0 0, .slice none 0 0] 27 ?_; intro gb481 hg w259 hbox hb; replace HO444 := rB HO444 hb; replace HO447 := rB HO447 hb; replace HO451 := rB HO451 hb; replace HO454 := rB HO454 hb; replace HO463 := rB HO463 hb; replace HO466 := rB HO466 hb; replace HO476 := rB HO476 hb; replace HO479 := rB HO479 hb; replace BK481 := ak (hbox); replace GW481 := ak (bz hg (lT HB (gC GE448 (gC GE456 (gC GE469 gN))))); replace GE481 := ak (bz hg (lT HB (gC GE448 (gC GE456 (gC GE469 gN))))); replace HB := ak (below_step (lT HB (gC GE448 (gC GE456 (gC GE469 gN)))) hb); replace NB448_481 := ak (nl hg (bG BK448)); replace NB481_448 := ak (ng hg (bG BK448)); replace BK448 := bB BK448 hb; replace NB456_481 := ak (nl hg (bG BK456)); replace NB481_456 := ak (ng hg (bG BK456)); replace BK456 := bB BK456 hb; replace NB469_481 := ak (nl hg (bG BK469)); replace NB481_469 := ak (ng hg (bG BK469)); replace BK469 := bB BK469 hb; clear hb hbox hg; obtain ⟨Ao260, co260, eo260⟩ := Kd.R_slice HO476.out; subst eo260; have hnb261 := NB481_448.out; have hnc261 := NB448_481.out; have hnb262 := NB481_456.out; have hnc262 := NB456_481.out; have hnb263 := NB481_469.out; have hnc263 := NB469_481.out; obtain ⟨hcz264_0, hcz264_1, hfz264_0, hfz264_1⟩ := bC2 BK481; obtain ⟨Ao265, co265, eo265⟩ := Kd.R_slice HO479.out; subst eo265) | ((with_reducible refine gate_callee (f := 34) rfl ?_); refine gl (some 67) Try.func34 #[.int .i64 0] ?_; (with_reducible refine (impl_DiskNew.calls k 0 t482 t485 t488 _ A12.out).mono ?_); rintro e w266 ⟨v483, v486, rfl, ho0, ho1, hb⟩; refine ⟨_, rfl, ?_⟩; replace HO484 := ak (Kd.R_lower (Kd.R_new' (Kd.R_new' (Kd.R_new' (Kd.R_new' ho0 (Kd.R_lt (rT HO444 BK481 (by decide)))) (Kd.R_lt (rT HO451 BK481 (by decide)))) (Kd.R_lt (rT HO463 BK481 (by decide)))) (Kd.R_lt (rT HO476 BK481 (by decide)))) (below_size (lT HB (gC GE448 (gC GE456 (gC GE469 (gC GE481 gN))))))); replace HO444 := ak (Kd.R_elder' (rT HO444 BK481 (by decide)) (Kd.R_base ho0) hb); replace HO451 := ak (Kd.R_elder' (rT HO451 BK481 (by decide)) (Kd.R_base ho0) hb); replace HO463 := ak (Kd.R_elder' (rT HO463 BK481 (by decide)) (Kd.R_base ho0) hb); replace HO476 := ak (Kd.R_elder' (rT HO476 BK481 (by decide)) (Kd.R_base ho0) hb); replace HO487 := ak (Kd.R_lower (Kd.R_new' (Kd.R_new' (Kd.R_new' (Kd.R_new' ho1 (Kd.R_lt (rT HO447 BK481 (by decide)))) (Kd.R_lt (rT HO454 BK481 (by decide)))) (Kd.R_lt (rT HO466 BK481 (by decide)))) (Kd.R_lt (rT HO479 BK481 (by decide)))) (below_size (lT HB (gC GE448 (gC GE456 (gC GE469 (gC GE481 gN))))))); replace HO447 := ak (Kd.R_elder' (rT HO447 BK481 (by decide)) (Kd.R_base ho1) hb); replace HO454 := ak (Kd.R_elder' (rT HO454 BK481 (by decide)) (Kd.R_base ho1) hb); replace HO466 := ak (Kd.R_elder' (rT HO466 BK481 (by decide)) (Kd.R_base ho1) hb); replace HO479 := ak (Kd.R_elder' (rT HO479 BK481 (by decide)) (Kd.R_base ho1) hb); replace BK448 := ak (blk_below (bT BK448 (nC NB448_481 nN)) hb); replace BK456 := ak (blk_below (bT BK456 (nC NB456_481 nN)) hb); replace BK469 := ak (blk_below (bT BK469 (nC NB469_481 nN)) hb); replace BK481 := ak (blk_below (g := gb481) (o := .cells #[.slice Ao260 t474.length co260, .slice Ao265 t477.length co265] 27 (0, 0)) (bW BK481) hb); replace HB := ak (below_step (lT HB (gC GE448 (gC GE456 (gC GE469 (gC GE481 gN))))) hb); (try clear hb); (try clear hk); (try clear ho0); (try clear ho1)) | ((with_reducible refine gate_dst (N := 19) rfl ?_); (try (refine gate_guard (by rfl) ?_; dsimp only)); refine bx 19 #[.slice none 0 0, .slice none 0 0] 27 ?_; intro gb489 hg w267 hbox hb; replace HO444 := rB HO444 hb; replace HO447 := rB HO447 hb; replace HO451 := rB HO451 hb; replace HO454 := rB HO454 hb; replace HO463 := rB HO463 hb; replace HO466 := rB HO466 hb; replace HO476 := rB HO476 hb; replace HO479 := rB HO479 hb; replace HO484 := rB HO484 hb; replace HO487 := rB HO487 hb; replace BK489 := ak (hbox); replace GW489 := ak (bz hg (lT HB (gC GE448 (gC GE456 (gC GE469 (gC GE481 gN)))))); replace GE489 := ak (bz hg (lT HB (gC GE448 (gC GE456 (gC GE469 (gC GE481 gN)))))); replace HB := ak (below_step (lT HB (gC GE448 (gC GE456 (gC GE469 (gC GE481 gN))))) hb); replace NB448_489 := ak (nl hg (bG BK448)); replace NB489_448 := ak (ng hg (bG BK448)); replace BK448 := bB BK448 hb; replace NB456_489 := ak (nl hg (bG BK456)); replace NB489_456 := ak (ng hg (bG BK456)); replace BK456 := bB BK456 hb; replace NB469_489 := ak (nl hg (bG BK469)); replace NB489_469 := ak (ng hg (bG BK469)); replace BK469 := bB BK469 hb; replace NB481_489 := ak (nl hg (bG BK481)); replace NB489_481 := ak (ng hg (bG BK481)); replace BK481 := bB BK481 hb; clear hb hbox hg; obtain ⟨Ao268, co268, eo268⟩ := Kd.R_slice HO484.out; subst eo268; have hnb269 := NB489_448.out; have hnc269 := NB448_489.out; have hnb270 := NB489_456.out; have hnc270 := NB456_489.out; have hnb271 := NB489_469.out; have hnc271 := NB469_489.out; have hnb272 := NB489_481.out; have hnc272 := NB481_489.out; obtain ⟨hcz273_0, hcz273_1, hfz273_0, hfz273_1⟩ := bC2 BK489; obtain ⟨Ao274, co274, eo274⟩ := Kd.R_slice HO487.out; subst eo274))
 have n0_ : Aside0 (Kd.R Kd.string 9 ((w267.setCell ⟨gb489, 0, none⟩ (.slice Ao268 t482.length co268)).setCell ⟨gb489, 1, none⟩ (.slice Ao274 t485.length co274)) w.heap.size (fun k_ => some k_ ≠ (.slice Ao241 t449.length co241 : Value).ownBlock ∧ some k_ ≠ (.slice Ao250 t461.length co250 : Value).ownBlock ∧ some k_ ≠ (.slice Ao260 t474.length co260 : Value).ownBlock ∧ some k_ ≠ (.slice Ao268 t482.length co268 : Value).ownBlock) (.slice Ao236 t442.length co236) t442) := ⟨by (with_reducible repeat (first | apply Kd.R_alloc | apply Kd.R_drewN | apply Kd.R_drew)); exact Kd.R_mono (Kd.R_far (p := ⟨gb489, 1, none⟩) (Kd.R_far (p := ⟨gb489, 0, none⟩) (Kd.R_types HO444.out BK489.out (by decide)) (fun _ hk => hk.2) (.slice Ao268 t482.length co268)) (fun _ hk => hk.2) (.slice Ao274 t485.length co274)) (fun _ hk => ⟨hk.1.1.1.1.2, ⟨hk.1.1.1.2, ⟨hk.1.1.2, hk.1.2⟩⟩⟩)⟩
 have n1_ : Aside0 (Kd.R k63 63 ((w267.setCell ⟨gb489, 0, none⟩ (.slice Ao268 t482.length co268)).setCell ⟨gb489, 1, none⟩ (.slice Ao274 t485.length co274)) w.heap.size (fun k_ => some k_ ≠ (.slice Ao244 t452.length co244 : Value).ownBlock ∧ some k_ ≠ (.slice Ao254 t464.length co254 : Value).ownBlock ∧ some k_ ≠ (.slice Ao265 t477.length co265 : Value).ownBlock ∧ some k_ ≠ (.slice Ao274 t485.length co274 : Value).ownBlock) (.slice Ao238 t445.length co238) t445) := ⟨by (with_reducible repeat (first | apply Kd.R_alloc | apply Kd.R_drewN | apply Kd.R_drew)); exact Kd.R_mono (Kd.R_far (p := ⟨gb489, 1, none⟩) (Kd.R_far (p := ⟨gb489, 0, none⟩) (Kd.R_types HO447.out BK489.out (by decide)) (fun _ hk => hk.2) (.slice Ao268 t482.length co268)) (fun _ hk => hk.2) (.slice Ao274 t485.length co274)) (fun _ hk => ⟨hk.1.1.1.1.2, ⟨hk.1.1.1.2, ⟨hk.1.1.2, hk.1.2⟩⟩⟩)⟩
 have n2_ : Aside0 (Kd.R Kd.string 9 ((w267.setCell ⟨gb489, 0, none⟩ (.slice Ao268 t482.length co268)).setCell ⟨gb489, 1, none⟩ (.slice Ao274 t485.length co274)) w.heap.size (fun k_ => some k_ ≠ (.slice Ao236 t442.length co236 : Value).ownBlock ∧ some k_ ≠ (.slice Ao250 t461.length co250 : Value).ownBlock ∧ some k_ ≠ (.slice Ao260 t474.length co260 : Value).ownBlock ∧ some k_ ≠ (.slice Ao268 t482.length co268 : Value).ownBlock) (.slice Ao241 t449.length co241) t449) := ⟨by (with_reducible repeat (first | apply Kd.R_alloc | apply Kd.R_drewN | apply Kd.R_drew)); exact Kd.R_mono (Kd.R_far (p := ⟨gb489, 1, none⟩) (Kd.R_far (p := ⟨gb489, 0, none⟩) (Kd.R_types HO451.out BK489.out (by decide)) (fun _ hk => hk.2) (.slice Ao268 t482.length co268)) (fun _ hk => hk.2) (.slice Ao274 t485.length co274)) (fun _ hk => ⟨hk.1.1.1.1.2, ⟨hk.1.1.1.2, ⟨hk.1.1.2, hk.1.2⟩⟩⟩)⟩
 have n3_ : Aside0 (Kd.R k63 63 ((w267.setCell ⟨gb489, 0, none⟩ (.slice Ao268 t482.length co268)).setCell ⟨gb489, 1, none⟩ (.slice Ao274 t485.length co274)) w.heap.size (fun k_ => some k_ ≠ (.slice Ao238 t445.length co238 : Value).ownBlock ∧ some k_ ≠ (.slice Ao254 t464.length co254 : Value).ownBlock ∧ some k_ ≠ (.slice Ao265 t477.length co265 : Value).ownBlock ∧ some k_ ≠ (.slice Ao274 t485.length co274 : Value).ownBlock) (.slice Ao244 t452.length co244) t452) := ⟨by (with_reducible repeat (first | apply Kd.R_alloc | apply Kd.R_drewN | apply Kd.R_drew)); exact Kd.R_mono (Kd.R_far (p := ⟨gb489, 1, none⟩) (Kd.R_far (p := ⟨gb489, 0, none⟩) (Kd.R_types HO454.out BK489.out (by decide)) (fun _ hk => hk.2) (.slice Ao268 t482.length co268)) (fun _ hk => hk.2) (.slice Ao274 t485.length co274)) (fun _ hk => ⟨hk.1.1.1.1.2, ⟨hk.1.1.1.2, ⟨hk.1.1.2, hk.1.2⟩⟩⟩)⟩
 have n4_ : Aside0 (Kd.R Kd.string 9 ((w267.setCell ⟨gb489, 0, none⟩ (.slice Ao268 t482.length co268)).setCell ⟨gb489, 1, none⟩ (.slice Ao274 t485.length co274)) w.heap.size (fun k_ => some k_ ≠ (.slice Ao236 t442.length co236 : Value).ownBlock ∧ some k_ ≠ (.slice Ao241 t449.length co241 : Value).ownBlock ∧ some k_ ≠ (.slice Ao260 t474.length co260 : Value).ownBlock ∧ some k_ ≠ (.slice Ao268 t482.length co268 : Value).ownBlock) (.slice Ao250 t461.length co250) t461) := ⟨by (with_reducible repeat (first | apply Kd.R_alloc | apply Kd.R_drewN | apply Kd.R_drew)); exact Kd.R_mono (Kd.R_far (p := ⟨gb489, 1, none⟩) (Kd.R_far (p := ⟨gb489, 0, none⟩) (Kd.R_types HO463.out BK489.out (by decide)) (fun _ hk => hk.2) (.slice Ao268 t482.length co268)) (fun _ hk => hk.2) (.slice Ao274 t485.length co274)) (fun _ hk => ⟨hk.1.1.1.1.2, ⟨hk.1.1.1.2, ⟨hk.1.1.2, hk.1.2⟩⟩⟩)⟩
 have n5_ : Aside0 (Kd.R k63 63 ((w267.setCell ⟨gb489, 0, none⟩ (.slice Ao268 t482.length co268)).setCell ⟨gb489, 1, none⟩ (.slice Ao274 t485.length co274)) w.heap.size (fun k_ => some k_ ≠ (.slice Ao238 t445.length co238 : Value).ownBlock ∧ some k_ ≠ (.slice Ao244 t452.length co244 : Value).ownBlock ∧ some k_ ≠ (.slice Ao265 t477.length co265 : Value).ownBlock ∧ some k_ ≠ (.slice Ao274 t485.length co274 : Value).ownBlock) (.slice Ao254 t464.length co254) t464) := ⟨by (with_reducible repeat (first | apply Kd.R_alloc | apply Kd.R_drewN | apply Kd.R_drew)); exact Kd.R_mono (Kd.R_far (p := ⟨gb489, 1, none⟩) (Kd.R_far (p := ⟨gb489, 0, none⟩) (Kd.R_types HO466.out BK489.out (by decide)) (fun _ hk => hk.2) (.slice Ao268 t482.length co268)) (fun _ hk => hk.2) (.slice Ao274 t485.length co274)) (fun _ hk => ⟨hk.1.1.1.1.2, ⟨hk.1.1.1.2, ⟨hk.1.1.2, hk.1.2⟩⟩⟩)⟩
 have n6_ : Aside0 (Kd.R Kd.string 9 ((w267.setCell ⟨gb489, 0, none⟩ (.slice Ao268 t482.length co268)).setCell ⟨gb489, 1, none⟩ (.slice Ao274 t485.length co274)) w.heap.size (fun k_ => some k_ ≠ (.slice Ao236 t442.length co236 : Value).ownBlock ∧ some k_ ≠ (.slice Ao241 t449.length co241 : Value).ownBlock ∧ some k_ ≠ (.slice Ao250 t461.length co250 : Value).ownBlock ∧ some k_ ≠ (.slice Ao268 t482.length co268 : Value).ownBlock) (.slice Ao260 t474.length co260) t474) := ⟨by (with_reducible repeat (first | apply Kd.R_alloc | apply Kd.R_drewN | apply Kd.R_drew)); exact Kd.R_mono (Kd.R_far (p := ⟨gb489, 1, none⟩) (Kd.R_far (p := ⟨gb489, 0, none⟩) (Kd.R_types HO476.out BK489.out (by decide)) (fun _ hk => hk.2) (.slice Ao268 t482.length co268)) (fun _ hk => hk.2) (.slice Ao274 t485.length co274)) (fun _ hk => ⟨hk.1.1.1.1.2, ⟨hk.1.1.1.2, ⟨hk.1.1.2, hk.1.2⟩⟩⟩)⟩
 have n7_ : Aside0 (Kd.R k63 63 ((w267.setCell ⟨gb489, 0, none⟩ (.slice Ao268 t482.length co268)).setCell ⟨gb489, 1, none⟩ (.slice Ao274 t485.length co274)) w.heap.size (fun k_ => some k_ ≠ (.slice Ao238 t445.length co238 : Value).ownBlock ∧ some k_ ≠ (.slice Ao244 t452.length co244 : Value).ownBlock ∧ some k_ ≠ (.slice Ao254 t464.length co254 : Value).ownBlock ∧ some k_ ≠ (.slice Ao274 t485.length co274 : Value).ownBlock) (.slice Ao265 t477.length co265) t477) := ⟨by (with_reducible repeat (first | apply Kd.R_alloc | apply Kd.R_drewN | apply Kd.R_drew)); exact Kd.R_mono (Kd.R_far (p := ⟨gb489, 1, none⟩) (Kd.R_far (p := ⟨gb489, 0, none⟩) (Kd.R_types HO479.out BK489.out (by decide)) (fun _ hk => hk.2) (.slice Ao268 t482.length co268)) (fun _ hk => hk.2) (.slice Ao274 t485.length co274)) (fun _ hk => ⟨hk.1.1.1.1.2, ⟨hk.1.1.1.2, ⟨hk.1.1.2, hk.1.2⟩⟩⟩)⟩
 have n8_ : Aside0 (Kd.R Kd.string 9 ((w267.setCell ⟨gb489, 0, none⟩ (.slice Ao268 t482.length co268)).setCell ⟨gb489, 1, none⟩ (.slice Ao274 t485.length co274)) w.heap.size (fun k_ => some k_ ≠ (.slice Ao236 t442.length co236 : Value).ownBlock ∧ some k_ ≠ (.slice Ao241 t449.length co241 : Value).ownBlock ∧ some k_ ≠ (.slice Ao250 t461.length co250 : Value).ownBlock ∧ some k_ ≠ (.slice Ao260 t474.length co260 : Value).ownBlock) (.slice Ao268 t482.length co268) t482) := ⟨by (with_reducible repeat (first | apply Kd.R_alloc | apply Kd.R_drewN | apply Kd.R_drew)); exact Kd.R_mono (Kd.R_far (p := ⟨gb489, 1, none⟩) (Kd.R_far (p := ⟨gb489, 0, none⟩) (Kd.R_types HO484.out BK489.out (by decide)) (fun _ hk => hk.2) (.slice Ao268 t482.length co268)) (fun _ hk => hk.2) (.slice Ao274 t485.length co274)) (fun _ hk => ⟨hk.1.1.1.1.2, ⟨hk.1.1.1.2, ⟨hk.1.1.2, hk.1.2⟩⟩⟩)⟩
 have n9_ : Aside0 (Kd.R k63 63 ((w267.setCell ⟨gb489, 0, none⟩ (.slice Ao268 t482.length co268)).setCell ⟨gb489, 1, none⟩ (.slice Ao274 t485.length co274)) w.heap.size (fun k_ => some k_ ≠ (.slice Ao238 t445.length co238 : Value).ownBlock ∧ some k_ ≠ (.slice Ao244 t452.length co244 : Value).ownBlock ∧ some k_ ≠ (.slice Ao254 t464.length co254 : Value).ownBlock ∧ some k_ ≠ (.slice Ao265 t477.length co265 : Value).ownBlock) (.slice Ao274 t485.length co274) t485) := ⟨by (with_reducible repeat (first | apply Kd.R_alloc | apply Kd.R_drewN | apply Kd.R_drew)); exact Kd.R_mono (Kd.R_far (p := ⟨gb489, 1, none⟩) (Kd.R_far (p := ⟨gb489, 0, none⟩) (Kd.R_types HO487.out BK489.out (by decide)) (fun _ hk => hk.2) (.slice Ao268 t482.length co268)) (fun _ hk => hk.2) (.slice Ao274 t485.length co274)) (fun _ hk => ⟨hk.1.1.1.1.2, ⟨hk.1.1.1.2, ⟨hk.1.1.2, hk.1.2⟩⟩⟩)⟩
 have n10_ : Aside0 (((w267.setCell ⟨gb489, 0, none⟩ (.slice Ao268 t482.length co268)).setCell ⟨gb489, 1, none⟩ (.slice Ao274 t485.length co274)).heap[gb448]? = some (.cells #[.slice Ao236 t442.length co236, .slice Ao238 t445.length co238] 27 (0, 0))) := ⟨by (with_reducible repeat (first | refine blk_drewN ?_ _ | refine blk_drew ?_ | refine blk_alloc ?_ _)); refine blk_far ?_ NB448_489.out _; (with_reducible repeat (first | refine blk_drewN ?_ _ | refine blk_drew ?_ | refine blk_alloc ?_ _)); refine blk_far ?_ NB448_489.out _; (with_reducible repeat (first | refine blk_drewN ?_ _ | refine blk_drew ?_ | refine blk_alloc ?_ _)); exact BK448.out⟩
 have n11_ : Aside0 (((w267.setCell ⟨gb489, 0, none⟩ (.slice Ao268 t482.length co268)).setCell ⟨gb489, 1, none⟩ (.slice Ao274 t485.length co274)).heap[gb456]? = some (.cells #[.slice Ao241 t449.length co241, .slice Ao244 t452.length co244] 27 (0, 0))) := ⟨by (with_reducible repeat (first | refine blk_drewN ?_ _ | refine blk_drew ?_ | refine blk_alloc ?_ _)); refine blk_far ?_ NB456_489.out _; (with_reducible repeat (first | refine blk_drewN ?_ _ | refine blk_drew ?_ | refine blk_alloc ?_ _)); refine blk_far ?_ NB456_489.out _; (with_reducible repeat (first | refine blk_drewN ?_ _ | refine blk_drew ?_ | refine blk_alloc ?_ _)); exact BK456.out⟩
 have n12_ : Aside0 (((w267.setCell ⟨gb489, 0, none⟩ (.slice Ao268 t482.length co268)).setCell ⟨gb489, 1, none⟩ (.slice Ao274 t485.length co274)).heap[gb469]? = some (.cells #[.slice Ao250 t461.length co250, .slice Ao254 t464.length co254] 27 (0, 0))) := ⟨by (with_reducible repeat (first | refine blk_drewN ?_ _ | refine blk_drew ?_ | refine blk_alloc ?_ _)); refine blk_far ?_ NB469_489.out _; (with_reducible repeat (first | refine blk_drewN ?_ _ | refine blk_drew ?_ | refine blk_alloc ?_ _)); refine blk_far ?_ NB469_489.out _; (with_reducible repeat (first | refine blk_drewN ?_ _ | refine blk_drew ?_ | refine blk_alloc ?_ _)); exact BK469.out⟩
 have n13_ : Aside0 (((w267.setCell ⟨gb489, 0, none⟩ (.slice Ao268 t482.length co268)).setCell ⟨gb489, 1, none⟩ (.slice Ao274 t485.length co274)).heap[gb481]? = some (.cells #[.slice Ao260 t474.length co260, .slice Ao265 t477.length co265] 27 (0, 0))) := ⟨by (with_reducible repeat (first | refine blk_drewN ?_ _ | refine blk_drew ?_ | refine blk_alloc ?_ _)); refine blk_far ?_ NB481_489.out _; (with_reducible repeat (first | refine blk_drewN ?_ _ | refine blk_drew ?_ | refine blk_alloc ?_ _)); refine blk_far ?_ NB481_489.out _; (with_reducible repeat (first | refine blk_drewN ?_ _ | refine blk_drew ?_ | refine blk_alloc ?_ _)); exact BK481.out⟩
 have n14_ : Aside0 (((w267.setCell ⟨gb489, 0, none⟩ (.slice Ao268 t482.length co268)).setCell ⟨gb489, 1, none⟩ (.slice Ao274 t485.length co274)).heap[gb489]? = some (.cells #[.slice Ao268 t482.length co268, .slice Ao274 t485.length co274] 27 (0, 0))) := ⟨bW BK489⟩
 have n15_ : Aside0 (Below w.heap.size w ((w267.setCell ⟨gb489, 0, none⟩ (.slice Ao268 t482.length co268)).setCell ⟨gb489, 1, none⟩ (.slice Ao274 t485.length co274))) := ⟨by exact lT HB (gC GE448 (gC GE456 (gC GE469 (gC GE481 (gC GE489 gN)))))⟩
 (try clear HO444)
 (try clear HO447)
 (try clear HO451)
 (try clear HO454)
 (try clear HO463)
 (try clear HO466)
 (try clear HO476)
 (try clear HO479)
 (try clear HO484)
 (try clear HO487)
 (try clear BK448)
 (try clear BK456)
 (try clear BK469)
 (try clear BK481)
 (try clear BK489)
 (try clear HB)
 generalize ((w267.setCell ⟨gb489, 0, none⟩ (.slice Ao268 t482.length co268)).setCell ⟨gb489, 1, none⟩ (.slice Ao274 t485.length co274)) = w275 at n0_ n1_ n2_ n3_ n4_ n5_ n6_ n7_ n8_ n9_ n10_ n11_ n12_ n13_ n14_ n15_ ⊢
 have HO444 := n0_
 have HO447 := n1_
 have HO451 := n2_
 have HO454 := n3_
 have HO463 := n4_
 have HO466 := n5_
 have HO476 := n6_
 have HO479 := n7_
 have HO484 := n8_
 have HO487 := n9_
 have BK448 := n10_
 have BK456 := n11_
 have BK469 := n12_
 have BK481 := n13_
 have BK489 := n14_
 have HB := n15_
 clear n0_ n1_ n2_ n3_ n4_ n5_ n6_ n7_ n8_ n9_ n10_ n11_ n12_ n13_ n14_ n15_
 replace HO444 := ak (Kd.R_drew HO444.out)
 replace HO447 := ak (Kd.R_drew HO447.out)
 replace HO451 := ak (Kd.R_drew HO451.out)
 replace HO454 := ak (Kd.R_drew HO454.out)
 replace HO463 := ak (Kd.R_drew HO463.out)
 replace HO466 := ak (Kd.R_drew HO466.out)
 replace HO476 := ak (Kd.R_drew HO476.out)
 replace HO479 := ak (Kd.R_drew HO479.out)
 replace HO484 := ak (Kd.R_drew HO484.out)
 replace HO487 := ak (Kd.R_drew HO487.out)
 replace BK448 := ak (blk_drew BK448.out)
 replace BK456 := ak (blk_drew BK456.out)
 replace BK469 := ak (blk_drew BK469.out)
 replace BK481 := ak (blk_drew BK481.out)
 replace BK489 := ak (blk_drew BK489.out)
 replace HB := ak (below_drew1 HB.out)
 refine start_ (n := 46) (S := fun w' => w'.cell? ⟨gb448, 0, none⟩ = some (.slice Ao236 t442.length co236) ∧ w'.cell? ⟨gb448, 1, none⟩ = some (.slice Ao238 t445.length co238)) (ds := []) #[f_,f_,f_,f_,f_,f_,f_,f_,f_,f_,f_,f_,f_,f_,f_,f_,f_,f_,f_,f_,f_,f_,f_,f_,f_,f_,f_,f_,f_,f_,f_,f_,f_,f_,f_,f_,f_,f_,f_,f_,f_,f_,f_,f_,f_,f_] (by kernel_rfl) rfl rfl ⟨bc BK448 0, bc BK448 1⟩ (fun hHeld => ?_); refine with_tabW laws_FnDisksTold.tab12 laws_FnDisksTold.bits12 (fun HT_ HW_ => ?_)
 generalize w275.drew = w276 at HO444 HO447 HO451 HO454 HO463 HO466 HO476 HO479 HO484 HO487 BK448 BK456 BK469 BK481 BK489 HB hHeld ⊢
 refine tk 0 70 (fb 46 1) HT_ HW_ hHeld ?_
 refine tk 2 72 (fb 46 5) HT_ HW_ hHeld ?_
 refine on 1 (some 71) (fb 46 7) HT_ (fun K hK => ?_)
 refine goes_ Try.func16 (by kernel_rfl) rfl #[.agg #[.slice Ao236 t442.length co236, .slice Ao238 t445.length co238]] (by rfl) rfl rfl (by (try simp only [List.map_toArray, List.map_cons, List.map_nil]); first | done | rfl | (simp only [List.length_drop, List.length_take]; rfl)) ?_
 with_reducible refine (impl_DiskOk.calls _ _ t442 _ _ t445 t490 _ ?side1 ?side2 ?side3 ?side4 A13.out).mono ?_
 (case side1 => exact cG (Kd.R_reads' HO444.out).2.2)
 (case side2 => exact (Kd.R_reads' HO444.out).2.1)
 (case side3 => exact cG (Kd.R_reads' HO447.out).2.2)
 (case side4 => exact (Kd.R_reads' HO447.out).2.1)
 rintro e w277 ⟨rfl, hb⟩
 refine ⟨_, rfl, ?_⟩
 replace HO444 := rB HO444 hb
 replace HO447 := rB HO447 hb
 replace HO451 := rB HO451 hb
 replace HO454 := rB HO454 hb
 replace HO463 := rB HO463 hb
 replace HO466 := rB HO466 hb
 replace HO476 := rB HO476 hb
 replace HO479 := rB HO479 hb
 replace HO484 := rB HO484 hb
 replace HO487 := rB HO487 hb
 replace BK448 := bB BK448 hb
 replace BK456 := bB BK456 hb
 replace BK469 := bB BK469 hb
 replace BK481 := bB BK481 hb
 replace BK489 := bB BK489 hb
 replace HB := ak (below_step (lT HB (gC GE448 (gC GE456 (gC GE469 (gC GE481 (gC GE489 gN)))))) hb)
 (try clear hb)
 (try clear hb2)
 (try clear hk)
 (try clear hi)
 refine hK.out _ _ ⟨bc BK448 0, bc BK448 1⟩ (fun hHeld => ?_)
 clear hK K
 refine nm ?_
 refine on 3 (some 73) (fb 46 15) HT_ (fun K hK => ?_)
 refine goes_ Try.func35 (by kernel_rfl) rfl #[.agg #[.slice Ao236 t442.length co236, .slice Ao238 t445.length co238]] (by rfl) rfl rfl (by (try simp only [List.map_toArray, List.map_cons, List.map_nil]); first | done | rfl | (simp only [List.length_drop, List.length_take]; rfl)) ?_
 with_reducible refine (spec_DiskOk.calls k _ _ t442 _ _ t445 t491 _ ?side1 ?side2 ?side3 ?side4 A14.out).mono ?_
 (case side1 => exact cG (Kd.R_reads' HO444.out).2.2)
 (case side2 => exact (Kd.R_reads' HO444.out).2.1)
 (case side3 => exact cG (Kd.R_reads' HO447.out).2.2)
 (case side4 => exact (Kd.R_reads' HO447.out).2.1)
 rintro e w278 ⟨rfl, hb⟩
 refine ⟨_, rfl, ?_⟩
 replace HO444 := rB HO444 hb
 replace HO447 := rB HO447 hb
 replace HO451 := rB HO451 hb
 replace HO454 := rB HO454 hb
 replace HO463 := rB HO463 hb
 replace HO466 := rB HO466 hb
 replace HO476 := rB HO476 hb
 replace HO479 := rB HO479 hb
 replace HO484 := rB HO484 hb
 replace HO487 := rB HO487 hb
 replace BK448 := bB BK448 hb
 replace BK456 := bB BK456 hb
 replace BK469 := bB BK469 hb
 replace BK481 := bB BK481 hb
 replace BK489 := bB BK489 hb
 replace HB := ak (below_step (lT HB (gC GE448 (gC GE456 (gC GE469 (gC GE481 (gC GE489 gN)))))) hb)
 (try clear hb)
 (try clear hb2)
 (try clear hk)
 (try clear hi)
 refine hK.out _ _ ⟨bc BK448 0, bc BK448 1⟩ (fun hHeld => ?_)
 clear hK K
 refine nm ?_
 refine pu 4 74 (fb 46 31) HT_ ?_
 refine pu 5 75 (fb 46 63) HT_ ?_
 refine pu 6 76 (fb 46 127) HT_ ?_
 refine pu 7 77 (fb 46 255) HT_ ?_
 refine pu 8 78 (fb 46 511) HT_ ?_
 refine pu 9 79 (fb 46 1023) HT_ ?_
 refine pu 10 80 (fb 46 2047) HT_ ?_
 refine pu 11 81 (fb 46 4095) HT_ ?_
 refine pu 12 82 (fb 46 8191) HT_ ?_
 refine pu 13 83 (fb 46 16383) HT_ ?_
 refine pu 14 84 (fb 46 32767) HT_ ?_
 refine pu 15 85 (fb 46 65535) HT_ ?_
 refine pu 16 86 (fb 46 131071) HT_ ?_
 refine pu 17 87 (fb 46 262143) HT_ ?_
 refine pu 18 88 (fb 46 524287) HT_ ?_
 refine pu 19 89 (fb 46 1048575) HT_ ?_
 refine pu 20 90 (fb 46 2097151) HT_ ?_
 refine pu 21 91 (fb 46 4194303) HT_ ?_
 refine pu 22 92 (fb 46 8388607) HT_ ?_
 refine pu 23 93 (fb 46 16777215) HT_ ?_
 refine pu 24 94 (fb 46 33554431) HT_ ?_
 refine pu 25 95 (fb 46 67108863) HT_ ?_
 refine pn 26 96 (fb 46 134217727) HT_ ?_
 refine pn 27 97 (fb 46 268435455) HT_ ?_
 refine pn 28 98 (fb 46 536870911) HT_ ?_
 refine pn 29 99 (fb 46 1073741823) HT_ ?_
 refine pn 30 100 (fb 46 2147483647) HT_ ?_
 refine pu 31 101 (fb 46 4294967295) HT_ ?_
 refine pu 32 102 (fb 46 8589934591) HT_ ?_
 refine pn 33 103 (fb 46 17179869183) HT_ ?_
 refine pu 34 104 (fb 46 34359738367) HT_ ?_
 refine pu 35 105 (fb 46 68719476735) HT_ ?_
 refine pn 36 106 (fb 46 137438953471) HT_ ?_
 refine pn 37 107 (fb 46 274877906943) HT_ ?_
 refine pu 38 108 (fb 46 549755813887) HT_ ?_
 refine pu 39 109 (fb 46 1099511627775) HT_ ?_
 refine pn 40 110 (fb 46 2199023255551) HT_ ?_
 refine pn 41 111 (fb 46 4398046511103) HT_ ?_
 refine pn 42 112 (fb 46 8796093022207) HT_ ?_
 refine pn 43 113 (fb 46 17592186044415) HT_ ?_
 refine pu 44 114 (fb 46 35184372088831) HT_ ?_
 refine pu 45 2 (fb 46 70368744177663) HT_ ?_
 refine done_ (done_of HT_.out (by kernel_rfl)) ?_
 try go_wp2
 go_ret
 exact ⟨ew, by exact lT HB (gC GE448 (gC GE456 (gC GE469 (gC GE481 (gC GE489 gN)))))⟩
set_option maxHeartbeats 8000000 in
set_option maxRecDepth 100000 in
theorem laws_FnDisksTold.leaf6 (k : Nat) (A0 : Option Addr) (c0 : Nat) (l0 : List Int) (w : World) (HR0 : Aside0 (Kd.C (Kd.int IntKind.u8) w A0 (List.length l0) l0)) (HC0 : Aside0 (List.length l0 ≤ c0)) (HB : Aside0 (Below (Array.size (World.heap w)) w w)) (A2 : Aside0 (laws_big.f l0 = some false)) (t442 : List ByteArray) (t445 : List S63) (A4 : Aside0 (spec_DrawDiskOk.f k l0 = some (t442, t445))) (t449 : List ByteArray) (t452 : List S63) (t455 : Int) (A5 : Aside0 (spec_DrawReadSector.f k l0 = some (t449, t452, t455))) (t457 : ByteArray) (t458 : Bool) (A6 : Aside0 (impl_ReadSector.f k t449 t452 t455 = some (t457, t458))) (t459 : ByteArray) (t460 : Bool) (A7 : Aside0 (spec_ReadSector.f k t449 t452 t455 = some (t459, t460))) (t461 : List ByteArray) (t464 : List S63) (t467 t468 : Int) (A8 : Aside0 (spec_DrawSectorText.f k l0 = some (t461, t464, t467, t468))) (t470 : ByteArray) (t471 : Bool) (A9 : Aside0 (impl_SectorText.f k t461 t464 t467 t468 = some (t470, t471))) (t472 : ByteArray) (t473 : Bool) (A10 : Aside0 (spec_SectorText.f k t461 t464 t467 t468 = some (t472, t473))) (t474 : List ByteArray) (t477 : List S63) (t480 : Bool) (A11 : Aside0 (impl_DiskNew.f k 3 = some (t474, t477, t480))) (t482 : List ByteArray) (t485 : List S63) (t488 : Bool) (A12 : Aside0 (impl_DiskNew.f k 0 = some (t482, t485, t488))) (t490 : Bool) (A13 : Aside0 (impl_DiskOk.f t442 t445 = some t490)) (t491 : Bool) (A14 : Aside0 (spec_DiskOk.f k t442 t445 = some t491)) (c15b0 : (t490 == t491) = true) (c15b1 : decide (t490 = t491) = true) (c15b2 : (t490 == t491) = true) (c16b0 : (t458 == t460) = true) (c16b1 : decide (t458 = t460) = true) (c16b2 : (t458 == t460) = true) (c17b0 : (ByteArray.toList t457 == ByteArray.toList t459) = true) (c17b1 : (ByteArray.toList t457 != ByteArray.toList t459) = false) (c18b0 : (t471 == t473) = false) (c18b1 : decide (t471 = t473) = false) (c18b2 : (t471 == t473) = false) (c18b3 : ¬t471 = t473) (H : some false = some false) : Calls Try.prog 7 #[Value.slice A0 (List.length l0) c0] w fun e w' => e = Ending.returned (Value.bool false) ∧ Below (Array.size (World.heap w)) w w' := by
 have hu27 := Try.underlying27
 go_enter Try.func7, Try.ntmps7
 try go_wp2_with (first | ((with_reducible refine gate_callee (f := 9) rfl ?_); refine gl (some 22) Try.func9 #[.slice A0 l0.length c0] ?_; (with_reducible refine (laws_big.calls _ _ l0 false _ ?side1 ?side2 A2.out).mono ?_); (case side1 => repeat (first | exact HR0.out | (with_reducible refine Kd.C_alloc ?_ _) | (with_reducible refine Kd.C_drewN ?_ _) | (with_reducible refine Kd.C_drew ?_))); (case side2 => exact HC0.out); rintro e w' ⟨rfl, ⟨nd, rfl⟩⟩; refine ⟨_, rfl, ?_⟩) | ((with_reducible refine gate_callee (f := 29) rfl ?_); refine gl (some 24) Try.func29 #[.slice A0 l0.length c0] ?_; (with_reducible refine (spec_DrawDiskOk.calls k _ _ l0 t442 t445 _ ?side1 ?side2 A4.out).mono ?_); (case side1 => repeat (first | exact HR0.out | (with_reducible refine Kd.C_alloc ?_ _) | (with_reducible refine Kd.C_drewN ?_ _) | (with_reducible refine Kd.C_drew ?_))); (case side2 => exact HC0.out); rintro e w279 ⟨v443, v446, rfl, ho0, ho1, hb⟩; refine ⟨_, rfl, ?_⟩; replace HO444 := ak (Kd.R_lower ho0 (below_size (lG HB))); replace HO447 := ak (Kd.R_lower ho1 (below_size (lG HB))); replace HB := lB HB hb; (try clear hb); (try clear hk); (try clear ho0); (try clear ho1)) | ((with_reducible refine gate_dst (N := 3) rfl ?_); (try (refine gate_guard (by rfl) ?_; dsimp only)); refine bx 3 #[.slice none 0 0, .slice none 0 0] 27 ?_; intro gb448 hg w280 hbox hb; replace HO444 := rB HO444 hb; replace HO447 := rB HO447 hb; replace BK448 := ak (hbox); replace GW448 := ak (bz hg (lG HB)); replace GE448 := ak (bz hg (lG HB)); replace HB := lB HB hb; clear hb hbox hg; obtain ⟨Ao281, co281, eo281⟩ := Kd.R_slice HO444.out; subst eo281; obtain ⟨hcz282_0, hcz282_1, hfz282_0, hfz282_1⟩ := bC2 BK448; obtain ⟨Ao283, co283, eo283⟩ := Kd.R_slice HO447.out; subst eo283) | ((with_reducible refine gate_callee (f := 30) rfl ?_); refine gl (some 27) Try.func30 #[.slice A0 l0.length c0] ?_; (with_reducible refine (spec_DrawReadSector.calls k _ _ l0 t449 t452 t455 _ ?side1 ?side2 A5.out).mono ?_); (case side1 => exact Kd.C_below HR0.out (lT HB (gC GE448 gN))); (case side2 => exact HC0.out); rintro e w284 ⟨v450, v453, rfl, ho0, ho1, hb⟩; refine ⟨_, rfl, ?_⟩; replace HO451 := ak (Kd.R_lower (Kd.R_new' ho0 (Kd.R_lt (rT HO444 BK448 (by decide)))) (below_size (lT HB (gC GE448 gN)))); replace HO444 := ak (Kd.R_elder' (rT HO444 BK448 (by decide)) (Kd.R_base ho0) hb); replace HO454 := ak (Kd.R_lower (Kd.R_new' ho1 (Kd.R_lt (rT HO447 BK448 (by decide)))) (below_size (lT HB (gC GE448 gN)))); replace HO447 := ak (Kd.R_elder' (rT HO447 BK448 (by decide)) (Kd.R_base ho1) hb); replace BK448 := ak (blk_below (g := gb448) (o := .cells #[.slice Ao281 t442.length co281, .slice Ao283 t445.length co283] 27 (0, 0)) (bW BK448) hb); replace HB := ak (below_step (lT HB (gC GE448 gN)) hb); (try clear hb); (try clear hk); (try clear ho0); (try clear ho1)) | ((with_reducible refine gate_dst (N := 4) rfl ?_); (try (refine gate_guard (by rfl) ?_; dsimp only)); refine bx 4 #[.slice none 0 0, .slice none 0 0] 27 ?_; intro gb456 hg w285 hbox hb; replace HO444 := rB HO444 hb; replace HO447 := rB HO447 hb; replace HO451 := rB HO451 hb; replace HO454 := rB HO454 hb; replace BK456 := ak (hbox); replace GW456 := ak (bz hg (lT HB (gC GE448 gN))); replace GE456 := ak (bz hg (lT HB (gC GE448 gN))); replace HB := ak (below_step (lT HB (gC GE448 gN)) hb); replace NB448_456 := ak (nl hg (bG BK448)); replace NB456_448 := ak (ng hg (bG BK448)); replace BK448 := bB BK448 hb; clear hb hbox hg; obtain ⟨Ao286, co286, eo286⟩ := Kd.R_slice HO451.out; subst eo286; have hnb287 := NB456_448.out; have hnc287 := NB448_456.out; obtain ⟨hcz288_0, hcz288_1, hfz288_0, hfz288_1⟩ := bC2 BK456; obtain ⟨Ao289, co289, eo289⟩ := Kd.R_slice HO454.out; subst eo289) | ((with_reducible refine gate_callee (f := 15) rfl ?_); refine gl (some 33) Try.func15 #[.agg #[.slice Ao286 t449.length co286, .slice Ao289 t452.length co289], .int .i64 t455] ?_; (with_reducible refine (impl_ReadSector.calls k _ _ t449 _ _ t452 t455 t457 t458 _ ?side1 ?side2 ?side3 ?side4 A6.out).mono ?_); (case side1 => exact (Kd.R_reads' (rT HO451 BK456 (by decide))).2.2); (case side2 => exact (Kd.R_reads' HO451.out).2.1); (case side3 => exact (Kd.R_reads' (rT HO454 BK456 (by decide))).2.2); (case side4 => exact (Kd.R_reads' HO454.out).2.1); rintro e w290 ⟨rfl, hb⟩; refine ⟨_, rfl, ?_⟩; replace HO444 := ak (Kd.R_below (rT HO444 BK456 (by decide)) hb); replace HO447 := ak (Kd.R_below (rT HO447 BK456 (by decide)) hb); replace HO451 := ak (Kd.R_below (rT HO451 BK456 (by decide)) hb); replace HO454 := ak (Kd.R_below (rT HO454 BK456 (by decide)) hb); replace BK448 := ak (blk_below (bT BK448 (nC NB448_456 nN)) hb); replace BK456 := ak (blk_below (g := gb456) (o := .cells #[.slice Ao286 t449.length co286, .slice Ao289 t452.length co289] 27 (0, 0)) (bW BK456) hb); replace HB := ak (below_step (lT HB (gC GE448 (gC GE456 gN))) hb); (try clear hb); (try clear hk); obtain ⟨hcz291_0, hcz291_1, hfz291_0, hfz291_1⟩ := bC2 BK456) | ((with_reducible refine gate_callee (f := 14) rfl ?_); refine gl (some 39) Try.func14 #[.agg #[.slice Ao286 t449.length co286, .slice Ao289 t452.length co289], .int .i64 t455] ?_; (with_reducible refine (spec_ReadSector.calls k _ _ t449 _ _ t452 t455 t459 t460 _ ?side1 ?side2 ?side3 ?side4 A7.out).mono ?_); (case side1 => exact cG (Kd.R_reads' HO451.out).2.2); (case side2 => exact (Kd.R_reads' HO451.out).2.1); (case side3 => exact cG (Kd.R_reads' HO454.out).2.2); (case side4 => exact (Kd.R_reads' HO454.out).2.1); rintro e w292 ⟨rfl, hb⟩; refine ⟨_, rfl, ?_⟩; replace HO444 := rB HO444 hb; replace HO447 := rB HO447 hb; replace HO451 := rB HO451 hb; replace HO454 := rB HO454 hb; replace BK448 := bB BK448 hb; replace BK456 := bB BK456 hb; replace HB := ak (below_step (lT HB (gC GE448 (gC GE456 gN))) hb); (try clear hb); (try clear hk)) | ((with_reducible refine gate_callee (f := 31) rfl ?_); refine gl (some 44) Try.func31 #[.slice A0 l0.length c0] ?_; (with_reducible refine (spec_DrawSectorText.calls k _ _ l0 t461 t464 t467 t468 _ ?side1 ?side2 A8.out).mono ?_); (case side1 => exact cG (Kd.C_below HR0.out HB.out)); (case side2 => exact HC0.out); rintro e w293 ⟨v462, v465, rfl, ho0, ho1, hb⟩; refine ⟨_, rfl, ?_⟩; replace HO463 := ak (Kd.R_lower (Kd.R_new' (Kd.R_new' ho0 (Kd.R_lt (rG HO444))) (Kd.R_lt (rG HO451))) (below_size (lT HB (gC GE448 (gC GE456 gN))))); replace HO444 := ak (Kd.R_elder' (rG HO444) (Kd.R_base ho0) hb); replace HO451 := ak (Kd.R_elder' (rG HO451) (Kd.R_base ho0) hb); replace HO466 := ak (Kd.R_lower (Kd.R_new' (Kd.R_new' ho1 (Kd.R_lt (rG HO447))) (Kd.R_lt (rG HO454))) (below_size (lT HB (gC GE448 (gC GE456 gN))))); replace HO447 := ak (Kd.R_elder' (rG HO447) (Kd.R_base ho1) hb); replace HO454 := ak (Kd.R_elder' (rG HO454) (Kd.R_base ho1) hb); replace BK448 := bB BK448 hb; replace BK456 := bB BK456 hb; replace HB := ak (below_step (lT HB (gC GE448 (gC GE456 gN))) hb); (try clear hb); (try clear hk); (try clear ho0); (try clear ho1)) | ((with_reducible refine gate_dst (N := 10) rfl ?_); (try (refine gate_guard (by rfl) ?_; dsimp only)); refine bx 10 #[.slice none 0 0, .slice none 0 0] 27 ?_; intro gb469 hg w294 hbox hb; replace HO444 := rB HO444 hb; replace HO447 := rB HO447 hb; replace HO451 := rB HO451 hb; replace HO454 := rB HO454 hb; replace HO463 := rB HO463 hb; replace HO466 := rB HO466 hb; replace BK469 := ak (hbox); replace GW469 := ak (bz hg (lT HB (gC GE448 (gC GE456 gN)))); replace GE469 := ak (bz hg (lT HB (gC GE448 (gC GE456 gN)))); replace HB := ak (below_step (lT HB (gC GE448 (gC GE456 gN))) hb); replace NB448_469 := ak (nl hg (bG BK448)); replace NB469_448 := ak (ng hg (bG BK448)); replace BK448 := bB BK448 hb; replace NB456_469 := ak (nl hg (bG BK456)); replace NB469_456 := ak (ng hg (bG BK456)); replace BK456 := bB BK456 hb; clear hb hbox hg; obtain ⟨Ao295, co295, eo295⟩ := Kd.R_slice HO463.out; subst eo295; have hnb296 := NB469_448.out; have hnc296 := NB448_469.out; have hnb297 := NB469_456.out; have hnc297 := NB456_469.out; obtain ⟨hcz298_0, hcz298_1, hfz298_0, hfz298_1⟩ := bC2 BK469; obtain ⟨Ao299, co299, eo299⟩ := Kd.R_slice HO466.out; subst eo299) | ((with_reducible refine gate_callee (f := 32) rfl ?_); refine gl (some 52) Try.func32 #[.agg #[.slice Ao295 t461.length co295, .slice Ao299 t464.length co299], .int .i64 t467, .int .i64 t468] ?_; (with_reducible refine (impl_SectorText.calls k _ _ t461 _ _ t464 t467 t468 t470 t471 _ ?side1 ?side2 ?side3 ?side4 A9.out).mono ?_); (case side1 => exact (Kd.R_reads' (rT HO463 BK469 (by decide))).2.2); (case side2 => exact (Kd.R_reads' HO463.out).2.1); (case side3 => exact (Kd.R_reads' (rT HO466 BK469 (by decide))).2.2); (case side4 => exact (Kd.R_reads' HO466.out).2.1); rintro e w300 ⟨rfl, hb⟩; refine ⟨_, rfl, ?_⟩; replace HO444 := ak (Kd.R_below (rT HO444 BK469 (by decide)) hb); replace HO447 := ak (Kd.R_below (rT HO447 BK469 (by decide)) hb); replace HO451 := ak (Kd.R_below (rT HO451 BK469 (by decide)) hb); replace HO454 := ak (Kd.R_below (rT HO454 BK469 (by decide)) hb); replace HO463 := ak (Kd.R_below (rT HO463 BK469 (by decide)) hb); replace HO466 := ak (Kd.R_below (rT HO466 BK469 (by decide)) hb); replace BK448 := ak (blk_below (bT BK448 (nC NB448_469 nN)) hb); replace BK456 := ak (blk_below (bT BK456 (nC NB456_469 nN)) hb); replace BK469 := ak (blk_below (g := gb469) (o := .cells #[.slice Ao295 t461.length co295, .slice Ao299 t464.length co299] 27 (0, 0)) (bW BK469) hb); replace HB := ak (below_step (lT HB (gC GE448 (gC GE456 (gC GE469 gN)))) hb); (try clear hb); (try clear hk); obtain ⟨hcz301_0, hcz301_1, hfz301_0, hfz301_1⟩ := bC2 BK469) | ((with_reducible refine gate_callee (f := 33) rfl ?_); refine gl (some 59) Try.func33 #[.agg #[.slice Ao295 t461.length co295, .slice Ao299 t464.length co299], .int .i64 t467, .int .i64 t468] ?_; (with_reducible refine (spec_SectorText.calls k _ _ t461 _ _ t464 t467 t468 t472 t473 _ ?side1 ?side2 ?side3 ?side4 A10.out).mono ?_); (case side1 => exact cG (Kd.R_reads' HO463.out).2.2); (case side2 => exact (Kd.R_reads' HO463.out).2.1); (case side3 => exact cG (Kd.R_reads' HO466.out).2.2); (case side4 => exact (Kd.R_reads' HO466.out).2.1); rintro e w302 ⟨rfl, hb⟩; refine ⟨_, rfl, ?_⟩; replace HO444 := rB HO444 hb; replace HO447 := rB HO447 hb; replace HO451 := rB HO451 hb; replace HO454 := rB HO454 hb; replace HO463 := rB HO463 hb; replace HO466 := rB HO466 hb; replace BK448 := bB BK448 hb; replace BK456 := bB BK456 hb; replace BK469 := bB BK469 hb; replace HB := ak (below_step (lT HB (gC GE448 (gC GE456 (gC GE469 gN)))) hb); (try clear hb); (try clear hk)) | ((with_reducible refine gate_callee (f := 34) rfl ?_); refine gl (some 63) Try.func34 #[.int .i64 3] ?_; (with_reducible refine (impl_DiskNew.calls k 3 t474 t477 t480 _ A11.out).mono ?_); rintro e w303 ⟨v475, v478, rfl, ho0, ho1, hb⟩; refine ⟨_, rfl, ?_⟩; replace HO476 := ak (Kd.R_lower (Kd.R_new' (Kd.R_new' (Kd.R_new' ho0 (Kd.R_lt (rG HO444))) (Kd.R_lt (rG HO451))) (Kd.R_lt (rG HO463))) (below_size (lT HB (gC GE448 (gC GE456 (gC GE469 gN)))))); replace HO444 := ak (Kd.R_elder' (rG HO444) (Kd.R_base ho0) hb); replace HO451 := ak (Kd.R_elder' (rG HO451) (Kd.R_base ho0) hb); replace HO463 := ak (Kd.R_elder' (rG HO463) (Kd.R_base ho0) hb); replace HO479 := ak (Kd.R_lower (Kd.R_new' (Kd.R_new' (Kd.R_new' ho1 (Kd.R_lt (rG HO447))) (Kd.R_lt (rG HO454))) (Kd.R_lt (rG HO466))) (below_size (lT HB (gC GE448 (gC GE456 (gC GE469 gN)))))); replace HO447 := ak (Kd.R_elder' (rG HO447) (Kd.R_base ho1) hb); replace HO454 := ak (Kd.R_elder' (rG HO454) (Kd.R_base ho1) hb); replace HO466 := ak (Kd.R_elder' (rG HO466) (Kd.R_base ho1) hb); replace BK448 := bB BK448 hb; replace BK456 := bB BK456 hb; replace BK469 := bB BK469 hb; replace HB := ak (below_step (lT HB (gC GE448 (gC GE456 (gC GE469 gN)))) hb); (try clear hb); (try clear hk); (try clear ho0); (try clear ho1)) | ((with_reducible refine gate_dst (N := 17) rfl ?_); (try (refine gate_guard (by rfl) ?_; dsimp only)); refine bx 17 #[.slice none 0 0, .slice none 0 0] 27 ?_; intro gb481 hg w304 hbox hb; replace HO444 := rB HO444 hb; replace HO447 := rB HO447 hb; replace HO451 := rB HO451 hb; replace HO454 := rB HO454 hb; replace HO463 := rB HO463 hb; replace HO466 := rB HO466 hb; replace HO476 := rB HO476 hb; replace HO479 := rB HO479 hb; replace BK481 := ak (hbox); replace GW481 := ak (bz hg (lT HB (gC GE448 (gC GE456 (gC GE469 gN))))); replace GE481 := ak (bz hg (lT HB (gC GE448 (gC GE456 (gC GE469 gN))))); replace HB := ak (below_step (lT HB (gC GE448 (gC GE456 (gC GE469 gN)))) hb); replace NB448_481 := ak (nl hg (bG BK448)); replace NB481_448 := ak (ng hg (bG BK448)); replace BK448 := bB BK448 hb; replace NB456_481 := ak (nl hg (bG BK456)); replace NB481_456 := ak (ng hg (bG BK456)); replace BK456 := bB BK456 hb; replace NB469_481 := ak (nl hg (bG BK469)); replace NB481_469 := ak (ng hg (bG BK469)); replace BK469 := bB BK469 hb; clear hb hbox hg; obtain ⟨Ao305, co305, eo305⟩ := Kd.R_slice HO476.out; subst eo305; have hnb306 := NB481_448.out; have hnc306 := NB448_481.out; have hnb307 := NB481_456.out; have hnc307 := NB456_481.out; have hnb308 := NB481_469.out; have hnc308 := NB469_481.out; obtain ⟨hcz309_0, hcz309_1, hfz309_0, hfz309_1⟩ := bC2 BK481; obtain ⟨Ao310, co310, eo310⟩ := Kd.R_slice HO479.out; subst eo310) | ((with_reducible refine gate_callee (f := 34) rfl ?_); refine gl (some 67) Try.func34 #[.int .i64 0] ?_; (with_reducible refine (impl_DiskNew.calls k 0 t482 t485 t488 _ A12.out).mono ?_); rintro e w311 ⟨v483, v486, rfl, ho0, ho1, hb⟩; refine ⟨_, rfl, ?_⟩; replace HO484 := ak (Kd.R_lower (Kd.R_new' (Kd.R_new' (Kd.R_new' (Kd.R_new' ho0 (Kd.R_lt (rT HO444 BK481 (by decide)))) (Kd.R_lt (rT HO451 BK481 (by decide)))) (Kd.R_lt (rT HO463 BK481 (by decide)))) (Kd.R_lt (rT HO476 BK481 (by decide)))) (below_size (lT HB (gC GE448 (gC GE456 (gC GE469 (gC GE481 gN))))))); replace HO444 := ak (Kd.R_elder' (rT HO444 BK481 (by decide)) (Kd.R_base ho0) hb); replace HO451 := ak (Kd.R_elder' (rT HO451 BK481 (by decide)) (Kd.R_base ho0) hb); replace HO463 := ak (Kd.R_elder' (rT HO463 BK481 (by decide)) (Kd.R_base ho0) hb); replace HO476 := ak (Kd.R_elder' (rT HO476 BK481 (by decide)) (Kd.R_base ho0) hb); replace HO487 := ak (Kd.R_lower (Kd.R_new' (Kd.R_new' (Kd.R_new' (Kd.R_new' ho1 (Kd.R_lt (rT HO447 BK481 (by decide)))) (Kd.R_lt (rT HO454 BK481 (by decide)))) (Kd.R_lt (rT HO466 BK481 (by decide)))) (Kd.R_lt (rT HO479 BK481 (by decide)))) (below_size (lT HB (gC GE448 (gC GE456 (gC GE469 (gC GE481 gN))))))); replace HO447 := ak (Kd.R_elder' (rT HO447 BK481 (by decide)) (Kd.R_base ho1) hb); replace HO454 := ak (Kd.R_elder' (rT HO454 BK481 (by decide)) (Kd.R_base ho1) hb); replace HO466 := ak (Kd.R_elder' (rT HO466 BK481 (by decide)) (Kd.R_base ho1) hb); replace HO479 := ak (Kd.R_elder' (rT HO479 BK481 (by decide)) (Kd.R_base ho1) hb); replace BK448 := ak (blk_below (bT BK448 (nC NB448_481 nN)) hb); replace BK456 := ak (blk_below (bT BK456 (nC NB456_481 nN)) hb); replace BK469 := ak (blk_below (bT BK469 (nC NB469_481 nN)) hb); replace BK481 := ak (blk_below (g := gb481) (o := .cells #[.slice Ao305 t474.length co305, .slice Ao310 t477.length co310] 27 (0, 0)) (bW BK481) hb); replace HB := ak (below_step (lT HB (gC GE448 (gC GE456 (gC GE469 (gC GE481 gN))))) hb); (try clear hb); (try clear hk); (try clear ho0); (try clear ho1)) | ((with_reducible refine gate_dst (N := 19) rfl ?_); (try (refine gate_guard (by rfl) ?_; dsimp only)); refine bx 19 #[.slice none 0 0, .slice none 0 0] 27 ?_; intro gb489 hg w312 hbox hb; replace HO444 := rB HO444 hb; replace HO447 := rB HO447 hb; replace HO451 := rB HO451 hb; replace HO454 := rB HO454 hb; replace HO463 := rB HO463 hb; replace HO466 := rB HO466 hb; replace HO476 := rB HO476 hb; replace HO479 := rB HO479 hb; replace HO484 := rB HO484 hb; replace HO487 := rB HO487 hb; replace BK489 := ak (hbox); replace GW489 := ak (bz hg (lT HB (gC GE448 (gC GE456 (gC GE469 (gC GE481 gN)))))); replace GE489 := ak (bz hg (lT HB (gC GE448 (gC GE456 (gC GE469 (gC GE481 gN)))))); replace HB := ak (below_step (lT HB (gC GE448 (gC GE456 (gC GE469 (gC GE481 gN))))) hb); replace NB448_489 := ak (nl hg (bG BK448)); replace NB489_448 := ak (ng hg (bG BK448)); replace BK448 := bB BK448 hb; replace NB456_489 := ak (nl hg (bG BK456)); replace NB489_456 := ak (ng hg (bG BK456)); replace BK456 := bB BK456 hb; replace NB469_489 := ak (nl hg (bG BK469)); replace NB489_469 := ak (ng hg (bG BK469)); replace BK469 := bB BK469 hb; replace NB481_489 := ak (nl hg (bG BK481)); replace NB489_481 := ak (ng hg (bG BK481)); replace BK481 := bB BK481 hb; clear hb hbox hg; obtain ⟨Ao313, co313, eo313⟩ := Kd.R_slice HO484.out; subst eo313; have hnb314 := NB489_448.out; have hnc314 := NB448_489.out; have hnb315 := NB489_456.out; have hnc315 := NB456_489.out; have hnb316 := NB489_469.out; have hnc316 := NB469_489.out; have hnb317 := NB489_481.out; have hnc317 := NB481_489.out; obtain ⟨hcz318_0, hcz318_1, hfz318_0, hfz318_1⟩ := bC2 BK489; obtain ⟨Ao319, co319, eo319⟩ := Kd.R_slice HO487.out; subst eo319))
 have n0_ : Aside0 (Kd.R Kd.string 9 ((w312.setCell ⟨gb489, 0, none⟩ (.slice Ao313 t482.length co313)).setCell ⟨gb489, 1, none⟩ (.slice Ao319 t485.length co319)) w.heap.size (fun k_ => some k_ ≠ (.slice Ao286 t449.length co286 : Value).ownBlock ∧ some k_ ≠ (.slice Ao295 t461.length co295 : Value).ownBlock ∧ some k_ ≠ (.slice Ao305 t474.length co305 : Value).ownBlock ∧ some k_ ≠ (.slice Ao313 t482.length co313 : Value).ownBlock) (.slice Ao281 t442.length co281) t442) := ⟨by (with_reducible repeat (first | apply Kd.R_alloc | apply Kd.R_drewN | apply Kd.R_drew)); exact Kd.R_mono (Kd.R_far (p := ⟨gb489, 1, none⟩) (Kd.R_far (p := ⟨gb489, 0, none⟩) (Kd.R_types HO444.out BK489.out (by decide)) (fun _ hk => hk.2) (.slice Ao313 t482.length co313)) (fun _ hk => hk.2) (.slice Ao319 t485.length co319)) (fun _ hk => ⟨hk.1.1.1.1.2, ⟨hk.1.1.1.2, ⟨hk.1.1.2, hk.1.2⟩⟩⟩)⟩
 have n1_ : Aside0 (Kd.R k63 63 ((w312.setCell ⟨gb489, 0, none⟩ (.slice Ao313 t482.length co313)).setCell ⟨gb489, 1, none⟩ (.slice Ao319 t485.length co319)) w.heap.size (fun k_ => some k_ ≠ (.slice Ao289 t452.length co289 : Value).ownBlock ∧ some k_ ≠ (.slice Ao299 t464.length co299 : Value).ownBlock ∧ some k_ ≠ (.slice Ao310 t477.length co310 : Value).ownBlock ∧ some k_ ≠ (.slice Ao319 t485.length co319 : Value).ownBlock) (.slice Ao283 t445.length co283) t445) := ⟨by (with_reducible repeat (first | apply Kd.R_alloc | apply Kd.R_drewN | apply Kd.R_drew)); exact Kd.R_mono (Kd.R_far (p := ⟨gb489, 1, none⟩) (Kd.R_far (p := ⟨gb489, 0, none⟩) (Kd.R_types HO447.out BK489.out (by decide)) (fun _ hk => hk.2) (.slice Ao313 t482.length co313)) (fun _ hk => hk.2) (.slice Ao319 t485.length co319)) (fun _ hk => ⟨hk.1.1.1.1.2, ⟨hk.1.1.1.2, ⟨hk.1.1.2, hk.1.2⟩⟩⟩)⟩
 have n2_ : Aside0 (Kd.R Kd.string 9 ((w312.setCell ⟨gb489, 0, none⟩ (.slice Ao313 t482.length co313)).setCell ⟨gb489, 1, none⟩ (.slice Ao319 t485.length co319)) w.heap.size (fun k_ => some k_ ≠ (.slice Ao281 t442.length co281 : Value).ownBlock ∧ some k_ ≠ (.slice Ao295 t461.length co295 : Value).ownBlock ∧ some k_ ≠ (.slice Ao305 t474.length co305 : Value).ownBlock ∧ some k_ ≠ (.slice Ao313 t482.length co313 : Value).ownBlock) (.slice Ao286 t449.length co286) t449) := ⟨by (with_reducible repeat (first | apply Kd.R_alloc | apply Kd.R_drewN | apply Kd.R_drew)); exact Kd.R_mono (Kd.R_far (p := ⟨gb489, 1, none⟩) (Kd.R_far (p := ⟨gb489, 0, none⟩) (Kd.R_types HO451.out BK489.out (by decide)) (fun _ hk => hk.2) (.slice Ao313 t482.length co313)) (fun _ hk => hk.2) (.slice Ao319 t485.length co319)) (fun _ hk => ⟨hk.1.1.1.1.2, ⟨hk.1.1.1.2, ⟨hk.1.1.2, hk.1.2⟩⟩⟩)⟩
 have n3_ : Aside0 (Kd.R k63 63 ((w312.setCell ⟨gb489, 0, none⟩ (.slice Ao313 t482.length co313)).setCell ⟨gb489, 1, none⟩ (.slice Ao319 t485.length co319)) w.heap.size (fun k_ => some k_ ≠ (.slice Ao283 t445.length co283 : Value).ownBlock ∧ some k_ ≠ (.slice Ao299 t464.length co299 : Value).ownBlock ∧ some k_ ≠ (.slice Ao310 t477.length co310 : Value).ownBlock ∧ some k_ ≠ (.slice Ao319 t485.length co319 : Value).ownBlock) (.slice Ao289 t452.length co289) t452) := ⟨by (with_reducible repeat (first | apply Kd.R_alloc | apply Kd.R_drewN | apply Kd.R_drew)); exact Kd.R_mono (Kd.R_far (p := ⟨gb489, 1, none⟩) (Kd.R_far (p := ⟨gb489, 0, none⟩) (Kd.R_types HO454.out BK489.out (by decide)) (fun _ hk => hk.2) (.slice Ao313 t482.length co313)) (fun _ hk => hk.2) (.slice Ao319 t485.length co319)) (fun _ hk => ⟨hk.1.1.1.1.2, ⟨hk.1.1.1.2, ⟨hk.1.1.2, hk.1.2⟩⟩⟩)⟩
 have n4_ : Aside0 (Kd.R Kd.string 9 ((w312.setCell ⟨gb489, 0, none⟩ (.slice Ao313 t482.length co313)).setCell ⟨gb489, 1, none⟩ (.slice Ao319 t485.length co319)) w.heap.size (fun k_ => some k_ ≠ (.slice Ao281 t442.length co281 : Value).ownBlock ∧ some k_ ≠ (.slice Ao286 t449.length co286 : Value).ownBlock ∧ some k_ ≠ (.slice Ao305 t474.length co305 : Value).ownBlock ∧ some k_ ≠ (.slice Ao313 t482.length co313 : Value).ownBlock) (.slice Ao295 t461.length co295) t461) := ⟨by (with_reducible repeat (first | apply Kd.R_alloc | apply Kd.R_drewN | apply Kd.R_drew)); exact Kd.R_mono (Kd.R_far (p := ⟨gb489, 1, none⟩) (Kd.R_far (p := ⟨gb489, 0, none⟩) (Kd.R_types HO463.out BK489.out (by decide)) (fun _ hk => hk.2) (.slice Ao313 t482.length co313)) (fun _ hk => hk.2) (.slice Ao319 t485.length co319)) (fun _ hk => ⟨hk.1.1.1.1.2, ⟨hk.1.1.1.2, ⟨hk.1.1.2, hk.1.2⟩⟩⟩)⟩
 have n5_ : Aside0 (Kd.R k63 63 ((w312.setCell ⟨gb489, 0, none⟩ (.slice Ao313 t482.length co313)).setCell ⟨gb489, 1, none⟩ (.slice Ao319 t485.length co319)) w.heap.size (fun k_ => some k_ ≠ (.slice Ao283 t445.length co283 : Value).ownBlock ∧ some k_ ≠ (.slice Ao289 t452.length co289 : Value).ownBlock ∧ some k_ ≠ (.slice Ao310 t477.length co310 : Value).ownBlock ∧ some k_ ≠ (.slice Ao319 t485.length co319 : Value).ownBlock) (.slice Ao299 t464.length co299) t464) := ⟨by (with_reducible repeat (first | apply Kd.R_alloc | apply Kd.R_drewN | apply Kd.R_drew)); exact Kd.R_mono (Kd.R_far (p := ⟨gb489, 1, none⟩) (Kd.R_far (p := ⟨gb489, 0, none⟩) (Kd.R_types HO466.out BK489.out (by decide)) (fun _ hk => hk.2) (.slice Ao313 t482.length co313)) (fun _ hk => hk.2) (.slice Ao319 t485.length co319)) (fun _ hk => ⟨hk.1.1.1.1.2, ⟨hk.1.1.1.2, ⟨hk.1.1.2, hk.1.2⟩⟩⟩)⟩
 have n6_ : Aside0 (Kd.R Kd.string 9 ((w312.setCell ⟨gb489, 0, none⟩ (.slice Ao313 t482.length co313)).setCell ⟨gb489, 1, none⟩ (.slice Ao319 t485.length co319)) w.heap.size (fun k_ => some k_ ≠ (.slice Ao281 t442.length co281 : Value).ownBlock ∧ some k_ ≠ (.slice Ao286 t449.length co286 : Value).ownBlock ∧ some k_ ≠ (.slice Ao295 t461.length co295 : Value).ownBlock ∧ some k_ ≠ (.slice Ao313 t482.length co313 : Value).ownBlock) (.slice Ao305 t474.length co305) t474) := ⟨by (with_reducible repeat (first | apply Kd.R_alloc | apply Kd.R_drewN | apply Kd.R_drew)); exact Kd.R_mono (Kd.R_far (p := ⟨gb489, 1, none⟩) (Kd.R_far (p := ⟨gb489, 0, none⟩) (Kd.R_types HO476.out BK489.out (by decide)) (fun _ hk => hk.2) (.slice Ao313 t482.length co313)) (fun _ hk => hk.2) (.slice Ao319 t485.length co319)) (fun _ hk => ⟨hk.1.1.1.1.2, ⟨hk.1.1.1.2, ⟨hk.1.1.2, hk.1.2⟩⟩⟩)⟩
 have n7_ : Aside0 (Kd.R k63 63 ((w312.setCell ⟨gb489, 0, none⟩ (.slice Ao313 t482.length co313)).setCell ⟨gb489, 1, none⟩ (.slice Ao319 t485.length co319)) w.heap.size (fun k_ => some k_ ≠ (.slice Ao283 t445.length co283 : Value).ownBlock ∧ some k_ ≠ (.slice Ao289 t452.length co289 : Value).ownBlock ∧ some k_ ≠ (.slice Ao299 t464.length co299 : Value).ownBlock ∧ some k_ ≠ (.slice Ao319 t485.length co319 : Value).ownBlock) (.slice Ao310 t477.length co310) t477) := ⟨by (with_reducible repeat (first | apply Kd.R_alloc | apply Kd.R_drewN | apply Kd.R_drew)); exact Kd.R_mono (Kd.R_far (p := ⟨gb489, 1, none⟩) (Kd.R_far (p := ⟨gb489, 0, none⟩) (Kd.R_types HO479.out BK489.out (by decide)) (fun _ hk => hk.2) (.slice Ao313 t482.length co313)) (fun _ hk => hk.2) (.slice Ao319 t485.length co319)) (fun _ hk => ⟨hk.1.1.1.1.2, ⟨hk.1.1.1.2, ⟨hk.1.1.2, hk.1.2⟩⟩⟩)⟩
 have n8_ : Aside0 (Kd.R Kd.string 9 ((w312.setCell ⟨gb489, 0, none⟩ (.slice Ao313 t482.length co313)).setCell ⟨gb489, 1, none⟩ (.slice Ao319 t485.length co319)) w.heap.size (fun k_ => some k_ ≠ (.slice Ao281 t442.length co281 : Value).ownBlock ∧ some k_ ≠ (.slice Ao286 t449.length co286 : Value).ownBlock ∧ some k_ ≠ (.slice Ao295 t461.length co295 : Value).ownBlock ∧ some k_ ≠ (.slice Ao305 t474.length co305 : Value).ownBlock) (.slice Ao313 t482.length co313) t482) := ⟨by (with_reducible repeat (first | apply Kd.R_alloc | apply Kd.R_drewN | apply Kd.R_drew)); exact Kd.R_mono (Kd.R_far (p := ⟨gb489, 1, none⟩) (Kd.R_far (p := ⟨gb489, 0, none⟩) (Kd.R_types HO484.out BK489.out (by decide)) (fun _ hk => hk.2) (.slice Ao313 t482.length co313)) (fun _ hk => hk.2) (.slice Ao319 t485.length co319)) (fun _ hk => ⟨hk.1.1.1.1.2, ⟨hk.1.1.1.2, ⟨hk.1.1.2, hk.1.2⟩⟩⟩)⟩
 have n9_ : Aside0 (Kd.R k63 63 ((w312.setCell ⟨gb489, 0, none⟩ (.slice Ao313 t482.length co313)).setCell ⟨gb489, 1, none⟩ (.slice Ao319 t485.length co319)) w.heap.size (fun k_ => some k_ ≠ (.slice Ao283 t445.length co283 : Value).ownBlock ∧ some k_ ≠ (.slice Ao289 t452.length co289 : Value).ownBlock ∧ some k_ ≠ (.slice Ao299 t464.length co299 : Value).ownBlock ∧ some k_ ≠ (.slice Ao310 t477.length co310 : Value).ownBlock) (.slice Ao319 t485.length co319) t485) := ⟨by (with_reducible repeat (first | apply Kd.R_alloc | apply Kd.R_drewN | apply Kd.R_drew)); exact Kd.R_mono (Kd.R_far (p := ⟨gb489, 1, none⟩) (Kd.R_far (p := ⟨gb489, 0, none⟩) (Kd.R_types HO487.out BK489.out (by decide)) (fun _ hk => hk.2) (.slice Ao313 t482.length co313)) (fun _ hk => hk.2) (.slice Ao319 t485.length co319)) (fun _ hk => ⟨hk.1.1.1.1.2, ⟨hk.1.1.1.2, ⟨hk.1.1.2, hk.1.2⟩⟩⟩)⟩
 have n10_ : Aside0 (((w312.setCell ⟨gb489, 0, none⟩ (.slice Ao313 t482.length co313)).setCell ⟨gb489, 1, none⟩ (.slice Ao319 t485.length co319)).heap[gb448]? = some (.cells #[.slice Ao281 t442.length co281, .slice Ao283 t445.length co283] 27 (0, 0))) := ⟨by (with_reducible repeat (first | refine blk_drewN ?_ _ | refine blk_drew ?_ | refine blk_alloc ?_ _)); refine blk_far ?_ NB448_489.out _; (with_reducible repeat (first | refine blk_drewN ?_ _ | refine blk_drew ?_ | refine blk_alloc ?_ _)); refine blk_far ?_ NB448_489.out _; (with_reducible repeat (first | refine blk_drewN ?_ _ | refine blk_drew ?_ | refine blk_alloc ?_ _)); exact BK448.out⟩
 have n11_ : Aside0 (((w312.setCell ⟨gb489, 0, none⟩ (.slice Ao313 t482.length co313)).setCell ⟨gb489, 1, none⟩ (.slice Ao319 t485.length co319)).heap[gb456]? = some (.cells #[.slice Ao286 t449.length co286, .slice Ao289 t452.length co289] 27 (0, 0))) := ⟨by (with_reducible repeat (first | refine blk_drewN ?_ _ | refine blk_drew ?_ | refine blk_alloc ?_ _)); refine blk_far ?_ NB456_489.out _; (with_reducible repeat (first | refine blk_drewN ?_ _ | refine blk_drew ?_ | refine blk_alloc ?_ _)); refine blk_far ?_ NB456_489.out _; (with_reducible repeat (first | refine blk_drewN ?_ _ | refine blk_drew ?_ | refine blk_alloc ?_ _)); exact BK456.out⟩
 have n12_ : Aside0 (((w312.setCell ⟨gb489, 0, none⟩ (.slice Ao313 t482.length co313)).setCell ⟨gb489, 1, none⟩ (.slice Ao319 t485.length co319)).heap[gb469]? = some (.cells #[.slice Ao295 t461.length co295, .slice Ao299 t464.length co299] 27 (0, 0))) := ⟨by (with_reducible repeat (first | refine blk_drewN ?_ _ | refine blk_drew ?_ | refine blk_alloc ?_ _)); refine blk_far ?_ NB469_489.out _; (with_reducible repeat (first | refine blk_drewN ?_ _ | refine blk_drew ?_ | refine blk_alloc ?_ _)); refine blk_far ?_ NB469_489.out _; (with_reducible repeat (first | refine blk_drewN ?_ _ | refine blk_drew ?_ | refine blk_alloc ?_ _)); exact BK469.out⟩
 have n13_ : Aside0 (((w312.setCell ⟨gb489, 0, none⟩ (.slice Ao313 t482.length co313)).setCell ⟨gb489, 1, none⟩ (.slice Ao319 t485.length co319)).heap[gb481]? = some (.cells #[.slice Ao305 t474.length co305, .slice Ao310 t477.length co310] 27 (0, 0))) := ⟨by (with_reducible repeat (first | refine blk_drewN ?_ _ | refine blk_drew ?_ | refine blk_alloc ?_ _)); refine blk_far ?_ NB481_489.out _; (with_reducible repeat (first | refine blk_drewN ?_ _ | refine blk_drew ?_ | refine blk_alloc ?_ _)); refine blk_far ?_ NB481_489.out _; (with_reducible repeat (first | refine blk_drewN ?_ _ | refine blk_drew ?_ | refine blk_alloc ?_ _)); exact BK481.out⟩
 have n14_ : Aside0 (((w312.setCell ⟨gb489, 0, none⟩ (.slice Ao313 t482.length co313)).setCell ⟨gb489, 1, none⟩ (.slice Ao319 t485.length co319)).heap[gb489]? = some (.cells #[.slice Ao313 t482.length co313, .slice Ao319 t485.length co319] 27 (0, 0))) := ⟨bW BK489⟩
 have n15_ : Aside0 (Below w.heap.size w ((w312.setCell ⟨gb489, 0, none⟩ (.slice Ao313 t482.length co313)).setCell ⟨gb489, 1, none⟩ (.slice Ao319 t485.length co319))) := ⟨by exact lT HB (gC GE448 (gC GE456 (gC GE469 (gC GE481 (gC GE489 gN)))))⟩
 (try clear HO444)
 (try clear HO447)
 (try clear HO451)
 (try clear HO454)
 (try clear HO463)
 (try clear HO466)
 (try clear HO476)
 (try clear HO479)
 (try clear HO484)
 (try clear HO487)
 (try clear BK448)
 (try clear BK456)
 (try clear BK469)
 (try clear BK481)
 (try clear BK489)
 (try clear HB)
 generalize ((w312.setCell ⟨gb489, 0, none⟩ (.slice Ao313 t482.length co313)).setCell ⟨gb489, 1, none⟩ (.slice Ao319 t485.length co319)) = w320 at n0_ n1_ n2_ n3_ n4_ n5_ n6_ n7_ n8_ n9_ n10_ n11_ n12_ n13_ n14_ n15_ ⊢
 have HO444 := n0_
 have HO447 := n1_
 have HO451 := n2_
 have HO454 := n3_
 have HO463 := n4_
 have HO466 := n5_
 have HO476 := n6_
 have HO479 := n7_
 have HO484 := n8_
 have HO487 := n9_
 have BK448 := n10_
 have BK456 := n11_
 have BK469 := n12_
 have BK481 := n13_
 have BK489 := n14_
 have HB := n15_
 clear n0_ n1_ n2_ n3_ n4_ n5_ n6_ n7_ n8_ n9_ n10_ n11_ n12_ n13_ n14_ n15_
 replace HO444 := ak (Kd.R_drew HO444.out)
 replace HO447 := ak (Kd.R_drew HO447.out)
 replace HO451 := ak (Kd.R_drew HO451.out)
 replace HO454 := ak (Kd.R_drew HO454.out)
 replace HO463 := ak (Kd.R_drew HO463.out)
 replace HO466 := ak (Kd.R_drew HO466.out)
 replace HO476 := ak (Kd.R_drew HO476.out)
 replace HO479 := ak (Kd.R_drew HO479.out)
 replace HO484 := ak (Kd.R_drew HO484.out)
 replace HO487 := ak (Kd.R_drew HO487.out)
 replace BK448 := ak (blk_drew BK448.out)
 replace BK456 := ak (blk_drew BK456.out)
 replace BK469 := ak (blk_drew BK469.out)
 replace BK481 := ak (blk_drew BK481.out)
 replace BK489 := ak (blk_drew BK489.out)
 replace HB := ak (below_drew1 HB.out)
 refine start_ (n := 46) (S := fun w' => w'.cell? ⟨gb448, 0, none⟩ = some (.slice Ao281 t442.length co281) ∧ w'.cell? ⟨gb448, 1, none⟩ = some (.slice Ao283 t445.length co283)) (ds := []) #[f_,f_,f_,f_,f_,f_,f_,f_,f_,f_,f_,f_,f_,f_,f_,f_,f_,f_,f_,f_,f_,f_,f_,f_,f_,f_,f_,f_,f_,f_,f_,f_,f_,f_,f_,f_,f_,f_,f_,f_,f_,f_,f_,f_,f_,f_] (by kernel_rfl) rfl rfl ⟨bc BK448 0, bc BK448 1⟩ (fun hHeld => ?_); refine with_tabW laws_FnDisksTold.tab12 laws_FnDisksTold.bits12 (fun HT_ HW_ => ?_)
 generalize w320.drew = w321 at HO444 HO447 HO451 HO454 HO463 HO466 HO476 HO479 HO484 HO487 BK448 BK456 BK469 BK481 BK489 HB hHeld ⊢
 refine tk 0 70 (fb 46 1) HT_ HW_ hHeld ?_
 refine tk 2 72 (fb 46 5) HT_ HW_ hHeld ?_
 refine on 1 (some 71) (fb 46 7) HT_ (fun K hK => ?_)
 refine goes_ Try.func16 (by kernel_rfl) rfl #[.agg #[.slice Ao281 t442.length co281, .slice Ao283 t445.length co283]] (by rfl) rfl rfl (by (try simp only [List.map_toArray, List.map_cons, List.map_nil]); first | done | rfl | (simp only [List.length_drop, List.length_take]; rfl)) ?_
 with_reducible refine (impl_DiskOk.calls _ _ t442 _ _ t445 t490 _ ?side1 ?side2 ?side3 ?side4 A13.out).mono ?_
 (case side1 => exact cG (Kd.R_reads' HO444.out).2.2)
 (case side2 => exact (Kd.R_reads' HO444.out).2.1)
 (case side3 => exact cG (Kd.R_reads' HO447.out).2.2)
 (case side4 => exact (Kd.R_reads' HO447.out).2.1)
 rintro e w322 ⟨rfl, hb⟩
 refine ⟨_, rfl, ?_⟩
 replace HO444 := rB HO444 hb
 replace HO447 := rB HO447 hb
 replace HO451 := rB HO451 hb
 replace HO454 := rB HO454 hb
 replace HO463 := rB HO463 hb
 replace HO466 := rB HO466 hb
 replace HO476 := rB HO476 hb
 replace HO479 := rB HO479 hb
 replace HO484 := rB HO484 hb
 replace HO487 := rB HO487 hb
 replace BK448 := bB BK448 hb
 replace BK456 := bB BK456 hb
 replace BK469 := bB BK469 hb
 replace BK481 := bB BK481 hb
 replace BK489 := bB BK489 hb
 replace HB := ak (below_step (lT HB (gC GE448 (gC GE456 (gC GE469 (gC GE481 (gC GE489 gN)))))) hb)
 (try clear hb)
 (try clear hb2)
 (try clear hk)
 (try clear hi)
 refine hK.out _ _ ⟨bc BK448 0, bc BK448 1⟩ (fun hHeld => ?_)
 clear hK K
 refine nm ?_
 refine on 3 (some 73) (fb 46 15) HT_ (fun K hK => ?_)
 refine goes_ Try.func35 (by kernel_rfl) rfl #[.agg #[.slice Ao281 t442.length co281, .slice Ao283 t445.length co283]] (by rfl) rfl rfl (by (try simp only [List.map_toArray, List.map_cons, List.map_nil]); first | done | rfl | (simp only [List.length_drop, List.length_take]; rfl)) ?_
 with_reducible refine (spec_DiskOk.calls k _ _ t442 _ _ t445 t491 _ ?side1 ?side2 ?side3 ?side4 A14.out).mono ?_
 (case side1 => exact cG (Kd.R_reads' HO444.out).2.2)
 (case side2 => exact (Kd.R_reads' HO444.out).2.1)
 (case side3 => exact cG (Kd.R_reads' HO447.out).2.2)
 (case side4 => exact (Kd.R_reads' HO447.out).2.1)
 rintro e w323 ⟨rfl, hb⟩
 refine ⟨_, rfl, ?_⟩
 replace HO444 := rB HO444 hb
 replace HO447 := rB HO447 hb
 replace HO451 := rB HO451 hb
 replace HO454 := rB HO454 hb
 replace HO463 := rB HO463 hb
 replace HO466 := rB HO466 hb
 replace HO476 := rB HO476 hb
 replace HO479 := rB HO479 hb
 replace HO484 := rB HO484 hb
 replace HO487 := rB HO487 hb
 replace BK448 := bB BK448 hb
 replace BK456 := bB BK456 hb
 replace BK469 := bB BK469 hb
 replace BK481 := bB BK481 hb
 replace BK489 := bB BK489 hb
 replace HB := ak (below_step (lT HB (gC GE448 (gC GE456 (gC GE469 (gC GE481 (gC GE489 gN)))))) hb)
 (try clear hb)
 (try clear hb2)
 (try clear hk)
 (try clear hi)
 refine hK.out _ _ ⟨bc BK448 0, bc BK448 1⟩ (fun hHeld => ?_)
 clear hK K
 refine nm ?_
 refine pu 4 74 (fb 46 31) HT_ ?_
 refine pu 5 75 (fb 46 63) HT_ ?_
 refine pu 6 76 (fb 46 127) HT_ ?_
 refine pu 7 77 (fb 46 255) HT_ ?_
 refine pu 8 78 (fb 46 511) HT_ ?_
 refine pu 9 79 (fb 46 1023) HT_ ?_
 refine pu 10 80 (fb 46 2047) HT_ ?_
 refine pu 11 81 (fb 46 4095) HT_ ?_
 refine pu 12 82 (fb 46 8191) HT_ ?_
 refine pu 13 83 (fb 46 16383) HT_ ?_
 refine pu 14 84 (fb 46 32767) HT_ ?_
 refine pu 15 85 (fb 46 65535) HT_ ?_
 refine pu 16 86 (fb 46 131071) HT_ ?_
 refine pu 17 87 (fb 46 262143) HT_ ?_
 refine pu 18 88 (fb 46 524287) HT_ ?_
 refine pu 19 89 (fb 46 1048575) HT_ ?_
 refine pu 20 90 (fb 46 2097151) HT_ ?_
 refine pn 21 91 (fb 46 4194303) HT_ ?_
 refine pn 22 92 (fb 46 8388607) HT_ ?_
 refine pn 23 93 (fb 46 16777215) HT_ ?_
 refine pu 24 94 (fb 46 33554431) HT_ ?_
 refine pu 25 95 (fb 46 67108863) HT_ ?_
 refine pn 26 96 (fb 46 134217727) HT_ ?_
 refine pn 27 97 (fb 46 268435455) HT_ ?_
 refine pn 28 98 (fb 46 536870911) HT_ ?_
 refine pn 29 99 (fb 46 1073741823) HT_ ?_
 refine pn 30 100 (fb 46 2147483647) HT_ ?_
 refine pu 31 101 (fb 46 4294967295) HT_ ?_
 refine pu 32 102 (fb 46 8589934591) HT_ ?_
 refine pn 33 103 (fb 46 17179869183) HT_ ?_
 refine pu 34 104 (fb 46 34359738367) HT_ ?_
 refine pu 35 105 (fb 46 68719476735) HT_ ?_
 refine pn 36 106 (fb 46 137438953471) HT_ ?_
 refine pn 37 107 (fb 46 274877906943) HT_ ?_
 refine pu 38 108 (fb 46 549755813887) HT_ ?_
 refine pu 39 109 (fb 46 1099511627775) HT_ ?_
 refine pn 40 110 (fb 46 2199023255551) HT_ ?_
 refine pn 41 111 (fb 46 4398046511103) HT_ ?_
 refine pn 42 112 (fb 46 8796093022207) HT_ ?_
 refine pn 43 113 (fb 46 17592186044415) HT_ ?_
 refine pu 44 114 (fb 46 35184372088831) HT_ ?_
 refine pu 45 2 (fb 46 70368744177663) HT_ ?_
 refine done_ (done_of HT_.out (by kernel_rfl)) ?_
 try go_wp2
 go_ret
 exact ⟨ew, by exact lT HB (gC GE448 (gC GE456 (gC GE469 (gC GE481 (gC GE489 gN)))))⟩
end Go.Proofs.Ytjpngldnkgofaaa.PFnDisksTold
