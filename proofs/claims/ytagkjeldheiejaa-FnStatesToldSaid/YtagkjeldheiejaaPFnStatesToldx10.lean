-- printed
import Derived.Test.YtagkjeldheiejaaPFnStatesToldx9
import Derived.Test.YtagkjeldheiejaaVFnStatesTold1
namespace Go.Proofs.Ytagkjeldheiejaa.PFnStatesTold
open Go.RowKit YtagkjeldheiejaaW.PrintWords YtagkjeldheiejaaW.PrintLast YtagkjeldheiejaaW.PrintMore
set_option linter.unusedVariables false
set_option linter.unusedSimpArgs false
attribute [local go_sem] max2_int min2_int max_two min_two max_three min_three max_four min_four
set_option maxHeartbeats 16000000
set_option maxRecDepth 100000
def ltStep_m (p : S32 → Bool) (q : S32 → S32 → Bool) (st : S32 × Bool) (x : S32) : S32 × Bool := if p x && (!st.2 || q st.1 x) then (x, true) else st
def latestM_m (p : S32 → Bool) (q : S32 → S32 → Bool) (l : List S32) : S32 × Bool := l.foldl (ltStep_m p q) (z32, false)
theorem latestM_take_m (p : S32 → Bool) (q : S32 → S32 → Bool) (l : List S32) (i : Nat) (h : i < l.length) : latestM_m p q (l.take (i + 1)) = ltStep_m p q (latestM_m p q (l.take i)) (rd_T32 l (i : Int)) := by
 unfold latestM_m
 rw [List.take_succ_eq_append_getElem h, List.foldl_append]
 simp only [List.foldl_cons, List.foldl_nil]
 congr 1
 unfold rd_T32
 rw [Int.toNat_natCast, List.getD_eq_getElem?_getD, List.getElem?_eq_getElem h]
 rfl
theorem latest_mail (caps : Array Value) (p : S32 → Bool) (q : S32 → S32 → Bool) (A0 : Option Addr) (c0 : Nat) (l0 : List S32) (w : World) (hr0 : Kd.C k32 w A0 l0.length l0) (hc0 : l0.length ≤ c0)
  (hp : ∀ x, x ∈ l0 → ∀ W, Below w.heap.size w W → Calls Try.prog 120 (#[.agg #[.int .i64 x.f1.f0, .int .i64 x.f1.f1, .int .i64 x.f1.f2, .int .i64 x.f1.f3, .int .i64 x.f1.f4, .string x.f1.f5, .string x.f1.f6, .string x.f1.f7]] ++ caps) W fun e W' => e = .returned (.bool (p x)) ∧ Below W.heap.size W W')
  (hq : ∀ (x y : S32) W, Calls Try.prog 107 #[.agg #[.int .i64 x.f0, .int .i64 x.f1.f0, .int .i64 x.f1.f1, .int .i64 x.f1.f2, .int .i64 x.f1.f3, .int .i64 x.f1.f4, .string x.f1.f5, .string x.f1.f6, .string x.f1.f7], .agg #[.int .i64 y.f0, .int .i64 y.f1.f0, .int .i64 y.f1.f1, .int .i64 y.f1.f2, .int .i64 y.f1.f3, .int .i64 y.f1.f4, .string y.f1.f5, .string y.f1.f6, .string y.f1.f7]] W fun e W' => e = .returned (.bool (q x y)) ∧ Below W.heap.size W W') :
  Calls Try.prog 104 #[.slice A0 l0.length c0, .func (.func 120) #[] caps, .func (.func 107) #[] #[]] w fun e w' => e = .returned (.tuple #[.agg #[.int .i64 (latestM_m p q l0).1.f0, .int .i64 (latestM_m p q l0).1.f1.f0, .int .i64 (latestM_m p q l0).1.f1.f1, .int .i64 (latestM_m p q l0).1.f1.f2, .int .i64 (latestM_m p q l0).1.f1.f3, .int .i64 (latestM_m p q l0).1.f1.f4, .string (latestM_m p q l0).1.f1.f5, .string (latestM_m p q l0).1.f1.f6, .string (latestM_m p q l0).1.f1.f7], .bool (latestM_m p q l0).2]) ∧ Below w.heap.size w w' := by
 have hu23 := Try.underlying23
 have hu32 := Try.underlying32
 have HR0 := ak hr0
 have HC0 := ak hc0
 have HP := ak hp
 have HP2 := ak hq
 have hm : l0.length ≤ 9223372036854775807 := hr0.2.1
 have HB := ak (Below.refl w.heap.size w)
 clear hr0 hc0 hp hq
 go_enter Try.func104, Try.ntmps104
 go_wp2_with (first | ((with_reducible refine gate_dst (N := 6) rfl ?_); refine b9 6 ?_; intro gg hg w3 hbox hb; replace BG := ak (hbox); replace GG := ak (bz hg (lG HB)); replace HB := lB HB hb; clear hb hbox hg; obtain ⟨hcg_0, hcg_1, hcg_2, hcg_3, hcg_4, hcg_5, hcg_6, hcg_7, hcg_8, hfg_0, hfg_1, hfg_2, hfg_3, hfg_4, hfg_5, hfg_6, hfg_7, hfg_8⟩ := bC9 BG; skip) | ((with_reducible refine gate_dst (N := 8) rfl ?_); refine b9 8 ?_; intro gb hg w5 hbox hb; replace NGB := ak (nl hg (bG BG)); replace BG := bB BG hb; replace BB := ak (hbox); replace GB := ak (bz hg (lG HB)); replace HB := lB HB hb; clear hb hbox hg; obtain ⟨hcb_0, hcb_1, hcb_2, hcb_3, hcb_4, hcb_5, hcb_6, hcb_7, hcb_8, hfb_0, hfb_1, hfb_2, hfb_3, hfb_4, hfb_5, hfb_6, hfb_7, hfb_8⟩ := bC9 BB; skip))
 go_loopg [9, 15] l0.length (fun kq v9 v15 w' => ∃ (x15 : Int) (i : Nat), v9 = .bool (latestM_m p q (l0.take i)).2 ∧ v15 = .int .i64 x15 ∧ Aside0 (x15 = (i : Int) ∧ kq + i = l0.length) ∧ Aside0 (w'.heap[gg]? = some (.cells #[.int .i64 0, .int .i64 0, .int .i64 0, .int .i64 0, .int .i64 0, .int .i64 0, .string (⟨#[]⟩ : ByteArray), .string (⟨#[]⟩ : ByteArray), .string (⟨#[]⟩ : ByteArray)] 32 (0, 0))) ∧ Aside0 (w'.heap[gb]? = some (.cells #[.int .i64 (latestM_m p q (l0.take i)).1.f0, .int .i64 (latestM_m p q (l0.take i)).1.f1.f0, .int .i64 (latestM_m p q (l0.take i)).1.f1.f1, .int .i64 (latestM_m p q (l0.take i)).1.f1.f2, .int .i64 (latestM_m p q (l0.take i)).1.f1.f3, .int .i64 (latestM_m p q (l0.take i)).1.f1.f4, .string (latestM_m p q (l0.take i)).1.f1.f5, .string (latestM_m p q (l0.take i)).1.f1.f6, .string (latestM_m p q (l0.take i)).1.f1.f7] 32 (0, 0))) ∧ Aside0 (Below w.heap.size w w'))
 case atStart => exact ⟨0, 0, by first | rfl | (simp; done), by first | rfl | (simp; done), ⟨rfl, rfl⟩, ⟨bT BG (nC NGB nN)⟩, ⟨bW BB⟩, ⟨lT HB (gC GB gN)⟩⟩
 case round =>
  skip;{
 clear BG BB HB
 obtain ⟨x15, i, rfl, rfl, HX, BG, BB, HB⟩ := hrel
 obtain ⟨⟨⟨b0, ⟨b1, b2, b3, b4, b5, b6, b7, b8⟩⟩, fd⟩, hst⟩ : ∃ st, latestM_m p q (l0.take i) = st := ⟨_, rfl⟩
 rw [hst] at BB ⊢
 have HST := ak hst
 clear hst
 simp only at BB ⊢
 cases gk with
 | zero =>
  skip;{
 have c4 : decide (x15 < (l0.length : Int)) = false := decide_eq_false (by have := HX.out; omega)
 have hend : latestM_m p q l0 = (⟨b0, ⟨b1, b2, b3, b4, b5, b6, b7, b8⟩⟩, fd) := by rw [← HST.out, List.take_of_length_le (by have := HX.out; omega)]
 have HE := ak hend
 clear hend
 obtain ⟨hcg_0, hcg_1, hcg_2, hcg_3, hcg_4, hcg_5, hcg_6, hcg_7, hcg_8, hfg_0, hfg_1, hfg_2, hfg_3, hfg_4, hfg_5, hfg_6, hfg_7, hfg_8⟩ := bC9 BG
 obtain ⟨hcb_0, hcb_1, hcb_2, hcb_3, hcb_4, hcb_5, hcb_6, hcb_7, hcb_8, hfb_0, hfb_1, hfb_2, hfb_3, hfb_4, hfb_5, hfb_6, hfb_7, hfb_8⟩ := bC9 BB
 have hng := NGB.out
 go_wp2
 refine bodyPost_ret (results_ct rfl _ _ gg 32 #[.int .i64 b0, .int .i64 b1, .int .i64 b2, .int .i64 b3, .int .i64 b4, .int .i64 b5, .string b6, .string b7, .string b8] (0, 0) _ rfl (bW BG) Try.underlying32 rfl (by kernel_rfl)) rfl ?_
 exact ⟨by rw [HE.out]; rfl, lT HB (gC GG gN)⟩
 }
 | succ k1 =>
  skip;{
 have c4 : decide (x15 < (l0.length : Int)) = true := decide_eq_true (by have := HX.out; omega)
 have c5 : decide (0 ≤ x15) = true := decide_eq_true (by have := HX.out; omega)
 have hi : i < l0.length := by have := HX.out; omega
 have hstep := latestM_take_m p q l0 i hi
 rw [HST.out, ← HX.out.1] at hstep
 have hmem : rd_T32 l0 x15 ∈ l0 := by
  rw [HX.out.1]
  unfold rd_T32
  rw [Int.toNat_natCast, List.getD_eq_getElem?_getD, List.getElem?_eq_getElem hi]
  exact List.getElem_mem hi
 have p103 : 0 ≤ (x15 : Int) := by have := HX.out; omega
 have q103 : x15 < (l0.length : Int) := by have := HX.out; omega
 obtain ⟨ad103, e103, hx103_0, hx103_1, hx103_2, hx103_3, hx103_4, hx103_5, hx103_6, hx103_7, hx103_8⟩ := at_T32 HR0.out x15 p103 q103
 cases e103
 replace hx103_0 := clB HB hx103_0
 replace hx103_1 := clB HB hx103_1
 replace hx103_2 := clB HB hx103_2
 replace hx103_3 := clB HB hx103_3
 replace hx103_4 := clB HB hx103_4
 replace hx103_5 := clB HB hx103_5
 replace hx103_6 := clB HB hx103_6
 replace hx103_7 := clB HB hx103_7
 replace hx103_8 := clB HB hx103_8
 replace p103 := eq_true p103
 replace q103 := eq_true q103
 obtain ⟨y, hy⟩ : ∃ y, rd_T32 l0 x15 = y := ⟨_, rfl⟩
 rw [hy] at hmem hstep hx103_0 hx103_1 hx103_2 hx103_3 hx103_4 hx103_5 hx103_6 hx103_7 hx103_8
 have HQ0 := HP.out _ hmem
 clear hy hi hmem
 obtain ⟨y0, ⟨y1, y2, y3, y4, y5, y6, y7, y8⟩⟩ := y
 simp only at hx103_0 hx103_1 hx103_2 hx103_3 hx103_4 hx103_5 hx103_6 hx103_7 hx103_8
 obtain ⟨pv, hpv⟩ : ∃ pv, p (⟨y0, ⟨y1, y2, y3, y4, y5, y6, y7, y8⟩⟩ : S32) = pv := ⟨_, rfl⟩
 have HQ := ak HQ0
 clear HQ0
 simp only [hpv] at HQ
 unfold ltStep_m at hstep
 simp only [hpv] at hstep
 obtain ⟨hcb_0, hcb_1, hcb_2, hcb_3, hcb_4, hcb_5, hcb_6, hcb_7, hcb_8, hfb_0, hfb_1, hfb_2, hfb_3, hfb_4, hfb_5, hfb_6, hfb_7, hfb_8⟩ := bC9 BB
 have e1 : wrap64 (x15 + 1) = x15 + 1 := by have := HX.out; unfold wrap64; omega
 cases pv with
 | false =>
  skip;{
 have HS2 := ak (show latestM_m p q (l0.take (i + 1)) = ((⟨b0, ⟨b1, b2, b3, b4, b5, b6, b7, b8⟩⟩ : S32), fd) by rw [hstep]; rfl)
 clear hstep hpv
 go_wp2_with (first | ((with_reducible refine gate_dst (N := 11) rfl ?_); refine b9 11 ?_; intro gx hg w7 hbox hb; replace NGX := ak (nl hg (bG BG)); replace NBX := ak (nl hg (bG BB)); replace NXG := ak (ng hg (bG BG)); replace NXB := ak (ng hg (bG BB)); replace BG := bB BG hb; replace BB := bB BB hb; replace BX := ak (hbox); replace GX := ak (bz hg (lG HB)); replace HB := lB HB hb; replace hx103_0 := clb hb hx103_0; replace hx103_1 := clb hb hx103_1; replace hx103_2 := clb hb hx103_2; replace hx103_3 := clb hb hx103_3; replace hx103_4 := clb hb hx103_4; replace hx103_5 := clb hb hx103_5; replace hx103_6 := clb hb hx103_6; replace hx103_7 := clb hb hx103_7; replace hx103_8 := clb hb hx103_8; clear hb hbox hg; obtain ⟨hcx_0, hcx_1, hcx_2, hcx_3, hcx_4, hcx_5, hcx_6, hcx_7, hcx_8, hfx_0, hfx_1, hfx_2, hfx_3, hfx_4, hfx_5, hfx_6, hfx_7, hfx_8⟩ := bC9 BX; skip) | (go_at_call 120; refine (HQ.out _ (lT HB (gC GX gN))).mono ?_; rintro e w8 ⟨rfl, hb⟩; replace BG := ak (blk_below (bT BG (nC NGX nN)) hb); replace BB := ak (blk_below (bT BB (nC NBX nN)) hb); replace HB := ak (below_step (lT HB (gC GX gN)) hb); replace BX := ak (blk_below (bW (r := #[.int .i64 y0, .int .i64 y1, .int .i64 y2, .int .i64 y3, .int .i64 y4, .int .i64 y5, .string y6, .string y7, .string y8]) BX) hb); clear hb; obtain ⟨hcy_0, hcy_1, hcy_2, hcy_3, hcy_4, hcy_5, hcy_6, hcy_7, hcy_8, hfy_0, hfy_1, hfy_2, hfy_3, hfy_4, hfy_5, hfy_6, hfy_7, hfy_8⟩ := bC9 BX; obtain ⟨hcz_0, hcz_1, hcz_2, hcz_3, hcz_4, hcz_5, hcz_6, hcz_7, hcz_8, hfz_0, hfz_1, hfz_2, hfz_3, hfz_4, hfz_5, hfz_6, hfz_7, hfz_8⟩ := bC9 BB; skip))
 go_roundg k1
 case measure => omega
 case rel => exact ⟨x15 + 1, i + 1, by rw [HS2.out], by first | rfl | (rw [e1]) | (simp [e1]; done), ⟨by have := HX.out; omega, by have := HX.out; omega⟩, BG, by rw [HS2.out]; exact BB, HB⟩
 }
 | true =>
  skip;{
 cases fd with
 | false =>
  skip;{
 have HS2 := ak (show latestM_m p q (l0.take (i + 1)) = ((⟨y0, ⟨y1, y2, y3, y4, y5, y6, y7, y8⟩⟩ : S32), true) by rw [hstep]; rfl)
 clear hstep hpv
 go_wp2_with (first | ((with_reducible refine gate_dst (N := 11) rfl ?_); refine b9 11 ?_; intro gx hg w7 hbox hb; replace NGX := ak (nl hg (bG BG)); replace NBX := ak (nl hg (bG BB)); replace NXG := ak (ng hg (bG BG)); replace NXB := ak (ng hg (bG BB)); replace BG := bB BG hb; replace BB := bB BB hb; replace BX := ak (hbox); replace GX := ak (bz hg (lG HB)); replace HB := lB HB hb; replace hx103_0 := clb hb hx103_0; replace hx103_1 := clb hb hx103_1; replace hx103_2 := clb hb hx103_2; replace hx103_3 := clb hb hx103_3; replace hx103_4 := clb hb hx103_4; replace hx103_5 := clb hb hx103_5; replace hx103_6 := clb hb hx103_6; replace hx103_7 := clb hb hx103_7; replace hx103_8 := clb hb hx103_8; clear hb hbox hg; obtain ⟨hcx_0, hcx_1, hcx_2, hcx_3, hcx_4, hcx_5, hcx_6, hcx_7, hcx_8, hfx_0, hfx_1, hfx_2, hfx_3, hfx_4, hfx_5, hfx_6, hfx_7, hfx_8⟩ := bC9 BX; skip) | (go_at_call 120; refine (HQ.out _ (lT HB (gC GX gN))).mono ?_; rintro e w8 ⟨rfl, hb⟩; replace BG := ak (blk_below (bT BG (nC NGX nN)) hb); replace BB := ak (blk_below (bT BB (nC NBX nN)) hb); replace HB := ak (below_step (lT HB (gC GX gN)) hb); replace BX := ak (blk_below (bW (r := #[.int .i64 y0, .int .i64 y1, .int .i64 y2, .int .i64 y3, .int .i64 y4, .int .i64 y5, .string y6, .string y7, .string y8]) BX) hb); clear hb; obtain ⟨hcy_0, hcy_1, hcy_2, hcy_3, hcy_4, hcy_5, hcy_6, hcy_7, hcy_8, hfy_0, hfy_1, hfy_2, hfy_3, hfy_4, hfy_5, hfy_6, hfy_7, hfy_8⟩ := bC9 BX; obtain ⟨hcz_0, hcz_1, hcz_2, hcz_3, hcz_4, hcz_5, hcz_6, hcz_7, hcz_8, hfz_0, hfz_1, hfz_2, hfz_3, hfz_4, hfz_5, hfz_6, hfz_7, hfz_8⟩ := bC9 BB; skip))
 go_roundg k1
 case measure => omega
 case rel => exact ⟨x15 + 1, i + 1, by rw [HS2.out], by first | rfl | (rw [e1]) | (simp [e1]; done), ⟨by have := HX.out; omega, by have := HX.out; omega⟩, ⟨bT BG (nC NGB nN)⟩, by rw [HS2.out]; exact ⟨bW BB⟩, ⟨lT HB (gC GB gN)⟩⟩
 }
 | true =>
  skip;{
 obtain ⟨qv, hqv⟩ : ∃ qv, q (⟨b0, ⟨b1, b2, b3, b4, b5, b6, b7, b8⟩⟩ : S32) (⟨y0, ⟨y1, y2, y3, y4, y5, y6, y7, y8⟩⟩ : S32) = qv := ⟨_, rfl⟩
 have HQV := ak hqv
 simp only [hqv] at hstep
 clear hqv hpv
 cases qv with
 | false =>
  skip;{
 have HS2 := ak (show latestM_m p q (l0.take (i + 1)) = ((⟨b0, ⟨b1, b2, b3, b4, b5, b6, b7, b8⟩⟩ : S32), true) by rw [hstep]; rfl)
 clear hstep
 go_wp2_with (first | ((with_reducible refine gate_dst (N := 11) rfl ?_); refine b9 11 ?_; intro gx hg w7 hbox hb; replace NGX := ak (nl hg (bG BG)); replace NBX := ak (nl hg (bG BB)); replace NXG := ak (ng hg (bG BG)); replace NXB := ak (ng hg (bG BB)); replace BG := bB BG hb; replace BB := bB BB hb; replace BX := ak (hbox); replace GX := ak (bz hg (lG HB)); replace HB := lB HB hb; replace hx103_0 := clb hb hx103_0; replace hx103_1 := clb hb hx103_1; replace hx103_2 := clb hb hx103_2; replace hx103_3 := clb hb hx103_3; replace hx103_4 := clb hb hx103_4; replace hx103_5 := clb hb hx103_5; replace hx103_6 := clb hb hx103_6; replace hx103_7 := clb hb hx103_7; replace hx103_8 := clb hb hx103_8; clear hb hbox hg; obtain ⟨hcx_0, hcx_1, hcx_2, hcx_3, hcx_4, hcx_5, hcx_6, hcx_7, hcx_8, hfx_0, hfx_1, hfx_2, hfx_3, hfx_4, hfx_5, hfx_6, hfx_7, hfx_8⟩ := bC9 BX; skip) | (go_at_call 120; refine (HQ.out _ (lT HB (gC GX gN))).mono ?_; rintro e w8 ⟨rfl, hb⟩; replace BG := ak (blk_below (bT BG (nC NGX nN)) hb); replace BB := ak (blk_below (bT BB (nC NBX nN)) hb); replace HB := ak (below_step (lT HB (gC GX gN)) hb); replace BX := ak (blk_below (bW (r := #[.int .i64 y0, .int .i64 y1, .int .i64 y2, .int .i64 y3, .int .i64 y4, .int .i64 y5, .string y6, .string y7, .string y8]) BX) hb); clear hb; obtain ⟨hcy_0, hcy_1, hcy_2, hcy_3, hcy_4, hcy_5, hcy_6, hcy_7, hcy_8, hfy_0, hfy_1, hfy_2, hfy_3, hfy_4, hfy_5, hfy_6, hfy_7, hfy_8⟩ := bC9 BX; obtain ⟨hcz_0, hcz_1, hcz_2, hcz_3, hcz_4, hcz_5, hcz_6, hcz_7, hcz_8, hfz_0, hfz_1, hfz_2, hfz_3, hfz_4, hfz_5, hfz_6, hfz_7, hfz_8⟩ := bC9 BB; skip) | (go_at_call 107; refine (HP2.out (⟨b0, ⟨b1, b2, b3, b4, b5, b6, b7, b8⟩⟩ : S32) (⟨y0, ⟨y1, y2, y3, y4, y5, y6, y7, y8⟩⟩ : S32) _).mono ?_; rintro e w9 ⟨rfl, hb⟩; have hqv := HQV.out; (try simp only [hqv]); replace BG := bB BG hb; replace BB := bB BB hb; replace HB := lB HB hb; replace BX := bB BX hb; clear hb; obtain ⟨hcv_0, hcv_1, hcv_2, hcv_3, hcv_4, hcv_5, hcv_6, hcv_7, hcv_8, hfv_0, hfv_1, hfv_2, hfv_3, hfv_4, hfv_5, hfv_6, hfv_7, hfv_8⟩ := bC9 BX; obtain ⟨hcu_0, hcu_1, hcu_2, hcu_3, hcu_4, hcu_5, hcu_6, hcu_7, hcu_8, hfu_0, hfu_1, hfu_2, hfu_3, hfu_4, hfu_5, hfu_6, hfu_7, hfu_8⟩ := bC9 BB; skip))
 go_roundg k1
 case measure => omega
 case rel => exact ⟨x15 + 1, i + 1, by rw [HS2.out], by first | rfl | (rw [e1]) | (simp [e1]; done), ⟨by have := HX.out; omega, by have := HX.out; omega⟩, BG, by rw [HS2.out]; exact BB, HB⟩
 }
 | true =>
  skip;{
 have HS2 := ak (show latestM_m p q (l0.take (i + 1)) = ((⟨y0, ⟨y1, y2, y3, y4, y5, y6, y7, y8⟩⟩ : S32), true) by rw [hstep]; rfl)
 clear hstep
 go_wp2_with (first | ((with_reducible refine gate_dst (N := 11) rfl ?_); refine b9 11 ?_; intro gx hg w7 hbox hb; replace NGX := ak (nl hg (bG BG)); replace NBX := ak (nl hg (bG BB)); replace NXG := ak (ng hg (bG BG)); replace NXB := ak (ng hg (bG BB)); replace BG := bB BG hb; replace BB := bB BB hb; replace BX := ak (hbox); replace GX := ak (bz hg (lG HB)); replace HB := lB HB hb; replace hx103_0 := clb hb hx103_0; replace hx103_1 := clb hb hx103_1; replace hx103_2 := clb hb hx103_2; replace hx103_3 := clb hb hx103_3; replace hx103_4 := clb hb hx103_4; replace hx103_5 := clb hb hx103_5; replace hx103_6 := clb hb hx103_6; replace hx103_7 := clb hb hx103_7; replace hx103_8 := clb hb hx103_8; clear hb hbox hg; obtain ⟨hcx_0, hcx_1, hcx_2, hcx_3, hcx_4, hcx_5, hcx_6, hcx_7, hcx_8, hfx_0, hfx_1, hfx_2, hfx_3, hfx_4, hfx_5, hfx_6, hfx_7, hfx_8⟩ := bC9 BX; skip) | (go_at_call 120; refine (HQ.out _ (lT HB (gC GX gN))).mono ?_; rintro e w8 ⟨rfl, hb⟩; replace BG := ak (blk_below (bT BG (nC NGX nN)) hb); replace BB := ak (blk_below (bT BB (nC NBX nN)) hb); replace HB := ak (below_step (lT HB (gC GX gN)) hb); replace BX := ak (blk_below (bW (r := #[.int .i64 y0, .int .i64 y1, .int .i64 y2, .int .i64 y3, .int .i64 y4, .int .i64 y5, .string y6, .string y7, .string y8]) BX) hb); clear hb; obtain ⟨hcy_0, hcy_1, hcy_2, hcy_3, hcy_4, hcy_5, hcy_6, hcy_7, hcy_8, hfy_0, hfy_1, hfy_2, hfy_3, hfy_4, hfy_5, hfy_6, hfy_7, hfy_8⟩ := bC9 BX; obtain ⟨hcz_0, hcz_1, hcz_2, hcz_3, hcz_4, hcz_5, hcz_6, hcz_7, hcz_8, hfz_0, hfz_1, hfz_2, hfz_3, hfz_4, hfz_5, hfz_6, hfz_7, hfz_8⟩ := bC9 BB; skip) | (go_at_call 107; refine (HP2.out (⟨b0, ⟨b1, b2, b3, b4, b5, b6, b7, b8⟩⟩ : S32) (⟨y0, ⟨y1, y2, y3, y4, y5, y6, y7, y8⟩⟩ : S32) _).mono ?_; rintro e w9 ⟨rfl, hb⟩; have hqv := HQV.out; (try simp only [hqv]); replace BG := bB BG hb; replace BB := bB BB hb; replace HB := lB HB hb; replace BX := bB BX hb; clear hb; obtain ⟨hcv_0, hcv_1, hcv_2, hcv_3, hcv_4, hcv_5, hcv_6, hcv_7, hcv_8, hfv_0, hfv_1, hfv_2, hfv_3, hfv_4, hfv_5, hfv_6, hfv_7, hfv_8⟩ := bC9 BX; obtain ⟨hcu_0, hcu_1, hcu_2, hcu_3, hcu_4, hcu_5, hcu_6, hcu_7, hcu_8, hfu_0, hfu_1, hfu_2, hfu_3, hfu_4, hfu_5, hfu_6, hfu_7, hfu_8⟩ := bC9 BB; skip))
 go_roundg k1
 case measure => omega
 case rel => exact ⟨x15 + 1, i + 1, by rw [HS2.out], by first | rfl | (rw [e1]) | (simp [e1]; done), ⟨by have := HX.out; omega, by have := HX.out; omega⟩, ⟨bT BG (nC NGB nN)⟩, by rw [HS2.out]; exact ⟨bW BB⟩, ⟨lT HB (gC GB gN)⟩⟩
 }
 }
 }
 }
 }
def abM_m (k v : Int) (x : S32) : Bool := (x.f1.f0 == k) && (x.f1.f1 == v)
theorem about_calls_m (a0 a1 a2 a3 a4 : Int) (a5 a6 a7 : ByteArray) (k v : Int) (W : World) :
  Calls Try.prog 106 #[.agg #[.int .i64 a0, .int .i64 a1, .int .i64 a2, .int .i64 a3, .int .i64 a4, .string a5, .string a6, .string a7], .int .i64 k, .int .i64 v] W fun e W' => e = .returned (.bool ((a0 == k) && (a1 == v))) ∧ Below W.heap.size W W' := by
 have hu23 := Try.underlying23
 have HA := ak (fun o => below_alloc (Below.refl W.heap.size W) o)
 by_cases c : a0 = k
 {
 subst c
 go_enter Try.func106, Try.ntmps106
 go_wp2
 go_ret
 exact ⟨by simp, HA.out _⟩
 }
 {
 have cb : (a0 == k) = false := beq_eq_false_iff_ne.mpr c
 go_enter Try.func106, Try.ntmps106
 go_wp2
 go_ret
 exact ⟨by simp [cb], HA.out _⟩
 }
def seqQ_m (x y : S32) : Bool := decide (x.f0 < y.f0)
theorem bySeq_q_m (x y : S32) (W : World) : Calls Try.prog 107 #[.agg #[.int .i64 x.f0, .int .i64 x.f1.f0, .int .i64 x.f1.f1, .int .i64 x.f1.f2, .int .i64 x.f1.f3, .int .i64 x.f1.f4, .string x.f1.f5, .string x.f1.f6, .string x.f1.f7], .agg #[.int .i64 y.f0, .int .i64 y.f1.f0, .int .i64 y.f1.f1, .int .i64 y.f1.f2, .int .i64 y.f1.f3, .int .i64 y.f1.f4, .string y.f1.f5, .string y.f1.f6, .string y.f1.f7]] W fun e W' => e = .returned (.bool (seqQ_m x y)) ∧ Below W.heap.size W W' := impl_bySeq.calls x.f0 x.f1.f0 x.f1.f1 x.f1.f2 x.f1.f3 x.f1.f4 x.f1.f5 x.f1.f6 x.f1.f7 y.f0 y.f1.f0 y.f1.f1 y.f1.f2 y.f1.f3 y.f1.f4 y.f1.f5 y.f1.f6 y.f1.f7 (seqQ_m x y) W rfl
def mlM (k v u : Int) (x : S32) : Bool := abM_m k v x && (x.f1.f2 == u)
theorem clo_mail (gk gv gu : Nat) (k v u : Int) (x : S32) (W : World) (hk : W.heap[gk]? = some (.cells #[.int .i64 k] 3 (0, 0))) (hv : W.heap[gv]? = some (.cells #[.int .i64 v] 3 (0, 0))) (hu : W.heap[gu]? = some (.cells #[.int .i64 u] 3 (0, 0))) :
  Calls Try.prog 120 #[.agg #[.int .i64 x.f1.f0, .int .i64 x.f1.f1, .int .i64 x.f1.f2, .int .i64 x.f1.f3, .int .i64 x.f1.f4, .string x.f1.f5, .string x.f1.f6, .string x.f1.f7], .pointer (some ⟨gk, 0, none⟩), .pointer (some ⟨gv, 0, none⟩), .pointer (some ⟨gu, 0, none⟩)] W fun e W' => e = .returned (.bool (mlM k v u x)) ∧ Below W.heap.size W W' := by
 have hu23 := Try.underlying23
 have BK := ak hk
 have BV := ak hv
 have BU := ak hu
 have HB := ak (Below.refl W.heap.size W)
 clear hk hv hu
 obtain ⟨x0, ⟨x1, x2, x3, x4, x5, x6, x7, x8⟩⟩ := x
 simp only
 have HC0 : ∀ W, Calls Try.prog 106 #[.agg #[.int .i64 x1, .int .i64 x2, .int .i64 x3, .int .i64 x4, .int .i64 x5, .string x6, .string x7, .string x8], .int .i64 k, .int .i64 v] W fun e W' => e = .returned (.bool ((x1 == k) && (x2 == v))) ∧ Below W.heap.size W W' := fun W => about_calls_m x1 x2 x3 x4 x5 x6 x7 x8 k v W
 obtain ⟨ab, hab⟩ : ∃ ab, ((x1 == k) && (x2 == v)) = ab := ⟨_, rfl⟩
 rw [hab] at HC0
 have HC := ak HC0
 have HAB := ak (show mlM k v u ⟨x0, ⟨x1, x2, x3, x4, x5, x6, x7, x8⟩⟩ = (ab && (x3 == u)) by unfold mlM abM_m; rw [← hab])
 clear HC0 hab
 cases ab with
 | true =>
  skip;{
 go_enter Try.func120, Try.ntmps120
 go_wp2_with (first | ((with_reducible refine gate_dst (N := 4) rfl ?_); refine bx 4 #[.int .i64 x1, .int .i64 x2, .int .i64 x3, .int .i64 x4, .int .i64 x5, .string x6, .string x7, .string x8] 23 ?_; intro gb hg w5 hbox hb; replace BK := bB BK hb; replace BV := bB BV hb; replace BU := bB BU hb; replace BX := ak (hbox); replace HB := lB HB hb; clear hb hbox hg; have hk0 : w5.cell? ⟨gk, 0, none⟩ = some (.int .i64 k) := bc BK 0; have hv0 : w5.cell? ⟨gv, 0, none⟩ = some (.int .i64 v) := bc BV 0; obtain ⟨hcx_0, hcx_1, hcx_2, hcx_3, hcx_4, hcx_5, hcx_6, hcx_7, hfx_0, hfx_1, hfx_2, hfx_3, hfx_4, hfx_5, hfx_6, hfx_7⟩ := bC8 BX; skip) | (go_at_call 106; refine (HC.out _).mono ?_; rintro e w6 ⟨rfl, hb⟩; replace BX := bB BX hb; replace BU := bB BU hb; replace HB := lB HB hb; clear hb; have hu1 : w6.cell? ⟨gu, 0, none⟩ = some (.int .i64 u) := bc BU 0; obtain ⟨hcy_0, hcy_1, hcy_2, hcy_3, hcy_4, hcy_5, hcy_6, hcy_7, hfy_0, hfy_1, hfy_2, hfy_3, hfy_4, hfy_5, hfy_6, hfy_7⟩ := bC8 BX; skip))
 go_ret
 exact ⟨by rw [HAB.out]; simp, HB.out⟩
 }
 | false =>
  skip;{
 go_enter Try.func120, Try.ntmps120
 go_wp2_with (first | ((with_reducible refine gate_dst (N := 4) rfl ?_); refine bx 4 #[.int .i64 x1, .int .i64 x2, .int .i64 x3, .int .i64 x4, .int .i64 x5, .string x6, .string x7, .string x8] 23 ?_; intro gb hg w5 hbox hb; replace BK := bB BK hb; replace BV := bB BV hb; replace BU := bB BU hb; replace BX := ak (hbox); replace HB := lB HB hb; clear hb hbox hg; have hk0 : w5.cell? ⟨gk, 0, none⟩ = some (.int .i64 k) := bc BK 0; have hv0 : w5.cell? ⟨gv, 0, none⟩ = some (.int .i64 v) := bc BV 0; obtain ⟨hcx_0, hcx_1, hcx_2, hcx_3, hcx_4, hcx_5, hcx_6, hcx_7, hfx_0, hfx_1, hfx_2, hfx_3, hfx_4, hfx_5, hfx_6, hfx_7⟩ := bC8 BX; skip) | (go_at_call 106; refine (HC.out _).mono ?_; rintro e w6 ⟨rfl, hb⟩; replace BX := bB BX hb; replace BU := bB BU hb; replace HB := lB HB hb; clear hb; have hu1 : w6.cell? ⟨gu, 0, none⟩ = some (.int .i64 u) := bc BU 0; obtain ⟨hcy_0, hcy_1, hcy_2, hcy_3, hcy_4, hcy_5, hcy_6, hcy_7, hfy_0, hfy_1, hfy_2, hfy_3, hfy_4, hfy_5, hfy_6, hfy_7⟩ := bC8 BX; skip))
 go_ret
 exact ⟨by rw [HAB.out]; simp, HB.out⟩
 }
def impl_mailItem.f (l0 : List S32) (a1 : Int) (a2 : Int) (a3 : Int) : Option (Int × Int × Int × Int × Int × Int × ByteArray × ByteArray × ByteArray × Bool) := some ((latestM_m (mlM a1 a2 a3) seqQ_m l0).1.f0, (latestM_m (mlM a1 a2 a3) seqQ_m l0).1.f1.f0, (latestM_m (mlM a1 a2 a3) seqQ_m l0).1.f1.f1, (latestM_m (mlM a1 a2 a3) seqQ_m l0).1.f1.f2, (latestM_m (mlM a1 a2 a3) seqQ_m l0).1.f1.f3, (latestM_m (mlM a1 a2 a3) seqQ_m l0).1.f1.f4, (latestM_m (mlM a1 a2 a3) seqQ_m l0).1.f1.f5, (latestM_m (mlM a1 a2 a3) seqQ_m l0).1.f1.f6, (latestM_m (mlM a1 a2 a3) seqQ_m l0).1.f1.f7, (latestM_m (mlM a1 a2 a3) seqQ_m l0).2)
theorem impl_mailItem.calls (A0 : Option Addr) (c0 : Nat) (l0 : List S32) (a1 a2 a3 : Int) (r1 r2 r3 r4 r5 r6 : Int) (r7 r8 r9 : ByteArray) (r10 : Bool) (w : World) (hr0 : Kd.C k32 w A0 l0.length l0) (hc0 : l0.length ≤ c0) (h : impl_mailItem.f l0 a1 a2 a3 = some (r1, r2, r3, r4, r5, r6, r7, r8, r9, r10)) :
  Calls Try.prog 112 #[.slice A0 l0.length c0, .int .i64 a1, .int .i64 a2, .int .i64 a3] w fun e w' => e = .returned (.tuple #[.agg #[.int .i64 r1, .int .i64 r2, .int .i64 r3, .int .i64 r4, .int .i64 r5, .int .i64 r6, .string r7, .string r8, .string r9], .bool r10]) ∧ Below w.heap.size w w' := by
 have hu23 := Try.underlying23
 have hu32 := Try.underlying32
 have hmf : ∀ (fn : Fn) (first cap : Array Value) (w : World), (Instr.makeFunc fn first cap).run Try.prog w = .ok (.func fn first cap) w := fun _ _ _ _ => rfl
 have HR0 := ak hr0
 have HC0 := ak hc0
 have HB := ak (Below.refl w.heap.size w)
 clear hr0 hc0
 replace h := Option.some.inj h
 simp only [Prod.mk.injEq] at h
 obtain ⟨rfl, rfl, rfl, rfl, rfl, rfl, rfl, rfl, rfl, rfl⟩ := h
 go_enter Try.func112, Try.ntmps112
 go_wp2_with (first | ((with_reducible refine gate_dst (N := 5) rfl ?_); refine bx 5 #[.int .i64 a1] 3 ?_; intro gk hg w25 hbox hb;  replace Bgk := ak (hbox); replace HB := lB HB hb; clear hb hbox hg) | ((with_reducible refine gate_dst (N := 6) rfl ?_); refine bx 6 #[.int .i64 a2] 3 ?_; intro gv hg w26 hbox hb; replace Bgk := bB Bgk hb; replace Bgv := ak (hbox); replace HB := lB HB hb; clear hb hbox hg) | ((with_reducible refine gate_dst (N := 7) rfl ?_); refine bx 7 #[.int .i64 a3] 3 ?_; intro gu hg w27 hbox hb; replace Bgk := bB Bgk hb; replace Bgv := bB Bgv hb; replace Bgu := ak (hbox); replace HB := lB HB hb; clear hb hbox hg) | ((with_reducible refine gate_dst (N := 8) rfl ?_); refine b9 8 ?_; intro gg hg w5 hbox hb; replace Bgk := bB Bgk hb; replace Bgv := bB Bgv hb; replace Bgu := bB Bgu hb; replace BG := ak (hbox); replace GG := ak (bz hg (lG HB)); replace HB := lB HB hb; clear hb hbox hg; obtain ⟨_, _, _, _, _, _, _, _, _, _, _, _, _, _, _, _, _, _⟩ := bC9 BG; skip) | ((with_reducible refine gate_callee (f := 104) rfl ?_); refine gl (some 12) Try.func104 #[.slice A0 l0.length c0, .func (.func 120) #[] #[.pointer (some ⟨gk, 0, none⟩), .pointer (some ⟨gv, 0, none⟩), .pointer (some ⟨gu, 0, none⟩)], .func (.func 107) #[] #[]] ?_; refine (latest_mail #[.pointer (some ⟨gk, 0, none⟩), .pointer (some ⟨gv, 0, none⟩), .pointer (some ⟨gu, 0, none⟩)] (mlM a1 a2 a3) seqQ_m A0 c0 l0 _ (Kd.C_below HR0.out (lG HB)) HC0.out (fun x _ W hW => clo_mail gk gv gu a1 a2 a3 x W (blk_below (bG Bgk) hW) (blk_below (bG Bgv) hW) (blk_below (bG Bgu) hW)) bySeq_q_m).mono ?_; rintro e w9 ⟨rfl, hb⟩; refine ⟨_, rfl, ?_⟩; replace BG := bB BG hb; replace HB := lB HB hb; clear hb; obtain ⟨_, _, _, _, _, _, _, _, _, _, _, _, _, _, _, _, _, _⟩ := bC9 BG; skip))
 refine bodyPost_ret (results_ct rfl _ _ gg 32 #[.int .i64 (latestM_m (mlM a1 a2 a3) seqQ_m l0).1.f0, .int .i64 (latestM_m (mlM a1 a2 a3) seqQ_m l0).1.f1.f0, .int .i64 (latestM_m (mlM a1 a2 a3) seqQ_m l0).1.f1.f1, .int .i64 (latestM_m (mlM a1 a2 a3) seqQ_m l0).1.f1.f2, .int .i64 (latestM_m (mlM a1 a2 a3) seqQ_m l0).1.f1.f3, .int .i64 (latestM_m (mlM a1 a2 a3) seqQ_m l0).1.f1.f4, .string (latestM_m (mlM a1 a2 a3) seqQ_m l0).1.f1.f5, .string (latestM_m (mlM a1 a2 a3) seqQ_m l0).1.f1.f6, .string (latestM_m (mlM a1 a2 a3) seqQ_m l0).1.f1.f7] (0, 0) _ rfl (bW BG) Try.underlying32 rfl (by kernel_rfl)) rfl ?_
 exact ⟨rfl, by exact lT HB (gC GG gN)⟩
def impl_mailThere.f (l0 : List (S32)) (a1 : Int) (a2 : Int) : Option (Int × Int × Int × Int × Int × Int × ByteArray × ByteArray × ByteArray × Bool) := (impl_boxThere.f l0 a1).bind fun bt146 => (if bt146.2.2.2.2.2.2.2.2.2 = true then ((impl_mailItem.f l0 5 a1 a2).bind fun bt157 => (if bt157.2.2.2.2.2.2.2.2.2 = true then (some (0, 0, 0, 0, 0, 0, (⟨#[]⟩ : ByteArray), (⟨#[]⟩ : ByteArray), (⟨#[]⟩ : ByteArray), false)) else ((impl_mailItem.f l0 3 a1 a2).bind fun bt168 => (some (bt168.1, bt168.2.1, bt168.2.2.1, bt168.2.2.2.1, bt168.2.2.2.2.1, bt168.2.2.2.2.2.1, bt168.2.2.2.2.2.2.1, bt168.2.2.2.2.2.2.2.1, bt168.2.2.2.2.2.2.2.2.1, bt168.2.2.2.2.2.2.2.2.2))))) else (some (0, 0, 0, 0, 0, 0, (⟨#[]⟩ : ByteArray), (⟨#[]⟩ : ByteArray), (⟨#[]⟩ : ByteArray), false)))
theorem impl_mailThere.calls (A0 : Option Addr) (c0 : Nat) (l0 : List (S32)) (a1 : Int) (a2 : Int) (r1 : Int) (r2 : Int) (r3 : Int) (r4 : Int) (r5 : Int) (r6 : Int) (r7 : ByteArray) (r8 : ByteArray) (r9 : ByteArray) (r10 : Bool) (w : World) (hr0 : Kd.C k32 w A0 l0.length l0) (hc0 : l0.length ≤ c0) (h : impl_mailThere.f l0 a1 a2 = some (r1, r2, r3, r4, r5, r6, r7, r8, r9, r10)) :
  Calls Try.prog 111 #[.slice A0 l0.length c0, .int .i64 a1, .int .i64 a2] w fun e w' => e = .returned (.tuple #[.agg #[.int .i64 r1, .int .i64 r2, .int .i64 r3, .int .i64 r4, .int .i64 r5, .int .i64 r6, .string r7, .string r8, .string r9], .bool r10]) ∧ Below w.heap.size w w' := by
 have hu32 := Try.underlying32
 have HR0 := Aside0.mk hr0
 have HC0 := Aside0.mk hc0
 clear hr0 hc0
 have HB := ak (Below.refl w.heap.size w)
 have H := h
 clear h
 unfold impl_mailThere.f at H
 obtain ⟨⟨t146, t147, t148, t149, t150, t151, t152, t153, t154, t155⟩, A4, H⟩ := eb H
 try dsimp only at H
 have HS_ := Aside0.mk H
 clear H
 go_enter Try.func111, Try.ntmps111
 go_wp2_with (first | ((with_reducible refine gate_dst (N := 6) rfl ?_); refine b9 6 ?_; intro gb145 hg w20 hbox hb; replace BK145 := ak (hbox); replace GE145 := ak (bz hg (lG HB)); replace HB := lB HB hb; clear hb hbox hg) | ((with_reducible refine gate_callee (f := 76) rfl ?_); refine gl (some 15) Try.func76 #[.slice A0 l0.length c0, .int .i64 a1] ?_; (with_reducible refine (impl_boxThere.calls _ _ l0 a1 _ _ _ _ _ _ _ _ _ _ _ ?side1 ?side2 A4.out).mono ?_); (case side1 => exact cG (Kd.C_below HR0.out HB.out)); (case side2 => exact HC0.out); rintro e w21 ⟨rfl, hb⟩; refine ⟨_, rfl, ?_⟩; replace BK145 := bB BK145 hb; replace HB := ak (below_step (lT HB (gC GE145 gN)) hb); (try clear hb); (try clear hk); refine Stop.out ?_))
 have H := HS_.out
 clear HS_
 by_cases c5 : t155 = true
 {
 subst c5
 rw [if_pos rfl] at H
 obtain ⟨⟨t157, t158, t159, t160, t161, t162, t163, t164, t165, t166⟩, A6, H⟩ := eb H
 try dsimp only at H
 have HS_ := Aside0.mk H
 clear H
 refine ⟨?_⟩
 go_wp2_with (first | ((with_reducible refine gate_dst (N := 8) rfl ?_); refine b9 8 ?_; intro gb156 hg w10 hbox hb; replace BK156 := ak (hbox); replace GW156 := ak (bz hg (lT HB (gC GE145 gN))); replace GE156 := ak (bz hg (lT HB (gC GE145 gN))); replace HB := ak (below_step (lT HB (gC GE145 gN)) hb); replace NB145_156 := ak (nl hg (bG BK145)); replace NB156_145 := ak (ng hg (bG BK145)); replace BK145 := bB BK145 hb; clear hb hbox hg; have hnb11 := NB156_145.out; have hnc11 := NB145_156.out; obtain ⟨_, _, _, _, _, _, _, _, _, _, _, _, _, _, _, _, _, _⟩ := bC9 BK156) | ((with_reducible refine gate_callee (f := 112) rfl ?_); refine gl (some 25) Try.func112 #[.slice A0 l0.length c0, .int .i64 5, .int .i64 a1, .int .i64 a2] ?_; (with_reducible refine (impl_mailItem.calls _ _ l0 5 a1 a2 _ _ _ _ _ _ _ _ _ _ _ ?side1 ?side2 A6.out).mono ?_); (case side1 => exact Kd.C_below HR0.out (lT HB (gC GE145 (gC GE156 gN)))); (case side2 => exact HC0.out); rintro e w13 ⟨rfl, hb⟩; refine ⟨_, rfl, ?_⟩; replace BK145 := ak (blk_below (bT BK145 (nC NB145_156 nN)) hb); replace BK156 := ak (blk_below (g := gb156) (o := .cells #[.int .i64 t146, .int .i64 t147, .int .i64 t148, .int .i64 t149, .int .i64 t150, .int .i64 t151, .string t152, .string t153, .string t154] 32 (0, 0)) (bW BK156) hb); replace HB := ak (below_step (lT HB (gC GE145 (gC GE156 gN))) hb); (try clear hb); (try clear hk); refine Stop.out ?_))
 have H := HS_.out
 clear HS_
 by_cases c7 : t166 = true
 {
 subst c7
 rw [if_pos rfl] at H
 simp only [Option.some.injEq, Prod.mk.injEq] at H
 obtain ⟨rfl, rfl, rfl, rfl, rfl, rfl, rfl, rfl, rfl, rfl⟩ := H
 refine ⟨?_⟩
 go_wp2_with ((with_reducible refine gate_dst (N := 10) rfl ?_); refine b9 10 ?_; intro gb167 hg w14 hbox hb; replace BK167 := ak (hbox); replace GW167 := ak (bz hg (lT HB (gC GE145 (gC GE156 gN)))); replace GE167 := ak (bz hg (lT HB (gC GE145 (gC GE156 gN)))); replace HB := ak (below_step (lT HB (gC GE145 (gC GE156 gN))) hb); replace NB145_167 := ak (nl hg (bG BK145)); replace NB167_145 := ak (ng hg (bG BK145)); replace BK145 := bB BK145 hb; replace NB156_167 := ak (nl hg (bG BK156)); replace NB167_156 := ak (ng hg (bG BK156)); replace BK156 := bB BK156 hb; clear hb hbox hg; have hnb15 := NB167_145.out; have hnc15 := NB145_167.out; have hnb16 := NB167_156.out; have hnc16 := NB156_167.out; obtain ⟨_, _, _, _, _, _, _, _, _, _, _, _, _, _, _, _, _, _⟩ := bC9 BK167; obtain ⟨_, _, _, _, _, _, _, _, _, _, _, _, _, _, _, _, _, _⟩ := bC9 BK145)
 refine bodyPost_ret (results_ct rfl _ _ gb145 32 #[.int .i64 0, .int .i64 0, .int .i64 0, .int .i64 0, .int .i64 0, .int .i64 0, .string (⟨#[]⟩ : ByteArray), .string (⟨#[]⟩ : ByteArray), .string (⟨#[]⟩ : ByteArray)] (0, 0) _ rfl (bF BK145 (nC NB145_167 nN)) Try.underlying32 rfl (by kernel_rfl)) rfl ?_
 exact ⟨ew, by exact lT HB (gC GE145 (gC GE156 (gC GE167 gN)))⟩
 }
 {
 replace c7 := Bool.eq_false_iff.mpr c7
 subst c7
 rw [if_neg (show ¬ (false = true) by decide)] at H
 obtain ⟨⟨t168, t169, t170, t171, t172, t173, t174, t175, t176, t177⟩, A19, H⟩ := eb H
 try dsimp only at H
 simp only [Option.some.injEq, Prod.mk.injEq] at H
 obtain ⟨rfl, rfl, rfl, rfl, rfl, rfl, rfl, rfl, rfl, rfl⟩ := H
 refine ⟨?_⟩
 go_wp2_with (first | ((with_reducible refine gate_dst (N := 10) rfl ?_); refine b9 10 ?_; intro gb167 hg w26 hbox hb; replace BK167 := ak (hbox); replace GW167 := ak (bz hg (lT HB (gC GE145 (gC GE156 gN)))); replace GE167 := ak (bz hg (lT HB (gC GE145 (gC GE156 gN)))); replace HB := ak (below_step (lT HB (gC GE145 (gC GE156 gN))) hb); replace NB145_167 := ak (nl hg (bG BK145)); replace NB167_145 := ak (ng hg (bG BK145)); replace BK145 := bB BK145 hb; replace NB156_167 := ak (nl hg (bG BK156)); replace NB167_156 := ak (ng hg (bG BK156)); replace BK156 := bB BK156 hb; clear hb hbox hg; have hnb27 := NB167_145.out; have hnc27 := NB145_167.out; have hnb28 := NB167_156.out; have hnc28 := NB156_167.out; obtain ⟨_, _, _, _, _, _, _, _, _, _, _, _, _, _, _, _, _, _⟩ := bC9 BK167) | ((with_reducible refine gate_callee (f := 112) rfl ?_); refine gl (some 33) Try.func112 #[.slice A0 l0.length c0, .int .i64 3, .int .i64 a1, .int .i64 a2] ?_; (with_reducible refine (impl_mailItem.calls _ _ l0 3 a1 a2 t168 t169 t170 t171 t172 t173 t174 t175 t176 t177 _ ?side1 ?side2 A19.out).mono ?_); (case side1 => exact Kd.C_below HR0.out (lT HB (gC GE145 (gC GE156 (gC GE167 gN))))); (case side2 => exact HC0.out); rintro e w30 ⟨rfl, hb⟩; refine ⟨_, rfl, ?_⟩; replace BK145 := ak (blk_below (bT BK145 (nC NB145_167 nN)) hb); replace BK156 := ak (blk_below (bT BK156 (nC NB156_167 nN)) hb); replace BK167 := ak (blk_below (g := gb167) (o := .cells #[.int .i64 t157, .int .i64 t158, .int .i64 t159, .int .i64 t160, .int .i64 t161, .int .i64 t162, .string t163, .string t164, .string t165] 32 (0, 0)) (bW BK167) hb); replace HB := ak (below_step (lT HB (gC GE145 (gC GE156 (gC GE167 gN)))) hb); (try clear hb); (try clear hk); obtain ⟨_, _, _, _, _, _, _, _, _, _, _, _, _, _, _, _, _, _⟩ := bC9 BK145))
 refine bodyPost_ret (results_ct rfl _ _ gb145 32 #[.int .i64 t168, .int .i64 t169, .int .i64 t170, .int .i64 t171, .int .i64 t172, .int .i64 t173, .string t174, .string t175, .string t176] (0, 0) _ rfl (bW BK145) Try.underlying32 rfl (by kernel_rfl)) rfl ?_
 exact ⟨ew, by exact lT HB (gC GE145 (gC GE156 (gC GE167 gN)))⟩
 }
 }
 {
 replace c5 := Bool.eq_false_iff.mpr c5
 subst c5
 rw [if_neg (show ¬ (false = true) by decide)] at H
 simp only [Option.some.injEq, Prod.mk.injEq] at H
 obtain ⟨rfl, rfl, rfl, rfl, rfl, rfl, rfl, rfl, rfl, rfl⟩ := H
 refine ⟨?_⟩
 go_wp2_with ((with_reducible refine gate_dst (N := 8) rfl ?_); refine b9 8 ?_; intro gb156 hg w34 hbox hb; replace BK156 := ak (hbox); replace GW156 := ak (bz hg (lT HB (gC GE145 gN))); replace GE156 := ak (bz hg (lT HB (gC GE145 gN))); replace HB := ak (below_step (lT HB (gC GE145 gN)) hb); replace NB145_156 := ak (nl hg (bG BK145)); replace NB156_145 := ak (ng hg (bG BK145)); replace BK145 := bB BK145 hb; clear hb hbox hg; have hnb35 := NB156_145.out; have hnc35 := NB145_156.out; obtain ⟨_, _, _, _, _, _, _, _, _, _, _, _, _, _, _, _, _, _⟩ := bC9 BK156; obtain ⟨_, _, _, _, _, _, _, _, _, _, _, _, _, _, _, _, _, _⟩ := bC9 BK145)
 refine bodyPost_ret (results_ct rfl _ _ gb145 32 #[.int .i64 0, .int .i64 0, .int .i64 0, .int .i64 0, .int .i64 0, .int .i64 0, .string (⟨#[]⟩ : ByteArray), .string (⟨#[]⟩ : ByteArray), .string (⟨#[]⟩ : ByteArray)] (0, 0) _ rfl (bF BK145 (nC NB145_156 nN)) Try.underlying32 rfl (by kernel_rfl)) rfl ?_
 exact ⟨ew, by exact lT HB (gC GE145 (gC GE156 gN))⟩
 }
def impl_boxState.l0 : Nat → List (S32) → List Int → Int → Int → Int → Int → ByteArray → ByteArray → Int → List (S68) → Option (Int × ByteArray × ByteArray × Int × (List (S68)))
 | 0, _, _, _, _, _, _, _, _, _, _ => none
 | k + 1, a, b, c, d, e, g, h, i, j, l => if d < c then (if 0 ≤ d then (if d < (b.length : Int) then ((impl_mailThere.f a e (rd b d)).bind fun bt186 => (if bt186.2.2.2.2.2.2.2.2.2 = true then ((impl_mailItem.f a 4 e (rd b d)).bind fun bt198 => (if bt198.2.2.2.2.2.2.2.2.2 = true then (if l.length < 4398046511104 then (impl_boxState.l0 k a b c (wrap64 (d + 1)) e g h i (mx j (wrap64 ((rd b d) + 1))) (l ++ [(⟨rd b d, bt198.2.2.2.2.2.1, bt186.2.2.2.2.2.2.2.2.1⟩ : S68)])) else (none)) else (if l.length < 4398046511104 then (impl_boxState.l0 k a b c (wrap64 (d + 1)) e g h i (mx j (wrap64 ((rd b d) + 1))) (l ++ [(⟨rd b d, bt186.2.2.2.2.2.1, bt186.2.2.2.2.2.2.2.2.1⟩ : S68)])) else (none)))) else (impl_boxState.l0 k a b c (wrap64 (d + 1)) e g h i (mx j (wrap64 ((rd b d) + 1))) l))) else (none)) else (none)) else (some (g, h, i, j, l))
def impl_boxState.f (k : Nat) (l0 : List (S32)) (a1_0 : Int) (a1_1 : Int) (a1_2 : Int) (a1_3 : Int) (a1_4 : Int) (a1_5 : Int) (a1_6 : ByteArray) (a1_7 : ByteArray) (a1_8 : ByteArray) : Option (Int × ByteArray × ByteArray × Int × (List (S68))) := (impl_numbers_uid.f l0 a1_2).bind fun t182 => (impl_boxState.l0 k l0 t182 (t182.length : Int) 0 a1_2 a1_2 a1_6 a1_7 a1_4 ([] : List (S68)))
theorem impl_boxState.mono_l : ∀ k, (∀ y0 y1 y2 y3 y4 y5 y6 y7 y8 y9, LeO (impl_boxState.l0 k y0 y1 y2 y3 y4 y5 y6 y7 y8 y9) (impl_boxState.l0 (k + 1) y0 y1 y2 y3 y4 y5 y6 y7 y8 y9))
 | 0 => fun _ _ _ _ _ _ _ _ _ _ r h => by simp [impl_boxState.l0] at h
 | k + 1 => by
  have ih0 := impl_boxState.mono_l k
  ·intro y0 y1 y2 y3 y4 y5 y6 y7 y8 y9
   unfold impl_boxState.l0
   repeat' with_reducible first | exact ih0 _ _ _ _ _ _ _ _ _ _ | exact LeO.refl _ | exact LeO.none _ | refine LeO.ite ?_ ?_ | refine LeO.bind ?_ (fun _ => ?_)
theorem impl_boxState.mono : ∀ a0 a1 a2 a3 a4 a5 a6 a7 a8 a9 k, LeO (impl_boxState.f k a0 a1 a2 a3 a4 a5 a6 a7 a8 a9) (impl_boxState.f (k + 1) a0 a1 a2 a3 a4 a5 a6 a7 a8 a9) := by
 intro a0 a1 a2 a3 a4 a5 a6 a7 a8 a9 k
 have ih0 := impl_boxState.mono_l k
 unfold impl_boxState.f
 repeat' with_reducible first | exact ih0 _ _ _ _ _ _ _ _ _ _ | exact LeO.refl _ | exact LeO.none _ | refine LeO.ite ?_ ?_ | refine LeO.bind ?_ (fun _ => ?_)
theorem impl_boxState.calls (k : Nat) (A0 : Option Addr) (c0 : Nat) (l0 : List (S32)) (a1_0 : Int) (a1_1 : Int) (a1_2 : Int) (a1_3 : Int) (a1_4 : Int) (a1_5 : Int) (a1_6 : ByteArray) (a1_7 : ByteArray) (a1_8 : ByteArray) (r1 : Int) (r2 : ByteArray) (r3 : ByteArray) (r4 : Int) (r5 : List (S68)) (w : World) (hr0 : Kd.C k32 w A0 l0.length l0) (hc0 : l0.length ≤ c0) (h : impl_boxState.f k l0 a1_0 a1_1 a1_2 a1_3 a1_4 a1_5 a1_6 a1_7 a1_8 = some (r1, r2, r3, r4, r5)) :
  Calls Try.prog 77 #[.slice A0 l0.length c0, .agg #[.int .i64 a1_0, .int .i64 a1_1, .int .i64 a1_2, .int .i64 a1_3, .int .i64 a1_4, .int .i64 a1_5, .string a1_6, .string a1_7, .string a1_8]] w fun e w' => ∃ v4_ : Value, e = .returned (.agg #[.int .i64 r1, .string r2, .string r3, .int .i64 r4, v4_]) ∧ Kd.R k68 68 w' w.heap.size (fun _ => True) v4_ r5 ∧ Below w.heap.size w w' := by
 have hmf : ∀ (fn : Fn) (first cap : Array Value) (w : World), (Instr.makeFunc fn first cap).run Try.prog w = .ok (.func fn first cap) w := fun _ _ _ _ => rfl
 have hu32 := Try.underlying32
 have hu66 := Try.underlying66
 have hu68 := Try.underlying68
 have HR0 := Aside0.mk hr0
 have HC0 := Aside0.mk hc0
 clear hr0 hc0
 have HB := ak (Below.refl w.heap.size w)
 have H := h
 clear h
 unfold impl_boxState.f at H
 obtain ⟨t182, A3, H⟩ := eb H
 try dsimp only at H
 have H' := Aside0.mk H
 clear H
 go_enter Try.func77, Try.ntmps77
 go_wp2_with (first | ((with_reducible refine gate_dst (N := 3) rfl ?_); refine bx 3 #[.int .i64 a1_0, .int .i64 a1_1, .int .i64 a1_2, .int .i64 a1_3, .int .i64 a1_4, .int .i64 a1_5, .string a1_6, .string a1_7, .string a1_8] 32 ?_; intro gb178 hg w4 hbox hb; replace BK178 := ak (hbox); replace GE178 := ak (bz hg (lG HB)); replace HB := lB HB hb; clear hb hbox hg) | ((with_reducible refine gate_dst (N := 4) rfl ?_); refine bx 4 #[.int .i64 0, .string (⟨#[]⟩ : ByteArray), .string (⟨#[]⟩ : ByteArray), .int .i64 0, .slice none 0 0] 66 ?_; intro gb179 hg w5 hbox hb; replace BK179 := ak (hbox); replace GW179 := ak (bz hg (lT HB (gC GE178 gN))); replace GE179 := ak (bz hg (lT HB (gC GE178 gN))); replace HB := ak (below_step (lT HB (gC GE178 gN)) hb); replace NB178_179 := ak (nl hg (bG BK178)); replace NB179_178 := ak (ng hg (bG BK178)); replace BK178 := bB BK178 hb; clear hb hbox hg; have hnb6 := NB178_179.out; have hnc6 := NB179_178.out; obtain ⟨hcz7_0, hcz7_1, hcz7_2, hcz7_3, hcz7_4, hcz7_5, hcz7_6, hcz7_7, hcz7_8, hfz7_0, hfz7_1, hfz7_2, hfz7_3, hfz7_4, hfz7_5, hfz7_6, hfz7_7, hfz7_8⟩ := bC9 BK178) | ((with_reducible refine gate_dst (N := 5) rfl ?_); refine bx 5 #[.int .i64 0] 3 ?_; intro gb180 hg w8 hbox hb; replace BK180 := ak (hbox); replace GW180 := ak (bz hg (lT HB (gC GE178 (gC GE179 gN)))); replace GE180 := ak (bz hg (lT HB (gC GE178 (gC GE179 gN)))); replace HB := ak (below_step (lT HB (gC GE178 (gC GE179 gN))) hb); replace NB178_180 := ak (nl hg (bG BK178)); replace NB180_178 := ak (ng hg (bG BK178)); replace BK178 := bB BK178 hb; replace NB179_180 := ak (nl hg (bG BK179)); replace NB180_179 := ak (ng hg (bG BK179)); replace BK179 := bB BK179 hb; clear hb hbox hg; have hnb9 := NB180_178.out; have hnc9 := NB178_180.out; have hnb10 := NB180_179.out; have hnc10 := NB179_180.out; obtain ⟨hcz11_0, hfz11_0⟩ := bC1 BK180; obtain ⟨hcz12_0, hcz12_1, hcz12_2, hcz12_3, hcz12_4, hcz12_5, hcz12_6, hcz12_7, hcz12_8, hfz12_0, hfz12_1, hfz12_2, hfz12_3, hfz12_4, hfz12_5, hfz12_6, hfz12_7, hfz12_8⟩ := bC9 BK178) | ((with_reducible refine gate_dst (N := 6) rfl ?_); refine bx 6 #[.int .i64 0, .string (⟨#[]⟩ : ByteArray), .string (⟨#[]⟩ : ByteArray), .int .i64 0, .slice none 0 0] 66 ?_; intro gb181 hg w13 hbox hb; replace BK181 := ak (hbox); replace GW181 := ak (bz hg (lT HB (gC GE178 (gC GE179 (gC GE180 gN))))); replace GE181 := ak (bz hg (lT HB (gC GE178 (gC GE179 (gC GE180 gN))))); replace HB := ak (below_step (lT HB (gC GE178 (gC GE179 (gC GE180 gN)))) hb); replace NB178_181 := ak (nl hg (bT BK178 (nC NB178_180 nN))); replace NB181_178 := ak (ng hg (bT BK178 (nC NB178_180 nN))); replace BK178 := ak (blk_below (bT BK178 (nC NB178_180 nN)) hb); replace NB179_181 := ak (nl hg (bT BK179 (nC NB179_180 nN))); replace NB181_179 := ak (ng hg (bT BK179 (nC NB179_180 nN))); replace BK179 := ak (blk_below (bT BK179 (nC NB179_180 nN)) hb); replace NB180_181 := ak ((by rw [hg]; exact Nat.ne_of_lt (blk_lt (g := gb180) (o := .cells #[.int .i64 a1_2] 3 (0, 0)) (bW BK180)) : gb180 ≠ gb181)); replace NB181_180 := ak ((by rw [hg]; exact Nat.ne_of_gt (blk_lt (g := gb180) (o := .cells #[.int .i64 a1_2] 3 (0, 0)) (bW BK180)) : gb181 ≠ gb180)); replace BK180 := ak (blk_below (g := gb180) (o := .cells #[.int .i64 a1_2] 3 (0, 0)) (bW BK180) hb); clear hb hbox hg; have hnb14 := NB181_178.out; have hnc14 := NB178_181.out; have hnb15 := NB181_179.out; have hnc15 := NB179_181.out; have hnb16 := NB181_180.out; have hnc16 := NB180_181.out; obtain ⟨hcz17_0, hcz17_1, hcz17_2, hcz17_3, hcz17_4, hfz17_0, hfz17_1, hfz17_2, hfz17_3, hfz17_4⟩ := bC5 BK181; obtain ⟨hcz18_0, hfz18_0⟩ := bC1 BK180) | ((with_reducible refine gate_callee (f := 74) rfl ?_); refine gl (some 31) Try.func74 #[.slice A0 l0.length c0, .func (.func 110) #[] #[.pointer (some ⟨gb180, 0, none⟩)]] ?_; (with_reducible refine (impl_numbers_uid.calls gb180 _ _ l0 a1_2 t182 _ ?sideV ?side1 ?side2 A3.out).mono ?_); (case sideV => exact (bT BK180 (nC NB180_181 nN))); (case side1 => exact Kd.C_below HR0.out (lT HB (gC GE178 (gC GE179 (gC GE180 (gC GE181 gN)))))); (case side2 => exact HC0.out); rintro e w19 ⟨v183, rfl, ho0, hb⟩; refine ⟨_, rfl, ?_⟩; replace HO184 := ak (Kd.R_lower ho0 (below_size (lT HB (gC GE178 (gC GE179 (gC GE180 (gC GE181 gN))))))); replace BK178 := ak (blk_below (bT BK178 (nC NB178_181 nN)) hb); replace BK179 := ak (blk_below (bT BK179 (nC NB179_181 nN)) hb); replace BK180 := ak (blk_below (bT BK180 (nC NB180_181 nN)) hb); replace BK181 := ak (blk_below (g := gb181) (o := .cells #[.int .i64 a1_2, .string a1_6, .string a1_7, .int .i64 a1_4, .slice none 0 0] 66 (0, 0)) (bW BK181) hb); replace HB := ak (below_step (lT HB (gC GE178 (gC GE179 (gC GE180 (gC GE181 gN))))) hb); (try clear hb); (try clear hk); (try clear ho0); obtain ⟨Ao20, co20, eo20⟩ := Kd.R_slice HO184.out; subst eo20))
 go_loopg [34] k (fun kq v34 w' => ∃ (x34_1 : Int) (x182003_1 : Int) (x182004_1 : List (S68)) (u182004 : Value), v34 = .int .i64 x34_1 ∧ Aside0 (impl_boxState.l0 kq l0 t182 (t182.length : Int) x34_1 a1_2 a1_2 a1_6 a1_7 x182003_1 x182004_1 = some (r1, r2, r3, r4, r5)) ∧ Aside0 (kq ≤ k) ∧ Aside0 (Kd.R (Kd.int .i64) 3 w' w.heap.size (fun _ => True) (.slice Ao20 t182.length co20) t182) ∧ Aside0 (Kd.R k68 68 w' w.heap.size (fun _ => True) u182004 x182004_1) ∧ Aside0 (w'.heap[gb178]? = some (.cells #[.int .i64 a1_0, .int .i64 a1_1, .int .i64 a1_2, .int .i64 a1_3, .int .i64 a1_4, .int .i64 a1_5, .string a1_6, .string a1_7, .string a1_8] 32 (0, 0))) ∧ Aside0 (w'.heap[gb179]? = some (.cells #[.int .i64 0, .string (⟨#[]⟩ : ByteArray), .string (⟨#[]⟩ : ByteArray), .int .i64 0, (.slice none 0 0)] 66 (0, 0))) ∧ Aside0 (w'.heap[gb180]? = some (.cells #[.int .i64 a1_2] 3 (0, 0))) ∧ Aside0 (w'.heap[gb181]? = some (.cells #[.int .i64 a1_2, .string a1_6, .string a1_7, .int .i64 x182003_1, u182004] 66 (0, 0))) ∧ Aside0 (Below w.heap.size w w'))
 case atStart => exact ⟨_, _, _, (.slice none 0 0), rr, H', ⟨Nat.le_refl _⟩, ⟨by (with_reducible repeat (first | apply Kd.R_alloc | apply Kd.R_drewN | apply Kd.R_drew)); exact HO184.out⟩, ⟨nil_⟩, ⟨bG BK178⟩, ⟨bG BK179⟩, ⟨bG BK180⟩, ⟨bG BK181⟩, ⟨by exact lT HB (gC GE178 (gC GE179 (gC GE180 (gC GE181 gN))))⟩⟩
 case round =>
  skip;{
 clear H'
 try clear hcz11_0 hcz12_0 hcz12_1 hcz12_2 hcz12_3 hcz12_4 hcz12_5 hcz12_6 hcz12_7 hcz12_8 hcz17_0 hcz17_1 hcz17_2 hcz17_3 hcz17_4 hcz18_0 hcz7_0 hcz7_1 hcz7_2 hcz7_3 hcz7_4 hcz7_5 hcz7_6 hcz7_7 hcz7_8 hfz11_0 hfz12_0 hfz12_1 hfz12_2 hfz12_3 hfz12_4 hfz12_5 hfz12_6 hfz12_7 hfz12_8 hfz17_0 hfz17_1 hfz17_2 hfz17_3 hfz17_4 hfz18_0 hfz7_0 hfz7_1 hfz7_2 hfz7_3 hfz7_4 hfz7_5 hfz7_6 hfz7_7 hfz7_8
 obtain ⟨x34_1, x182003_1, x182004_1, u182004, rfl, HA, HK1, HO_32, HO_182004, BK178, BK179, BK180, BK181, HB⟩ := hrel
 cases gk with
 | zero => exact absurd HA.out (by simp [impl_boxState.l0])
 | succ k1 =>
  skip;{
 have H := HA.out
 clear HA
 simp only [impl_boxState.l0] at H
 by_cases c21 : x34_1 < (t182.length : Int)
 {
 rw [if_pos c21] at H
 have c21b0 := decide_eq_true c21
 clear c21
 by_cases c22 : 0 ≤ x34_1
 {
 rw [if_pos c22] at H
 have c22b0 := decide_eq_true c22
 clear c22
 by_cases c23 : x34_1 < (t182.length : Int)
 {
 rw [if_pos c23] at H
 have c23b0 := decide_eq_true c23
 clear c23
 obtain ⟨ji24, hji24⟩ : ∃ j_ : Int, (mx x182003_1 (wrap64 ((rd t182 x34_1) + 1))) = j_ := ⟨_, rfl⟩
 replace H : ((impl_mailThere.f l0 a1_2 (rd t182 x34_1)).bind fun bt186 => (if bt186.2.2.2.2.2.2.2.2.2 = true then ((impl_mailItem.f l0 4 a1_2 (rd t182 x34_1)).bind fun bt198 => (if bt198.2.2.2.2.2.2.2.2.2 = true then (if x182004_1.length < 4398046511104 then (impl_boxState.l0 k1 l0 t182 (t182.length : Int) (wrap64 (x34_1 + 1)) a1_2 a1_2 a1_6 a1_7 ji24 (x182004_1 ++ [(⟨rd t182 x34_1, bt198.2.2.2.2.2.1, bt186.2.2.2.2.2.2.2.2.1⟩ : S68)])) else (none)) else (if x182004_1.length < 4398046511104 then (impl_boxState.l0 k1 l0 t182 (t182.length : Int) (wrap64 (x34_1 + 1)) a1_2 a1_2 a1_6 a1_7 ji24 (x182004_1 ++ [(⟨rd t182 x34_1, bt186.2.2.2.2.2.1, bt186.2.2.2.2.2.2.2.2.1⟩ : S68)])) else (none)))) else (impl_boxState.l0 k1 l0 t182 (t182.length : Int) (wrap64 (x34_1 + 1)) a1_2 a1_2 a1_6 a1_7 ji24 x182004_1))) = some (r1, r2, r3, r4, r5) := by first | (rw [hji24] at H; exact H) | (simp only [hji24] at H ⊢; exact H)
 have hji24_ : (if x182003_1 < (wrap64 ((rd t182 x34_1) + 1)) then (wrap64 ((rd t182 x34_1) + 1)) else x182003_1) = ji24 := hji24
 obtain ⟨⟨t186, t187, t188, t189, t190, t191, t192, t193, t194, t195⟩, A25, H⟩ := eb H
 try dsimp only at H
 have HS_ := Aside0.mk H
 clear H
 have p185 : 0 ≤ (x34_1 : Int) := oda
 have q185 : x34_1 < (t182.length : Int) := oda
 obtain ⟨ad185, e185, hx185_0⟩ := Kd.at_int (Kd.R_reads' HO_32.out).2.2 x34_1 p185 q185
 cases e185
 replace p185 := eq_true p185
 replace q185 := eq_true q185
 have hnb103 := NB181_178.out
 have hnc103 := NB178_181.out
 have hnb104 := NB181_179.out
 have hnc104 := NB179_181.out
 have hnb105 := NB181_180.out
 have hnc105 := NB180_181.out
 obtain ⟨_, _, _, _, _, _, _, _, _, _⟩ := bC5 BK181
 have hnb107 := NB180_178.out
 have hnc107 := NB178_180.out
 have hnb108 := NB180_179.out
 have hnc108 := NB179_180.out
 obtain ⟨_, _⟩ := bC1 BK180
 go_wp2_with ((with_reducible refine gate_callee (f := 111) rfl ?_); refine gl (some 48) Try.func111 #[.slice A0 l0.length c0, .int .i64 a1_2, .int .i64 (rd t182 x34_1)] ?_; (with_reducible refine (impl_mailThere.calls _ _ l0 a1_2 (rd t182 x34_1) _ _ _ _ _ _ _ _ _ _ _ ?side1 ?side2 A25.out).mono ?_); (case side1 => exact Kd.C_below HR0.out (lT HB (gC GE178 (gC GE179 (gC GE180 (gC GE181 gN)))))); (case side2 => exact HC0.out); rintro e w110 ⟨rfl, hb⟩; refine ⟨_, rfl, ?_⟩; replace HO_32 := ak (Kd.R_below (rT HO_32 BK181 (by decide)) hb); replace HO_182004 := ak (Kd.R_below (rT HO_182004 BK181 (by decide)) hb); replace BK178 := ak (blk_below (bT BK178 (nC NB178_181 nN)) hb); replace BK179 := ak (blk_below (bT BK179 (nC NB179_181 nN)) hb); replace BK180 := ak (blk_below (bT BK180 (nC NB180_181 nN)) hb); replace BK181 := ak (blk_below (g := gb181) (o := .cells #[.int .i64 a1_2, .string a1_6, .string a1_7, .int .i64 ji24, u182004] 66 (0, 0)) (bW BK181) hb); replace HB := ak (below_step (lT HB (gC GE178 (gC GE179 (gC GE180 (gC GE181 gN))))) hb); (try clear hb); (try clear hk); refine Stop.out ?_)
 have H := HS_.out
 clear HS_
 by_cases c26 : t195 = true
 {
 subst c26
 rw [if_pos rfl] at H
 obtain ⟨⟨t198, t199, t200, t201, t202, t203, t204, t205, t206, t207⟩, A27, H⟩ := eb H
 try dsimp only at H
 have HS_ := Aside0.mk H
 clear H
 refine ⟨?_⟩
 go_wp2_with (first | ((with_reducible refine gate_dst (N := 10) rfl ?_); refine b9 10 ?_; intro gb196 hg w38 hbox hb; replace HO_32 := rB HO_32 hb; replace HO_182004 := rB HO_182004 hb; replace BK196 := ak (hbox); replace GW196 := ak (bz hg (lT HB (gC GE178 (gC GE179 (gC GE180 (gC GE181 gN)))))); replace GE196 := ak (bz hg (lT HB (gC GE178 (gC GE179 (gC GE180 (gC GE181 gN)))))); replace HB := ak (below_step (lT HB (gC GE178 (gC GE179 (gC GE180 (gC GE181 gN))))) hb); replace NB178_196 := ak (nl hg (bG BK178)); replace NB196_178 := ak (ng hg (bG BK178)); replace BK178 := bB BK178 hb; replace NB179_196 := ak (nl hg (bG BK179)); replace NB196_179 := ak (ng hg (bG BK179)); replace BK179 := bB BK179 hb; replace NB180_196 := ak (nl hg (bG BK180)); replace NB196_180 := ak (ng hg (bG BK180)); replace BK180 := bB BK180 hb; replace NB181_196 := ak (nl hg (bG BK181)); replace NB196_181 := ak (ng hg (bG BK181)); replace BK181 := bB BK181 hb; clear hb hbox hg; have hnb39 := NB196_178.out; have hnc39 := NB178_196.out; have hnb40 := NB196_179.out; have hnc40 := NB179_196.out; have hnb41 := NB196_180.out; have hnc41 := NB180_196.out; have hnb42 := NB196_181.out; have hnc42 := NB181_196.out; obtain ⟨_, _, _, _, _, _, _, _, _, _, _, _, _, _, _, _, _, _⟩ := bC9 BK196) | ((with_reducible refine gate_dst (N := 12) rfl ?_); refine bx 12 #[.int .i64 0, .int .i64 0, .string (⟨#[]⟩ : ByteArray)] 68 ?_; intro gb197 hg w44 hbox hb; replace HO_32 := ak (Kd.R_below (rT HO_32 BK196 (by decide)) hb); replace HO_182004 := ak (Kd.R_below (Kd.R_elderB (rT HO_182004 BK196 (by decide)) gb197 (Nat.le_of_eq hg.symm)) hb); replace BK197 := ak (hbox); replace GW197 := ak (bz hg (lT HB (gC GE178 (gC GE179 (gC GE180 (gC GE181 (gC GE196 gN))))))); replace GE197 := ak (bz hg (lT HB (gC GE178 (gC GE179 (gC GE180 (gC GE181 (gC GE196 gN))))))); replace HB := ak (below_step (lT HB (gC GE178 (gC GE179 (gC GE180 (gC GE181 (gC GE196 gN)))))) hb); replace NB178_197 := ak (nl hg (bT BK178 (nC NB178_196 nN))); replace NB197_178 := ak (ng hg (bT BK178 (nC NB178_196 nN))); replace BK178 := ak (blk_below (bT BK178 (nC NB178_196 nN)) hb); replace NB179_197 := ak (nl hg (bT BK179 (nC NB179_196 nN))); replace NB197_179 := ak (ng hg (bT BK179 (nC NB179_196 nN))); replace BK179 := ak (blk_below (bT BK179 (nC NB179_196 nN)) hb); replace NB180_197 := ak (nl hg (bT BK180 (nC NB180_196 nN))); replace NB197_180 := ak (ng hg (bT BK180 (nC NB180_196 nN))); replace BK180 := ak (blk_below (bT BK180 (nC NB180_196 nN)) hb); replace NB181_197 := ak (nl hg (bT BK181 (nC NB181_196 nN))); replace NB197_181 := ak (ng hg (bT BK181 (nC NB181_196 nN))); replace BK181 := ak (blk_below (bT BK181 (nC NB181_196 nN)) hb); replace NB196_197 := ak ((by rw [hg]; exact Nat.ne_of_lt (blk_lt (g := gb196) (o := .cells #[.int .i64 t186, .int .i64 t187, .int .i64 t188, .int .i64 t189, .int .i64 t190, .int .i64 t191, .string t192, .string t193, .string t194] 32 (0, 0)) (bW BK196)) : gb196 ≠ gb197)); replace NB197_196 := ak ((by rw [hg]; exact Nat.ne_of_gt (blk_lt (g := gb196) (o := .cells #[.int .i64 t186, .int .i64 t187, .int .i64 t188, .int .i64 t189, .int .i64 t190, .int .i64 t191, .string t192, .string t193, .string t194] 32 (0, 0)) (bW BK196)) : gb197 ≠ gb196)); replace BK196 := ak (blk_below (g := gb196) (o := .cells #[.int .i64 t186, .int .i64 t187, .int .i64 t188, .int .i64 t189, .int .i64 t190, .int .i64 t191, .string t192, .string t193, .string t194] 32 (0, 0)) (bW BK196) hb); clear hb hbox hg; have hnb45 := NB197_178.out; have hnc45 := NB178_197.out; have hnb46 := NB197_179.out; have hnc46 := NB179_197.out; have hnb47 := NB197_180.out; have hnc47 := NB180_197.out; have hnb48 := NB197_181.out; have hnc48 := NB181_197.out; have hnb49 := NB197_196.out; have hnc49 := NB196_197.out; obtain ⟨_, _, _, _, _, _⟩ := bC3 BK197; obtain ⟨_, _⟩ := bC1 BK180) | ((with_reducible refine gate_callee (f := 112) rfl ?_); refine gl (some 65) Try.func112 #[.slice A0 l0.length c0, .int .i64 4, .int .i64 a1_2, .int .i64 (rd t182 x34_1)] ?_; (with_reducible refine (impl_mailItem.calls _ _ l0 4 a1_2 (rd t182 x34_1) _ _ _ _ _ _ _ _ _ _ _ ?side1 ?side2 A27.out).mono ?_); (case side1 => exact Kd.C_below HR0.out (lT HB (gC GE178 (gC GE179 (gC GE180 (gC GE181 (gC GE196 (gC GE197 gN)))))))); (case side2 => exact HC0.out); rintro e w52 ⟨rfl, hb⟩; refine ⟨_, rfl, ?_⟩; replace HO_32 := ak (Kd.R_below (rT HO_32 BK197 (by decide)) hb); replace HO_182004 := ak (Kd.R_below (by (with_reducible repeat (first | apply Kd.R_alloc | apply Kd.R_drewN | apply Kd.R_drew)); exact (Kd.R_mono (Kd.R_far (p := ⟨gb197, 2, none⟩) (Kd.R_far (p := ⟨gb197, 1, none⟩) (Kd.R_far (p := ⟨gb197, 0, none⟩) (Kd.R_mono HO_182004.out (fun k_ hk => (⟨hk, hk.2⟩ : _ ∧ k_ ≠ gb197))) (fun _ hk => hk.2) (.int .i64 (rd t182 x34_1))) (fun _ hk => hk.2) (.int .i64 t191)) (fun _ hk => hk.2) (.string t194)) (fun _ h_ => h_.1))) hb); replace BK178 := ak (blk_below (bT BK178 (nC NB178_197 nN)) hb); replace BK179 := ak (blk_below (bT BK179 (nC NB179_197 nN)) hb); replace BK180 := ak (blk_below (bT BK180 (nC NB180_197 nN)) hb); replace BK181 := ak (blk_below (bT BK181 (nC NB181_197 nN)) hb); replace BK196 := ak (blk_below (bT BK196 (nC NB196_197 nN)) hb); replace BK197 := ak (blk_below (g := gb197) (o := .cells #[.int .i64 (rd t182 x34_1), .int .i64 t191, .string t194] 68 (0, 0)) (bW BK197) hb); replace HB := ak (below_step (lT HB (gC GE178 (gC GE179 (gC GE180 (gC GE181 (gC GE196 (gC GE197 gN))))))) hb); (try clear hb); (try clear hk); refine Stop.out ?_))
 have H := HS_.out
 clear HS_
 by_cases c28 : t207 = true
 {
 subst c28
 rw [if_pos rfl] at H
 by_cases c29 : x182004_1.length < 4398046511104
 {
 rw [if_pos c29] at H
 have LMc29 := Aside0.mk c29
 clear c29
 obtain ⟨y209, hy209⟩ : ∃ y_ : List (S68), y_ = (x182004_1 ++ [(⟨rd t182 x34_1, t203, t194⟩ : S68)]) := ⟨_, rfl⟩
 replace H : (impl_boxState.l0 k1 l0 t182 (t182.length : Int) (wrap64 (x34_1 + 1)) a1_2 a1_2 a1_6 a1_7 ji24 y209) = some (r1, r2, r3, r4, r5) := by first | (rw [hy209]; with_reducible exact H) | (have H2_ := (Option.bind_some _ _).symm.trans H; rw [hy209]; with_reducible exact H2_) | (have H2_ := (Option.bind_some _ _).symm.trans H; with_reducible exact H2_) | with_reducible exact H | (rw [hy209]; exact H) | exact H
 have Ny209 := Aside0.mk hy209
 clear hy209
 have H' := Aside0.mk H
 clear H
 refine ⟨?_⟩
 go_wp2_with (first | ((with_reducible refine gate_dst (N := 13) rfl ?_); refine b9 13 ?_; intro gb208 hg w53 hbox hb; replace HO_32 := rB HO_32 hb; replace HO_182004 := rB HO_182004 hb; replace BK208 := ak (hbox); replace GW208 := ak (bz hg (lT HB (gC GE178 (gC GE179 (gC GE180 (gC GE181 (gC GE196 (gC GE197 gN)))))))); replace GE208 := ak (bz hg (lT HB (gC GE178 (gC GE179 (gC GE180 (gC GE181 (gC GE196 (gC GE197 gN)))))))); replace HB := ak (below_step (lT HB (gC GE178 (gC GE179 (gC GE180 (gC GE181 (gC GE196 (gC GE197 gN))))))) hb); replace NB178_208 := ak (nl hg (bG BK178)); replace NB208_178 := ak (ng hg (bG BK178)); replace BK178 := bB BK178 hb; replace NB179_208 := ak (nl hg (bG BK179)); replace NB208_179 := ak (ng hg (bG BK179)); replace BK179 := bB BK179 hb; replace NB180_208 := ak (nl hg (bG BK180)); replace NB208_180 := ak (ng hg (bG BK180)); replace BK180 := bB BK180 hb; replace NB181_208 := ak (nl hg (bG BK181)); replace NB208_181 := ak (ng hg (bG BK181)); replace BK181 := bB BK181 hb; replace NB196_208 := ak (nl hg (bG BK196)); replace NB208_196 := ak (ng hg (bG BK196)); replace BK196 := bB BK196 hb; replace NB197_208 := ak (nl hg (bG BK197)); replace NB208_197 := ak (ng hg (bG BK197)); replace BK197 := bB BK197 hb; clear hb hbox hg; have hnb54 := NB208_178.out; have hnc54 := NB178_208.out; have hnb55 := NB208_179.out; have hnc55 := NB179_208.out; have hnb56 := NB208_180.out; have hnc56 := NB180_208.out; have hnb57 := NB208_181.out; have hnc57 := NB181_208.out; have hnb58 := NB208_196.out; have hnc58 := NB196_208.out; have hnb59 := NB208_197.out; have hnc59 := NB197_208.out; obtain ⟨_, _, _, _, _, _, _, _, _, _, _, _, _, _, _, _, _, _⟩ := bC9 BK208; obtain ⟨_, _, _, _, _, _⟩ := bC3 BK197; obtain ⟨_, _, _, _, _, _, _, _, _, _⟩ := bC5 BK181) | ((with_reducible refine gate_builtin (b := .append) (xs := #[.tmp 74, .tmp 76]) rfl ?_); at_builtin; refine Kd.R_append k68 (w0 := w) w.heap.size rfl (.tmp 74) (.tmp 76) 64 68 (.agg #[(.int .i64 0), (.int .i64 0), (.string ⟨#[]⟩)]) 32 rfl Try.underlying64 info68 rfl (by decide) (by omega) u182004 x182004_1 (⟨rd t182 x34_1, t203, t194⟩ : S68) [.int .i64 (rd t182 x34_1), .int .i64 t203, .string t194] (fun k_ => k_ ≠ gb197) (fun _ => False) rfl (by first | (go_simp; done) | (go_simp; rfl)) ?aP (fun _ hk => hk.elim) ?aF ?aO ?aB ?aS ?aL ?_; (case aP => exact k68_mkM _ _ _ (⟨rd t182 x34_1, t203, t194⟩ : S68)); (case aB => exact (lT HB (gC GE178 (gC GE179 (gC GE180 (gC GE181 (gC GE196 (gC GE197 (gC GE208 gN))))))))); (case aF => exact (fun k_ hk => Kd.freshB (g := gb197) (o := .cells #[.int .i64 (rd t182 x34_1), .int .i64 t203, .string t194] 68 (0, 0)) (bF BK197 (nC NB197_208 nN)) k_ hk)); (case aO => exact (by (with_reducible repeat (first | apply Kd.R_alloc | apply Kd.R_drewN | apply Kd.R_drew)); exact Kd.R_mono (Kd.R_far (p := ⟨gb197, 1, none⟩) (Kd.R_far (p := ⟨gb208, 8, none⟩) (Kd.R_far (p := ⟨gb208, 7, none⟩) (Kd.R_far (p := ⟨gb208, 6, none⟩) (Kd.R_far (p := ⟨gb208, 5, none⟩) (Kd.R_far (p := ⟨gb208, 4, none⟩) (Kd.R_far (p := ⟨gb208, 3, none⟩) (Kd.R_far (p := ⟨gb208, 2, none⟩) (Kd.R_far (p := ⟨gb208, 1, none⟩) (Kd.R_far (p := ⟨gb208, 0, none⟩) (Kd.R_mono (Kd.R_types HO_182004.out BK208.out (by decide)) (fun k_ hk => (⟨hk, hk.1.2⟩ : _ ∧ k_ ≠ gb197))) (fun _ hk => hk.1.2) (.int .i64 t198)) (fun _ hk => hk.1.2) (.int .i64 t199)) (fun _ hk => hk.1.2) (.int .i64 t200)) (fun _ hk => hk.1.2) (.int .i64 t201)) (fun _ hk => hk.1.2) (.int .i64 t202)) (fun _ hk => hk.1.2) (.int .i64 t203)) (fun _ hk => hk.1.2) (.string t204)) (fun _ hk => hk.1.2) (.string t205)) (fun _ hk => hk.1.2) (.string t206)) (fun _ hk => hk.2) (.int .i64 t203)) (fun _ hk => hk.1.1.2))); (case aS => exact (below_size (lT HB (gC GE178 (gC GE179 (gC GE180 (gC GE181 (gC GE196 (gC GE197 (gC GE208 gN)))))))))); (case aL => have := LMc29.out; omega); intro v210 w63 ho hb hg hat; rw [← Ny209.out] at ho; have n0_ := ak (Kd.R_over' (by (with_reducible repeat (first | apply Kd.R_alloc | apply Kd.R_drewN | apply Kd.R_drew)); exact (Kd.R_mono (Kd.R_mono (Kd.R_far (p := ⟨gb197, 1, none⟩) (Kd.R_far (p := ⟨gb208, 8, none⟩) (Kd.R_far (p := ⟨gb208, 7, none⟩) (Kd.R_far (p := ⟨gb208, 6, none⟩) (Kd.R_far (p := ⟨gb208, 5, none⟩) (Kd.R_far (p := ⟨gb208, 4, none⟩) (Kd.R_far (p := ⟨gb208, 3, none⟩) (Kd.R_far (p := ⟨gb208, 2, none⟩) (Kd.R_far (p := ⟨gb208, 1, none⟩) (Kd.R_far (p := ⟨gb208, 0, none⟩) (Kd.R_types (Kd.R_types HO_32.out BK208.out (by decide)) BK197.out (by decide)) (fun _ hk => hk.1.2) (.int .i64 t198)) (fun _ hk => hk.1.2) (.int .i64 t199)) (fun _ hk => hk.1.2) (.int .i64 t200)) (fun _ hk => hk.1.2) (.int .i64 t201)) (fun _ hk => hk.1.2) (.int .i64 t202)) (fun _ hk => hk.1.2) (.int .i64 t203)) (fun _ hk => hk.1.2) (.string t204)) (fun _ hk => hk.1.2) (.string t205)) (fun _ hk => hk.1.2) (.string t206)) (fun _ hk => hk.2) (.int .i64 t203)) (fun _ h_ => h_.1)) (fun _ h_ => h_.1))) (Kd.R_typed (by (with_reducible repeat (first | apply Kd.R_alloc | apply Kd.R_drewN | apply Kd.R_drew)); exact (Kd.R_mono (Kd.R_mono (Kd.R_far (p := ⟨gb197, 1, none⟩) (Kd.R_far (p := ⟨gb208, 8, none⟩) (Kd.R_far (p := ⟨gb208, 7, none⟩) (Kd.R_far (p := ⟨gb208, 6, none⟩) (Kd.R_far (p := ⟨gb208, 5, none⟩) (Kd.R_far (p := ⟨gb208, 4, none⟩) (Kd.R_far (p := ⟨gb208, 3, none⟩) (Kd.R_far (p := ⟨gb208, 2, none⟩) (Kd.R_far (p := ⟨gb208, 1, none⟩) (Kd.R_far (p := ⟨gb208, 0, none⟩) (Kd.R_mono (Kd.R_types HO_182004.out BK208.out (by decide)) (fun k_ hk => (⟨hk, hk.1.2⟩ : _ ∧ k_ ≠ gb197))) (fun _ hk => hk.1.2) (.int .i64 t198)) (fun _ hk => hk.1.2) (.int .i64 t199)) (fun _ hk => hk.1.2) (.int .i64 t200)) (fun _ hk => hk.1.2) (.int .i64 t201)) (fun _ hk => hk.1.2) (.int .i64 t202)) (fun _ hk => hk.1.2) (.int .i64 t203)) (fun _ hk => hk.1.2) (.string t204)) (fun _ hk => hk.1.2) (.string t205)) (fun _ hk => hk.1.2) (.string t206)) (fun _ hk => hk.2) (.int .i64 t203)) (fun _ h_ => h_.1)) (fun _ h_ => h_.1)))) (by decide) hg); have n1_ := ak (blk_grown (g := gb178) (o := .cells #[.int .i64 a1_0, .int .i64 a1_1, .int .i64 a1_2, .int .i64 a1_3, .int .i64 a1_4, .int .i64 a1_5, .string a1_6, .string a1_7, .string a1_8] 32 (0, 0)) (bT BK178 (nC NB178_197 (nC NB178_208 nN))) hg (Kd.R_ne HO_182004.out BK178.out (by decide))); have n2_ := ak (blk_grown (g := gb179) (o := .cells #[.int .i64 0, .string (⟨#[]⟩ : ByteArray), .string (⟨#[]⟩ : ByteArray), .int .i64 0, .slice none 0 0] 66 (0, 0)) (bT BK179 (nC NB179_197 (nC NB179_208 nN))) hg (Kd.R_ne HO_182004.out BK179.out (by decide))); have n3_ := ak (blk_grown (g := gb180) (o := .cells #[.int .i64 a1_2] 3 (0, 0)) (bT BK180 (nC NB180_197 (nC NB180_208 nN))) hg (Kd.R_ne HO_182004.out BK180.out (by decide))); have n4_ := ak (blk_grown (g := gb181) (o := .cells #[.int .i64 a1_2, .string a1_6, .string a1_7, .int .i64 ji24, u182004] 66 (0, 0)) (bT BK181 (nC NB181_197 (nC NB181_208 nN))) hg (Kd.R_ne HO_182004.out BK181.out (by decide))); have n5_ := ak (blk_grown (g := gb196) (o := .cells #[.int .i64 t186, .int .i64 t187, .int .i64 t188, .int .i64 t189, .int .i64 t190, .int .i64 t191, .string t192, .string t193, .string t194] 32 (0, 0)) (bT BK196 (nC NB196_197 (nC NB196_208 nN))) hg (Kd.R_ne HO_182004.out BK196.out (by decide))); have n6_ := ak (blk_grown (g := gb197) (o := .cells #[.int .i64 (rd t182 x34_1), .int .i64 t203, .string t194] 68 (0, 0)) (bF BK197 (nC NB197_208 nN)) hg (Kd.R_away HO_182004.out (fun _ hk => hk.2))); have n7_ := ak (blk_grown (g := gb208) (o := .cells #[.int .i64 t198, .int .i64 t199, .int .i64 t200, .int .i64 t201, .int .i64 t202, .int .i64 t203, .string t204, .string t205, .string t206] 32 (0, 0)) (bF BK208 (nC NB208_197 nN)) hg (Kd.R_ne HO_182004.out BK208.out (by decide))); have n8_ := ak (hb); have n9_ := ak (ho); clear HO_32; clear BK178; clear BK179; clear BK180; clear BK181; clear BK196; clear BK197; clear BK208; clear HB; clear HO_182004; have HO_32 := n0_; have BK178 := n1_; have BK179 := n2_; have BK180 := n3_; have BK181 := n4_; have BK196 := n5_; have BK197 := n6_; have BK208 := n7_; have HB := n8_; have HO211 := n9_; clear n0_ n1_ n2_ n3_ n4_ n5_ n6_ n7_ n8_ n9_; clear ho hb hg hat; obtain ⟨Ao64, co64, eo64⟩ := Kd.R_slice HO211.out; subst eo64; obtain ⟨_, _, _, _, _, _, _, _, _, _⟩ := bC5 BK181))
 go_roundg k1
 case measure => have := HK1.out; omega
 case rel => exact ⟨_, _, _, (.slice Ao64 y209.length co64), rr, H', ⟨by have := HK1.out; omega⟩, ⟨by exact Kd.R_mono (rT HO_32 BK181 (by decide)) (fun _ hk => trivial)⟩, ⟨by exact Kd.R_mono (rT HO211 BK181 (by decide)) (fun _ hk => trivial)⟩, ⟨bF BK178 (nC NB178_181 nN)⟩, ⟨bF BK179 (nC NB179_181 nN)⟩, ⟨bF BK180 (nC NB180_181 nN)⟩, ⟨bW BK181⟩, ⟨by exact lT HB (gC GE178 (gC GE179 (gC GE180 (gC GE181 (gC GE196 (gC GE197 (gC GE208 gN)))))))⟩⟩
 }
 {rw [if_neg c29] at H;exact absurd H (by simp)}
 }
 {
 replace c28 := Bool.eq_false_iff.mpr c28
 subst c28
 rw [if_neg (show ¬ (false = true) by decide)] at H
 by_cases c66 : x182004_1.length < 4398046511104
 {
 rw [if_pos c66] at H
 have LMc66 := Aside0.mk c66
 clear c66
 obtain ⟨y212, hy212⟩ : ∃ y_ : List (S68), y_ = (x182004_1 ++ [(⟨rd t182 x34_1, t191, t194⟩ : S68)]) := ⟨_, rfl⟩
 replace H : (impl_boxState.l0 k1 l0 t182 (t182.length : Int) (wrap64 (x34_1 + 1)) a1_2 a1_2 a1_6 a1_7 ji24 y212) = some (r1, r2, r3, r4, r5) := by first | (rw [hy212]; with_reducible exact H) | (have H2_ := (Option.bind_some _ _).symm.trans H; rw [hy212]; with_reducible exact H2_) | (have H2_ := (Option.bind_some _ _).symm.trans H; with_reducible exact H2_) | with_reducible exact H | (rw [hy212]; exact H) | exact H
 have Ny212 := Aside0.mk hy212
 clear hy212
 have H' := Aside0.mk H
 clear H
 refine ⟨?_⟩
 go_wp2_with (first | ((with_reducible refine gate_dst (N := 13) rfl ?_); refine b9 13 ?_; intro gb208 hg w90 hbox hb; replace HO_32 := rB HO_32 hb; replace HO_182004 := rB HO_182004 hb; replace BK208 := ak (hbox); replace GW208 := ak (bz hg (lT HB (gC GE178 (gC GE179 (gC GE180 (gC GE181 (gC GE196 (gC GE197 gN)))))))); replace GE208 := ak (bz hg (lT HB (gC GE178 (gC GE179 (gC GE180 (gC GE181 (gC GE196 (gC GE197 gN)))))))); replace HB := ak (below_step (lT HB (gC GE178 (gC GE179 (gC GE180 (gC GE181 (gC GE196 (gC GE197 gN))))))) hb); replace NB178_208 := ak (nl hg (bG BK178)); replace NB208_178 := ak (ng hg (bG BK178)); replace BK178 := bB BK178 hb; replace NB179_208 := ak (nl hg (bG BK179)); replace NB208_179 := ak (ng hg (bG BK179)); replace BK179 := bB BK179 hb; replace NB180_208 := ak (nl hg (bG BK180)); replace NB208_180 := ak (ng hg (bG BK180)); replace BK180 := bB BK180 hb; replace NB181_208 := ak (nl hg (bG BK181)); replace NB208_181 := ak (ng hg (bG BK181)); replace BK181 := bB BK181 hb; replace NB196_208 := ak (nl hg (bG BK196)); replace NB208_196 := ak (ng hg (bG BK196)); replace BK196 := bB BK196 hb; replace NB197_208 := ak (nl hg (bG BK197)); replace NB208_197 := ak (ng hg (bG BK197)); replace BK197 := bB BK197 hb; clear hb hbox hg; have hnb91 := NB208_178.out; have hnc91 := NB178_208.out; have hnb92 := NB208_179.out; have hnc92 := NB179_208.out; have hnb93 := NB208_180.out; have hnc93 := NB180_208.out; have hnb94 := NB208_181.out; have hnc94 := NB181_208.out; have hnb95 := NB208_196.out; have hnc95 := NB196_208.out; have hnb96 := NB208_197.out; have hnc96 := NB197_208.out; obtain ⟨_, _, _, _, _, _, _, _, _, _, _, _, _, _, _, _, _, _⟩ := bC9 BK208; obtain ⟨_, _, _, _, _, _, _, _, _, _⟩ := bC5 BK181; obtain ⟨_, _, _, _, _, _⟩ := bC3 BK197) | ((with_reducible refine gate_builtin (b := .append) (xs := #[.tmp 74, .tmp 76]) rfl ?_); at_builtin; refine Kd.R_append k68 (w0 := w) w.heap.size rfl (.tmp 74) (.tmp 76) 64 68 (.agg #[(.int .i64 0), (.int .i64 0), (.string ⟨#[]⟩)]) 32 rfl Try.underlying64 info68 rfl (by decide) (by omega) u182004 x182004_1 (⟨rd t182 x34_1, t191, t194⟩ : S68) [.int .i64 (rd t182 x34_1), .int .i64 t191, .string t194] (fun k_ => k_ ≠ gb197) (fun _ => False) rfl (by first | (go_simp; done) | (go_simp; rfl)) ?aP (fun _ hk => hk.elim) ?aF ?aO ?aB ?aS ?aL ?_; (case aP => exact k68_mkM _ _ _ (⟨rd t182 x34_1, t191, t194⟩ : S68)); (case aB => exact (lT HB (gC GE178 (gC GE179 (gC GE180 (gC GE181 (gC GE196 (gC GE197 (gC GE208 gN))))))))); (case aF => exact (fun k_ hk => Kd.freshB (g := gb197) (o := .cells #[.int .i64 (rd t182 x34_1), .int .i64 t191, .string t194] 68 (0, 0)) (bT BK197 (nC NB197_208 nN)) k_ hk)); (case aO => exact (by (with_reducible repeat (first | apply Kd.R_alloc | apply Kd.R_drewN | apply Kd.R_drew)); exact Kd.R_mono (Kd.R_far (p := ⟨gb208, 8, none⟩) (Kd.R_far (p := ⟨gb208, 7, none⟩) (Kd.R_far (p := ⟨gb208, 6, none⟩) (Kd.R_far (p := ⟨gb208, 5, none⟩) (Kd.R_far (p := ⟨gb208, 4, none⟩) (Kd.R_far (p := ⟨gb208, 3, none⟩) (Kd.R_far (p := ⟨gb208, 2, none⟩) (Kd.R_far (p := ⟨gb208, 1, none⟩) (Kd.R_far (p := ⟨gb208, 0, none⟩) (Kd.R_types HO_182004.out BK208.out (by decide)) (fun _ hk => hk.2) (.int .i64 t198)) (fun _ hk => hk.2) (.int .i64 t199)) (fun _ hk => hk.2) (.int .i64 t200)) (fun _ hk => hk.2) (.int .i64 t201)) (fun _ hk => hk.2) (.int .i64 t202)) (fun _ hk => hk.2) (.int .i64 t203)) (fun _ hk => hk.2) (.string t204)) (fun _ hk => hk.2) (.string t205)) (fun _ hk => hk.2) (.string t206)) (fun _ hk => hk.1.2))); (case aS => exact (below_size (lT HB (gC GE178 (gC GE179 (gC GE180 (gC GE181 (gC GE196 (gC GE197 (gC GE208 gN)))))))))); (case aL => have := LMc66.out; omega); intro v213 w100 ho hb hg hat; rw [← Ny212.out] at ho; have n0_ := ak (Kd.R_over' (rT HO_32 BK208 (by decide)) (Kd.R_typed (rT HO_182004 BK208 (by decide))) (by decide) hg); have n1_ := ak (blk_grown (g := gb178) (o := .cells #[.int .i64 a1_0, .int .i64 a1_1, .int .i64 a1_2, .int .i64 a1_3, .int .i64 a1_4, .int .i64 a1_5, .string a1_6, .string a1_7, .string a1_8] 32 (0, 0)) (bT BK178 (nC NB178_208 nN)) hg (Kd.R_ne HO_182004.out BK178.out (by decide))); have n2_ := ak (blk_grown (g := gb179) (o := .cells #[.int .i64 0, .string (⟨#[]⟩ : ByteArray), .string (⟨#[]⟩ : ByteArray), .int .i64 0, .slice none 0 0] 66 (0, 0)) (bT BK179 (nC NB179_208 nN)) hg (Kd.R_ne HO_182004.out BK179.out (by decide))); have n3_ := ak (blk_grown (g := gb180) (o := .cells #[.int .i64 a1_2] 3 (0, 0)) (bT BK180 (nC NB180_208 nN)) hg (Kd.R_ne HO_182004.out BK180.out (by decide))); have n4_ := ak (blk_grown (g := gb181) (o := .cells #[.int .i64 a1_2, .string a1_6, .string a1_7, .int .i64 ji24, u182004] 66 (0, 0)) (bT BK181 (nC NB181_208 nN)) hg (Kd.R_ne HO_182004.out BK181.out (by decide))); have n5_ := ak (blk_grown (g := gb196) (o := .cells #[.int .i64 t186, .int .i64 t187, .int .i64 t188, .int .i64 t189, .int .i64 t190, .int .i64 t191, .string t192, .string t193, .string t194] 32 (0, 0)) (bT BK196 (nC NB196_208 nN)) hg (Kd.R_ne HO_182004.out BK196.out (by decide))); have n6_ := ak (blk_grown (g := gb197) (o := .cells #[.int .i64 (rd t182 x34_1), .int .i64 t191, .string t194] 68 (0, 0)) (bT BK197 (nC NB197_208 nN)) hg (Kd.R_away HO_182004.out (fun _ hk => hk.2))); have n7_ := ak (blk_grown (g := gb208) (o := .cells #[.int .i64 t198, .int .i64 t199, .int .i64 t200, .int .i64 t201, .int .i64 t202, .int .i64 t203, .string t204, .string t205, .string t206] 32 (0, 0)) (bW BK208) hg (Kd.R_ne HO_182004.out BK208.out (by decide))); have n8_ := ak (hb); have n9_ := ak (ho); clear HO_32; clear BK178; clear BK179; clear BK180; clear BK181; clear BK196; clear BK197; clear BK208; clear HB; clear HO_182004; have HO_32 := n0_; have BK178 := n1_; have BK179 := n2_; have BK180 := n3_; have BK181 := n4_; have BK196 := n5_; have BK197 := n6_; have BK208 := n7_; have HB := n8_; have HO214 := n9_; clear n0_ n1_ n2_ n3_ n4_ n5_ n6_ n7_ n8_ n9_; clear ho hb hg hat; obtain ⟨Ao101, co101, eo101⟩ := Kd.R_slice HO214.out; subst eo101; obtain ⟨_, _, _, _, _, _, _, _, _, _⟩ := bC5 BK181))
 go_roundg k1
 case measure => have := HK1.out; omega
 case rel => exact ⟨_, _, _, (.slice Ao101 y212.length co101), rr, H', ⟨by have := HK1.out; omega⟩, ⟨by exact Kd.R_mono (rT HO_32 BK181 (by decide)) (fun _ hk => trivial)⟩, ⟨by exact Kd.R_mono (rT HO214 BK181 (by decide)) (fun _ hk => trivial)⟩, ⟨bF BK178 (nC NB178_181 nN)⟩, ⟨bF BK179 (nC NB179_181 nN)⟩, ⟨bF BK180 (nC NB180_181 nN)⟩, ⟨bW BK181⟩, ⟨by exact lT HB (gC GE178 (gC GE179 (gC GE180 (gC GE181 (gC GE196 (gC GE197 (gC GE208 gN)))))))⟩⟩
 }
 {rw [if_neg c66] at H;exact absurd H (by simp)}
 }
 }
 {
 replace c26 := Bool.eq_false_iff.mpr c26
 subst c26
 rw [if_neg (show ¬ (false = true) by decide)] at H
 have H' := Aside0.mk H
 clear H
 refine ⟨?_⟩
 go_wp2_with ((with_reducible refine gate_dst (N := 10) rfl ?_); refine b9 10 ?_; intro gb196 hg w111 hbox hb; replace HO_32 := rB HO_32 hb; replace HO_182004 := rB HO_182004 hb; replace BK196 := ak (hbox); replace GW196 := ak (bz hg (lT HB (gC GE178 (gC GE179 (gC GE180 (gC GE181 gN)))))); replace GE196 := ak (bz hg (lT HB (gC GE178 (gC GE179 (gC GE180 (gC GE181 gN)))))); replace HB := ak (below_step (lT HB (gC GE178 (gC GE179 (gC GE180 (gC GE181 gN))))) hb); replace NB178_196 := ak (nl hg (bG BK178)); replace NB196_178 := ak (ng hg (bG BK178)); replace BK178 := bB BK178 hb; replace NB179_196 := ak (nl hg (bG BK179)); replace NB196_179 := ak (ng hg (bG BK179)); replace BK179 := bB BK179 hb; replace NB180_196 := ak (nl hg (bG BK180)); replace NB196_180 := ak (ng hg (bG BK180)); replace BK180 := bB BK180 hb; replace NB181_196 := ak (nl hg (bG BK181)); replace NB196_181 := ak (ng hg (bG BK181)); replace BK181 := bB BK181 hb; clear hb hbox hg; have hnb112 := NB196_178.out; have hnc112 := NB178_196.out; have hnb113 := NB196_179.out; have hnc113 := NB179_196.out; have hnb114 := NB196_180.out; have hnc114 := NB180_196.out; have hnb115 := NB196_181.out; have hnc115 := NB181_196.out; obtain ⟨_, _, _, _, _, _, _, _, _, _, _, _, _, _, _, _, _, _⟩ := bC9 BK196)
 go_roundg k1
 case measure => have := HK1.out; omega
 case rel => exact ⟨_, _, _, (u182004), rr, H', ⟨by have := HK1.out; omega⟩, ⟨by exact Kd.R_mono (rT HO_32 BK196 (by decide)) (fun _ hk => trivial)⟩, ⟨by exact Kd.R_mono (rT HO_182004 BK196 (by decide)) (fun _ hk => trivial)⟩, ⟨bF BK178 (nC NB178_196 nN)⟩, ⟨bF BK179 (nC NB179_196 nN)⟩, ⟨bF BK180 (nC NB180_196 nN)⟩, ⟨bF BK181 (nC NB181_196 nN)⟩, ⟨by exact lT HB (gC GE178 (gC GE179 (gC GE180 (gC GE181 (gC GE196 gN)))))⟩⟩
 }
 }
 {rw [if_neg c23] at H;exact absurd H (by simp)}
 }
 {rw [if_neg c22] at H;exact absurd H (by simp)}
 }
 {
 rw [if_neg c21] at H
 have c21b0 := decide_eq_false c21
 clear c21
 simp only [Option.some.injEq, Prod.mk.injEq] at H
 obtain ⟨rfl, rfl, rfl, rfl, rfl⟩ := H
 have hnb117 := NB181_178.out
 have hnc117 := NB178_181.out
 have hnb118 := NB181_179.out
 have hnc118 := NB179_181.out
 have hnb119 := NB181_180.out
 have hnc119 := NB180_181.out
 obtain ⟨_, _, _, _, _, _, _, _, _, _⟩ := bC5 BK181
 have hnb121 := NB179_178.out
 have hnc121 := NB178_179.out
 have hnb122 := NB179_180.out
 have hnc122 := NB180_179.out
 obtain ⟨_, _, _, _, _, _, _, _, _, _⟩ := bC5 BK179
 obtain ⟨Ao124, co124, eo124⟩ := Kd.R_slice HO_182004.out
 subst eo124
 go_wp2
 refine bodyPost_ret (results_cell_row rfl _ _ gb179 66 #[.int .i64 a1_2, .string a1_6, .string a1_7, .int .i64 x182003_1, .slice Ao124 x182004_1.length co124] (0, 0) _ rfl (bW BK179) Try.underlying66 rfl (by kernel_rfl)) rfl ?_
 exact ⟨_, ew, by exact Kd.R_mono (rT HO_182004 BK179 (by decide)) (fun _ hk => trivial), by exact lT HB (gC GE178 (gC GE179 (gC GE180 (gC GE181 gN))))⟩
 }
 }
 }
end Go.Proofs.Ytagkjeldheiejaa.PFnStatesTold
