-- Written by a program of mine (a turned copy of the kit's print): functions as plain Lean, their contracts.
import Derived.Test.YtagkjeldheiejaaPFnStatesx7
import Derived.Test.YtagkjeldheiejaaVFnStates1
namespace Go.Proofs.Ytagkjeldheiejaa.PFnStates
open Go.RowKit Go.Proofs.YtagkjeldheiejaaW.PrintWords Go.Proofs.YtagkjeldheiejaaW.PrintLast Go.Proofs.YtagkjeldheiejaaW.PrintMore
attribute [local go_sem] max2_int min2_int max_two min_two max_three min_three max_four min_four   -- for this text's walks alone
set_option maxHeartbeats 16000000
set_option maxRecDepth 100000
set_option linter.unusedVariables false
set_option linter.unusedSimpArgs false
/-! ### impl_mailItem: function 112 -/
def ltStep_m (p : S32 → Bool) (q : S32 → S32 → Bool) (st : S32 × Bool) (x : S32) : S32 × Bool := if p x && (!st.2 || q st.1 x) then (x, true) else st
def latestM_m (p : S32 → Bool) (q : S32 → S32 → Bool) (l : List S32) : S32 × Bool := l.foldl (ltStep_m p q) (z32, false)
theorem latestM_take_m (p : S32 → Bool) (q : S32 → S32 → Bool) (l : List S32) (i : Nat) (h : i < l.length) : latestM_m p q (l.take (i + 1)) = ltStep_m p q (latestM_m p q (l.take i)) (rd_T32 l (i : Int)) := by
 unfold latestM_m
 rw [List.take_succ_eq_append_getElem h, List.foldl_append]
 simp only [List.foldl_cons, List.foldl_nil]
 congr 1
 unfold rd_T32
 rw [Int.toNat_natCast, List.getD_eq_getElem?_getD, List.getElem?_eq_getElem h]
 rfl
theorem latest_mail (caps : Array Value) (p : S32 → Bool) (q : S32 → S32 → Bool) (A0 : Option Addr) (c0 : Nat) (l0 : List S32) (w : World) (hr0 : Kd.C k32 w A0 l0.length l0) (hc0 : l0.length ≤ c0)
  (hp : ∀ x, x ∈ l0 → ∀ W, Below w.heap.size w W → Calls Try.prog 120 (#[.agg #[.int .i64 x.f1.f0, .int .i64 x.f1.f1, .int .i64 x.f1.f2, .int .i64 x.f1.f3, .int .i64 x.f1.f4, .string x.f1.f5, .string x.f1.f6, .string x.f1.f7]] ++ caps) W fun e W' => e = .returned (.bool (p x)) ∧ Below W.heap.size W W')
  (hq : ∀ (x y : S32) W, Calls Try.prog 107 #[.agg #[.int .i64 x.f0, .int .i64 x.f1.f0, .int .i64 x.f1.f1, .int .i64 x.f1.f2, .int .i64 x.f1.f3, .int .i64 x.f1.f4, .string x.f1.f5, .string x.f1.f6, .string x.f1.f7], .agg #[.int .i64 y.f0, .int .i64 y.f1.f0, .int .i64 y.f1.f1, .int .i64 y.f1.f2, .int .i64 y.f1.f3, .int .i64 y.f1.f4, .string y.f1.f5, .string y.f1.f6, .string y.f1.f7]] W fun e W' => e = .returned (.bool (q x y)) ∧ Below W.heap.size W W') :
  Calls Try.prog 104 #[.slice A0 l0.length c0, .func (.func 120) #[] caps, .func (.func 107) #[] #[]] w fun e w' => e = .returned (.tuple #[.agg #[.int .i64 (latestM_m p q l0).1.f0, .int .i64 (latestM_m p q l0).1.f1.f0, .int .i64 (latestM_m p q l0).1.f1.f1, .int .i64 (latestM_m p q l0).1.f1.f2, .int .i64 (latestM_m p q l0).1.f1.f3, .int .i64 (latestM_m p q l0).1.f1.f4, .string (latestM_m p q l0).1.f1.f5, .string (latestM_m p q l0).1.f1.f6, .string (latestM_m p q l0).1.f1.f7], .bool (latestM_m p q l0).2]) ∧ Below w.heap.size w w' := by
 have hu23 := Try.underlying23
 have hu32 := Try.underlying32
 have HR0 := ak hr0
 have HC0 := ak hc0
 have HP := ak hp
 have HP2 := ak hq
 have hm : l0.length ≤ 9223372036854775807 := hr0.2.1
 have HB := ak (Below.refl w.heap.size w)
 clear hr0 hc0 hp hq
 go_enter Try.func104, Try.ntmps104
 go_wp2_with (first | ((with_reducible refine gate_dst (N := 6) rfl ?_); refine bx 6 #[.int .i64 0, .int .i64 0, .int .i64 0, .int .i64 0, .int .i64 0, .int .i64 0, .string (⟨#[]⟩ : ByteArray), .string (⟨#[]⟩ : ByteArray), .string (⟨#[]⟩ : ByteArray)] 32 ?_; intro gg hg w3 hbox hb; replace BG := ak (hbox); replace GG := ak (bz hg (lG HB)); replace HB := lB HB hb; clear hb hbox hg; obtain ⟨hcg_0, hcg_1, hcg_2, hcg_3, hcg_4, hcg_5, hcg_6, hcg_7, hcg_8, hfg_0, hfg_1, hfg_2, hfg_3, hfg_4, hfg_5, hfg_6, hfg_7, hfg_8⟩ := bC9 BG; skip) | ((with_reducible refine gate_dst (N := 8) rfl ?_); refine bx 8 #[.int .i64 0, .int .i64 0, .int .i64 0, .int .i64 0, .int .i64 0, .int .i64 0, .string (⟨#[]⟩ : ByteArray), .string (⟨#[]⟩ : ByteArray), .string (⟨#[]⟩ : ByteArray)] 32 ?_; intro gb hg w5 hbox hb; replace NGB := ak (nl hg (bG BG)); replace BG := bB BG hb; replace BB := ak (hbox); replace GB := ak (bz hg (lG HB)); replace HB := lB HB hb; clear hb hbox hg; obtain ⟨hcb_0, hcb_1, hcb_2, hcb_3, hcb_4, hcb_5, hcb_6, hcb_7, hcb_8, hfb_0, hfb_1, hfb_2, hfb_3, hfb_4, hfb_5, hfb_6, hfb_7, hfb_8⟩ := bC9 BB; skip))
 go_loopg [9, 15] l0.length (fun kq v9 v15 w' => ∃ (x15 : Int) (i : Nat), v9 = .bool (latestM_m p q (l0.take i)).2 ∧ v15 = .int .i64 x15 ∧ Aside0 (x15 = (i : Int) ∧ kq + i = l0.length) ∧ Aside0 (w'.heap[gg]? = some (.cells #[.int .i64 0, .int .i64 0, .int .i64 0, .int .i64 0, .int .i64 0, .int .i64 0, .string (⟨#[]⟩ : ByteArray), .string (⟨#[]⟩ : ByteArray), .string (⟨#[]⟩ : ByteArray)] 32 (0, 0))) ∧ Aside0 (w'.heap[gb]? = some (.cells #[.int .i64 (latestM_m p q (l0.take i)).1.f0, .int .i64 (latestM_m p q (l0.take i)).1.f1.f0, .int .i64 (latestM_m p q (l0.take i)).1.f1.f1, .int .i64 (latestM_m p q (l0.take i)).1.f1.f2, .int .i64 (latestM_m p q (l0.take i)).1.f1.f3, .int .i64 (latestM_m p q (l0.take i)).1.f1.f4, .string (latestM_m p q (l0.take i)).1.f1.f5, .string (latestM_m p q (l0.take i)).1.f1.f6, .string (latestM_m p q (l0.take i)).1.f1.f7] 32 (0, 0))) ∧ Aside0 (Below w.heap.size w w'))
 case atStart => exact ⟨0, 0, by first | rfl | (simp; done), by first | rfl | (simp; done), ⟨rfl, rfl⟩, ⟨bT BG (nC NGB nN)⟩, ⟨bW BB⟩, ⟨lT HB (gC GB gN)⟩⟩
 case round =>
  skip;{
 clear BG BB HB
 obtain ⟨x15, i, rfl, rfl, HX, BG, BB, HB⟩ := hrel
 obtain ⟨⟨⟨b0, ⟨b1, b2, b3, b4, b5, b6, b7, b8⟩⟩, fd⟩, hst⟩ : ∃ st, latestM_m p q (l0.take i) = st := ⟨_, rfl⟩
 rw [hst] at BB ⊢
 have HST := ak hst
 clear hst
 simp only at BB ⊢
 cases gk with
 | zero =>
  skip;{
 have c4 : decide (x15 < (l0.length : Int)) = false := decide_eq_false (by have := HX.out; omega)
 have hend : latestM_m p q l0 = (⟨b0, ⟨b1, b2, b3, b4, b5, b6, b7, b8⟩⟩, fd) := by rw [← HST.out, List.take_of_length_le (by have := HX.out; omega)]
 have HE := ak hend
 clear hend
 obtain ⟨hcg_0, hcg_1, hcg_2, hcg_3, hcg_4, hcg_5, hcg_6, hcg_7, hcg_8, hfg_0, hfg_1, hfg_2, hfg_3, hfg_4, hfg_5, hfg_6, hfg_7, hfg_8⟩ := bC9 BG
 obtain ⟨hcb_0, hcb_1, hcb_2, hcb_3, hcb_4, hcb_5, hcb_6, hcb_7, hcb_8, hfb_0, hfb_1, hfb_2, hfb_3, hfb_4, hfb_5, hfb_6, hfb_7, hfb_8⟩ := bC9 BB
 have hng := NGB.out
 go_wp2
 refine bodyPost_ret (results_ct rfl _ _ gg 32 #[.int .i64 b0, .int .i64 b1, .int .i64 b2, .int .i64 b3, .int .i64 b4, .int .i64 b5, .string b6, .string b7, .string b8] (0, 0) _ rfl (bW BG) Try.underlying32 rfl (by kernel_rfl)) rfl ?_
 exact ⟨by rw [HE.out]; rfl, lT HB (gC GG gN)⟩
 }
 | succ k1 =>
  skip;{
 have c4 : decide (x15 < (l0.length : Int)) = true := decide_eq_true (by have := HX.out; omega)
 have c5 : decide (0 ≤ x15) = true := decide_eq_true (by have := HX.out; omega)
 have hi : i < l0.length := by have := HX.out; omega
 have hstep := latestM_take_m p q l0 i hi
 rw [HST.out, ← HX.out.1] at hstep
 have hmem : rd_T32 l0 x15 ∈ l0 := by
  rw [HX.out.1]
  unfold rd_T32
  rw [Int.toNat_natCast, List.getD_eq_getElem?_getD, List.getElem?_eq_getElem hi]
  exact List.getElem_mem hi
 have p103 : 0 ≤ (x15 : Int) := by have := HX.out; omega
 have q103 : x15 < (l0.length : Int) := by have := HX.out; omega
 obtain ⟨ad103, e103, hx103_0, hx103_1, hx103_2, hx103_3, hx103_4, hx103_5, hx103_6, hx103_7, hx103_8⟩ := at_T32 HR0.out x15 p103 q103
 cases e103
 replace hx103_0 := clB HB hx103_0
 replace hx103_1 := clB HB hx103_1
 replace hx103_2 := clB HB hx103_2
 replace hx103_3 := clB HB hx103_3
 replace hx103_4 := clB HB hx103_4
 replace hx103_5 := clB HB hx103_5
 replace hx103_6 := clB HB hx103_6
 replace hx103_7 := clB HB hx103_7
 replace hx103_8 := clB HB hx103_8
 replace p103 := eq_true p103
 replace q103 := eq_true q103
 obtain ⟨y, hy⟩ : ∃ y, rd_T32 l0 x15 = y := ⟨_, rfl⟩
 rw [hy] at hmem hstep hx103_0 hx103_1 hx103_2 hx103_3 hx103_4 hx103_5 hx103_6 hx103_7 hx103_8
 have HQ0 := HP.out _ hmem
 clear hy hi hmem
 obtain ⟨y0, ⟨y1, y2, y3, y4, y5, y6, y7, y8⟩⟩ := y
 simp only at hx103_0 hx103_1 hx103_2 hx103_3 hx103_4 hx103_5 hx103_6 hx103_7 hx103_8
 obtain ⟨pv, hpv⟩ : ∃ pv, p (⟨y0, ⟨y1, y2, y3, y4, y5, y6, y7, y8⟩⟩ : S32) = pv := ⟨_, rfl⟩
 have HQ := ak HQ0
 clear HQ0
 simp only [hpv] at HQ
 unfold ltStep_m at hstep
 simp only [hpv] at hstep
 obtain ⟨hcb_0, hcb_1, hcb_2, hcb_3, hcb_4, hcb_5, hcb_6, hcb_7, hcb_8, hfb_0, hfb_1, hfb_2, hfb_3, hfb_4, hfb_5, hfb_6, hfb_7, hfb_8⟩ := bC9 BB
 have e1 : wrap64 (x15 + 1) = x15 + 1 := by have := HX.out; unfold wrap64; omega
 cases pv with
 | false =>
  skip;{
 have HS2 := ak (show latestM_m p q (l0.take (i + 1)) = ((⟨b0, ⟨b1, b2, b3, b4, b5, b6, b7, b8⟩⟩ : S32), fd) by rw [hstep]; rfl)
 clear hstep hpv
 go_wp2_with (first | ((with_reducible refine gate_dst (N := 11) rfl ?_); refine bx 11 #[.int .i64 0, .int .i64 0, .int .i64 0, .int .i64 0, .int .i64 0, .int .i64 0, .string (⟨#[]⟩ : ByteArray), .string (⟨#[]⟩ : ByteArray), .string (⟨#[]⟩ : ByteArray)] 32 ?_; intro gx hg w7 hbox hb; replace NGX := ak (nl hg (bG BG)); replace NBX := ak (nl hg (bG BB)); replace NXG := ak (ng hg (bG BG)); replace NXB := ak (ng hg (bG BB)); replace BG := bB BG hb; replace BB := bB BB hb; replace BX := ak (hbox); replace GX := ak (bz hg (lG HB)); replace HB := lB HB hb; replace hx103_0 := clb hb hx103_0; replace hx103_1 := clb hb hx103_1; replace hx103_2 := clb hb hx103_2; replace hx103_3 := clb hb hx103_3; replace hx103_4 := clb hb hx103_4; replace hx103_5 := clb hb hx103_5; replace hx103_6 := clb hb hx103_6; replace hx103_7 := clb hb hx103_7; replace hx103_8 := clb hb hx103_8; clear hb hbox hg; obtain ⟨hcx_0, hcx_1, hcx_2, hcx_3, hcx_4, hcx_5, hcx_6, hcx_7, hcx_8, hfx_0, hfx_1, hfx_2, hfx_3, hfx_4, hfx_5, hfx_6, hfx_7, hfx_8⟩ := bC9 BX; skip) | (go_at_call 120; refine (HQ.out _ (lT HB (gC GX gN))).mono ?_; rintro e w8 ⟨rfl, hb⟩; replace BG := ak (blk_below (bT BG (nC NGX nN)) hb); replace BB := ak (blk_below (bT BB (nC NBX nN)) hb); replace HB := ak (below_step (lT HB (gC GX gN)) hb); replace BX := ak (blk_below (bW (r := #[.int .i64 y0, .int .i64 y1, .int .i64 y2, .int .i64 y3, .int .i64 y4, .int .i64 y5, .string y6, .string y7, .string y8]) BX) hb); clear hb; obtain ⟨hcy_0, hcy_1, hcy_2, hcy_3, hcy_4, hcy_5, hcy_6, hcy_7, hcy_8, hfy_0, hfy_1, hfy_2, hfy_3, hfy_4, hfy_5, hfy_6, hfy_7, hfy_8⟩ := bC9 BX; obtain ⟨hcz_0, hcz_1, hcz_2, hcz_3, hcz_4, hcz_5, hcz_6, hcz_7, hcz_8, hfz_0, hfz_1, hfz_2, hfz_3, hfz_4, hfz_5, hfz_6, hfz_7, hfz_8⟩ := bC9 BB; skip))
 go_roundg k1
 case measure => omega
 case rel => exact ⟨x15 + 1, i + 1, by rw [HS2.out], by first | rfl | (rw [e1]) | (simp [e1]; done), ⟨by have := HX.out; omega, by have := HX.out; omega⟩, BG, by rw [HS2.out]; exact BB, HB⟩
 }
 | true =>
  skip;{
 cases fd with
 | false =>
  skip;{
 have HS2 := ak (show latestM_m p q (l0.take (i + 1)) = ((⟨y0, ⟨y1, y2, y3, y4, y5, y6, y7, y8⟩⟩ : S32), true) by rw [hstep]; rfl)
 clear hstep hpv
 go_wp2_with (first | ((with_reducible refine gate_dst (N := 11) rfl ?_); refine bx 11 #[.int .i64 0, .int .i64 0, .int .i64 0, .int .i64 0, .int .i64 0, .int .i64 0, .string (⟨#[]⟩ : ByteArray), .string (⟨#[]⟩ : ByteArray), .string (⟨#[]⟩ : ByteArray)] 32 ?_; intro gx hg w7 hbox hb; replace NGX := ak (nl hg (bG BG)); replace NBX := ak (nl hg (bG BB)); replace NXG := ak (ng hg (bG BG)); replace NXB := ak (ng hg (bG BB)); replace BG := bB BG hb; replace BB := bB BB hb; replace BX := ak (hbox); replace GX := ak (bz hg (lG HB)); replace HB := lB HB hb; replace hx103_0 := clb hb hx103_0; replace hx103_1 := clb hb hx103_1; replace hx103_2 := clb hb hx103_2; replace hx103_3 := clb hb hx103_3; replace hx103_4 := clb hb hx103_4; replace hx103_5 := clb hb hx103_5; replace hx103_6 := clb hb hx103_6; replace hx103_7 := clb hb hx103_7; replace hx103_8 := clb hb hx103_8; clear hb hbox hg; obtain ⟨hcx_0, hcx_1, hcx_2, hcx_3, hcx_4, hcx_5, hcx_6, hcx_7, hcx_8, hfx_0, hfx_1, hfx_2, hfx_3, hfx_4, hfx_5, hfx_6, hfx_7, hfx_8⟩ := bC9 BX; skip) | (go_at_call 120; refine (HQ.out _ (lT HB (gC GX gN))).mono ?_; rintro e w8 ⟨rfl, hb⟩; replace BG := ak (blk_below (bT BG (nC NGX nN)) hb); replace BB := ak (blk_below (bT BB (nC NBX nN)) hb); replace HB := ak (below_step (lT HB (gC GX gN)) hb); replace BX := ak (blk_below (bW (r := #[.int .i64 y0, .int .i64 y1, .int .i64 y2, .int .i64 y3, .int .i64 y4, .int .i64 y5, .string y6, .string y7, .string y8]) BX) hb); clear hb; obtain ⟨hcy_0, hcy_1, hcy_2, hcy_3, hcy_4, hcy_5, hcy_6, hcy_7, hcy_8, hfy_0, hfy_1, hfy_2, hfy_3, hfy_4, hfy_5, hfy_6, hfy_7, hfy_8⟩ := bC9 BX; obtain ⟨hcz_0, hcz_1, hcz_2, hcz_3, hcz_4, hcz_5, hcz_6, hcz_7, hcz_8, hfz_0, hfz_1, hfz_2, hfz_3, hfz_4, hfz_5, hfz_6, hfz_7, hfz_8⟩ := bC9 BB; skip))
 go_roundg k1
 case measure => omega
 case rel => exact ⟨x15 + 1, i + 1, by rw [HS2.out], by first | rfl | (rw [e1]) | (simp [e1]; done), ⟨by have := HX.out; omega, by have := HX.out; omega⟩, ⟨bT BG (nC NGB nN)⟩, by rw [HS2.out]; exact ⟨bW BB⟩, ⟨lT HB (gC GB gN)⟩⟩
 }
 | true =>
  skip;{
 obtain ⟨qv, hqv⟩ : ∃ qv, q (⟨b0, ⟨b1, b2, b3, b4, b5, b6, b7, b8⟩⟩ : S32) (⟨y0, ⟨y1, y2, y3, y4, y5, y6, y7, y8⟩⟩ : S32) = qv := ⟨_, rfl⟩
 have HQV := ak hqv
 simp only [hqv] at hstep
 clear hqv hpv
 cases qv with
 | false =>
  skip;{
 have HS2 := ak (show latestM_m p q (l0.take (i + 1)) = ((⟨b0, ⟨b1, b2, b3, b4, b5, b6, b7, b8⟩⟩ : S32), true) by rw [hstep]; rfl)
 clear hstep
 go_wp2_with (first | ((with_reducible refine gate_dst (N := 11) rfl ?_); refine bx 11 #[.int .i64 0, .int .i64 0, .int .i64 0, .int .i64 0, .int .i64 0, .int .i64 0, .string (⟨#[]⟩ : ByteArray), .string (⟨#[]⟩ : ByteArray), .string (⟨#[]⟩ : ByteArray)] 32 ?_; intro gx hg w7 hbox hb; replace NGX := ak (nl hg (bG BG)); replace NBX := ak (nl hg (bG BB)); replace NXG := ak (ng hg (bG BG)); replace NXB := ak (ng hg (bG BB)); replace BG := bB BG hb; replace BB := bB BB hb; replace BX := ak (hbox); replace GX := ak (bz hg (lG HB)); replace HB := lB HB hb; replace hx103_0 := clb hb hx103_0; replace hx103_1 := clb hb hx103_1; replace hx103_2 := clb hb hx103_2; replace hx103_3 := clb hb hx103_3; replace hx103_4 := clb hb hx103_4; replace hx103_5 := clb hb hx103_5; replace hx103_6 := clb hb hx103_6; replace hx103_7 := clb hb hx103_7; replace hx103_8 := clb hb hx103_8; clear hb hbox hg; obtain ⟨hcx_0, hcx_1, hcx_2, hcx_3, hcx_4, hcx_5, hcx_6, hcx_7, hcx_8, hfx_0, hfx_1, hfx_2, hfx_3, hfx_4, hfx_5, hfx_6, hfx_7, hfx_8⟩ := bC9 BX; skip) | (go_at_call 120; refine (HQ.out _ (lT HB (gC GX gN))).mono ?_; rintro e w8 ⟨rfl, hb⟩; replace BG := ak (blk_below (bT BG (nC NGX nN)) hb); replace BB := ak (blk_below (bT BB (nC NBX nN)) hb); replace HB := ak (below_step (lT HB (gC GX gN)) hb); replace BX := ak (blk_below (bW (r := #[.int .i64 y0, .int .i64 y1, .int .i64 y2, .int .i64 y3, .int .i64 y4, .int .i64 y5, .string y6, .string y7, .string y8]) BX) hb); clear hb; obtain ⟨hcy_0, hcy_1, hcy_2, hcy_3, hcy_4, hcy_5, hcy_6, hcy_7, hcy_8, hfy_0, hfy_1, hfy_2, hfy_3, hfy_4, hfy_5, hfy_6, hfy_7, hfy_8⟩ := bC9 BX; obtain ⟨hcz_0, hcz_1, hcz_2, hcz_3, hcz_4, hcz_5, hcz_6, hcz_7, hcz_8, hfz_0, hfz_1, hfz_2, hfz_3, hfz_4, hfz_5, hfz_6, hfz_7, hfz_8⟩ := bC9 BB; skip) | (go_at_call 107; refine (HP2.out (⟨b0, ⟨b1, b2, b3, b4, b5, b6, b7, b8⟩⟩ : S32) (⟨y0, ⟨y1, y2, y3, y4, y5, y6, y7, y8⟩⟩ : S32) _).mono ?_; rintro e w9 ⟨rfl, hb⟩; have hqv := HQV.out; (try simp only [hqv]); replace BG := bB BG hb; replace BB := bB BB hb; replace HB := lB HB hb; replace BX := bB BX hb; clear hb; obtain ⟨hcv_0, hcv_1, hcv_2, hcv_3, hcv_4, hcv_5, hcv_6, hcv_7, hcv_8, hfv_0, hfv_1, hfv_2, hfv_3, hfv_4, hfv_5, hfv_6, hfv_7, hfv_8⟩ := bC9 BX; obtain ⟨hcu_0, hcu_1, hcu_2, hcu_3, hcu_4, hcu_5, hcu_6, hcu_7, hcu_8, hfu_0, hfu_1, hfu_2, hfu_3, hfu_4, hfu_5, hfu_6, hfu_7, hfu_8⟩ := bC9 BB; skip))
 go_roundg k1
 case measure => omega
 case rel => exact ⟨x15 + 1, i + 1, by rw [HS2.out], by first | rfl | (rw [e1]) | (simp [e1]; done), ⟨by have := HX.out; omega, by have := HX.out; omega⟩, BG, by rw [HS2.out]; exact BB, HB⟩
 }
 | true =>
  skip;{
 have HS2 := ak (show latestM_m p q (l0.take (i + 1)) = ((⟨y0, ⟨y1, y2, y3, y4, y5, y6, y7, y8⟩⟩ : S32), true) by rw [hstep]; rfl)
 clear hstep
 go_wp2_with (first | ((with_reducible refine gate_dst (N := 11) rfl ?_); refine bx 11 #[.int .i64 0, .int .i64 0, .int .i64 0, .int .i64 0, .int .i64 0, .int .i64 0, .string (⟨#[]⟩ : ByteArray), .string (⟨#[]⟩ : ByteArray), .string (⟨#[]⟩ : ByteArray)] 32 ?_; intro gx hg w7 hbox hb; replace NGX := ak (nl hg (bG BG)); replace NBX := ak (nl hg (bG BB)); replace NXG := ak (ng hg (bG BG)); replace NXB := ak (ng hg (bG BB)); replace BG := bB BG hb; replace BB := bB BB hb; replace BX := ak (hbox); replace GX := ak (bz hg (lG HB)); replace HB := lB HB hb; replace hx103_0 := clb hb hx103_0; replace hx103_1 := clb hb hx103_1; replace hx103_2 := clb hb hx103_2; replace hx103_3 := clb hb hx103_3; replace hx103_4 := clb hb hx103_4; replace hx103_5 := clb hb hx103_5; replace hx103_6 := clb hb hx103_6; replace hx103_7 := clb hb hx103_7; replace hx103_8 := clb hb hx103_8; clear hb hbox hg; obtain ⟨hcx_0, hcx_1, hcx_2, hcx_3, hcx_4, hcx_5, hcx_6, hcx_7, hcx_8, hfx_0, hfx_1, hfx_2, hfx_3, hfx_4, hfx_5, hfx_6, hfx_7, hfx_8⟩ := bC9 BX; skip) | (go_at_call 120; refine (HQ.out _ (lT HB (gC GX gN))).mono ?_; rintro e w8 ⟨rfl, hb⟩; replace BG := ak (blk_below (bT BG (nC NGX nN)) hb); replace BB := ak (blk_below (bT BB (nC NBX nN)) hb); replace HB := ak (below_step (lT HB (gC GX gN)) hb); replace BX := ak (blk_below (bW (r := #[.int .i64 y0, .int .i64 y1, .int .i64 y2, .int .i64 y3, .int .i64 y4, .int .i64 y5, .string y6, .string y7, .string y8]) BX) hb); clear hb; obtain ⟨hcy_0, hcy_1, hcy_2, hcy_3, hcy_4, hcy_5, hcy_6, hcy_7, hcy_8, hfy_0, hfy_1, hfy_2, hfy_3, hfy_4, hfy_5, hfy_6, hfy_7, hfy_8⟩ := bC9 BX; obtain ⟨hcz_0, hcz_1, hcz_2, hcz_3, hcz_4, hcz_5, hcz_6, hcz_7, hcz_8, hfz_0, hfz_1, hfz_2, hfz_3, hfz_4, hfz_5, hfz_6, hfz_7, hfz_8⟩ := bC9 BB; skip) | (go_at_call 107; refine (HP2.out (⟨b0, ⟨b1, b2, b3, b4, b5, b6, b7, b8⟩⟩ : S32) (⟨y0, ⟨y1, y2, y3, y4, y5, y6, y7, y8⟩⟩ : S32) _).mono ?_; rintro e w9 ⟨rfl, hb⟩; have hqv := HQV.out; (try simp only [hqv]); replace BG := bB BG hb; replace BB := bB BB hb; replace HB := lB HB hb; replace BX := bB BX hb; clear hb; obtain ⟨hcv_0, hcv_1, hcv_2, hcv_3, hcv_4, hcv_5, hcv_6, hcv_7, hcv_8, hfv_0, hfv_1, hfv_2, hfv_3, hfv_4, hfv_5, hfv_6, hfv_7, hfv_8⟩ := bC9 BX; obtain ⟨hcu_0, hcu_1, hcu_2, hcu_3, hcu_4, hcu_5, hcu_6, hcu_7, hcu_8, hfu_0, hfu_1, hfu_2, hfu_3, hfu_4, hfu_5, hfu_6, hfu_7, hfu_8⟩ := bC9 BB; skip))
 go_roundg k1
 case measure => omega
 case rel => exact ⟨x15 + 1, i + 1, by rw [HS2.out], by first | rfl | (rw [e1]) | (simp [e1]; done), ⟨by have := HX.out; omega, by have := HX.out; omega⟩, ⟨bT BG (nC NGB nN)⟩, by rw [HS2.out]; exact ⟨bW BB⟩, ⟨lT HB (gC GB gN)⟩⟩
 }
 }
 }
 }
 }
def abM_m (k v : Int) (x : S32) : Bool := (x.f1.f0 == k) && (x.f1.f1 == v)
theorem about_calls_m (a0 a1 a2 a3 a4 : Int) (a5 a6 a7 : ByteArray) (k v : Int) (W : World) :
  Calls Try.prog 106 #[.agg #[.int .i64 a0, .int .i64 a1, .int .i64 a2, .int .i64 a3, .int .i64 a4, .string a5, .string a6, .string a7], .int .i64 k, .int .i64 v] W fun e W' => e = .returned (.bool ((a0 == k) && (a1 == v))) ∧ Below W.heap.size W W' := by
 have hu23 := Try.underlying23
 have HA := ak (fun o => below_alloc (Below.refl W.heap.size W) o)
 by_cases c : a0 = k
 {
 subst c
 go_enter Try.func106, Try.ntmps106
 go_wp2
 go_ret
 exact ⟨by simp, HA.out _⟩
 }
 {
 have cb : (a0 == k) = false := beq_eq_false_iff_ne.mpr c
 go_enter Try.func106, Try.ntmps106
 go_wp2
 go_ret
 exact ⟨by simp [cb], HA.out _⟩
 }
def seqQ_m (x y : S32) : Bool := decide (x.f0 < y.f0)
theorem bySeq_q_m (x y : S32) (W : World) : Calls Try.prog 107 #[.agg #[.int .i64 x.f0, .int .i64 x.f1.f0, .int .i64 x.f1.f1, .int .i64 x.f1.f2, .int .i64 x.f1.f3, .int .i64 x.f1.f4, .string x.f1.f5, .string x.f1.f6, .string x.f1.f7], .agg #[.int .i64 y.f0, .int .i64 y.f1.f0, .int .i64 y.f1.f1, .int .i64 y.f1.f2, .int .i64 y.f1.f3, .int .i64 y.f1.f4, .string y.f1.f5, .string y.f1.f6, .string y.f1.f7]] W fun e W' => e = .returned (.bool (seqQ_m x y)) ∧ Below W.heap.size W W' := impl_bySeq.calls x.f0 x.f1.f0 x.f1.f1 x.f1.f2 x.f1.f3 x.f1.f4 x.f1.f5 x.f1.f6 x.f1.f7 y.f0 y.f1.f0 y.f1.f1 y.f1.f2 y.f1.f3 y.f1.f4 y.f1.f5 y.f1.f6 y.f1.f7 (seqQ_m x y) W rfl
def mlM (k v u : Int) (x : S32) : Bool := abM_m k v x && (x.f1.f2 == u)
theorem clo_mail (gk gv gu : Nat) (k v u : Int) (x : S32) (W : World) (hk : W.heap[gk]? = some (.cells #[.int .i64 k] 3 (0, 0))) (hv : W.heap[gv]? = some (.cells #[.int .i64 v] 3 (0, 0))) (hu : W.heap[gu]? = some (.cells #[.int .i64 u] 3 (0, 0))) :
  Calls Try.prog 120 #[.agg #[.int .i64 x.f1.f0, .int .i64 x.f1.f1, .int .i64 x.f1.f2, .int .i64 x.f1.f3, .int .i64 x.f1.f4, .string x.f1.f5, .string x.f1.f6, .string x.f1.f7], .pointer (some ⟨gk, 0, none⟩), .pointer (some ⟨gv, 0, none⟩), .pointer (some ⟨gu, 0, none⟩)] W fun e W' => e = .returned (.bool (mlM k v u x)) ∧ Below W.heap.size W W' := by
 have hu23 := Try.underlying23
 have BK := ak hk
 have BV := ak hv
 have BU := ak hu
 have HB := ak (Below.refl W.heap.size W)
 clear hk hv hu
 obtain ⟨x0, ⟨x1, x2, x3, x4, x5, x6, x7, x8⟩⟩ := x
 simp only
 have HC0 : ∀ W, Calls Try.prog 106 #[.agg #[.int .i64 x1, .int .i64 x2, .int .i64 x3, .int .i64 x4, .int .i64 x5, .string x6, .string x7, .string x8], .int .i64 k, .int .i64 v] W fun e W' => e = .returned (.bool ((x1 == k) && (x2 == v))) ∧ Below W.heap.size W W' := fun W => about_calls_m x1 x2 x3 x4 x5 x6 x7 x8 k v W
 obtain ⟨ab, hab⟩ : ∃ ab, ((x1 == k) && (x2 == v)) = ab := ⟨_, rfl⟩
 rw [hab] at HC0
 have HC := ak HC0
 have HAB := ak (show mlM k v u ⟨x0, ⟨x1, x2, x3, x4, x5, x6, x7, x8⟩⟩ = (ab && (x3 == u)) by unfold mlM abM_m; rw [← hab])
 clear HC0 hab
 cases ab with
 | true =>
  skip;{
 go_enter Try.func120, Try.ntmps120
 go_wp2_with (first | ((with_reducible refine gate_dst (N := 4) rfl ?_); refine bx 4 #[.int .i64 x1, .int .i64 x2, .int .i64 x3, .int .i64 x4, .int .i64 x5, .string x6, .string x7, .string x8] 23 ?_; intro gb hg w5 hbox hb; replace BK := bB BK hb; replace BV := bB BV hb; replace BU := bB BU hb; replace BX := ak (hbox); replace HB := lB HB hb; clear hb hbox hg; have hk0 : w5.cell? ⟨gk, 0, none⟩ = some (.int .i64 k) := bc BK 0; have hv0 : w5.cell? ⟨gv, 0, none⟩ = some (.int .i64 v) := bc BV 0; obtain ⟨hcx_0, hcx_1, hcx_2, hcx_3, hcx_4, hcx_5, hcx_6, hcx_7, hfx_0, hfx_1, hfx_2, hfx_3, hfx_4, hfx_5, hfx_6, hfx_7⟩ := bC8 BX; skip) | (go_at_call 106; refine (HC.out _).mono ?_; rintro e w6 ⟨rfl, hb⟩; replace BX := bB BX hb; replace BU := bB BU hb; replace HB := lB HB hb; clear hb; have hu1 : w6.cell? ⟨gu, 0, none⟩ = some (.int .i64 u) := bc BU 0; obtain ⟨hcy_0, hcy_1, hcy_2, hcy_3, hcy_4, hcy_5, hcy_6, hcy_7, hfy_0, hfy_1, hfy_2, hfy_3, hfy_4, hfy_5, hfy_6, hfy_7⟩ := bC8 BX; skip))
 go_ret
 exact ⟨by rw [HAB.out]; simp, HB.out⟩
 }
 | false =>
  skip;{
 go_enter Try.func120, Try.ntmps120
 go_wp2_with (first | ((with_reducible refine gate_dst (N := 4) rfl ?_); refine bx 4 #[.int .i64 x1, .int .i64 x2, .int .i64 x3, .int .i64 x4, .int .i64 x5, .string x6, .string x7, .string x8] 23 ?_; intro gb hg w5 hbox hb; replace BK := bB BK hb; replace BV := bB BV hb; replace BU := bB BU hb; replace BX := ak (hbox); replace HB := lB HB hb; clear hb hbox hg; have hk0 : w5.cell? ⟨gk, 0, none⟩ = some (.int .i64 k) := bc BK 0; have hv0 : w5.cell? ⟨gv, 0, none⟩ = some (.int .i64 v) := bc BV 0; obtain ⟨hcx_0, hcx_1, hcx_2, hcx_3, hcx_4, hcx_5, hcx_6, hcx_7, hfx_0, hfx_1, hfx_2, hfx_3, hfx_4, hfx_5, hfx_6, hfx_7⟩ := bC8 BX; skip) | (go_at_call 106; refine (HC.out _).mono ?_; rintro e w6 ⟨rfl, hb⟩; replace BX := bB BX hb; replace BU := bB BU hb; replace HB := lB HB hb; clear hb; have hu1 : w6.cell? ⟨gu, 0, none⟩ = some (.int .i64 u) := bc BU 0; obtain ⟨hcy_0, hcy_1, hcy_2, hcy_3, hcy_4, hcy_5, hcy_6, hcy_7, hfy_0, hfy_1, hfy_2, hfy_3, hfy_4, hfy_5, hfy_6, hfy_7⟩ := bC8 BX; skip))
 go_ret
 exact ⟨by rw [HAB.out]; simp, HB.out⟩
 }
def impl_mailItem.f (l0 : List S32) (a1 : Int) (a2 : Int) (a3 : Int) : Option (Int × Int × Int × Int × Int × Int × ByteArray × ByteArray × ByteArray × Bool) := some ((latestM_m (mlM a1 a2 a3) seqQ_m l0).1.f0, (latestM_m (mlM a1 a2 a3) seqQ_m l0).1.f1.f0, (latestM_m (mlM a1 a2 a3) seqQ_m l0).1.f1.f1, (latestM_m (mlM a1 a2 a3) seqQ_m l0).1.f1.f2, (latestM_m (mlM a1 a2 a3) seqQ_m l0).1.f1.f3, (latestM_m (mlM a1 a2 a3) seqQ_m l0).1.f1.f4, (latestM_m (mlM a1 a2 a3) seqQ_m l0).1.f1.f5, (latestM_m (mlM a1 a2 a3) seqQ_m l0).1.f1.f6, (latestM_m (mlM a1 a2 a3) seqQ_m l0).1.f1.f7, (latestM_m (mlM a1 a2 a3) seqQ_m l0).2)
theorem impl_mailItem.calls (A0 : Option Addr) (c0 : Nat) (l0 : List S32) (a1 a2 a3 : Int) (r1 r2 r3 r4 r5 r6 : Int) (r7 r8 r9 : ByteArray) (r10 : Bool) (w : World) (hr0 : Kd.C k32 w A0 l0.length l0) (hc0 : l0.length ≤ c0) (h : impl_mailItem.f l0 a1 a2 a3 = some (r1, r2, r3, r4, r5, r6, r7, r8, r9, r10)) :
  Calls Try.prog 112 #[.slice A0 l0.length c0, .int .i64 a1, .int .i64 a2, .int .i64 a3] w fun e w' => e = .returned (.tuple #[.agg #[.int .i64 r1, .int .i64 r2, .int .i64 r3, .int .i64 r4, .int .i64 r5, .int .i64 r6, .string r7, .string r8, .string r9], .bool r10]) ∧ Below w.heap.size w w' := by
 have hu23 := Try.underlying23
 have hu32 := Try.underlying32
 have hmf : ∀ (fn : Fn) (first cap : Array Value) (w : World), (Instr.makeFunc fn first cap).run Try.prog w = .ok (.func fn first cap) w := fun _ _ _ _ => rfl
 have HR0 := ak hr0
 have HC0 := ak hc0
 have HB := ak (Below.refl w.heap.size w)
 clear hr0 hc0
 replace h := Option.some.inj h
 simp only [Prod.mk.injEq] at h
 obtain ⟨rfl, rfl, rfl, rfl, rfl, rfl, rfl, rfl, rfl, rfl⟩ := h
 go_enter Try.func112, Try.ntmps112
 go_wp2_with (first | ((with_reducible refine gate_dst (N := 5) rfl ?_); refine bx 5 #[.int .i64 a1] 3 ?_; intro gk hg w25 hbox hb;  replace Bgk := ak (hbox); replace HB := lB HB hb; clear hb hbox hg) | ((with_reducible refine gate_dst (N := 6) rfl ?_); refine bx 6 #[.int .i64 a2] 3 ?_; intro gv hg w26 hbox hb; replace Bgk := bB Bgk hb; replace Bgv := ak (hbox); replace HB := lB HB hb; clear hb hbox hg) | ((with_reducible refine gate_dst (N := 7) rfl ?_); refine bx 7 #[.int .i64 a3] 3 ?_; intro gu hg w27 hbox hb; replace Bgk := bB Bgk hb; replace Bgv := bB Bgv hb; replace Bgu := ak (hbox); replace HB := lB HB hb; clear hb hbox hg) | ((with_reducible refine gate_dst (N := 8) rfl ?_); refine bx 8 #[.int .i64 0, .int .i64 0, .int .i64 0, .int .i64 0, .int .i64 0, .int .i64 0, .string (⟨#[]⟩ : ByteArray), .string (⟨#[]⟩ : ByteArray), .string (⟨#[]⟩ : ByteArray)] 32 ?_; intro gg hg w5 hbox hb; replace Bgk := bB Bgk hb; replace Bgv := bB Bgv hb; replace Bgu := bB Bgu hb; replace BG := ak (hbox); replace GG := ak (bz hg (lG HB)); replace HB := lB HB hb; clear hb hbox hg; obtain ⟨_, _, _, _, _, _, _, _, _, _, _, _, _, _, _, _, _, _⟩ := bC9 BG; skip) | ((with_reducible refine gate_callee (f := 104) rfl ?_); refine gl (some 12) Try.func104 #[.slice A0 l0.length c0, .func (.func 120) #[] #[.pointer (some ⟨gk, 0, none⟩), .pointer (some ⟨gv, 0, none⟩), .pointer (some ⟨gu, 0, none⟩)], .func (.func 107) #[] #[]] ?_; refine (latest_mail #[.pointer (some ⟨gk, 0, none⟩), .pointer (some ⟨gv, 0, none⟩), .pointer (some ⟨gu, 0, none⟩)] (mlM a1 a2 a3) seqQ_m A0 c0 l0 _ (Kd.C_below HR0.out (lG HB)) HC0.out (fun x _ W hW => clo_mail gk gv gu a1 a2 a3 x W (blk_below (bG Bgk) hW) (blk_below (bG Bgv) hW) (blk_below (bG Bgu) hW)) bySeq_q_m).mono ?_; rintro e w9 ⟨rfl, hb⟩; refine ⟨_, rfl, ?_⟩; replace BG := bB BG hb; replace HB := lB HB hb; clear hb; obtain ⟨_, _, _, _, _, _, _, _, _, _, _, _, _, _, _, _, _, _⟩ := bC9 BG; skip))
 refine bodyPost_ret (results_ct rfl _ _ gg 32 #[.int .i64 (latestM_m (mlM a1 a2 a3) seqQ_m l0).1.f0, .int .i64 (latestM_m (mlM a1 a2 a3) seqQ_m l0).1.f1.f0, .int .i64 (latestM_m (mlM a1 a2 a3) seqQ_m l0).1.f1.f1, .int .i64 (latestM_m (mlM a1 a2 a3) seqQ_m l0).1.f1.f2, .int .i64 (latestM_m (mlM a1 a2 a3) seqQ_m l0).1.f1.f3, .int .i64 (latestM_m (mlM a1 a2 a3) seqQ_m l0).1.f1.f4, .string (latestM_m (mlM a1 a2 a3) seqQ_m l0).1.f1.f5, .string (latestM_m (mlM a1 a2 a3) seqQ_m l0).1.f1.f6, .string (latestM_m (mlM a1 a2 a3) seqQ_m l0).1.f1.f7] (0, 0) _ rfl (bW BG) Try.underlying32 rfl (by kernel_rfl)) rfl ?_
 exact ⟨rfl, by exact lT HB (gC GG gN)⟩
/-! ### impl_mailThere: function 111 -/
def impl_mailThere.f (l0 : List (S32)) (a1 : Int) (a2 : Int) : Option (Int × Int × Int × Int × Int × Int × ByteArray × ByteArray × ByteArray × Bool) := (impl_boxThere.f l0 a1).bind fun bt233 => (if bt233.2.2.2.2.2.2.2.2.2 = true then ((impl_mailItem.f l0 5 a1 a2).bind fun bt244 => (if bt244.2.2.2.2.2.2.2.2.2 = true then (some (0, 0, 0, 0, 0, 0, (⟨#[]⟩ : ByteArray), (⟨#[]⟩ : ByteArray), (⟨#[]⟩ : ByteArray), false)) else ((impl_mailItem.f l0 3 a1 a2).bind fun bt255 => (some (bt255.1, bt255.2.1, bt255.2.2.1, bt255.2.2.2.1, bt255.2.2.2.2.1, bt255.2.2.2.2.2.1, bt255.2.2.2.2.2.2.1, bt255.2.2.2.2.2.2.2.1, bt255.2.2.2.2.2.2.2.2.1, bt255.2.2.2.2.2.2.2.2.2))))) else (some (0, 0, 0, 0, 0, 0, (⟨#[]⟩ : ByteArray), (⟨#[]⟩ : ByteArray), (⟨#[]⟩ : ByteArray), false)))
theorem impl_mailThere.calls (A0 : Option Addr) (c0 : Nat) (l0 : List (S32)) (a1 : Int) (a2 : Int) (r1 : Int) (r2 : Int) (r3 : Int) (r4 : Int) (r5 : Int) (r6 : Int) (r7 : ByteArray) (r8 : ByteArray) (r9 : ByteArray) (r10 : Bool) (w : World) (hr0 : Kd.C k32 w A0 l0.length l0) (hc0 : l0.length ≤ c0) (h : impl_mailThere.f l0 a1 a2 = some (r1, r2, r3, r4, r5, r6, r7, r8, r9, r10)) :
  Calls Try.prog 111 #[.slice A0 l0.length c0, .int .i64 a1, .int .i64 a2] w fun e w' => e = .returned (.tuple #[.agg #[.int .i64 r1, .int .i64 r2, .int .i64 r3, .int .i64 r4, .int .i64 r5, .int .i64 r6, .string r7, .string r8, .string r9], .bool r10]) ∧ Below w.heap.size w w' := by
 have hu32 := Try.underlying32
 have HR0 := Aside0.mk hr0
 have HC0 := Aside0.mk hc0
 clear hr0 hc0
 have HB := ak (Below.refl w.heap.size w)
 have H := h
 clear h
 unfold impl_mailThere.f at H
 obtain ⟨⟨t233, t234, t235, t236, t237, t238, t239, t240, t241, t242⟩, A4, H⟩ := eb H
 try dsimp only at H
 have HS_ := Aside0.mk H
 clear H
 go_enter Try.func111, Try.ntmps111
 go_wp2_with (first | ((with_reducible refine gate_dst (N := 6) rfl ?_); refine bx 6 #[.int .i64 0, .int .i64 0, .int .i64 0, .int .i64 0, .int .i64 0, .int .i64 0, .string (⟨#[]⟩ : ByteArray), .string (⟨#[]⟩ : ByteArray), .string (⟨#[]⟩ : ByteArray)] 32 ?_; intro gb232 hg w20 hbox hb; replace BK232 := ak (hbox); replace GE232 := ak (bz hg (lG HB)); replace HB := lB HB hb; clear hb hbox hg) | ((with_reducible refine gate_callee (f := 76) rfl ?_); refine gl (some 15) Try.func76 #[.slice A0 l0.length c0, .int .i64 a1] ?_; (with_reducible refine (impl_boxThere.calls _ _ l0 a1 _ _ _ _ _ _ _ _ _ _ _ ?side1 ?side2 A4.out).mono ?_); (case side1 => exact cG (Kd.C_below HR0.out HB.out)); (case side2 => exact HC0.out); rintro e w21 ⟨rfl, hb⟩; refine ⟨_, rfl, ?_⟩; replace BK232 := bB BK232 hb; replace HB := ak (below_step (lT HB (gC GE232 gN)) hb); (try clear hb); (try clear hk); refine Stop.out ?_))
 have H := HS_.out
 clear HS_
 by_cases c5 : t242 = true
 {
 subst c5
 rw [if_pos rfl] at H
 obtain ⟨⟨t244, t245, t246, t247, t248, t249, t250, t251, t252, t253⟩, A6, H⟩ := eb H
 try dsimp only at H
 have HS_ := Aside0.mk H
 clear H
 refine ⟨?_⟩
 go_wp2_with (first | ((with_reducible refine gate_dst (N := 8) rfl ?_); refine bx 8 #[.int .i64 0, .int .i64 0, .int .i64 0, .int .i64 0, .int .i64 0, .int .i64 0, .string (⟨#[]⟩ : ByteArray), .string (⟨#[]⟩ : ByteArray), .string (⟨#[]⟩ : ByteArray)] 32 ?_; intro gb243 hg w10 hbox hb; replace BK243 := ak (hbox); replace GW243 := ak (bz hg (lT HB (gC GE232 gN))); replace GE243 := ak (bz hg (lT HB (gC GE232 gN))); replace HB := ak (below_step (lT HB (gC GE232 gN)) hb); replace NB232_243 := ak (nl hg (bG BK232)); replace NB243_232 := ak (ng hg (bG BK232)); replace BK232 := bB BK232 hb; clear hb hbox hg; have hnb11 := NB243_232.out; have hnc11 := NB232_243.out; obtain ⟨_, _, _, _, _, _, _, _, _, _, _, _, _, _, _, _, _, _⟩ := bC9 BK243) | ((with_reducible refine gate_callee (f := 112) rfl ?_); refine gl (some 25) Try.func112 #[.slice A0 l0.length c0, .int .i64 5, .int .i64 a1, .int .i64 a2] ?_; (with_reducible refine (impl_mailItem.calls _ _ l0 5 a1 a2 _ _ _ _ _ _ _ _ _ _ _ ?side1 ?side2 A6.out).mono ?_); (case side1 => exact Kd.C_below HR0.out (lT HB (gC GE232 (gC GE243 gN)))); (case side2 => exact HC0.out); rintro e w13 ⟨rfl, hb⟩; refine ⟨_, rfl, ?_⟩; replace BK232 := ak (blk_below (bT BK232 (nC NB232_243 nN)) hb); replace BK243 := ak (blk_below (g := gb243) (o := .cells #[.int .i64 t233, .int .i64 t234, .int .i64 t235, .int .i64 t236, .int .i64 t237, .int .i64 t238, .string t239, .string t240, .string t241] 32 (0, 0)) (bW BK243) hb); replace HB := ak (below_step (lT HB (gC GE232 (gC GE243 gN))) hb); (try clear hb); (try clear hk); refine Stop.out ?_))
 have H := HS_.out
 clear HS_
 by_cases c7 : t253 = true
 {
 subst c7
 rw [if_pos rfl] at H
 simp only [Option.some.injEq, Prod.mk.injEq] at H
 obtain ⟨rfl, rfl, rfl, rfl, rfl, rfl, rfl, rfl, rfl, rfl⟩ := H
 refine ⟨?_⟩
 go_wp2_with ((with_reducible refine gate_dst (N := 10) rfl ?_); refine bx 10 #[.int .i64 0, .int .i64 0, .int .i64 0, .int .i64 0, .int .i64 0, .int .i64 0, .string (⟨#[]⟩ : ByteArray), .string (⟨#[]⟩ : ByteArray), .string (⟨#[]⟩ : ByteArray)] 32 ?_; intro gb254 hg w14 hbox hb; replace BK254 := ak (hbox); replace GW254 := ak (bz hg (lT HB (gC GE232 (gC GE243 gN)))); replace GE254 := ak (bz hg (lT HB (gC GE232 (gC GE243 gN)))); replace HB := ak (below_step (lT HB (gC GE232 (gC GE243 gN))) hb); replace NB232_254 := ak (nl hg (bG BK232)); replace NB254_232 := ak (ng hg (bG BK232)); replace BK232 := bB BK232 hb; replace NB243_254 := ak (nl hg (bG BK243)); replace NB254_243 := ak (ng hg (bG BK243)); replace BK243 := bB BK243 hb; clear hb hbox hg; have hnb15 := NB254_232.out; have hnc15 := NB232_254.out; have hnb16 := NB254_243.out; have hnc16 := NB243_254.out; obtain ⟨_, _, _, _, _, _, _, _, _, _, _, _, _, _, _, _, _, _⟩ := bC9 BK254; obtain ⟨_, _, _, _, _, _, _, _, _, _, _, _, _, _, _, _, _, _⟩ := bC9 BK232)
 refine bodyPost_ret (results_ct rfl _ _ gb232 32 #[.int .i64 0, .int .i64 0, .int .i64 0, .int .i64 0, .int .i64 0, .int .i64 0, .string (⟨#[]⟩ : ByteArray), .string (⟨#[]⟩ : ByteArray), .string (⟨#[]⟩ : ByteArray)] (0, 0) _ rfl (bF BK232 (nC NB232_254 nN)) Try.underlying32 rfl (by kernel_rfl)) rfl ?_
 exact ⟨ew, by exact lT HB (gC GE232 (gC GE243 (gC GE254 gN)))⟩
 }
 {
 replace c7 := Bool.eq_false_iff.mpr c7
 subst c7
 rw [if_neg (show ¬ (false = true) by decide)] at H
 obtain ⟨⟨t255, t256, t257, t258, t259, t260, t261, t262, t263, t264⟩, A19, H⟩ := eb H
 try dsimp only at H
 simp only [Option.some.injEq, Prod.mk.injEq] at H
 obtain ⟨rfl, rfl, rfl, rfl, rfl, rfl, rfl, rfl, rfl, rfl⟩ := H
 refine ⟨?_⟩
 go_wp2_with (first | ((with_reducible refine gate_dst (N := 10) rfl ?_); refine bx 10 #[.int .i64 0, .int .i64 0, .int .i64 0, .int .i64 0, .int .i64 0, .int .i64 0, .string (⟨#[]⟩ : ByteArray), .string (⟨#[]⟩ : ByteArray), .string (⟨#[]⟩ : ByteArray)] 32 ?_; intro gb254 hg w26 hbox hb; replace BK254 := ak (hbox); replace GW254 := ak (bz hg (lT HB (gC GE232 (gC GE243 gN)))); replace GE254 := ak (bz hg (lT HB (gC GE232 (gC GE243 gN)))); replace HB := ak (below_step (lT HB (gC GE232 (gC GE243 gN))) hb); replace NB232_254 := ak (nl hg (bG BK232)); replace NB254_232 := ak (ng hg (bG BK232)); replace BK232 := bB BK232 hb; replace NB243_254 := ak (nl hg (bG BK243)); replace NB254_243 := ak (ng hg (bG BK243)); replace BK243 := bB BK243 hb; clear hb hbox hg; have hnb27 := NB254_232.out; have hnc27 := NB232_254.out; have hnb28 := NB254_243.out; have hnc28 := NB243_254.out; obtain ⟨_, _, _, _, _, _, _, _, _, _, _, _, _, _, _, _, _, _⟩ := bC9 BK254) | ((with_reducible refine gate_callee (f := 112) rfl ?_); refine gl (some 33) Try.func112 #[.slice A0 l0.length c0, .int .i64 3, .int .i64 a1, .int .i64 a2] ?_; (with_reducible refine (impl_mailItem.calls _ _ l0 3 a1 a2 t255 t256 t257 t258 t259 t260 t261 t262 t263 t264 _ ?side1 ?side2 A19.out).mono ?_); (case side1 => exact Kd.C_below HR0.out (lT HB (gC GE232 (gC GE243 (gC GE254 gN))))); (case side2 => exact HC0.out); rintro e w30 ⟨rfl, hb⟩; refine ⟨_, rfl, ?_⟩; replace BK232 := ak (blk_below (bT BK232 (nC NB232_254 nN)) hb); replace BK243 := ak (blk_below (bT BK243 (nC NB243_254 nN)) hb); replace BK254 := ak (blk_below (g := gb254) (o := .cells #[.int .i64 t244, .int .i64 t245, .int .i64 t246, .int .i64 t247, .int .i64 t248, .int .i64 t249, .string t250, .string t251, .string t252] 32 (0, 0)) (bW BK254) hb); replace HB := ak (below_step (lT HB (gC GE232 (gC GE243 (gC GE254 gN)))) hb); (try clear hb); (try clear hk); obtain ⟨_, _, _, _, _, _, _, _, _, _, _, _, _, _, _, _, _, _⟩ := bC9 BK232))
 refine bodyPost_ret (results_ct rfl _ _ gb232 32 #[.int .i64 t255, .int .i64 t256, .int .i64 t257, .int .i64 t258, .int .i64 t259, .int .i64 t260, .string t261, .string t262, .string t263] (0, 0) _ rfl (bW BK232) Try.underlying32 rfl (by kernel_rfl)) rfl ?_
 exact ⟨ew, by exact lT HB (gC GE232 (gC GE243 (gC GE254 gN)))⟩
 }
 }
 {
 replace c5 := Bool.eq_false_iff.mpr c5
 subst c5
 rw [if_neg (show ¬ (false = true) by decide)] at H
 simp only [Option.some.injEq, Prod.mk.injEq] at H
 obtain ⟨rfl, rfl, rfl, rfl, rfl, rfl, rfl, rfl, rfl, rfl⟩ := H
 refine ⟨?_⟩
 go_wp2_with ((with_reducible refine gate_dst (N := 8) rfl ?_); refine bx 8 #[.int .i64 0, .int .i64 0, .int .i64 0, .int .i64 0, .int .i64 0, .int .i64 0, .string (⟨#[]⟩ : ByteArray), .string (⟨#[]⟩ : ByteArray), .string (⟨#[]⟩ : ByteArray)] 32 ?_; intro gb243 hg w34 hbox hb; replace BK243 := ak (hbox); replace GW243 := ak (bz hg (lT HB (gC GE232 gN))); replace GE243 := ak (bz hg (lT HB (gC GE232 gN))); replace HB := ak (below_step (lT HB (gC GE232 gN)) hb); replace NB232_243 := ak (nl hg (bG BK232)); replace NB243_232 := ak (ng hg (bG BK232)); replace BK232 := bB BK232 hb; clear hb hbox hg; have hnb35 := NB243_232.out; have hnc35 := NB232_243.out; obtain ⟨_, _, _, _, _, _, _, _, _, _, _, _, _, _, _, _, _, _⟩ := bC9 BK243; obtain ⟨_, _, _, _, _, _, _, _, _, _, _, _, _, _, _, _, _, _⟩ := bC9 BK232)
 refine bodyPost_ret (results_ct rfl _ _ gb232 32 #[.int .i64 0, .int .i64 0, .int .i64 0, .int .i64 0, .int .i64 0, .int .i64 0, .string (⟨#[]⟩ : ByteArray), .string (⟨#[]⟩ : ByteArray), .string (⟨#[]⟩ : ByteArray)] (0, 0) _ rfl (bF BK232 (nC NB232_243 nN)) Try.underlying32 rfl (by kernel_rfl)) rfl ?_
 exact ⟨ew, by exact lT HB (gC GE232 (gC GE243 gN))⟩
 }
/-! ### impl_boxState: function 77 -/
def impl_boxState.l0 : Nat → List (S32) → List Int → Int → Int → Int → Int → ByteArray → ByteArray → Int → List (S68) → Option (Int × ByteArray × ByteArray × Int × (List (S68)))
 | 0, _, _, _, _, _, _, _, _, _, _ => none
 | k + 1, a, b, c, d, e, g, h, i, j, l => if d < c then (if 0 ≤ d then (if d < (b.length : Int) then ((impl_mailThere.f a e (rd b d)).bind fun bt273 => (if bt273.2.2.2.2.2.2.2.2.2 = true then ((impl_mailItem.f a 4 e (rd b d)).bind fun bt285 => (if bt285.2.2.2.2.2.2.2.2.2 = true then (if l.length < 4398046511104 then (impl_boxState.l0 k a b c (wrap64 (d + 1)) e g h i (mx j (wrap64 ((rd b d) + 1))) (l ++ [(⟨rd b d, bt285.2.2.2.2.2.1, bt273.2.2.2.2.2.2.2.2.1⟩ : S68)])) else (none)) else (if l.length < 4398046511104 then (impl_boxState.l0 k a b c (wrap64 (d + 1)) e g h i (mx j (wrap64 ((rd b d) + 1))) (l ++ [(⟨rd b d, bt273.2.2.2.2.2.1, bt273.2.2.2.2.2.2.2.2.1⟩ : S68)])) else (none)))) else (impl_boxState.l0 k a b c (wrap64 (d + 1)) e g h i (mx j (wrap64 ((rd b d) + 1))) l))) else (none)) else (none)) else (some (g, h, i, j, l))
def impl_boxState.f (k : Nat) (l0 : List (S32)) (a1_0 : Int) (a1_1 : Int) (a1_2 : Int) (a1_3 : Int) (a1_4 : Int) (a1_5 : Int) (a1_6 : ByteArray) (a1_7 : ByteArray) (a1_8 : ByteArray) : Option (Int × ByteArray × ByteArray × Int × (List (S68))) := (impl_numbers_uid.f l0 a1_2).bind fun t269 => (impl_boxState.l0 k l0 t269 (t269.length : Int) 0 a1_2 a1_2 a1_6 a1_7 a1_4 ([] : List (S68)))
theorem impl_boxState.mono_l : ∀ k, (∀ y0 y1 y2 y3 y4 y5 y6 y7 y8 y9, LeO (impl_boxState.l0 k y0 y1 y2 y3 y4 y5 y6 y7 y8 y9) (impl_boxState.l0 (k + 1) y0 y1 y2 y3 y4 y5 y6 y7 y8 y9))
 | 0 => fun _ _ _ _ _ _ _ _ _ _ r h => by simp [impl_boxState.l0] at h
 | k + 1 => by
  have ih0 := impl_boxState.mono_l k
  ·intro y0 y1 y2 y3 y4 y5 y6 y7 y8 y9
   unfold impl_boxState.l0
   repeat' with_reducible first | exact ih0 _ _ _ _ _ _ _ _ _ _ | exact LeO.refl _ | exact LeO.none _ | refine LeO.ite ?_ ?_ | refine LeO.bind ?_ (fun _ => ?_)
theorem impl_boxState.mono : ∀ a0 a1 a2 a3 a4 a5 a6 a7 a8 a9 k, LeO (impl_boxState.f k a0 a1 a2 a3 a4 a5 a6 a7 a8 a9) (impl_boxState.f (k + 1) a0 a1 a2 a3 a4 a5 a6 a7 a8 a9) := by
 intro a0 a1 a2 a3 a4 a5 a6 a7 a8 a9 k
 have ih0 := impl_boxState.mono_l k
 unfold impl_boxState.f
 repeat' with_reducible first | exact ih0 _ _ _ _ _ _ _ _ _ _ | exact LeO.refl _ | exact LeO.none _ | refine LeO.ite ?_ ?_ | refine LeO.bind ?_ (fun _ => ?_)
theorem impl_boxState.calls (k : Nat) (A0 : Option Addr) (c0 : Nat) (l0 : List (S32)) (a1_0 : Int) (a1_1 : Int) (a1_2 : Int) (a1_3 : Int) (a1_4 : Int) (a1_5 : Int) (a1_6 : ByteArray) (a1_7 : ByteArray) (a1_8 : ByteArray) (r1 : Int) (r2 : ByteArray) (r3 : ByteArray) (r4 : Int) (r5 : List (S68)) (w : World) (hr0 : Kd.C k32 w A0 l0.length l0) (hc0 : l0.length ≤ c0) (h : impl_boxState.f k l0 a1_0 a1_1 a1_2 a1_3 a1_4 a1_5 a1_6 a1_7 a1_8 = some (r1, r2, r3, r4, r5)) :
  Calls Try.prog 77 #[.slice A0 l0.length c0, .agg #[.int .i64 a1_0, .int .i64 a1_1, .int .i64 a1_2, .int .i64 a1_3, .int .i64 a1_4, .int .i64 a1_5, .string a1_6, .string a1_7, .string a1_8]] w fun e w' => ∃ v4_ : Value, e = .returned (.agg #[.int .i64 r1, .string r2, .string r3, .int .i64 r4, v4_]) ∧ Kd.R k68 68 w' w.heap.size (fun _ => True) v4_ r5 ∧ Below w.heap.size w w' := by
 have hmf : ∀ (fn : Fn) (first cap : Array Value) (w : World), (Instr.makeFunc fn first cap).run Try.prog w = .ok (.func fn first cap) w := fun _ _ _ _ => rfl
 have hu32 := Try.underlying32
 have hu66 := Try.underlying66
 have hu68 := Try.underlying68
 have HR0 := Aside0.mk hr0
 have HC0 := Aside0.mk hc0
 clear hr0 hc0
 have HB := ak (Below.refl w.heap.size w)
 have H := h
 clear h
 unfold impl_boxState.f at H
 obtain ⟨t269, A3, H⟩ := eb H
 try dsimp only at H
 have H' := Aside0.mk H
 clear H
 go_enter Try.func77, Try.ntmps77
 go_wp2_with (first | ((with_reducible refine gate_dst (N := 3) rfl ?_); refine bx 3 #[.int .i64 a1_0, .int .i64 a1_1, .int .i64 a1_2, .int .i64 a1_3, .int .i64 a1_4, .int .i64 a1_5, .string a1_6, .string a1_7, .string a1_8] 32 ?_; intro gb265 hg w4 hbox hb; replace BK265 := ak (hbox); replace GE265 := ak (bz hg (lG HB)); replace HB := lB HB hb; clear hb hbox hg) | ((with_reducible refine gate_dst (N := 4) rfl ?_); refine bx 4 #[.int .i64 0, .string (⟨#[]⟩ : ByteArray), .string (⟨#[]⟩ : ByteArray), .int .i64 0, .slice none 0 0] 66 ?_; intro gb266 hg w5 hbox hb; replace BK266 := ak (hbox); replace GW266 := ak (bz hg (lT HB (gC GE265 gN))); replace GE266 := ak (bz hg (lT HB (gC GE265 gN))); replace HB := ak (below_step (lT HB (gC GE265 gN)) hb); replace NB265_266 := ak (nl hg (bG BK265)); replace NB266_265 := ak (ng hg (bG BK265)); replace BK265 := bB BK265 hb; clear hb hbox hg; have hnb6 := NB265_266.out; have hnc6 := NB266_265.out; obtain ⟨hcz7_0, hcz7_1, hcz7_2, hcz7_3, hcz7_4, hcz7_5, hcz7_6, hcz7_7, hcz7_8, hfz7_0, hfz7_1, hfz7_2, hfz7_3, hfz7_4, hfz7_5, hfz7_6, hfz7_7, hfz7_8⟩ := bC9 BK265) | ((with_reducible refine gate_dst (N := 5) rfl ?_); refine bx 5 #[.int .i64 0] 3 ?_; intro gb267 hg w8 hbox hb; replace BK267 := ak (hbox); replace GW267 := ak (bz hg (lT HB (gC GE265 (gC GE266 gN)))); replace GE267 := ak (bz hg (lT HB (gC GE265 (gC GE266 gN)))); replace HB := ak (below_step (lT HB (gC GE265 (gC GE266 gN))) hb); replace NB265_267 := ak (nl hg (bG BK265)); replace NB267_265 := ak (ng hg (bG BK265)); replace BK265 := bB BK265 hb; replace NB266_267 := ak (nl hg (bG BK266)); replace NB267_266 := ak (ng hg (bG BK266)); replace BK266 := bB BK266 hb; clear hb hbox hg; have hnb9 := NB267_265.out; have hnc9 := NB265_267.out; have hnb10 := NB267_266.out; have hnc10 := NB266_267.out; obtain ⟨hcz11_0, hfz11_0⟩ := bC1 BK267; obtain ⟨hcz12_0, hcz12_1, hcz12_2, hcz12_3, hcz12_4, hcz12_5, hcz12_6, hcz12_7, hcz12_8, hfz12_0, hfz12_1, hfz12_2, hfz12_3, hfz12_4, hfz12_5, hfz12_6, hfz12_7, hfz12_8⟩ := bC9 BK265) | ((with_reducible refine gate_dst (N := 6) rfl ?_); refine bx 6 #[.int .i64 0, .string (⟨#[]⟩ : ByteArray), .string (⟨#[]⟩ : ByteArray), .int .i64 0, .slice none 0 0] 66 ?_; intro gb268 hg w13 hbox hb; replace BK268 := ak (hbox); replace GW268 := ak (bz hg (lT HB (gC GE265 (gC GE266 (gC GE267 gN))))); replace GE268 := ak (bz hg (lT HB (gC GE265 (gC GE266 (gC GE267 gN))))); replace HB := ak (below_step (lT HB (gC GE265 (gC GE266 (gC GE267 gN)))) hb); replace NB265_268 := ak (nl hg (bT BK265 (nC NB265_267 nN))); replace NB268_265 := ak (ng hg (bT BK265 (nC NB265_267 nN))); replace BK265 := ak (blk_below (bT BK265 (nC NB265_267 nN)) hb); replace NB266_268 := ak (nl hg (bT BK266 (nC NB266_267 nN))); replace NB268_266 := ak (ng hg (bT BK266 (nC NB266_267 nN))); replace BK266 := ak (blk_below (bT BK266 (nC NB266_267 nN)) hb); replace NB267_268 := ak ((by rw [hg]; exact Nat.ne_of_lt (blk_lt (g := gb267) (o := .cells #[.int .i64 a1_2] 3 (0, 0)) (bW BK267)) : gb267 ≠ gb268)); replace NB268_267 := ak ((by rw [hg]; exact Nat.ne_of_gt (blk_lt (g := gb267) (o := .cells #[.int .i64 a1_2] 3 (0, 0)) (bW BK267)) : gb268 ≠ gb267)); replace BK267 := ak (blk_below (g := gb267) (o := .cells #[.int .i64 a1_2] 3 (0, 0)) (bW BK267) hb); clear hb hbox hg; have hnb14 := NB268_265.out; have hnc14 := NB265_268.out; have hnb15 := NB268_266.out; have hnc15 := NB266_268.out; have hnb16 := NB268_267.out; have hnc16 := NB267_268.out; obtain ⟨hcz17_0, hcz17_1, hcz17_2, hcz17_3, hcz17_4, hfz17_0, hfz17_1, hfz17_2, hfz17_3, hfz17_4⟩ := bC5 BK268; obtain ⟨hcz18_0, hfz18_0⟩ := bC1 BK267) | ((with_reducible refine gate_callee (f := 74) rfl ?_); refine gl (some 31) Try.func74 #[.slice A0 l0.length c0, .func (.func 110) #[] #[.pointer (some ⟨gb267, 0, none⟩)]] ?_; (with_reducible refine (impl_numbers_uid.calls gb267 _ _ l0 a1_2 t269 _ ?sideV ?side1 ?side2 A3.out).mono ?_); (case sideV => exact (bT BK267 (nC NB267_268 nN))); (case side1 => exact Kd.C_below HR0.out (lT HB (gC GE265 (gC GE266 (gC GE267 (gC GE268 gN)))))); (case side2 => exact HC0.out); rintro e w19 ⟨v270, rfl, ho0, hb⟩; refine ⟨_, rfl, ?_⟩; replace HO271 := ak (Kd.R_lower ho0 (below_size (lT HB (gC GE265 (gC GE266 (gC GE267 (gC GE268 gN))))))); replace BK265 := ak (blk_below (bT BK265 (nC NB265_268 nN)) hb); replace BK266 := ak (blk_below (bT BK266 (nC NB266_268 nN)) hb); replace BK267 := ak (blk_below (bT BK267 (nC NB267_268 nN)) hb); replace BK268 := ak (blk_below (g := gb268) (o := .cells #[.int .i64 a1_2, .string a1_6, .string a1_7, .int .i64 a1_4, .slice none 0 0] 66 (0, 0)) (bW BK268) hb); replace HB := ak (below_step (lT HB (gC GE265 (gC GE266 (gC GE267 (gC GE268 gN))))) hb); (try clear hb); (try clear hk); (try clear ho0); obtain ⟨Ao20, co20, eo20⟩ := Kd.R_slice HO271.out; subst eo20))
 go_loopg [34] k (fun kq v34 w' => ∃ (x34_1 : Int) (x269003_1 : Int) (x269004_1 : List (S68)) (u269004 : Value), v34 = .int .i64 x34_1 ∧ Aside0 (impl_boxState.l0 kq l0 t269 (t269.length : Int) x34_1 a1_2 a1_2 a1_6 a1_7 x269003_1 x269004_1 = some (r1, r2, r3, r4, r5)) ∧ Aside0 (kq ≤ k) ∧ Aside0 (Kd.R (Kd.int .i64) 3 w' w.heap.size (fun _ => True) (.slice Ao20 t269.length co20) t269) ∧ Aside0 (Kd.R k68 68 w' w.heap.size (fun _ => True) u269004 x269004_1) ∧ Aside0 (w'.heap[gb265]? = some (.cells #[.int .i64 a1_0, .int .i64 a1_1, .int .i64 a1_2, .int .i64 a1_3, .int .i64 a1_4, .int .i64 a1_5, .string a1_6, .string a1_7, .string a1_8] 32 (0, 0))) ∧ Aside0 (w'.heap[gb266]? = some (.cells #[.int .i64 0, .string (⟨#[]⟩ : ByteArray), .string (⟨#[]⟩ : ByteArray), .int .i64 0, (.slice none 0 0)] 66 (0, 0))) ∧ Aside0 (w'.heap[gb267]? = some (.cells #[.int .i64 a1_2] 3 (0, 0))) ∧ Aside0 (w'.heap[gb268]? = some (.cells #[.int .i64 a1_2, .string a1_6, .string a1_7, .int .i64 x269003_1, u269004] 66 (0, 0))) ∧ Aside0 (Below w.heap.size w w'))
 case atStart => exact ⟨_, _, _, (.slice none 0 0), rr, H', ⟨Nat.le_refl _⟩, ⟨by (with_reducible repeat (first | apply Kd.R_alloc | apply Kd.R_drewN | apply Kd.R_drew)); exact HO271.out⟩, ⟨nil_⟩, ⟨bG BK265⟩, ⟨bG BK266⟩, ⟨bG BK267⟩, ⟨bG BK268⟩, ⟨by exact lT HB (gC GE265 (gC GE266 (gC GE267 (gC GE268 gN))))⟩⟩
 case round =>
  skip;{
 clear H'
 try clear hcz11_0 hcz12_0 hcz12_1 hcz12_2 hcz12_3 hcz12_4 hcz12_5 hcz12_6 hcz12_7 hcz12_8 hcz17_0 hcz17_1 hcz17_2 hcz17_3 hcz17_4 hcz18_0 hcz7_0 hcz7_1 hcz7_2 hcz7_3 hcz7_4 hcz7_5 hcz7_6 hcz7_7 hcz7_8 hfz11_0 hfz12_0 hfz12_1 hfz12_2 hfz12_3 hfz12_4 hfz12_5 hfz12_6 hfz12_7 hfz12_8 hfz17_0 hfz17_1 hfz17_2 hfz17_3 hfz17_4 hfz18_0 hfz7_0 hfz7_1 hfz7_2 hfz7_3 hfz7_4 hfz7_5 hfz7_6 hfz7_7 hfz7_8
 obtain ⟨x34_1, x269003_1, x269004_1, u269004, rfl, HA, HK1, HO_32, HO_269004, BK265, BK266, BK267, BK268, HB⟩ := hrel
 cases gk with
 | zero => exact absurd HA.out (by simp [impl_boxState.l0])
 | succ k1 =>
  skip;{
 have H := HA.out
 clear HA
 simp only [impl_boxState.l0] at H
 by_cases c21 : x34_1 < (t269.length : Int)
 {
 rw [if_pos c21] at H
 have c21b0 := decide_eq_true c21
 clear c21
 by_cases c22 : 0 ≤ x34_1
 {
 rw [if_pos c22] at H
 have c22b0 := decide_eq_true c22
 clear c22
 by_cases c23 : x34_1 < (t269.length : Int)
 {
 rw [if_pos c23] at H
 have c23b0 := decide_eq_true c23
 clear c23
 obtain ⟨ji24, hji24⟩ : ∃ j_ : Int, (mx x269003_1 (wrap64 ((rd t269 x34_1) + 1))) = j_ := ⟨_, rfl⟩
 replace H : ((impl_mailThere.f l0 a1_2 (rd t269 x34_1)).bind fun bt273 => (if bt273.2.2.2.2.2.2.2.2.2 = true then ((impl_mailItem.f l0 4 a1_2 (rd t269 x34_1)).bind fun bt285 => (if bt285.2.2.2.2.2.2.2.2.2 = true then (if x269004_1.length < 4398046511104 then (impl_boxState.l0 k1 l0 t269 (t269.length : Int) (wrap64 (x34_1 + 1)) a1_2 a1_2 a1_6 a1_7 ji24 (x269004_1 ++ [(⟨rd t269 x34_1, bt285.2.2.2.2.2.1, bt273.2.2.2.2.2.2.2.2.1⟩ : S68)])) else (none)) else (if x269004_1.length < 4398046511104 then (impl_boxState.l0 k1 l0 t269 (t269.length : Int) (wrap64 (x34_1 + 1)) a1_2 a1_2 a1_6 a1_7 ji24 (x269004_1 ++ [(⟨rd t269 x34_1, bt273.2.2.2.2.2.1, bt273.2.2.2.2.2.2.2.2.1⟩ : S68)])) else (none)))) else (impl_boxState.l0 k1 l0 t269 (t269.length : Int) (wrap64 (x34_1 + 1)) a1_2 a1_2 a1_6 a1_7 ji24 x269004_1))) = some (r1, r2, r3, r4, r5) := by first | (rw [hji24] at H; exact H) | (simp only [hji24] at H ⊢; exact H)
 have hji24_ : (if x269003_1 < (wrap64 ((rd t269 x34_1) + 1)) then (wrap64 ((rd t269 x34_1) + 1)) else x269003_1) = ji24 := hji24
 obtain ⟨⟨t273, t274, t275, t276, t277, t278, t279, t280, t281, t282⟩, A25, H⟩ := eb H
 try dsimp only at H
 have HS_ := Aside0.mk H
 clear H
 have p272 : 0 ≤ (x34_1 : Int) := oda
 have q272 : x34_1 < (t269.length : Int) := oda
 obtain ⟨ad272, e272, hx272_0⟩ := Kd.at_int (Kd.R_reads' HO_32.out).2.2 x34_1 p272 q272
 cases e272
 replace p272 := eq_true p272
 replace q272 := eq_true q272
 have hnb103 := NB268_265.out
 have hnc103 := NB265_268.out
 have hnb104 := NB268_266.out
 have hnc104 := NB266_268.out
 have hnb105 := NB268_267.out
 have hnc105 := NB267_268.out
 obtain ⟨_, _, _, _, _, _, _, _, _, _⟩ := bC5 BK268
 have hnb107 := NB267_265.out
 have hnc107 := NB265_267.out
 have hnb108 := NB267_266.out
 have hnc108 := NB266_267.out
 obtain ⟨_, _⟩ := bC1 BK267
 go_wp2_with ((with_reducible refine gate_callee (f := 111) rfl ?_); refine gl (some 48) Try.func111 #[.slice A0 l0.length c0, .int .i64 a1_2, .int .i64 (rd t269 x34_1)] ?_; (with_reducible refine (impl_mailThere.calls _ _ l0 a1_2 (rd t269 x34_1) _ _ _ _ _ _ _ _ _ _ _ ?side1 ?side2 A25.out).mono ?_); (case side1 => exact Kd.C_below HR0.out (lT HB (gC GE265 (gC GE266 (gC GE267 (gC GE268 gN)))))); (case side2 => exact HC0.out); rintro e w110 ⟨rfl, hb⟩; refine ⟨_, rfl, ?_⟩; replace HO_32 := ak (Kd.R_below (rT HO_32 BK268 (by decide)) hb); replace HO_269004 := ak (Kd.R_below (rT HO_269004 BK268 (by decide)) hb); replace BK265 := ak (blk_below (bT BK265 (nC NB265_268 nN)) hb); replace BK266 := ak (blk_below (bT BK266 (nC NB266_268 nN)) hb); replace BK267 := ak (blk_below (bT BK267 (nC NB267_268 nN)) hb); replace BK268 := ak (blk_below (g := gb268) (o := .cells #[.int .i64 a1_2, .string a1_6, .string a1_7, .int .i64 ji24, u269004] 66 (0, 0)) (bW BK268) hb); replace HB := ak (below_step (lT HB (gC GE265 (gC GE266 (gC GE267 (gC GE268 gN))))) hb); (try clear hb); (try clear hk); refine Stop.out ?_)
 have H := HS_.out
 clear HS_
 by_cases c26 : t282 = true
 {
 subst c26
 rw [if_pos rfl] at H
 obtain ⟨⟨t285, t286, t287, t288, t289, t290, t291, t292, t293, t294⟩, A27, H⟩ := eb H
 try dsimp only at H
 have HS_ := Aside0.mk H
 clear H
 refine ⟨?_⟩
 go_wp2_with (first | ((with_reducible refine gate_dst (N := 10) rfl ?_); refine bx 10 #[.int .i64 0, .int .i64 0, .int .i64 0, .int .i64 0, .int .i64 0, .int .i64 0, .string (⟨#[]⟩ : ByteArray), .string (⟨#[]⟩ : ByteArray), .string (⟨#[]⟩ : ByteArray)] 32 ?_; intro gb283 hg w38 hbox hb; replace HO_32 := rB HO_32 hb; replace HO_269004 := rB HO_269004 hb; replace BK283 := ak (hbox); replace GW283 := ak (bz hg (lT HB (gC GE265 (gC GE266 (gC GE267 (gC GE268 gN)))))); replace GE283 := ak (bz hg (lT HB (gC GE265 (gC GE266 (gC GE267 (gC GE268 gN)))))); replace HB := ak (below_step (lT HB (gC GE265 (gC GE266 (gC GE267 (gC GE268 gN))))) hb); replace NB265_283 := ak (nl hg (bG BK265)); replace NB283_265 := ak (ng hg (bG BK265)); replace BK265 := bB BK265 hb; replace NB266_283 := ak (nl hg (bG BK266)); replace NB283_266 := ak (ng hg (bG BK266)); replace BK266 := bB BK266 hb; replace NB267_283 := ak (nl hg (bG BK267)); replace NB283_267 := ak (ng hg (bG BK267)); replace BK267 := bB BK267 hb; replace NB268_283 := ak (nl hg (bG BK268)); replace NB283_268 := ak (ng hg (bG BK268)); replace BK268 := bB BK268 hb; clear hb hbox hg; have hnb39 := NB283_265.out; have hnc39 := NB265_283.out; have hnb40 := NB283_266.out; have hnc40 := NB266_283.out; have hnb41 := NB283_267.out; have hnc41 := NB267_283.out; have hnb42 := NB283_268.out; have hnc42 := NB268_283.out; obtain ⟨_, _, _, _, _, _, _, _, _, _, _, _, _, _, _, _, _, _⟩ := bC9 BK283) | ((with_reducible refine gate_dst (N := 12) rfl ?_); refine bx 12 #[.int .i64 0, .int .i64 0, .string (⟨#[]⟩ : ByteArray)] 68 ?_; intro gb284 hg w44 hbox hb; replace HO_32 := ak (Kd.R_below (rT HO_32 BK283 (by decide)) hb); replace HO_269004 := ak (Kd.R_below (Kd.R_elderB (rT HO_269004 BK283 (by decide)) gb284 (Nat.le_of_eq hg.symm)) hb); replace BK284 := ak (hbox); replace GW284 := ak (bz hg (lT HB (gC GE265 (gC GE266 (gC GE267 (gC GE268 (gC GE283 gN))))))); replace GE284 := ak (bz hg (lT HB (gC GE265 (gC GE266 (gC GE267 (gC GE268 (gC GE283 gN))))))); replace HB := ak (below_step (lT HB (gC GE265 (gC GE266 (gC GE267 (gC GE268 (gC GE283 gN)))))) hb); replace NB265_284 := ak (nl hg (bT BK265 (nC NB265_283 nN))); replace NB284_265 := ak (ng hg (bT BK265 (nC NB265_283 nN))); replace BK265 := ak (blk_below (bT BK265 (nC NB265_283 nN)) hb); replace NB266_284 := ak (nl hg (bT BK266 (nC NB266_283 nN))); replace NB284_266 := ak (ng hg (bT BK266 (nC NB266_283 nN))); replace BK266 := ak (blk_below (bT BK266 (nC NB266_283 nN)) hb); replace NB267_284 := ak (nl hg (bT BK267 (nC NB267_283 nN))); replace NB284_267 := ak (ng hg (bT BK267 (nC NB267_283 nN))); replace BK267 := ak (blk_below (bT BK267 (nC NB267_283 nN)) hb); replace NB268_284 := ak (nl hg (bT BK268 (nC NB268_283 nN))); replace NB284_268 := ak (ng hg (bT BK268 (nC NB268_283 nN))); replace BK268 := ak (blk_below (bT BK268 (nC NB268_283 nN)) hb); replace NB283_284 := ak ((by rw [hg]; exact Nat.ne_of_lt (blk_lt (g := gb283) (o := .cells #[.int .i64 t273, .int .i64 t274, .int .i64 t275, .int .i64 t276, .int .i64 t277, .int .i64 t278, .string t279, .string t280, .string t281] 32 (0, 0)) (bW BK283)) : gb283 ≠ gb284)); replace NB284_283 := ak ((by rw [hg]; exact Nat.ne_of_gt (blk_lt (g := gb283) (o := .cells #[.int .i64 t273, .int .i64 t274, .int .i64 t275, .int .i64 t276, .int .i64 t277, .int .i64 t278, .string t279, .string t280, .string t281] 32 (0, 0)) (bW BK283)) : gb284 ≠ gb283)); replace BK283 := ak (blk_below (g := gb283) (o := .cells #[.int .i64 t273, .int .i64 t274, .int .i64 t275, .int .i64 t276, .int .i64 t277, .int .i64 t278, .string t279, .string t280, .string t281] 32 (0, 0)) (bW BK283) hb); clear hb hbox hg; have hnb45 := NB284_265.out; have hnc45 := NB265_284.out; have hnb46 := NB284_266.out; have hnc46 := NB266_284.out; have hnb47 := NB284_267.out; have hnc47 := NB267_284.out; have hnb48 := NB284_268.out; have hnc48 := NB268_284.out; have hnb49 := NB284_283.out; have hnc49 := NB283_284.out; obtain ⟨_, _, _, _, _, _⟩ := bC3 BK284; obtain ⟨_, _⟩ := bC1 BK267) | ((with_reducible refine gate_callee (f := 112) rfl ?_); refine gl (some 65) Try.func112 #[.slice A0 l0.length c0, .int .i64 4, .int .i64 a1_2, .int .i64 (rd t269 x34_1)] ?_; (with_reducible refine (impl_mailItem.calls _ _ l0 4 a1_2 (rd t269 x34_1) _ _ _ _ _ _ _ _ _ _ _ ?side1 ?side2 A27.out).mono ?_); (case side1 => exact Kd.C_below HR0.out (lT HB (gC GE265 (gC GE266 (gC GE267 (gC GE268 (gC GE283 (gC GE284 gN)))))))); (case side2 => exact HC0.out); rintro e w52 ⟨rfl, hb⟩; refine ⟨_, rfl, ?_⟩; replace HO_32 := ak (Kd.R_below (rT HO_32 BK284 (by decide)) hb); replace HO_269004 := ak (Kd.R_below (by (with_reducible repeat (first | apply Kd.R_alloc | apply Kd.R_drewN | apply Kd.R_drew)); exact (Kd.R_mono (Kd.R_far (p := ⟨gb284, 2, none⟩) (Kd.R_far (p := ⟨gb284, 1, none⟩) (Kd.R_far (p := ⟨gb284, 0, none⟩) (Kd.R_mono HO_269004.out (fun k_ hk => (⟨hk, hk.2⟩ : _ ∧ k_ ≠ gb284))) (fun _ hk => hk.2) (.int .i64 (rd t269 x34_1))) (fun _ hk => hk.2) (.int .i64 t278)) (fun _ hk => hk.2) (.string t281)) (fun _ h_ => h_.1))) hb); replace BK265 := ak (blk_below (bT BK265 (nC NB265_284 nN)) hb); replace BK266 := ak (blk_below (bT BK266 (nC NB266_284 nN)) hb); replace BK267 := ak (blk_below (bT BK267 (nC NB267_284 nN)) hb); replace BK268 := ak (blk_below (bT BK268 (nC NB268_284 nN)) hb); replace BK283 := ak (blk_below (bT BK283 (nC NB283_284 nN)) hb); replace BK284 := ak (blk_below (g := gb284) (o := .cells #[.int .i64 (rd t269 x34_1), .int .i64 t278, .string t281] 68 (0, 0)) (bW BK284) hb); replace HB := ak (below_step (lT HB (gC GE265 (gC GE266 (gC GE267 (gC GE268 (gC GE283 (gC GE284 gN))))))) hb); (try clear hb); (try clear hk); refine Stop.out ?_))
 have H := HS_.out
 clear HS_
 by_cases c28 : t294 = true
 {
 subst c28
 rw [if_pos rfl] at H
 by_cases c29 : x269004_1.length < 4398046511104
 {
 rw [if_pos c29] at H
 have LMc29 := Aside0.mk c29
 clear c29
 obtain ⟨y296, hy296⟩ : ∃ y_ : List (S68), y_ = (x269004_1 ++ [(⟨rd t269 x34_1, t290, t281⟩ : S68)]) := ⟨_, rfl⟩
 replace H : (impl_boxState.l0 k1 l0 t269 (t269.length : Int) (wrap64 (x34_1 + 1)) a1_2 a1_2 a1_6 a1_7 ji24 y296) = some (r1, r2, r3, r4, r5) := by first | (rw [hy296]; with_reducible exact H) | (have H2_ := (Option.bind_some _ _).symm.trans H; rw [hy296]; with_reducible exact H2_) | (have H2_ := (Option.bind_some _ _).symm.trans H; with_reducible exact H2_) | with_reducible exact H | (rw [hy296]; exact H) | exact H
 have Ny296 := Aside0.mk hy296
 clear hy296
 have H' := Aside0.mk H
 clear H
 refine ⟨?_⟩
 go_wp2_with (first | ((with_reducible refine gate_dst (N := 13) rfl ?_); refine bx 13 #[.int .i64 0, .int .i64 0, .int .i64 0, .int .i64 0, .int .i64 0, .int .i64 0, .string (⟨#[]⟩ : ByteArray), .string (⟨#[]⟩ : ByteArray), .string (⟨#[]⟩ : ByteArray)] 32 ?_; intro gb295 hg w53 hbox hb; replace HO_32 := rB HO_32 hb; replace HO_269004 := rB HO_269004 hb; replace BK295 := ak (hbox); replace GW295 := ak (bz hg (lT HB (gC GE265 (gC GE266 (gC GE267 (gC GE268 (gC GE283 (gC GE284 gN)))))))); replace GE295 := ak (bz hg (lT HB (gC GE265 (gC GE266 (gC GE267 (gC GE268 (gC GE283 (gC GE284 gN)))))))); replace HB := ak (below_step (lT HB (gC GE265 (gC GE266 (gC GE267 (gC GE268 (gC GE283 (gC GE284 gN))))))) hb); replace NB265_295 := ak (nl hg (bG BK265)); replace NB295_265 := ak (ng hg (bG BK265)); replace BK265 := bB BK265 hb; replace NB266_295 := ak (nl hg (bG BK266)); replace NB295_266 := ak (ng hg (bG BK266)); replace BK266 := bB BK266 hb; replace NB267_295 := ak (nl hg (bG BK267)); replace NB295_267 := ak (ng hg (bG BK267)); replace BK267 := bB BK267 hb; replace NB268_295 := ak (nl hg (bG BK268)); replace NB295_268 := ak (ng hg (bG BK268)); replace BK268 := bB BK268 hb; replace NB283_295 := ak (nl hg (bG BK283)); replace NB295_283 := ak (ng hg (bG BK283)); replace BK283 := bB BK283 hb; replace NB284_295 := ak (nl hg (bG BK284)); replace NB295_284 := ak (ng hg (bG BK284)); replace BK284 := bB BK284 hb; clear hb hbox hg; have hnb54 := NB295_265.out; have hnc54 := NB265_295.out; have hnb55 := NB295_266.out; have hnc55 := NB266_295.out; have hnb56 := NB295_267.out; have hnc56 := NB267_295.out; have hnb57 := NB295_268.out; have hnc57 := NB268_295.out; have hnb58 := NB295_283.out; have hnc58 := NB283_295.out; have hnb59 := NB295_284.out; have hnc59 := NB284_295.out; obtain ⟨_, _, _, _, _, _, _, _, _, _, _, _, _, _, _, _, _, _⟩ := bC9 BK295; obtain ⟨_, _, _, _, _, _⟩ := bC3 BK284; obtain ⟨_, _, _, _, _, _, _, _, _, _⟩ := bC5 BK268) | ((with_reducible refine gate_builtin (b := .append) (xs := #[.tmp 74, .tmp 76]) rfl ?_); at_builtin; refine Kd.R_append k68 (w0 := w) w.heap.size rfl (.tmp 74) (.tmp 76) 64 68 (.agg #[(.int .i64 0), (.int .i64 0), (.string ⟨#[]⟩)]) 32 rfl Try.underlying64 info68 rfl (by decide) (by omega) u269004 x269004_1 (⟨rd t269 x34_1, t290, t281⟩ : S68) [.int .i64 (rd t269 x34_1), .int .i64 t290, .string t281] (fun k_ => k_ ≠ gb284) (fun _ => False) rfl (by first | (go_simp; done) | (go_simp; rfl)) ?aP (fun _ hk => hk.elim) ?aF ?aO ?aB ?aS ?aL ?_; (case aP => exact k68_mkM _ _ _ (⟨rd t269 x34_1, t290, t281⟩ : S68)); (case aB => exact (lT HB (gC GE265 (gC GE266 (gC GE267 (gC GE268 (gC GE283 (gC GE284 (gC GE295 gN))))))))); (case aF => exact (fun k_ hk => Kd.freshB (g := gb284) (o := .cells #[.int .i64 (rd t269 x34_1), .int .i64 t290, .string t281] 68 (0, 0)) (bF BK284 (nC NB284_295 nN)) k_ hk)); (case aO => exact (by (with_reducible repeat (first | apply Kd.R_alloc | apply Kd.R_drewN | apply Kd.R_drew)); exact Kd.R_mono (Kd.R_far (p := ⟨gb284, 1, none⟩) (Kd.R_far (p := ⟨gb295, 8, none⟩) (Kd.R_far (p := ⟨gb295, 7, none⟩) (Kd.R_far (p := ⟨gb295, 6, none⟩) (Kd.R_far (p := ⟨gb295, 5, none⟩) (Kd.R_far (p := ⟨gb295, 4, none⟩) (Kd.R_far (p := ⟨gb295, 3, none⟩) (Kd.R_far (p := ⟨gb295, 2, none⟩) (Kd.R_far (p := ⟨gb295, 1, none⟩) (Kd.R_far (p := ⟨gb295, 0, none⟩) (Kd.R_mono (Kd.R_types HO_269004.out BK295.out (by decide)) (fun k_ hk => (⟨hk, hk.1.2⟩ : _ ∧ k_ ≠ gb284))) (fun _ hk => hk.1.2) (.int .i64 t285)) (fun _ hk => hk.1.2) (.int .i64 t286)) (fun _ hk => hk.1.2) (.int .i64 t287)) (fun _ hk => hk.1.2) (.int .i64 t288)) (fun _ hk => hk.1.2) (.int .i64 t289)) (fun _ hk => hk.1.2) (.int .i64 t290)) (fun _ hk => hk.1.2) (.string t291)) (fun _ hk => hk.1.2) (.string t292)) (fun _ hk => hk.1.2) (.string t293)) (fun _ hk => hk.2) (.int .i64 t290)) (fun _ hk => hk.1.1.2))); (case aS => exact (below_size (lT HB (gC GE265 (gC GE266 (gC GE267 (gC GE268 (gC GE283 (gC GE284 (gC GE295 gN)))))))))); (case aL => have := LMc29.out; omega); intro v297 w63 ho hb hg hat; rw [← Ny296.out] at ho; have n0_ := ak (Kd.R_over' (by (with_reducible repeat (first | apply Kd.R_alloc | apply Kd.R_drewN | apply Kd.R_drew)); exact (Kd.R_mono (Kd.R_mono (Kd.R_far (p := ⟨gb284, 1, none⟩) (Kd.R_far (p := ⟨gb295, 8, none⟩) (Kd.R_far (p := ⟨gb295, 7, none⟩) (Kd.R_far (p := ⟨gb295, 6, none⟩) (Kd.R_far (p := ⟨gb295, 5, none⟩) (Kd.R_far (p := ⟨gb295, 4, none⟩) (Kd.R_far (p := ⟨gb295, 3, none⟩) (Kd.R_far (p := ⟨gb295, 2, none⟩) (Kd.R_far (p := ⟨gb295, 1, none⟩) (Kd.R_far (p := ⟨gb295, 0, none⟩) (Kd.R_types (Kd.R_types HO_32.out BK295.out (by decide)) BK284.out (by decide)) (fun _ hk => hk.1.2) (.int .i64 t285)) (fun _ hk => hk.1.2) (.int .i64 t286)) (fun _ hk => hk.1.2) (.int .i64 t287)) (fun _ hk => hk.1.2) (.int .i64 t288)) (fun _ hk => hk.1.2) (.int .i64 t289)) (fun _ hk => hk.1.2) (.int .i64 t290)) (fun _ hk => hk.1.2) (.string t291)) (fun _ hk => hk.1.2) (.string t292)) (fun _ hk => hk.1.2) (.string t293)) (fun _ hk => hk.2) (.int .i64 t290)) (fun _ h_ => h_.1)) (fun _ h_ => h_.1))) (Kd.R_typed (by (with_reducible repeat (first | apply Kd.R_alloc | apply Kd.R_drewN | apply Kd.R_drew)); exact (Kd.R_mono (Kd.R_mono (Kd.R_far (p := ⟨gb284, 1, none⟩) (Kd.R_far (p := ⟨gb295, 8, none⟩) (Kd.R_far (p := ⟨gb295, 7, none⟩) (Kd.R_far (p := ⟨gb295, 6, none⟩) (Kd.R_far (p := ⟨gb295, 5, none⟩) (Kd.R_far (p := ⟨gb295, 4, none⟩) (Kd.R_far (p := ⟨gb295, 3, none⟩) (Kd.R_far (p := ⟨gb295, 2, none⟩) (Kd.R_far (p := ⟨gb295, 1, none⟩) (Kd.R_far (p := ⟨gb295, 0, none⟩) (Kd.R_mono (Kd.R_types HO_269004.out BK295.out (by decide)) (fun k_ hk => (⟨hk, hk.1.2⟩ : _ ∧ k_ ≠ gb284))) (fun _ hk => hk.1.2) (.int .i64 t285)) (fun _ hk => hk.1.2) (.int .i64 t286)) (fun _ hk => hk.1.2) (.int .i64 t287)) (fun _ hk => hk.1.2) (.int .i64 t288)) (fun _ hk => hk.1.2) (.int .i64 t289)) (fun _ hk => hk.1.2) (.int .i64 t290)) (fun _ hk => hk.1.2) (.string t291)) (fun _ hk => hk.1.2) (.string t292)) (fun _ hk => hk.1.2) (.string t293)) (fun _ hk => hk.2) (.int .i64 t290)) (fun _ h_ => h_.1)) (fun _ h_ => h_.1)))) (by decide) hg); have n1_ := ak (blk_grown (g := gb265) (o := .cells #[.int .i64 a1_0, .int .i64 a1_1, .int .i64 a1_2, .int .i64 a1_3, .int .i64 a1_4, .int .i64 a1_5, .string a1_6, .string a1_7, .string a1_8] 32 (0, 0)) (bT BK265 (nC NB265_284 (nC NB265_295 nN))) hg (Kd.R_ne HO_269004.out BK265.out (by decide))); have n2_ := ak (blk_grown (g := gb266) (o := .cells #[.int .i64 0, .string (⟨#[]⟩ : ByteArray), .string (⟨#[]⟩ : ByteArray), .int .i64 0, .slice none 0 0] 66 (0, 0)) (bT BK266 (nC NB266_284 (nC NB266_295 nN))) hg (Kd.R_ne HO_269004.out BK266.out (by decide))); have n3_ := ak (blk_grown (g := gb267) (o := .cells #[.int .i64 a1_2] 3 (0, 0)) (bT BK267 (nC NB267_284 (nC NB267_295 nN))) hg (Kd.R_ne HO_269004.out BK267.out (by decide))); have n4_ := ak (blk_grown (g := gb268) (o := .cells #[.int .i64 a1_2, .string a1_6, .string a1_7, .int .i64 ji24, u269004] 66 (0, 0)) (bT BK268 (nC NB268_284 (nC NB268_295 nN))) hg (Kd.R_ne HO_269004.out BK268.out (by decide))); have n5_ := ak (blk_grown (g := gb283) (o := .cells #[.int .i64 t273, .int .i64 t274, .int .i64 t275, .int .i64 t276, .int .i64 t277, .int .i64 t278, .string t279, .string t280, .string t281] 32 (0, 0)) (bT BK283 (nC NB283_284 (nC NB283_295 nN))) hg (Kd.R_ne HO_269004.out BK283.out (by decide))); have n6_ := ak (blk_grown (g := gb284) (o := .cells #[.int .i64 (rd t269 x34_1), .int .i64 t290, .string t281] 68 (0, 0)) (bF BK284 (nC NB284_295 nN)) hg (Kd.R_away HO_269004.out (fun _ hk => hk.2))); have n7_ := ak (blk_grown (g := gb295) (o := .cells #[.int .i64 t285, .int .i64 t286, .int .i64 t287, .int .i64 t288, .int .i64 t289, .int .i64 t290, .string t291, .string t292, .string t293] 32 (0, 0)) (bF BK295 (nC NB295_284 nN)) hg (Kd.R_ne HO_269004.out BK295.out (by decide))); have n8_ := ak (hb); have n9_ := ak (ho); clear HO_32; clear BK265; clear BK266; clear BK267; clear BK268; clear BK283; clear BK284; clear BK295; clear HB; clear HO_269004; have HO_32 := n0_; have BK265 := n1_; have BK266 := n2_; have BK267 := n3_; have BK268 := n4_; have BK283 := n5_; have BK284 := n6_; have BK295 := n7_; have HB := n8_; have HO298 := n9_; clear n0_ n1_ n2_ n3_ n4_ n5_ n6_ n7_ n8_ n9_; clear ho hb hg hat; obtain ⟨Ao64, co64, eo64⟩ := Kd.R_slice HO298.out; subst eo64; obtain ⟨_, _, _, _, _, _, _, _, _, _⟩ := bC5 BK268))
 go_roundg k1
 case measure => have := HK1.out; omega
 case rel => exact ⟨_, _, _, (.slice Ao64 y296.length co64), rr, H', ⟨by have := HK1.out; omega⟩, ⟨by exact Kd.R_mono (rT HO_32 BK268 (by decide)) (fun _ hk => trivial)⟩, ⟨by exact Kd.R_mono (rT HO298 BK268 (by decide)) (fun _ hk => trivial)⟩, ⟨bF BK265 (nC NB265_268 nN)⟩, ⟨bF BK266 (nC NB266_268 nN)⟩, ⟨bF BK267 (nC NB267_268 nN)⟩, ⟨bW BK268⟩, ⟨by exact lT HB (gC GE265 (gC GE266 (gC GE267 (gC GE268 (gC GE283 (gC GE284 (gC GE295 gN)))))))⟩⟩
 }
 {rw [if_neg c29] at H;exact absurd H (by simp)}
 }
 {
 replace c28 := Bool.eq_false_iff.mpr c28
 subst c28
 rw [if_neg (show ¬ (false = true) by decide)] at H
 by_cases c66 : x269004_1.length < 4398046511104
 {
 rw [if_pos c66] at H
 have LMc66 := Aside0.mk c66
 clear c66
 obtain ⟨y299, hy299⟩ : ∃ y_ : List (S68), y_ = (x269004_1 ++ [(⟨rd t269 x34_1, t278, t281⟩ : S68)]) := ⟨_, rfl⟩
 replace H : (impl_boxState.l0 k1 l0 t269 (t269.length : Int) (wrap64 (x34_1 + 1)) a1_2 a1_2 a1_6 a1_7 ji24 y299) = some (r1, r2, r3, r4, r5) := by first | (rw [hy299]; with_reducible exact H) | (have H2_ := (Option.bind_some _ _).symm.trans H; rw [hy299]; with_reducible exact H2_) | (have H2_ := (Option.bind_some _ _).symm.trans H; with_reducible exact H2_) | with_reducible exact H | (rw [hy299]; exact H) | exact H
 have Ny299 := Aside0.mk hy299
 clear hy299
 have H' := Aside0.mk H
 clear H
 refine ⟨?_⟩
 go_wp2_with (first | ((with_reducible refine gate_dst (N := 13) rfl ?_); refine bx 13 #[.int .i64 0, .int .i64 0, .int .i64 0, .int .i64 0, .int .i64 0, .int .i64 0, .string (⟨#[]⟩ : ByteArray), .string (⟨#[]⟩ : ByteArray), .string (⟨#[]⟩ : ByteArray)] 32 ?_; intro gb295 hg w90 hbox hb; replace HO_32 := rB HO_32 hb; replace HO_269004 := rB HO_269004 hb; replace BK295 := ak (hbox); replace GW295 := ak (bz hg (lT HB (gC GE265 (gC GE266 (gC GE267 (gC GE268 (gC GE283 (gC GE284 gN)))))))); replace GE295 := ak (bz hg (lT HB (gC GE265 (gC GE266 (gC GE267 (gC GE268 (gC GE283 (gC GE284 gN)))))))); replace HB := ak (below_step (lT HB (gC GE265 (gC GE266 (gC GE267 (gC GE268 (gC GE283 (gC GE284 gN))))))) hb); replace NB265_295 := ak (nl hg (bG BK265)); replace NB295_265 := ak (ng hg (bG BK265)); replace BK265 := bB BK265 hb; replace NB266_295 := ak (nl hg (bG BK266)); replace NB295_266 := ak (ng hg (bG BK266)); replace BK266 := bB BK266 hb; replace NB267_295 := ak (nl hg (bG BK267)); replace NB295_267 := ak (ng hg (bG BK267)); replace BK267 := bB BK267 hb; replace NB268_295 := ak (nl hg (bG BK268)); replace NB295_268 := ak (ng hg (bG BK268)); replace BK268 := bB BK268 hb; replace NB283_295 := ak (nl hg (bG BK283)); replace NB295_283 := ak (ng hg (bG BK283)); replace BK283 := bB BK283 hb; replace NB284_295 := ak (nl hg (bG BK284)); replace NB295_284 := ak (ng hg (bG BK284)); replace BK284 := bB BK284 hb; clear hb hbox hg; have hnb91 := NB295_265.out; have hnc91 := NB265_295.out; have hnb92 := NB295_266.out; have hnc92 := NB266_295.out; have hnb93 := NB295_267.out; have hnc93 := NB267_295.out; have hnb94 := NB295_268.out; have hnc94 := NB268_295.out; have hnb95 := NB295_283.out; have hnc95 := NB283_295.out; have hnb96 := NB295_284.out; have hnc96 := NB284_295.out; obtain ⟨_, _, _, _, _, _, _, _, _, _, _, _, _, _, _, _, _, _⟩ := bC9 BK295; obtain ⟨_, _, _, _, _, _, _, _, _, _⟩ := bC5 BK268; obtain ⟨_, _, _, _, _, _⟩ := bC3 BK284) | ((with_reducible refine gate_builtin (b := .append) (xs := #[.tmp 74, .tmp 76]) rfl ?_); at_builtin; refine Kd.R_append k68 (w0 := w) w.heap.size rfl (.tmp 74) (.tmp 76) 64 68 (.agg #[(.int .i64 0), (.int .i64 0), (.string ⟨#[]⟩)]) 32 rfl Try.underlying64 info68 rfl (by decide) (by omega) u269004 x269004_1 (⟨rd t269 x34_1, t278, t281⟩ : S68) [.int .i64 (rd t269 x34_1), .int .i64 t278, .string t281] (fun k_ => k_ ≠ gb284) (fun _ => False) rfl (by first | (go_simp; done) | (go_simp; rfl)) ?aP (fun _ hk => hk.elim) ?aF ?aO ?aB ?aS ?aL ?_; (case aP => exact k68_mkM _ _ _ (⟨rd t269 x34_1, t278, t281⟩ : S68)); (case aB => exact (lT HB (gC GE265 (gC GE266 (gC GE267 (gC GE268 (gC GE283 (gC GE284 (gC GE295 gN))))))))); (case aF => exact (fun k_ hk => Kd.freshB (g := gb284) (o := .cells #[.int .i64 (rd t269 x34_1), .int .i64 t278, .string t281] 68 (0, 0)) (bT BK284 (nC NB284_295 nN)) k_ hk)); (case aO => exact (by (with_reducible repeat (first | apply Kd.R_alloc | apply Kd.R_drewN | apply Kd.R_drew)); exact Kd.R_mono (Kd.R_far (p := ⟨gb295, 8, none⟩) (Kd.R_far (p := ⟨gb295, 7, none⟩) (Kd.R_far (p := ⟨gb295, 6, none⟩) (Kd.R_far (p := ⟨gb295, 5, none⟩) (Kd.R_far (p := ⟨gb295, 4, none⟩) (Kd.R_far (p := ⟨gb295, 3, none⟩) (Kd.R_far (p := ⟨gb295, 2, none⟩) (Kd.R_far (p := ⟨gb295, 1, none⟩) (Kd.R_far (p := ⟨gb295, 0, none⟩) (Kd.R_types HO_269004.out BK295.out (by decide)) (fun _ hk => hk.2) (.int .i64 t285)) (fun _ hk => hk.2) (.int .i64 t286)) (fun _ hk => hk.2) (.int .i64 t287)) (fun _ hk => hk.2) (.int .i64 t288)) (fun _ hk => hk.2) (.int .i64 t289)) (fun _ hk => hk.2) (.int .i64 t290)) (fun _ hk => hk.2) (.string t291)) (fun _ hk => hk.2) (.string t292)) (fun _ hk => hk.2) (.string t293)) (fun _ hk => hk.1.2))); (case aS => exact (below_size (lT HB (gC GE265 (gC GE266 (gC GE267 (gC GE268 (gC GE283 (gC GE284 (gC GE295 gN)))))))))); (case aL => have := LMc66.out; omega); intro v300 w100 ho hb hg hat; rw [← Ny299.out] at ho; have n0_ := ak (Kd.R_over' (rT HO_32 BK295 (by decide)) (Kd.R_typed (rT HO_269004 BK295 (by decide))) (by decide) hg); have n1_ := ak (blk_grown (g := gb265) (o := .cells #[.int .i64 a1_0, .int .i64 a1_1, .int .i64 a1_2, .int .i64 a1_3, .int .i64 a1_4, .int .i64 a1_5, .string a1_6, .string a1_7, .string a1_8] 32 (0, 0)) (bT BK265 (nC NB265_295 nN)) hg (Kd.R_ne HO_269004.out BK265.out (by decide))); have n2_ := ak (blk_grown (g := gb266) (o := .cells #[.int .i64 0, .string (⟨#[]⟩ : ByteArray), .string (⟨#[]⟩ : ByteArray), .int .i64 0, .slice none 0 0] 66 (0, 0)) (bT BK266 (nC NB266_295 nN)) hg (Kd.R_ne HO_269004.out BK266.out (by decide))); have n3_ := ak (blk_grown (g := gb267) (o := .cells #[.int .i64 a1_2] 3 (0, 0)) (bT BK267 (nC NB267_295 nN)) hg (Kd.R_ne HO_269004.out BK267.out (by decide))); have n4_ := ak (blk_grown (g := gb268) (o := .cells #[.int .i64 a1_2, .string a1_6, .string a1_7, .int .i64 ji24, u269004] 66 (0, 0)) (bT BK268 (nC NB268_295 nN)) hg (Kd.R_ne HO_269004.out BK268.out (by decide))); have n5_ := ak (blk_grown (g := gb283) (o := .cells #[.int .i64 t273, .int .i64 t274, .int .i64 t275, .int .i64 t276, .int .i64 t277, .int .i64 t278, .string t279, .string t280, .string t281] 32 (0, 0)) (bT BK283 (nC NB283_295 nN)) hg (Kd.R_ne HO_269004.out BK283.out (by decide))); have n6_ := ak (blk_grown (g := gb284) (o := .cells #[.int .i64 (rd t269 x34_1), .int .i64 t278, .string t281] 68 (0, 0)) (bT BK284 (nC NB284_295 nN)) hg (Kd.R_away HO_269004.out (fun _ hk => hk.2))); have n7_ := ak (blk_grown (g := gb295) (o := .cells #[.int .i64 t285, .int .i64 t286, .int .i64 t287, .int .i64 t288, .int .i64 t289, .int .i64 t290, .string t291, .string t292, .string t293] 32 (0, 0)) (bW BK295) hg (Kd.R_ne HO_269004.out BK295.out (by decide))); have n8_ := ak (hb); have n9_ := ak (ho); clear HO_32; clear BK265; clear BK266; clear BK267; clear BK268; clear BK283; clear BK284; clear BK295; clear HB; clear HO_269004; have HO_32 := n0_; have BK265 := n1_; have BK266 := n2_; have BK267 := n3_; have BK268 := n4_; have BK283 := n5_; have BK284 := n6_; have BK295 := n7_; have HB := n8_; have HO301 := n9_; clear n0_ n1_ n2_ n3_ n4_ n5_ n6_ n7_ n8_ n9_; clear ho hb hg hat; obtain ⟨Ao101, co101, eo101⟩ := Kd.R_slice HO301.out; subst eo101; obtain ⟨_, _, _, _, _, _, _, _, _, _⟩ := bC5 BK268))
 go_roundg k1
 case measure => have := HK1.out; omega
 case rel => exact ⟨_, _, _, (.slice Ao101 y299.length co101), rr, H', ⟨by have := HK1.out; omega⟩, ⟨by exact Kd.R_mono (rT HO_32 BK268 (by decide)) (fun _ hk => trivial)⟩, ⟨by exact Kd.R_mono (rT HO301 BK268 (by decide)) (fun _ hk => trivial)⟩, ⟨bF BK265 (nC NB265_268 nN)⟩, ⟨bF BK266 (nC NB266_268 nN)⟩, ⟨bF BK267 (nC NB267_268 nN)⟩, ⟨bW BK268⟩, ⟨by exact lT HB (gC GE265 (gC GE266 (gC GE267 (gC GE268 (gC GE283 (gC GE284 (gC GE295 gN)))))))⟩⟩
 }
 {rw [if_neg c66] at H;exact absurd H (by simp)}
 }
 }
 {
 replace c26 := Bool.eq_false_iff.mpr c26
 subst c26
 rw [if_neg (show ¬ (false = true) by decide)] at H
 have H' := Aside0.mk H
 clear H
 refine ⟨?_⟩
 go_wp2_with ((with_reducible refine gate_dst (N := 10) rfl ?_); refine bx 10 #[.int .i64 0, .int .i64 0, .int .i64 0, .int .i64 0, .int .i64 0, .int .i64 0, .string (⟨#[]⟩ : ByteArray), .string (⟨#[]⟩ : ByteArray), .string (⟨#[]⟩ : ByteArray)] 32 ?_; intro gb283 hg w111 hbox hb; replace HO_32 := rB HO_32 hb; replace HO_269004 := rB HO_269004 hb; replace BK283 := ak (hbox); replace GW283 := ak (bz hg (lT HB (gC GE265 (gC GE266 (gC GE267 (gC GE268 gN)))))); replace GE283 := ak (bz hg (lT HB (gC GE265 (gC GE266 (gC GE267 (gC GE268 gN)))))); replace HB := ak (below_step (lT HB (gC GE265 (gC GE266 (gC GE267 (gC GE268 gN))))) hb); replace NB265_283 := ak (nl hg (bG BK265)); replace NB283_265 := ak (ng hg (bG BK265)); replace BK265 := bB BK265 hb; replace NB266_283 := ak (nl hg (bG BK266)); replace NB283_266 := ak (ng hg (bG BK266)); replace BK266 := bB BK266 hb; replace NB267_283 := ak (nl hg (bG BK267)); replace NB283_267 := ak (ng hg (bG BK267)); replace BK267 := bB BK267 hb; replace NB268_283 := ak (nl hg (bG BK268)); replace NB283_268 := ak (ng hg (bG BK268)); replace BK268 := bB BK268 hb; clear hb hbox hg; have hnb112 := NB283_265.out; have hnc112 := NB265_283.out; have hnb113 := NB283_266.out; have hnc113 := NB266_283.out; have hnb114 := NB283_267.out; have hnc114 := NB267_283.out; have hnb115 := NB283_268.out; have hnc115 := NB268_283.out; obtain ⟨_, _, _, _, _, _, _, _, _, _, _, _, _, _, _, _, _, _⟩ := bC9 BK283)
 go_roundg k1
 case measure => have := HK1.out; omega
 case rel => exact ⟨_, _, _, (u269004), rr, H', ⟨by have := HK1.out; omega⟩, ⟨by exact Kd.R_mono (rT HO_32 BK283 (by decide)) (fun _ hk => trivial)⟩, ⟨by exact Kd.R_mono (rT HO_269004 BK283 (by decide)) (fun _ hk => trivial)⟩, ⟨bF BK265 (nC NB265_283 nN)⟩, ⟨bF BK266 (nC NB266_283 nN)⟩, ⟨bF BK267 (nC NB267_283 nN)⟩, ⟨bF BK268 (nC NB268_283 nN)⟩, ⟨by exact lT HB (gC GE265 (gC GE266 (gC GE267 (gC GE268 (gC GE283 gN)))))⟩⟩
 }
 }
 {rw [if_neg c23] at H;exact absurd H (by simp)}
 }
 {rw [if_neg c22] at H;exact absurd H (by simp)}
 }
 {
 rw [if_neg c21] at H
 have c21b0 := decide_eq_false c21
 clear c21
 simp only [Option.some.injEq, Prod.mk.injEq] at H
 obtain ⟨rfl, rfl, rfl, rfl, rfl⟩ := H
 have hnb117 := NB268_265.out
 have hnc117 := NB265_268.out
 have hnb118 := NB268_266.out
 have hnc118 := NB266_268.out
 have hnb119 := NB268_267.out
 have hnc119 := NB267_268.out
 obtain ⟨_, _, _, _, _, _, _, _, _, _⟩ := bC5 BK268
 have hnb121 := NB266_265.out
 have hnc121 := NB265_266.out
 have hnb122 := NB266_267.out
 have hnc122 := NB267_266.out
 obtain ⟨_, _, _, _, _, _, _, _, _, _⟩ := bC5 BK266
 obtain ⟨Ao124, co124, eo124⟩ := Kd.R_slice HO_269004.out
 subst eo124
 go_wp2
 refine bodyPost_ret (results_cell_row rfl _ _ gb266 66 #[.int .i64 a1_2, .string a1_6, .string a1_7, .int .i64 x269003_1, .slice Ao124 x269004_1.length co124] (0, 0) _ rfl (bW BK266) Try.underlying66 rfl (by kernel_rfl)) rfl ?_
 exact ⟨_, ew, by exact Kd.R_mono (rT HO_269004 BK266 (by decide)) (fun _ hk => trivial), by exact lT HB (gC GE265 (gC GE266 (gC GE267 (gC GE268 gN))))⟩
 }
 }
 }
end Go.Proofs.Ytagkjeldheiejaa.PFnStates
