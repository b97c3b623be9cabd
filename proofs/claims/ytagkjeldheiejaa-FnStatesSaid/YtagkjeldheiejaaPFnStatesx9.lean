-- Written by a program of mine (a turned copy of the kit's print): functions as plain Lean, their contracts.
import Derived.Test.YtagkjeldheiejaaPFnStatesx6
import Derived.Test.YtagkjeldheiejaaPFnStatesx8
import Derived.Test.YtagkjeldheiejaaVFnStates1
namespace Go.Proofs.Ytagkjeldheiejaa.PFnStates
open Go.RowKit Go.Proofs.YtagkjeldheiejaaW.PrintWords Go.Proofs.YtagkjeldheiejaaW.PrintLast Go.Proofs.YtagkjeldheiejaaW.PrintMore
attribute [local go_sem] max2_int min2_int max_two min_two max_three min_three max_four min_four   -- for this text's walks alone
set_option maxHeartbeats 8000000
set_option maxRecDepth 100000
set_option linter.unusedVariables false
set_option linter.unusedSimpArgs false
/-! ### impl_StateOf: function 35 -/
def impl_StateOf.l0 : Nat → List (S32) → List Int → Int → Int → List (S66) → Option ((List (S66)))
 | 0, _, _, _, _, _ => none
 | k + 1, a, b, c, d, e => if d < c then (if 0 ≤ d then (if d < (b.length : Int) then ((impl_boxThere.f a (rd b d)).bind fun bt309 => (if bt309.2.2.2.2.2.2.2.2.2 = true then ((impl_boxState.f k a bt309.1 bt309.2.1 bt309.2.2.1 bt309.2.2.2.1 bt309.2.2.2.2.1 bt309.2.2.2.2.2.1 bt309.2.2.2.2.2.2.1 bt309.2.2.2.2.2.2.2.1 bt309.2.2.2.2.2.2.2.2.1).bind fun bt320 => (if e.length < 1954687338268 then (impl_StateOf.l0 k a b c (wrap64 (d + 1)) (e ++ [(⟨bt320.1, bt320.2.1, bt320.2.2.1, bt320.2.2.2.1, bt320.2.2.2.2⟩ : S66)])) else (none))) else (impl_StateOf.l0 k a b c (wrap64 (d + 1)) e))) else (none)) else (none)) else (some e)
def impl_StateOf.f (k : Nat) (l0 : List (S32)) : Option ((List (S66))) := (impl_ItemsOk.f k l0).bind fun t303 => (if t303 = true then ((impl_numbers_valid.f l0).bind fun t305 => (impl_StateOf.l0 k l0 t305 (t305.length : Int) 0 ([] : List (S66)))) else (some ([] : List (S66))))
theorem impl_StateOf.mono_l : ∀ k, (∀ y0 y1 y2 y3 y4, LeO (impl_StateOf.l0 k y0 y1 y2 y3 y4) (impl_StateOf.l0 (k + 1) y0 y1 y2 y3 y4))
 | 0 => fun _ _ _ _ _ r h => by simp [impl_StateOf.l0] at h
 | k + 1 => by
  have ih0 := impl_StateOf.mono_l k
  ·intro y0 y1 y2 y3 y4
   unfold impl_StateOf.l0
   repeat' with_reducible first | exact ih0 _ _ _ _ _ | exact impl_ItemsOk.mono _ _ | exact impl_boxState.mono _ _ _ _ _ _ _ _ _ _ _ | exact LeO.refl _ | exact LeO.none _ | refine LeO.ite ?_ ?_ | refine LeO.bind ?_ (fun _ => ?_)
theorem impl_StateOf.mono : ∀ a0 k, LeO (impl_StateOf.f k a0) (impl_StateOf.f (k + 1) a0) := by
 intro a0 k
 have ih0 := impl_StateOf.mono_l k
 unfold impl_StateOf.f
 repeat' with_reducible first | exact ih0 _ _ _ _ _ | exact impl_ItemsOk.mono _ _ | exact impl_boxState.mono _ _ _ _ _ _ _ _ _ _ _ | exact LeO.refl _ | exact LeO.none _ | refine LeO.ite ?_ ?_ | refine LeO.bind ?_ (fun _ => ?_)
def impl_StateOf.T9 : Bool × List (List Nat × List Nat) := (true, [([], []), ([0], [0]), ([], []), ([], []), ([2, 3], [2, 3]), ([4], [4]), ([1, 5, 4], [1, 5]), ([0, 1, 2, 3, 4, 5, 6], []), ([7, 6, 6, 0, 1, 2, 3, 4, 5, 6], [6, 7])])
def impl_StateOf.B9 : List Nat := [0, 1, 0, 0, 12, 28, 63, 127, 255]
theorem impl_StateOf.tab9 : rtab .any (opsOf Try.f35 9) = impl_StateOf.T9 := by kernel_rfl
theorem impl_StateOf.bits9 : waitsOk impl_StateOf.T9.2 impl_StateOf.B9 = true := by kernel_rfl
theorem impl_StateOf.calls (k : Nat) (A0 : Option Addr) (c0 : Nat) (l0 : List (S32)) (r : List (S66)) (w : World) (hr0 : Kd.C k32 w A0 l0.length l0) (hc0 : l0.length ≤ c0) (h : impl_StateOf.f k l0 = some r) :
  Calls Try.prog 35 #[.slice A0 l0.length c0] w fun e w' => ∃ v0_ : Value, e = .returned (.agg #[v0_]) ∧ Kd.S k66 66 w' w.heap.size (fun _ => True) v0_ r ∧ Below w.heap.size w w' := by
 have hu60 := Try.underlying60
 have hu32 := Try.underlying32
 have HR0 := Aside0.mk hr0
 have HC0 := Aside0.mk hc0
 clear hr0 hc0
 have HB := ak (Below.refl w.heap.size w)
 have H := h
 clear h
 unfold impl_StateOf.f at H
 obtain ⟨t303, A2, H⟩ := eb H
 try dsimp only at H
 by_cases c3 : t303 = true
 {
 subst c3
 rw [if_pos rfl] at H
 obtain ⟨t305, A4, H⟩ := eb H
 try dsimp only at H
 have H' := Aside0.mk H
 clear H
 go_enter Try.func35, Try.ntmps35
 go_wp2_with (first | ((with_reducible refine gate_dst (N := 2) rfl ?_); refine bx 2 #[.slice none 0 0] 60 ?_; intro gb302 hg w5 hbox hb; replace BK302 := ak (hbox); replace GE302 := ak (bz hg (lG HB)); replace HB := lB HB hb; clear hb hbox hg) | ((with_reducible refine gate_callee (f := 21) rfl ?_); refine gl (some 9) Try.func21 #[.slice A0 l0.length c0] ?_; (with_reducible refine (impl_ItemsOk.calls k _ _ l0 _ _ ?side1 ?side2 A2.out).mono ?_); (case side1 => exact cG (Kd.C_below HR0.out HB.out)); (case side2 => exact HC0.out); rintro e w6 ⟨rfl, hb⟩; refine ⟨_, rfl, ?_⟩; replace BK302 := bB BK302 hb; replace HB := ak (below_step (lT HB (gC GE302 gN)) hb); (try clear hb); (try clear hk)) | ((with_reducible refine gate_dst (N := 3) rfl ?_); refine bx 3 #[.slice none 0 0] 60 ?_; intro gb304 hg w7 hbox hb; replace BK304 := ak (hbox); replace GW304 := ak (bz hg (lT HB (gC GE302 gN))); replace GE304 := ak (bz hg (lT HB (gC GE302 gN))); replace HB := ak (below_step (lT HB (gC GE302 gN)) hb); replace NB302_304 := ak (nl hg (bG BK302)); replace NB304_302 := ak (ng hg (bG BK302)); replace BK302 := bB BK302 hb; clear hb hbox hg; have hnb8 := NB304_302.out; have hnc8 := NB302_304.out; obtain ⟨hcz9_0, hfz9_0⟩ := bC1 BK304) | ((with_reducible refine gate_callee (f := 74) rfl ?_); refine gl (some 14) Try.func74 #[.slice A0 l0.length c0, .func (.func 75) #[] #[]] ?_; (with_reducible refine (impl_numbers_valid.calls _ _ l0 t305 _ ?side1 ?side2 A4.out).mono ?_); (case side1 => exact Kd.C_below HR0.out (lT HB (gC GE302 (gC GE304 gN)))); (case side2 => exact HC0.out); rintro e w10 ⟨v306, rfl, ho0, hb⟩; refine ⟨_, rfl, ?_⟩; replace HO307 := ak (Kd.R_lower ho0 (below_size (lT HB (gC GE302 (gC GE304 gN))))); replace BK302 := ak (blk_below (bT BK302 (nC NB302_304 nN)) hb); replace BK304 := ak (blk_below (g := gb304) (o := .cells #[.slice none 0 0] 60 (0, 0)) (bW BK304) hb); replace HB := ak (below_step (lT HB (gC GE302 (gC GE304 gN))) hb); (try clear hb); (try clear hk); (try clear ho0); obtain ⟨Ao11, co11, eo11⟩ := Kd.R_slice HO307.out; subst eo11))
 go_loopg [16] k (fun kq v16 w' => ∃ (x16_1 : Int) (x305000_1 : List (S66)) (u305000 : Value), v16 = .int .i64 x16_1 ∧ Aside0 (impl_StateOf.l0 kq l0 t305 (t305.length : Int) x16_1 x305000_1 = some r) ∧ Aside0 (kq ≤ k) ∧ Aside0 (Kd.R (Kd.int .i64) 3 w' w.heap.size (fun _ => True) (.slice Ao11 t305.length co11) t305) ∧ Aside0 (Kd.S k66 66 w' w.heap.size (fun _ => True) u305000 x305000_1) ∧ Aside0 (w'.heap[gb302]? = some (.cells #[(.slice none 0 0)] 60 (0, 0))) ∧ Aside0 (w'.heap[gb304]? = some (.cells #[u305000] 60 (0, 0))) ∧ Aside0 (Below w.heap.size w w'))
 case atStart => exact ⟨_, _, (.slice none 0 0), rr, H', ⟨Nat.le_refl _⟩, ⟨by (with_reducible repeat (first | apply Kd.R_alloc | apply Kd.R_drewN | apply Kd.R_drew)); exact HO307.out⟩, ⟨by first | exact Kd.S_nil _ _ _ _ _ | exact Kd.N_nil _ _ _ _ _ | exact Kd.V_nil _ _ _ _ _ | exact Kd.Q_nil _ _ _ _ _ | exact Kd.R_nil _ _ _ _ _⟩, ⟨bG BK302⟩, ⟨bG BK304⟩, ⟨by exact lT HB (gC GE302 (gC GE304 gN))⟩⟩
 case round =>
  skip;{
 clear H'
 try clear c3 hcz9_0 hfz9_0
 obtain ⟨x16_1, x305000_1, u305000, rfl, HA, HK1, HO_14, HO_305000, BK302, BK304, HB⟩ := hrel
 cases gk with
 | zero => exact absurd HA.out (by simp [impl_StateOf.l0])
 | succ k1 =>
  skip;{
 have H := HA.out
 clear HA
 simp only [impl_StateOf.l0] at H
 by_cases c12 : x16_1 < (t305.length : Int)
 {
 rw [if_pos c12] at H
 have c12b0 := decide_eq_true c12
 clear c12
 by_cases c13 : 0 ≤ x16_1
 {
 rw [if_pos c13] at H
 have c13b0 := decide_eq_true c13
 clear c13
 by_cases c14 : x16_1 < (t305.length : Int)
 {
 rw [if_pos c14] at H
 have c14b0 := decide_eq_true c14
 clear c14
 obtain ⟨⟨t309, t310, t311, t312, t313, t314, t315, t316, t317, t318⟩, A15, H⟩ := eb H
 try dsimp only at H
 have HS_ := Aside0.mk H
 clear H
 have p308 : 0 ≤ (x16_1 : Int) := oda
 have q308 : x16_1 < (t305.length : Int) := oda
 obtain ⟨ad308, e308, hx308_0⟩ := Kd.at_int (Kd.R_reads' HO_14.out).2.2 x16_1 p308 q308
 cases e308
 replace p308 := eq_true p308
 replace q308 := eq_true q308
 go_wp2_with ((with_reducible refine gate_callee (f := 76) rfl ?_); refine gl (some 23) Try.func76 #[.slice A0 l0.length c0, .int .i64 (rd t305 x16_1)] ?_; (with_reducible refine (impl_boxThere.calls _ _ l0 (rd t305 x16_1) _ _ _ _ _ _ _ _ _ _ _ ?side1 ?side2 A15.out).mono ?_); (case side1 => exact cG (Kd.C_below HR0.out HB.out)); (case side2 => exact HC0.out); rintro e w19 ⟨rfl, hb⟩; refine ⟨_, rfl, ?_⟩; replace HO_14 := rB HO_14 hb; replace HO_305000 := ak (Kd.S_below (by (with_reducible repeat (first | apply Kd.S_alloc | apply Kd.S_drewN | apply Kd.S_drew)); exact HO_305000.out) hb); replace BK302 := bB BK302 hb; replace BK304 := bB BK304 hb; replace HB := ak (below_step (lT HB (gC GE302 (gC GE304 gN))) hb); (try clear hb); (try clear hk); refine Stop.out ?_)
 have H := HS_.out
 clear HS_
 by_cases c16 : t318 = true
 {
 subst c16
 rw [if_pos rfl] at H
 obtain ⟨⟨t320, t321, t322, t323, t324⟩, A17, H⟩ := eb H
 try dsimp only at H
 by_cases c18 : x305000_1.length < 1954687338268
 {
 rw [if_pos c18] at H
 have LMc18 := Aside0.mk c18
 clear c18
 obtain ⟨y327, hy327⟩ : ∃ y_ : List (S66), y_ = (x305000_1 ++ [(⟨t320, t321, t322, t323, t324⟩ : S66)]) := ⟨_, rfl⟩
 replace H : (impl_StateOf.l0 k1 l0 t305 (t305.length : Int) (wrap64 (x16_1 + 1)) y327) = some r := by first | (rw [hy327]; with_reducible exact H) | (have H2_ := (Option.bind_some _ _).symm.trans H; rw [hy327]; with_reducible exact H2_) | (have H2_ := (Option.bind_some _ _).symm.trans H; with_reducible exact H2_) | with_reducible exact H | (rw [hy327]; exact H) | exact H
 have Ny327 := Aside0.mk hy327
 clear hy327
 have H' := Aside0.mk H
 clear H
 refine ⟨?_⟩
 try go_wp2_with ((with_reducible refine gate_dst (N := 6) rfl ?_); refine bx 6 #[.int .i64 0, .int .i64 0, .int .i64 0, .int .i64 0, .int .i64 0, .int .i64 0, .string (⟨#[]⟩ : ByteArray), .string (⟨#[]⟩ : ByteArray), .string (⟨#[]⟩ : ByteArray)] 32 ?_; intro gb319 hg w20 hbox hb; replace HO_14 := rB HO_14 hb; replace HO_305000 := ak (Kd.S_below (by (with_reducible repeat (first | apply Kd.S_alloc | apply Kd.S_drewN | apply Kd.S_drew)); exact HO_305000.out) hb); replace BK319 := ak (hbox); replace GW319 := ak (bz hg (lT HB (gC GE302 (gC GE304 gN)))); replace GE319 := ak (bz hg (lT HB (gC GE302 (gC GE304 gN)))); replace HB := ak (below_step (lT HB (gC GE302 (gC GE304 gN))) hb); replace NB302_319 := ak (nl hg (bG BK302)); replace NB319_302 := ak (ng hg (bG BK302)); replace BK302 := bB BK302 hb; replace NB304_319 := ak (nl hg (bG BK304)); replace NB319_304 := ak (ng hg (bG BK304)); replace BK304 := bB BK304 hb; clear hb hbox hg; have hnb21 := NB319_302.out; have hnc21 := NB302_319.out; have hnb22 := NB319_304.out; have hnc22 := NB304_319.out; obtain ⟨_, _, _, _, _, _, _, _, _, _, _, _, _, _, _, _, _, _⟩ := bC9 BK319)
 obtain ⟨w24, eW_⟩ : ∃ w_, w_ = (((((((((w20.setCell ⟨gb319, 0, none⟩ (.int .i64 t309)).setCell ⟨gb319, 1, none⟩ (.int .i64 t310)).setCell ⟨gb319, 2, none⟩ (.int .i64 t311)).setCell ⟨gb319, 3, none⟩ (.int .i64 t312)).setCell ⟨gb319, 4, none⟩ (.int .i64 t313)).setCell ⟨gb319, 5, none⟩ (.int .i64 t314)).setCell ⟨gb319, 6, none⟩ (.string t315)).setCell ⟨gb319, 7, none⟩ (.string t316)).setCell ⟨gb319, 8, none⟩ (.string t317)) := ⟨_, rfl⟩
 have n0_ : Aside0 (Kd.R (Kd.int .i64) 3 w24 w.heap.size (fun _ => True) (.slice (some ad308) t305.length co11) t305) := by rw [eW_]; exact ⟨by exact Kd.R_mono (rT HO_14 BK319 (by decide)) (fun _ hk => trivial)⟩
 have n1_ : Aside0 (Kd.S k66 66 w24 w.heap.size (fun _ => True) u305000 x305000_1) := by rw [eW_]; exact ⟨by (with_reducible repeat (first | apply Kd.S_alloc | apply Kd.S_drewN | apply Kd.S_drew)); exact Kd.S_mono (Kd.S_far (p := ⟨gb319, 8, none⟩) (Kd.S_far (p := ⟨gb319, 7, none⟩) (Kd.S_far (p := ⟨gb319, 6, none⟩) (Kd.S_far (p := ⟨gb319, 5, none⟩) (Kd.S_far (p := ⟨gb319, 4, none⟩) (Kd.S_far (p := ⟨gb319, 3, none⟩) (Kd.S_far (p := ⟨gb319, 2, none⟩) (Kd.S_far (p := ⟨gb319, 1, none⟩) (Kd.S_far (p := ⟨gb319, 0, none⟩) (Kd.S_types HO_305000.out BK319.out (by decide)) (fun _ hk => hk.2) (.int .i64 t309)) (fun _ hk => hk.2) (.int .i64 t310)) (fun _ hk => hk.2) (.int .i64 t311)) (fun _ hk => hk.2) (.int .i64 t312)) (fun _ hk => hk.2) (.int .i64 t313)) (fun _ hk => hk.2) (.int .i64 t314)) (fun _ hk => hk.2) (.string t315)) (fun _ hk => hk.2) (.string t316)) (fun _ hk => hk.2) (.string t317)) (fun _ hk => trivial)⟩
 have n2_ : Aside0 (w24.heap[gb302]? = some (.cells #[.slice none 0 0] 60 (0, 0))) := by rw [eW_]; exact ⟨bF BK302 (nC NB302_319 nN)⟩
 have n3_ : Aside0 (w24.heap[gb304]? = some (.cells #[u305000] 60 (0, 0))) := by rw [eW_]; exact ⟨bF BK304 (nC NB304_319 nN)⟩
 have n4_ : Aside0 (w24.heap[gb319]? = some (.cells #[.int .i64 t309, .int .i64 t310, .int .i64 t311, .int .i64 t312, .int .i64 t313, .int .i64 t314, .string t315, .string t316, .string t317] 32 (0, 0))) := by rw [eW_]; exact ⟨bW BK319⟩
 have n5_ : Aside0 (Below w.heap.size w w24) := by rw [eW_]; exact ⟨by exact lT HB (gC GE302 (gC GE304 (gC GE319 gN)))⟩
 try clear HO_14 HO_305000 BK302 BK304 BK319 HB
 rw [← eW_];clear eW_
 have HO_14 := n0_
 have HO_305000 := n1_
 have BK302 := n2_
 have BK304 := n3_
 have BK319 := n4_
 have HB := n5_
 clear n0_ n1_ n2_ n3_ n4_ n5_
 replace HO_14 := ak (Kd.R_drew HO_14.out)
 replace HO_305000 := ak (Kd.S_drew HO_305000.out)
 replace BK302 := ak (blk_drew BK302.out)
 replace BK304 := ak (blk_drew BK304.out)
 replace BK319 := ak (blk_drew BK319.out)
 replace HB := ak (below_drew1 HB.out)
 refine start_ (n := 9) (S := fun w' => w'.cell? ⟨gb304, 0, none⟩ = some (u305000) ∧ w'.cell? ⟨gb319, 0, none⟩ = some (.int .i64 t309) ∧ w'.cell? ⟨gb319, 1, none⟩ = some (.int .i64 t310) ∧ w'.cell? ⟨gb319, 2, none⟩ = some (.int .i64 t311) ∧ w'.cell? ⟨gb319, 3, none⟩ = some (.int .i64 t312) ∧ w'.cell? ⟨gb319, 4, none⟩ = some (.int .i64 t313) ∧ w'.cell? ⟨gb319, 5, none⟩ = some (.int .i64 t314) ∧ w'.cell? ⟨gb319, 6, none⟩ = some (.string t315) ∧ w'.cell? ⟨gb319, 7, none⟩ = some (.string t316) ∧ w'.cell? ⟨gb319, 8, none⟩ = some (.string t317)) (ds := [8]) (fb 9 0) (by kernel_rfl) rfl rfl ⟨bc BK304 0, bc BK319 0, bc BK319 1, bc BK319 2, bc BK319 3, bc BK319 4, bc BK319 5, bc BK319 6, bc BK319 7, bc BK319 8⟩ (fun hHeld => ?_); refine with_tabW impl_StateOf.tab9 impl_StateOf.bits9 (fun HT_ HW_ => ?_)
 generalize w24.drew = w25 at HO_14 HO_305000 BK302 BK304 BK319 HB hHeld ⊢
 refine pu 0 27 (fb 9 1) HT_ ?_
 refine pu 2 29 (fb 9 5) HT_ ?_
 refine tk 1 28 (fb 9 7) HT_ HW_ hHeld ?_
 refine tk 3 30 (fb 9 15) HT_ HW_ hHeld ?_
 refine on 4 (some 31) (fb 9 31) HT_ (fun K hK => ?_)
 refine gs Try.func77 #[.slice A0 l0.length c0, .agg #[.int .i64 t309, .int .i64 t310, .int .i64 t311, .int .i64 t312, .int .i64 t313, .int .i64 t314, .string t315, .string t316, .string t317]] ?_
 with_reducible refine (impl_boxState.calls k1 _ _ l0 t309 t310 t311 t312 t313 t314 t315 t316 t317 t320 t321 t322 t323 t324 _ ?side1 ?side2 A17.out).mono ?_
 (case side1 => exact cG (Kd.C_below HR0.out HB.out))
 (case side2 => exact HC0.out)
 rintro e w26 ⟨v325, rfl, ho0, hb⟩
 refine ⟨_, rfl, ?_⟩
 replace HO_14 := rB HO_14 hb
 replace HO_305000 := ak (Kd.S_elder' (by (with_reducible repeat (first | apply Kd.S_alloc | apply Kd.S_drewN | apply Kd.S_drew)); exact HO_305000.out) (Kd.R_base ho0) hb)
 replace HO326 := ak (Kd.R_lower ho0 (below_size (lT HB (gC GE302 (gC GE304 (gC GE319 gN))))))
 replace BK302 := bB BK302 hb
 replace BK304 := bB BK304 hb
 replace BK319 := bB BK319 hb
 replace HB := ak (below_step (lT HB (gC GE302 (gC GE304 (gC GE319 gN)))) hb)
 try clear hb hk ho0
 obtain ⟨Ao28, co28, eo28⟩ := Kd.R_slice HO326.out
 (first | subst eo28 | (injection eo28 with f1_ f2_ f3_; have f4_ := f1_.symm; have f5_ := f3_.symm; clear f1_ f2_ f3_; subst f4_; subst f5_))
 refine hK.out _ _ ⟨bc BK304 0, bc BK319 0, bc BK319 1, bc BK319 2, bc BK319 3, bc BK319 4, bc BK319 5, bc BK319 6, bc BK319 7, bc BK319 8⟩ (fun hHeld => ?_)
 clear hK K
 refine nm ?_
 refine on 5 (some 32) (fb 9 63) HT_ (fun K hK => ?_)
 refine value_ (w1 := ?_) (v := ?_) (by rfl) rfl ?_ ?_
 rotate_left 2
 {
 go_simp
 constructor
 {
 rfl
 }
 {
 rfl
 }
 }
 refine hK.out _ _ ⟨(blk_cell (blk_alloc BK304.out _) 0).trans rfl, (blk_cell (blk_alloc BK319.out _) 0).trans rfl, (blk_cell (blk_alloc BK319.out _) 1).trans rfl, (blk_cell (blk_alloc BK319.out _) 2).trans rfl, (blk_cell (blk_alloc BK319.out _) 3).trans rfl, (blk_cell (blk_alloc BK319.out _) 4).trans rfl, (blk_cell (blk_alloc BK319.out _) 5).trans rfl, (blk_cell (blk_alloc BK319.out _) 6).trans rfl, (blk_cell (blk_alloc BK319.out _) 7).trans rfl, (blk_cell (blk_alloc BK319.out _) 8).trans rfl⟩ (fun hHeld => ?_)
 clear hK K
 refine nm ?_
 refine on 6 (some 33) (fb 9 127) HT_ (fun K hK => ?_)
 refine Kd.S_append_step k66 (w0 := w) w.heap.size (by rfl) (.tmp 28) (.tmp 32) 58 66 (.agg #[(.int .i64 0), (.string ⟨#[]⟩), (.string ⟨#[]⟩), (.int .i64 0), (.slice none 0 0)]) 72 rfl Try.underlying58 info66 rfl (by decide) (by omega) u305000 x305000_1 (⟨t320, t321, t322, t323, t324⟩ : S66) [.int .i64 t320, .string t321, .string t322, .int .i64 t323, .slice Ao28 t324.length co28] (fun _ => True) (fun k_ => some k_ = (.slice Ao28 t324.length co28 : Value).ownBlock) rfl rfl ?aP (fun k_ hk_ => ((Kd.R_mono (ok' := fun k_ => ((fun _ => True)) k_ ∧ some k_ ≠ (u305000 : Value).ownBlock) (Kd.R_apart' (HO326.out) (Kd.S_typed HO_305000.out) (by decide)) (fun k_ hk => ⟨trivial, hk.2⟩))).1 k_ hk_.symm) ?aF ?aO ?aB ?aS ?aL ?_
 (case aP => exact k66_mkM _ _ _ (⟨t320, t321, t322, t323, t324⟩ : S66) (Kd.R_mono (Kd.R_tight rfl (Kd.R_mono (ok' := fun k_ => ((fun _ => True)) k_ ∧ some k_ ≠ (u305000 : Value).ownBlock) (Kd.R_apart' (HO326.out) (Kd.S_typed HO_305000.out) (by decide)) (fun k_ hk => ⟨trivial, hk.2⟩))) (fun _ h_ => h_)))
 (case aB => exact (lT HB (gC GE302 (gC GE304 (gC GE319 gN)))))
 (case aF => exact (fun _ _ => trivial))
 (case aO => exact (by (with_reducible repeat (first | apply Kd.S_alloc | apply Kd.S_drewN | apply Kd.S_drew)); exact Kd.S_mono HO_305000.out (fun k_ hk => ⟨trivial, fun e_ => hk.2 e_⟩)))
 (case aS => exact (below_size (lT HB (gC GE302 (gC GE304 (gC GE319 gN))))))
 (case aL => have := LMc18.out; omega)
 intro v328 w27 ho hb hg hat
 rw [← Ny327.out] at ho
 have n0_ := ak (Kd.R_over' (rG HO_14) (Kd.S_typed (by (with_reducible repeat (first | apply Kd.S_alloc | apply Kd.S_drewN | apply Kd.S_drew)); exact HO_305000.out)) (by decide) hg)
 have n1_ := ak (blk_grown (g := gb302) (o := .cells #[.slice none 0 0] 60 (0, 0)) (bG BK302) hg (Kd.S_ne HO_305000.out BK302.out (by decide)))
 have n2_ := ak (blk_grown (g := gb304) (o := .cells #[u305000] 60 (0, 0)) (bG BK304) hg (Kd.S_ne HO_305000.out BK304.out (by decide)))
 have n3_ := ak (blk_grown (g := gb319) (o := .cells #[.int .i64 t309, .int .i64 t310, .int .i64 t311, .int .i64 t312, .int .i64 t313, .int .i64 t314, .string t315, .string t316, .string t317] 32 (0, 0)) (bG BK319) hg (Kd.S_ne HO_305000.out BK319.out (by decide)))
 have n4_ := ak (hb)
 have n5_ := ak (ho)
 clear HO_14
 clear BK302
 clear BK304
 clear BK319
 clear HB
 clear HO_305000
 clear HO326
 have HO_14 := n0_
 have BK302 := n1_
 have BK304 := n2_
 have BK319 := n3_
 have HB := n4_
 have HO329 := n5_
 clear n0_ n1_ n2_ n3_ n4_ n5_
 clear ho hb hg hat
 obtain ⟨Ao29, co29, eo29⟩ := Kd.S_slice HO329.out
 (first | subst eo29 | (injection eo29 with f1_ f2_ f3_; have f4_ := f1_.symm; have f5_ := f3_.symm; clear f1_ f2_ f3_; subst f4_; subst f5_))
 refine hK.out _ _ ⟨bc BK304 0, bc BK319 0, bc BK319 1, bc BK319 2, bc BK319 3, bc BK319 4, bc BK319 5, bc BK319 6, bc BK319 7, bc BK319 8⟩ (fun hHeld => ?_)
 clear hK K
 refine nm ?_
 refine pu 7 34 (fb 9 255) HT_ ?_
 refine last_ (i := 8) (N := none) #[t_,t_,t_,t_,t_,t_,t_,t_,t_] rfl rfl (one_of HT_.out (by kernel_rfl)) (by decide) (fun K hK => ?_)
 have hs30 : w27.cell? ⟨gb304, 0, none⟩ = some (u305000) := bc BK304 0
 have hfs30 := blk_frozen BK304.out 0
 have hns30_0 := NB302_304.out
 have hns30_2 := NB319_304.out
 have hms30_0 := NB304_302.out
 have hms30_2 := NB304_319.out
 refine skip_ (w1 := ?_) (by rfl) rfl ?_ ?_
 rotate_left
 {
 go_simp
 rfl
 }
 refine hK.out _ _ ?_
 clear hK K
 refine done_ (done_of HT_.out (by kernel_rfl)) ?_
 try go_wp2
 go_roundg k1
 case measure => have := HK1.out; omega
 case rel => exact ⟨_, _, (.slice Ao29 y327.length co29), rr, H', ⟨by have := HK1.out; omega⟩, ⟨by exact Kd.R_mono (rT HO_14 BK304 (by decide)) (fun _ hk => trivial)⟩, ⟨by (with_reducible repeat (first | apply Kd.S_alloc | apply Kd.S_drewN | apply Kd.S_drew)); exact Kd.S_mono (Kd.S_far (p := ⟨gb304, 0, none⟩) (Kd.S_types HO329.out BK304.out (by decide)) (fun _ hk => hk.2) (.slice Ao29 y327.length co29)) (fun _ hk => trivial)⟩, ⟨bF BK302 (nC NB302_304 nN)⟩, ⟨bW BK304⟩, ⟨by exact lT HB (gC GE302 (gC GE304 (gC GE319 gN)))⟩⟩
 }
 {rw [if_neg c18] at H;exact absurd H (by simp)}
 }
 {
 replace c16 := Bool.eq_false_iff.mpr c16
 subst c16
 rw [if_neg (show ¬ (false = true) by decide)] at H
 have H' := Aside0.mk H
 clear H
 refine ⟨?_⟩
 go_wp2_with ((with_reducible refine gate_dst (N := 6) rfl ?_); refine bx 6 #[.int .i64 0, .int .i64 0, .int .i64 0, .int .i64 0, .int .i64 0, .int .i64 0, .string (⟨#[]⟩ : ByteArray), .string (⟨#[]⟩ : ByteArray), .string (⟨#[]⟩ : ByteArray)] 32 ?_; intro gb319 hg w32 hbox hb; replace HO_14 := rB HO_14 hb; replace HO_305000 := ak (Kd.S_below (by (with_reducible repeat (first | apply Kd.S_alloc | apply Kd.S_drewN | apply Kd.S_drew)); exact HO_305000.out) hb); replace BK319 := ak (hbox); replace GW319 := ak (bz hg (lT HB (gC GE302 (gC GE304 gN)))); replace GE319 := ak (bz hg (lT HB (gC GE302 (gC GE304 gN)))); replace HB := ak (below_step (lT HB (gC GE302 (gC GE304 gN))) hb); replace NB302_319 := ak (nl hg (bG BK302)); replace NB319_302 := ak (ng hg (bG BK302)); replace BK302 := bB BK302 hb; replace NB304_319 := ak (nl hg (bG BK304)); replace NB319_304 := ak (ng hg (bG BK304)); replace BK304 := bB BK304 hb; clear hb hbox hg; have hnb33 := NB319_302.out; have hnc33 := NB302_319.out; have hnb34 := NB319_304.out; have hnc34 := NB304_319.out; obtain ⟨_, _, _, _, _, _, _, _, _, _, _, _, _, _, _, _, _, _⟩ := bC9 BK319)
 go_roundg k1
 case measure => have := HK1.out; omega
 case rel => exact ⟨_, _, (u305000), rr, H', ⟨by have := HK1.out; omega⟩, ⟨by exact Kd.R_mono (rT HO_14 BK319 (by decide)) (fun _ hk => trivial)⟩, ⟨by (with_reducible repeat (first | apply Kd.S_alloc | apply Kd.S_drewN | apply Kd.S_drew)); exact Kd.S_mono (Kd.S_far (p := ⟨gb319, 8, none⟩) (Kd.S_far (p := ⟨gb319, 7, none⟩) (Kd.S_far (p := ⟨gb319, 6, none⟩) (Kd.S_far (p := ⟨gb319, 5, none⟩) (Kd.S_far (p := ⟨gb319, 4, none⟩) (Kd.S_far (p := ⟨gb319, 3, none⟩) (Kd.S_far (p := ⟨gb319, 2, none⟩) (Kd.S_far (p := ⟨gb319, 1, none⟩) (Kd.S_far (p := ⟨gb319, 0, none⟩) (Kd.S_types HO_305000.out BK319.out (by decide)) (fun _ hk => hk.2) (.int .i64 t309)) (fun _ hk => hk.2) (.int .i64 t310)) (fun _ hk => hk.2) (.int .i64 t311)) (fun _ hk => hk.2) (.int .i64 t312)) (fun _ hk => hk.2) (.int .i64 t313)) (fun _ hk => hk.2) (.int .i64 t314)) (fun _ hk => hk.2) (.string t315)) (fun _ hk => hk.2) (.string t316)) (fun _ hk => hk.2) (.string t317)) (fun _ hk => trivial)⟩, ⟨bF BK302 (nC NB302_319 nN)⟩, ⟨bF BK304 (nC NB304_319 nN)⟩, ⟨by exact lT HB (gC GE302 (gC GE304 (gC GE319 gN)))⟩⟩
 }
 }
 {rw [if_neg c14] at H;exact absurd H (by simp)}
 }
 {rw [if_neg c13] at H;exact absurd H (by simp)}
 }
 {
 rw [if_neg c12] at H
 have c12b0 := decide_eq_false c12
 clear c12
 obtain rfl := Option.some.inj H
 have hnb36 := NB304_302.out
 have hnc36 := NB302_304.out
 obtain ⟨_, _⟩ := bC1 BK304
 obtain ⟨Ao38, co38, eo38⟩ := Kd.S_slice HO_305000.out
 subst eo38
 obtain ⟨_, _⟩ := bC1 BK302
 go_wp2
 refine bodyPost_ret (results_cell_row rfl _ _ gb302 60 #[.slice Ao38 x305000_1.length co38] (0, 0) _ rfl (bW BK302) Try.underlying60 rfl (by kernel_rfl)) rfl ?_
 exact ⟨_, ew, by (with_reducible repeat (first | apply Kd.S_alloc | apply Kd.S_drewN | apply Kd.S_drew)); exact Kd.S_mono (Kd.S_far (p := ⟨gb302, 0, none⟩) (Kd.S_types HO_305000.out BK302.out (by decide)) (fun _ hk => hk.2) (.slice Ao38 x305000_1.length co38)) (fun _ hk => trivial), by exact lT HB (gC GE302 (gC GE304 gN))⟩
 }
 }
 }
 }
 {
 replace c3 := Bool.eq_false_iff.mpr c3
 subst c3
 rw [if_neg (show ¬ (false = true) by decide)] at H
 obtain rfl := Option.some.inj H
 go_enter Try.func35, Try.ntmps35
 go_wp2_with (first | ((with_reducible refine gate_dst (N := 2) rfl ?_); refine bx 2 #[.slice none 0 0] 60 ?_; intro gb302 hg w40 hbox hb; replace BK302 := ak (hbox); replace GE302 := ak (bz hg (lG HB)); replace HB := lB HB hb; clear hb hbox hg) | ((with_reducible refine gate_callee (f := 21) rfl ?_); refine gl (some 9) Try.func21 #[.slice A0 l0.length c0] ?_; (with_reducible refine (impl_ItemsOk.calls k _ _ l0 _ _ ?side1 ?side2 A2.out).mono ?_); (case side1 => exact cG (Kd.C_below HR0.out HB.out)); (case side2 => exact HC0.out); rintro e w41 ⟨rfl, hb⟩; refine ⟨_, rfl, ?_⟩; replace BK302 := bB BK302 hb; replace HB := ak (below_step (lT HB (gC GE302 gN)) hb); (try clear hb); (try clear hk); obtain ⟨_, _⟩ := bC1 BK302))
 refine bodyPost_ret (results_cell_row rfl _ _ gb302 60 #[.slice none 0 0] (0, 0) _ rfl (bW BK302) Try.underlying60 rfl (by kernel_rfl)) rfl ?_
 exact ⟨_, ew, by first | exact Kd.S_nil _ _ _ _ _ | exact Kd.N_nil _ _ _ _ _ | exact Kd.V_nil _ _ _ _ _ | exact Kd.Q_nil _ _ _ _ _ | exact Kd.R_nil _ _ _ _ _, by exact lT HB (gC GE302 gN)⟩
 }
/-! ### spec_l01In: function 61 -/
def spec_l01In.f (a0 : Int) (a1 : Int) (a2 : Int) : Option (Bool) := if a0 ≥ a1 then (some (decide (a0 ≤ a2))) else (some false)
theorem spec_l01In.calls (a0 : Int) (a1 : Int) (a2 : Int) (r : Bool) (w : World) (h : spec_l01In.f a0 a1 a2 = some r) :
  Calls Try.prog 61 #[.int .i64 a0, .int .i64 a1, .int .i64 a2] w fun e w' => e = .returned (.bool r) ∧ Drawn0 w w' := by
 have H := h
 clear h
 unfold spec_l01In.f at H
 by_cases c4 : a0 ≥ a1
 {
 rw [if_pos c4] at H
 have c4b0 : decide (a1 ≤ a0) = true := decide_eq_true c4
 clear c4
 obtain rfl := Option.some.inj H
 go_enter Try.func61, Try.ntmps61
 go_wp2
 go_ret
 exact ⟨by first | rfl | (simp; done) | (simp [*]; done), by repeat (first | exact Drawn0.refl _ | apply Drawn0.step)⟩
 }
 {
 rw [if_neg c4] at H
 have c4b0 : decide (a1 ≤ a0) = false := decide_eq_false c4
 clear c4
 obtain rfl := Option.some.inj H
 go_enter Try.func61, Try.ntmps61
 go_wp2
 go_ret
 exact ⟨by first | rfl | (simp; done) | (simp [*]; done), by repeat (first | exact Drawn0.refl _ | apply Drawn0.step)⟩
 }
/-! ### spec_WordOk: function 32 -/
def spec_WordOk.l0 : Nat → ByteArray → Int → Option (Bool)
 | 0, _, _ => none
 | k + 1, a, b => if b < (a.size : Int) then (if 0 ≤ b then (if (bt a b) < 97 then (some false) else (if (bt a b) > 122 then (some false) else (spec_WordOk.l0 k a (wrap64 (b + 1))))) else (none)) else ((spec_l01In.f (a.size : Int) 1 8).bind fun t330 => (some t330))
def spec_WordOk.f (k : Nat) (a0 : ByteArray) : Option (Bool) := spec_WordOk.l0 k a0 0
theorem spec_WordOk.mono_l : ∀ k, (∀ y0 y1, LeO (spec_WordOk.l0 k y0 y1) (spec_WordOk.l0 (k + 1) y0 y1))
 | 0 => fun _ _ r h => by simp [spec_WordOk.l0] at h
 | k + 1 => by
  have ih0 := spec_WordOk.mono_l k
  ·intro y0 y1
   unfold spec_WordOk.l0
   repeat' with_reducible first | exact ih0 _ _ | exact LeO.refl _ | exact LeO.none _ | refine LeO.ite ?_ ?_ | refine LeO.bind ?_ (fun _ => ?_)
theorem spec_WordOk.mono : ∀ a0 k, LeO (spec_WordOk.f k a0) (spec_WordOk.f (k + 1) a0) := by
 intro a0 k
 have ih0 := spec_WordOk.mono_l k
 unfold spec_WordOk.f
 repeat' with_reducible first | exact ih0 _ _ | exact LeO.refl _ | exact LeO.none _ | refine LeO.ite ?_ ?_ | refine LeO.bind ?_ (fun _ => ?_)
theorem spec_WordOk.calls (k : Nat) (a0 : ByteArray) (r : Bool) (w : World) (h : spec_WordOk.f k a0 = some r) :
  Calls Try.prog 32 #[.string a0] w fun e w' => e = .returned (.bool r) ∧ Drawn0 w w' := by
 have H := h
 clear h
 unfold spec_WordOk.f at H
 have H' := Aside0.mk H
 clear H
 go_enter Try.func32, Try.ntmps32
 go_wp2
 go_loopg [3] k (fun kq v3 w' => ∃ (x3_1 : Int), v3 = .int .i64 x3_1 ∧ Aside0 (spec_WordOk.l0 kq a0 x3_1 = some r) ∧ Aside0 (kq ≤ k) ∧ Drawn0 w w')
 case atStart => exact ⟨_, rr, H', ⟨Nat.le_refl _⟩, by repeat (first | exact Drawn0.refl _ | apply Drawn0.step)⟩
 case round =>
  skip;{
 clear H'
 obtain ⟨x3_1, rfl, HA, HK1, ⟨m1, rfl⟩⟩ := hrel
 cases gk with
 | zero => exact absurd HA.out (by simp [spec_WordOk.l0])
 | succ k1 =>
  skip;{
 have H := HA.out
 clear HA
 simp only [spec_WordOk.l0] at H
 by_cases c2 : x3_1 < (a0.size : Int)
 {
 rw [if_pos c2] at H
 have c2b0 := decide_eq_true c2
 clear c2
 by_cases c3 : 0 ≤ x3_1
 {
 rw [if_pos c3] at H
 have c3b0 := decide_eq_true c3
 clear c3
 by_cases c5 : (bt a0 x3_1) < 97
 {
 rw [if_pos c5] at H
 have c5b0 := decide_eq_true c5
 clear c5
 obtain rfl := Option.some.inj H
 have p4 : 0 ≤ (x3_1 : Int) := oda
 have q4 : x3_1 < (a0.size : Int) := oda
 have hx4 := bt_at a0 x3_1
 replace p4 := eq_true p4
 replace q4 := eq_true q4
 go_wp2
 go_ret
 exact ⟨by first | rfl | (simp; done) | (simp [*]; done), by repeat (first | exact Drawn0.refl _ | apply Drawn0.step)⟩
 }
 {
 rw [if_neg c5] at H
 have c5b0 := decide_eq_false c5
 clear c5
 by_cases c7 : (bt a0 x3_1) > 122
 {
 rw [if_pos c7] at H
 have c7b0 : decide (122 < (bt a0 x3_1)) = true := decide_eq_true c7
 clear c7
 obtain rfl := Option.some.inj H
 have p4 : 0 ≤ (x3_1 : Int) := oda
 have q4 : x3_1 < (a0.size : Int) := oda
 have hx4 := bt_at a0 x3_1
 replace p4 := eq_true p4
 replace q4 := eq_true q4
 have p6 : 0 ≤ (x3_1 : Int) := oda
 have q6 : x3_1 < (a0.size : Int) := oda
 have hx6 := bt_at a0 x3_1
 replace p6 := eq_true p6
 replace q6 := eq_true q6
 go_wp2
 go_ret
 exact ⟨by first | rfl | (simp; done) | (simp [*]; done), by repeat (first | exact Drawn0.refl _ | apply Drawn0.step)⟩
 }
 {
 rw [if_neg c7] at H
 have c7b0 : decide (122 < (bt a0 x3_1)) = false := decide_eq_false c7
 clear c7
 have H' := Aside0.mk H
 clear H
 have p4 : 0 ≤ (x3_1 : Int) := oda
 have q4 : x3_1 < (a0.size : Int) := oda
 have hx4 := bt_at a0 x3_1
 replace p4 := eq_true p4
 replace q4 := eq_true q4
 have p6 : 0 ≤ (x3_1 : Int) := oda
 have q6 : x3_1 < (a0.size : Int) := oda
 have hx6 := bt_at a0 x3_1
 replace p6 := eq_true p6
 replace q6 := eq_true q6
 go_wp2
 go_roundg k1
 case measure => have := HK1.out; omega
 case rel => exact ⟨_, rr, H', ⟨by have := HK1.out; omega⟩, by repeat (first | exact Drawn0.refl _ | apply Drawn0.step)⟩
 }
 }
 }
 {rw [if_neg c3] at H;exact absurd H (by simp)}
 }
 {
 rw [if_neg c2] at H
 have c2b0 := decide_eq_false c2
 clear c2
 obtain ⟨t330, A8, H⟩ := eb H
 try dsimp only at H
 obtain rfl := Option.some.inj H
 go_wp2_with ((with_reducible refine gate_callee (f := 61) rfl ?_); refine gl (some 22) Try.func61 #[.int .i64 (a0.size : Int), .int .i64 1, .int .i64 8] ?_; (with_reducible refine (spec_l01In.calls (a0.size : Int) 1 8 t330 _ A8.out).mono ?_); rintro e w' ⟨rfl, ⟨nd, rfl⟩⟩; refine ⟨_, rfl, ?_⟩)
 go_ret
 exact ⟨by first | rfl | (simp; done) | (simp [*]; done), by repeat (first | exact Drawn0.refl _ | apply Drawn0.step)⟩
 }
 }
 }
end Go.Proofs.Ytagkjeldheiejaa.PFnStates
